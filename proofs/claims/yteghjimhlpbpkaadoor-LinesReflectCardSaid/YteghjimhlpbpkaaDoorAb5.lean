/- An abstract reading of the program: what its operations do to what is known of memory. Part 5 of 5. -/
import Derived.Test.YteghjimhlpbpkaaDoorAb4
import Derived.Laws.StandIn
import Derived.Lib.Bytealg
import Derived.Below
import Derived.ChangeSame
import Derived.Carry
import Derived.WideKeyArgs
import Derived.Lib.LaidTab

/-
  Calls and rounds run by the function: sound.
-/
set_option linter.unusedVariables false
set_option linter.unusedSimpArgs false
namespace Go.Ab
open Go

section
variable {P : Program} {G : GL} {md : Md} {F : Nat → Prop} {ρ : Nat → Option Nat} {H : Nat → Option HO} {a : Act} {w w' : World} {ops : Array Oper} {tb : TB}

/-- The functions that are known. -/
def XpOk (P : Program) (xp : Nat → Option FnE) : Prop := ∀ f fe, xp f = some fe → ∃ fn c, P.funcs[f]? = some fn ∧ (fn.name == "runtime.NumGoroutine") = false ∧ fn.body = some c ∧ cmOf P c fe.xc ∧ resT P fn.results.toList = some fe.rts ∧ fn.ntmps = fe.n
/-- The functions that the model answers itself. -/
def NatOk (P : Program) (nat : Nat → List AV → Option AV) : Prop := ∀ f args v, nat f args = some v → ∀ F ρ H w (xs : Array Value), RelVs w F ρ H args xs.toList → ∃ y, (callFunc f xs).run P w = .ok (.value y) w ∧ RelV w F ρ H v y

theorem setPs_rel : ∀ {ps : List Nat} {qs : List Nat} {vs : List AV} {t : List (Nat × AV)} {tmps : Array Value} {xs : List Value}, RelVs w F ρ H vs xs → (∀ i v, aget t i = some v → RelV w F ρ H v (tmps.getD i undef)) → allLtP tmps.size ps = true →
    ∀ i v, aget (setPs t ps vs) i = some v → RelV w F ρ H v (((ps.zip xs).foldl (fun (tmps : Array Value) (p : Nat × Value) => tmps.setIfInBounds p.1 p.2) tmps).getD i undef)
  | [], qs, vs, t, tmps, xs, hv, ht, hl, i, v, h => by
    simp only [setPs] at h
    simpa using ht i v h
  | p :: ps, qs, [], t, tmps, xs, hv, ht, hl, i, v, h => by
    cases hv
    simp only [setPs] at h
    simpa using ht i v h
  | p :: ps, qs, u :: vs, t, tmps, xs, hv, ht, hl, i, v, h => by
    cases hv with
    | cons _ _ x xs hx hxs =>
      simp only [setPs] at h
      simp only [allLtP, cond_eq_ite] at hl
      split at hl
      · rename_i hlt
        simp only [List.zip_cons_cons, List.foldl_cons]
        refine setPs_rel (qs := qs) hxs (fun j y hy => ?_) (by simpa using hl) i v h
        rw [aget_aset] at hy
        have hlt' : p < tmps.size := Nat.le_of_ble_eq_true hlt
        by_cases e : j = p
        · subst e
          rw [upd_same] at hy; cases hy
          rw [Array.getD_eq_getD_getElem?, Array.getElem?_setIfInBounds_self, if_pos hlt']
          exact hx
        · rw [upd_other _ _ e] at hy
          have := ht j y hy
          rw [Array.getD_eq_getD_getElem?] at this ⊢
          rw [Array.getElem?_setIfInBounds_ne (Ne.symm e)]
          exact this
      · cases hl

theorem setPs_size {ps : List Nat} : ∀ {xs : List Value} {tmps : Array Value}, ((ps.zip xs).foldl (fun (tmps : Array Value) (p : Nat × Value) => tmps.setIfInBounds p.1 p.2) tmps).size = tmps.size := by
  intro xs tmps
  generalize ps.zip xs = l
  induction l generalizing tmps with
  | nil => rfl
  | cons p l ih => rw [List.foldl_cons, ih]; simp

theorem round_fold {ps : Array Nat} {xs : Array Value} {tmps : Array Value} : ((ps.zip xs).foldl (fun tmps (t, a) => tmps.setIfInBounds t a) tmps) = (ps.toList.zip xs.toList).foldl (fun (tmps : Array Value) (p : Nat × Value) => tmps.setIfInBounds p.1 p.2) tmps := by
  rw [← Array.foldl_toList, Array.toList_zip]

theorem yld_sound (hcm : G.cm = cmOf P) {id : Nat} {l : LoopS} {h : List (Nat × HO)} (hl : aget h id = some (.loop l)) (hst : Nat.beq l.st 0 = true) {args : List AV} (hlen : Nat.beq args.length l.ps.length = true) (hps : allLtP l.n l.ps = true)
    {S1 S2 : St} (h1 : WpX P G ⟨some id, keys h⟩ l.as ⟨setPs l.t l.ps args, h, l.n⟩ (fun e S' => e = .normal ∧ S' = S1)) {l1 : LoopS} (hl1 : aget S1.h id = some (.loop l1)) (hst1 : Nat.beq l1.st 0 = true)
    {e : Ex} (h2 : WpX P G ⟨some id, keys h⟩ l.bd { S1 with h := aset S1.h id (.loop { l1 with st := 1 }) } (fun e' S' => e' = e ∧ S' = S2)) {l2 : LoopS} (hl2 : aget S2.h id = some (.loop l2))
    {D : Delta} (hfin : ∀ F ρ w F' ρ' w2, MRel G F ρ (aget h) w → MRel G F' ρ' (aget (aset S2.h id (.loop { l2 with st := cond e.isN 0 2, pend := cond e.isN none (some e) }))) w2 → Ext F ρ w F' ρ' w2 →
      HKp (keys h) w ρ (aget h) w2 ρ' (aget (aset S2.h id (.loop { l2 with st := cond e.isN 0 2, pend := cond e.isN none (some e) }))) → KD G F ρ (aget h) w D (.bool e.isN) w2) : SpecD P G (.yld id) args h D.v D.ws D.al := by
  intro F ρ w xs hm hv b hb
  obtain ⟨b', z1, z2, r, z3, z4⟩ := hm.heap id _ hl
  rw [hb] at z1; cases z1
  have hargs : xs.size = r.params.size := by
    have e1 := hv.len
    have e2 := Nat.eq_of_beq_eq_true hlen
    have e3 : r.params.toList.length = l.ps.length := by rw [z4.ps]
    simp at e1 e3
    omega
  refine .inr (.inr ⟨b, r.fn, _, r.assign, r.body, w, run_yield z3 hargs, fun c cs => ?_⟩)
  rw [round_fold, z4.ps]
  let tm : Array Value := (l.ps.zip xs.toList).foldl (fun (tmps : Array Value) (p : Nat × Value) => tmps.setIfInBounds p.1 p.2) r.tmps
  have htm : ∀ i v, aget (setPs l.t l.ps args) i = some v → RelV w F ρ (aget h) v (tm.getD i undef) := setPs_rel (qs := []) hv z4.tmps (by rw [z4.size]; exact hps)
  let b0 : Frame := { (default : Frame) with fn := r.fn, kind := .normal, roundOf := some b }
  have hb0 : Frame.round b r.fn tm r.assign r.body .normal = b0.atR { tmps := tm, defers := [] } [.code r.assign, .beginRound, .code r.body] := by simp [Frame.round, Frame.atR, b0]
  have hr0 : RS G F ρ ⟨setPs l.t l.ps args, h, l.n⟩ { tmps := tm, defers := [] } w := ⟨by show tm.size = l.n; rw [← z4.size]; exact setPs_size, htm, hm, ⟨[], by simp, rfl, fun r hr => by simp at hr⟩⟩
  have hro0 : RoOk ⟨some id, keys h⟩ ρ (aget h) (some b) := ⟨b, _, rfl, hb, hl, rfl⟩
  obtain ⟨e1, a1, w1, ⟨S', ⟨rfl, rfl⟩, F1, ρ1, r1, x1, k1, _⟩, harr⟩ := h1 r.assign z4.as F ρ _ w (some b) hr0 hro0 b0 [.beginRound, .code r.body] (c :: cs) rfl
  have hks : (⟨some id, keys h⟩ : Md).ks = id :: keys h := rfl
  rw [hks] at k1
  have hid1 : ρ1 id = some b := by
    obtain ⟨o', g1, g2, g3⟩ := k1.box id _ (by simp) hl rfl
    exact g3.trans hb
  -- the record is busy
  obtain ⟨b1, y1, y2, rr, y3, y4⟩ := r1.mem.heap id _ hl1
  rw [hid1] at y1; cases y1
  have hbr := run_beginRound (P := P) y3 (by rw [y4.st]; exact stOf_ready hst1)
  have hlt1 := lt_of_some y3
  obtain ⟨m2, x2, k2⟩ := r1.mem.write (w' := w1.putObj b (.loop { rr with state := .busy })) (o' := .loop { l1 with st := 1 }) hl1 hid1 y2 (World.putObj_heap_same hlt1) (fun j hj => World.putObj_heap_other hj) World.putObj_size ⟨rfl, rfl⟩
    (fun cs ty fz h => by rw [y3] at h; cases h) rfl (fun k h => by cases h)
    (fun hk => ⟨b, hid1, y2, _, World.putObj_heap_same hlt1, ⟨rfl, y4.pend, y4.size, fun t v h => (y4.tmps t v h).mono (fun b' hb' => World.putObj_heap_other (fun (e : b' = b) => y2 (by rw [← e]; exact hb'))) (fun _ h => h) hk, y4.ps, y4.as, y4.bd⟩⟩)
  rw [← aget_aset] at m2 k2
  have r2 : RS G F1 ρ1 { S' with h := aset S'.h id (.loop { l1 with st := 1 }) } a1 (w1.putObj b (.loop { rr with state := .busy })) := ⟨r1.size, fun t v h => (r1.tmps t v h).mono x2.frz x2.keep k2, m2, r1.defs.ext x2 rfl⟩
  have hro2 : RoOk ⟨some id, keys h⟩ ρ1 (aget (aset S'.h id (.loop { l1 with st := 1 }))) (some b) := ⟨b, .loop { l1 with st := 1 }, rfl, hid1, by rw [aget_aset, upd_same], rfl⟩
  have s1 : Steps P (lone (b0.atR a1 [.beginRound, .code r.body]) (c :: cs) w1) (lone (b0.atR a1 [.code r.body]) (c :: cs) (w1.putObj b (.loop { rr with state := .busy }))) := .one (stepR_beginRound rfl hbr)
  obtain ⟨e2, a2, w3, ⟨S'', ⟨rfl, rfl⟩, F3, ρ3, r3, x3, k3, _⟩, harr2⟩ := h2 r.body z4.bd F1 ρ1 _ _ (some b) r2 hro2 b0 [] (c :: cs) rfl
  rw [hks] at k3
  have hid3 : ρ3 id = some b := by
    obtain ⟨o', g1, g2, g3⟩ := k3.box id (.loop { l1 with st := 1 }) (by simp) (by simp only; rw [aget_aset, upd_same]) rfl
    exact g3.trans hid1
  obtain ⟨b3, u1, u2, rq, u3, u4⟩ := r3.mem.heap id _ hl2
  rw [hid3] at u1; cases u1
  have hlt3 := lt_of_some u3
  -- how the round is left
  let jump : Option Code := cond e2.isN none (some e2.code)
  have hend := run_endRound (P := P) jump u3
  have hjn : jump.isNone = e2.isN := by cases e2 <;> rfl
  rw [hjn] at hend
  obtain ⟨m4, x4, k4⟩ := r3.mem.write (w' := w3.putObj b (.loop { rq with state := if e2.isN then .ready else .done, pending := jump })) (o' := .loop { l2 with st := cond e2.isN 0 2, pend := cond e2.isN none (some e2) }) hl2 hid3 u2 (World.putObj_heap_same hlt3) (fun j hj => World.putObj_heap_other hj) World.putObj_size ⟨rfl, rfl⟩
    (fun cs ty fz h => by rw [u3] at h; cases h) rfl (fun k h => by cases h)
    (fun hk => ⟨b, hid3, u2, _, World.putObj_heap_same hlt3, ⟨by cases e2 <;> rfl, by cases e2 <;> rfl, u4.size, fun t v h => (u4.tmps t v h).mono (fun b' hb' => World.putObj_heap_other (fun (e : b' = b) => u2 (by rw [← e]; exact hb'))) (fun _ h => h) hk, u4.ps, u4.as, u4.bd⟩⟩)
  rw [← aget_aset] at m4 k4
  have hkp : HKp (keys h) w ρ (aget h) (w3.putObj b (.loop { rq with state := if e2.isN then .ready else .done, pending := jump })) ρ3 (aget (aset S''.h id (.loop { l2 with st := cond e2.isN 0 2, pend := cond e2.isN none (some e2) }))) := by
    have sub : ∀ {w w' : World} {ρ ρ' : Nat → Option Nat} {h1 h2 : Nat → Option HO}, HKp (id :: keys h) w ρ h1 w' ρ' h2 → HKp (keys h) w ρ h1 w' ρ' h2 := fun k => ⟨fun i o hi => k.box i o (by simp [hi]), fun i o hi => k.blk i o (by simp [hi]), k.sz⟩
    exact (((sub k1).trans k2.kp).trans (sub k3)).trans k4.kp
  have hK := hfin F ρ w F3 ρ3 _ hm m4 (((x1.trans x2).trans x3).trans x4) hkp
  refine ⟨.bool e2.isN, _, hK, ?_⟩
  have hfirst : Steps P (lone (Frame.round b r.fn tm r.assign r.body .normal) (c :: cs) w) (lone (b0.atR a1 [.code r.body]) (c :: cs) (w1.putObj b (.loop { rr with state := .busy }))) := by
    rw [hb0]; exact Steps.trans harr s1
  cases e2 with
  | normal => exact hfirst.trans (Steps.trans harr2 (.one (stepR_round_end rfl rfl hend)))
  | ret =>
    obtain ⟨todo, hs⟩ := harr2
    exact hfirst.trans (hs.trans (.one (stepR_round_ret rfl rfl hend)))
  | exit i =>
    obtain ⟨k0, hk0, hs⟩ := harr2
    exact hfirst.trans (hs.trans (.one (stepR_round_exit rfl rfl (by rw [hk0]; rfl) hend)))

theorem finE_cs {h0 : List Nat} {c0 : Nat} {s : EvS} {vals : List AV} {D : Delta} (hD : finE h0 c0 s vals = some D) : D.cs = [] := by
  unfold finE at hD
  simp only [cond_eq_ite] at hD
  split at hD
  · cases hD; rfl
  · cases hD

theorem evCall_sound (hcm : G.cm = cmOf P) (hmx : P.follows .mixedOrders = true) {xp : Nat → Option FnE} (hxp : XpOk P xp) {nat : Nat → List AV → Option AV} (hnat : NatOk P nat) (fuel : Nat) : ∀ n, TBok P G (evCall G xp nat fuel n) := by
  intro n
  induction n with
  | zero => intro c h cv args D hD; simp [evCall] at hD
  | succ n ih =>
    intro c h cv args D hD
    simp only [evCall] at hD
    split at hD
    · rename_i f x1 x2
      split at hD
      · rename_i v hv
        cases hD
        refine ⟨rfl, fun F ρ w xs hm hvs => ?_⟩
        obtain ⟨y, h1, h2⟩ := hnat f args v hv F ρ (aget h) w xs hvs
        exact .inl ⟨_, y, w, h1, .inl rfl, F, ρ, hm, Ext.refl _ _ _, HKeep.refl _ _ _, h2⟩
      · split at hD
        · rename_i fe hfe
          obtain ⟨fn, cd, g1, g2, g3, g4, g5, g6⟩ := hxp f fe hfe
          rw [cond_eq_ite] at hD
          split at hD
          · rename_i hc
            split at hD
            · rename_i e s he
              obtain ⟨hw, hW⟩ := evC_sound hcm hmx ih _ _ _ _ _ he
              have hW' := hW ⟨none, keys h⟩ rfl
              simp only at hw hW'
              rw [← g6] at hW' hc
              have fin : (e = .ret ∨ e = .normal) → ∀ vals, resV s.S fe.rts = some vals → finE (keys h) c s vals = some D → D.cs = [] ∧ SpecD P G (.fn f x1 x2) args h D.v D.ws D.al := by
                intro hex vals hvals hfin
                have hcs : D.cs = [] := finE_cs hfin
                refine ⟨hcs, fun F ρ w xs hm hv => ?_⟩
                refine body_core hcm (md := ⟨none, keys h⟩) (h := h) (R := fun S' => S' = s.S) rfl g1 g2 g3 g4 g5 hc (hW'.mono ?_) (fun S' e => ⟨vals, by rw [e]; exact hvals⟩) hm hv ?_
                · rintro e' S' ⟨rfl, rfl⟩; exact ⟨hex, rfl⟩
                · rintro S' vals' xs w2 F' ρ' rfl hv' q1 q2 q3 q4
                  rw [hvals] at hv'; cases hv'
                  exact (finE_ok (D := D) hfin hw q1 q2 q3 q4).2
              split at hD
              · cases hD
              · rename_i hne
                have hex : e = .ret ∨ e = .normal := by
                  cases e with
                  | normal => exact .inr rfl
                  | ret => exact .inl rfl
                  | exit i => exact absurd rfl (hne i)
                split at hD
                · rename_i vals hvals
                  exact fin hex vals hvals hD
                · cases hD
            · cases hD
          · cases hD
        · cases hD
    · rename_i id
      split at hD
      · rename_i l hl
        rw [cond_eq_ite] at hD
        split at hD
        · rename_i hc
          simp only [Bool.and_eq_true] at hc
          split at hD
          · rename_i e1 s1 he1
            split at hD
            · split at hD
              · rename_i l1 hl1
                rw [cond_eq_ite] at hD
                split at hD
                · rename_i hst1
                  split at hD
                  · rename_i e s2 he2
                    split at hD
                    · rename_i l2 hl2
                      obtain ⟨hw1, hW1⟩ := evC_sound hcm hmx ih _ _ _ _ _ he1
                      obtain ⟨hw2, hW2⟩ := evC_sound hcm hmx ih _ _ _ _ _ he2
                      have hcs : D.cs = [] := finE_cs hD
                      refine ⟨hcs, yld_sound hcm hl hc.1 hc.2.1 hc.2.2 (hW1 ⟨some id, keys h⟩ rfl) hl1 hst1 (hW2 ⟨some id, keys h⟩ rfl) hl2 ?_⟩
                      intro F ρ w F' ρ' w2 hm q1 q3 q4
                      refine (finE_ok (D := D) hD ?_ q1 (xs := [.bool e.isN]) (.cons _ _ _ _ (.imm _ _ (.bool _)) .nil) q3 q4).2
                      have hmid : WrOk c s1.wr (addW c s1.wr [(id, .loop l1)]) (aget s1.S.h) (aget (aset s1.S.h id (.loop { l1 with st := 1 }))) := fun i hi hlt => by
                        obtain ⟨k1, k2⟩ := addW_ok hi hlt
                        simp only [keys, List.mem_cons, List.not_mem_nil, or_false] at k2
                        exact ⟨k1, by rw [aget_aset, upd_other _ _ k2]⟩
                      have hall := (hw1.trans hmid).trans hw2
                      intro i hi hlt
                      obtain ⟨k1, k2⟩ := hall i hi hlt
                      have hne : i ≠ id := fun e => by
                        obtain ⟨k3, _⟩ := hw2 i hi hlt
                        obtain ⟨_, k5⟩ := addW_ok k3 hlt
                        exact k5 (by simp [keys, e])
                      refine ⟨k1, ?_⟩
                      simp only
                      rw [aget_aset, upd_other _ _ hne]; exact k2
                    · cases hD
                  · cases hD
                · cases hD
              · cases hD
            · cases hD
          · cases hD
        · cases hD
      · cases hD
    · cases hD

/-- A function's contract, by running it. -/
theorem specP_of_ev (hcm : G.cm = cmOf P) (hmx : P.follows .mixedOrders = true) {xp : Nat → Option FnE} (hxp : XpOk P xp) {nat : Nat → List AV → Option AV} (hnat : NatOk P nat) {fuel n c f : Nat} {args : List AV} {D : Delta}
    (h : evCall G xp nat fuel n c [] (.fn f [] []) args = some D) {blks : List Blk} (hb : D.ws = hsL blks 0) : SpecP P G f args D.v blks := by
  intro F w vs hm hv
  obtain ⟨_, hs⟩ := evCall_sound hcm hmx hxp hnat fuel n c [] _ _ _ h
  refine NextOk.mono (hs F noR w vs (hm : MRel G F noR (aget []) w) hv.toVs) ?_
  rintro y w' ⟨F', ρ', q1, q2, _, q4⟩
  have e : updL (aget ([] : List (Nat × HO))) D.ws = hsH blks := by
    rw [hb]
    funext i
    have : updL (aget ([] : List (Nat × HO))) (hsL blks 0) i = aget (hsL blks 0) i := by
      by_cases hi : i ∈ keys (hsL blks 0)
      · refine updL_from (look := aget (hsL blks 0)) ?_ hi
        have key : ∀ (l : List Blk) (j : Nat) (p : Nat × HO), p ∈ hsL l j → aget (hsL l j) p.1 = some p.2 ∧ j ≤ p.1 := by
          intro l
          induction l with
          | nil => intro j p hp; simp [hsL] at hp
          | cons b l ih =>
            intro j p hp
            simp only [hsL] at hp ⊢
            simp only [aget]
            rcases List.mem_cons.1 hp with rfl | hp
            · exact ⟨by rw [beq_self, cond_true], Nat.le_refl _⟩
            · obtain ⟨k1, k2⟩ := ih (j + 1) p hp
              exact ⟨by rw [beq_ne (by omega), cond_false]; exact k1, by omega⟩
        exact fun p hp => (key blks 0 p hp).1
      · rw [updL_nokey hi]
        cases e : aget (hsL blks 0) i with
        | none => rfl
        | some o => exact absurd (key_aget.2 ⟨o, e⟩) hi
    rw [this, hsL_eq]
  simp only at q1 q4
  rw [e] at q1 q4
  exact ⟨F', ρ', q1, q2, q4⟩

end
end Go.Ab

/-
  Functions that are known: what a program's functions compile to.
-/
set_option linter.unusedVariables false
set_option linter.unusedSimpArgs false
namespace Go.Ab
open Go

/-- What a function compiles to. -/
def chkF (P : Program) (hs : Hints) (fn : Func) : Option FnE :=
  match fn.body with
  | some c => match compC P hs c, resT P fn.results.toList with
    | some xc, some rts => cond (fn.name == "runtime.NumGoroutine") none (some ⟨fn.ntmps, rts, xc⟩)
    | _, _ => none
  | none => none
def FnOk (P : Program) (f : Nat) (fe : FnE) : Prop := ∃ fn c, P.funcs[f]? = some fn ∧ (fn.name == "runtime.NumGoroutine") = false ∧ fn.body = some c ∧ cmOf P c fe.xc ∧ resT P fn.results.toList = some fe.rts ∧ fn.ntmps = fe.n
theorem fnOk_of {P : Program} {f : Nat} {fn : Func} {hs : Hints} {fe : FnE} (h1 : P.funcs[f]? = some fn) (h2 : chkF P hs fn = some fe) : FnOk P f fe := by
  unfold chkF at h2
  split at h2
  · rename_i c hc
    split at h2
    · rename_i xc rts hx hr
      rw [cond_eq_ite] at h2
      split at h2
      · cases h2
      · rename_i hn
        cases h2
        exact ⟨fn, c, h1, by simpa using hn, hc, ⟨hs, hx⟩, hr, rfl⟩
    · cases h2
  · cases h2
def AllF (P : Program) : List (Nat × FnE) → Prop
  | [] => True
  | (f, fe) :: r => FnOk P f fe ∧ AllF P r
theorem xpOk_of {P : Program} : ∀ {l : List (Nat × FnE)}, AllF P l → XpOk P (aget l)
  | [], h, f, fe, hf => by cases hf
  | (g, fe) :: r, h, f, fe', hf => by
    simp only [aget] at hf
    by_cases e : g = f
    · subst e; rw [beq_self, cond_true] at hf; cases hf; exact h.1
    · rw [beq_ne e, cond_false] at hf; exact xpOk_of h.2 f fe' hf

end Go.Ab

/-
  What is to be shown of a function: one proposition.
-/
set_option linter.unusedVariables false
set_option linter.unusedSimpArgs false
namespace Go.Ab
open Go

/-- What a tree asks, its leaves by `f`. -/
def obP (f : Ex → St → Option Prop) : Tree → Option Prop
  | .leaf e S _ => f e S
  | .ob p t => match obP f t with
    | some q => some (p ∧ q)
    | none => none
  | .br b t u => match obP f t, obP f u with
    | some p, some q => some ((b = true → p) ∧ (b = false → q))
    | _, _ => none
  | .lp _ _ _ _ => none
mutual
/-- Which block of a state is which of the results'. -/
def sgV : AV → AV → List (Nat × Nat)
  | .full i _, .full j _ => [(j, i)]
  | .ptr i _, .ptr j _ => [(j, i)]
  | .agg l, .agg l' => sgL l l'
  | .tup l, .tup l' => sgL l l'
  | .fn _ a b, .fn _ a' b' => sgL a a' ++ sgL b b'
  | .iface _ v, .iface _ v' => sgV v v'
  | _, _ => []
def sgL : List AV → List AV → List (Nat × Nat)
  | v :: r, v' :: r' => sgV v v' ++ sgL r r'
  | _, _ => []
end
/-- A guard that is left open. -/
def my (d : Dirs) (n : Nat) : Nat × (GDir × Dir) := (n, (.may, (dirOf d 0).2))
/-- A guard that is shown to hold. -/
def myl (d : Dirs) (n : Nat) : Nat × (GDir × Dir) := (n, (.onl, (dirOf d 0).2))
/-- A guard that is shown to hold, its value left; a pick that is shown. -/
def myo (d : Dirs) (n : Nat) : Nat × (GDir × Dir) := (n, (.on, (dirOf d 0).2))
def myp (g : GDir) (b : Bool) (n : Nat) : Nat × (GDir × Dir) := (n, (g, .pk b))
/-- For the printed obligations. -/
abbrev iL (l : List Int) : List Int := l
abbrev iI (n : Int) : Int := n
abbrev uL (l : List UInt8) : List UInt8 := l
/-- Each key once. -/
def dedK (seen : List Nat) : List (Nat × Nat) → List (Nat × Nat)
  | [] => []
  | (k, v) :: r => cond (memN k seen) (dedK seen r) ((k, v) :: dedK (k :: seen) r)
/-- A function's end: its results, the new blocks that they name. -/
def leafP (rts : List RT) (vals : List AV) (blks : List Blk) (e : Ex) (S : St) : Option Prop :=
  match e with
  | .exit _ => none
  | _ => match resV S rts with
    | some vs => match renS (dedK [] (sgL vs vals)) (resS S vs) (retS vals blks) with
      | some ps => some (PAll ps)
      | none => none
    | none => none
def fnOb (P : Program) (G : GL) (dd : Dirs) (n : Nat) (fe : FnE) (pl : Pl) (args vals : List AV) (blks : List Blk) : Option Prop :=
  match sx ⟨none, []⟩ (AllC (SpecQ P G)) G dd n fe.xc pl (entryS args fe.n) with
  | some T => obP (leafP fe.rts vals blks) T
  | none => none

theorem obP_all {P : Program} {G : GL} {md : Md} {f : Ex → St → Option Prop} : ∀ {T : Tree} {p : Prop}, obP f T = some p → p → T.all P G md (fun e S _ => ∃ q, f e S = some q ∧ q)
  | .leaf e S pl, p, h, hp => ⟨p, h, hp⟩
  | .ob q t, p, h, hp => by
    simp only [obP] at h
    split at h
    · rename_i r hr; cases h; exact ⟨hp.1, obP_all hr hp.2⟩
    · cases h
  | .br b t u, p, h, hp => by
    simp only [obP] at h
    split at h
    · rename_i r s hr hs; cases h; exact ⟨fun e => obP_all hr (hp.1 e), fun e => obP_all hs (hp.2 e)⟩
    · cases h
  | .lp _ _ _ _, p, h, hp => by cases h

theorem fn_spec {P : Program} {G : GL} {dd : Dirs} {n : Nat} {f : Nat} {fe : FnE} {pl : Pl} {args vals : List AV} {blks : List Blk} {p : Prop} (hcm : G.cm = cmOf P) (hmx : P.follows .mixedOrders = true) (hf : FnOk P f fe) (hle : Nat.ble args.length fe.n = true)
    (h : fnOb P G dd n fe pl args vals blks = some p) (hp : p) : SpecP P G f args (retV vals) blks := by
  obtain ⟨fn, c, g1, g2, g3, g4, g5, g6⟩ := hf
  unfold fnOb at h
  split at h
  · rename_i T hT
    have h1 := sx_sound hcm hmx n fe.xc pl _ T _ hT (obP_all h hp)
    rw [← g6] at h1 hle
    refine spec_of_body (rts := fe.rts) (vals := vals) (blks := blks) hcm g1 g2 g3 g4 g5 hle (h1.mono ?_)
    rintro e S' ⟨_, q, hq, hqp⟩
    unfold leafP at hq
    split at hq
    · cases hq
    · rename_i hne
      refine ⟨?_, ?_⟩
      · cases e with
        | normal => exact .inr rfl
        | ret => exact .inl rfl
        | exit i => exact absurd rfl (hne i)
      · split at hq
        · rename_i vs hvs
          split at hq
          · rename_i ps hps
            cases hq
            exact ⟨vs, _, ps, hvs, hps, hqp⟩
          · cases hq
        · cases hq
  · cases h

end Go.Ab

/-
  The native function that the evaluator answers: the place of a byte in a text.
-/
set_option linter.unusedVariables false
namespace Go.Ab
open Go Go.Lib

def idxB : List UInt8 → UInt8 → Int → Int
  | [], _, _ => -1
  | b :: l, c, i => cond (Nat.beq b.toNat c.toNat) i (idxB l c (i + 1))
theorem idxB_eq (c : UInt8) : ∀ (l : List UInt8) (i : Int), idxB l c i = if indexByte l c == -1 then -1 else i + indexByte l c
  | [], i => by simp [idxB, indexByte]
  | b :: l, i => by
    rw [idxB, idxB_eq c l (i + 1), indexByte]
    have hb : Nat.beq b.toNat c.toNat = (b == c) := by
      cases h : (b == c) with
      | true => rw [beq_iff_eq] at h; subst h; simp
      | false =>
        have : b.toNat ≠ c.toNat := fun e => by
          rw [beq_eq_false_iff_ne] at h
          exact h (UInt8.toNat_inj.1 e)
        exact Bool.eq_false_iff.2 fun e => this (Nat.eq_of_beq_eq_true e)
    have hge := indexByte_ge l c
    rw [hb]
    cases (b == c) with
    | true => simp
    | false =>
      simp only [cond_false, Bool.false_eq_true, if_false]
      by_cases h : indexByte l c = -1
      · simp [h]
      · have h1 : ¬ (indexByte l c + 1 = -1) := by omega
        simp [h, h1]; omega
/-- Function i is the search for a byte. -/
def natIdx (i : Nat) (f : Nat) (args : List AV) : Option AV :=
  cond (Nat.beq i f) (match args with
    | [.str s, .int .u8 b] => some (.int .i64 (idxB s b.toNat.toUInt8 0))
    | _ => none) none
theorem natIdx_ok {P : Program} {i : Nat} {fn : Func} (hf : P.funcs[i]? = some fn) (hname : (fn.name == "runtime.NumGoroutine") = false)
    (hb : fn.body.isNone = true) (hn : Extern.findNext fn = none) (he : Extern.find fn = some Extern.BytealgIndexByte.indexByte) : NatOk P (natIdx i) := by
  intro f args v h F ρ H w xs hx
  unfold natIdx at h
  rw [cond_eq_ite] at h
  split at h
  · rename_i hif
    have hif := Nat.eq_of_beq_eq_true hif
    subst hif
    split at h
    · rename_i s b
      cases h
      obtain ⟨l⟩ := xs
      cases hx with
      | cons _ _ x1 r1 h1 hr =>
        cases hr with
        | cons _ _ x2 r2 h2 hr2 =>
          cases hr2
          obtain ⟨sb, rfl, hs⟩ := h1.strs
          have := h2.ints; subst this
          refine ⟨.int .i64 (indexByte s b.toNat.toUInt8), ?_, ?_⟩
          · rw [run_callFunc_indexByte hf hname hb hn he]
            have := run_indexByteString (P := P) sb b w
            rw [hs] at this
            rw [this]
            rfl
          · have hge := indexByte_ge s b.toNat.toUInt8
            have : idxB s b.toNat.toUInt8 0 = indexByte s b.toNat.toUInt8 := by
              rw [idxB_eq]
              by_cases h : indexByte s b.toNat.toUInt8 = -1
              · simp [h]
              · simp [h]
            rw [this]
            exact .imm _ _ (.int _ _)
    · cases h
  · cases h
theorem natNo_ok {P : Program} : NatOk P (fun _ _ => none) := fun _ _ _ h => by cases h
end Go.Ab

/-
  From a law's contract to what its row asks.
-/
set_option linter.unusedVariables false
namespace Go.Ab
open Go Go.RowKit Go.WideShapes Go.ChangeShapes

/-- All that lay there is as it was. -/
structure Kept (w w' : World) : Prop where
  io : IoEq w w'
  size : w.heap.size ≤ w'.heap.size
  block : ∀ k, k < w.heap.size → w'.heap[k]? = w.heap[k]?

theorem Kept.frame {W W' : World} (h : Kept W W') (may : MemPlace → Prop) : W.keptBut W' may := by
  refine ⟨h.io.1, h.io.2, fun i hi => ?_⟩
  rw [h.block i hi]
  split <;> simp_all
theorem Kept.same {W W' : World} (h : Kept W W') {p : MemPlace} (hp : p.block < W.heap.size) : W.sameAt W' p := by
  cases p with
  | cell b o => exact World.cell?_of_block (w := W) (h.block b hp)
  | map b => exact h.block b hp
theorem Kept.frozen {w w' : World} (h : Kept w w') {p : Addr} (hp : p.block < w.heap.size) : w'.frozen? p = w.frozen? p := World.frozen?_of_block (w := w) (h.block p.block hp)

section
variable {H : Type} {enc : TypeId × Value → H} {P : Program}
theorem Kept.trod {t : TypeId} (hl : laidOutB P = true) (hr : P.readableRec t = true) (hrow : t < P.types.size) {W W' : World} {sp : Nat → Bool} {v : Value} {d : DataW H} {ps : List MemPlace}
    (h : DataW.Trod enc P W 0 (fun _ => true) true t v d ps) (hb : Kept W W') (hlt : ∀ x ∈ ps, x.block < W.heap.size) (hsp : ∀ x ∈ ps, sp x.block = true) :
    DataW.Trod enc P W' 0 sp true t v d ps :=
  WideElems.Trod_stays hl hr hrow h (fun x hx => hb.same (hlt x hx)) hsp
/-- The arguments read as they did. -/
theorem Kept.trodAll (hl : laidOutB P = true) {W W' : World} {sp : Nat → Bool} (hb : Kept W W') : ∀ {ts : List TypeId} {vs : List Value} {ds : List (DataW H)} {ps : List MemPlace}, (ts.all fun t => P.readableRec t && decide (t < P.types.size)) = true →
    DataW.TrodAll enc P W 0 (fun _ => true) true ts vs ds ps → (∀ x ∈ ps, x.block < W.heap.size) → (∀ x ∈ ps, sp x.block = true) → DataW.TrodAll enc P W' 0 sp true ts vs ds ps
  | [], vs, ds, ps, ht, h, h1, h2 => by
    obtain ⟨rfl, rfl, rfl⟩ := trodAll_nil h
    exact trodAll_mk0
  | t :: ts, vs, ds, ps, ht, h, h1, h2 => by
    obtain ⟨v, vs', d, ds', p, q, rfl, rfl, rfl, g1, g2⟩ := trodAll_cons h
    simp only [List.all_cons, Bool.and_eq_true, decide_eq_true_eq] at ht
    exact ⟨p, q, Kept.trod hl ht.1.1 ht.1.2 g1 hb (fun x hx => h1 x (List.mem_append_left _ hx)) (fun x hx => h2 x (List.mem_append_left _ hx)),
      Kept.trodAll hl hb (by simpa using ht.2) g2 (fun x hx => h1 x (List.mem_append_right _ hx)) (fun x hx => h2 x (List.mem_append_right _ hx)), rfl⟩
/-- The row's last step. -/
theorem post_of_kept {f : Func} {s : ChangeSpec} {apart fresh handsOn again : Bool} {W W' : World} {args : Array Value} {v : Value} {ds gs : List (DataW H)} {before pa pv : List MemPlace}
    (hW : DataW.Whole enc P f.params.toList s.vars apart W args.toList ds gs before)
    (hres : ∀ (b : Nat) (sp : Nat → Bool) (hd : Bool), DataW.TrodAll enc P W' b sp hd f.resultTypes.toList (v.resultList f.resultTypes.size) (s.fn H (ds ++ gs)).results [])
    (hargs : ∀ sp : Nat → Bool, (∀ p ∈ before, sp p.block = true) → DataW.TrodAll enc P W' 0 sp true f.params.toList args.toList (s.fn H (ds ++ gs)).args pa)
    (hvars : ∀ sp : Nat → Bool, (∀ p ∈ before, sp p.block = true) → DataW.TrodVars enc P W' sp s.vars (s.fn H (ds ++ gs)).vars pv)
    (hps : before = pa ++ pv) (hb : Kept W W')
    (hok : ∀ (j : Nat) (t : TypeId) (r : Value), f.resultTypes[j]? = some t → (v.resultList f.resultTypes.size)[j]? = some r → Value.okWide P W' .any 0 t r) :
    s.post enc P f apart fresh handsOn again W args v W' := by
  have hlt : ∀ p ∈ before, p.block < W.heap.size := fun p hp => hW.lt p hp
  have hold : ∀ p ∈ before, (fun b => decide (b < W.heap.size)) p.block = true := fun p hp => by simpa using hlt p hp
  refine ⟨ds, gs, before, [], pa, pv, hW, hres _ _ _, hargs _ hold, hvars _ hold, World.keptBut_mono (fun p hp => ⟨hp, ?_⟩) (hb.frame (· ∈ before)), fun _ => ?_⟩
  · rw [hps, List.mem_append] at hp
    exact Or.inr hp
  · obtain ⟨_, _, _, _, _, hz, hn⟩ := hW
    refine ⟨hok, _, _, ([] ++ pa) ++ pv, ⟨[] ++ pa, pv, trodAll_append (hargs _ (fun _ _ => rfl)) (hres _ _ _), hvars _ (fun _ _ => rfl), rfl, ?_, ?_⟩, ?_⟩
    · intro b off hp
      have hin : MemPlace.cell b off ∈ before := by rw [hps]; simpa using hp
      rw [hb.frozen (hlt _ hin)]
      exact hz b off hin
    · intro ha
      have := hn ha
      rw [hps] at this
      simpa using this
    · intro p hp _
      rw [hps]
      simpa using hp
end

/-- A table among the variables. -/
theorem glob_tab {P : Program} {W : World} {name : String} {k : IntKind} {zs : List Int} {g : Nat} (h : Lib.TabIs P W name k zs) (hg : P.globalNamed name = some g) (hne : 0 < zs.length) :
    g < W.heap.size ∧ ∃ xs : Nat → Value, (∀ i, i < (Cont.ints k zs).size → W.cell? ⟨g, i, none⟩ = some (xs i)) ∧ (∀ i, i < (Cont.ints k zs).size → RelI W (fun b => b < W.heap.size) ((Cont.ints k zs).getV i) (xs i)) ∧ (∀ i, i < (Cont.ints k zs).size → (xs i).oneCell' = true) := by
  refine ⟨?_, fun i => .int k (zs.getD i 0), fun i hi => h.cell hg i hi, fun i hi => ?_, fun i hi => rfl⟩
  · have := h.cell hg 0 hne
    simp only [World.cell?] at this
    cases hh : W.heap[g]? with
    | none => rw [hh] at this; cases this
    | some o => exact lt_of_some hh
  · exact .int _ _
/-- The first of the listed variables, and the others. -/
theorem laid_tab {P : Program} {W : World} {name : String} {k : IntKind} {zs : List Int} {rest : List (String × DataW Unit)} {ps : List MemPlace} {g : Nat} {t e : TypeId} {n : Nat}
    (hg : P.globalNamed name = some g) (hty : (P.globals[g]?).map (·.type) = some t) (ht : P.underlying t = some (.array n e)) (he : P.underlying e = some (.int k)) (hce : P.cellsOf e = 1) (hct : P.cellsOf t = n)
    (h : DataW.LaidVars P W ((name, Lib.tabData k zs) :: rest) ps) : Lib.TabIs P W name k zs ∧ ∃ q, DataW.LaidVars P W rest q := by
  obtain ⟨g', t', cs, fuel, p, q, hg', ht', hvar, hd, hr, _⟩ := h
  obtain rfl := Option.some.inj (hg.symm.trans hg')
  obtain rfl := Option.some.inj (hty.symm.trans ht')
  refine ⟨?_, q, hr⟩
  unfold Lib.TabIs
  rw [hvar, ← Lib.cells_of_tab ht he hce hct hd]

theorem calls_of_spec {P : Program} {G : GL} {f : Nat} {fn : Func} {c : Code} {args : List AV} {vs : Array Value} {W : World} (hs : SpecP P G f args (.bool true) [])
    (hf : P.funcs[f]? = some fn) (hname : (fn.name == "runtime.NumGoroutine") = false) (hb : fn.body = some c)
    (hg : GlobOk G (fun b => b < W.heap.size) W) (hr : RelIs W (fun b => b < W.heap.size) args vs.toList) : Calls P f vs W fun e w' => e = .returned (.bool true) ∧ Kept W w' := by
  have hm : MRel G (fun b => b < W.heap.size) noR noH W := ⟨fun id o h => (by cases h), fun id b h => (by cases h), fun i j b h => (by cases h), fun id b h => (by cases h), fun b h => h, hg⟩
  have key : ∀ v w', (∃ F' ρ', MRel G F' ρ' (hsH []) w' ∧ Ext (fun b => b < W.heap.size) noR W F' ρ' w' ∧ RelV w' F' ρ' (hsH []) (.bool true) v) → v = .bool true ∧ Kept W w' := by
    rintro v w' ⟨F', ρ', h1, h2, h3⟩
    exact ⟨h3.bools, h2.io, h2.size, fun k hk => h2.frz k hk⟩
  have h := hs _ W vs hm hr
  unfold CallOk at h
  rw [callFunc_enter hf hname hb] at h
  rcases h with ⟨nx, y, w', h1, h2, _⟩ | ⟨f', args', w1, h1, h2⟩ | ⟨l, fn', tmps, as, bd, w1, h1, _⟩
  · cases h1; rcases h2 with h2 | ⟨h2, _⟩ <;> cases h2
  · cases h1
    refine h2.mono ?_
    rintro e w' ⟨v, rfl, hk⟩
    obtain ⟨h3, h4⟩ := key v w' hk
    exact ⟨by rw [h3], h4⟩
  · cases h1
end Go.Ab

