/- An abstract reading of the program: what its operations do to what is known of memory. Part 4 of 7. -/
import Derived.Test.YtfpcbimohikhmaaDoorAb3
import Derived.AtR

/-
 One operation of the model, by its abstract effect: calls, built-in functions; all of them.
-/
set_option linter.unusedVariables false
set_option linter.unusedSimpArgs false
namespace Go.Ab
open Go
section
variable {P : Program} {G : GL} {F : Nat → Prop} {ρ : Nat → Option Nat} {H : Nat → Option HO} {w : World} {look : Nat → Option HO} {D : Delta} {o : Oper} {ev : Operand → Value} {T : List (Nat × AV)}

theorem step_mkf {f : FuncId} {A C : Array Operand} (ho : o.op = .makeFunc (.func f) A C) {a c : List Opd} (hA : compXs A.toList = some a) (hC : compXs C.toList = some c) (hm : MRel G F ρ H w) (hev : EvOk G F ρ H w T ev) {site : Nat} {d : Dir}
  (hD : execD site look (.mkf f a c) d ((XOp.mkf f a c).opds.map (Opd.ev G T)) = some D) : OpOk P o ev w (KD G F ρ H w D) := by
 have h1 := hev.list hA
 have h2 := hev.list hC
 have hlen : (a.map (Opd.ev G T)).length = a.length := by simp
 simp only [execD, XOp.opds, List.map_append] at hD
 rw [List.take_left' hlen, List.drop_left' hlen] at hD
 have hrun : (execOp ev o).run P w = (Result.ok (.func (.func f) (A.map ev) (C.map ev)) w).andThen fun v w' => .ok (.value v) w' := by
  unfold execOp
  rw [ho]
  rfl
 exact OpOk.eff hrun (Eff.val hm hD rfl (.fn _ _ _ _ _ (by simpa using h1) (by simpa using h2)))

theorem step_ext {X : Operand} {i : Nat} (ho : o.op = .extract X i) {a : Opd} (hX : compX X = some a) (hm : MRel G F ρ H w) (hev : EvOk G F ρ H w T ev) {site : Nat} {d : Dir}
  (hD : execD site look (.ext a i) d [a.ev G T] = some D) (hc : AllC (SpecQ P G) D.cs) : OpOk P o ev w (KD G F ρ H w D) := by
 have hrun : (execOp ev o).run P w = ((Instr.extract (ev X) i).run P w).andThen fun v w' => .ok (.value v) w' := by
  unfold execOp
  rw [ho]
  simp only [run_value]
 exact OpOk.eff hrun ((opExt_sound (hev _ _ hX) hD hc).eff hm)

theorem step_nilck {X : Operand} (ho : o.op = .nilCheck X) {a : Opd} (hX : compX X = some a) (hm : MRel G F ρ H w) (hl : ∀ id o, look id = some o → H id = some o) (hev : EvOk G F ρ H w T ev) {site : Nat} {d : Dir}
  (hD : execD site look (.nilck a) d [a.ev G T] = some D) (hc : AllC (SpecQ P G) D.cs) : OpOk P o ev w (KD G F ρ H w D) := by
 obtain ⟨y, h1, h2, h3, h4⟩ := opNilck_sound (P := P) (ρo := ev) hl ho rfl (hev _ _ hX) hD hc
 refine OpOk.eff (r := .ok y w) (by rw [h1]; rfl) (Eff.pure hm rfl h3 h2)

theorem idsH_mem (base : Nat) : ∀ (hs : List Blk) (j i : Nat), i < hs.length → base + (j + i) ∈ idsH base j hs
 | [], j, i, h => by simp at h
 | b :: r, j, 0, h => by simp [idsH]
 | b :: r, j, i + 1, h => by
  have := idsH_mem base r (j + 1) i (by simpa using h)
  simp only [idsH, List.mem_cons]
  right
  rw [show j + (i + 1) = j + 1 + i by omega]
  exact this

theorem call_sound0 (hm : MRel G F ρ H w) (hl : ∀ id o, look id = some o → H id = some o) {site f : Nat} {vs : List AV} {xs : Array Value} {args : List AV} {ids : List Nat} {cs : List Cd} {v : AV} {hs : List Blk} (hz : frzL look 60 vs = some (args, ids, cs)) (hc : AllC (SpecQ P G) (cs ++ [.call f args v hs])) (hfresh : ∀ i, i ∈ idsH (64 * site) 0 hs → H i = none)
  (hv : RelVs w F ρ H vs xs.toList) : CallOk P f xs w (KD G F ρ H w { v := shiftV (64 * site) v, ws := frzW look ids ++ shiftH (64 * site) 0 hs, al := idsH (64 * site) 0 hs, cs := cs ++ [.call f args v hs] }) := by
 obtain ⟨hc1, hc2⟩ := hc.app
 have hsp : SpecP P G f args v hs := hc2.1
 obtain ⟨F1, f1, f2, f3, f4, f5, f6⟩ := frzAll (look := look) ids F H hm (fun id k hk => .inl (hl _ _ hk))
 have hids := (frz_ids 60).2.1 _ _ _ _ hz
 obtain ⟨g1, g2⟩ := (frz_sound (Sp := SpecQ P G) hm hl f2.keep 60).2.1 _ _ _ _ hz hc1 (fun id hid b hb => f4 id hid (hids id hid) b hb)
 have hargs := relVs_frz g1 g2 hv
 have hfr : ∀ j, j < hs.length → updL H (frzW look ids) (64 * site + j) = none := fun j hj => by
  have h0 : H (64 * site + j) = none := hfresh _ (by have := idsH_mem (64 * site) hs 0 j hj; simpa using this)
  have hlk : look (64 * site + j) = none := by
   cases e : look (64 * site + j) with
   | none => rfl
   | some o => rw [hl _ _ e] at h0; cases h0
  rw [f6 _ hlk]; exact h0
 have fin : ∀ (y : Value) (w' : World), (∃ F' ρ', MRel G F' ρ' (hsH hs) w' ∧ Ext G F1 noR w F' ρ' w' ∧ RelV w' F' ρ' (hsH hs) v y) → KD G F ρ H w { v := shiftV (64 * site) v, ws := frzW look ids ++ shiftH (64 * site) 0 hs, al := idsH (64 * site) 0 hs, cs := cs ++ [.call f args v hs] } y w' := by
  rintro y w' ⟨F', ρ', q1, q2, q3⟩
  obtain ⟨ρ2, r1, r2, r3, r4⟩ := f1.join hfr q1 q2
  refine ⟨F', ρ2, ?_, f2.trans r2, ?_, ?_⟩
  ·simp only [updL_app]; exact r1
  ·simp only [updL_app]; exact f3.trans r3
  ·simp only [updL_app]; exact r4 _ _ q3
 exact (hsp F1 w xs f1.bare hargs).mono fin

theorem call_sound (hm : MRel G F ρ H w) (hl : ∀ id o, look id = some o → H id = some o) {site f : Nat} {d : Dir} {vs : List AV} {xs : Array Value} (hD : opCall site look d f vs = some D) (hc : AllC (SpecQ P G) D.cs) (hfresh : ∀ i, i ∈ D.al → H i = none)
  (hv : RelVs w F ρ H vs xs.toList) : CallOk P f xs w (KD G F ρ H w D) := by
 unfold opCall at hD
 split at hD
 ·split at hD
  ·rename_i args ids cs hz
   split at hD
   ·rename_i v hs _
    cases hD
    exact call_sound0 hm hl hz hc hfresh hv
   ·cases hD
  ·cases hD
 ·split at hD
  ·rename_i args ids cs hz
   cases hD
   exact call_sound0 hm hl hz hc hfresh hv
  ·cases hD
 ·exact callD_sound (cv := .fn f [] []) hm hl hD hc hfresh hv
 ·cases hD

theorem CallOk.op {f : FuncId} {args : Array Value} {K : Value → World → Prop} (h : CallOk P f args w K) (hr : (execOp ev o).run P w = (callFunc f args).run P w) : OpOk P o ev w K := by
 unfold OpOk; rw [hr]; exact h

theorem run_cally {c : Call} {X : Operand} {l : Nat} (ho : o.op = .call c) (hc : c.callee = .value X) (hX : ev X = .func (.yield l) #[] #[]) :
  (execOp ev o).run P w = (Instr.yield l (c.args.map ev)).run P w := by
 unfold execOp
 rw [ho]
 simp only [resolve, hc, Deferred.ofValue, hX, Sem.run_bind, Sem.run_pure, Result.andThen_ok, invoke]
 simp

theorem run_callv {c : Call} {X : Operand} {f : FuncId} {a cp : Array Value} (ho : o.op = .call c) (hc : c.callee = .value X) (hX : ev X = .func (.func f) a cp) :
  (execOp ev o).run P w = (callFunc f (a ++ c.args.map ev ++ cp)).run P w := by
 unfold execOp
 rw [ho]
 simp only [resolve, hc, Deferred.ofValue, hX, Sem.run_bind, Sem.run_pure, Result.andThen_ok, invoke]

theorem run_callb {c : Call} {b : Builtin} (ho : o.op = .call c) (hc : c.callee = .builtin b) :
  (execOp ev o).run P w = (builtin b c.argTypes o.type (c.args.map fun | .const _ => true | _ => false) (c.args.map ev)).run P w := by
 unfold execOp
 rw [ho]
 simp only [resolve, hc, Sem.run_bind, Sem.run_pure, Result.andThen_ok, invoke]
 rfl
theorem map1 {X : Operand} : (#[X] : Array Operand).map ev = #[ev X] := by simp
theorem map2 {X Y : Operand} : (#[X, Y] : Array Operand).map ev = #[ev X, ev Y] := by simp

theorem list2 {α : Type} {a : Array α} {x y : α} (h : a.toList = [x, y]) : a = #[x, y] := by
 apply Array.toList_inj.1; simpa using h
theorem list1' {α : Type} {a : Array α} {x : α} (h : a.toList = [x]) : a = #[x] := by
 apply Array.toList_inj.1; simpa using h
theorem compXs1 {A : Array Operand} {a : Opd} (h : compXs A.toList = some [a]) : ∃ X, A = #[X] ∧ compX X = some a := by
 generalize hl : A.toList = l at h
 cases l with
 | nil => simp [compXs] at h
 | cons X r =>
  simp only [compXs] at h
  split at h
  ·rename_i h1 h2
   cases h
   cases r with
   | nil => exact ⟨X, list1' hl, h1⟩
   | cons Y r => simp only [compXs] at h2; split at h2 <;> cases h2
  ·cases h
theorem compXs2 {A : Array Operand} {a b : Opd} (h : compXs A.toList = some [a, b]) : ∃ X Y, A = #[X, Y] ∧ compX X = some a ∧ compX Y = some b := by
 generalize hl : A.toList = l at h
 cases l with
 | nil => simp [compXs] at h
 | cons X r =>
  simp only [compXs] at h
  split at h
  ·rename_i h1 h2
   cases h
   cases r with
   | nil => simp [compXs] at h2
   | cons Y r =>
    simp only [compXs] at h2
    split at h2
    ·rename_i h3 h4
     cases h2
     cases r with
     | nil => exact ⟨X, Y, list2 hl, h1, h3⟩
     | cons Z r => simp only [compXs] at h4; split at h4 <;> cases h4
    ·cases h2
  ·cases h

theorem step_mkmap {t : TypeId} {r : Option Operand} (ho : o.op = .makeMap t r) {x : XOp} (hx : compMkmap P t r = some x) (hm : MRel G F ρ H w) (hev : EvOk G F ρ H w T ev) {site : Nat} {d : Dir}
  (hD : execD site look x d (x.opds.map (Opd.ev G T)) = some D) (hfresh : ∀ i, i ∈ D.al → H i = none) : OpOk P o ev w (KD G F ρ H w D) := by
 have hrun : (execOp ev o).run P w = ((Instr.makeMap t (r.map ev)).run P w).andThen fun v w' => .ok (.value v) w' := by
  unfold execOp
  rw [ho]
  simp only [run_value]
 unfold compMkmap at hx
 split at hx
 ·rename_i k e ht
  split at hx
  ·rename_i kk vk hk hv
   split at hx
   ·cases hx
    exact OpOk.eff hrun (opMkmap_sound hm hfresh ht (fun x h => by cases h) hD)
   ·rename_i X
    split at hx
    ·rename_i a hX
     cases hx
     refine OpOk.eff hrun (opMkmap_sound hm hfresh ht (fun x h => ?_) hD)
     cases h
     exact ⟨by simp, _, [], rfl, hev _ _ hX⟩
    ·cases hx
  ·cases hx
 ·cases hx
theorem step_look {t : TypeId} {X Y : Operand} {ok : Bool} (ho : o.op = .lookup t X Y ok) {x : XOp} (hx : compLook P t X Y ok = some x) (hm : MRel G F ρ H w) (hl : ∀ id o, look id = some o → H id = some o) (hev : EvOk G F ρ H w T ev) {site : Nat} {d : Dir}
  (hD : execD site look x d (x.opds.map (Opd.ev G T)) = some D) : OpOk P o ev w (KD G F ρ H w D) := by
 have hrun : (execOp ev o).run P w = ((Instr.lookup t (ev X) (ev Y) ok).run P w).andThen fun v w' => .ok (.value v) w' := by
  unfold execOp
  rw [ho]
  simp only [run_value]
 unfold compLook at hx
 split at hx
 ·rename_i k e a b ht hX hY
  split at hx
  ·rename_i kk vk hk hv
   cases hx
   exact OpOk.eff hrun (opMlook_sound hm hl ht hk hv (hev _ _ hX) (hev _ _ hY) hD)
  ·cases hx
 ·cases hx
theorem step_mput {t : TypeId} {X Y Z : Operand} (ho : o.op = .mapUpdate t X Y Z ∨ o.op = .insert t X Y Z) {x : XOp} (hx : compMput P t X Y Z = some x) (hm : MRel G F ρ H w) (hl : ∀ id o, look id = some o → H id = some o) (hev : EvOk G F ρ H w T ev) {site : Nat} {d : Dir}
  (hD : execD site look x d (x.opds.map (Opd.ev G T)) = some D) : OpOk P o ev w (KD G F ρ H w D) := by
 unfold compMput at hx
 split at hx
 ·rename_i k e a b c ht hX hY hZ
  split at hx
  ·rename_i kk vk hk hv
   cases hx
   obtain ⟨y, w', F', ρ', g1, g2⟩ := opMput_sound (P := P) hm hl ht hk (hev _ _ hX) (hev _ _ hY) (hev _ _ hZ) hD
   cases hr : (Instr.mapUpdate t (ev X) (ev Y) (ev Z)).run P w with
   | halt q w' => rw [hr] at g1; cases g1
   | ok u w1 =>
    rw [hr] at g1
    simp only [Result.andThen_ok] at g1
    cases g1
    refine .inl ⟨.skip, undef, w', ?_, .inr ⟨rfl, rfl⟩, F', ρ', g2⟩
    unfold execOp
    rcases ho with ho | ho <;> rw [ho] <;> simp [hr]
  ·cases hx
 ·cases hx

theorem compX_func {f : FuncId} : compX (.func f) = some (.c (.fn f [] [])) := rfl

theorem step_call {c : Call} (ho : o.op = .call c) {x : XOp} (hx : compCall P c = some x) (hcon : ConstOk ev) (hm : MRel G F ρ H w) (hl : ∀ id o, look id = some o → H id = some o) (hev : EvOk G F ρ H w T ev) {site : Nat} {d : Dir}
  (hD : execD site look x d (x.opds.map (Opd.ev G T)) = some D) (hc : AllC (SpecQ P G) D.cs) (hfresh : ∀ i, i ∈ D.al → H i = none) : OpOk P o ev w (KD G F ρ H w D) := by
 unfold compCall at hx
 split at hx
 ·rename_i as has
  have hargs := hev.list has
  have bi : ∀ {b : Builtin} {s : Sem Value}, c.callee = .builtin b → (builtin b c.argTypes o.type (c.args.map fun | .const _ => true | _ => false) (c.args.map ev)) = (do pure (.value (← s))) → Eff G F ρ H w (s.run P w) D → OpOk P o ev w (KD G F ρ H w D) := by
   intro b s h1 h2 h3
   refine OpOk.eff ?_ h3
   rw [run_callb ho h1, h2, run_value]
  split at hx
  ·rename_i f hcal
   cases hx
   refine CallOk.op (call_sound (xs := c.args.map ev) hm hl hD hc hfresh (by simpa [XOp.opds] using hargs)) ?_
   rw [run_callv ho hcal (hcon.2 f)]
   simp
  ·rename_i X hnf hcal
   split at hx
   ·rename_i a hX
    cases hx
    simp only [execD, XOp.opds, List.map_cons, List.drop_succ_cons, List.drop_zero, x1, List.getD_cons_zero] at hD
    unfold opCallv at hD
    split at hD
    ·rename_i f l1 l2 e1
     have hfv := hev _ _ hX
     rw [e1] at hfv
     obtain ⟨y1, y2, e2, p1, p2⟩ := hfv.fns
     refine CallOk.op (call_sound (xs := y1 ++ c.args.map ev ++ y2) hm hl hD hc hfresh ?_) (run_callv ho hcal e2)
     simp only [Array.toList_append, Array.toList_map]
     exact (p1.app hargs).app p2
    ·rename_i id e1
     have hfv := hev _ _ hX
     rw [e1] at hfv
     split at hD
     ·generalize hy : ev X = y at hfv
      cases hfv with
      | imm _ _ hi => cases hi
      | yld _ b ob hb hh hbx =>
       have := callD_sound (cv := .yld id) (xs := c.args.map ev) hm hl hD hc hfresh (by simpa using hargs)
       unfold OpOk
       rw [run_cally ho hcal hy]
       exact this b hb
     ·cases hD
    ·cases hD
   ·cases hx
  ·rename_i hcal
   split at hx
   ·rename_i t a htys
    obtain ⟨X, hA, hX⟩ := compXs1 has
    have hty := list1' htys
    split at hx
    ·rename_i ht
     cases hx
     refine bi hcal (s := Builtin.len_ c.argTypes o.type (c.args.map ev)) rfl ?_
     rw [hty, hA, map1]
     exact (opLens_sound ht (hev _ _ hX) hD).eff hm
    ·rename_i e ht
     cases hx
     refine bi hcal (s := Builtin.len_ c.argTypes o.type (c.args.map ev)) rfl ?_
     rw [hty, hA, map1]
     exact (opLen_sound hl ht (hev _ _ hX).unc hD hc).eff hm
    ·rename_i n e ht
     cases hx
     refine bi hcal (s := Builtin.len_ c.argTypes o.type (c.args.map ev)) rfl ?_
     rw [hty, hA]
     refine Eff.val hm hD (x := .int .i64 n) ?_ (relInt _ _)
     simp [Builtin.len_, run_underlying' ht, goInt]
    ·rename_i k e ht
     cases hx
     refine bi hcal (s := Builtin.len_ c.argTypes o.type (c.args.map ev)) rfl ?_
     rw [hty, hA, map1]
     exact opMlen_sound hm hl ht (hev _ _ hX) hD
    ·cases hx
   ·cases hx
  ·rename_i hcal
   split at hx
   ·rename_i t u a b htys
    obtain ⟨X, Y, hA, hX, hY⟩ := compXs2 has
    have hty := list2 htys
    split at hx
    ·rename_i e e' ht hu
     split at hx
     ·rename_i sz by_ z hel
      cases hx
      refine bi hcal (s := Builtin.copy_ c.argTypes o.type (c.args.map ev)) rfl ?_
      rw [hty, hA, map2]
      exact opCopy_sound hm hl ht (elOf_ok hel).1 (hev _ _ hX).unc (hev _ _ hY).unc hD hc
     ·cases hx
    ·cases hx
   ·cases hx
  ·rename_i hcal
   split at hx
   ·rename_i t u a b htys
    obtain ⟨X, Y, hA, hX, hY⟩ := compXs2 has
    have hty := list2 htys
    split at hx
    ·rename_i k e ht
     split at hx
     ·rename_i kk vk hk hv
      cases hx
      refine bi hcal (s := Builtin.delete_ c.argTypes o.type (c.args.map ev)) rfl ?_
      rw [hty, hA, map2]
      exact opMdel_sound hm hl ht hk (hev _ _ hX) (hev _ _ hY) hD
     ·cases hx
    ·cases hx
   ·cases hx
  ·rename_i hcal
   split at hx
   ·rename_i t a htys
    obtain ⟨X, hA, hX⟩ := compXs1 has
    have hty := list1' htys
    split at hx
    ·rename_i e ht
     cases hx
     refine bi hcal (s := Builtin.cap_ c.argTypes o.type (c.args.map ev)) rfl ?_
     rw [hty, hA, map1]
     exact (opCap_sound hl ht (hev _ _ hX) hD hc).eff hm
    ·cases hx
   ·cases hx
  ·rename_i hcal
   split at hx
   ·rename_i t u a b htys
    obtain ⟨X, Y, hA, hX, hY⟩ := compXs2 has
    have hty := list2 htys
    split at hx
    ·rename_i e e' ht hu
     split at hx
     ·rename_i sz by_ z hel
      cases hx
      refine bi hcal (s := Builtin.append_ c.argTypes o.type (c.args.map ev)) rfl ?_
      rw [hty, hA, map2]
      exact opAppend_sound hm hl hfresh ht hu (fun k h => by cases h) (elOf_ok hel).1 (hev _ _ hX).unc (hev _ _ hY).unc hD hc
     ·cases hx
    ·rename_i e k ht hu
     split at hx
     ·rename_i sz by_ z hel
      cases hx
      refine bi hcal (s := Builtin.append_ c.argTypes o.type (c.args.map ev)) rfl ?_
      rw [hty, hA, map2]
      exact opGrowz_sound hm hfresh ht hu (elOf_ok hel).1 (hev _ _ hX) (hev _ _ hY) hD hc
     ·cases hx
    ·cases hx
   ·cases hx
  ·rename_i hcal
   cases hx
   simp only [execD, XOp.opds] at hD
   split at hD
   ·rename_i v hv
    obtain ⟨y, h1, h2⟩ := mmF_sound (P := P) (xs := c.args.map ev) (tys := c.argTypes) (ty := o.type) (by simpa using hargs) hv
    refine bi hcal (s := Builtin.max_ c.argTypes o.type (c.args.map ev)) rfl ?_
    exact Eff.val hm hD h1 h2
   ·cases hD
  ·rename_i hcal
   cases hx
   simp only [execD, XOp.opds] at hD
   split at hD
   ·rename_i v hv
    obtain ⟨y, h1, h2⟩ := mmF_sound (P := P) (xs := c.args.map ev) (tys := c.argTypes) (ty := o.type) (by simpa using hargs) hv
    refine bi hcal (s := Builtin.min_ c.argTypes o.type (c.args.map ev)) rfl ?_
    exact Eff.val hm hD h1 h2
   ·cases hD
  ·cases hx
 ·cases hx

end
end Go.Ab

/-
 One operation of the model does what its abstract effect says.
-/
set_option linter.unusedVariables false
set_option linter.unusedSimpArgs false
namespace Go.Ab
open Go
section
variable {P : Program} {G : GL} {F : Nat → Prop} {ρ : Nat → Option Nat} {H : Nat → Option HO} {w : World} {look : Nat → Option HO} {D : Delta} {o : Oper} {ev : Operand → Value} {T : List (Nat × AV)}

theorem op_sound {x : XOp} (hx : compOp P o.op = some x) (hcon : ConstOk ev) (hm : MRel G F ρ H w) (hl : ∀ id o, look id = some o → H id = some o) (hev : EvOk G F ρ H w T ev) {site : Nat} {d : Dir}
  (hD : execD site look x d (x.opds.map (Opd.ev G T)) = some D) (hc : AllC (SpecQ P G) D.cs) (hfresh : ∀ i, i ∈ D.al → H i = none) : OpOk P o ev w (KD G F ρ H w D) := by
 unfold compOp at hx
 split at hx
 ·rename_i X ho
  split at hx
  ·rename_i a hX; cases hx; exact step_mv (.inl ho) hX hm hev hD
  ·cases hx
 ·rename_i X ho
  split at hx
  ·rename_i a hX; cases hx; exact step_mv (.inr ho) hX hm hev hD
  ·cases hx
 ·rename_i ho
  split at hx
  ·rename_i h1 h2 h3; cases hx; exact step_pick ho h1 h2 h3 hm hev hD hc
  ·cases hx
 ·rename_i ho; exact step_alloc ho hx hm hD hfresh
 ·rename_i ho
  split at hx
  ·rename_i hX; cases hx; exact step_box ho hX hm hev hD hfresh
  ·cases hx
 ·rename_i ho; exact step_build ho hx hm hev hD
 ·rename_i ho; exact step_buildS ho hx hm hev hD hfresh
 ·rename_i ho; exact step_load ho hx hm hl hev hD hc
 ·rename_i ho; exact step_store ho hx hm hl hev hD hc
 ·rename_i ho
  split at hx
  ·rename_i hX; cases hx; exact step_nilck ho hX hm hl hev hD hc
  ·cases hx
 ·rename_i ho; exact step_bin ho hx hcon hm hl hev hD hc
 ·rename_i ho
  split at hx
  ·rename_i hX; cases hx; exact step_un ho hX hm hev hD hc
  ·cases hx
 ·rename_i ho
  split at hx
  ·rename_i h; cases hx; exact step_conv ho h hm hev hD hc
  ·exact step_bstr ho hx hm hl hev hD hc
 ·rename_i ho
  split at hx
  ·rename_i h1 h2; cases hx; exact step_rng ho h2 h1 hm hev hD hfresh
  ·cases hx
 ·rename_i ho
  split at hx
  ·rename_i h1; cases hx; exact step_nxt ho h1 hm hl hev hD hc
  ·cases hx
 ·rename_i ho
  split at hx
  ·rename_i h1 h2; cases hx; exact step_mkf ho h1 h2 hm hev hD
  ·cases hx
 ·rename_i ho; exact step_mks ho hx hm hev hD hc hfresh
 ·rename_i ho; exact step_mkmap ho hx hm hev hD hfresh
 ·rename_i ho; exact step_look ho hx hm hl hev hD
 ·rename_i ho; exact step_mput (.inl ho) hx hm hl hev hD
 ·rename_i ho; exact step_mput (.inr ho) hx hm hl hev hD
 ·rename_i ho; exact step_slice ho hx hm hl hev hD hc
 ·rename_i ho; exact step_fieldA ho hx hm hl hev hD hc
 ·rename_i ho; exact step_field ho hx hm hev hD hc
 ·rename_i ho; exact step_idxA ho hx hm hl hev hD hc
 ·rename_i ho; exact step_idx ho hx hm hev hD hc
 ·rename_i ho
  split at hx
  ·rename_i hX; cases hx; exact step_ext ho hX hm hev hD hc
  ·cases hx
 ·rename_i ho; exact step_call ho hx hcon hm hl hev hD hc hfresh
 ·cases hx

end
end Go.Ab

/-
 One operation of a region, at a state of the frame: reads, guards, effects.
-/
set_option linter.unusedVariables false
set_option linter.unusedSimpArgs false
namespace Go.Ab
open Go

structure RSf (G : GL) (F : Nat → Prop) (ρ : Nat → Option Nat) (T : Nat → Option AV) (H : Nat → Option HO) (n : Nat) (a : Act) (w : World) : Prop where
 size : a.tmps.size = n
 tmps : ∀ t v, T t = some v → RelV w F ρ H v (a.tmps.getD t undef)
 mem : MRel G F ρ H w
 defs : DefOk F ρ a w

theorem DefOk.ext {G : GL} {ρ ρ' : Nat → Option Nat} {F F' : Nat → Prop} {a a' : Act} {w w' : World} (h : DefOk F ρ a w) (he : Ext G F ρ w F' ρ' w') (hd : a'.defers = a.defers) : DefOk F' ρ' a' w' := by
 obtain ⟨rs, h1, h2, h3⟩ := h
 refine ⟨rs, h1, hd.trans h2, fun r hr => ?_⟩
 obtain ⟨g1, g2, g3⟩ := h3 r hr
 have hlt : r < w.heap.size := lt_of_some g1
 refine ⟨(he.same r hlt g2).trans g1, fun id e => ?_, fun hF => ?_⟩
 ·rcases he.im id r e with ⟨id', h'⟩ | h'
  ·exact g2 id' h'
  ·omega
 ·rcases he.more r hF with h' | h' | ⟨id, h'⟩
  ·exact g3 h'
  ·omega
  ·exact g2 id h'

def readT (T : List (Nat × AV)) : List Opd → List (Nat × AV)
 | [] => []
 | .t n :: r => match aget T n with
  | some v => (n, v) :: readT T r
  | none => readT T r
 | _ :: r => readT T r
def strip1 : AV → AV
 | .may _ v => v
 | v => v
def stripT : List (Nat × AV) → List (Nat × AV)
 | [] => []
 | (t, v) :: r => (t, strip1 v) :: stripT r
def stripB : AV → List Cd → List Cd
 | .may b _, cs => .b b :: cs
 | _, cs => cs
def stripC : List (Nat × AV) → List Cd → List Cd
 | [], cs => cs
 | (_, v) :: r, cs => stripB v (stripC r cs)
def keepMay : XOp → Bool
 | .mv _ => true
 | .pick _ _ _ => true
 | _ => false

inductive GDir where
 | auto
 | on
 | onl
 | off
 | may

def runU (G : GL) (site : Nat) (look : Nat → Option HO) (op : XOp) (d : Dir) (rt : List (Nat × AV)) : Option Delta :=
 match keepMay op with
 | true => execD site look op d (op.opds.map (Opd.ev G rt))
 | false => match execD site look op d (op.opds.map (Opd.ev G (stripT rt))) with
  | some D => some { D with cs := stripC rt D.cs }
  | none => none
def geC (b want : Bool) : List Cd → List Cd
 | [] => []
 | c :: r => .ge b want c :: geC b want r
def skipD (cs : List Cd) : Delta := { v := .may false (.bool false), ws := [], al := [], cs }
def gvalO : Option AV → Option (Bool × Bool)
 | none => none
 | some v => gval 8 v
def runG (G : GL) (site : Nat) (look : Nat → Option HO) (x : XO) (g : GDir) (d : Dir) (gv : Option AV) (rt : List (Nat × AV)) : Option Delta :=
 match x.guard with
 | none => runU G site look x.op d rt
 | some (_, want) => match gvalO gv with
  | some (dd, b) => match g with
   | .auto => cond (dd && negIf (!want) b) (runU G site look x.op d rt) (some (skipD []))
   | .on => match runU G site look x.op d rt with
    | some D => some { D with cs := .b (dd && negIf (!want) b) :: D.cs }
    | none => none
   | .onl => match runU G site look x.op d rt with
    | some D => some { D with cs := .b (dd && negIf (!want) b) :: D.cs }
    | none => none
   | .off => some (skipD [.b (!(dd && negIf (!want) b))])
   | .may => match runU G site look x.op d rt with
    | some D => match D.ws, D.al with
     | [], [] => some { v := mkMay (dd && negIf (!want) b) D.v, ws := [], al := [], cs := geC (dd && negIf (!want) b) true D.cs }
     | _, _ => none
    | none => none
  | none => none

def compG (ops : Array Oper) : Option (Nat × Bool) → Option (Option (Nat × Bool))
 | none => some none
 | some (j, want) => match (ops[j]?).bind (·.dst) with
  | some t => some (some (t, want))
  | none => none
def compXO (P : Program) (ops : Array Oper) (o : Oper) : Option XO :=
 match compOpB P o.op, compG ops o.guard with
 | some op, some g => some { dst := o.dst, op := op, guard := g }
 | _, _ => none

def updT (T : Nat → Option AV) : Option Nat → AV → Nat → Option AV
 | none, _ => T
 | some t, v => upd T t (some v)

def wpOpR (P : Program) (ops : Array Oper) (i : Nat) (K : Act → World → Prop) (a : Act) (w : World) : Prop :=
 match ops[i]? with
 | none => K a w
 | some o => if Region.wanted o (yielded ops a.tmps) then OpOk P o a.eval w (fun v w' => K (a.put o.dst v) w') else K (a.put o.dst undef) w
def wpOpsR (P : Program) (ops : Array Oper) (R : Act → World → Prop) : List Nat → Act → World → Prop
 | [], a, w => R a w
 | i :: r, a, w => wpOpR P ops i (wpOpsR P ops R r) a w
def wpAnyR (P : Program) (ops : Array Oper) (R : Act → World → Prop) : Nat → Array Bool → Act → World → Prop
 | 0, listed, a, w => Region.ready .any ops listed = [] ∧ R a w
 | fuel + 1, listed, a, w => (Region.ready .any ops listed = [] → R a w) ∧ ∀ i ∈ Region.ready .any ops listed, wpOpR P ops i (wpAnyR P ops R fuel (listed.setIfInBounds i true)) a w
theorem wpOpR_mono {P : Program} {ops : Array Oper} {i : Nat} {K K' : Act → World → Prop} {a : Act} {w : World} (hk : ∀ a w, K a w → K' a w) (h : wpOpR P ops i K a w) : wpOpR P ops i K' a w := by
 unfold wpOpR at h ⊢
 split
 ·rename_i e; rw [e] at h; exact hk _ _ h
 ·rename_i o e
  rw [e] at h
  simp only at h
  split
  ·rename_i hw; rw [if_pos hw] at h; exact NextOk.mono h fun v w' => hk _ _
  ·rename_i hw; rw [if_neg hw] at h; exact hk _ _ h
theorem wpAnyR_sound {P : Program} {ops : Array Oper} {R : Act → World → Prop} : ∀ (fuel t : Nat) (listed : Array Bool) (a : Act) (w : World), wpAnyR P ops R fuel listed a w → wpOpsR P ops R (Region.linearise.go .any ops fuel t listed []) a w := by
 intro fuel
 induction fuel with
 | zero => intro t listed a w h; simpa [Region.linearise.go, wpOpsR] using h.2
 | succ fuel ih =>
  intro t listed a w h
  obtain ⟨h₀, h₁⟩ := h
  simp only [Region.linearise.go]
  change wpOpsR P ops R (match (Region.ready .any ops listed)[t % (Region.ready .any ops listed).length]? with
   | some i => Region.linearise.go .any ops fuel (t / (Region.ready .any ops listed).length) (listed.setIfInBounds i true) [i]
   | none => [].reverse) a w
  cases hi : (Region.ready .any ops listed)[t % (Region.ready .any ops listed).length]? with
  | none =>
   have hnil : Region.ready .any ops listed = [] := by
    cases hr : Region.ready .any ops listed with
    | nil => rfl
    | cons x xs =>
     rw [hr] at hi
     have hlt : t % (x :: xs).length < (x :: xs).length := Nat.mod_lt _ (by simp)
     simp at hi
     simp at hlt
     omega
   simpa [wpOpsR] using h₀ hnil
  | some i =>
   simp only []
   rw [linearise_go_acc, List.reverse_singleton, List.singleton_append]
   exact wpOpR_mono (fun a w => ih _ _ a w) (h₁ i (List.mem_of_getElem? hi))

section
variable {P : Program} {G : GL} {F : Nat → Prop} {ρ : Nat → Option Nat} {T : Nat → Option AV} {H : Nat → Option HO} {n : Nat} {a : Act} {w : World} {look : Nat → Option HO} {D : Delta} {o : Oper} {rt : List (Nat × AV)}

theorem evOk_of (hm : MRel G F ρ H w) (hrt : ∀ t v, aget rt t = some v → RelV w F ρ H v (a.tmps.getD t undef)) : EvOk G F ρ H w rt a.eval := by
 intro X o hX
 cases X with
 | tmp t =>
  cases hX
  simp only [Opd.ev, Act.eval]
  cases h : aget rt t with
  | none => exact .imm _ _ (.undef _)
  | some v => exact hrt t v h
 | const v =>
  simp only [compX] at hX
  split at hX
  ·rename_i u hu; cases hX; exact .imm _ _ ((compV_sound w F 12).1 _ _ hu)
  ·cases hX
 | global g =>
  cases hX
  simp only [Opd.ev, Act.eval]
  cases h : G.g g with
  | none => exact .imm _ _ (.undef _)
  | some c =>
   obtain ⟨h1, xs, h2, h3, h4⟩ := hm.glob g c h
   exact .imm _ _ (.iptr c g 0 xs h1 (fun i hi => by rw [Nat.zero_add]; exact h2 i hi) h3 h4)
 | func f =>
  cases hX
  exact .imm _ _ (.fn f [] [] #[] #[] .nil .nil)

theorem constOk_eval : ConstOk a.eval := ⟨fun _ => rfl, fun _ => rfl⟩

theorem stripB_ok {Sp : SpT} {v : AV} {cs : List Cd} (h : AllC Sp (stripB v cs)) : AllC Sp cs ∧ (strip1 v = v ∨ v = .may true (strip1 v)) := by
 cases v with
 | may b v =>
  obtain ⟨h1, h2⟩ := h
  have : b = true := h1
  subst this
  exact ⟨h2, .inr rfl⟩
 | _ => exact ⟨h, .inl rfl⟩

theorem stripC_ok {Sp : SpT} : ∀ {rt : List (Nat × AV)} {cs : List Cd}, AllC Sp (stripC rt cs) → AllC Sp cs ∧ ∀ t v, aget (stripT rt) t = some v → aget rt t = some v ∨ aget rt t = some (.may true v)
 | [], cs, h => ⟨h, fun t v h => by cases h⟩
 | (k, u) :: r, cs, h => by
  obtain ⟨h1, h2⟩ := stripB_ok h
  obtain ⟨h3, h4⟩ := stripC_ok h1
  refine ⟨h3, fun t v hv => ?_⟩
  simp only [stripT, aget] at hv ⊢
  cases e : Nat.beq k t with
  | false =>
   rw [e] at hv
   simp only [cond_false] at hv ⊢
   exact h4 t v hv
  | true =>
   rw [e] at hv
   simp only [cond_true] at hv ⊢
   cases hv
   rcases h2 with h2 | h2
   ·left; rw [h2]
   ·right; rw [← h2]

theorem compOpB_ok {op : XOp} (hx : compOpB P o.op = some op) : compOp P o.op = some op ∨ op = .bad := by
 unfold compOpB at hx
 split at hx
 ·cases hx
 ·split at hx
  ·rename_i h; cases hx; exact .inl h
  ·cases hx; exact .inr rfl

theorem runU_sound' {op : XOp} (hx : compOp P o.op = some op) (hm : MRel G F ρ H w) (hrt : ∀ t v, aget rt t = some v → RelV w F ρ H v (a.tmps.getD t undef)) (hl : ∀ id o, look id = some o → H id = some o) {site : Nat} {d : Dir}
  (hD : runU G site look op d rt = some D) (hc : AllC (SpecQ P G) D.cs) (hfresh : ∀ i, i ∈ D.al → H i = none) : OpOk P o a.eval w (KD G F ρ H w D) := by
 unfold runU at hD
 split at hD
 ·exact op_sound hx constOk_eval hm hl (evOk_of hm hrt) hD hc hfresh
 ·split at hD
  ·rename_i D' hD'
   cases hD
   obtain ⟨h1, h2⟩ := stripC_ok hc
   have hrt' : ∀ t v, aget (stripT rt) t = some v → RelV w F ρ H v (a.tmps.getD t undef) := fun t v h => by
    rcases h2 t v h with h | h
    ·exact hrt t v h
    ·exact (hrt t _ h).mayInv rfl
   have := op_sound (D := D') hx constOk_eval hm hl (evOk_of hm hrt') hD' h1 hfresh
   exact this
  ·cases hD

theorem runU_sound {op : XOp} (hx : compOpB P o.op = some op) (hm : MRel G F ρ H w) (hrt : ∀ t v, aget rt t = some v → RelV w F ρ H v (a.tmps.getD t undef)) (hl : ∀ id o, look id = some o → H id = some o) {site : Nat} {d : Dir}
  (hD : runU G site look op d rt = some D) (hc : AllC (SpecQ P G) D.cs) (hfresh : ∀ i, i ∈ D.al → H i = none) : OpOk P o a.eval w (KD G F ρ H w D) := by
 rcases compOpB_ok hx with h | rfl
 ·exact runU_sound' h hm hrt hl hD hc hfresh
 ·simp [runU, keepMay, execD] at hD

theorem geC_ok {Sp : SpT} {b want : Bool} (hb : negIf (!want) b = true) : ∀ {cs : List Cd}, AllC Sp (geC b want cs) → AllC Sp cs
 | [], _ => trivial
 | c :: r, h => ⟨h.1 hb, geC_ok hb h.2⟩

variable {ops : Array Oper} {Q : Exit → Act → World → Prop}

theorem getD_bool {tmps : Array Value} {t : Nat} {b : Bool} (h : tmps.getD t undef = .bool b) : tmps[t]? = some (.bool b) := by
 cases e : tmps[t]? with
 | none => simp [Array.getD_eq_getD_getElem?, e, undef] at h
 | some v => simp [Array.getD_eq_getD_getElem?, e] at h; rw [h]

theorem wanted_of {x : XO} (hg : compG ops o.guard = some x.guard) : match x.guard with
  | none => ∀ (a : Act), Region.wanted o (yielded ops a.tmps) = true
  | some (t, want) => ∀ (a : Act) (d b : Bool), (d = true → a.tmps.getD t undef = .bool b) → (d = false → a.tmps.getD t undef = undef) → Region.wanted o (yielded ops a.tmps) = (d && negIf (!want) b) := by
 unfold compG at hg
 split at hg
 ·rename_i e
  cases hx : x.guard with
  | none => intro a; simp [Region.wanted, e]
  | some p => rw [hx] at hg; cases hg
 ·rename_i j want e
  split at hg
  ·rename_i t ht
   cases hx : x.guard with
   | none => rw [hx] at hg; cases hg
   | some p =>
    rw [hx] at hg
    cases hg
    intro a d b h1 h0
    cases d with
    | true =>
     have hb := getD_bool (h1 rfl)
     simp only [Region.wanted, e, yielded, ht, Option.bind_some, hb]
     cases want <;> cases b <;> rfl
    | false =>
     have h0 := h0 rfl
     simp only [Region.wanted, e, yielded, ht, Option.bind_some]
     cases hh : a.tmps[t]? with
     | none => rfl
     | some y =>
      have : y = undef := by
       simp [Array.getD_eq_getD_getElem?, hh] at h0; exact h0
      subst this
      rfl
  ·cases hg

theorem onl_lit {x : XO} {site : Nat} {d : Dir} {gv : Option AV} {Sp : SpT} {t : Nat} {want : Bool} {y : Value} (hD : runG G site look x .onl d gv rt = some D) (hc : AllC Sp D.cs) (hg : x.guard = some (t, want)) (hrel : ∀ v, gv = some v → RelV w F ρ H v y) : y = .bool want := by
 unfold runG at hD
 rw [hg] at hD
 simp only at hD
 split at hD
 ·rename_i dd b hgd
  split at hD
  ·rename_i D' hD'
   cases hD
   have he : (dd && negIf (!want) b) = true := hc.1
   rw [Bool.and_eq_true] at he
   cases gv with
   | none => cases hgd
   | some v =>
    have := (gval_ok 8 hgd (hrel v rfl)).1 he.1
    rw [this]
    have h2 := he.2
    cases want <;> cases b <;> simp_all [negIf]
  ·cases hD
 ·cases hD

theorem put_rsf {F' : Nat → Prop} {ρ' : Nat → Option Nat} {H' : Nat → Option HO} {w' : World} (hr : RSf G F ρ T H n a w) (hm : MRel G F' ρ' H' w') (he : Ext G F ρ w F' ρ' w') (hk : HKeep w ρ H w' ρ' H') {dst : Option Nat} (hd : ∀ t, dst = some t → t < n) {v : AV} {y : Value} (hv : RelV w' F' ρ' H' v y) :
  RSf G F' ρ' (updT T dst v) H' n (a.put dst y) w' := by
 have hold : ∀ t v, T t = some v → RelV w' F' ρ' H' v (a.tmps.getD t undef) := fun t v h => (hr.tmps t v h).mono he.frz he.keep hk
 cases dst with
 | none => exact ⟨hr.size, hold, hm, hr.defs.ext he rfl⟩
 | some d =>
  refine ⟨by simp [Act.put]; exact hr.size, fun t u h => ?_, hm, hr.defs.ext he rfl⟩
  have hd := hd d rfl
  rw [← hr.size] at hd
  simp only [updT] at h
  by_cases e : t = d
  ·subst e
   rw [upd_same] at h; cases h
   simp [Act.put, Array.getD_eq_getD_getElem?, hd]; exact hv
  ·rw [upd_other _ _ e] at h
   have := hold t u h
   simpa [Act.put, Array.getD_eq_getD_getElem?, Array.getElem?_setIfInBounds_ne (Ne.symm e)] using this

theorem one_sound {i : Nat} (hi : ops[i]? = some o) {x : XO} (hx : compXO P ops o = some x) (hr : RSf G F ρ T H n a w) (hrt : ∀ t v, aget rt t = some v → T t = some v) {gv : Option AV}
  (hgv : ∀ t want v, x.guard = some (t, want) → gv = some v → T t = some v) (hl : ∀ id o, look id = some o → H id = some o) {site : Nat} {g : GDir} {d : Dir}
  (hD : runG G site look x g d gv rt = some D) (hdst : ∀ t, x.dst = some t → t < n) (hfresh : ∀ i, i ∈ D.al → H i = none) (hc : AllC (SpecQ P G) D.cs) {K : Act → World → Prop}
  (hK : ∀ y w' F' ρ', RSf G F' ρ' (updT T x.dst D.v) (updL H D.ws) n (a.put x.dst y) w' → Ext G F ρ w F' ρ' w' → HKeep w ρ H w' ρ' (updL H D.ws) → K (a.put x.dst y) w') : wpOpR P ops i K a w := by
 unfold compXO at hx
 split at hx
 ·rename_i op gd hop hg
  cases hx
  have hw := wanted_of (x := { dst := o.dst, op := op, guard := gd }) hg
  have hrel : ∀ t v, aget rt t = some v → RelV w F ρ H v (a.tmps.getD t undef) := fun t v h => hr.tmps t v (hrt t v h)
  have skip : ∀ {D' : Delta}, D'.ws = [] → (∀ y w' F' ρ', RSf G F' ρ' (updT T o.dst D'.v) (updL H D'.ws) n (a.put o.dst y) w' → Ext G F ρ w F' ρ' w' → HKeep w ρ H w' ρ' (updL H D'.ws) → K (a.put o.dst y) w') → RelV w F ρ H D'.v undef → K (a.put o.dst undef) w := by
   intro D' hws hK hv
   rw [hws] at hK
   exact hK undef w F ρ (put_rsf hr hr.mem (Ext.refl _ _ _) (HKeep.refl _ _ _) hdst hv) (Ext.refl _ _ _) (HKeep.refl _ _ _)
  have run : ∀ {D' : Delta}, runU G site look op d rt = some D' → AllC (SpecQ P G) D'.cs → (∀ i, i ∈ D'.al → H i = none) →
    (∀ y w' F' ρ', RSf G F' ρ' (updT T o.dst D'.v) (updL H D'.ws) n (a.put o.dst y) w' → Ext G F ρ w F' ρ' w' → HKeep w ρ H w' ρ' (updL H D'.ws) → K (a.put o.dst y) w') → OpOk P o a.eval w (fun v w' => K (a.put o.dst v) w') := by
   intro D' hD' hc' hf' hK'
   have hok := runU_sound (a := a) hop hr.mem hrel hl hD' hc' hf'
   refine hok.mono ?_
   rintro y w' ⟨F', ρ', q1, q2, q3, q4⟩
   exact hK' y w' F' ρ' (put_rsf hr q1 q2 q3 hdst q4) q2 q3
  unfold wpOpR
  rw [hi]
  simp only
  unfold runG at hD
  split at hD
  ·rename_i hgn
   simp only at hgn
   subst hgn
   rw [if_pos (hw a)]
   exact (run hD hc hfresh hK)
  ·rename_i t want hgs
   simp only at hgs
   subst hgs
   split at hD
   ·rename_i d0 b hgd
    have hbb : (d0 = true → a.tmps.getD t undef = .bool b) ∧ (d0 = false → a.tmps.getD t undef = undef) := by
     cases gv with
     | none => cases hgd
     | some v => exact gval_ok 8 hgd (hr.tmps t _ (hgv t want _ rfl rfl))
    have hwant : Region.wanted o (yielded ops a.tmps) = (d0 && negIf (!want) b) := hw a d0 b hbb.1 hbb.2
    rw [hwant]
    generalize (d0 && negIf (!want) b) = e at hD ⊢
    split at hD
    ·cases hn : e with
     | true =>
      rw [hn] at hD
      rw [if_pos rfl]
      exact (run hD hc hfresh hK)
     | false =>
      rw [hn] at hD
      cases hD
      rw [if_neg (by simp)]
      exact skip (D' := skipD []) rfl hK (.may _ _ _ (fun h => by cases h) (fun _ => rfl))
    ·split at hD
     ·rename_i D' hD'
      cases hD
      have hn : e = true := hc.1
      rw [hn, if_pos rfl]
      exact (run hD' hc.2 hfresh hK)
     ·cases hD
    ·split at hD
     ·rename_i D' hD'
      cases hD
      have hn : e = true := hc.1
      rw [hn, if_pos rfl]
      exact (run hD' hc.2 hfresh hK)
     ·cases hD
    ·cases hD
     have hn : (!e) = true := hc.1
     have hn' : e = false := by cases e <;> simp_all
     rw [hn', if_neg (by simp)]
     exact skip (D' := skipD [.b (!e)]) rfl hK (.may _ _ _ (fun h => by cases h) (fun _ => rfl))
    ·split at hD
     ·rename_i D' hD'
      split at hD
      ·rename_i hws hal
       cases hD
       cases hn : e with
       | true =>
        rw [if_pos rfl]
        subst hn
        refine (run hD' (geC_ok (b := true) (want := true) rfl hc) (fun i hi => by rw [hal] at hi; cases hi) fun y w' F' ρ' h1 h2 h3 => hK y w' F' ρ' ?_ h2 (by rw [hws] at h3; exact h3))
        rw [hws] at h1
        refine ⟨h1.size, fun t v h => ?_, h1.mem, h1.defs⟩
        cases hdd : o.dst with
        | none => rw [hdd] at h h1; exact h1.tmps t v h
        | some d' =>
         rw [hdd] at h h1
         simp only [updT] at h
         by_cases e : t = d'
         ·subst e
          rw [upd_same] at h; cases h
          exact mkMay_rel (fun _ => h1.tmps t _ (upd_same _ _ _)) (fun e => by cases e)
         ·rw [upd_other _ _ e] at h
          exact h1.tmps t v (by simp only [updT]; rw [upd_other _ _ e]; exact h)
       | false =>
        rw [if_neg (by simp)]
        subst hn
        exact skip (D' := { v := mkMay false D'.v, ws := [], al := [], cs := geC false true D'.cs }) rfl hK (mkMay_rel (fun e => by cases e) (fun _ => rfl))
      ·cases hD
     ·cases hD
   ·cases hD
 ·cases hx

end
end Go.Ab

/-
 Regions: in text order, and in any order that the edges allow.
-/
set_option linter.unusedVariables false
set_option linter.unusedSimpArgs false
namespace Go.Ab
open Go

abbrev Dirs := List (Nat × (GDir × Dir))
def dirOf (ds : Dirs) (s : Nat) : GDir × Dir := match aget ds s with
 | some d => d
 | none => (aget ds 0).getD (.auto, .plain)

def putS (S : St) (dst : Option Nat) (D : Delta) : St :=
 { t := match dst with | some t => aset S.t t D.v | none => S.t, h := asets S.h D.ws, n := S.n }
def okDst : Option Nat → Nat → Bool
 | none, _ => true
 | some t, n => Nat.ble (t + 1) n
def freshA (h : List (Nat × HO)) : List Nat → Bool
 | [] => true
 | i :: r => match aget h i with
  | none => freshA h r
  | some _ => false
def gvOf (T : List (Nat × AV)) : Option (Nat × Bool) → Option AV
 | some (t, _) => aget T t
 | none => none

def litS (S : St) : GDir → Option (Nat × Bool) → St
 | .onl, some (t, want) => { S with t := aset S.t t (.bool want) }
 | _, _ => S
def exOps (G : GL) (ds : Dirs) : List XO → Nat → St → Option (St × List Cd)
 | [], _, S => some (S, [])
 | x :: r, s, S => match runG G s (aget S.h) x (dirOf ds s).1 (dirOf ds s).2 (gvOf S.t x.guard) (readT S.t x.op.opds) with
  | some D => cond (okDst x.dst S.n && freshA S.h D.al) (match exOps G ds r (s + 1) (putS (litS S (dirOf ds s).1 x.guard) x.dst D) with
   | some (S', cs) => some (S', D.cs ++ cs)
   | none => none) none
  | none => none

def compXOs (P : Program) (ops : Array Oper) : List Oper → Option (List XO)
 | [] => some []
 | o :: r => match compXO P ops o, compXOs P ops r with
  | some x, some l => some (x :: l)
  | _, _ => none

def RS (G : GL) (F : Nat → Prop) (ρ : Nat → Option Nat) (S : St) (a : Act) (w : World) : Prop := RSf G F ρ (aget S.t) (aget S.h) S.n a w

section
variable {P : Program} {G : GL} {F : Nat → Prop} {ρ : Nat → Option Nat} {a : Act} {w : World} {ops : Array Oper} {R : Act → World → Prop}

theorem aget_asetV {α : Type} (l : List (Nat × α)) (i : Nat) (v : α) : aget (aset l i v) = upd (aget l) i (some v) := aget_aset l i v

theorem readT_get {T : List (Nat × AV)} : ∀ {os : List Opd} {t : Nat} {v : AV}, aget (readT T os) t = some v → aget T t = some v
 | [], t, v, h => by cases h
 | .t n :: r, t, v, h => by
  simp only [readT] at h
  split at h
  ·rename_i u hu
   simp only [aget] at h
   by_cases e : n = t
   ·subst e
    rw [beq_self, cond_true] at h; cases h; exact hu
   ·rw [beq_ne e, cond_false] at h; exact readT_get h
  ·exact readT_get h
 | .c _ :: r, t, v, h => readT_get (os := r) h
 | .g _ :: r, t, v, h => readT_get (os := r) h

theorem freshA_ok {h : List (Nat × HO)} : ∀ {l : List Nat}, freshA h l = true → ∀ i, i ∈ l → aget h i = none
 | [], _, i, hi => by simp at hi
 | j :: r, hf, i, hi => by
  simp only [freshA] at hf
  split at hf
  ·rename_i hn
   rcases List.mem_cons.1 hi with rfl | hi
   ·exact hn
   ·exact freshA_ok hf i hi
  ·cases hf

theorem okDst_ok {dst : Option Nat} {n : Nat} (h : okDst dst n = true) : ∀ t, dst = some t → t < n := by
 rintro t rfl
 exact Nat.le_of_ble_eq_true h

theorem putS_t (S : St) (dst : Option Nat) (D : Delta) : aget (putS S dst D).t = updT (aget S.t) dst D.v := by
 cases dst with
 | none => rfl
 | some t => exact aget_aset _ _ _
theorem putS_h (S : St) (dst : Option Nat) (D : Delta) : aget (putS S dst D).h = updL (aget S.h) D.ws := aget_asets _ _

theorem gvOf_ok {T : List (Nat × AV)} {g : Option (Nat × Bool)} {t : Nat} {want : Bool} {v : AV} (hg : g = some (t, want)) (hv : gvOf T g = some v) : aget T t = some v := by
 subst hg; exact hv

theorem put_defers' (a : Act) (d : Option Nat) (y : Value) : (a.put d y).defers = a.defers := by cases d <;> rfl

theorem exOps_sound {ds : Dirs} : ∀ (l : List Oper) (k : Nat) (xs : List XO) (s : Nat) (S S' : St) (cs : List Cd) (F : Nat → Prop) (ρ : Nat → Option Nat) (a : Act) (w : World), (∀ j, j < l.length → l[j]? = ops[k + j]?) → compXOs P ops l = some xs → exOps G ds xs s S = some (S', cs) → AllC (SpecQ P G) cs →
  RS G F ρ S a w → (∀ a' w' F' ρ', RS G F' ρ' S' a' w' → Ext G F ρ w F' ρ' w' → HKeep w ρ (aget S.h) w' ρ' (aget S'.h) → a'.defers = a.defers → R a' w') → wpOpsR P ops R (List.range' k l.length) a w
 | [], k, xs, s, S, S', cs, F, ρ, a, w, hl, hx, he, hc, hr, hQ => by
  cases hx
  simp only [exOps] at he
  cases he
  exact hQ a w F ρ hr (Ext.refl _ _ _) (HKeep.refl _ _ _) rfl
 | o :: l, k, xs, s, S, S', cs, F, ρ, a, w, hl, hx, he, hc, hr, hQ => by
  simp only [compXOs] at hx
  split at hx
  ·rename_i x xl hxo hxl
   cases hx
   simp only [exOps] at he
   split at he
   ·rename_i D hD
    rw [cond_eq_ite] at he
    split at he
    ·rename_i hcond
     split at he
     ·rename_i S'' cs' he'
      cases he
      rw [Bool.and_eq_true] at hcond
      obtain ⟨c1, c2⟩ := hc.app
      have h0 : ops[k]? = some o := by simpa using (hl 0 (by simp)).symm
      rw [List.length_cons, List.range'_succ]
      show wpOpR P ops k _ a w
      refine one_sound h0 hxo hr (fun t v h => readT_get h) (fun t want v hg hv => gvOf_ok hg hv) (fun _ _ h => h) hD (okDst_ok hcond.1) (freshA_ok hcond.2) c1 ?_
      intro y w' F' ρ' hr' hx' hk'
      obtain ⟨l1, l2, l3⟩ : (litS S (dirOf ds s).1 x.guard).h = S.h ∧ (litS S (dirOf ds s).1 x.guard).n = S.n ∧ RSf G F' ρ' (updT (aget (litS S (dirOf ds s).1 x.guard).t) x.dst D.v) (updL (aget S.h) D.ws) S.n (a.put x.dst y) w' := by
       unfold litS
       split
       ·rename_i t want hdir hgd
        refine ⟨rfl, rfl, hr'.size, ?_, hr'.mem, hr'.defs⟩
        intro u v hu
        show RelV w' F' ρ' (updL (aget S.h) D.ws) v _
        have hy : a.tmps.getD t undef = .bool want := onl_lit (by rw [← hdir]; exact hD) c1 hgd fun v hv => hr.tmps t v (gvOf_ok hgd hv)
        have e1 : aget (aset S.t t (AV.bool want)) = upd (aget S.t) t (some (.bool want)) := aget_aset _ _ _
        simp only [e1] at hu
        cases hdd : x.dst with
        | none =>
         rw [hdd] at hu hr'
         simp only [updT] at hu
         by_cases e : u = t
         ·subst e
          rw [upd_same] at hu; cases hu
          show RelV _ _ _ _ _ (a.tmps.getD u undef)
          rw [hy]; exact relBool _
         ·rw [upd_other _ _ e] at hu
          exact hr'.tmps u v hu
        | some d' =>
         rw [hdd] at hu hr'
         simp only [updT] at hu
         by_cases ed : u = d'
         ·subst ed
          rw [upd_same] at hu
          exact hr'.tmps u v (by simp only [updT]; rw [upd_same]; exact hu)
         ·rw [upd_other _ _ ed] at hu
          by_cases e : u = t
          ·subst e
           rw [upd_same] at hu; cases hu
           have : (a.put (some d') y).tmps.getD u undef = a.tmps.getD u undef := by
            simp [Act.put, Array.getD_eq_getD_getElem?, Array.getElem?_setIfInBounds_ne (Ne.symm ed)]
           rw [this, hy]; exact relBool _
          ·rw [upd_other _ _ e] at hu
           exact hr'.tmps u v (by simp only [updT]; rw [upd_other _ _ ed]; exact hu)
       ·exact ⟨rfl, rfl, hr'⟩
      generalize litS S (dirOf ds s).1 x.guard = S1 at l1 l2 l3 he'
      rw [← l1] at hk' l3
      rw [← l2] at l3
      rw [← putS_h S1 x.dst D] at hk'
      rw [l1] at hk'
      clear hr'
      have hr' := l3
      refine exOps_sound l (k + 1) xl (s + 1) (putS S1 x.dst D) S' cs' F' ρ' _ w' (fun j hj => by have := hl (j + 1) (by simpa using hj); simpa [Nat.add_assoc, Nat.add_comm 1 j] using this) hxl he' c2 ?_ ?_
      ·unfold RS; rw [putS_t, putS_h]; exact hr'
      ·intro a' w'' F'' ρ'' h1 h2 h3 h4
       exact hQ a' w'' F'' ρ'' h1 (hx'.trans h2) (hk'.trans h3) (h4.trans (put_defers' _ _ _))
     ·cases he
    ·cases he
   ·cases he
  ·cases hx

theorem reg_sound {xs : List XO} {s : Nat} {ds : Dirs} {S S' : St} {cs : List Cd} (hx : compXOs P ops ops.toList = some xs) (he : exOps G ds xs s S = some (S', cs)) (hc : AllC (SpecQ P G) cs) (hr : RS G F ρ S a w)
  (hQ : ∀ a' w' F' ρ', RS G F' ρ' S' a' w' → Ext G F ρ w F' ρ' w' → HKeep w ρ (aget S.h) w' ρ' (aget S'.h) → a'.defers = a.defers → R a' w') : wpOpsR P ops R (List.range ops.size) a w := by
 rw [List.range_eq_range']
 have := exOps_sound (R := R) ops.toList 0 xs s S S' cs F ρ a w (by simp) hx he hc hr hQ
 simpa using this

end
end Go.Ab

/-
 Regions in any order that the edges allow: what each operation reads and writes decides that the order does not matter.
-/
set_option linter.unusedVariables false
set_option linter.unusedSimpArgs false
namespace Go.Ab
open Go

structure Ent where
 x : XO
 s : Nat
 g : GDir
 d : Dir
 gv : Option AV
 rt : List (Nat × AV)
 rh : List (Nat × HO)
 D : Delta

def refsE : List (Nat × AV) → List Nat
 | [] => []
 | (_, .ep id _ _) :: r => id :: refsE r
 | (_, .full id _) :: r => id :: refsE r
 | (_, .fullc id _ _) :: r => id :: refsE r
 | (_, .sl id _ _ _) :: r => id :: refsE r
 | _ :: r => refsE r
def rhOf (look : Nat → Option HO) (op : XOp) (rt : List (Nat × AV)) : List Nat :=
 match op with
 | .load _ _ | .store _ _ _ | .nxt _ | .mlook _ _ _ _ _ | .mput _ _ _ _ _ | .mdel _ _ _ _ | .mlen _ => refsT rt
 | .fieldA _ _ | .nilck _ | .idxA _ _ _ _ | .len _ | .cap _ | .isnil _ _ _ => refsE rt
 | .slice _ _ _ _ _ | .slicea _ _ _ _ _ _ | .append _ _ _ _ _ | .copy _ _ _ | .bstr _ | .call _ _ | .callv _ _ => reachW look 1000000 (refsT rt) []
 | _ => []
def mkEnt (G : GL) (S : St) (x : XO) (s : Nat) (dd : GDir × Dir) : Option Ent :=
 let rt := readT S.t x.op.opds
 let rh := readF (aget S.h) (rhOf (aget S.h) x.op rt)
 let gv := gvOf S.t x.guard
 match runG G s (aget rh) x dd.1 dd.2 gv rt with
 | some D => cond (okDst x.dst S.n && freshA S.h D.al) (some { x, s, g := dd.1, d := dd.2, gv, rt, rh, D }) none
 | none => none

def nth? {α : Type} : List α → Nat → Option α
 | [], _ => none
 | x :: _, 0 => some x
 | _ :: r, n + 1 => nth? r n

def exEnts (G : GL) (ds : Dirs) (xs : List XO) (s : Nat) : List Nat → St → Option (St × List (Nat × Ent) × List Cd)
 | [], S => some (S, [], [])
 | i :: r, S => match nth? xs i with
  | some x => match mkEnt G S x (s + i) (dirOf ds (s + i)) with
   | some e => match exEnts G ds xs s r (putS S x.dst e.D) with
    | some (S', es, cs) => some (S', (i, e) :: es, e.D.cs ++ cs)
    | none => none
   | none => none
  | none => none

def optL : Option Nat → List Nat
 | some x => [x]
 | none => []
def gL : Option (Nat × Bool) → List Nat
 | some (x, _) => [x]
 | none => []
def apartE (e f : Ent) : Bool :=
 noneIn (optL e.x.dst) (keys f.rt ++ (gL f.x.guard ++ optL f.x.dst)) && (noneIn (optL f.x.dst) (keys e.rt ++ gL e.x.guard) &&
 (noneIn (keys e.D.ws) (keys f.rh ++ (f.D.al ++ keys f.D.ws)) && noneIn (keys f.D.ws) (keys e.rh ++ e.D.al)))

section
variable {P : Program} {G : GL} {ops : Array Oper} {R : Act → World → Prop}

theorem memN_iff {x : Nat} : ∀ {l : List Nat}, memN x l = true ↔ x ∈ l
 | [] => by simp [memN]
 | y :: r => by
  simp only [memN, cond_eq_ite]
  by_cases e : y = x
  ·subst e; simp [beq_self]
  ·rw [if_neg (by simp [beq_ne e]), memN_iff (l := r)]
   simp [Ne.symm e]

theorem noneIn_ok : ∀ {a l : List Nat}, noneIn a l = true → ∀ x, x ∈ a → x ∉ l
 | [], l, _, x, hx => by simp at hx
 | y :: r, l, h, x, hx => by
  simp only [noneIn, cond_eq_ite] at h
  split at h
  ·cases h
  ·rename_i hm
   rcases List.mem_cons.1 hx with rfl | hx
   ·exact fun hl => hm (memN_iff.2 hl)
   ·exact noneIn_ok h x hx

theorem keys_of_aget {α : Type} : ∀ {l : List (Nat × α)} {k : Nat} {v : α}, aget l k = some v → k ∈ keys l
 | [], k, v, h => by cases h
 | (j, u) :: r, k, v, h => by
  simp only [aget] at h
  by_cases e : j = k
  ·subst e; simp [keys]
  ·rw [beq_ne e, cond_false] at h
   simp only [keys, List.mem_cons]; right; exact keys_of_aget h

structure En (e : Ent) (T : Nat → Option AV) (H : Nat → Option HO) : Prop where
 rt : ∀ t v, aget e.rt t = some v → T t = some v
 gv : ∀ t want v, e.x.guard = some (t, want) → e.gv = some v → T t = some v
 rh : ∀ i o, aget e.rh i = some o → H i = some o
 al : ∀ i, i ∈ e.D.al → H i = none

theorem updL_other {H : Nat → Option HO} : ∀ {ws : List (Nat × HO)} {i : Nat}, i ∉ keys ws → updL H ws i = H i
 | [], i, h => rfl
 | (j, o) :: r, i, h => by
  simp only [keys, List.mem_cons, not_or] at h
  simp only [updL]
  rw [updL_other h.2, upd_other _ _ h.1]
theorem updL_congr {H H' : Nat → Option HO} {ws : List (Nat × HO)} {i : Nat} (h : H i = H' i) : updL H ws i = updL H' ws i := by
 induction ws generalizing H H' with
 | nil => exact h
 | cons p r ih =>
  obtain ⟨j, o⟩ := p
  simp only [updL]
  refine ih ?_
  by_cases e : i = j
  ·subst e; rw [upd_same, upd_same]
  ·rw [upd_other _ _ e, upd_other _ _ e]; exact h
theorem updL_comm {H : Nat → Option HO} {a b : List (Nat × HO)} (h : ∀ i, i ∈ keys a → i ∉ keys b) : updL (updL H a) b = updL (updL H b) a := by
 funext i
 by_cases hb : i ∈ keys b
 ·have ha : i ∉ keys a := fun ha => h i ha hb
  rw [updL_other (H := updL H b) ha]
  exact updL_congr (updL_other ha)
 ·rw [updL_other hb]
  exact updL_congr (updL_other hb).symm
theorem updT_other {T : Nat → Option AV} {dst : Option Nat} {v : AV} {t : Nat} (h : t ∉ optL dst) : updT T dst v t = T t := by
 cases dst with
 | none => rfl
 | some d => exact upd_other _ _ (by simpa [optL] using h)
theorem updT_comm {T : Nat → Option AV} {d e : Option Nat} {u v : AV} (h : ∀ t, t ∈ optL d → t ∉ optL e) : updT (updT T d u) e v = updT (updT T e v) d u := by
 cases d with
 | none => rfl
 | some d =>
  cases e with
  | none => rfl
  | some e =>
   have hne : d ≠ e := by simpa [optL] using h d (by simp [optL])
   funext t
   simp only [updT, upd]
   by_cases h1 : t = d
   ·subst h1; simp [hne]
   ·simp [h1]

structure Apart (e f : Ent) : Prop where
 d1 : ∀ t, t ∈ optL e.x.dst → t ∉ keys f.rt
 d2 : ∀ t, t ∈ optL e.x.dst → t ∉ gL f.x.guard
 d3 : ∀ t, t ∈ optL e.x.dst → t ∉ optL f.x.dst
 d4 : ∀ t, t ∈ optL f.x.dst → t ∉ keys e.rt
 d5 : ∀ t, t ∈ optL f.x.dst → t ∉ gL e.x.guard
 h1 : ∀ i, i ∈ keys e.D.ws → i ∉ keys f.rh
 h2 : ∀ i, i ∈ keys e.D.ws → i ∉ f.D.al
 h3 : ∀ i, i ∈ keys e.D.ws → i ∉ keys f.D.ws
 h4 : ∀ i, i ∈ keys f.D.ws → i ∉ keys e.rh
 h5 : ∀ i, i ∈ keys f.D.ws → i ∉ e.D.al

theorem apartE_ok {e f : Ent} (h : apartE e f = true) : Apart e f := by
 simp only [apartE, Bool.and_eq_true] at h
 obtain ⟨h1, h2, h3, h4⟩ := h
 have a1 := noneIn_ok h1
 have a2 := noneIn_ok h2
 have a3 := noneIn_ok h3
 have a4 := noneIn_ok h4
 simp only [List.mem_append, not_or] at a1 a2 a3 a4
 exact ⟨fun t h => (a1 t h).1, fun t h => (a1 t h).2.1, fun t h => (a1 t h).2.2, fun t h => (a2 t h).1, fun t h => (a2 t h).2, fun t h => (a3 t h).1, fun t h => (a3 t h).2.1, fun t h => (a3 t h).2.2, fun t h => (a4 t h).1, fun t h => (a4 t h).2⟩

def effT (e : Ent) (T : Nat → Option AV) : Nat → Option AV := updT T e.x.dst e.D.v
def effH (e : Ent) (H : Nat → Option HO) : Nat → Option HO := updL H e.D.ws

theorem En.later {e f : Ent} {T : Nat → Option AV} {H : Nat → Option HO} (ha : Apart e f) (he : En e T H) : En e (effT f T) (effH f H) :=
 ⟨fun t v h => by rw [effT, updT_other (fun hm => ha.d4 t hm (keys_of_aget h))]; exact he.rt t v h,
  fun t want v hg hv => by rw [effT, updT_other (fun hm => ha.d5 t hm (by rw [hg]; simp [gL]))]; exact he.gv t want v hg hv,
  fun i o h => by rw [effH, updL_other (fun hm => ha.h4 i hm (keys_of_aget h))]; exact he.rh i o h,
  fun i h => by rw [effH, updL_other (fun hm => ha.h5 i hm h)]; exact he.al i h⟩
theorem En.earlier {e f : Ent} {T : Nat → Option AV} {H : Nat → Option HO} (ha : Apart e f) (hf : En f (effT e T) (effH e H)) : En f T H :=
 ⟨fun t v h => by have := hf.rt t v h; rwa [effT, updT_other (fun hm => ha.d1 t hm (keys_of_aget h))] at this,
  fun t want v hg hv => by have := hf.gv t want v hg hv; rwa [effT, updT_other (fun hm => ha.d2 t hm (by rw [hg]; simp [gL]))] at this,
  fun i o h => by have := hf.rh i o h; rwa [effH, updL_other (fun hm => ha.h1 i hm (keys_of_aget h))] at this,
  fun i h => by have := hf.al i h; rwa [effH, updL_other (fun hm => ha.h2 i hm h)] at this⟩
theorem eff_comm {e f : Ent} {T : Nat → Option AV} {H : Nat → Option HO} (ha : Apart e f) : effT f (effT e T) = effT e (effT f T) ∧ effH f (effH e H) = effH e (effH f H) :=
 ⟨updT_comm ha.d3, updL_comm ha.h3⟩

def Chain (TF : Nat → Option AV) (HF : Nat → Option HO) : List (Nat × Ent) → (Nat → Option AV) → (Nat → Option HO) → Prop
 | [], T, H => T = TF ∧ H = HF
 | (_, e) :: r, T, H => En e T H ∧ Chain TF HF r (effT e T) (effH e H)

theorem Chain.pull {TF : Nat → Option AV} {HF : Nat → Option HO} {i : Nat} {f : Ent} {post : List (Nat × Ent)} : ∀ {pre : List (Nat × Ent)} {T : Nat → Option AV} {H : Nat → Option HO}, (∀ p ∈ pre, Apart p.2 f) → Chain TF HF (pre ++ (i, f) :: post) T H →
  En f T H ∧ Chain TF HF (pre ++ post) (effT f T) (effH f H)
 | [], T, H, _, h => h
 | (j, e) :: pre, T, H, ha, h => by
  have hae := ha (j, e) (by simp)
  obtain ⟨h1, h2⟩ := h
  obtain ⟨h3, h4⟩ := Chain.pull (fun p hp => ha p (by simp [hp])) h2
  obtain ⟨c1, c2⟩ := eff_comm (T := T) (H := H) hae
  rw [c1, c2] at h4
  exact ⟨h3.earlier hae, h1.later hae, h4⟩

def depOf (o : Oper) : List Nat := (o.after.toList.filter (Region.binds .any)).map (·.on)
def dpOf (ops : Array Oper) (i : Nat) : List Nat := match ops[i]? with
 | some o => depOf o
 | none => []

def DC (dp : Nat → List Nat) (listed : Array Bool) : Prop := ∀ j, listed.getD j false = true → ∀ k, k ∈ dp j → listed.getD k false = true
def AncOk (dp an : Nat → List Nat) : Prop := ∀ j i, i ∈ an j → ∀ listed, DC dp listed → (∀ k, k ∈ dp j → listed.getD k false = true) → listed.getD i false = true

def Pairs (dp an : Nat → List Nat) : List (Nat × Ent) → Prop
 | [] => True
 | (i, e) :: r => i ∉ dp i ∧ i ∉ keys r ∧ (∀ p ∈ r, p.1 ∉ dp i ∧ (i ∈ an p.1 ∨ Apart e p.2)) ∧ Pairs dp an r

theorem keys_app {α : Type} : ∀ {a b : List (Nat × α)}, keys (a ++ b) = keys a ++ keys b
 | [], b => rfl
 | (k, _) :: r, b => by simp [keys, keys_app (a := r)]
theorem mem_keys {α : Type} {k : Nat} : ∀ {l : List (Nat × α)}, k ∈ keys l → ∃ e, (k, e) ∈ l
 | [], h => by simp [keys] at h
 | (j, u) :: r, h => by
  simp only [keys, List.mem_cons] at h
  rcases h with rfl | h
  ·exact ⟨u, by simp⟩
  ·obtain ⟨e, he⟩ := mem_keys h; exact ⟨e, by simp [he]⟩
theorem keys_mem {α : Type} {k : Nat} {e : α} : ∀ {l : List (Nat × α)}, (k, e) ∈ l → k ∈ keys l
 | [], h => by simp at h
 | (j, u) :: r, h => by
  simp only [keys, List.mem_cons]
  rcases List.mem_cons.1 h with h | h
  ·cases h; exact .inl rfl
  ·exact .inr (keys_mem h)

theorem Pairs.split {dp an : Nat → List Nat} {i : Nat} {f : Ent} {post : List (Nat × Ent)} : ∀ {pre : List (Nat × Ent)}, Pairs dp an (pre ++ (i, f) :: post) →
  (∀ p ∈ pre, p.1 ∈ an i ∨ Apart p.2 f) ∧ Pairs dp an (pre ++ post) ∧ i ∉ keys (pre ++ post)
 | [], h => ⟨fun p hp => by simp at hp, h.2.2.2, h.2.1⟩
 | (j, e) :: pre, h => by
  have h : Pairs dp an ((j, e) :: (pre ++ (i, f) :: post)) := h
  obtain ⟨h1, h2, h3, h4⟩ := h
  obtain ⟨g1, g2, g3⟩ := Pairs.split h4
  have H2 : j ∉ keys (pre ++ post) := by
   intro hm
   refine h2 ?_
   rw [keys_app] at hm ⊢
   simp only [List.mem_append, keys, List.mem_cons] at hm ⊢
   rcases hm with hm | hm
   ·exact .inl hm
   ·exact .inr (.inr hm)
  have H3 : ∀ p, p ∈ pre ++ post → p.1 ∉ dp j ∧ (j ∈ an p.1 ∨ Apart e p.2) := fun p hp => h3 p (by
   simp only [List.mem_append, List.mem_cons] at hp ⊢
   rcases hp with hp | hp
   ·exact .inl hp
   ·exact .inr (.inr hp))
  have H4 : i ∉ keys ((j, e) :: (pre ++ post)) := by
   simp only [keys, List.mem_cons, not_or]
   refine ⟨fun e' => ?_, g3⟩
   subst e'
   refine h2 ?_
   rw [keys_app]
   simp [keys]
  refine ⟨fun p hp => ?_, ⟨h1, H2, H3, g2⟩, H4⟩
  rcases List.mem_cons.1 hp with rfl | hp
  ·exact (h3 (i, f) (by simp)).2
  ·exact g1 p hp

def EntOk (P : Program) (G : GL) (ops : Array Oper) (n : Nat) (p : Nat × Ent) : Prop :=
 ∃ o, ops[p.1]? = some o ∧ compXO P ops o = some p.2.x ∧ runG G p.2.s (aget p.2.rh) p.2.x p.2.g p.2.d p.2.gv p.2.rt = some p.2.D ∧ (∀ t, p.2.x.dst = some t → t < n) ∧ AllC (SpecQ P G) p.2.D.cs

theorem xo_dst {o : Oper} {x : XO} (h : compXO P ops o = some x) : x.dst = o.dst := by
 unfold compXO at h
 split at h
 ·cases h; rfl
 ·cases h

theorem getD_set_self {listed : Array Bool} {i : Nat} (d : Bool) (h : i < listed.size) : (listed.setIfInBounds i true).getD i d = true := by
 simp [h]

theorem any_sound {an : Nat → List Nat} (han : AncOk (dpOf ops) an) (hdl : ∀ i k, k ∈ dpOf ops i → k < ops.size) {TF : Nat → Option AV} {HF : Nat → Option HO} {n : Nat} : ∀ (fuel : Nat) (listed : Array Bool) (rem : List (Nat × Ent)) (F : Nat → Prop) (ρ : Nat → Option Nat) (T : Nat → Option AV) (H : Nat → Option HO) (a : Act) (w : World),
  rem.length = fuel → Pairs (dpOf ops) an rem → listed.size = ops.size → (∀ i, listed.getD i true = false ↔ i ∈ keys rem) → (∀ p, p ∈ rem → EntOk P G ops n p) → DC (dpOf ops) listed → Chain TF HF rem T H → RSf G F ρ T H n a w →
  (∀ a' w' F' ρ', RSf G F' ρ' TF HF n a' w' → Ext G F ρ w F' ρ' w' → HKeep w ρ H w' ρ' HF → a'.defers = a.defers → R a' w') → wpAnyR P ops R fuel listed a w := by
 intro fuel
 induction fuel with
 | zero =>
  intro listed rem F ρ T H a w hlen hp hsz hun hok hdc hch hr hQ
  have : rem = [] := by simpa using hlen
  subst this
  refine ⟨?_, ?_⟩
  ·cases e : Region.ready .any ops listed with
   | nil => rfl
   | cons j r =>
    have hj : j ∈ Region.ready .any ops listed := by rw [e]; simp
    have := (mem_ready.1 hj).1
    rw [hun] at this; simp [keys] at this
  ·obtain ⟨h1, h2⟩ := hch
   subst h1; subst h2
   exact hQ a w F ρ hr (Ext.refl _ _ _) (HKeep.refl _ _ _) rfl
 | succ fuel ih =>
  intro listed rem F ρ T H a w hlen hp hsz hun hok hdc hch hr hQ
  refine ⟨fun hnil => ?_, fun i hi => ?_⟩
  ·-- the first of what remains is ready
   exfalso
   cases rem with
   | nil => simp at hlen
   | cons p r =>
    obtain ⟨i, e⟩ := p
    obtain ⟨h1, h2, h3, h4⟩ := hp
    obtain ⟨o, ho, _⟩ := hok (i, e) (by simp)
    have hready : i ∈ Region.ready .any ops listed := by
     refine mem_ready.2 ⟨(hun i).2 (by simp [keys]), o, ho, fun ed hed hb => ?_⟩
     have hmem : ed.on ∈ dpOf ops i := by
      simp only [dpOf, ho, depOf, List.mem_map, List.mem_filter]
      exact ⟨ed, ⟨by simpa using hed, hb⟩, rfl⟩
     have hnot : ed.on ∉ keys ((i, e) :: r) := by
      simp only [keys, List.mem_cons, not_or]
      refine ⟨fun e' => h1 (e' ▸ hmem), fun hm => ?_⟩
      obtain ⟨f, hf⟩ := mem_keys hm
      exact (h3 _ hf).1 hmem
     have hnf : ¬ listed.getD ed.on true = false := fun h => hnot ((hun _).1 h)
     by_cases hlt : ed.on < listed.size
     ·simp only [Array.getD, hlt, dite_true] at hnf ⊢
      simpa using hnf
     ·have := hdl i _ hmem; omega
    rw [hnil] at hready; cases hready
  ·obtain ⟨h0, o, ho, hall⟩ := mem_ready.1 hi
   have him := (hun i).1 h0
   obtain ⟨f, hf⟩ := mem_keys him
   obtain ⟨pre, post, rfl⟩ := List.append_of_mem hf
   obtain ⟨g1, g2, g3⟩ := hp.split
   have hpl : ∀ k, k ∈ dpOf ops i → listed.getD k false = true := fun k hk => by
    simp only [dpOf, ho, depOf, List.mem_map, List.mem_filter] at hk
    obtain ⟨ed, ⟨h1, h2⟩, rfl⟩ := hk
    exact hall ed (by simpa using h1) h2
   have hap : ∀ p ∈ pre, Apart p.2 f := fun p hp => by
    rcases g1 p hp with h | h
    ·exfalso
     have h5 := han i p.1 h listed hdc hpl
     have h6 : listed.getD p.1 true = false := (hun p.1).2 (keys_mem (l := pre ++ (i, f) :: post) (e := p.2) (by simp [hp]))
     simp only [Array.getD_eq_getD_getElem?] at h5 h6
     cases e : listed[p.1]? with
     | none => rw [e] at h5; cases h5
     | some b => rw [e] at h5 h6; simp at h5 h6; rw [h5] at h6; cases h6
    ·exact h
   obtain ⟨c1, c2⟩ := Chain.pull hap hch
   obtain ⟨o', ho', hx, hD, hdst, hcs⟩ := hok (i, f) (by simp)
   rw [ho] at ho'; cases ho'
   have hilt : i < listed.size := by
    rw [hsz]; exact (Array.getElem?_eq_some_iff.1 ho).1
   refine one_sound (T := T) ho hx hr c1.rt c1.gv c1.rh hD hdst c1.al hcs ?_
   intro y w' F' ρ' hr' hx' hk'
   refine ih (listed.setIfInBounds i true) (pre ++ post) F' ρ' (effT f T) (effH f H) _ w' ?_ g2 (by simpa using hsz) (fun j => ?_) (fun p hp => hok p ?_) ?_ c2 hr' (fun a' w'' F'' ρ'' q1 q2 q3 q4 => hQ a' w'' F'' ρ'' q1 (hx'.trans q2) (hk'.trans q3) (q4.trans (put_defers' _ _ _)))
   ·simp at hlen ⊢; omega
   ·by_cases e : i = j
    ·subst e
     rw [getD_set_self true hilt]
     exact ⟨fun h => by simp at h, fun h => absurd h g3⟩
    ·rw [getD_set_ne true e, hun j]
     rw [keys_app, keys_app]
     simp only [keys, List.mem_append, List.mem_cons]
     exact ⟨fun h => by rcases h with h | h | h; exact .inl h; exact absurd h.symm e; exact .inr h, fun h => by rcases h with h | h; exact .inl h; exact .inr (.inr h)⟩
   ·simp only [List.mem_append, List.mem_cons] at hp ⊢
    rcases hp with hp | hp
    ·exact .inl hp
    ·exact .inr (.inr hp)
   ·intro j hj k hk
    by_cases e : i = j
    ·subst e; exact getD_set_true (hpl k hk)
    ·rw [getD_set_ne false e] at hj
     exact getD_set_true (hdc j hj k hk)

end
end Go.Ab

/-
 Regions in any order: the checks, and what follows.
-/
set_option linter.unusedVariables false
set_option linter.unusedSimpArgs false
namespace Go.Ab
open Go

def depN (dep : List (List Nat)) (i : Nat) : List Nat := (nth? dep i).getD []
def uni : List Nat → List Nat → List Nat
 | [], acc => acc
 | x :: r, acc => uni r (cond (memN x acc) acc (x :: acc))
def tbN (tbl : List (Nat × List Nat)) (i : Nat) : List Nat := (aget tbl i).getD []
def ancOf (tbl : List (Nat × List Nat)) : List Nat → List Nat → List Nat
 | [], acc => acc
 | k :: r, acc => ancOf tbl r (uni (k :: tbN tbl k) acc)
def ancTab (dep : List (List Nat)) : List Nat → List (Nat × List Nat) → List (Nat × List Nat)
 | [], tbl => tbl
 | j :: r, tbl => ancTab dep r ((j, ancOf tbl (depN dep j) []) :: tbl)
def pairB (dep : List (List Nat)) (tbl : List (Nat × List Nat)) (i : Nat) (e : Ent) : List (Nat × Ent) → Bool
 | [] => true
 | (j, f) :: r => cond (Nat.beq i j) false (cond (memN j (depN dep i)) false (cond (cond (memN i (tbN tbl j)) true (apartE e f)) (pairB dep tbl i e r) false))
def pairsB (dep : List (List Nat)) (tbl : List (Nat × List Nat)) : List (Nat × Ent) → Bool
 | [] => true
 | (i, e) :: r => cond (memN i (depN dep i)) false (cond (pairB dep tbl i e r) (pairsB dep tbl r) false)
def allMem (ord : List Nat) : Nat → Bool
 | 0 => true
 | n + 1 => cond (memN n ord) (allMem ord n) false
def allLt (n : Nat) : List Nat → Bool
 | [] => true
 | i :: r => cond (Nat.ble (i + 1) n) (allLt n r) false
def depB (n : Nat) : List (List Nat) → Bool
 | [] => true
 | l :: r => cond (allLt n l) (depB n r) false
def drawB (dep : List (List Nat)) (ord : List Nat) (n : Nat) (es : List (Nat × Ent)) : Bool :=
 Nat.beq ord.length n && (allMem ord n && (depB n dep && (allLt n ord && pairsB dep (ancTab dep ord []) es)))

section
variable {P : Program} {G : GL} {ops : Array Oper} {R : Act → World → Prop}

theorem uni_mem {i : Nat} : ∀ {l acc : List Nat}, i ∈ uni l acc → i ∈ l ∨ i ∈ acc
 | [], acc, h => .inr h
 | x :: r, acc, h => by
  simp only [uni] at h
  rcases uni_mem h with h | h
  ·exact .inl (by simp [h])
  ·rw [cond_eq_ite] at h
   split at h
   ·exact .inr h
   ·rcases List.mem_cons.1 h with rfl | h
    ·exact .inl (by simp)
    ·exact .inr h

theorem ancOf_mem {tbl : List (Nat × List Nat)} {i : Nat} : ∀ {l acc : List Nat}, i ∈ ancOf tbl l acc → (∃ k, k ∈ l ∧ (i = k ∨ i ∈ tbN tbl k)) ∨ i ∈ acc
 | [], acc, h => .inr h
 | x :: r, acc, h => by
  simp only [ancOf] at h
  rcases ancOf_mem h with ⟨k, h1, h2⟩ | h
  ·exact .inl ⟨k, by simp [h1], h2⟩
  ·rcases uni_mem h with h | h
   ·rcases List.mem_cons.1 h with h | h
    ·exact .inl ⟨x, by simp, .inl h⟩
    ·exact .inl ⟨x, by simp, .inr h⟩
   ·exact .inr h

theorem ancTab_ok {dep : List (List Nat)} {dp : Nat → List Nat} (hd : ∀ i, dp i = depN dep i) : ∀ {l : List Nat} {tbl : List (Nat × List Nat)}, AncOk dp (tbN tbl) → AncOk dp (tbN (ancTab dep l tbl))
 | [], tbl, h => h
 | j :: r, tbl, h => by
  refine ancTab_ok hd (l := r) ?_
  intro k i hi listed hdc hpl
  simp only [tbN, aget] at hi
  by_cases e : j = k
  ·subst e
   rw [beq_self, cond_true] at hi
   rcases ancOf_mem hi with ⟨q, h1, h2⟩ | h1
   ·rw [← hd] at h1
    have hq := hpl q h1
    rcases h2 with rfl | h2
    ·exact hq
    ·exact h q i h2 listed hdc (hdc q hq)
   ·simp at h1
  ·rw [beq_ne e, cond_false] at hi
   exact h k i hi listed hdc hpl

theorem pairB_ok {dep : List (List Nat)} {tbl : List (Nat × List Nat)} {i : Nat} {e : Ent} : ∀ {l : List (Nat × Ent)}, pairB dep tbl i e l = true → i ∉ keys l ∧ ∀ p, p ∈ l → p.1 ∉ depN dep i ∧ (i ∈ tbN tbl p.1 ∨ Apart e p.2)
 | [], _ => ⟨by simp [keys], fun p hp => by simp at hp⟩
 | (j, f) :: r, h => by
  simp only [pairB, cond_eq_ite] at h
  split at h
  ·cases h
  ·rename_i h1
   split at h
   ·cases h
   ·rename_i h2
    have key : (i ∈ tbN tbl j ∨ Apart e f) ∧ pairB dep tbl i e r = true := by
     cases hm : memN i (tbN tbl j) with
     | true => rw [hm] at h; simp at h; exact ⟨.inl (memN_iff.1 hm), h⟩
     | false =>
      cases ha : apartE e f with
      | true => rw [hm, ha] at h; simp at h; exact ⟨.inr (apartE_ok ha), h⟩
      | false => rw [hm, ha] at h; simp at h
    obtain ⟨g1, g2⟩ := pairB_ok key.2
    refine ⟨?_, fun p hp => ?_⟩
    ·simp only [keys, List.mem_cons, not_or]
     exact ⟨fun e => h1 (e ▸ beq_self i), g1⟩
    ·rcases List.mem_cons.1 hp with rfl | hp
     ·exact ⟨fun hm => h2 (memN_iff.2 hm), key.1⟩
     ·exact g2 p hp

theorem pairsB_ok {dep : List (List Nat)} {tbl : List (Nat × List Nat)} {dp : Nat → List Nat} (hd : ∀ i, dp i = depN dep i) : ∀ {l : List (Nat × Ent)}, pairsB dep tbl l = true → Pairs dp (tbN tbl) l
 | [], _ => trivial
 | (i, e) :: r, h => by
  simp only [pairsB, cond_eq_ite] at h
  split at h
  ·cases h
  ·rename_i h1
   split at h
   ·rename_i h2
    obtain ⟨g1, g2⟩ := pairB_ok h2
    exact ⟨fun hm => h1 (memN_iff.2 (hd i ▸ hm)), g1, fun p hp => ⟨fun hm => (g2 p hp).1 (hd i ▸ hm), (g2 p hp).2⟩, pairsB_ok hd h⟩
   ·cases h

theorem allMem_ok {ord : List Nat} : ∀ {n : Nat}, allMem ord n = true → ∀ i, i < n → i ∈ ord
 | 0, _, i, h => by omega
 | n + 1, h, i, hi => by
  simp only [allMem, cond_eq_ite] at h
  split at h
  ·rename_i h1
   by_cases e : i = n
   ·subst e; exact memN_iff.1 h1
   ·exact allMem_ok h i (by omega)
  ·cases h
theorem allLt_ok {n : Nat} : ∀ {l : List Nat}, allLt n l = true → ∀ i, i ∈ l → i < n
 | [], _, i, h => by simp at h
 | j :: r, h, i, hi => by
  simp only [allLt, cond_eq_ite] at h
  split at h
  ·rename_i h1
   rcases List.mem_cons.1 hi with rfl | hi
   ·exact Nat.le_of_ble_eq_true h1
   ·exact allLt_ok h i hi
  ·cases h
theorem nth?_mem {α : Type} : ∀ {l : List α} {i : Nat} {x : α}, nth? l i = some x → x ∈ l
 | [], i, x, h => by cases h
 | y :: r, 0, x, h => by cases h; simp
 | y :: r, i + 1, x, h => by simp only [List.mem_cons]; right; exact nth?_mem (by simpa [nth?] using h)
theorem depB_ok {n : Nat} : ∀ {l : List (List Nat)}, depB n l = true → ∀ d, d ∈ l → ∀ i, i ∈ d → i < n
 | [], _, d, h => by simp at h
 | j :: r, h, d, hi => by
  simp only [depB, cond_eq_ite] at h
  split at h
  ·rename_i h1
   rcases List.mem_cons.1 hi with rfl | hi
   ·exact allLt_ok h1
   ·exact depB_ok h d hi
  ·cases h
theorem nth?_eq {α : Type} : ∀ {l : List α} {i : Nat}, nth? l i = l[i]?
 | [], i => by simp [nth?]
 | x :: r, 0 => by simp [nth?]
 | x :: r, i + 1 => by simp [nth?, nth?_eq (l := r)]

theorem dep_eq {dep : List (List Nat)} (h : ops.toList.map depOf = dep) (i : Nat) : dpOf ops i = depN dep i := by
 subst h
 simp only [dpOf, depN, nth?_eq, List.getElem?_map, Array.getElem?_toList]
 cases ops[i]? <;> rfl

theorem compXOs_get {l : List Oper} : ∀ {xs : List XO}, compXOs P ops l = some xs → ∀ {i : Nat} {x : XO}, nth? xs i = some x → ∃ o, l[i]? = some o ∧ compXO P ops o = some x := by
 induction l with
 | nil => intro xs h i x hx; cases h; cases hx
 | cons o r ih =>
  intro xs h i x hx
  simp only [compXOs] at h
  split at h
  ·rename_i y l' h1 h2
   cases h
   cases i with
   | zero => simp only [nth?] at hx; cases hx; exact ⟨o, by simp, h1⟩
   | succ i =>
    obtain ⟨o', g1, g2⟩ := ih h2 (by simpa [nth?] using hx)
    exact ⟨o', by simpa using g1, g2⟩
  ·cases h

theorem compXOs_len {l : List Oper} : ∀ {xs : List XO}, compXOs P ops l = some xs → xs.length = l.length := by
 induction l with
 | nil => intro xs h; cases h; rfl
 | cons o r ih =>
  intro xs h
  simp only [compXOs] at h
  split at h
  ·rename_i y l' h1 h2; cases h; simp [ih h2]
  ·cases h

theorem exEnts_ok {ds : Dirs} {xs : List XO} {s : Nat} (hx : compXOs P ops ops.toList = some xs) : ∀ {ord : List Nat} {S S' : St} {es : List (Nat × Ent)} {cs : List Cd}, exEnts G ds xs s ord S = some (S', es, cs) → AllC (SpecQ P G) cs →
  keys es = ord ∧ S'.n = S.n ∧ (∀ p, p ∈ es → EntOk P G ops S.n p) ∧ Chain (aget S'.t) (aget S'.h) es (aget S.t) (aget S.h)
 | [], S, S', es, cs, h, hc => by
  simp only [exEnts] at h
  cases h
  exact ⟨rfl, rfl, fun p hp => by simp at hp, rfl, rfl⟩
 | i :: r, S, S', es, cs, h, hc => by
  simp only [exEnts] at h
  split at h
  ·rename_i x hxi
   split at h
   ·rename_i e he
    split at h
    ·rename_i S'' es' cs' h'
     cases h
     obtain ⟨c1, c2⟩ := hc.app
     obtain ⟨g1, g2, g3, g4⟩ := exEnts_ok hx h' c2
     obtain ⟨o, ho, hxo⟩ := compXOs_get hx hxi
     simp only [mkEnt] at he
     split at he
     ·rename_i D hD
      rw [cond_eq_ite] at he
      split at he
      ·rename_i hcond
       cases he
       rw [Bool.and_eq_true] at hcond
       refine ⟨by simp [keys, g1], g2, fun p hp => ?_, ⟨?_, ?_, ?_, ?_⟩, ?_⟩
       ·rcases List.mem_cons.1 hp with rfl | hp
        ·exact ⟨o, by simpa using ho, hxo, hD, okDst_ok hcond.1, c1⟩
        ·exact g3 p hp
       ·intro t v hv; exact readT_get hv
       ·intro t want v hg hv; exact gvOf_ok hg hv
       ·intro j o' hj; exact readF_get hj
       ·exact freshA_ok hcond.2
       ·rw [putS_t, putS_h] at g4; exact g4
      ·cases he
     ·cases he
    ·cases h
   ·cases h
  ·cases h

theorem draw_sound {F : Nat → Prop} {ρ : Nat → Option Nat} {a : Act} {w : World} {xs : List XO} {dep : List (List Nat)} {ord : List Nat} {s : Nat} {ds : Dirs} {S S' : St} {es : List (Nat × Ent)} {cs : List Cd}
  (hx : compXOs P ops ops.toList = some xs) (hdep : ops.toList.map depOf = dep) (he : exEnts G ds xs s ord S = some (S', es, cs)) (hB : drawB dep ord xs.length es = true) (hc : AllC (SpecQ P G) cs) (hr : RS G F ρ S a w)
  (hQ : ∀ a' w' F' ρ', RS G F' ρ' S' a' w' → Ext G F ρ w F' ρ' w' → HKeep w ρ (aget S.h) w' ρ' (aget S'.h) → a'.defers = a.defers → R a' w') : wpAnyR P ops R ops.size (Array.replicate ops.size false) a { w with drawn := w.drawn + 1 } := by
 obtain ⟨k1, k2, k3, k4⟩ := exEnts_ok hx he hc
 simp only [drawB, Bool.and_eq_true] at hB
 obtain ⟨b1, b2, b3, b4, b5⟩ := hB
 have hlen : xs.length = ops.size := by rw [compXOs_len hx]; simp
 have hd := dep_eq (ops := ops) hdep
 have hsame := hr.mem.same (w' := { w with drawn := w.drawn + 1 }) rfl ⟨rfl, rfl, fun _ => ⟨rfl, Nat.le_succ _⟩⟩
 refine (any_sound (an := tbN (ancTab dep ord [])) (ancTab_ok hd (fun j i hi => by simp [tbN, aget] at hi)) (fun i k hk => ?_) (n := S.n) (TF := aget S'.t) (HF := aget S'.h) ops.size _ es F ρ (aget S.t) (aget S.h) a _ ?_ (pairsB_ok hd b5) (by simp) (fun i => ?_) k3 (fun j hj => ?_) k4 ?_ ?_)
 ·rw [hd] at hk
  simp only [depN] at hk
  cases e : nth? dep i with
  | none => rw [e] at hk; simp at hk
  | some l =>
   rw [e] at hk
   rw [← hlen]
   exact depB_ok b3 l (nth?_mem e) k (by simpa using hk)
 ·have hk : ∀ (l : List (Nat × Ent)), (keys l).length = l.length := fun l => by
   induction l with
   | nil => rfl
   | cons p r ih => obtain ⟨i, e⟩ := p; simp [keys, ih]
  rw [← hk es, k1, Nat.eq_of_beq_eq_true b1, hlen]
 ·rw [k1]
  have : (Array.replicate ops.size false).getD i true = false ↔ i < ops.size := by
   by_cases h : i < ops.size <;> simp [Array.getD, h]
  rw [this, ← hlen]
  exact ⟨allMem_ok b2 i, allLt_ok b4 i⟩
 ·exfalso
  by_cases h : j < ops.size <;> simp [Array.getD, h] at hj
 ·exact ⟨hr.size, fun t v h => (hr.tmps t v h).mono hsame.2.1.frz hsame.2.1.keep hsame.2.2, hsame.1, hr.defs.ext hsame.2.1 rfl⟩
 ·intro a' w' F' ρ' h1 h2 h3 h4
  refine hQ a' w' F' ρ' ?_ (hsame.2.1.trans h2) (hsame.2.2.trans h3) h4
  unfold RS; rw [k2]; exact h1

end
end Go.Ab

/-
 Code, walked in a frame of a function or of a round: it ends normally, at an exit, or at a return.
-/
set_option linter.unusedVariables false
set_option linter.unusedSimpArgs false
namespace Go.Ab
open Go

def ArrR (P : Program) (m : Machine) (b : Frame) (k : List Item) (cs : List Frame) : Ex → Act → World → Prop
 | .normal, a, w => Steps P m (lone (b.atR a k) cs w)
 | .exit id, a, w => ∃ k0, exitTo id k0 = exitTo id k ∧ Steps P m (lone (b.atR a (.code (.exit id) :: k0)) cs w)
 | .ret, a, w => ∃ todo, Steps P m (lone (b.atR a (.code .ret :: todo)) cs w)

def wpR (P : Program) (ro : Option Nat) (c : Code) (Q : Ex → Act → World → Prop) (a : Act) (w : World) : Prop :=
 ∀ (b : Frame) (k : List Item) (cs : List Frame), b.roundOf = ro → ∃ e a' w', Q e a' w' ∧ ArrR P (lone (b.atR a (.code c :: k)) cs w) b k cs e a' w'

section
variable {P : Program} {ro : Option Nat} {Q : Ex → Act → World → Prop} {a : Act} {w : World}

theorem ArrR.of_steps {m m₁ : Machine} {b : Frame} {k : List Item} {cs : List Frame} {e : Ex} {a : Act} {w : World} (h : Steps P m m₁) (h' : ArrR P m₁ b k cs e a w) : ArrR P m b k cs e a w := by
 cases e with
 | normal => exact h.trans h'
 | exit id => obtain ⟨k0, h1, h2⟩ := h'; exact ⟨k0, h1, h.trans h2⟩
 | ret => obtain ⟨todo, hs⟩ := h'; exact ⟨todo, h.trans hs⟩

theorem ArrR.pass {m : Machine} {b : Frame} {k k' : List Item} {cs : List Frame} {e : Ex} {a : Act} {w : World} (hn : e ≠ .normal) (hk : ∀ id, e = .exit id → exitTo id k = exitTo id k') (h : ArrR P m b k cs e a w) : ArrR P m b k' cs e a w := by
 cases e with
 | normal => exact absurd rfl hn
 | exit id => obtain ⟨k0, h1, h2⟩ := h; exact ⟨k0, h1.trans (hk id rfl), h2⟩
 | ret => exact h

theorem wpR.mono {c : Code} {Q' : Ex → Act → World → Prop} (h : wpR P ro c Q a w) (hq : ∀ e a w, Q e a w → Q' e a w) : wpR P ro c Q' a w :=
 fun b k cs hb => let ⟨e, a', w', q, r⟩ := h b k cs hb; ⟨e, a', w', hq _ _ _ q, r⟩

theorem wpR_skip (h : Q .normal a w) : wpR P ro .skip Q a w := fun _ _ _ _ => ⟨.normal, a, w, h, .one stepR_skip⟩
theorem wpR_label {l : Nat} (h : Q .normal a w) : wpR P ro (.label l) Q a w := by
 intro b k cs hb
 have s1 : step P (lone (b.atR a (.code (.label l) :: k)) cs w) = .next (lone (b.atR a k) cs w) := step_lone_go (by simp [stepG, stepG.exec, Frame.atR])
 exact ⟨.normal, a, w, h, .one s1⟩
theorem wpR_exit {id : Nat} (h : Q (.exit id) a w) : wpR P ro (.exit id) Q a w := fun b k cs hb => ⟨.exit id, a, w, h, k, rfl, Steps.refl _ _⟩
theorem wpR_ret (h : Q .ret a w) : wpR P ro .ret Q a w := fun b k cs hb => ⟨.ret, a, w, h, k, Steps.refl _ _⟩

theorem wpR_seq {x y : Code} (h : wpR P ro x (fun e a w => (e = .normal ∧ wpR P ro y Q a w) ∨ (e ≠ .normal ∧ Q e a w)) a w) : wpR P ro (.seq x y) Q a w := by
 intro b k cs hb
 obtain ⟨e, a₁, w₁, hq, harr⟩ := h b (.code y :: k) cs hb
 rcases hq with ⟨rfl, hy⟩ | ⟨hn, hq⟩
 ·obtain ⟨e₂, a₂, w₂, hq₂, harr₂⟩ := hy b k cs hb
  exact ⟨e₂, a₂, w₂, hq₂, .of_steps (.head stepR_seq harr) harr₂⟩
 ·exact ⟨e, a₁, w₁, hq, .of_steps (.one stepR_seq) (ArrR.pass (k := .code y :: k) (k' := k) hn (fun id _ => rfl) harr)⟩

theorem wpR_cond {c : Operand} {x y : Code} {t : Bool} (hc : a.eval c = .bool t) (h : wpR P ro (if t then x else y) Q a w) : wpR P ro (.cond c x y) Q a w := by
 intro b k cs hb
 obtain ⟨e, a₁, w₁, hq, harr⟩ := h b k cs hb
 exact ⟨e, a₁, w₁, hq, .of_steps (.one (stepR_cond hc)) harr⟩

theorem wpR_block {id : Nat} {c : Code} (h : wpR P ro c (fun e a w => (e = .exit id ∧ Q .normal a w) ∨ (e ≠ .exit id ∧ Q e a w)) a w) : wpR P ro (.block id c) Q a w := by
 intro b k cs hb
 obtain ⟨e, a₁, w₁, hq, harr⟩ := h b (.inBlock id :: k) cs hb
 rcases hq with ⟨rfl, hq⟩ | ⟨hn, hq⟩
 ·obtain ⟨k0, h1, h2⟩ := harr
  refine ⟨.normal, a₁, w₁, hq, ?_⟩
  exact Steps.head stepR_block (h2.trans (.one (stepR_exit (k' := k) (by rw [h1]; simp [exitTo]))))
 ·cases e with
  | normal => exact ⟨.normal, a₁, w₁, hq, .head stepR_block (Steps.trans harr (.one stepR_inBlock))⟩
  | exit id' =>
   refine ⟨.exit id', a₁, w₁, hq, .of_steps (.one stepR_block) (harr.pass (by simp) (fun i e => ?_))⟩
   cases e
   have hne : id ≠ id' := fun e => hn (by rw [e])
   have : (id == id') = false := by simpa using hne
   simp [exitTo, this]
  | ret => exact ⟨.ret, a₁, w₁, hq, .of_steps (.one stepR_block) (harr.pass (by simp) (fun i e => by cases e))⟩

theorem wpR_loop {c : Code} (I : Nat → Act → World → Prop) {n : Nat} (h₀ : I n a w)
  (round : ∀ n a w, I n a w → wpR P ro c (fun e a' w' => (e = .normal ∧ ∃ n', n' < n ∧ I n' a' w') ∨ (e ≠ .normal ∧ Q e a' w')) a w) : wpR P ro (.loop c) Q a w := by
 intro b k cs hb
 have key : ∀ n a w, I n a w → ∃ e a' w', Q e a' w' ∧ ArrR P (lone (b.atR a (.code c :: .inLoop c :: k)) cs w) b k cs e a' w' := by
  intro n
  induction n using Nat.strongRecOn with
  | _ n ih =>
   intro a w hI
   obtain ⟨e, a₁, w₁, hq, harr⟩ := round n a w hI b (.inLoop c :: k) cs hb
   rcases hq with ⟨rfl, n', hlt, hI₁⟩ | ⟨hn, hq⟩
   ·obtain ⟨e₂, a₂, w₂, hq₂, harr₂⟩ := ih n' hlt a₁ w₁ hI₁
    exact ⟨e₂, a₂, w₂, hq₂, .of_steps (Steps.trans harr (.one stepR_inLoop)) harr₂⟩
   ·exact ⟨e, a₁, w₁, hq, ArrR.pass (k := .inLoop c :: k) (k' := k) hn (fun id _ => rfl) harr⟩
 obtain ⟨e, a', w', hq, harr⟩ := key n a w h₀
 exact ⟨e, a', w', hq, .of_steps (.one stepR_loop) harr⟩

theorem wpR_scope {c : Code} (h : wpR P ro c Q a w) : wpR P ro (.scope c) Q a w := by
 intro b k cs hb
 obtain ⟨e, a₁, w₁, hq, harr⟩ := h b (.inScope c :: k) cs hb
 have s1 : step P (lone (b.atR a (.code (.scope c) :: k)) cs w) = .next (lone (b.atR a (.code c :: .inScope c :: k)) cs w) := step_lone_go (by simp [stepG, stepG.exec, Frame.atR])
 refine ⟨e, a₁, w₁, hq, .of_steps (.one s1) ?_⟩
 cases e with
 | normal => exact Steps.trans harr (.one (step_lone_go (by simp [stepG, stepG.exec, Frame.atR])))
 | exit id => obtain ⟨k0, h1, h2⟩ := harr; exact ⟨k0, h1.trans rfl, h2⟩
 | ret => exact harr

theorem cons_ne {α : Type} {x : α} {l : List α} : x :: l ≠ l := fun h => by have := congrArg List.length h; simp at this

theorem wpR_unloop {c : Code} (h : wpR P ro (.loop c) Q a w) (b : Frame) (k : List Item) (cs : List Frame) (hb : b.roundOf = ro) :
  ∃ e a' w', Q e a' w' ∧ ArrR P (lone (b.atR a (.code c :: .inLoop c :: k)) cs w) b k cs e a' w' := by
 obtain ⟨e, a', w', hq, harr⟩ := h b k cs hb
 refine ⟨e, a', w', hq, ?_⟩
 have tail : ∀ {m}, m ≠ lone (b.atR a (.code (.loop c) :: k)) cs w → Steps P (lone (b.atR a (.code (.loop c) :: k)) cs w) m → Steps P (lone (b.atR a (.code c :: .inLoop c :: k)) cs w) m := by
  intro m hne hs
  obtain ⟨n, hs⟩ := hs
  cases n with
  | zero => simp [runN] at hs; exact absurd hs.symm hne
  | succ n =>
   simp only [runN, stepR_loop] at hs
   exact ⟨n, hs⟩
 cases e with
 | normal => exact tail (fun e => by simp [lone, Frame.atR] at e) harr
 | exit id => obtain ⟨k0, h1, h2⟩ := harr; exact ⟨k0, h1, tail (fun e => by simp [lone, Frame.atR] at e) h2⟩
 | ret => obtain ⟨t, h2⟩ := harr; exact ⟨t, tail (fun e => by simp [lone, Frame.atR] at e) h2⟩

theorem wpR_loop1 {c : Code} (h : wpR P ro c (fun e a' w' => (e = .normal ∧ wpR P ro (.loop c) Q a' w') ∨ (e ≠ .normal ∧ Q e a' w')) a w) : wpR P ro (.loop c) Q a w := by
 intro b k cs hb
 obtain ⟨e, a₁, w₁, hq, harr⟩ := h b (.inLoop c :: k) cs hb
 rcases hq with ⟨rfl, hl⟩ | ⟨hn, hq⟩
 ·obtain ⟨e₂, a₂, w₂, hq₂, harr₂⟩ := wpR_unloop hl b k cs hb
  exact ⟨e₂, a₂, w₂, hq₂, .of_steps (.head stepR_loop (Steps.trans harr (.one stepR_inLoop))) harr₂⟩
 ·exact ⟨e, a₁, w₁, hq, .of_steps (.one stepR_loop) (ArrR.pass (k := .inLoop c :: k) (k' := k) hn (fun id _ => rfl) harr)⟩

theorem wpOps_steps {ops : Array Oper} {R : Act → World → Prop} (hdef : ∀ (i : Nat) (o : Oper), ops[i]? = some o → ∀ c, o.op ≠ .defer c) (l : List Nat) :
  ∀ (a : Act) (w : World), wpOpsR P ops R l a w → ∀ (b : Frame) (k : List Item) (cs : List Frame),
   ∃ a' w', R a' w' ∧ Steps P (lone (b.atR a (.inRegion ops l :: k)) cs w) (lone (b.atR a' k) cs w') := by
 induction l with
 | nil => exact fun a w h b k cs => ⟨a, w, h, .one stepR_region_end⟩
 | cons i rest ih =>
  intro a w h b k cs
  simp only [wpOpsR, wpOpR] at h
  cases ho : ops[i]? with
  | none =>
   simp only [ho] at h
   obtain ⟨a', w', hq, hs'⟩ := ih a w h b k cs
   have hs := stepR_op_skip (P := P) (b := b) (a := a) (k := k) (cs := cs) (w := w) (ops := ops) (i := i) (rest := rest) (by simp [ho])
   simp only [ho, Option.bind_none, Act.put] at hs
   exact ⟨a', w', hq, .head hs hs'⟩
  | some o =>
   simp only [ho] at h
   by_cases hw : Region.wanted o (yielded ops a.tmps) = true
   ·simp only [hw, if_true] at h
    have hg := stepGR_op (P := P) (b := b) (k := k) (cs := cs) (w := w) (rest := rest) ho hw
    rw [Oper.semAt_eq _ _ _ (hdef i o ho)] at hg
    have hfin : ∀ v, (b.atR a (.inRegion ops (i :: rest) :: k)).finish v = b.atR (a.put o.dst v) (.inRegion ops rest :: k) := by
     intro v; rw [Frame.finish_atR, ho]; rfl
    rcases h with ⟨nx, y, w₁, hr, hy, hK⟩ | ⟨f, args, w₁, hr, h⟩ | ⟨l, fn, tmps, as, bd, w₁, hr, h⟩
    ·obtain ⟨a', w'', hq, hs⟩ := ih _ _ hK b k cs
     refine ⟨a', w'', hq, .head (step_lone_go ?_) hs⟩
     rcases hy with rfl | ⟨rfl, rfl⟩
     ·rw [hg, ← hfin]; simp [stepG.apply, hr]
     ·rw [hg, ← hfin]; simp [stepG.apply, hr]
    ·obtain ⟨e, w'', fr, ⟨v, rfl, hR⟩, hsteps, _, hleave⟩ := h (b.atR a (.inRegion ops (i :: rest) :: k) :: cs)
     have henter : step P (lone (b.atR a (.inRegion ops (i :: rest) :: k)) cs w) =
       .next (lone (Frame.enter P f args .normal) (b.atR a (.inRegion ops (i :: rest) :: k) :: cs) w₁) :=
      step_lone_go (by rw [hg]; simp [stepG.apply, hr, Frame.atR])
     obtain ⟨a', w₃, hq, hs⟩ := ih _ _ hR b k cs
     refine ⟨a', w₃, hq, .head henter (hsteps.trans (.head ?_ hs))⟩
     rw [← hfin]; exact step_leave_returned hleave
    ·obtain ⟨v, w'', hR, hsteps⟩ := h (b.atR a (.inRegion ops (i :: rest) :: k)) cs
     have henter : step P (lone (b.atR a (.inRegion ops (i :: rest) :: k)) cs w) =
       .next (lone (Frame.round l fn tmps as bd .normal) (b.atR a (.inRegion ops (i :: rest) :: k) :: cs) w₁) :=
      step_lone_go (by rw [hg]; simp [stepG.apply, hr, Frame.atR])
     obtain ⟨a', w₃, hq, hs⟩ := ih _ _ hR b k cs
     refine ⟨a', w₃, hq, .head henter (hsteps.trans ?_)⟩
     rw [hfin]; exact hs
   ·simp only [hw, if_false, Bool.false_eq_true] at h
    obtain ⟨a', w', hq, hs'⟩ := ih _ _ h b k cs
    have hs := stepR_op_skip (P := P) (b := b) (a := a) (k := k) (cs := cs) (w := w) (ops := ops) (i := i) (rest := rest) (by simp [ho]; simpa using hw)
    simp only [ho, Option.bind_some] at hs
    exact ⟨a', w', hq, .head hs hs'⟩

end
end Go.Ab

/-
 A state said more weakly: with other ids, without what is no more needed, with values that are equal.
-/
set_option linter.unusedVariables false
set_option linter.unusedSimpArgs false
namespace Go.Ab
open Go

def PAll : List Prop → Prop
 | [] => True
 | p :: r => p ∧ PAll r
theorem PAll.app : ∀ {a b : List Prop}, PAll (a ++ b) → PAll a ∧ PAll b
 | [], _, h => ⟨trivial, h⟩
 | _ :: _, _, h => let ⟨h1, h2⟩ := PAll.app h.2; ⟨⟨h.1, h1⟩, h2⟩

def capP (cap : Option Nat) : Option Nat → List Prop
 | none => []
 | some n' => match cap with
  | some n => [n = n']
  | none => [False]
def cap0 : Option Nat → List Prop
 | none => []
 | some n' => [n' = 0]

mutual
def matchV (σ : List (Nat × Nat)) (dom : List Nat) : Nat → AV → AV → Option (List Prop)
 | 0, _, _ => none
 | n + 1, v, v' =>
  match v' with
  | .undef => some []
  | .bool b' => match v with
   | .bool b => some [b = b']
   | _ => none
  | .int k' x' => match v with
   | .int k x => cond (beqK k k') (some [x = x']) none
   | _ => none
  | .str s' => match v with
   | .str s => some [s = s']
   | _ => none
  | .nilp => match v with
   | .nilp => some []
   | _ => none
  | .nils => match v with
   | .nils => some []
   | _ => none
  | .nilf => match v with
   | .nilf => some []
   | _ => none
  | .nili => match v with
   | .nili => some []
   | _ => none
  | .iptr c' => match v with
   | .iptr c => some [c = c']
   | _ => none
  | .imm c' l' cap' => match v with
   | .imm c l cap => some ((c = c') :: (l = l') :: capP cap cap')
   | .nils => some ((c'.size = 0) :: (l' = 0) :: cap0 cap')
   | _ => none
  | .ptr j o' => match v with
   | .ptr i o => match aget σ j with
    | some i' => cond (Nat.beq i i' && memN j dom) (some [o = o']) none
    | none => none
   | _ => none
  | .ep j m' o' => match v with
   | .ep i m o => match aget σ j with
    | some i' => cond (Nat.beq i i' && memN j dom) (some [m = m', o = o']) none
    | none => none
   | _ => none
  | .full j m' => match unc v with
   | .full i m => match aget σ j with
    | some i' => cond (Nat.beq i i' && memN j dom) (some [m = m']) none
    | none => none
   | _ => none
  | .fullc j m' c' => match v with
   | .fullc i m c => match aget σ j with
    | some i' => cond (Nat.beq i i' && memN j dom) (some [m = m', c = c']) none
    | none => none
   | _ => none
  | .sl j o' l' c' => match v with
   | .sl i o l c => match aget σ j with
    | some i' => cond (Nat.beq i i' && memN j dom) (some [o = o', l = l', c = c']) none
    | none => none
   | _ => none
  | .fn f' a' b' => match v with
   | .fn f a b => cond (Nat.beq f f') (match matchL σ dom n a a', matchL σ dom n b b' with
    | some p, some q => some (p ++ q)
    | _, _ => none) none
   | _ => none
  | .agg l' => match v with
   | .agg l => matchL σ dom n l l'
   | _ => none
  | .tup l' => match v with
   | .tup l => matchL σ dom n l l'
   | _ => none
  | .may b' u' => match v with
   | .may b u => match matchV σ dom n u u' with
    | some p => some ((b = b') :: p)
    | none => none
   | _ => none
  | .iface t' u' => match v with
   | .iface t u => cond (Nat.beq t t') (matchV σ dom n u u') none
   | _ => none
  | .yld j => match v with
   | .yld i => match aget σ j with
    | some i' => cond (Nat.beq i i' && memN j dom) (some []) none
    | none => none
   | _ => none
  | .mp j => match v with
   | .mp i => match aget σ j with
    | some i' => cond (Nat.beq i i' && memN j dom) (some []) none
    | none => none
   | _ => none
  | .spare _ => none
  | .nn => none
def matchL (σ : List (Nat × Nat)) (dom : List Nat) : Nat → List AV → List AV → Option (List Prop)
 | 0, _, _ => none
 | n + 1, l, l' =>
  match l, l' with
  | [], [] => some []
  | v :: r, v' :: r' => match matchV σ dom n v v', matchL σ dom n r r' with
   | some p, some q => some (p ++ q)
   | _, _ => none
  | _, _ => none
end

def matchC (σ : List (Nat × Nat)) (dom : List Nat) (n : Nat) (c c' : Cont) : Option (List Prop) :=
 match c, c' with
 | .cells l, .cells l' => matchL σ dom n l l'
 | .ints k l, .ints k' l' => cond (beqK k k') (some [l = l']) none
 | .bools l, .bools l' => some [l = l']
 | .strs l, .strs l' => some [l = l']
 | .vals l, .vals l' => some [l = l']
 | .maps kk vk es ck, .maps kk' vk' es' ck' => cond (beqMV kk kk' && beqMV vk vk') (some [es = es', ck = ck']) none
 | _, _ => none
theorem beqMV_eq {a b : MV} (h : beqMV a b = true) : a = b := by
 unfold beqMV at h
 simp only [Bool.and_eq_true, beq_iff_eq, decide_eq_true_eq] at h
 cases a; cases b
 simp only at h
 rw [h.1, h.2]
theorem matchC_maps {σ : List (Nat × Nat)} {dom : List Nat} {n : Nat} {c c' : Cont} {qs : List Prop} (h : matchC σ dom n c c' = some qs) (hp : PAll qs) :
  (c'.isMap = false → c.isMap = false) ∧ ∀ kk vk es ck, c' = .maps kk vk es ck → c = .maps kk vk es ck := by
 cases c <;> cases c' <;> simp only [matchC, reduceCtorEq] at h
 case maps.maps kk vk es ck kk' vk' es' ck' =>
  rw [cond_eq_ite] at h
  split at h
  ·rename_i hb
   rw [Bool.and_eq_true] at hb
   cases beqMV_eq hb.1; cases beqMV_eq hb.2
   cases h
   obtain ⟨rfl, rfl, _⟩ := hp
   exact ⟨fun h => h, fun _ _ _ _ h => h⟩
  ·cases h
 all_goals exact ⟨fun _ => rfl, fun kk vk es ck e => by cases e⟩

structure BOk (k k' : Blk) : Prop where
 sz : k'.sz = k.sz
 n : k'.n = k.n
 bx : k'.bx = k.bx
 mu : k'.mu = k.mu
 nil : k'.nil = k.nil ∨ k'.nil = none
 cap : k'.cap = k.cap ∨ k'.cap = none

section
variable {G : GL} {F : Nat → Prop} {ρ ρ' : Nat → Option Nat} {H H' : Nat → Option HO} {w : World} {σ : List (Nat × Nat)} {dom : List Nat}

def RenOk (ρ ρ' : Nat → Option Nat) (H H' : Nat → Option HO) (σ : List (Nat × Nat)) (dom : List Nat) : Prop :=
 ∀ j i, memN j dom = true → aget σ j = some i → ρ' j = ρ i ∧ (∀ k, H i = some (.blk k) → ∃ k', H' j = some (.blk k') ∧ BOk k k') ∧ (∀ o, H i = some o → ∃ o', H' j = some o' ∧ o'.box = o.box)

theorem beqK_ok {k k' : IntKind} (h : beqK k k' = true) : k = k' := of_decide_eq_true h

theorem FullOk.ren {i j len : Nat} {k k' : Blk} {x : Value} (h : FullOk w ρ i len k x) (hb : BOk k k') (hρ : ρ' j = ρ i) : FullOk w ρ' j len k' x := by
 have hc : ∀ n, k'.cap = some n → k.cap = some n := fun n h => by
  rcases hb.cap with e | e
  ·rw [← e]; exact h
  ·rw [e] at h; cases h
 have hn : ∀ q, k'.nil = some q → k.nil = some q := fun q h => by
  rcases hb.nil with e | e
  ·rw [← e]; exact h
  ·rw [e] at h; cases h
 rcases h with ⟨h1, h2, h3, h4⟩ | ⟨h1, h2, h3, h4⟩ | ⟨h1, b, cap, cs, ty, fz, g1, g2, g3, g4, g5, g6⟩
 ·exact .inl ⟨h1, fun e => h2 (hn _ e), fun n e => h3 n (hc n e), h4⟩
 ·exact .inr (.inl ⟨h1, fun e => h2 (hn _ e), fun n e => h3 n (hc n e), h4⟩)
 ·exact .inr (.inr ⟨fun e => h1 (hn _ e), b, cap, cs, ty, fz, hρ.trans g1, g2, g3, g4, by rw [hb.sz]; exact g5, fun n e => g6 n (hc n e)⟩)

theorem match_sound (hσ : RenOk ρ ρ' H H' σ dom) : ∀ n, (∀ v v' ps, matchV σ dom n v v' = some ps → PAll ps → ∀ x, RelV w F ρ H v x → RelV w F ρ' H' v' x) ∧
  (∀ l l' ps, matchL σ dom n l l' = some ps → PAll ps → ∀ xs, RelVs w F ρ H l xs → RelVs w F ρ' H' l' xs) := by
 intro n
 induction n with
 | zero => exact ⟨fun v v' ps h => by simp [matchV] at h, fun l l' ps h => by simp [matchL] at h⟩
 | succ n ih =>
  obtain ⟨ihV, ihL⟩ := ih
  have ref : ∀ {i i' j : Nat} {qs : List Prop} {ps : List Prop}, (cond (Nat.beq i i' && memN j dom) (some qs) none) = some ps → i = i' ∧ memN j dom = true ∧ qs = ps := by
   intro i i' j qs ps h
   rw [cond_eq_ite] at h
   split at h
   ·rename_i hc
    rw [Bool.and_eq_true] at hc
    cases h
    exact ⟨Nat.eq_of_beq_eq_true hc.1, hc.2, rfl⟩
   ·cases h
  refine ⟨fun v v' ps h hp x hx => ?_, fun l l' ps h hp xs hx => ?_⟩
  ·simp only [matchV] at h
   split at h
   ·exact .imm _ _ (.undef _)
   ·split at h
    ·cases h; obtain ⟨rfl, _⟩ := hp; have := hx.bools; subst this; exact .imm _ _ (.bool _)
    ·cases h
   ·split at h
    ·rw [cond_eq_ite] at h
     split at h
     ·rename_i hk
      cases h; obtain ⟨rfl, _⟩ := hp; have := hx.ints; subst this; rw [← beqK_ok hk]; exact .imm _ _ (.int _ _)
     ·cases h
    ·cases h
   ·split at h
    ·cases h; obtain ⟨rfl, _⟩ := hp; obtain ⟨s, rfl, hs⟩ := hx.strs; exact .imm _ _ (.str _ _ hs)
    ·cases h
   ·split at h
    ·cases h; cases hx with | imm _ _ hi => cases hi; exact .imm _ _ .nilp
    ·cases h
   ·split at h
    ·cases h; cases hx with | imm _ _ hi => cases hi; exact .imm _ _ .nils
    ·cases h
   ·split at h
    ·cases h; cases hx with | imm _ _ hi => cases hi; exact .imm _ _ .nilf
    ·cases h
   ·split at h
    ·cases h; cases hx with | imm _ _ hi => cases hi; exact .imm _ _ .nili
    ·cases h
   ·split at h
    ·cases h; obtain ⟨rfl, _⟩ := hp; cases hx with | imm _ _ hi => exact .imm _ _ hi
    ·cases h
   ·split at h
    ·rename_i c' l' cap' _ c l cap
     cases h
     obtain ⟨rfl, rfl, hcap⟩ := hp
     have key : cap' = cap ∨ cap' = none := by
      cases cap' with
      | none => exact .inr rfl
      | some n' =>
       cases cap with
       | none => exact absurd hcap.1 id
       | some n => obtain ⟨rfl, _⟩ := hcap; exact .inl rfl
     cases hx with
     | imm _ _ hi =>
      rcases key with rfl | rfl
      ·exact .imm _ _ hi
      ·cases hi with
       | imm _ _ _ b o cap' xs hF hc hr ho hl hcap => exact .imm _ _ (.imm _ _ _ b o cap' xs hF hc hr ho hl (fun n e => by cases e))
       | imm0 _ _ a hc hcap => exact .imm _ _ (.imm0 _ _ a hc (fun n e => by cases e))
    ·rename_i c' l' cap'
     cases h
     obtain ⟨h1, rfl, hcap⟩ := hp
     cases hx with
     | imm _ _ hi =>
      cases hi
      refine .imm _ _ (.imm0 _ _ none h1 (fun n e => ?_))
      subst e; exact hcap.1
    ·cases h
   ·split at h
    ·split at h
     ·rename_i i' hi'
      obtain ⟨rfl, hm, rfl⟩ := ref h
      obtain ⟨rfl, _⟩ := hp
      obtain ⟨q1, q2, q3⟩ := hσ _ _ hm hi'
      cases hx with
      | imm _ _ hi => cases hi
      | ptr _ _ b o hb hh hxb =>
       obtain ⟨o', p1, p2⟩ := q3 _ hh
       exact .ptr _ _ b o' (q1.trans hb) p1 (p2.trans hxb)
     ·cases h
    ·cases h
   ·split at h
    ·split at h
     ·rename_i i' hi'
      obtain ⟨rfl, hm, rfl⟩ := ref h
      obtain ⟨rfl, rfl, _⟩ := hp
      obtain ⟨q1, q2, q3⟩ := hσ _ _ hm hi'
      cases hx with
      | imm _ _ hi => cases hi
      | ep _ _ _ k _ hh hle hpp hxx =>
       obtain ⟨k', p1, p2⟩ := q2 _ hh
       refine .ep _ _ _ k' _ p1 (by rw [p2.n]; exact hle) hpp (fun e => ?_)
       rw [p2.n] at e
       obtain ⟨b, hb, hxb⟩ := hxx e
       exact ⟨b, q1.trans hb, hxb⟩
     ·cases h
    ·cases h
   ·split at h
    ·split at h
     ·rename_i i' hi'
      obtain ⟨rfl, hm, rfl⟩ := ref h
      obtain ⟨rfl, _⟩ := hp
      obtain ⟨q1, q2, q3⟩ := hσ _ _ hm hi'
      have hx := hx.unc
      have hu := ‹unc v = _›
      rw [hu] at hx
      cases hx with
      | imm _ _ hi => cases hi
      | full _ _ k _ hh hle hpp hxx =>
       obtain ⟨k', p1, p2⟩ := q2 _ hh
       refine .full _ _ k' _ p1 (by rw [p2.n]; exact hle) hpp (fun e => ?_)
       rw [p2.n] at e
       exact (hxx e).ren p2 q1
     ·cases h
    ·cases h
   ·split at h
    ·split at h
     ·rename_i i' hi'
      obtain ⟨rfl, hm, rfl⟩ := ref h
      obtain ⟨rfl, rfl, _⟩ := hp
      obtain ⟨q1, q2, q3⟩ := hσ _ _ hm hi'
      cases hx with
      | imm _ _ hi => cases hi
      | fullc _ _ _ a hf =>
       cases hf with
       | imm _ _ hi => cases hi
       | full _ _ k _ hh hle hpp hxx =>
        obtain ⟨k', p1, p2⟩ := q2 _ hh
        refine .fullc _ _ _ a (.full _ _ k' _ p1 (by rw [p2.n]; exact hle) hpp (fun e => ?_))
        rw [p2.n] at e
        exact (hxx e).ren p2 q1
     ·cases h
    ·cases h
   ·split at h
    ·split at h
     ·rename_i i' hi'
      obtain ⟨rfl, hm, rfl⟩ := ref h
      obtain ⟨rfl, rfl, rfl, _⟩ := hp
      obtain ⟨q1, q2, q3⟩ := hσ _ _ hm hi'
      cases hx with
      | imm _ _ hi => cases hi
      | sl _ _ _ _ b k hb hh hxb hlc =>
       obtain ⟨k', p1, p2⟩ := q2 _ hh
       exact .sl _ _ _ _ b k' (q1.trans hb) p1 (p2.bx.trans hxb) hlc
     ·cases h
    ·cases h
   ·split at h
    ·rw [cond_eq_ite] at h
     split at h
     ·rename_i hf
      split at h
      ·rename_i p q h1 h2
       cases h
       obtain ⟨hp1, hp2⟩ := hp.app
       obtain ⟨y1, y2, rfl, r1, r2⟩ := hx.fns
       rw [← Nat.eq_of_beq_eq_true hf]
       exact .fn _ _ _ _ _ (ihL _ _ _ h1 hp1 _ r1) (ihL _ _ _ h2 hp2 _ r2)
      ·cases h
     ·cases h
    ·cases h
   ·split at h
    ·obtain ⟨y, rfl, r⟩ := hx.aggs; exact .agg _ _ (ihL _ _ _ h hp _ r)
    ·cases h
   ·split at h
    ·obtain ⟨y, rfl, r⟩ := hx.tups; exact .tup _ _ (ihL _ _ _ h hp _ r)
    ·cases h
   ·split at h
    ·split at h
     ·rename_i p h1
      cases h
      obtain ⟨rfl, hp'⟩ := hp
      exact .may _ _ _ (fun e => ihV _ _ _ h1 hp' _ (hx.mayInv e)) hx.mayNot
     ·cases h
    ·cases h
   ·split at h
    ·rw [cond_eq_ite] at h
     split at h
     ·rename_i ht
      rw [← Nat.eq_of_beq_eq_true ht]
      cases hx with
      | imm _ _ hi => cases hi with | iface _ _ y hi => exact .iface _ _ y (ihV _ _ _ h hp _ hi.toV)
      | iface _ _ y hv => exact .iface _ _ y (ihV _ _ _ h hp _ hv)
     ·cases h
    ·cases h
   ·split at h
    ·split at h
     ·rename_i i' hi'
      obtain ⟨rfl, hm, rfl⟩ := ref h
      obtain ⟨q1, q2, q3⟩ := hσ _ _ hm hi'
      cases hx with
      | imm _ _ hi => cases hi
      | yld _ b o hb hh hxb =>
       obtain ⟨o', p1, p2⟩ := q3 _ hh
       exact .yld _ b o' (q1.trans hb) p1 (p2.trans hxb)
     ·cases h
    ·cases h
   ·split at h
    ·split at h
     ·rename_i i' hi'
      obtain ⟨rfl, hm, rfl⟩ := ref h
      obtain ⟨q1, q2, q3⟩ := hσ _ _ hm hi'
      cases hx with
      | imm _ _ hi => cases hi
      | mp _ b o hb hh hxb =>
       obtain ⟨o', p1, p2⟩ := q3 _ hh
       exact .mp _ b o' (q1.trans hb) p1 (p2.trans hxb)
     ·cases h
    ·cases h
   ·cases h
   ·cases h
  ·simp only [matchL] at h
   split at h
   ·cases hx; exact .nil
   ·split at h
    ·rename_i p q h1 h2
     cases h
     obtain ⟨hp1, hp2⟩ := hp.app
     cases hx with
     | cons _ _ y ys hv hs => exact .cons _ _ _ _ (ihV _ _ _ h1 hp1 _ hv) (ihL _ _ _ h2 hp2 _ hs)
    ·cases h
   ·cases h

end
end Go.Ab

/-
 A state said more weakly: states.
-/
set_option linter.unusedVariables false
set_option linter.unusedSimpArgs false
namespace Go.Ab
open Go

def beqBo : Bool → Bool → Bool
 | true, true => true
 | false, false => true
 | _, _ => false
def nilB : Option Bool → Option Bool → Bool
 | _, none => true
 | some a, some b => beqBo a b
 | none, some _ => false
def matchT (σ : List (Nat × Nat)) (dom : List Nat) (T : List (Nat × AV)) : List (Nat × AV) → Option (List Prop)
 | [] => some []
 | (t, v') :: r => match aget T t with
  | some v => match matchV σ dom 1000 v v', matchT σ dom T r with
   | some p, some q => some (p ++ q)
   | _, _ => none
  | none => none
def matchO (σ : List (Nat × Nat)) (dom : List Nat) : HO → HO → Option (List Prop)
 | .blk b, .blk b' => cond (Nat.beq b.sz b'.sz && (beqBo b.mu b'.mu && (beqBo b.bx b'.bx && nilB b.nil b'.nil))) (match matchC σ dom 1000 b.c b'.c with
  | some p => some ((b.n = b'.n) :: (capP b.cap b'.cap ++ p))
  | none => none) none
 | .iter s p, .iter s' p' => some [s = s', p = p']
 | .loop l, .loop l' => match matchT σ dom l.t l'.t with
  | some p => some ((l'.st = l.st) :: (l'.pend = l.pend) :: (l'.n = l.n) :: (l'.ps = l.ps) :: (l'.as = l.as) :: (l'.bd = l.bd) :: p)
  | none => none
 | _, _ => none
def matchH (σ : List (Nat × Nat)) (dom : List Nat) (h : List (Nat × HO)) : List (Nat × HO) → Option (List Prop)
 | [] => some []
 | (j, o') :: r => match aget σ j with
  | some i => match aget h i with
   | some o => match matchO σ dom o o', matchH σ dom h r with
    | some p, some q => some (p ++ q)
    | _, _ => none
   | none => none
  | none => none
def nodupV : List (Nat × Nat) → Bool
 | [] => true
 | (_, v) :: r => cond (hasV v r) false (nodupV r)
where hasV (v : Nat) : List (Nat × Nat) → Bool
 | [] => false
 | (_, u) :: r => cond (Nat.beq u v) true (hasV v r)
def nilEq : HO → HO → Bool
 | .blk b, .blk b' => match b.nil, b'.nil with
  | some x, some y => beqBo x y
  | none, none => true
  | _, _ => false
 | _, _ => true
def keepB (σ : List (Nat × Nat)) (S S' : St) : List Nat → Bool
 | [] => true
 | i :: r => match aget S.h i with
  | none => keepB σ S S' r
  | some o => match aget σ i, aget S'.h i with
   | some j, some o' => cond (Nat.beq i j && nilEq o o') (keepB σ S S' r) false
   | _, _ => false
def renS (σ : List (Nat × Nat)) (S S' : St) : Option (List Prop) :=
 match matchH σ (keys S'.h) S.h S'.h, matchT σ (keys S'.h) S.t S'.t with
 | some p, some q => cond (nodupV σ && Nat.beq S'.n S.n) (some (p ++ q)) none
 | _, _ => none

section
variable {G : GL} {F : Nat → Prop} {ρ ρ' : Nat → Option Nat} {H H' : Nat → Option HO} {w : World} {σ : List (Nat × Nat)} {dom : List Nat}

theorem matchL_get : ∀ {n : Nat} {l l' : List AV} {ps : List Prop}, matchL σ dom n l l' = some ps → PAll ps → l'.length = l.length ∧ ∀ i, i < l.length → ∃ m qs, matchV σ dom m (l.getD i .undef) (l'.getD i .undef) = some qs ∧ PAll qs
 | 0, l, l', ps, h, hp => by simp [matchL] at h
 | n + 1, l, l', ps, h, hp => by
  simp only [matchL] at h
  split at h
  ·exact ⟨rfl, fun i hi => by simp at hi⟩
  ·split at h
   ·rename_i p q h1 h2
    cases h
    obtain ⟨hp1, hp2⟩ := hp.app
    obtain ⟨g1, g2⟩ := matchL_get h2 hp2
    refine ⟨by simp [g1], fun i hi => ?_⟩
    cases i with
    | zero => exact ⟨n, p, by simpa using h1, hp1⟩
    | succ i =>
     obtain ⟨m, qs, k1, k2⟩ := g2 i (by simpa using hi)
     exact ⟨m, qs, by simpa using k1, k2⟩
   ·cases h
  ·cases h

theorem matchC_ok (hσ : RenOk ρ ρ' H H' σ dom) {n : Nat} {c c' : Cont} {ps : List Prop} (h : matchC σ dom n c c' = some ps) (hp : PAll ps) :
  c'.size = c.size ∧ ∀ i x, i < c.size → RelE w F ρ H c i x → RelE w F ρ' H' c' i x := by
 unfold matchC at h
 split at h
 ·obtain ⟨g1, g2⟩ := matchL_get h hp
  refine ⟨g1, fun i x hi hx => ⟨?_, hx.2⟩⟩
  obtain ⟨m, qs, k1, k2⟩ := g2 i hi
  exact (match_sound hσ m).1 _ _ _ k1 k2 _ hx.1
 ·rw [cond_eq_ite] at h
  split at h
  ·rename_i hk
   cases h
   obtain ⟨rfl, _⟩ := hp
   rw [beqK_ok hk]
   exact ⟨rfl, fun i x hi hx => hx⟩
  ·cases h
 ·cases h; obtain ⟨rfl, _⟩ := hp; exact ⟨rfl, fun i x hi hx => hx⟩
 ·cases h; obtain ⟨rfl, _⟩ := hp; exact ⟨rfl, fun i x hi hx => hx⟩
 ·cases h; obtain ⟨rfl, _⟩ := hp; exact ⟨rfl, fun i x hi hx => hx⟩
 ·exact ⟨rfl, fun i x hi => by simp [Cont.size] at hi⟩
 ·cases h

theorem beqBo_ok {a b : Bool} (h : beqBo a b = true) : a = b := by cases a <;> cases b <;> first | rfl | cases h
theorem nilB_ok {a b : Option Bool} (h : nilB a b = true) : b = a ∨ b = none := by
 cases b with
 | none => exact .inr rfl
 | some b =>
  cases a with
  | none => cases h
  | some a => have : beqBo a b = true := h; rw [beqBo_ok this]; exact .inl rfl
theorem capP_ok {a b : Option Nat} (h : PAll (capP a b)) : b = a ∨ b = none := by
 cases b with
 | none => exact .inr rfl
 | some b =>
  cases a with
  | none => exact absurd h.1 id
  | some a => obtain ⟨rfl, _⟩ := h; exact .inl rfl

theorem matchO_ok {o o' : HO} {ps : List Prop} (h : matchO σ dom o o' = some ps) (hp : PAll ps) :
  (∃ k k' qs, o = .blk k ∧ o' = .blk k' ∧ BOk k k' ∧ matchC σ dom 1000 k.c k'.c = some qs ∧ PAll qs) ∨ (∃ s p, o = .iter s p ∧ o' = .iter s p) ∨ (∃ l l' qs, o = .loop l ∧ o' = .loop l' ∧ matchT σ dom l.t l'.t = some qs ∧ PAll qs ∧ l'.st = l.st ∧ l'.pend = l.pend ∧ l'.n = l.n ∧ l'.ps = l.ps ∧ l'.as = l.as ∧ l'.bd = l.bd) := by
 unfold matchO at h
 split at h
 ·rename_i b b'
  rw [cond_eq_ite] at h
  split at h
  ·rename_i hc
   simp only [Bool.and_eq_true] at hc
   obtain ⟨c1, c2, c3, c4⟩ := hc
   split at h
   ·rename_i p h1
    cases h
    obtain ⟨e1, h2⟩ := hp
    obtain ⟨e2, e3⟩ := h2.app
    exact .inl ⟨b, b', p, rfl, rfl, ⟨(Nat.eq_of_beq_eq_true c1).symm, e1.symm, (beqBo_ok c3).symm, (beqBo_ok c2).symm, nilB_ok c4, capP_ok e2⟩, h1, e3⟩
   ·cases h
  ·cases h
 ·cases h
  obtain ⟨rfl, rfl, _⟩ := hp
  exact .inr (.inl ⟨_, _, rfl, rfl⟩)
 ·split at h
  ·rename_i p h1
   cases h
   obtain ⟨q1, q2, q3, q4, q5, q6, q7⟩ := hp
   exact .inr (.inr ⟨_, _, p, rfl, rfl, h1, q7, q1, q2, q3, q4, q5, q6⟩)
  ·cases h
 ·cases h

theorem matchH_get {h : List (Nat × HO)} : ∀ {l : List (Nat × HO)} {ps : List Prop}, matchH σ dom h l = some ps → PAll ps → ∀ j o', aget l j = some o' → ∃ i o qs, aget σ j = some i ∧ aget h i = some o ∧ matchO σ dom o o' = some qs ∧ PAll qs
 | [], ps, hm, hp, j, o', e => by cases e
 | (k, u) :: r, ps, hm, hp, j, o', e => by
  simp only [matchH] at hm
  split at hm
  ·rename_i i hi
   split at hm
   ·rename_i o ho
    split at hm
    ·rename_i p q h1 h2
     cases hm
     obtain ⟨hp1, hp2⟩ := hp.app
     simp only [aget] at e
     by_cases hk : k = j
     ·subst hk
      rw [beq_self, cond_true] at e; cases e
      exact ⟨i, o, p, hi, ho, h1, hp1⟩
     ·rw [beq_ne hk, cond_false] at e
      exact matchH_get h2 hp2 j o' e
    ·cases hm
   ·cases hm
  ·cases hm

theorem matchT_get {T : List (Nat × AV)} : ∀ {l : List (Nat × AV)} {ps : List Prop}, matchT σ dom T l = some ps → PAll ps → ∀ t v', aget l t = some v' → ∃ v qs, aget T t = some v ∧ matchV σ dom 1000 v v' = some qs ∧ PAll qs
 | [], ps, hm, hp, j, o', e => by cases e
 | (k, u) :: r, ps, hm, hp, j, o', e => by
  simp only [matchT] at hm
  split at hm
  ·rename_i v hv
   split at hm
   ·rename_i p q h1 h2
    cases hm
    obtain ⟨hp1, hp2⟩ := hp.app
    simp only [aget] at e
    by_cases hk : k = j
    ·subst hk
     rw [beq_self, cond_true] at e; cases e
     exact ⟨v, p, hv, h1, hp1⟩
    ·rw [beq_ne hk, cond_false] at e
     exact matchT_get h2 hp2 j o' e
   ·cases hm
  ·cases hm

theorem keys_aget {α : Type} {k : Nat} : ∀ {l : List (Nat × α)}, k ∈ keys l → ∃ v, aget l k = some v
 | [], h => by simp [keys] at h
 | (j, u) :: r, h => by
  simp only [aget]
  by_cases e : j = k
  ·subst e; rw [beq_self]; exact ⟨u, rfl⟩
  ·rw [beq_ne e, cond_false]
   simp only [keys, List.mem_cons] at h
   exact keys_aget (h.resolve_left (fun h => e h.symm))

theorem hasV_of {v : Nat} : ∀ {r : List (Nat × Nat)} {k : Nat}, aget r k = some v → nodupV.hasV v r = true
 | [], k, h => by cases h
 | (j, u) :: r, k, h => by
  simp only [aget] at h
  simp only [nodupV.hasV]
  by_cases e : j = k
  ·subst e; rw [beq_self, cond_true] at h; cases h; rw [beq_self]; rfl
  ·rw [beq_ne e, cond_false] at h
   rw [hasV_of h]; cases Nat.beq u v <;> rfl
theorem nodupV_ok : ∀ {σ : List (Nat × Nat)}, nodupV σ = true → ∀ {i j v : Nat}, aget σ i = some v → aget σ j = some v → i = j
 | [], _, i, j, v, h, _ => by cases h
 | (k, u) :: r, hn, i, j, v, hi, hj => by
  simp only [nodupV, cond_eq_ite] at hn
  split at hn
  ·cases hn
  ·rename_i hh
   simp only [aget] at hi hj
   by_cases e1 : k = i <;> by_cases e2 : k = j
   ·exact e1.symm.trans e2
   ·subst e1
    rw [beq_self, cond_true] at hi; cases hi
    rw [beq_ne e2, cond_false] at hj
    exact absurd (hasV_of hj) hh
   ·subst e2
    rw [beq_self, cond_true] at hj; cases hj
    rw [beq_ne e1, cond_false] at hi
    exact absurd (hasV_of hi) hh
   ·rw [beq_ne e1, cond_false] at hi
    rw [beq_ne e2, cond_false] at hj
    exact nodupV_ok hn hi hj

structure HKp (kp : List Nat) (w : World) (ρ : Nat → Option Nat) (h : Nat → Option HO) (w' : World) (ρ' : Nat → Option Nat) (h' : Nat → Option HO) : Prop where
 box : ∀ id o, id ∈ kp → h id = some o → o.box = true → ∃ o', h' id = some o' ∧ o'.box = true ∧ ρ' id = ρ id
 blk : ∀ id k, id ∈ kp → h id = some (.blk k) → ∃ k', h' id = some (.blk k') ∧ k'.bx = k.bx ∧ k.n ≤ k'.n ∧
  (k'.n = k.n → k'.nil = k.nil ∧ k'.sz = k.sz ∧ (k'.cap = k.cap ∨ k'.cap = none) ∧ ρ' id = ρ id)
 sz : ∀ (b : Nat) (cs : Array Value) (ty : TypeId) (fz : Nat × Nat), w.heap[b]? = some (.cells cs ty fz) → ∃ cs' ty' fz', w'.heap[b]? = some (.cells cs' ty' fz') ∧ cs'.size = cs.size
theorem HKeep.kp {kp : List Nat} {w w' : World} {ρ ρ' : Nat → Option Nat} {h h' : Nat → Option HO} (hk : HKeep w ρ h w' ρ' h') : HKp kp w ρ h w' ρ' h' :=
 ⟨fun id o _ => hk.box id o, fun id k _ => hk.blk id k, hk.sz⟩
theorem HKp.trans {kp : List Nat} {w w' w'' : World} {ρ ρ' ρ'' : Nat → Option Nat} {h h' h'' : Nat → Option HO} (a : HKp kp w ρ h w' ρ' h') (b : HKp kp w' ρ' h' w'' ρ'' h'') : HKp kp w ρ h w'' ρ'' h'' where
 box := fun id o hid h1 h2 => by
  obtain ⟨o', g1, g2, g3⟩ := a.box id o hid h1 h2
  obtain ⟨o'', k1, k2, k3⟩ := b.box id o' hid g1 g2
  exact ⟨o'', k1, k2, k3.trans g3⟩
 blk := fun id k hid h1 => by
  obtain ⟨k', g1, g2, g3, g4⟩ := a.blk id k hid h1
  obtain ⟨k'', l1, l2, l3, l4⟩ := b.blk id k' hid g1
  refine ⟨k'', l1, l2.trans g2, Nat.le_trans g3 l3, fun e => ?_⟩
  have e1 : k'.n = k.n := by omega
  obtain ⟨p1, p2, p3, p4⟩ := g4 e1
  obtain ⟨q1, q2, q3, q4⟩ := l4 (by omega)
  exact ⟨q1.trans p1, q2.trans p2, by rcases q3 with q | q <;> rcases p3 with p | p <;> simp_all, q4.trans p4⟩
 sz := fun b1 cs ty fz h1 => by
  obtain ⟨cs1, ty1, fz1, g1, g2⟩ := a.sz b1 cs ty fz h1
  obtain ⟨cs2, ty2, fz2, g3, g4⟩ := b.sz b1 cs1 ty1 fz1 g1
  exact ⟨cs2, ty2, fz2, g3, g4.trans g2⟩
theorem HKp.refl (kp : List Nat) (w : World) (ρ : Nat → Option Nat) (h : Nat → Option HO) : HKp kp w ρ h w ρ h := (HKeep.refl w ρ h).kp

theorem nilEq_ok {k k' : Blk} (h : nilEq (.blk k) (.blk k') = true) : k'.nil = k.nil := by
 simp only [nilEq] at h
 split at h
 ·rename_i e1 e2; rw [e1, e2, beqBo_ok h]
 ·rename_i e1 e2; rw [e1, e2]
 ·cases h
theorem keepB_ok {S S' : St} : ∀ {kp : List Nat}, keepB σ S S' kp = true → ∀ id o, id ∈ kp → aget S.h id = some o → aget σ id = some id ∧ ∃ o', aget S'.h id = some o' ∧ nilEq o o' = true
 | [], h, id, o, hid, ho => by simp at hid
 | i :: r, h, id, o, hid, ho => by
  simp only [keepB] at h
  split at h
  ·rename_i hn
   rcases List.mem_cons.1 hid with rfl | hid
   ·rw [hn] at ho; cases ho
   ·exact keepB_ok h id o hid ho
  ·rename_i o1 h1
   split at h
   ·rename_i j o' h2 h3
    rw [cond_eq_ite] at h
    split at h
    ·rename_i hc
     rw [Bool.and_eq_true] at hc
     rcases List.mem_cons.1 hid with rfl | hid
     ·rw [h1] at ho; cases ho
      exact ⟨by rw [h2, Nat.eq_of_beq_eq_true hc.1], o', h3, hc.2⟩
     ·exact keepB_ok h id o hid ho
    ·cases h
   ·cases h

theorem ren_soundM {S S' : St} {ps : List Prop} (h : renS σ S S' = some ps) (hp : PAll ps) (hm0 : MRel G F ρ (aget S.h) w) : S'.n = S.n ∧ ∃ ρ', MRel G F ρ' (aget S'.h) w ∧ Ext G F ρ w F ρ' w ∧ (∀ tmps : Array Value, (∀ t v, aget S.t t = some v → RelV w F ρ (aget S.h) v (tmps.getD t undef)) → ∀ t v, aget S'.t t = some v → RelV w F ρ' (aget S'.h) v (tmps.getD t undef)) ∧ ∀ kp, keepB σ S S' kp = true → HKp kp w ρ (aget S.h) w ρ' (aget S'.h) := by
 unfold renS at h
 split at h
 ·rename_i p q h1 h2
  rw [cond_eq_ite] at h
  split at h
  ·rename_i hc
   rw [Bool.and_eq_true] at hc
   cases h
   obtain ⟨hp1, hp2⟩ := hp.app
   let ρ' : Nat → Option Nat := fun j => cond (memN j (keys S'.h)) ((aget σ j).bind ρ) none
   have hρ : ∀ j i, memN j (keys S'.h) = true → aget σ j = some i → ρ' j = ρ i := fun j i h1 h2 => by simp only [ρ', h1, h2, cond_true, Option.bind_some]
   have hinv : ∀ j b, ρ' j = some b → memN j (keys S'.h) = true ∧ ∃ i, aget σ j = some i ∧ ρ i = some b := fun j b hb => by
    simp only [ρ'] at hb
    cases hm : memN j (keys S'.h) with
    | false => rw [hm] at hb; cases hb
    | true =>
     rw [hm, cond_true] at hb
     cases hs : aget σ j with
     | none => rw [hs] at hb; cases hb
     | some i => rw [hs, Option.bind_some] at hb; exact ⟨rfl, i, rfl, hb⟩
   have hσ : RenOk ρ ρ' (aget S.h) (aget S'.h) σ (keys S'.h) := fun j i hm hi => by
    obtain ⟨o', ho'⟩ := keys_aget (memN_iff.1 hm)
    obtain ⟨i', o, qs, g1, g2, g3, g4⟩ := matchH_get h1 hp1 j o' ho'
    rw [hi] at g1; cases g1
    refine ⟨hρ j i hm hi, fun k hk => ?_, fun o2 ho2 => ?_⟩
    ·rw [g2] at hk; cases hk
     rcases matchO_ok g3 g4 with ⟨k1, k', qs', e1, e2, e3, _⟩ | ⟨s, p, e1, e2⟩ | ⟨l, l', _, e1, e2, _⟩
     ·cases e1; exact ⟨k', e2 ▸ ho', e3⟩
     ·cases e1
     ·cases e1
    ·rw [g2] at ho2; cases ho2
     rcases matchO_ok g3 g4 with ⟨k1, k', qs', e1, e2, e3, _⟩ | ⟨s, p, e1, e2⟩ | ⟨l, l', _, e1, e2, _⟩
     ·subst e1; subst e2; exact ⟨_, ho', e3.bx⟩
     ·subst e1; subst e2; exact ⟨_, ho', rfl⟩
     ·subst e1; subst e2; exact ⟨_, ho', rfl⟩
   have hext : Ext G F ρ w F ρ' w := ⟨IoEq.refl _, Nat.le_refl _, fun _ _ _ => rfl, fun _ _ => rfl, fun _ h => h, fun _ h => .inl h, fun j b hb => by
    obtain ⟨_, i, _, h⟩ := hinv j b hb; exact .inl ⟨i, h⟩⟩
   refine ⟨Nat.eq_of_beq_eq_true hc.2, ρ', ⟨fun j o' ho' => ?_, fun j b hb => ?_, fun i j b hi hj => ?_, fun j b hb => ?_, hm0.frz, hm0.glob⟩, hext, fun tmps htm t v' hv' => ?_, fun kp hkp => ?_⟩
   ·have hm : memN j (keys S'.h) = true := memN_iff.2 (keys_of_aget ho')
    obtain ⟨i, o, qs, g1, g2, g3, g4⟩ := matchH_get h1 hp1 j o' ho'
    have hO := hm0.heap i o g2
    rcases matchO_ok g3 g4 with ⟨k, k', qs', rfl, rfl, e3, e4, e5⟩ | ⟨s, p, rfl, rfl⟩ | ⟨l, l', qs', rfl, rfl, e4, e5, e6, e7, e8, e9, e10, e11⟩
    ·obtain ⟨s1, s2⟩ := matchC_ok (w := w) (F := F) hσ e4 e5
     obtain ⟨o1, o2⟩ := hO
     refine ⟨by rw [s1, e3.n, e3.sz]; exact o1, ?_⟩
     rcases o2 with ⟨z1, z2⟩ | ⟨b, z1, z2⟩
     ·exact .inl ⟨by rw [e3.n]; exact z1, (hρ j i hm g1).trans z2⟩
     ·refine .inr ⟨b, (hρ j i hm g1).trans z1, ⟨fun hnm => ?_, fun kk vk es ck e => z2.mp kk vk es ck ((matchC_maps e4 e5).2 _ _ _ _ e), fun e => z2.mu (by rw [← e3.mu]; exact e), fun e => z2.fr (by rw [← e3.mu]; exact e)⟩⟩
      obtain ⟨cs, ty, fz, y1, y2, y3, y4⟩ := z2.ex ((matchC_maps e4 e5).1 hnm)
      refine ⟨cs, ty, fz, y1, y2, by rw [s1]; exact y3, fun q hq => ?_⟩
      rw [s1] at hq
      obtain ⟨x, x1, x2⟩ := y4 q hq
      exact ⟨x, x1, s2 q x hq x2⟩
    ·obtain ⟨b, z1, z2⟩ := hO
     exact ⟨b, (hρ j i hm g1).trans z1, z2⟩
    ·obtain ⟨b, z1, z2, r, z3, z4⟩ := hO
     refine ⟨b, (hρ j i hm g1).trans z1, z2, r, z3, ⟨by rw [e6]; exact z4.st, by rw [e7]; exact z4.pend, by rw [e8]; exact z4.size, fun t v' hv' => ?_, by rw [e9]; exact z4.ps, by rw [e10]; exact z4.as, by rw [e11]; exact z4.bd⟩⟩
     obtain ⟨v, qs2, y1, y2, y3⟩ := matchT_get e4 e5 t v' hv'
     exact (match_sound hσ 1000).1 _ _ _ y2 y3 _ (z4.tmps t v y1)
   ·exact keys_aget (memN_iff.1 (hinv j b hb).1)
   ·obtain ⟨_, i', hi1, hi2⟩ := hinv i b hi
    obtain ⟨_, j', hj1, hj2⟩ := hinv j b hj
    have := hm0.inj i' j' b hi2 hj2
    subst this
    exact nodupV_ok hc.1 hi1 hj1
   ·obtain ⟨_, i, _, h⟩ := hinv j b hb
    exact hm0.lt i b h
   ·obtain ⟨v, qs, g1, g2, g3⟩ := matchT_get h2 hp2 t v' hv'
    exact (match_sound hσ 1000).1 _ _ _ g2 g3 _ (htm t v g1)
   ·have hkeep : ∀ id o, id ∈ kp → aget S.h id = some o → aget σ id = some id ∧ ∃ o', aget S'.h id = some o' ∧ nilEq o o' = true := fun id o hid ho => keepB_ok hkp id o hid ho
    refine ⟨fun id o hid ho hb => ?_, fun id k hid ho => ?_, fun b cs ty fz hb => ⟨cs, ty, fz, hb, rfl⟩⟩
    ·obtain ⟨p1, o', p2, _⟩ := hkeep id o hid ho
     have hm : memN id (keys S'.h) = true := memN_iff.2 (keys_of_aget p2)
     obtain ⟨r1, _, r3⟩ := hσ id id hm p1
     obtain ⟨o2, r4, r5⟩ := r3 o ho
     exact ⟨o2, r4, r5.trans hb, r1⟩
    ·obtain ⟨p1, o', p2, p3⟩ := hkeep id _ hid ho
     have hm : memN id (keys S'.h) = true := memN_iff.2 (keys_of_aget p2)
     obtain ⟨r1, r2, _⟩ := hσ id id hm p1
     obtain ⟨k', r4, r5⟩ := r2 k ho
     rw [p2] at r4; cases r4
     exact ⟨k', p2, r5.bx, Nat.le_of_eq r5.n.symm, fun _ => ⟨nilEq_ok p3, r5.sz, r5.cap, r1⟩⟩
  ·cases h
 ·cases h

theorem ren_sound {S S' : St} {a : Act} {ps : List Prop} (h : renS σ S S' = some ps) (hp : PAll ps) (hr : RS G F ρ S a w) : ∃ ρ', RS G F ρ' S' a w ∧ Ext G F ρ w F ρ' w ∧ ∀ kp, keepB σ S S' kp = true → HKp kp w ρ (aget S.h) w ρ' (aget S'.h) := by
 obtain ⟨h1, ρ', h2, h3, h4, h5⟩ := ren_soundM h hp hr.mem
 exact ⟨ρ', ⟨hr.size.trans h1.symm, h4 a.tmps hr.tmps, h2, hr.defs.ext h3 rfl⟩, h3, h5⟩

end
end Go.Ab

/-
 Code, executed abstractly along a plan: the tree of its outcomes, with what must be shown on the way.
-/
set_option linter.unusedVariables false
set_option linter.unusedSimpArgs false
namespace Go.Ab
open Go

abbrev Hints := List (Nat × (List Nat × List Nat))
def compC (P : Program) (hs : Hints) : Code → Option XC
 | .skip => some .skip
 | .region id ops drw => match compXOs P ops ops.toList with
  | some xs => match drw with
   | false => some (.reg (64 * (id + 1)) xs ((aget hs id).getD ([], [])).2)
   | true => some (.draw (64 * (id + 1)) xs (ops.toList.map depOf) ((aget hs id).getD ([], [])).1 ((aget hs id).getD ([], [])).2)
  | none => none
 | .seq a b => match compC P hs a, compC P hs b with
  | some x, some y => some (.seq x y)
  | _, _ => none
 | .cond c a b => match compX c, compC P hs a, compC P hs b with
  | some c, some x, some y => some (.cond c x y)
  | _, _, _ => none
 | .block id a => match compC P hs a with
  | some x => some (.block id x)
  | none => none
 | .loop a => match compC P hs a with
  | some x => some (.loop x)
  | none => none
 | .exit id => some (.exit id)
 | .ret => some .ret
 | .rangeFunc g ps a b => match compX g, compC P hs a, compC P hs b with
  | some g, some x, some y => some (.rangeF g ps.toList x y)
  | _, _, _ => none
 | .scope a => match compC P hs a with
  | some x => some (.scope x)
  | none => none
 | .label _ => some .skip
 | _ => some .bad
def cmOf (P : Program) (c : Code) (xc : XC) : Prop := ∃ hs, compC P hs c = some xc
structure Md where
 rid : Option Nat
 kp : List Nat
def Md.ks (m : Md) : List Nat := m.rid.toList ++ m.kp

mutual
inductive Pl where
 | nil
 | r (ds : Dirs) (p : Pl)
 | frz (t : Nat) (p : Pl)
 | gho (t id sz : Nat) (c : Cont) (p : Pl)
 | ren (σ : List (Nat × Nat)) (S : St) (p : Pl)
 | br (b : Bool) (p q : Pl)
 | tt (p : Pl)
 | ff (p : Pl)
 | cnd (p q : Pl)
 | lit (p : Pl)
 | lp (outs : Tree)
 | un (p : Pl)
inductive Tree where
 | leaf (e : Ex) (S : St) (p : Pl)
 | ob (p : Prop) (t : Tree)
 | br (b : Bool) (t u : Tree)
 | lp (a : XC) (S : St) (outs t : Tree)
end

def delL {α : Type} : List (Nat × α) → List Nat → List (Nat × α)
 | l, [] => l
 | l, k :: r => delL (adel l k) r
def delS (S : St) (dead : List Nat) : St := { S with t := delL S.t dead }

def frzS (S : St) (t : Nat) : Option (St × List Cd) :=
 match aget S.t t with
 | some v => match frzV (aget S.h) 60 v with
  | some (v', ids, cs) => cond (Nat.ble (t + 1) S.n) (some ({ t := aset S.t t v', h := asets S.h (frzW (aget S.h) ids), n := S.n }, cs)) none
  | none => none
 | none => none
def ghoS (S : St) (t id sz : Nat) (c : Cont) : Option St :=
 match aget S.t t with
 | some .nils => cond (freshA S.h [id] && Nat.beq c.size 0) (some { t := aset S.t t (.full id 0), h := aset S.h id (.blk { c, sz, n := 0, cap := some 0, nil := some true, mu := true, bx := false }), n := S.n }) none
 | _ => none

def Tree.bindN (f : St → Pl → Option Tree) : Tree → Option Tree
 | .leaf e S p => match e with
  | .normal => f S p
  | e => some (.leaf e S p)
 | .ob p t => match t.bindN f with
  | some t => some (.ob p t)
  | none => none
 | .br b t u => match t.bindN f, u.bindN f with
  | some t, some u => some (.br b t u)
  | _, _ => none
 | .lp a S outs t => match t.bindN f with
  | some t => some (.lp a S outs t)
  | none => none
def Tree.catch (id : Nat) : Tree → Tree
 | .leaf e S p => match e with
  | .exit i => .leaf (cond (Nat.beq i id) .normal (.exit i)) S p
  | e => .leaf e S p
 | .ob p t => .ob p (t.catch id)
 | .br b t u => .br b (t.catch id) (u.catch id)
 | .lp a S outs t => .lp a S outs (t.catch id)

def obC (q : List Cd → Prop) (cs : List Cd) (t : Tree) : Tree := match cs with
 | [] => t
 | cs => .ob (q cs) t

def plR : Pl → Dirs × Pl
 | .r ds p => (ds, p)
 | p => ([], p)

def plD (dd : Dirs) (p : Dirs × Pl) : Dirs × Pl := (p.1 ++ dd, p.2)
def sxReg (q : List Cd → Prop) (G : GL) (s : Nat) (xs : List XO) (dead : List Nat) (dp : Dirs × Pl) (S : St) : Option Tree :=
 match exOps G dp.1 xs s S with
 | some (S', cs) => some (obC q cs (.leaf .normal (delS S' dead) dp.2))
 | none => none
def sxDraw (q : List Cd → Prop) (G : GL) (s : Nat) (xs : List XO) (dep : List (List Nat)) (ord dead : List Nat) (dp : Dirs × Pl) (S : St) : Option Tree :=
 match exEnts G dp.1 xs s ord S with
 | some (S', es, cs) => cond (drawB dep ord xs.length es) (some (obC q cs (.leaf .normal (delS S' dead) dp.2))) none
 | none => none
def sxCond (f g : Pl → Option Tree) (v : Bool) (pl : Pl) : Option Tree :=
 match pl with
 | .tt p => match f p with
  | some T => some (.ob (v = true) T)
  | none => none
 | .ff p => match g p with
  | some T => some (.ob (v = false) T)
  | none => none
 | .cnd p p' => match f p, g p' with
  | some T, some U => some (.br v T U)
  | _, _ => none
 | .lit p => cond v (f p) (g p)
 | pl => cond v (f pl) (g pl)
def sxC (q : List Cd → Prop) (G : GL) (dd : Dirs) (rec : XC → Pl → St → Option Tree) (xc : XC) (pl : Pl) (S : St) : Option Tree :=
 match xc with
 | .skip => some (.leaf .normal S pl)
 | .exit id => some (.leaf (.exit id) S pl)
 | .ret => some (.leaf .ret S pl)
 | .reg s xs dead => sxReg q G s xs dead (plD dd (plR pl)) S
 | .draw s xs dep ord dead => sxDraw q G s xs dep ord dead (plD dd (plR pl)) S
 | .seq a b => match rec a pl S with
  | some T => T.bindN (fun S' p => rec b p S')
  | none => none
 | .cond c a b => match c.ev G S.t with
  | .bool v => sxCond (fun p => rec a p S) (fun p => rec b p S) v pl
  | _ => none
 | .block id a => match rec a pl S with
  | some T => some (T.catch id)
  | none => none
 | .loop a => match pl with
  | .lp outs => some (.lp a S outs outs)
  | .un p => match rec a p S with
   | some T => T.bindN (fun S' p => rec (.loop a) p S')
   | none => none
  | _ => none
 | .rangeF _ _ _ _ => none
 | .bad => none
 | .scope a => rec a pl S
def sx (md : Md) (q : List Cd → Prop) (G : GL) (dd : Dirs) : Nat → XC → Pl → St → Option Tree
 | 0, _, _, _ => none
 | n + 1, xc, pl, S =>
  match pl with
  | .frz t p => match frzS S t with
   | some (S', cs) => match sx md q G dd n xc p S' with
    | some T => some (obC q cs T)
    | none => none
   | none => none
  | .gho t id sz c p => match ghoS S t id sz c with
   | some S' => sx md q G dd n xc p S'
   | none => none
  | .ren σ S' p => match renS σ S S' with
   | some ps => cond (keepB σ S S' md.ks) (match sx md q G dd n xc p S' with
    | some T => some (.ob (PAll ps) T)
    | none => none) none
   | none => none
  | .br b p p' => match sx md q G dd n xc p S, sx md q G dd n xc p' S with
   | some T, some U => some (.br b T U)
   | _, _ => none
  | pl => sxC q G dd (sx md q G dd n) xc pl S

def Tree.Sel : Tree → Ex → St → Pl → Prop
 | .leaf e S p, e', S', p' => e = e' ∧ S = S' ∧ p = p'
 | .ob _ t, e, S, p => t.Sel e S p
 | .br b t u, e, S, p => (b = true ∧ t.Sel e S p) ∨ (b = false ∧ u.Sel e S p)
 | .lp _ _ _ t, e, S, p => t.Sel e S p

section
variable (P : Program) (G : GL) (md : Md)

def DX (ds : List Deferred) (w : World) (ds' : List Deferred) : Prop := ∃ new : List Nat, ds' = new.map markOf ++ ds ∧ ∀ r, r ∈ new → w.heap.size ≤ r
def RoOk (ρ : Nat → Option Nat) (H : Nat → Option HO) (ro : Option Nat) : Prop :=
 match md.rid with
 | none => ro = none
 | some id => ∃ b o, ro = some b ∧ ρ id = some b ∧ H id = some o ∧ o.box = true
def Aft (F : Nat → Prop) (ρ : Nat → Option Nat) (H : Nat → Option HO) (w : World) (ds : List Deferred) (S' : St) (a' : Act) (w' : World) : Prop :=
 ∃ F' ρ', RS G F' ρ' S' a' w' ∧ Ext G F ρ w F' ρ' w' ∧ HKp md.ks w ρ H w' ρ' (aget S'.h) ∧ DX ds w a'.defers
def WpX (xc : XC) (S : St) (Q : Ex → St → Prop) : Prop :=
 ∀ c, G.cm c xc → ∀ F ρ a w ro, RS G F ρ S a w → RoOk md ρ (aget S.h) ro → wpR P ro c (fun e a' w' => ∃ S', Q e S' ∧ Aft G md F ρ (aget S.h) w a.defers S' a' w') a w

def Tree.all (Q : Ex → St → Pl → Prop) : Tree → Prop
 | .leaf e S p => Q e S p
 | .ob p t => p ∧ t.all Q
 | .br b t u => (b = true → t.all Q) ∧ (b = false → u.all Q)
 | .lp a S outs t => WpX P G md (.loop a) S (fun e S' => ∃ p, outs.Sel e S' p) ∧ t.all Q
end

section
variable {P : Program} {G : GL} {md : Md}

theorem Tree.all_sel {Q : Ex → St → Pl → Prop} : ∀ {T : Tree}, T.all P G md Q → ∀ {e S p}, T.Sel e S p → Q e S p
 | .leaf e S p, h, e', S', p', hs => by obtain ⟨rfl, rfl, rfl⟩ := hs; exact h
 | .ob _ t, h, e, S, p, hs => Tree.all_sel (T := t) h.2 hs
 | .br b t u, h, e, S, p, hs => by
  rcases hs with ⟨hb, hs⟩ | ⟨hb, hs⟩
  ·exact Tree.all_sel (h.1 hb) hs
  ·exact Tree.all_sel (h.2 hb) hs
 | .lp _ _ _ t, h, e, S, p, hs => Tree.all_sel (T := t) h.2 hs

theorem Tree.all_mono {Q Q' : Ex → St → Pl → Prop} (hq : ∀ e S p, Q e S p → Q' e S p) : ∀ {T : Tree}, T.all P G md Q → T.all P G md Q'
 | .leaf e S p, h => hq _ _ _ h
 | .ob _ t, h => ⟨h.1, Tree.all_mono hq h.2⟩
 | .br b t u, h => ⟨fun hb => Tree.all_mono hq (h.1 hb), fun hb => Tree.all_mono hq (h.2 hb)⟩
 | .lp _ _ _ t, h => ⟨h.1, Tree.all_mono hq h.2⟩

theorem bindN_all {f : St → Pl → Option Tree} {Q : Ex → St → Pl → Prop} : ∀ {T T' : Tree}, T.bindN f = some T' → T'.all P G md Q → T.all P G md (fun e S p => (e = .normal ∧ ∃ U, f S p = some U ∧ U.all P G md Q) ∨ (e ≠ .normal ∧ Q e S p))
 | .leaf e S p, T', h, ha => by
  simp only [Tree.bindN] at h
  split at h
  ·exact .inl ⟨rfl, T', h, ha⟩
  ·rename_i hn
   cases h
   exact .inr ⟨fun e => hn e, ha⟩
 | .ob p t, T', h, ha => by
  simp only [Tree.bindN] at h
  split at h
  ·rename_i t' ht; cases h; exact ⟨ha.1, bindN_all ht ha.2⟩
  ·cases h
 | .br b t u, T', h, ha => by
  simp only [Tree.bindN] at h
  split at h
  ·rename_i t' u' ht hu; cases h; exact ⟨fun hb => bindN_all ht (ha.1 hb), fun hb => bindN_all hu (ha.2 hb)⟩
  ·cases h
 | .lp a S outs t, T', h, ha => by
  simp only [Tree.bindN] at h
  split at h
  ·rename_i t' ht; cases h; exact ⟨ha.1, bindN_all ht ha.2⟩
  ·cases h

theorem catch_all {id : Nat} {Q : Ex → St → Pl → Prop} : ∀ {T : Tree}, (T.catch id).all P G md Q → T.all P G md (fun e S p => (e = .exit id ∧ Q .normal S p) ∨ (e ≠ .exit id ∧ Q e S p))
 | .leaf e S p, h => by
  simp only [Tree.catch] at h
  cases e with
  | exit i =>
   simp only [Tree.all] at h ⊢
   by_cases e : i = id
   ·subst e; rw [beq_self, cond_true] at h; exact .inl ⟨rfl, h⟩
   ·rw [beq_ne e, cond_false] at h
    exact .inr ⟨fun e' => e (by cases e'; rfl), h⟩
  | normal => exact .inr ⟨(fun e => by cases e), h⟩
  | ret => exact .inr ⟨(fun e => by cases e), h⟩
 | .ob p t, h => ⟨h.1, catch_all h.2⟩
 | .br b t u, h => ⟨fun hb => catch_all (h.1 hb), fun hb => catch_all (h.2 hb)⟩
 | .lp a S outs t, h => ⟨h.1, catch_all h.2⟩

theorem obC_all {q : List Cd → Prop} (hq : q [] = True) {cs : List Cd} {t : Tree} {Q : Ex → St → Pl → Prop} (h : (obC q cs t).all P G md Q) : q cs ∧ t.all P G md Q := by
 unfold obC at h
 split at h
 ·exact ⟨by rw [hq]; trivial, h⟩
 ·exact h

end
end Go.Ab
