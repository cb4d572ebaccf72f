/- An abstract reading of the program: what its operations do to what is known of memory. Part 3 of 6. -/
import Derived.Test.YtfafinkgmhkdmaaDoorAb2
import Derived.Laws.BytesString

/-
 A part of the heap is known to a callee; what becomes of the whole.
-/
set_option linter.unusedVariables false
set_option linter.unusedSimpArgs false
namespace Go.Ab
open Go

theorem updL_nokey {H : Nat → Option HO} : ∀ {ws : List (Nat × HO)} {i : Nat}, i ∉ keys ws → updL H ws i = H i
 | [], i, h => rfl
 | (j, o) :: r, i, h => by
  simp only [keys, List.mem_cons, not_or] at h
  simp only [updL]
  rw [updL_nokey h.2, upd_other _ _ h.1]
theorem updL_key {A B : Nat → Option HO} : ∀ {ws : List (Nat × HO)} {i : Nat}, i ∈ keys ws → updL A ws i = updL B ws i
 | [], i, h => by simp [keys] at h
 | (j, o) :: r, i, h => by
  simp only [keys, List.mem_cons] at h
  simp only [updL]
  by_cases hr : i ∈ keys r
  ·exact updL_key hr
  ·rw [updL_nokey hr, updL_nokey hr]
   rcases h with rfl | h
   ·rw [upd_same, upd_same]
   ·exact absurd h hr
theorem updL_some {A : Nat → Option HO} : ∀ {ws : List (Nat × HO)} {i : Nat}, i ∈ keys ws → ∃ o, updL A ws i = some o
 | [], i, h => by simp [keys] at h
 | (j, o) :: r, i, h => by
  simp only [keys, List.mem_cons] at h
  simp only [updL]
  by_cases hr : i ∈ keys r
  ·exact updL_some hr
  ·rw [updL_nokey hr]
   rcases h with rfl | h
   ·exact ⟨o, upd_same _ _ _⟩
   ·exact absurd h hr
theorem updL_dom {A : Nat → Option HO} {ws : List (Nat × HO)} {i : Nat} {o : HO} (h : A i = some o) : ∃ o', updL A ws i = some o' := by
 by_cases hk : i ∈ keys ws
 ·exact updL_some hk
 ·exact ⟨o, by rw [updL_nokey hk]; exact h⟩

section
variable {P : Program} {G : GL} {F F1 : Nat → Prop} {ρ ρ1 : Nat → Option Nat} {H H1 : Nat → Option HO} {w w' : World}

mutual
theorem RelV.move {D : Nat → Prop} (hd : ∀ i, D i → H1 i = H i ∧ ρ1 i = ρ i) : ∀ {v : AV} {x : Value}, RelV w F ρ H v x → (∀ i, i ∈ refsV v → D i) → RelV w F ρ1 H1 v x
 | _, _, .imm v x hi, _ => .imm v x hi
 | _, _, .ptr id off b o hb hh hx, hk => by
  obtain ⟨h1, h2⟩ := hd id (hk id (by simp [refsV])); exact .ptr id off b o (h2.trans hb) (h1.trans hh) hx
 | _, _, .ep id n off k x hh hle hp hx, hk => by
  obtain ⟨h1, h2⟩ := hd id (hk id (by simp [refsV]))
  exact .ep id n off k x (h1.trans hh) hle hp (fun e => by obtain ⟨b, q1, q2⟩ := hx e; exact ⟨b, h2.trans q1, q2⟩)
 | _, _, .full id len k x hh hle hp hx, hk => by
  obtain ⟨h1, h2⟩ := hd id (hk id (by simp [refsV]))
  refine .full id len k x (h1.trans hh) hle hp (fun e => ?_)
  rcases hx e with h | h | ⟨q1, b, cap, cs, ty, fz, q2, q3⟩
  ·exact .inl h
  ·exact .inr (.inl h)
  ·exact .inr (.inr ⟨q1, b, cap, cs, ty, fz, h2.trans q2, q3⟩)
 | _, _, .sl id off len cap b k hb hh hx hlc, hk => by
  obtain ⟨h1, h2⟩ := hd id (hk id (by simp [refsV])); exact .sl id off len cap b k (h2.trans hb) (h1.trans hh) hx hlc
 | _, _, .fn f l1 l2 x1 x2 h1 h2, hk => .fn f l1 l2 x1 x2 (RelVs.move hd h1 (fun i hi => hk i (by simp [refsV, hi]))) (RelVs.move hd h2 (fun i hi => hk i (by simp [refsV, hi])))
 | _, _, .agg l x hl, hk => .agg l x (RelVs.move hd hl (fun i hi => hk i (by simpa [refsV] using hi)))
 | _, _, .tup l x hl, hk => .tup l x (RelVs.move hd hl (fun i hi => hk i (by simpa [refsV] using hi)))
 | _, _, .may b v x hb hn, hk => .may b v x (fun e => RelV.move hd (hb e) (fun i hi => hk i (by simpa [refsV] using hi))) hn
 | _, _, .iface t v x hv, hk => .iface t v x (RelV.move hd hv (fun i hi => hk i (by simpa [refsV] using hi)))
 | _, _, .yld id b o hb hh hx, hk => by
  obtain ⟨h1, h2⟩ := hd id (hk id (by simp [refsV])); exact .yld id b o (h2.trans hb) (h1.trans hh) hx
 | _, _, .spare id a l c hf, hk => .spare id a l c (RelV.move hd hf (fun i hi => hk i (by simpa [refsV] using hi)))
 | _, _, .fullc id len cap a hf, hk => .fullc id len cap a (RelV.move hd hf (fun i hi => hk i (by simpa [refsV] using hi)))
theorem RelVs.move {D : Nat → Prop} (hd : ∀ i, D i → H1 i = H i ∧ ρ1 i = ρ i) : ∀ {l : List AV} {xs : List Value}, RelVs w F ρ H l xs → (∀ i, i ∈ refsL l → D i) → RelVs w F ρ1 H1 l xs
 | _, _, .nil, _ => .nil
 | _, _, .cons v l x xs hv hs, hk => .cons v l x xs (RelV.move hd hv (fun i hi => hk i (by simp [refsL, hi]))) (RelVs.move hd hs (fun i hi => hk i (by simp [refsL, hi])))
end
mutual
theorem RelV.more (hd : ∀ i o, H i = some o → H1 i = some o ∧ ρ1 i = ρ i) : ∀ {v : AV} {x : Value}, RelV w F ρ H v x → RelV w F ρ1 H1 v x
 | _, _, .imm v x hi => .imm v x hi
 | _, _, .ptr id off b o hb hh hx => by
  obtain ⟨h1, h2⟩ := hd id o hh; exact .ptr id off b o (h2.trans hb) h1 hx
 | _, _, .ep id n off k x hh hle hp hx => by
  obtain ⟨h1, h2⟩ := hd id _ hh
  exact .ep id n off k x h1 hle hp (fun e => by obtain ⟨b, q1, q2⟩ := hx e; exact ⟨b, h2.trans q1, q2⟩)
 | _, _, .full id len k x hh hle hp hx => by
  obtain ⟨h1, h2⟩ := hd id _ hh
  refine .full id len k x h1 hle hp (fun e => ?_)
  rcases hx e with h | h | ⟨q1, b, cap, cs, ty, fz, q2, q3⟩
  ·exact .inl h
  ·exact .inr (.inl h)
  ·exact .inr (.inr ⟨q1, b, cap, cs, ty, fz, h2.trans q2, q3⟩)
 | _, _, .sl id off len cap b k hb hh hx hlc => by
  obtain ⟨h1, h2⟩ := hd id _ hh; exact .sl id off len cap b k (h2.trans hb) h1 hx hlc
 | _, _, .fn f l1 l2 x1 x2 h1 h2 => .fn f l1 l2 x1 x2 (RelVs.more hd h1) (RelVs.more hd h2)
 | _, _, .agg l x hl => .agg l x (RelVs.more hd hl)
 | _, _, .tup l x hl => .tup l x (RelVs.more hd hl)
 | _, _, .may b v x hb hn => .may b v x (fun e => RelV.more hd (hb e)) hn
 | _, _, .iface t v x hv => .iface t v x (RelV.more hd hv)
 | _, _, .yld id b o hb hh hx => by
  obtain ⟨h1, h2⟩ := hd id o hh; exact .yld id b o (h2.trans hb) h1 hx
 | _, _, .spare id a l c hf => .spare id a l c (RelV.more hd hf)
 | _, _, .fullc id len cap a hf => .fullc id len cap a (RelV.more hd hf)
theorem RelVs.more (hd : ∀ i o, H i = some o → H1 i = some o ∧ ρ1 i = ρ i) : ∀ {l : List AV} {xs : List Value}, RelVs w F ρ H l xs → RelVs w F ρ1 H1 l xs
 | _, _, .nil => .nil
 | _, _, .cons v l x xs hv hs => .cons v l x xs (RelV.more hd hv) (RelVs.more hd hs)
end

theorem refsL_getD : ∀ {l : List AV} {i j : Nat}, j ∈ refsV (l.getD i .undef) → j ∈ refsL l
 | [], i, j, h => by simp [refsV] at h
 | v :: r, 0, j, h => by simp [refsL]; left; simpa using h
 | v :: r, i + 1, j, h => by
  simp only [List.getD_cons_succ] at h
  simp only [refsL, List.mem_append]
  exact .inr (refsL_getD h)
theorem refsT_get : ∀ {l : List (Nat × AV)} {t : Nat} {v : AV} {j : Nat}, aget l t = some v → j ∈ refsV v → j ∈ refsT l
 | [], t, v, j, h, hj => by cases h
 | (k, u) :: r, t, v, j, h, hj => by
  simp only [aget] at h
  simp only [refsT, List.mem_append]
  by_cases e : k = t
  ·subst e; rw [beq_self, cond_true] at h; cases h; exact .inl hj
  ·rw [beq_ne e, cond_false] at h; exact .inr (refsT_get h hj)

theorem RelO.tr {id : Nat} {o : HO} (hv : ∀ (v : AV) (x : Value), (∀ i, i ∈ refsV v → i ∈ refsH (some o)) → RelV w F ρ H v x → RelV w F ρ1 H1 v x) (hρ : ρ1 id = ρ id)
  (hr : RelO G w F ρ H id o) : RelO G w F ρ1 H1 id o := by
 cases o with
 | blk k =>
  obtain ⟨h0, h1 | ⟨b, h1, h2⟩⟩ := hr
  ·exact ⟨h0, .inl ⟨h1.1, hρ.trans h1.2⟩⟩
  ·refine ⟨h0, .inr ⟨b, hρ.trans h1, ⟨?_, h2.mu, h2.fr⟩⟩⟩
   obtain ⟨cs, ty, fz, q1, q2, q3, q4⟩ := h2.ex
   refine ⟨cs, ty, fz, q1, q2, q3, fun i hi => ?_⟩
   obtain ⟨x, g1, g2⟩ := q4 i hi
   refine ⟨x, g1, ?_, g2.2⟩
   have g2 := g2.1
   cases hc : k.c with
   | cells l =>
    rw [hc] at g2
    exact hv _ _ (fun j hj => by simp only [refsH, hc, refsC]; exact refsL_getD hj) g2
   | _ => rw [hc] at g2; exact g2
 | iter s p =>
  obtain ⟨b, h1, h2⟩ := hr
  exact ⟨b, hρ.trans h1, h2⟩
 | loop l =>
  obtain ⟨b, h1, h2, r, h3, h4⟩ := hr
  exact ⟨b, hρ.trans h1, h2, r, h3, ⟨h4.st, h4.pend, h4.size, fun t v e => hv _ _ (fun j hj => by simp only [refsH]; exact refsT_get e hj) (h4.tmps t v e), h4.ps, h4.as, h4.bd⟩⟩

theorem allIn_ok : ∀ {a l : List Nat}, allIn a l = true → ∀ i, i ∈ a → i ∈ l
 | [], l, h, i, hi => by simp at hi
 | x :: r, l, h, i, hi => by
  simp only [allIn, cond_eq_ite] at h
  split at h
  ·rename_i hm
   rcases List.mem_cons.1 hi with rfl | hi
   ·clear h
    induction l with
    | nil => simp [memN] at hm
    | cons y l ih =>
     simp only [memN, cond_eq_ite] at hm
     split at hm
     ·rename_i e; rw [Nat.eq_of_beq_eq_true e]; simp
     ·exact List.mem_cons_of_mem _ (ih hm)
   ·exact allIn_ok h i hi
  ·cases h
theorem noneIn_ok' : ∀ {a l : List Nat}, noneIn a l = true → ∀ i, i ∈ a → i ∉ l
 | [], l, h, i, hi => by simp at hi
 | x :: r, l, h, i, hi => by
  simp only [noneIn, cond_eq_ite] at h
  split at h
  ·cases h
  ·rename_i hm
   rcases List.mem_cons.1 hi with rfl | hi
   ·intro hmem
    apply hm
    clear h hm
    induction l with
    | nil => simp at hmem
    | cons y l ih =>
     simp only [memN, cond_eq_ite]
     split
     ·rfl
     ·rename_i e
      rcases List.mem_cons.1 hmem with rfl | hmem
      ·exact absurd (beq_self _) e
      ·exact ih hmem
   ·exact noneIn_ok' h i hi
theorem key_aget {α : Type} : ∀ {l : List (Nat × α)} {i : Nat}, i ∈ keys l ↔ ∃ o, aget l i = some o
 | [], i => by simp [keys, aget]
 | (k, v) :: r, i => by
  simp only [keys, List.mem_cons, aget]
  by_cases e : k = i
  ·subst e; rw [beq_self, cond_true]; simp
  ·rw [beq_ne e, cond_false, ← key_aget]
   exact ⟨fun h => h.resolve_left (fun h => e h.symm), .inr⟩
theorem aget_mem {α : Type} : ∀ {l : List (Nat × α)} {i : Nat} {o : α}, aget l i = some o → (i, o) ∈ l
 | [], i, o, h => by cases h
 | (k, v) :: r, i, o, h => by
  simp only [aget] at h
  by_cases e : k = i
  ·subst e; rw [beq_self, cond_true] at h; cases h; simp
  ·rw [beq_ne e, cond_false] at h; exact List.mem_cons_of_mem _ (aget_mem h)
theorem closedH_ok {ks : List Nat} : ∀ {h : List (Nat × HO)}, closedH ks h = true → ∀ i o, (i, o) ∈ h → ∀ j, j ∈ refsH (some o) → j ∈ ks
 | [], hc, i, o, hi => by simp at hi
 | (k, u) :: r, hc, i, o, hi => by
  simp only [closedH, cond_eq_ite] at hc
  split at hc
  ·rename_i ha
   rcases List.mem_cons.1 hi with e | hi
   ·cases e; exact allIn_ok ha
   ·exact closedH_ok hc i o hi
  ·cases hc

def partR (h : List (Nat × HO)) (ρ : Nat → Option Nat) : Nat → Option Nat := fun i => if i ∈ keys h then ρ i else none

theorem MRel.part {h : List (Nat × HO)} (hm : MRel G F ρ H w) (hsub : ∀ id o, aget h id = some o → H id = some o) (hcl : closedH (keys h) h = true) :
  MRel G F (partR h ρ) (aget h) w := by
 have hin : ∀ i, i ∈ keys h → partR h ρ i = ρ i := fun i hi => by simp [partR, hi]
 have hpr : ∀ i b, partR h ρ i = some b → i ∈ keys h ∧ ρ i = some b := fun i b e => by
  simp only [partR] at e
  split at e
  ·exact ⟨by assumption, e⟩
  ·cases e
 refine ⟨fun id o ho => ?_, fun id b hb => key_aget.1 (hpr id b hb).1, fun i j b hi hj => hm.inj i j b (hpr i b hi).2 (hpr j b hj).2, fun id b hb => hm.lt id b (hpr id b hb).2, hm.frz, hm.glob⟩
 have hk : id ∈ keys h := key_aget.2 ⟨o, ho⟩
 refine (hm.heap id o (hsub id o ho)).tr (fun v x hv hr => RelV.move (D := fun i => i ∈ keys h) (fun i hi => ⟨?_, hin i hi⟩) hr (fun i hi => closedH_ok hcl id o (aget_mem ho) i (hv i hi))) (hin id hk)
 obtain ⟨o', ho'⟩ := key_aget.1 hi
 rw [ho', hsub i o' ho']

theorem KD.frame {h : List (Nat × HO)} {D : Delta} {y : Value} (hm : MRel G F ρ H w) (hsub : ∀ id o, aget h id = some o → H id = some o)
  (hws : ∀ i, i ∈ keys D.ws → i ∈ keys h ∨ i ∈ D.al) (hal : ∀ i, i ∈ D.al → H i = none) (hk : KD G F (partR h ρ) (aget h) w D y w') : KD G F ρ H w D y w' := by
 obtain ⟨F', ρ', q1, q2, q3, q4⟩ := hk
 have hin : ∀ i, i ∈ keys h → partR h ρ i = ρ i := fun i hi => by simp [partR, hi]
 have hpr : ∀ i b, partR h ρ i = some b → i ∈ keys h ∧ ρ i = some b := fun i b e => by
  simp only [partR] at e
  split at e
  ·exact ⟨by assumption, e⟩
  ·cases e
 generalize hHs : updL (aget h) D.ws = Hs at q1 q3 q4
 unfold KD
 generalize hH2 : updL H D.ws = H2
 have hdom : ∀ i, i ∈ keys h → ∃ o, Hs i = some o := fun i hi => by
  obtain ⟨o, ho⟩ := key_aget.1 hi
  rw [← hHs]; exact updL_dom ho
 have hsame : ∀ i o, Hs i = some o → H2 i = some o := fun i o ho => by
  rw [← hHs] at ho; rw [← hH2]
  by_cases hi : i ∈ keys D.ws
  ·rw [updL_key (B := aget h) hi]; exact ho
  ·rw [updL_nokey hi] at ho ⊢; exact hsub i o ho
 have hout : ∀ i, Hs i = none → H2 i = H i ∧ i ∉ keys h := fun i ho => by
  refine ⟨?_, fun hi => by obtain ⟨o, h'⟩ := hdom i hi; rw [h'] at ho; cases ho⟩
  rw [← hH2]
  refine updL_nokey (fun hi => ?_)
  obtain ⟨o, h'⟩ := updL_some (A := aget h) hi
  rw [hHs, ho] at h'; cases h'
 have hnew : ∀ i o, H i = some o → i ∉ keys h → Hs i = none := fun i o ho hi => by
  rw [← hHs]
  have hnk : i ∉ keys D.ws := fun hk => by
   rcases hws i hk with h' | h'
   ·exact hi h'
   ·rw [hal i h'] at ho; cases ho
  rw [updL_nokey hnk]
  cases e : aget h i with
  | none => rfl
  | some o' => exact absurd (key_aget.2 ⟨o', e⟩) hi
 let ρ2 : Nat → Option Nat := fun i => match Hs i with | some _ => ρ' i | none => ρ i
 have r2in : ∀ i o, Hs i = some o → ρ2 i = ρ' i := fun i o e => by simp only [ρ2, e]
 have r2out : ∀ i, Hs i = none → ρ2 i = ρ i := fun i e => by simp only [ρ2, e]
 have hρ' : ∀ i b, ρ' i = some b → ∃ o, Hs i = some o := fun i b e => q1.dom i b e
 have hlift : ∀ {v : AV} {x : Value}, RelV w' F' ρ' Hs v x → RelV w' F' ρ2 H2 v x := fun hv => RelV.more (fun i o e => ⟨hsame i o e, r2in i o e⟩) hv
 have hkeep : HKeep w ρ H w' ρ2 H2 := by
  refine ⟨fun id o h1 h2 => ?_, fun id k h1 => ?_, q3.sz⟩
  ·by_cases hi : id ∈ keys h
   ·obtain ⟨o', ho'⟩ := key_aget.1 hi
    have e := hsub id o' ho'
    rw [h1] at e; cases e
    obtain ⟨o2, g1, g2, g3⟩ := q3.box id o ho' h2
    exact ⟨o2, hsame _ _ g1, g2, (r2in _ _ g1).trans (g3.trans (hin id hi))⟩
   ·have hn := hnew id o h1 hi
    exact ⟨o, by rw [(hout id hn).1]; exact h1, h2, r2out id hn⟩
  ·by_cases hi : id ∈ keys h
   ·obtain ⟨o', ho'⟩ := key_aget.1 hi
    have e := hsub id o' ho'
    rw [h1] at e; cases e
    obtain ⟨k2, g1, g2, g3, g4⟩ := q3.blk id k ho'
    refine ⟨k2, hsame _ _ g1, g2, g3, fun e => ?_⟩
    obtain ⟨p1, p2, p3, p4⟩ := g4 e
    exact ⟨p1, p2, p3, (r2in _ _ g1).trans (p4.trans (hin id hi))⟩
   ·have hn := hnew id _ h1 hi
    exact ⟨k, by rw [(hout id hn).1]; exact h1, rfl, Nat.le_refl _, fun _ => ⟨rfl, rfl, .inl rfl, r2out id hn⟩⟩
 have hext : Ext G F ρ w F' ρ2 w' := by
  refine ⟨q2.io, q2.size, fun b hb hn => q2.same b hb (fun id e => hn id (hpr id b e).2), q2.frz, q2.keep, fun b hb => ?_, fun id b hb => ?_⟩
  ·rcases q2.more b hb with h' | h' | ⟨id, h'⟩
   ·exact .inl h'
   ·exact .inr (.inl h')
   ·exact .inr (.inr ⟨id, (hpr id b h').2⟩)
  ·cases e : Hs id with
   | none => exact .inl ⟨id, (r2out id e).symm.trans hb⟩
   | some o =>
    rcases q2.im id b ((r2in id o e).symm.trans hb) with ⟨id', h'⟩ | h'
    ·exact .inl ⟨id', (hpr id' b h').2⟩
    ·exact .inr h'
 refine ⟨F', ρ2, ⟨fun id o ho => ?_, fun id b hb => ?_, fun i j b hi hj => ?_, fun id b hb => ?_, q1.frz, q1.glob⟩, hext, hkeep, hlift q4⟩
 ·cases e : Hs id with
  | some o' =>
   have := hsame id o' e
   rw [ho] at this; cases this
   exact (q1.heap id o e).tr (fun v x _ hr => hlift hr) (r2in id o e)
  | none =>
   obtain ⟨h1, h2⟩ := hout id e
   rw [h1] at ho
   refine (hm.heap id o ho).mono q2.frz q2.keep hkeep (r2out id e) (fun b hb => ?_)
   have hnp : ∀ id', partR h ρ id' ≠ some b := fun id' e' => by
    obtain ⟨g1, g2⟩ := hpr id' b e'
    exact h2 (hm.inj id id' b hb g2 ▸ g1)
   refine ⟨q2.same b (hm.lt id b hb) hnp, fun hf => ?_⟩
   rcases q2.more b hf with h' | h' | ⟨id', h'⟩
   ·exact h'
   ·have := hm.lt id b hb; omega
   ·exact absurd h' (hnp id')
 ·cases e : Hs id with
  | some o => exact ⟨o, hsame id o e⟩
  | none =>
   obtain ⟨o, ho⟩ := hm.dom id b ((r2out id e).symm.trans hb)
   exact ⟨o, by rw [(hout id e).1]; exact ho⟩
 ·have mixed : ∀ i j o, Hs i = some o → Hs j = none → ρ' i = some b → ρ j = some b → i = j := fun i j o ei ej hi hj => by
   exfalso
   rcases q2.im i b hi with ⟨id', h'⟩ | h'
   ·obtain ⟨g1, g2⟩ := hpr id' b h'
    have := hm.inj j id' b hj g2
    subst this
    exact (hout j ej).2 g1
   ·have := hm.lt j b hj; omega
  cases ei : Hs i with
  | some o =>
   rw [r2in i o ei] at hi
   cases ej : Hs j with
   | some o' => rw [r2in j o' ej] at hj; exact q1.inj i j b hi hj
   | none => rw [r2out j ej] at hj; exact mixed i j o ei ej hi hj
  | none =>
   rw [r2out i ei] at hi
   cases ej : Hs j with
   | some o' => rw [r2in j o' ej] at hj; exact (mixed j i o' ej ei hj hi).symm
   | none => rw [r2out j ej] at hj; exact hm.inj i j b hi hj
 ·cases e : Hs id with
  | some o => rw [r2in id o e] at hb; exact q1.lt id b hb
  | none => rw [r2out id e] at hb; exact Nat.lt_of_lt_of_le (hm.lt id b hb) q2.size

theorem readF_get {look : Nat → Option HO} : ∀ {l : List Nat} {i : Nat} {o : HO}, aget (readF look l) i = some o → look i = some o
 | [], i, o, e => by cases e
 | j :: r, i, o, e => by
  simp only [readF] at e
  split at e
  ·rename_i u hu
   simp only [aget] at e
   by_cases hj : j = i
   ·subst hj; rw [beq_self, cond_true] at e; cases e; exact hu
   ·rw [beq_ne hj, cond_false] at e; exact readF_get e
  ·exact readF_get e

theorem refsV_yld {id : Nat} : refsV (.yld id) = [id] := rfl

theorem callD_sound (hm : MRel G F ρ H w) {look : Nat → Option HO} (hl : ∀ id o, look id = some o → H id = some o) {site : Nat} {tb : Nat → List (Nat × HO) → AV → List AV → Option Delta} {cv : AV} {vs : List AV} {D : Delta}
  (hD : opCallD site look tb cv vs = some D) (hc : AllC (SpecQ P G) D.cs) (hfresh : ∀ i, i ∈ D.al → H i = none) {xs : Array Value} (hv : RelVs w F ρ H vs xs.toList) : TgtOk P ρ cv xs w (KD G F ρ H w D) := by
 unfold opCallD at hD
 simp only [cond_eq_ite] at hD
 split at hD
 ·rename_i hcl
  rw [Bool.and_eq_true] at hcl
  obtain ⟨c1, c2⟩ := hcl
  generalize hh : readF look (reachW look 1000000 (refsV cv ++ refsL vs) []) = h at *
  have hsub : ∀ id o, aget h id = some o → H id = some o := fun id o e => hl id o (readF_get (by rw [hh]; exact e))
  have hks := allIn_ok c1
  split at hD
  ·rename_i D' hD'
   split at hD
   ·rename_i hw
    rw [Bool.and_eq_true] at hw
    have hws : ∀ i, i ∈ keys D'.ws → i ∈ keys h ∨ i ∈ D'.al := fun i hi => by simpa using allIn_ok hw.1 i hi
    cases hD
    have hsp : SpecD P G cv vs h D'.v D'.ws D'.al := hc.1
    have hin : ∀ i, i ∈ keys h → aget h i = H i ∧ partR h ρ i = ρ i := fun i hi => by
     obtain ⟨o, ho⟩ := key_aget.1 hi
     exact ⟨by rw [ho, hsub i o ho], by simp [partR, hi]⟩
    have h1 := hsp F (partR h ρ) w xs (hm.part hsub c2) (RelVs.move (D := fun i => i ∈ keys h) hin hv (fun i hi => hks i (by simp [hi])))
    have fin : ∀ (y : Value) (w' : World), KD G F (partR h ρ) (aget h) w { v := D'.v, ws := D'.ws, al := D'.al, cs := [] } y w' → KD G F ρ H w { D' with cs := .callD cv vs h D'.v D'.ws D'.al :: D'.cs } y w' := fun y w' hk =>
     KD.frame (D := { D' with cs := .callD cv vs h D'.v D'.ws D'.al :: D'.cs }) hm hsub hws hfresh hk
    unfold TgtOk at h1 ⊢
    cases cv with
    | fn f a c => exact h1.mono fin
    | yld id =>
     intro b hb
     refine (h1 b ?_).mono fin
     rw [(hin id (hks id (by simp [refsV_yld]))).2]; exact hb
    | _ => exact h1
   ·cases hD
  ·cases hD
 ·cases hD

end
end Go.Ab

/-
 The model's operations, with the types' facts resolved; each does what its abstract effect says.
-/
set_option linter.unusedVariables false
set_option linter.unusedSimpArgs false
namespace Go.Ab
open Go

/-! ### Compilation -/

mutual
def compV : Nat → Value → Option AV
 | 0, _ => none
 | n + 1, v =>
  match v with
  | .bool b => some (.bool b)
  | .int k x => some (.int k x)
  | .string s => some (.str s.data.toList)
  | .pointer none => some .nilp
  | .slice none 0 0 => some .nils
  | .nilFunc => some .nilf
  | .nilIface => some .nili
  | .func (.func f) a c => match compVs n a.toList, compVs n c.toList with
   | some a', some c' => some (.fn f a' c')
   | _, _ => none
  | .agg xs => match compVs n xs.toList with
   | some l => some (.agg l)
   | none => none
  | .tuple xs => match compVs n xs.toList with
   | some l => some (.tup l)
   | none => none
  | _ => none
def compVs : Nat → List Value → Option (List AV)
 | 0, _ => none
 | n + 1, l =>
  match l with
  | [] => some []
  | v :: r => match compV n v, compVs n r with
   | some v', some r' => some (v' :: r')
   | _, _ => none
end

theorem compV_sound (w : World) (F : Nat → Prop) : ∀ n, (∀ v a, compV n v = some a → RelI w F a v) ∧ (∀ l a, compVs n l = some a → RelIs w F a l) := by
 intro n
 induction n with
 | zero => exact ⟨fun v a h => by simp [compV] at h, fun l a h => by simp [compVs] at h⟩
 | succ n ih =>
  obtain ⟨ihV, ihL⟩ := ih
  refine ⟨fun v a h => ?_, fun l a h => ?_⟩
  ·simp only [compV] at h
   split at h
   ·cases h; exact .bool _
   ·cases h; exact .int _ _
   ·cases h; exact .str _ _ rfl
   ·cases h; exact .nilp
   ·cases h; exact .nils
   ·cases h; exact .nilf
   ·cases h; exact .nili
   ·split at h
    ·rename_i h1 h2; cases h; exact .fn _ _ _ _ _ (ihL _ _ h1) (ihL _ _ h2)
    ·cases h
   ·split at h
    ·rename_i h1; cases h; exact .agg _ _ (ihL _ _ h1)
    ·cases h
   ·split at h
    ·rename_i h1; cases h; exact .tup _ _ (ihL _ _ h1)
    ·cases h
   ·cases h
  ·cases l with
   | nil => simp only [compVs] at h; cases h; exact .nil
   | cons v r =>
    simp only [compVs] at h
    split at h
    ·rename_i h1 h2; cases h; exact .cons _ _ _ _ (ihV _ _ h1) (ihL _ _ h2)
    ·cases h

def compX : Operand → Option Opd
 | .tmp t => some (.t t)
 | .const v => match compV 12 v with | some a => some (.c a) | none => none
 | .global g => some (.g g)
 | .func f => some (.c (.fn f [] []))
def compXs : List Operand → Option (List Opd)
 | [] => some []
 | x :: r => match compX x, compXs r with
  | some a, some b => some (a :: b)
  | _, _ => none
def compXo : Option Operand → Option (Option Opd)
 | none => some none
 | some x => match compX x with | some a => some (some a) | none => none

def aggOf (P : Program) (t : TypeId) : Option (Option Nat) :=
 match P.underlying t, P.info? t with
 | some d, some i => some (cond (aggD d) (some i.size) none)
 | _, _ => none
def szOf (P : Program) (t : TypeId) : Option Nat := match P.info? t with | some i => some i.size | none => none
def kcode : IntKind → Nat
 | .i8 => 1 | .i16 => 2 | .i32 => 3 | .i64 => 4 | .u8 => 5 | .u16 => 6 | .u32 => 7 | .u64 => 8
def tyCode (P : Program) (e : TypeId) : Nat :=
 match P.underlying e with
 | some (.int k) => kcode k
 | some .bool => 9
 | some .string => 10
 | _ => 0
def allOne : List Value → Bool
 | [] => true
 | v :: r => v.oneCell' && allOne r
def zeroOf (P : Program) (t : TypeId) : Option (List AV) :=
 match P.info? t with
 | some i => match i.zero with
  | some z => cond (allOne z.cells.toList && Nat.beq z.cells.size i.size) (compVs 12000 z.cells.toList) none
  | none => none
 | none => none
def elOf (P : Program) (e : TypeId) : Option (Nat × Nat × List AV) :=
 match P.info? e, zeroOf P e with
 | some i, some z => cond (Nat.beq i.bytes 0) none (some (i.size, i.bytes, z))
 | _, _ => none

def compAlloc (P : Program) (t : TypeId) : Option XOp :=
 match zeroOf P t with
 | some z => match P.underlying t with
  | some (.array n e) => match contOf (tyCode P e) z, szOf P e with
   | some c, some sz => some (.new c n sz)
   | _, _ => none
  | _ => some (.new (.cells z) 1 z.length)
 | none => none
def compLoad (P : Program) (t : TypeId) (a : Operand) : Option XOp :=
 match aggOf P t, compX a with
 | some agg, some a => some (.load agg a)
 | _, _ => none
def compStore (P : Program) (t : TypeId) (a x : Operand) : Option XOp :=
 match szOf P t, compX a, compX x with
 | some sz, some a, some x => some (.store sz a x)
 | _, _, _ => none
def isNilConst (kd : Nat) : Operand → Bool
 | .const (.slice none 0 0) => Nat.beq kd 0
 | .const .nilFunc => Nat.beq kd 1
 | .const (.pointer none) => Nat.beq kd 2
 | _ => false
def compEqa (P : Program) (neq : Bool) (t : TypeId) (x y : Operand) : Option XOp :=
 match szOf P t, leavesT P 16 t 0, compX x, compX y with
 | some n, some ls, some a, some b => cond (P.eqGuardType P.depth t) none (some (.eqa neq n ls a b))
 | _, _, _, _ => none
def compEq (P : Program) (neq : Bool) (t : TypeId) (x y : Operand) : Option XOp :=
 match P.underlying t with
 | some (.int _) => match compX x, compX y with
  | some a, some b => some (.bin (cond neq .neq .eql) a b)
  | _, _ => none
 | some .string => match compX x, compX y with
  | some a, some b => some (.bin (cond neq .neq .eql) a b)
  | _, _ => none
 | some .bool => match compX x, compX y with
  | some a, some b => some (.eqb neq a b)
  | _, _ => none
 | some (.struct _) => compEqa P neq t x y
 | some (.array _ _) => compEqa P neq t x y
 | some (.slice _) => cond (isNilConst 0 y) (match compX x with | some a => some (.isnil neq 0 a) | none => none) none
 | some (.func _ _ _) => cond (isNilConst 1 y) (match compX x with | some a => some (.isnil neq 1 a) | none => none) none
 | some (.pointer _) => cond (isNilConst 2 y) (match compX x with | some a => some (.isnil neq 2 a) | none => none) none
 | _ => none
def compBin (P : Program) (op : BinOp) (t : TypeId) (x y : Operand) : Option XOp :=
 match op with
 | .eql => compEq P false t x y
 | .neq => compEq P true t x y
 | op => match compX x, compX y with
  | some a, some b => some (.bin op a b)
  | _, _ => none
def compConv (P : Program) (src dst : TypeId) (x : Operand) : Option XOp :=
 match P.underlying src, P.underlying dst, compX x with
 | some (.int _), some (.int k), some a => some (.conv k a)
 | _, _, _ => none
def compFieldA (P : Program) (t : TypeId) (x : Operand) (ix : Nat) : Option XOp :=
 match P.underlying t with
 | some (.struct fs) => match fs[ix]? with
  | some f => match szOf P f.type, compX x with
   | some n, some a => cond (Nat.beq n 0) none (some (.fieldA f.offset a))
   | _, _ => none
  | none => none
 | _ => none
def compField (P : Program) (t : TypeId) (x : Operand) (ix : Nat) : Option XOp :=
 match P.underlying t with
 | some (.struct fs) => match fs[ix]? with
  | some f => match aggOf P f.type, compX x with
   | some agg, some a => some (.field f.offset agg a)
   | _, _ => none
  | none => none
 | _ => none
def compIdxA (P : Program) (t : TypeId) (x i : Operand) : Option XOp :=
 match P.underlying t with
 | some (.slice e) => match szOf P e, compX x, compX i with
  | some sz, some a, some b => some (.idxA none sz a b)
  | _, _, _ => none
 | some (.array n e) => match szOf P e, compX x, compX i with
  | some sz, some a, some b => some (.idxA (some n) sz a b)
  | _, _, _ => none
 | _ => none
def compIdx (P : Program) (t : TypeId) (x i : Operand) : Option XOp :=
 match P.underlying t with
 | some (.array n e) => match szOf P e, aggOf P e, compX x, compX i with
  | some sz, some agg, some a, some b => some (.idx n sz agg.isSome a b)
  | _, _, _, _ => none
 | some .string => match compX x, compX i with
  | some a, some b => some (.idxs a b)
  | _, _ => none
 | _ => none
def compSlice (P : Program) (t : TypeId) (x : Operand) (lo hi mx : Option Operand) : Option XOp :=
 match compX x, compXo lo, compXo hi, compXo mx with
 | some a, some l, some h, some m => match P.underlying t with
  | some (.slice e) => match szOf P e with
   | some sz => some (.slice sz a l h m)
   | none => none
  | some .string => match m with
   | none => some (.slices a l h)
   | some _ => none
  | some (.array n e) => match szOf P e with
   | some sz => some (.slicea n sz a l h m)
   | none => none
  | _ => none
 | _, _, _, _ => none
def compBuildPs (P : Program) (place : Nat → Option (Nat × Nat)) : List (Nat × Operand) → Option (List (Nat × Nat × Opd))
 | [] => some []
 | (i, x) :: r => match place i, compX x, compBuildPs P place r with
  | some (off, sz), some a, some l => some ((off, sz, a) :: l)
  | _, _, _ => none
def fieldPl (P : Program) (fs : Array Field) (i : Nat) : Option (Nat × Nat) :=
 match fs[i]? with
 | some f => match szOf P f.type with
  | some n => some (f.offset, n)
  | none => none
 | none => none
def allSz (P : Program) : List Field → Bool
 | [] => true
 | f :: r => (szOf P f.type).isSome && allSz P r
def compBuild (P : Program) (t : TypeId) (ps : List (Nat × Operand)) : Option XOp :=
 match zeroOf P t, P.underlying t with
 | some z, some (.struct fs) => cond (allSz P fs.toList) (match compBuildPs P (fieldPl P fs) ps with
  | some l => some (.build z l)
  | none => none) none
 | some z, some (.array _ e) => match szOf P e with
  | some sz => match compBuildPs P (fun i => some (i * sz, sz)) ps with
   | some l => some (.build z l)
   | none => none
  | none => none
 | _, _ => none
def compBuildS (P : Program) (t : TypeId) (len : Nat) (ps : List (Nat × Operand)) : Option XOp :=
 match P.underlying t with
 | some (.slice e) => match elOf P e with
  | some (sz, _, z) => cond (len' (len * sz) 16777216 && !Nat.beq sz 0) (match compBuildPs P (fun i => some (i * sz, sz)) ps with
   | some l => some (.buildS sz len (tyCode P e) z l)
   | none => none) none
  | none => none
 | _ => none
def compMks (P : Program) (t : TypeId) (l c : Operand) : Option XOp :=
 match P.underlying t, compX l, compX c with
 | some (.slice e), some a, some b => match elOf P e with
  | some (sz, by_, z) => cond (Nat.beq sz 1) (some (.mks sz by_ (tyCode P e) z a b)) none
  | none => none
 | _, _, _ => none
def compCall (P : Program) (c : Call) : Option XOp :=
 match compXs c.args.toList with
 | some as => match c.callee with
  | .value (.func f) => some (.call f as)
  | .value x => match compX x with
   | some a => some (.callv a as)
   | none => none
  | .builtin .len => match c.argTypes.toList, as with
   | [t], [a] => match P.underlying t with
    | some .string => some (.lens a)
    | some (.slice _) => some (.len a)
    | some (.array n _) => some (.lena n a)
    | _ => none
   | _, _ => none
  | .builtin .cap => match c.argTypes.toList, as with
   | [t], [a] => match P.underlying t with
    | some (.slice _) => some (.cap a)
    | _ => none
   | _, _ => none
  | .builtin .append => match c.argTypes.toList, as with
   | [t, u], [a, b] => match P.underlying t, P.underlying u with
    | some (.slice e), some (.slice _) => match elOf P e with
     | some (sz, by_, _) => some (.append sz by_ (tyCode P e) a b)
     | none => none
    | some (.slice e), some (.int _) => match elOf P e with
     | some (sz, by_, _) => some (.growz sz by_ (tyCode P e) a b)
     | none => none
    | _, _ => none
   | _, _ => none
  | .builtin .max => some (.mm true as)
  | .builtin .min => some (.mm false as)
  | _ => none
 | none => none

def compBstr (P : Program) (src dst : TypeId) (x : Operand) : Option XOp :=
 match P.underlying src, P.underlying dst, compX x with
 | some (.slice e), some .string, some a => match P.underlying e with
  | some (.int .u8) => some (.bstr a)
  | _ => none
 | some (.int _), some .string, some a => some (.rstr a)
 | _, _, _ => none
def compOp (P : Program) (op : Op) : Option XOp :=
 match op with
 | .move x => match compX x with | some a => some (.mv a) | none => none
 | .assign x => match compX x with | some a => some (.mv a) | none => none
 | .pick c a b => match compX c, compX a, compX b with
  | some c, some a, some b => some (.pick c a b)
  | _, _, _ => none
 | .alloc e => compAlloc P e
 | .box _ x => match compX x with | some a => some (.box a) | none => none
 | .build t ps => compBuild P t ps.toList
 | .buildSlice t len ps => compBuildS P t len ps.toList
 | .load t a => compLoad P t a
 | .store t a x => compStore P t a x
 | .nilCheck x => match compX x with | some a => some (.nilck a) | none => none
 | .binOp op t x y _ => compBin P op t x y
 | .unOp op _ x => match compX x with | some a => some (.un op a) | none => none
 | .convert src dst x => match compConv P src dst x with
  | some r => some r
  | none => compBstr P src dst x
 | .range t x => match P.underlying t, compX x with
  | some .string, some a => some (.rng a)
  | _, _ => none
 | .next x true => match compX x with | some a => some (.nxt a) | none => none
 | .makeFunc (.func f) a c => match compXs a.toList, compXs c.toList with
  | some a, some c => some (.mkf f a c)
  | _, _ => none
 | .makeSlice t l c => compMks P t l c
 | .slice t x lo hi mx => compSlice P t x lo hi mx
 | .fieldAddr t x f => compFieldA P t x f
 | .field t x f => compField P t x f
 | .indexAddr t x i => compIdxA P t x i
 | .index t x i => compIdx P t x i
 | .extract x i => match compX x with | some a => some (.ext a i) | none => none
 | .call c => compCall P c
 | _ => none

def compOpB (P : Program) (op : Op) : Option XOp :=
 match op with
 | .defer _ => none
 | op => match compOp P op with
  | some x => some x
  | none => some .bad

end Go.Ab

/-
 One operation of the model, by its abstract effect.
-/
set_option linter.unusedVariables false
set_option linter.unusedSimpArgs false
namespace Go.Ab
open Go

def OpOk (P : Program) (o : Oper) (ev : Operand → Value) (w : World) (K : Value → World → Prop) : Prop := NextOk P ((execOp ev o).run P w) K

section
variable {P : Program} {G : GL} {F : Nat → Prop} {ρ : Nat → Option Nat} {H : Nat → Option HO} {w : World} {look : Nat → Option HO} {D : Delta} {o : Oper} {ev : Operand → Value} {T : List (Nat × AV)}

theorem OpOk.eff {r : Result Value} (hrun : (execOp ev o).run P w = r.andThen fun v w' => .ok (.value v) w') (he : Eff G F ρ H w r D) : OpOk P o ev w (KD G F ρ H w D) := by
 obtain ⟨x, w', F', ρ', h1, h2⟩ := he
 subst h1
 exact .inl ⟨_, x, w', hrun, .inl rfl, F', ρ', h2⟩

theorem Gives.eff {r : Result Value} (hm : MRel G F ρ H w) (h : Gives F ρ H w r D) : Eff G F ρ H w r D := by
 obtain ⟨x, h1, h2, h3, h4⟩ := h
 exact Eff.pure hm h1 h3 h2

def EvOk (G : GL) (F : Nat → Prop) (ρ : Nat → Option Nat) (H : Nat → Option HO) (w : World) (T : List (Nat × AV)) (ev : Operand → Value) : Prop :=
 ∀ X o, compX X = some o → RelV w F ρ H (o.ev G T) (ev X)

theorem EvOk.list (hev : EvOk G F ρ H w T ev) : ∀ {l : List Operand} {os : List Opd}, compXs l = some os → RelVs w F ρ H (os.map (Opd.ev G T)) (l.map ev)
 | [], os, h => by cases h; exact .nil
 | x :: r, os, h => by
  simp only [compXs] at h
  split at h
  ·rename_i h1 h2; cases h; exact .cons _ _ _ _ (hev _ _ h1) (hev.list h2)
  ·cases h

theorem aggOf_ok {t : TypeId} {agg : Option Nat} (h : aggOf P t = some agg) : TyOk P t agg := by
 unfold aggOf at h
 split at h
 ·rename_i d i h1 h2
  cases h
  refine ⟨⟨d, h1, ?_⟩, i, h2, fun n e => ?_⟩
  ·cases d <;> rfl
  ·cases d <;> simp [aggD] at e <;> exact e
 ·cases h

theorem szOf_ok {t : TypeId} {n : Nat} (h : szOf P t = some n) : ∃ i, P.info? t = some i ∧ i.size = n := by
 unfold szOf at h
 split at h
 ·rename_i i hi; cases h; exact ⟨i, hi, rfl⟩
 ·cases h

theorem allOne_mem : ∀ {l : List Value}, allOne l = true → ∀ v ∈ l, v.oneCell' = true
 | [], _, v, h => by simp at h
 | u :: r, ha, v, h => by
  simp only [allOne, Bool.and_eq_true] at ha
  rcases List.mem_cons.1 h with rfl | h
  ·exact ha.1
  ·exact allOne_mem ha.2 v h

theorem zeroOf_ok {t : TypeId} {z : List AV} (h : zeroOf P t = some z) : ∃ i v, P.info? t = some i ∧ i.zero = some v ∧ v.cells.size = i.size ∧ (∀ u ∈ v.cells.toList, u.oneCell' = true) ∧ (∀ (w : World) F, RelIs w F z v.cells.toList) ∧
  (zeroValue t).run P w = .ok v w := by
 unfold zeroOf at h
 split at h
 ·rename_i i hi
  split at h
  ·rename_i v hv
   simp only [cond_eq_ite] at h
   split at h
   ·rename_i hc
    simp only [Bool.and_eq_true] at hc
    exact ⟨i, v, hi, hv, Nat.eq_of_beq_eq_true hc.2, allOne_mem hc.1, fun w F => (compV_sound w F 12000).2 _ _ h, by simp [zeroValue, typeInfo, hi, hv]⟩
   ·cases h
  ·cases h
 ·cases h

theorem elOf_ok {e : TypeId} {sz by_ : Nat} {z : List AV} (h : elOf P e = some (sz, by_, z)) : ElOk P e sz by_ ∧ zeroOf P e = some z := by
 unfold elOf at h
 split at h
 ·rename_i i z' hi hz
  simp only [cond_eq_ite] at h
  split at h
  ·cases h
  ·rename_i hb
   cases h
   obtain ⟨i', v, h1, h2, h3, h4, h5, h6⟩ := zeroOf_ok (w := default) hz
   rw [hi] at h1; cases h1
   exact ⟨⟨⟨i, v, hi, rfl, rfl, h2, h3⟩, fun e => hb (by simp [e])⟩, hz⟩
 ·cases h

theorem run_value {s : Sem Value} : (do pure (Next.value (← s)) : Sem Next).run P w = (s.run P w).andThen fun v w' => .ok (.value v) w' := by
 simp

theorem step_alloc {t : TypeId} (ho : o.op = .alloc t) {x : XOp} (hx : compAlloc P t = some x) (hm : MRel G F ρ H w) {site : Nat} {d : Dir} {vs : List AV} (hD : execD site look x d vs = some D) (hfresh : ∀ i, i ∈ D.al → H i = none) :
  OpOk P o ev w (KD G F ρ H w D) := by
 unfold compAlloc at hx
 split at hx
 ·rename_i z hz
  obtain ⟨i, v, h1, h2, h3, h4, h5, h6⟩ := zeroOf_ok (w := w) hz
  have hrun : (execOp ev o).run P w = (((newRow t v.cells).run P w).andThen fun a w' => .ok (.pointer (some a)) w').andThen fun v w' => .ok (.value v) w' := by
   unfold execOp
   rw [ho]
   simp only [run_value]
   simp only [Instr.alloc, Sem.run_bind, h6, Result.andThen_ok, newVar, newRow, run_newObj, Sem.run_pure]
  have hrel : RelVs w F ρ H z v.cells.toList := (h5 w F).toVs
  have go : ∀ c, c.size = z.length → (∀ i y, i < z.length → RelV w F ρ H (z.getD i .undef) y → y.oneCell' = true → RelE w F ρ H c i y) → ∀ n sz, opNew site c n sz = some D → OpOk P o ev w (KD G F ρ H w D) := by
   intro c hs hc n sz hD
   have hlen : z.length = v.cells.size := by have := hrel.len; simpa using this
   refine OpOk.eff hrun (opNew_sound hm (hfresh site (opNew_al hD)) (by omega) (fun j hj => ?_) hD)
   obtain ⟨y, p1, p2⟩ := hrel.getD (by omega : j < z.length)
   exact ⟨y, p1, hc j y (by omega) p2 (h4 y (List.mem_of_getElem? (l := v.cells.toList) (i := j) (by simpa using p1)))⟩
  split at hx
  ·split at hx
   ·rename_i c sz hc _
    cases hx
    obtain ⟨g1, g2⟩ := contOf_spec (w := w) (F := F) (ρ := ρ) (H := H) hc
    exact go c g1 g2 _ _ hD
   ·cases hx
  ·cases hx
   exact go (.cells z) rfl (fun i y hi hr hone => ⟨hr, hone⟩) _ _ hD
 ·cases hx

theorem step_box {t : TypeId} {X : Operand} (ho : o.op = .box t X) {a : Opd} (hX : compX X = some a) (hm : MRel G F ρ H w) (hev : EvOk G F ρ H w T ev) {site : Nat} {d : Dir}
  (hD : execD site look (.box a) d [a.ev G T] = some D) (hfresh : ∀ i, i ∈ D.al → H i = none) : OpOk P o ev w (KD G F ρ H w D) := by
 simp only [execD, x1, cond_eq_ite, List.getD_cons_zero] at hD
 split at hD
 ·rename_i hp
  have hv : RelV w F ρ H (a.ev G T) (ev X) := hev _ _ hX
  have hp : allCell (a.ev G T).cs = true := hp
  obtain ⟨hmay, hund⟩ := allCell_cs hp
  have hcs := hv.csOf hmay hund
  have hrun : (execOp ev o).run P w = (((newRow t (ev X).cells).run P w).andThen fun a w' => .ok (.pointer (some a)) w').andThen fun v w' => .ok (.value v) w' := by
   unfold execOp
   rw [ho]
   simp only [run_value]
   simp only [Instr.box, Sem.run_bind, Result.andThen_ok, newVar, newRow, run_newObj, Sem.run_pure]
  have hlen : (a.ev G T).cs.length = (ev X).cells.size := by have := hcs.len; simpa using this
  refine OpOk.eff hrun (opNew_sound hm (hfresh site (opNew_al hD)) (by simp only [Cont.size]; omega) (fun j hj => ?_) hD)
  simp only [Cont.size] at hj
  obtain ⟨y, p1, p2⟩ := hcs.getD hj
  exact ⟨y, p1, p2, hcs.ones hp y (List.mem_of_getElem? (l := (ev X).cells.toList) (i := j) (by simpa using p1))⟩
 ·cases hD

theorem step_mv {X : Operand} (ho : o.op = .move X ∨ o.op = .assign X) {a : Opd} (hX : compX X = some a) (hm : MRel G F ρ H w) (hev : EvOk G F ρ H w T ev) {site : Nat} {d : Dir}
  (hD : execD site look (.mv a) d [a.ev G T] = some D) : OpOk P o ev w (KD G F ρ H w D) := by
 have hrun : (execOp ev o).run P w = (Result.ok (ev X) w).andThen fun v w' => .ok (.value v) w' := by
  unfold execOp
  rcases ho with ho | ho <;> rw [ho] <;> rfl
 exact OpOk.eff hrun (Eff.val hm hD rfl (hev _ _ hX))

theorem step_pick {X Y Z : Operand} (ho : o.op = .pick X Y Z) {a b c : Opd} (hX : compX X = some a) (hY : compX Y = some b) (hZ : compX Z = some c) (hm : MRel G F ρ H w) (hev : EvOk G F ρ H w T ev) {site : Nat} {d : Dir}
  (hD : execD site look (.pick a b c) d [a.ev G T, b.ev G T, c.ev G T] = some D) (hc : AllC (SpecQ P G) D.cs) : OpOk P o ev w (KD G F ρ H w D) := by
 have hg := opPickD_sound (P := P) (hev _ _ hX) (hev _ _ hY) (hev _ _ hZ) hD hc
 refine OpOk.eff (r := (do pure (if ← asBool (ev X) then ev Y else ev Z) : Sem Value).run P w) ?_ (hg.eff hm)
 unfold execOp
 rw [ho]
 simp only [Sem.run_bind, Sem.run_pure]
 cases (asBool (ev X)).run P w <;> rfl

theorem step_load {t : TypeId} {X : Operand} (ho : o.op = .load t X) {x : XOp} (hx : compLoad P t X = some x) (hm : MRel G F ρ H w) (hl : ∀ id o, look id = some o → H id = some o) (hev : EvOk G F ρ H w T ev) {site : Nat} {d : Dir}
  (hD : execD site look x d (x.opds.map (Opd.ev G T)) = some D) (hc : AllC (SpecQ P G) D.cs) : OpOk P o ev w (KD G F ρ H w D) := by
 unfold compLoad at hx
 split at hx
 ·rename_i agg a hagg hX
  cases hx
  refine OpOk.eff (r := (Instr.loadAt t (ev X)).run P w) ?_ (opLoad_sound hm hl (hev _ _ hX) (aggOf_ok hagg) hD hc)
  unfold execOp
  rw [ho]
  simp only [run_value]
 ·cases hx

theorem step_store {t : TypeId} {X Y : Operand} (ho : o.op = .store t X Y) {x : XOp} (hx : compStore P t X Y = some x) (hm : MRel G F ρ H w) (hl : ∀ id o, look id = some o → H id = some o) (hev : EvOk G F ρ H w T ev) {site : Nat} {d : Dir}
  (hD : execD site look x d (x.opds.map (Opd.ev G T)) = some D) (hc : AllC (SpecQ P G) D.cs) : OpOk P o ev w (KD G F ρ H w D) := by
 unfold compStore at hx
 split at hx
 ·rename_i sz a b hsz hX hY
  cases hx
  obtain ⟨i, h1, h2⟩ := szOf_ok hsz
  obtain ⟨y, w', F', ρ', g1, g2⟩ := opStore_sound (P := P) hm hl (hev _ _ hX) (hev _ _ hY) h1 h2 hD hc
  cases hr : (Instr.storeAt t (ev X) (ev Y)).run P w with
  | halt q w' => rw [hr] at g1; cases g1
  | ok u w1 =>
   rw [hr] at g1
   simp only [Result.andThen_ok] at g1
   cases g1
   refine .inl ⟨.skip, undef, w', ?_, .inr ⟨rfl, rfl⟩, F', ρ', g2⟩
   unfold execOp
   rw [ho]
   simp [hr]
 ·cases hx

theorem run_bin {op : BinOp} {t yt : TypeId} {X Y : Operand} (ho : o.op = .binOp op t X Y yt) :
  (execOp ev o).run P w = ((do eqGuard op t X Y (ev X) (ev Y); binOp op t (ev X) (ev Y) : Sem Value).run P w).andThen fun v w' => .ok (.value v) w' := by
 unfold execOp
 rw [ho]
 simp only [run_value]

theorem cond_if (neq : Bool) : (cond neq BinOp.neq BinOp.eql) = (if neq then .neq else .eql) := by cases neq <;> rfl

theorem equalIn_slice (d : Nat) {t e : TypeId} (he : P.underlying t = some (.slice e)) (a : Option Addr) (l c l' c' : Nat) : (Op.equalIn (d + 1) t (.slice a l c) (.slice none l' c')).run P w = .ok a.isNone w := by
 simp only [Op.equalIn, Sem.run_bind, run_underlying' he, Result.andThen_ok]
 cases a <;> rfl
theorem equalIn_func (d : Nat) {t : TypeId} {p r : Array TypeId} {v : Bool} (he : P.underlying t = some (.func p r v)) (x : Value) (b : Bool) (hx : (x = .nilFunc ∧ b = true) ∨ ∃ f a c, x = .func f a c ∧ b = false) : (Op.equalIn (d + 1) t x .nilFunc).run P w = .ok b w := by
 simp only [Op.equalIn, Sem.run_bind, run_underlying' he, Result.andThen_ok]
 rcases hx with ⟨rfl, rfl⟩ | ⟨f, a, c, rfl, rfl⟩ <;> rfl
theorem equalIn_ptr (d : Nat) {t e : TypeId} (he : P.underlying t = some (.pointer e)) (a : Option Addr) : (Op.equalIn (d + 1) t (.pointer a) (.pointer none)).run P w = .ok a.isNone w := by
 simp only [Op.equalIn, Sem.run_bind, run_underlying' he, Result.andThen_ok]
 cases a <;> rfl
theorem equal_slice {t e : TypeId} (he : P.underlying t = some (.slice e)) (a : Option Addr) (l c l' c' : Nat) : (Op.equal t (.slice a l c) (.slice none l' c')).run P w = .ok a.isNone w := equalIn_slice 9999 he a l c l' c'
theorem equal_func {t : TypeId} {p r : Array TypeId} {v : Bool} (he : P.underlying t = some (.func p r v)) (x : Value) (b : Bool) (hx : (x = .nilFunc ∧ b = true) ∨ ∃ f a c, x = .func f a c ∧ b = false) : (Op.equal t x .nilFunc).run P w = .ok b w := equalIn_func 9999 he x b hx
theorem equal_ptr {t e : TypeId} (he : P.underlying t = some (.pointer e)) (a : Option Addr) : (Op.equal t (.pointer a) (.pointer none)).run P w = .ok a.isNone w := equalIn_ptr 9999 he a

theorem run_eqs {neq : Bool} {t : TypeId} {X Y : Operand} {x y : Value} {q : Bool} (hg : (eqGuard (if neq then BinOp.neq else .eql) t X Y x y).run P w = .ok () w) (he : (Op.equal t x y).run P w = .ok q w)
  (h1 : binOp .eql t x y = (do pure (.bool (← Op.equal t x y)))) (h2 : binOp .neq t x y = (do pure (.bool (!(← Op.equal t x y))))) :
  (do eqGuard (if neq then BinOp.neq else .eql) t X Y x y; binOp (if neq then BinOp.neq else .eql) t x y : Sem Value).run P w = .ok (.bool (negIf neq q)) w := by
 rw [Sem.run_bind, hg, Result.andThen_ok]
 cases neq
 ·simp only [Bool.false_eq_true, if_false, h1, Sem.run_bind, he, Result.andThen_ok, Sem.run_pure, negIf]
 ·simp only [if_true, h2, Sem.run_bind, he, Result.andThen_ok, Sem.run_pure, negIf]

def ConstOk (ev : Operand → Value) : Prop := (∀ v, ev (.const v) = v) ∧ (∀ f, ev (.func f) = .func (.func f) #[] #[])

theorem step_isnil {neq : Bool} {kd : Nat} {t yt : TypeId} {X Y : Operand} (ho : o.op = .binOp (if neq then .neq else .eql) t X Y yt) (hY : isNilConst kd Y = true) (hcon : ConstOk ev) {a : Opd} (hX : compX X = some a)
  (ht : (kd = 0 ∧ ∃ e, P.underlying t = some (.slice e)) ∨ (kd = 1 ∧ ∃ p r v, P.underlying t = some (.func p r v)) ∨ (kd = 2 ∧ ∃ e, P.underlying t = some (.pointer e)))
  (hm : MRel G F ρ H w) (hl : ∀ id o, look id = some o → H id = some o) (hev : EvOk G F ρ H w T ev) {site : Nat} {d : Dir}
  (hD : execD site look (.isnil neq kd a) d [a.ev G T] = some D) (hc : AllC (SpecQ P G) D.cs) : OpOk P o ev w (KD G F ρ H w D) := by
 obtain ⟨b, h1, h2, h3, h4⟩ := opIsnil_sound hl (hev _ _ hX).unc hD hc
 refine OpOk.eff (run_bin ho) (Eff.pure hm (x := .bool (negIf neq b)) ?_ h2 (by rw [h1]; exact relBool _))
 rcases ht with ⟨rfl, e, he⟩ | ⟨rfl, p, r, v, he⟩ | ⟨rfl, e, he⟩
 ·have hYc : Y = .const (.slice none 0 0) := by
   unfold isNilConst at hY
   split at hY <;> first | rfl | cases hY
  subst hYc
  rcases h4 with ⟨_, q, l, c, hx, rfl⟩ | ⟨h, _⟩ | ⟨h, _⟩
  ·rw [hcon.1, hx]
   exact run_eqs (by unfold eqGuard; cases neq <;> rfl) (equal_slice he q l c 0 0) rfl rfl
  ·cases h
  ·exact absurd rfl h
 ·have hYc : Y = .const .nilFunc := by
   unfold isNilConst at hY
   split at hY <;> first | rfl | cases hY
  subst hYc
  rcases h4 with ⟨h, _⟩ | ⟨_, hx⟩ | ⟨_, h, _⟩
  ·cases h
  ·rw [hcon.1]
   have he' := equal_func (w := w) he (ev X) b hx
   rcases hx with ⟨hx, _⟩ | ⟨f, a, c, hx, _⟩
   ·rw [hx] at he' ⊢
    exact run_eqs (by unfold eqGuard; cases neq <;> rfl) he' rfl rfl
   ·rw [hx] at he' ⊢
    exact run_eqs (by unfold eqGuard; cases neq <;> rfl) he' rfl rfl
  ·exact absurd rfl h
 ·have hYc : Y = .const (.pointer none) := by
   unfold isNilConst at hY
   split at hY <;> first | rfl | cases hY
  subst hYc
  rcases h4 with ⟨h, _⟩ | ⟨h, _⟩ | ⟨_, _, q, hx, rfl⟩
  ·cases h
  ·cases h
  ·rw [hcon.1, hx]
   exact run_eqs (by unfold eqGuard; cases neq <;> rfl) (equal_ptr he q) rfl rfl

end
end Go.Ab

/-
 One operation of the model, by its abstract effect: the others; all of them.
-/
set_option linter.unusedVariables false
set_option linter.unusedSimpArgs false
namespace Go.Ab
open Go
section
variable {P : Program} {G : GL} {F : Nat → Prop} {ρ : Nat → Option Nat} {H : Nat → Option HO} {w : World} {look : Nat → Option HO} {D : Delta} {o : Oper} {ev : Operand → Value} {T : List (Nat × AV)}

theorem step_eqa {neq : Bool} {t yt : TypeId} {X Y : Operand} (ho : o.op = .binOp (if neq then .neq else .eql) t X Y yt) {x : XOp} (hx : compEqa P neq t X Y = some x) (hd : ∃ d, P.underlying t = some d ∧ aggD d = true)
  (hm : MRel G F ρ H w) (hev : EvOk G F ρ H w T ev) {site : Nat} {d : Dir}
  (hD : execD site look x d (x.opds.map (Opd.ev G T)) = some D) (hc : AllC (SpecQ P G) D.cs) : OpOk P o ev w (KD G F ρ H w D) := by
 unfold compEqa at hx
 split at hx
 ·rename_i n ls a b hn hls hX hY
  simp only [cond_eq_ite] at hx
  split at hx
  ·cases hx
  ·rename_i hg
   cases hx
   obtain ⟨i, h1, h2⟩ := szOf_ok hn
   subst h2
   exact OpOk.eff (run_bin ho) ((opEqa_sound hls (by simpa using hg) h1 hd (hev _ _ hX) (hev _ _ hY) hD).eff hm)
 ·cases hx

theorem step_bin {op : BinOp} {t yt : TypeId} {X Y : Operand} (ho : o.op = .binOp op t X Y yt) {x : XOp} (hx : compBin P op t X Y = some x) (hcon : ConstOk ev) (hm : MRel G F ρ H w) (hl : ∀ id o, look id = some o → H id = some o) (hev : EvOk G F ρ H w T ev) {site : Nat} {d : Dir}
  (hD : execD site look x d (x.opds.map (Opd.ev G T)) = some D) (hc : AllC (SpecQ P G) D.cs) : OpOk P o ev w (KD G F ρ H w D) := by
 have plain : ∀ a b, compX X = some a → compX Y = some b → x = .bin op a b → OpOk P o ev w (KD G F ρ H w D) := by
  intro a b hX hY e
  subst e
  exact OpOk.eff (run_bin ho) ((opBin_sound (hev _ _ hX) (hev _ _ hY) hD hc).eff hm)
 have eq : ∀ neq : Bool, op = (if neq then .neq else .eql) → compEq P neq t X Y = some x → OpOk P o ev w (KD G F ρ H w D) := by
  intro neq hop hx
  rw [hop] at ho
  unfold compEq at hx
  split at hx
  ·split at hx
   ·rename_i a b hX hY; cases hx
    rw [cond_if] at hD
    exact OpOk.eff (run_bin ho) ((opBin_sound (hev _ _ hX) (hev _ _ hY) hD hc).eff hm)
   ·cases hx
  ·split at hx
   ·rename_i a b hX hY; cases hx
    rw [cond_if] at hD
    exact OpOk.eff (run_bin ho) ((opBin_sound (hev _ _ hX) (hev _ _ hY) hD hc).eff hm)
   ·cases hx
  ·rename_i ht
   split at hx
   ·rename_i a b hX hY; cases hx
    exact OpOk.eff (run_bin ho) ((opEqb_sound ht (hev _ _ hX) (hev _ _ hY) hD).eff hm)
   ·cases hx
  ·rename_i fs ht; exact step_eqa ho hx ⟨_, ht, rfl⟩ hm hev hD hc
  ·rename_i n e ht; exact step_eqa ho hx ⟨_, ht, rfl⟩ hm hev hD hc
  ·rename_i e ht
   simp only [cond_eq_ite] at hx
   split at hx
   ·rename_i hY
    split at hx
    ·rename_i a hX; cases hx
     exact step_isnil ho hY hcon hX (.inl ⟨rfl, e, ht⟩) hm hl hev hD hc
    ·cases hx
   ·cases hx
  ·rename_i p r v ht
   simp only [cond_eq_ite] at hx
   split at hx
   ·rename_i hY
    split at hx
    ·rename_i a hX; cases hx
     exact step_isnil ho hY hcon hX (.inr (.inl ⟨rfl, _, _, _, ht⟩)) hm hl hev hD hc
    ·cases hx
   ·cases hx
  ·rename_i e ht
   simp only [cond_eq_ite] at hx
   split at hx
   ·rename_i hY
    split at hx
    ·rename_i a hX; cases hx
     exact step_isnil ho hY hcon hX (.inr (.inr ⟨rfl, _, ht⟩)) hm hl hev hD hc
    ·cases hx
   ·cases hx
  ·cases hx
 unfold compBin at hx
 split at hx
 ·exact eq false rfl hx
 ·exact eq true rfl hx
 ·split at hx
  ·rename_i a b hX hY; cases hx; exact plain a b hX hY rfl
  ·cases hx

theorem step_un {op : UnOp} {t : TypeId} {X : Operand} (ho : o.op = .unOp op t X) {a : Opd} (hX : compX X = some a) (hm : MRel G F ρ H w) (hev : EvOk G F ρ H w T ev) {site : Nat} {d : Dir}
  (hD : execD site look (.un op a) d [a.ev G T] = some D) (hc : AllC (SpecQ P G) D.cs) : OpOk P o ev w (KD G F ρ H w D) := by
 refine OpOk.eff (r := (Op.unary op (ev X)).run P w) ?_ ((opUn_sound (P := P) (hev _ _ hX) hD hc).eff hm)
 unfold execOp
 rw [ho]
 simp only [run_value]

theorem step_conv {src dst : TypeId} {X : Operand} (ho : o.op = .convert src dst X) {x : XOp} (hx : compConv P src dst X = some x) (hm : MRel G F ρ H w) (hev : EvOk G F ρ H w T ev) {site : Nat} {d : Dir}
  (hD : execD site look x d (x.opds.map (Opd.ev G T)) = some D) (hc : AllC (SpecQ P G) D.cs) : OpOk P o ev w (KD G F ρ H w D) := by
 unfold compConv at hx
 split at hx
 ·rename_i k0 k a h1 h2 hX
  cases hx
  refine OpOk.eff (r := (convert src dst (ev X)).run P w) ?_ ((opConv_sound h1 h2 (hev _ _ hX) hD hc).eff hm)
  unfold execOp
  rw [ho]
  simp only [run_value]
 ·cases hx

theorem step_fieldA {t : TypeId} {X : Operand} {ix : Nat} (ho : o.op = .fieldAddr t X ix) {x : XOp} (hx : compFieldA P t X ix = some x) (hm : MRel G F ρ H w) (hl : ∀ id o, look id = some o → H id = some o) (hev : EvOk G F ρ H w T ev) {site : Nat} {d : Dir}
  (hD : execD site look x d (x.opds.map (Opd.ev G T)) = some D) (hc : AllC (SpecQ P G) D.cs) : OpOk P o ev w (KD G F ρ H w D) := by
 unfold compFieldA at hx
 split at hx
 ·rename_i fs ht
  split at hx
  ·rename_i f hf
   split at hx
   ·rename_i n a hn hX
    simp only [cond_eq_ite] at hx
    split at hx
    ·cases hx
    ·rename_i hn0
     cases hx
     obtain ⟨i, h1, h2⟩ := szOf_ok hn
     refine OpOk.eff (r := (Instr.fieldAt t (ev X) ix).run P w) ?_ ((opFieldA_sound hl ht hf rfl h1 (fun e => hn0 (by simp [← h2, e])) (hev _ _ hX) hD hc).eff hm)
     unfold execOp
     rw [ho]
     simp only [run_value]
   ·cases hx
  ·cases hx
 ·cases hx

theorem step_field {t : TypeId} {X : Operand} {ix : Nat} (ho : o.op = .field t X ix) {x : XOp} (hx : compField P t X ix = some x) (hm : MRel G F ρ H w) (hev : EvOk G F ρ H w T ev) {site : Nat} {d : Dir}
  (hD : execD site look x d (x.opds.map (Opd.ev G T)) = some D) (hc : AllC (SpecQ P G) D.cs) : OpOk P o ev w (KD G F ρ H w D) := by
 unfold compField at hx
 split at hx
 ·rename_i fs ht
  split at hx
  ·rename_i f hf
   split at hx
   ·rename_i agg a hagg hX
    cases hx
    refine OpOk.eff (r := (Instr.field t (ev X) ix).run P w) ?_ ((opField_sound ht hf rfl (aggOf_ok hagg) (hev _ _ hX) hD hc).eff hm)
    unfold execOp
    rw [ho]
    simp only [run_value]
   ·cases hx
  ·cases hx
 ·cases hx

theorem step_idxA {t : TypeId} {X I : Operand} (ho : o.op = .indexAddr t X I) {x : XOp} (hx : compIdxA P t X I = some x) (hm : MRel G F ρ H w) (hl : ∀ id o, look id = some o → H id = some o) (hev : EvOk G F ρ H w T ev) {site : Nat} {d : Dir}
  (hD : execD site look x d (x.opds.map (Opd.ev G T)) = some D) (hc : AllC (SpecQ P G) D.cs) : OpOk P o ev w (KD G F ρ H w D) := by
 have hrun : (execOp ev o).run P w = ((Instr.indexAt t (ev X) (ev I)).run P w).andThen fun v w' => .ok (.value v) w' := by
  unfold execOp
  rw [ho]
  simp only [run_value]
 unfold compIdxA at hx
 split at hx
 ·rename_i e ht
  split at hx
  ·rename_i sz a b hsz hX hI
   cases hx
   obtain ⟨i, h1, h2⟩ := szOf_ok hsz
   exact OpOk.eff hrun ((opIdxA_sound (arr := none) hl ht h1 h2 (hev _ _ hX).unc (hev _ _ hI) hD hc).eff hm)
  ·cases hx
 ·rename_i n e ht
  split at hx
  ·rename_i sz a b hsz hX hI
   cases hx
   obtain ⟨i, h1, h2⟩ := szOf_ok hsz
   exact OpOk.eff hrun ((opIdxA_sound (arr := some n) hl ht h1 h2 (hev _ _ hX).unc (hev _ _ hI) hD hc).eff hm)
  ·cases hx
 ·cases hx

theorem step_idx {t : TypeId} {X I : Operand} (ho : o.op = .index t X I) {x : XOp} (hx : compIdx P t X I = some x) (hm : MRel G F ρ H w) (hev : EvOk G F ρ H w T ev) {site : Nat} {d : Dir}
  (hD : execD site look x d (x.opds.map (Opd.ev G T)) = some D) (hc : AllC (SpecQ P G) D.cs) : OpOk P o ev w (KD G F ρ H w D) := by
 have hrun : (execOp ev o).run P w = ((Instr.index t (ev X) (ev I)).run P w).andThen fun v w' => .ok (.value v) w' := by
  unfold execOp
  rw [ho]
  simp only [run_value]
 unfold compIdx at hx
 split at hx
 ·rename_i n e ht
  split at hx
  ·rename_i sz agg a b hsz hagg hX hI
   cases hx
   obtain ⟨i, h1, h2⟩ := szOf_ok hsz
   refine OpOk.eff hrun ((opIdx_sound ht ?_ h1 h2 (hev _ _ hX) (hev _ _ hI) hD hc).eff hm)
   have hT := aggOf_ok hagg
   cases agg with
   | none => exact hT
   | some m =>
    obtain ⟨i', h1', h2'⟩ := hT.sz
    rw [h1] at h1'; cases h1'
    have := h2' m rfl
    simp only [Option.isSome_some, if_true]
    rw [← h2, this]; exact hT
  ·cases hx
 ·rename_i ht
  split at hx
  ·rename_i a b hX hI
   cases hx
   exact OpOk.eff hrun ((opIdxs_sound ht (hev _ _ hX) (hev _ _ hI) hD hc).eff hm)
  ·cases hx
 ·cases hx

theorem compXo_ok (hev : EvOk G F ρ H w T ev) {x : Option Operand} {a : Option Opd} (h : compXo x = some a) : (x.isSome = a.isSome) ∧ RelVs w F ρ H (a.toList.map (Opd.ev G T)) (x.toList.map ev) := by
 unfold compXo at h
 split at h
 ·cases h; exact ⟨rfl, .nil⟩
 ·split at h
  ·rename_i h1; cases h; exact ⟨rfl, .cons _ _ _ _ (hev _ _ h1) .nil⟩
  ·cases h

theorem step_slice {t : TypeId} {X : Operand} {lo hi mx : Option Operand} (ho : o.op = .slice t X lo hi mx) {x : XOp} (hx : compSlice P t X lo hi mx = some x) (hm : MRel G F ρ H w) (hl : ∀ id o, look id = some o → H id = some o) (hev : EvOk G F ρ H w T ev) {site : Nat} {d : Dir}
  (hD : execD site look x d (x.opds.map (Opd.ev G T)) = some D) (hc : AllC (SpecQ P G) D.cs) : OpOk P o ev w (KD G F ρ H w D) := by
 have hrun : (execOp ev o).run P w = ((Instr.sliceAt t (ev X) (lo.map ev) (hi.map ev) (mx.map ev)).run P w).andThen fun v w' => .ok (.value v) w' := by
  unfold execOp
  rw [ho]
  simp only [run_value]
 unfold compSlice at hx
 split at hx
 ·rename_i a l h m hX hlo hhi hmx
  obtain ⟨b1, r1⟩ := compXo_ok hev hlo
  obtain ⟨b2, r2⟩ := compXo_ok hev hhi
  obtain ⟨b3, r3⟩ := compXo_ok hev hmx
  have hrs := r1.app (r2.app r3)
  split at hx
  ·rename_i e ht
   split at hx
   ·rename_i sz hsz
    cases hx
    obtain ⟨i, h1, h2⟩ := szOf_ok hsz
    have hD' : opSliceS look d sz l.isSome h.isSome m.isSome (unc (a.ev G T)) (l.toList.map (Opd.ev G T) ++ (h.toList.map (Opd.ev G T) ++ m.toList.map (Opd.ev G T))) = some D := by
     have : execD site look (.slice sz a l h m) d ((XOp.slice sz a l h m).opds.map (Opd.ev G T)) = some D := hD
     simp only [execD, XOp.opds, List.map_cons, List.map_append, x1, List.getD_cons_zero, List.drop_succ_cons, List.drop_zero, List.append_assoc] at this
     exact this
    have := opSliceS_sound (P := P) (t := t) hm hl ht h1 h2 (hev _ _ hX).unc hrs (by cases l <;> cases h <;> cases m <;> rfl) hD' hc
    refine OpOk.eff hrun ?_
    cases lo <;> cases hi <;> cases mx <;> cases l <;> cases h <;> cases m <;> simp at b1 b2 b3 <;> simpa using this
   ·cases hx
  ·rename_i ht
   split at hx
   ·cases hx
    have hmx0 : mx = none := by cases mx <;> simp at b3 ⊢
    subst hmx0
    have hD' : opSlices l.isSome h.isSome (a.ev G T) (l.toList.map (Opd.ev G T) ++ h.toList.map (Opd.ev G T)) = some D := by
     have : execD site look (.slices a l h) d ((XOp.slices a l h).opds.map (Opd.ev G T)) = some D := hD
     simp only [execD, XOp.opds, List.map_cons, List.map_append, x1, List.getD_cons_zero, List.drop_succ_cons, List.drop_zero] at this
     exact this
    have := opSlices_sound (P := P) (t := t) ht (hev _ _ hX) (r1.app r2) (by cases l <;> cases h <;> rfl) hD' hc
    refine OpOk.eff (r := (Instr.slice t (ev X) (lo.map ev) (hi.map ev) none).run P w) ?_ ?_
    ·rw [hrun]
     have : ∀ q s r, (Instr.sliceAt t q s r none).run P w = (Instr.slice t q s r none).run P w := fun q s r => by
      simp only [Instr.sliceAt, Sem.run_bind, run_underlying' ht, Result.andThen_ok]
     rw [show Option.map ev none = none from rfl, this]
    ·refine Gives.eff hm ?_
     cases lo <;> cases hi <;> cases l <;> cases h <;> simp at b1 b2 <;> simpa using this
   ·cases hx
  ·rename_i n e ht
   split at hx
   ·rename_i sz hsz
    cases hx
    obtain ⟨i, h1, h2⟩ := szOf_ok hsz
    have hD' : opSlicea look n sz l.isSome h.isSome m.isSome (a.ev G T) (l.toList.map (Opd.ev G T) ++ (h.toList.map (Opd.ev G T) ++ m.toList.map (Opd.ev G T))) = some D := by
     have : execD site look (.slicea n sz a l h m) d ((XOp.slicea n sz a l h m).opds.map (Opd.ev G T)) = some D := hD
     simp only [execD, XOp.opds, List.map_cons, List.map_append, x1, List.getD_cons_zero, List.drop_succ_cons, List.drop_zero, List.append_assoc] at this
     exact this
    have hX' := hev _ _ hX
    unfold opSlicea at hD'
    split at hD'
    ·rename_i id off hav
     rw [hav] at hX'
     split at hD'
     ·rename_i k hk
      simp only [cond_eq_ite] at hD'
      split at hD'
      ·rename_i hbx0
       generalize hEv : ev X = xv at hX' hrun
       cases hX' with
       | imm _ _ hi => cases hi
       | ptr _ _ b ob hb hh hbx =>
        obtain ⟨l', h', m', e1, e2, e3, e4, e5, e6, e7⟩ := opWin_run (P := P) hrs (by cases l <;> cases h <;> cases m <;> rfl) (Nat.le_refl n) hD' hc false
        have hbounds : (Instr.sliceBounds false n n (lo.map ev) (hi.map ev) (mx.map ev)).run P w = .ok (l', h', m') w := by
         cases lo <;> cases hi <;> cases mx <;> cases l <;> cases h <;> cases m <;> simp at b1 b2 b3 <;> simpa using e1
        refine OpOk.eff hrun (Eff.pure hm (x := .slice (some ⟨b, off + l' * sz, none⟩) (h' - l') (m' - l')) ?_ e6 ?_)
        ·simp only [Instr.sliceAt, Sem.run_bind, run_underlying' ht, Result.andThen_ok, Instr.sureAddr, Sem.run_pure, hbounds, run_sizeOf' h1, h2]
         rw [win_addr e5]
        ·rw [e4]; exact .sl id _ _ _ b k hb (hl _ _ hk) hbx0 (by omega)
      ·cases hD'
     ·cases hD'
    ·cases hD'
   ·cases hx
  ·cases hx
 ·cases hx

theorem allSz_ok : ∀ {l : List Field}, allSz P l = true → ∀ f ∈ l, ∃ n, szOf P f.type = some n
 | [], _, f, h => by simp at h
 | g :: r, ha, f, h => by
  simp only [allSz, Bool.and_eq_true] at ha
  rcases List.mem_cons.1 h with rfl | h
  ·exact Option.isSome_iff_exists.1 ha.1
  ·exact allSz_ok ha.2 f h

theorem buildPs_ok (hev : EvOk G F ρ H w T ev) {place : Nat → Option (Nat × Nat)} : ∀ {ps : List (Nat × Operand)} {l : List (Nat × Nat × Opd)}, compBuildPs P place ps = some l →
  (ps.map (·.1)).map place = (l.map fun p => (p.1, p.2.1)).map some ∧ RelVs w F ρ H ((l.map (·.2.2)).map (Opd.ev G T)) (ps.map fun p => ev p.2)
 | [], l, h => by cases h; exact ⟨rfl, .nil⟩
 | (i, X) :: r, l, h => by
  simp only [compBuildPs] at h
  split at h
  ·rename_i off sz a l' h1 h2 h3
   cases h
   obtain ⟨g1, g2⟩ := buildPs_ok hev h3
   exact ⟨by simp [h1, g1], .cons _ _ _ _ (hev _ _ h2) g2⟩
  ·cases h

theorem zip_map_eq {α β γ : Type} (f : α → β) (g : α → γ) : ∀ (l : List α), (l.map f).zip (l.map g) = l.map fun a => (f a, g a)
 | [] => rfl
 | a :: r => by simp [zip_map_eq f g r]

theorem step_build {t : TypeId} {ps : Array (Nat × Operand)} (ho : o.op = .build t ps) {x : XOp} (hx : compBuild P t ps.toList = some x) (hm : MRel G F ρ H w) (hev : EvOk G F ρ H w T ev) {site : Nat} {d : Dir}
  (hD : execD site look x d (x.opds.map (Opd.ev G T)) = some D) : OpOk P o ev w (KD G F ρ H w D) := by
 have hrun : (execOp ev o).run P w = ((Instr.build t (ps.map fun (i, x) => (i, ev x))).run P w).andThen fun v w' => .ok (.value v) w' := by
  unfold execOp
  rw [ho]
  simp only [run_value]
 have hparts : (ps.map fun (i, x) => (i, ev x)).toList = (ps.toList.map (·.1)).zip (ps.toList.map fun p => ev p.2) := by
  rw [zip_map_eq]; simp
 have go : ∀ (z : List AV) (l : List (Nat × Nat × Opd)) (place : Nat → Option (Nat × Nat)) (v : Value), RelVs w F ρ H z v.cells.toList → compBuildPs P place ps.toList = some l →
   execD site look (.build z l) d ((XOp.build z l).opds.map (Opd.ev G T)) = some D → (∀ cs, Instr.fill place v.cells (ps.map fun (i, x) => (i, ev x)).toList = some cs → (Instr.build t (ps.map fun (i, x) => (i, ev x))).run P w = .ok (.agg cs) w) →
   OpOk P o ev w (KD G F ρ H w D) := by
  intro z l place v hz hl hD hfin
  obtain ⟨g1, g2⟩ := buildPs_ok hev hl
  simp only [execD, XOp.opds, opBuild] at hD
  split at hD
  ·rename_i l' hfill
   obtain ⟨cs, q1, q2⟩ := fill_rel g1 g2 hz hfill
   rw [← hparts] at q1
   exact OpOk.eff hrun (Eff.val hm hD (hfin cs q1) (.agg _ _ q2))
  ·cases hD
 unfold compBuild at hx
 split at hx
 ·rename_i z fs hz ht
  simp only [cond_eq_ite] at hx
  split at hx
  ·rename_i hall
   split at hx
   ·rename_i l hl
    cases hx
    obtain ⟨i, v, h1, h2, h3, h4, h5, h6⟩ := zeroOf_ok (w := w) hz
    refine go z l (fieldPl P fs) v (h5 w F).toVs hl hD (fun cs hfill => ?_)
    have hplaces : (fs.mapM fun f => do pure (f.offset, ← sizeOf f.type) : Sem (Array (Nat × Nat))).run P w = .ok (fs.map fun f => (f.offset, (szOf P f.type).getD 0)) w := by
     rw [Array.mapM_eq_mapM_toList]
     have key : ∀ (l : List Field), (∀ f ∈ l, ∃ n, szOf P f.type = some n) → (l.mapM fun f => do pure (f.offset, ← sizeOf f.type) : Sem (List (Nat × Nat))).run P w = .ok (l.map fun f => (f.offset, (szOf P f.type).getD 0)) w := by
      intro l
      induction l with
      | nil => intro _; simp
      | cons f r ih =>
       intro hf
       obtain ⟨n, hn⟩ := hf f (by simp)
       obtain ⟨i, p1, p2⟩ := szOf_ok hn
       simp only [List.mapM_cons, Sem.run_bind, run_sizeOf' p1, Result.andThen_ok, Sem.run_pure, ih (fun g hg => hf g (by simp [hg])), List.map_cons, hn, Option.getD_some, p2]
     simp only [Sem.run_map, key fs.toList (fun f hf => allSz_ok hall f hf), Result.andThen_ok]
     congr 1
     apply Array.toList_inj.1; simp
    have hpl : (fun i => (fs.map fun f => (f.offset, (szOf P f.type).getD 0))[i]?) = fieldPl P fs := by
     funext i
     unfold fieldPl
     cases hfi : fs[i]? with
     | none => simp [hfi]
     | some f =>
      have hmem : f ∈ fs.toList := by
       have := Array.mem_of_getElem? hfi
       simpa using this
      obtain ⟨n, hn⟩ := allSz_ok hall f hmem
      simp [hfi, hn]
    simp only [Instr.build, Sem.run_bind, h6, Result.andThen_ok, run_underlying' ht, hplaces]
    rw [hpl, hfill]
    rfl
   ·cases hx
  ·cases hx
 ·rename_i z n e hz ht
  split at hx
  ·rename_i sz hsz
   split at hx
   ·rename_i l hl
    cases hx
    obtain ⟨i, v, h1, h2, h3, h4, h5, h6⟩ := zeroOf_ok (w := w) hz
    obtain ⟨ie, p1, p2⟩ := szOf_ok hsz
    refine go z l _ v (h5 w F).toVs hl hD (fun cs hfill => ?_)
    simp only [Instr.build, Sem.run_bind, h6, Result.andThen_ok, run_underlying' ht, run_sizeOf' p1, p2]
    rw [hfill]
    rfl
   ·cases hx
  ·cases hx
 ·cases hx

theorem fill_one : ∀ {place : Nat → Option (Nat × Nat)} {l : List (Nat × Value)} {zs cs : Array Value}, Instr.fill place zs l = some cs → (∀ u ∈ zs.toList, u.oneCell' = true) → (∀ p ∈ l, ∀ u ∈ p.2.cells.toList, u.oneCell' = true) → ∀ u ∈ cs.toList, u.oneCell' = true
 | place, [], zs, cs, h, hz, hl, u, hu => by cases h; exact hz u hu
 | place, (i, v) :: r, zs, cs, h, hz, hl, u, hu => by
  simp only [Instr.fill] at h
  split at h
  ·cases h
  ·rename_i off size hp
   split at h
   ·cases h
   ·refine fill_one h ?_ (fun p hp => hl p (by simp [hp])) u hu
    have hv := hl (i, v) (by simp)
    have key : ∀ (ys : List Value) (j : Nat) (zs : Array Value), (∀ u ∈ ys, u.oneCell' = true) → (∀ u ∈ zs.toList, u.oneCell' = true) → ∀ u ∈ ((ys.zipIdx j).foldl (fun cs (c, j) => cs.setIfInBounds (off + j) c) zs).toList, u.oneCell' = true := by
     intro ys
     induction ys with
     | nil => intro j zs _ h2 u hu; exact h2 u hu
     | cons y ys ih =>
      intro j zs h1 h2 u hu
      simp only [List.zipIdx_cons, List.foldl_cons] at hu
      refine ih (j + 1) _ (fun q hq => h1 q (by simp [hq])) ?_ u hu
      intro q hq
      rw [Array.toList_setIfInBounds] at hq
      rcases List.mem_or_eq_of_mem_set hq with hq | rfl
      ·exact h2 q hq
      ·exact h1 _ (by simp)
    have := key v.cells.toList 0 zs hv hz
    rw [← Array.foldl_toList, Array.toList_zipIdx]
    exact this

theorem allFill_cells : ∀ {vs : List AV}, allFill vs = true → ∀ v ∈ vs, allCell v.cs = true
 | [], _, v, hv => by simp at hv
 | u :: r, h, v, hv => by
  simp only [allFill, Bool.and_eq_true] at h
  rcases List.mem_cons.1 hv with rfl | hv
  ·exact h.1
  ·exact allFill_cells h.2 v hv

theorem RelVs.getVal : ∀ {l : List AV} {xs : List Value}, RelVs w F ρ H l xs → ∀ {j : Nat} {x : Value}, xs[j]? = some x → ∃ v, l[j]? = some v ∧ RelV w F ρ H v x
 | _, _, .nil, j, x, h => by simp at h
 | _, _, .cons u l y ys hv hs, j, x, h => by
  cases j with
  | zero => simp at h; subst h; exact ⟨u, by simp, hv⟩
  | succ j => obtain ⟨v, h1, h2⟩ := hs.getVal (by simpa using h); exact ⟨v, by simpa using h1, h2⟩

theorem repL_mem {α : Type} {l : List α} {u : α} : ∀ {n : Nat}, u ∈ repL l n → u ∈ l
 | 0, h => by simp [repL] at h
 | n + 1, h => by
  simp only [repL, List.mem_append] at h
  rcases h with h | h
  ·exact h
  ·exact repL_mem h

theorem run_buildSlice {t e : TypeId} {len : Nat} {parts : Array (Nat × Value)} {i : TypeInfo} {v : Value} {zs cs : Array Value} (ht : P.underlying t = some (.slice e)) (h1 : P.info? e = some i) (hz : i.zero = some v)
  (hnot : ¬ (len * i.size > 2 ^ 24)) (hzs : zs = (Array.range (len * i.size)).map (fun j => v.cells[j % v.cells.size]!)) (hfill : Instr.fill (fun j => some (j * i.size, i.size)) zs parts.toList = some cs) :
  (Instr.buildSlice t len parts).run P w = ((newRow e cs).run P w).andThen fun a w' => .ok (.slice (some a) len len) w' := by
 have hzv : (zeroValue e).run P w = .ok v w := by simp [zeroValue, typeInfo, h1, hz]
 unfold Instr.buildSlice
 rw [Sem.run_bind, run_underlying' ht, Result.andThen_ok]
 simp only
 rw [Sem.run_bind, run_sizeOf' h1, Result.andThen_ok, if_neg hnot]
 by_cases h0 : len * i.size = 0
 ·have hz0 : zs = #[] := by rw [hzs, h0]; simp
  rw [if_pos h0, Sem.run_bind, Sem.run_pure, Result.andThen_ok]
  have e1 : (Array.range (len * i.size)).map (fun x => (#[] : Array Value)[x % (#[] : Array Value).size]!) = zs := by rw [hz0, h0]; simp
  rw [e1, hfill]
  simp only [Sem.run_bind, newRow, run_newObj, Sem.run_pure, Result.andThen_ok]
 ·rw [if_neg h0]
  simp only [Sem.run_bind, hzv, Result.andThen_ok, Sem.run_pure]
  rw [← hzs, hfill]
  simp only [Sem.run_bind, newRow, run_newObj, Sem.run_pure, Result.andThen_ok]

set_option maxHeartbeats 1600000 in
theorem step_buildS {t : TypeId} {len : Nat} {ps : Array (Nat × Operand)} (ho : o.op = .buildSlice t len ps) {x : XOp} (hx : compBuildS P t len ps.toList = some x) (hm : MRel G F ρ H w) (hev : EvOk G F ρ H w T ev) {site : Nat} {d : Dir}
  (hD : execD site look x d (x.opds.map (Opd.ev G T)) = some D) (hfresh : ∀ i, i ∈ D.al → H i = none) : OpOk P o ev w (KD G F ρ H w D) := by
 have hrun : (execOp ev o).run P w = ((Instr.buildSlice t len (ps.map fun (i, x) => (i, ev x))).run P w).andThen fun v w' => .ok (.value v) w' := by
  unfold execOp
  rw [ho]
  simp only [run_value]
 have hparts : (ps.map fun (i, x) => (i, ev x)).toList = (ps.toList.map (·.1)).zip (ps.toList.map fun p => ev p.2) := by
  rw [zip_map_eq]; simp
 unfold compBuildS at hx
 split at hx
 ·rename_i e ht
  split at hx
  ·rename_i sz by_ z hel
   obtain ⟨hEl, hz⟩ := elOf_ok hel
   obtain ⟨i, v, h1, h2, h3, h4, h5, h6⟩ := zeroOf_ok (w := w) hz
   obtain ⟨i', v', q1, q2, q3, q4, q5⟩ := hEl.inf
   rw [h1] at q1; cases q1
   rw [h2] at q4; cases q4
   subst q2
   simp only [cond_eq_ite] at hx
   split at hx
   ·rename_i hcond
    simp only [Bool.and_eq_true, Bool.not_eq_true'] at hcond
    have hle : len * i.size ≤ 16777216 := by simpa [len'] using hcond.1
    have hsz0 : i.size ≠ 0 := fun e => by rw [e] at hcond; simp at hcond
    split at hx
    ·rename_i l hl
     cases hx
     obtain ⟨g1, g2⟩ := buildPs_ok hev hl
     simp only [execD, XOp.opds, opBuildS, cond_eq_ite] at hD
     split at hD
     ·rename_i hallc
      split at hD
      ·rename_i l' hfill
       split at hD
       ·rename_i c hcont
        cases hD
        have hvsz : v.cells.size = i.size := h3
        let zs : Array Value := (Array.range (len * i.size)).map fun i => v.cells[i % v.cells.size]!
        have hzs : zs.toList = repL v.cells.toList len := by
         have := rep_eq v.cells len (by omega)
         rw [hvsz] at this
         simp only [zs, hvsz]
         exact this
        have hrel : RelVs w F ρ H (repL z len) zs.toList := by rw [hzs]; exact repL_rel (h5 w F).toVs len
        obtain ⟨cs, r1, r2⟩ := fill_rel g1 g2 hrel hfill
        have hlen' : l'.length = len * i.size := by
         rw [fillL_length hfill, repL_length]
         have := (h5 w F).len
         rw [this]; simp [hvsz]
        have hcs : cs.size = len * i.size := by have := r2.len; rw [hlen'] at this; simpa using this.symm
        have hone : ∀ u ∈ cs.toList, u.oneCell' = true := by
         refine fill_one r1 ?_ ?_
         ·intro u hu
          rw [hzs] at hu
          exact h4 u (repL_mem hu)
         ·intro p hp u hu
          rw [zip_map_eq] at hp
          obtain ⟨q, hq, rfl⟩ := List.mem_map.1 hp
          obtain ⟨j, hj, rfl⟩ := List.getElem_of_mem hq
          have hj' : (ps.toList.map fun p => ev p.2)[j]? = some (ev ps.toList[j].2) := by rw [List.getElem?_map, List.getElem?_eq_getElem hj]; rfl
          obtain ⟨vv, s1, s2⟩ := g2.getVal hj'
          have hc := allFill_cells hallc vv (List.mem_of_getElem? s1)
          obtain ⟨hmay, hund⟩ := allCell_cs hc
          exact (s2.csOf hmay hund).ones hc u hu
        obtain ⟨k1, k2⟩ := contOf_spec (w := w) (F := F) (ρ := ρ) (H := H) hcont
        rw [← hparts] at r1
        have hinstr := run_buildSlice (w := w) (zs := zs) (cs := cs) (parts := ps.map fun (i, x) => (i, ev x)) ht h1 h2 (by omega) rfl r1
        refine OpOk.eff (r := (Instr.buildSlice t len (ps.map fun (i, x) => (i, ev x))).run P w) hrun ?_
        rw [hinstr]
        refine laidS_sound hm (hfresh site (by simp)) (by rw [k1, hlen']) (by rw [k1, hlen', hcs]; exact Nat.le_refl _) (fun j hj => ?_) (Nat.le_refl _) (by rw [hcs]; exact Nat.le_refl _)
        have hj' : j < l'.length := by rw [← k1]; exact hj
        obtain ⟨y, p1, p2⟩ := r2.getD hj'
        exact ⟨y, p1, k2 j y hj' p2 (hone y (List.mem_of_getElem? (l := cs.toList) (i := j) (by simpa using p1)))⟩
       ·cases hD
      ·cases hD
     ·cases hD
    ·cases hx
   ·cases hx
  ·cases hx
 ·cases hx

end
end Go.Ab

/-
 One operation of the model, by its abstract effect: made slices, functions, calls, built-in functions; all of them.
-/
set_option linter.unusedVariables false
set_option linter.unusedSimpArgs false
namespace Go.Ab
open Go
section
variable {P : Program} {G : GL} {F : Nat → Prop} {ρ : Nat → Option Nat} {H : Nat → Option HO} {w : World} {look : Nat → Option HO} {D : Delta} {o : Oper} {ev : Operand → Value} {T : List (Nat × AV)}

theorem zeroC_spec {z c : Cont} {n : Nat} (h : zeroC z n = some c) : c.size = n ∧ ∀ x, RelE w F ρ H z 0 x → ∀ i, i < n → RelE w F ρ H c i x := by
 unfold zeroC at h
 split at h
 ·cases h
  refine ⟨by simp [Cont.size], fun x hx i hi => ?_⟩
  simp only [RelE, Cont.getV, List.getD_cons_zero] at hx ⊢
  rw [List.getD_eq_getElem?_getD, List.getElem?_replicate, if_pos hi]; exact hx
 ·cases h
  refine ⟨by simp [Cont.size], fun x hx i hi => ?_⟩
  simp only [RelE, Cont.getV, List.getD_cons_zero] at hx ⊢
  rw [List.getD_eq_getElem?_getD, List.getElem?_replicate, if_pos hi]; exact hx
 ·cases h
  refine ⟨by simp [Cont.size], fun x hx i hi => ?_⟩
  simp only [RelE, Cont.getV, List.getD_cons_zero] at hx ⊢
  rw [List.getD_eq_getElem?_getD, List.getElem?_replicate, if_pos hi]; exact hx
 ·cases h
  refine ⟨by simp [Cont.size], fun x hx i hi => ?_⟩
  simp only [RelE, List.getD_cons_zero] at hx ⊢
  rw [List.getD_eq_getElem?_getD, List.getElem?_replicate, if_pos hi]; exact hx
 ·cases h

theorem inR_of {n : Nat} (h : n ≤ 140737488355328) : inR .i64 (n : Int) = true := by
 have h1 : IntKind.i64.min = -9223372036854775808 := by decide
 have h2 : IntKind.i64.max = 9223372036854775807 := by decide
 simp only [inR, decide_eq_true_eq]; omega

theorem run_makeSlice {t e : TypeId} {i : TypeInfo} {z : Value} {k k' : IntKind} {l c : Nat} (ht : P.underlying t = some (.slice e)) (h1 : P.info? e = some i) (hz : i.zero = some z) (hs : i.size = 1) (hzs : z.cells.size = 1) (hb : i.bytes ≠ 0)
  (hlc : l ≤ c) (hcb : c * i.bytes ≤ roomMax) :
  (Instr.makeSlice t (.int k l) (.int k' c)).run P w = ((newRow e ((Array.range c).map (fun _ => z.cells[0]!))).run P w).andThen fun a w' => .ok (.slice (some a) l c) w' := by
 have hcb : c * i.bytes ≤ 140737488355328 := hcb
 have hc : c ≤ 140737488355328 := by
  have : c * 1 ≤ c * i.bytes := Nat.mul_le_mul_left _ (Nat.pos_of_ne_zero hb)
  omega
 have wl : IntKind.i64.wrap (l : Int) = l := wrap_inR (inR_of (by omega))
 have wc : IntKind.i64.wrap (c : Int) = c := wrap_inR (inR_of hc)
 have hzv : (zeroValue e).run P w = .ok z w := by simp [zeroValue, typeInfo, h1, hz]
 have hti : (typeInfo e).run P w = .ok i w := by simp [typeInfo, h1]
 have hnot : ¬ ((i.bytes : Int) * (c : Int) > 2 ^ 48) := by
  have h : (i.bytes : Int) * (c : Int) = ((c * i.bytes : Nat) : Int) := by rw [Nat.mul_comm, Int.natCast_mul]
  rw [h]
  omega
 have hcond : (decide ((c : Int) < 0) || decide ((i.bytes : Int) * (c : Int) > 2 ^ 48)) = false := by
  rw [decide_eq_false hnot, decide_eq_false (by omega)]; rfl
 have hai : ∀ (k : IntKind) (n : Nat), (asIntOf (.int k (n : Int))).run P w = .ok (k, (n : Int)) w := fun _ _ => rfl
 have hB : ((decide ((c : Int) < 0) || decide ((i.bytes : Int) * (c : Int) > 2 ^ 48)) || decide ((l : Int) < 0) || decide ((l : Int) > c)) = false := by
  rw [hcond, decide_eq_false (by omega : ¬ ((l : Int) < 0)), decide_eq_false (by omega : ¬ ((l : Int) > c))]; rfl
 have hsz : (sizeOf e).run P w = .ok 1 w := by rw [run_sizeOf' h1, hs]
 unfold Instr.makeSlice
 rw [Sem.run_bind, run_underlying' ht, Result.andThen_ok]
 simp only [asInt, Sem.run_bind, hai, Sem.run_pure, Result.andThen_ok, hti, wl, wc, hB, Bool.false_eq_true, if_false, run_askRoom, hsz, Nat.mul_one, Int.toNat_natCast]
 by_cases h0 : c = 0
 ·subst h0
  have e0 : ∀ f : Nat → Value, (Array.range 0).map f = #[] := fun f => by simp
  simp only [if_true, Sem.run_bind, Sem.run_pure, Result.andThen_ok, e0, newRow, run_newObj]
 ·rw [if_neg h0]
  simp only [Sem.run_bind, hzv, Sem.run_pure, Result.andThen_ok, hzs, Nat.mod_one]

theorem step_mks {t : TypeId} {L C : Operand} (ho : o.op = .makeSlice t L C) {x : XOp} (hx : compMks P t L C = some x) (hm : MRel G F ρ H w) (hev : EvOk G F ρ H w T ev) {site : Nat} {d : Dir}
  (hD : execD site look x d (x.opds.map (Opd.ev G T)) = some D) (hc : AllC (SpecQ P G) D.cs) (hfresh : ∀ i, i ∈ D.al → H i = none) : OpOk P o ev w (KD G F ρ H w D) := by
 unfold compMks at hx
 split at hx
 ·rename_i e a b ht hL hC
  split at hx
  ·rename_i sz by_ z hel
   obtain ⟨hEl, hz⟩ := elOf_ok hel
   obtain ⟨i, v, h1, h2, h3, h4, h5, h6⟩ := zeroOf_ok (w := w) hz
   obtain ⟨i', v', q1, q2, q3, q4, q5⟩ := hEl.inf
   rw [h1] at q1; cases q1
   rw [h2] at q4; cases q4
   simp only [cond_eq_ite] at hx
   split at hx
   ·rename_i hs1
    cases hx
    have hs1 : sz = 1 := Nat.eq_of_beq_eq_true hs1
    subst hs1
    simp only [execD, XOp.opds, List.map_cons, List.map_nil, x1, x2, List.getD_cons_zero, List.getD_cons_succ] at hD
    unfold opMks at hD
    split at hD
    ·rename_i kl l kc c e1 e2
     split at hD
     ·rename_i zc hzc
      split at hD
      ·rename_i zs hzs
       cases hD
       have hx := hev _ _ hL
       have hy := hev _ _ hC
       rw [e1] at hx
       rw [e2] at hy
       have hx := hx.ints
       have hy := hy.ints
       simp only [AllC, Cd.holds, leb, decide_eq_true_eq] at hc
       obtain ⟨c1, c2, c3, _⟩ := hc
       obtain ⟨n, rfl⟩ : ∃ n : Nat, l = n := ⟨l.toNat, (Int.toNat_of_nonneg c1).symm⟩
       obtain ⟨m, rfl⟩ : ∃ m : Nat, c = m := ⟨c.toNat, (Int.toNat_of_nonneg (by omega)).symm⟩
       have hle : n ≤ m := by omega
       have hroom : m * i.bytes ≤ roomMax := by
        rw [q3]
        have : ((m * by_ : Nat) : Int) ≤ ((roomMax : Nat) : Int) := by rw [Int.natCast_mul]; exact c3
        exact Int.ofNat_le.1 this
       have hrun : (execOp ev o).run P w = ((Instr.makeSlice t (ev L) (ev C)).run P w).andThen fun v w' => .ok (.value v) w' := by
        unfold execOp
        rw [ho]
        simp only [run_value]
       refine OpOk.eff hrun ?_
       rw [hx, hy, run_makeSlice ht h1 h2 q2 (by rw [h3, q2]) (by rw [q3]; exact hEl.pos) hle hroom]
       obtain ⟨k1, k2⟩ := contOf_spec (w := w) (F := F) (ρ := ρ) (H := H) hzc
       obtain ⟨r1, r2⟩ := zeroC_spec (w := w) (F := F) (ρ := ρ) (H := H) hzs
       have hrel : RelVs w F ρ H z v.cells.toList := (h5 w F).toVs
       have hlen : z.length = 1 := by have := hrel.len; simp [q5] at this; exact this
       obtain ⟨y, p1, p2⟩ := hrel.getD (by omega : 0 < z.length)
       have py : v.cells[0]! = y := by
        have : v.cells[0]? = some y := by simpa using p1
        simp only [getElem!_def, this]
       have hE := k2 0 y (by omega) p2 (h4 y (List.mem_of_getElem? (l := v.cells.toList) (i := 0) (by simpa using p1)))
       have hfs : H site = none := hfresh site (by simp)
       simp only [Int.toNat_natCast, mz] at r1 r2 ⊢
       refine laidS_sound hm hfs (by rw [r1, Nat.mul_one]) (by rw [r1]; simp; exact hle) (fun j hj => ?_) hle (by simp)
       rw [r1] at hj
       refine ⟨y, ?_, r2 y hE j hj⟩
       have hj' : j < m := by omega
       simp [py, hj']
      ·cases hD
     ·cases hD
    ·cases hD
   ·cases hx
  ·cases hx
 ·cases hx

end
end Go.Ab

/-
 Bytes made a string; ranges over strings.
-/
set_option linter.unusedVariables false
set_option linter.unusedSimpArgs false
namespace Go.Ab
open Go
section
variable {P : Program} {G : GL} {F : Nat → Prop} {ρ : Nat → Option Nat} {H : Nat → Option HO} {w : World} {look : Nat → Option HO} {D : Delta} {o : Oper} {ev : Operand → Value} {T : List (Nat × AV)} {Sp : SpT}

theorem beqK_ok0 {k k' : IntKind} (h : beqK k k' = true) : k = k' := of_decide_eq_true h
theorem foldl_push (l : List Int) : ∀ (acc : ByteArray), (l.foldl (fun r n => r.push (UInt8.ofNat n.toNat)) acc).data.toList = acc.data.toList ++ bytesI l := by
 induction l with
 | nil => intro acc; simp [bytesI]
 | cons n r ih =>
  intro acc
  rw [List.foldl_cons, ih]
  simp [bytesI, ByteArray.push]

theorem opBstr_sound (hm : MRel G F ρ H w) (hl : ∀ id o, look id = some o → H id = some o) {v : AV} {x : Value} (hx : RelV w F ρ H v x) (hD : opBstr look v = some D) (hc : AllC Sp D.cs) : Gives F ρ H w ((Conv.bytesToString x).run P w) D := by
 unfold opBstr at hD
 split at hD
 ·cases hx with
  | imm _ _ hi =>
   cases hi
   exact Gives.val (x := .string .empty) hD (by simp [Conv.bytesToString]) (.imm _ _ (.str _ _ rfl))
 ·split at hD
  ·rename_i k l m cs hs
   rw [cond_eq_ite] at hD
   split at hD
   ·rename_i hk
    have hk := beqK_ok0 hk
    subst hk
    have hcs := val_cs hD
    rw [hcs] at hc
    obtain ⟨a, cap, cells, e1, e2, e3, e4, e5, e6⟩ := src_sound hm hl hs hc hx
    have hlen : cells.length = l.length := by rw [e3, ← e2]; rfl
    have hcells : cells = l.map (Value.int .u8) := by
     apply List.ext_getElem
     ·simpa using hlen
     ·intro i h1 h2
      have h3 := (e6 i cells[i] (List.getElem?_eq_getElem h1)).1
      have h4 : i < l.length := by omega
      simp only [Cont.getV] at h3
      rw [List.getD_eq_getElem?_getD, List.getElem?_eq_getElem h4, Option.getD_some] at h3
      have h5 : cells[i] = Value.int .u8 l[i] := by
       generalize cells[i] = y at h3
       cases h3; rfl
      simp [h5]
    subst e1
    cases a with
    | none =>
     have hm0 := e4 rfl
     subst hm0
     have : l = [] := by
      have : l.length = 0 := by rw [← hlen, e3]
      exact List.length_eq_zero_iff.1 this
     subst this
     exact Gives.val (x := .string .empty) hD (by simp [Conv.bytesToString]) (.imm _ _ (.str _ _ rfl))
    | some b =>
     have hrun : (loadCells b m).run P w = .ok (l.map (Value.int .u8)).toArray w := by
      have := run_loadCells_list (P := P) (w := w) b cells (e5 b rfl)
      rw [e3, Nat.mul_one] at this
      rw [this, hcells]
     refine Gives.val hD (run_bytesToString w b m cap l hrun) (.imm _ _ (.str _ _ ?_))
     rw [foldl_push]; simp
   ·cases hD
  ·cases hD

theorem step_bstr {src dst : TypeId} {X : Operand} (ho : o.op = .convert src dst X) {x : XOp} (hx : compBstr P src dst X = some x) (hm : MRel G F ρ H w) (hl : ∀ id o, look id = some o → H id = some o) (hev : EvOk G F ρ H w T ev) {site : Nat} {d : Dir}
  (hD : execD site look x d (x.opds.map (Opd.ev G T)) = some D) (hc : AllC (SpecQ P G) D.cs) : OpOk P o ev w (KD G F ρ H w D) := by
 unfold compBstr at hx
 split at hx
 ·rename_i e a h1 h2 hX
  split at hx
  ·rename_i h3
   cases hx
   refine OpOk.eff (r := (convert src dst (ev X)).run P w) ?_ ?_
   ·unfold execOp
    rw [ho]
    simp only [run_value]
   ·have hv := hev _ _ hX
    have hD : opBstr look (a.ev G T) = some D := hD
    have hcv : ∀ y : Value, (∃ b l c, y = .slice b l c) → (convert src dst y).run P w = (Conv.bytesToString y).run P w := by
     rintro y ⟨b, l, c, rfl⟩
     simp only [convert, Sem.run_bind, underlying, run_program, Result.andThen_ok, h1, h2, h3, Sem.run_pure]
    have hsl : ∃ b l c, ev X = .slice b l c := by
     unfold opBstr at hD
     split at hD
     ·rename_i e1
      rw [e1] at hv
      generalize ev X = y at hv
      cases hv with
      | imm _ _ hi => cases hi; exact ⟨_, _, _, rfl⟩
     ·split at hD
      ·rename_i k l m cs hs
       rw [cond_eq_ite] at hD
       split at hD
       ·have hcs := val_cs hD
        rw [hcs] at hc
        obtain ⟨b, cap, cells, e1, _⟩ := src_sound hm hl hs hc hv
        exact ⟨_, _, _, e1⟩
       ·cases hD
      ·cases hD
    rw [hcv _ hsl]
    exact (opBstr_sound hm hl hv hD hc).eff hm
  ·cases hx
 ·rename_i k a h1 h2 hX
  cases hx
  refine OpOk.eff (r := (convert src dst (ev X)).run P w) ?_ ?_
  ·unfold execOp
   rw [ho]
   simp only [run_value]
  ·have hv := hev _ _ hX
   have hD : opRstr (a.ev G T) = some D := hD
   unfold opRstr at hD
   split at hD
   ·rename_i k' n e1
    rw [e1] at hv
    have hi := hv.ints
    rw [hi]
    refine Eff.val hm hD (x := .string (Utf8.encode n)) ?_ (.imm _ _ (.str _ _ rfl))
    simp only [convert, Sem.run_bind, underlying, run_program, Result.andThen_ok, h1, h2, Sem.run_pure, Conv.intToString]
   ·cases hD
 ·cases hx

theorem step_rng {t : TypeId} {X : Operand} (ho : o.op = .range t X) {a : Opd} (hX : compX X = some a) (ht : P.underlying t = some .string) (hm : MRel G F ρ H w) (hev : EvOk G F ρ H w T ev) {site : Nat} {d : Dir}
  (hD : execD site look (.rng a) d [a.ev G T] = some D) (hfresh : ∀ i, i ∈ D.al → H i = none) : OpOk P o ev w (KD G F ρ H w D) := by
 have hv := hev _ _ hX
 have hD : opRng site (a.ev G T) = some D := hD
 unfold opRng at hD
 split at hD
 ·rename_i s e1
  cases hD
  rw [e1] at hv
  obtain ⟨bs, hbs, hs⟩ := hv.strs
  have hrun : (execOp ev o).run P w = (Result.ok (Value.pointer (some ⟨w.heap.size, 0, none⟩)) { w with heap := w.heap.push (.stringIter bs 0) }).andThen fun v w' => .ok (.value v) w' := by
   unfold execOp
   rw [ho]
   simp only [run_value, Instr.range, Sem.run_bind, underlying, run_program, Result.andThen_ok, ht, hbs, Sem.run_pure, run_newObj]
  obtain ⟨ρ', m1, x1, k1, h1, h2⟩ := hm.alloc (w' := { w with heap := w.heap.push (.stringIter bs 0) }) (site := site) (o := .iter s 0) (hfresh site (by simp)) rfl ⟨rfl, rfl, fun _ => ⟨rfl, Nat.le_refl _⟩⟩ (fun ρ' H' hk hsite =>
   ⟨w.heap.size, hsite, fun hF => by have := hm.frz _ hF; omega, bs, hs, push_new rfl⟩)
  exact OpOk.eff hrun ⟨_, _, F, ρ', rfl, m1, x1, k1, .ptr site 0 w.heap.size (.iter s 0) h1 (upd_same _ _ _) rfl⟩
 ·cases hD

theorem step_nxt {X : Operand} (ho : o.op = .next X true) {a : Opd} (hX : compX X = some a) (hm : MRel G F ρ H w) (hl : ∀ id o, look id = some o → H id = some o) (hev : EvOk G F ρ H w T ev) {site : Nat} {d : Dir}
  (hD : execD site look (.nxt a) d [a.ev G T] = some D) (hc : AllC (SpecQ P G) D.cs) : OpOk P o ev w (KD G F ρ H w D) := by
 have hv := hev _ _ hX
 have hD : opNxt look d (a.ev G T) = some D := hD
 unfold opNxt at hD
 split at hD
 ·rename_i id e1
  split at hD
  ·rename_i s pos hlk
   have hH := hl _ _ hlk
   obtain ⟨b, z1, z2, bs, z3, z4⟩ := hm.heap id _ hH
   rw [e1] at hv
   generalize hy : ev X = y at hv
   have hptr : y = .pointer (some ⟨b, 0, none⟩) := by
    cases hv with
    | imm _ _ hi => cases hi
    | ptr _ _ b' _ hb _ _ => rw [z1] at hb; cases hb; rfl
   subst hptr
   have hbs : bs = ⟨s.toArray⟩ := by cases bs; simp at z3; subst z3; simp
   have hsz : bs.size = s.length := by rw [hbs]; simp [ByteArray.size]
   have hlt := lt_of_some z4
   have more : pos < s.length → OpOk P o ev w (KD G F ρ H w { v := nxtV s pos, ws := [(id, .iter s (nxtP s pos))], al := [], cs := D.cs }) := by
    intro hp
    have hrun : (execOp ev o).run P w = (Result.ok (Value.tuple #[.bool true, .int .i64 pos, .int .i32 (Utf8.decode bs pos).1]) { w with heap := w.heap.setIfInBounds b (.stringIter bs (pos + (Utf8.decode bs pos).2)) }).andThen fun v w' => .ok (.value v) w' := by
     unfold execOp
     rw [ho]
     simp only [run_value, hy, Instr.next, Sem.run_bind]
     simp [getObj, setObj, Sem.run, z4, hsz, hp, goInt]
    obtain ⟨m1, x1, k1⟩ := hm.write (w' := { w with heap := w.heap.setIfInBounds b (.stringIter bs (pos + (Utf8.decode bs pos).2)) }) (o' := .iter s (nxtP s pos)) hH z1 z2 (ob := .stringIter bs (pos + (Utf8.decode bs pos).2))
     (by simp [hlt]) (fun j hj => by simp [Array.getElem?_setIfInBounds_ne (Ne.symm hj)]) (by simp) ⟨rfl, rfl, fun _ => ⟨rfl, Nat.le_refl _⟩⟩ (fun cs ty fz h => by rw [z4] at h; cases h) rfl (fun k h => by cases h)
     (fun hk => ⟨b, z1, z2, bs, z3, by simp [hlt, nxtP, hbs]⟩)
    refine OpOk.eff hrun ⟨_, _, F, ρ, rfl, m1, x1, k1, ?_⟩
    rw [hbs]
    exact .imm _ _ (.tup _ _ (.cons _ _ _ _ (.bool _) (.cons _ _ _ _ (.int _ _) (.cons _ _ _ _ (.int _ _) .nil))))
   have over : ¬ pos < s.length → OpOk P o ev w (KD G F ρ H w { v := .tup [.bool false], ws := [], al := [], cs := D.cs }) := by
    intro hp
    have hrun : (execOp ev o).run P w = (Result.ok (Value.tuple #[.bool false]) w).andThen fun v w' => .ok (.value v) w' := by
     unfold execOp
     rw [ho]
     simp only [run_value, hy, Instr.next, Sem.run_bind]
     simp [getObj, Sem.run, z4, hsz, hp]
    exact OpOk.eff hrun (Eff.pure hm rfl rfl (.imm _ _ (.tup _ _ (.cons _ _ _ _ (.bool _) .nil))))
   split at hD
   ·rw [cond_eq_ite] at hD
    split at hD
    ·rename_i h; cases hD; exact more (by simpa [ltn] using h)
    ·rename_i h; cases hD; exact over (by simpa [ltn] using h)
   ·cases hD
    have := hc.1
    exact over (by simpa [Cd.holds, ltn] using this)
   ·cases hD
    have := hc.1
    exact more (by simpa [Cd.holds, ltn] using this)
  ·cases hD
 ·cases hD

theorem run_append_zeros {sT xT e ty : TypeId} {sz by_ : Nat} (hs : P.underlying sT = some (.slice e)) {kx : IntKind} (hx : P.underlying xT = some (.int kx)) (he : ElOk P e sz by_) {k : IntKind} {n : Nat} (hn : 0 < n) (hb : n * by_ ≤ roomMax) :
  ∃ (newCap : Nat) (cells : Array Value) (w' : World), n ≤ newCap ∧ w'.heap = w.heap.push (.cells cells e) ∧ cells.size = newCap * sz ∧ IoEq G w w' ∧
   (Builtin.append_ #[sT, xT] ty #[.slice none 0 0, .int k (n : Int)]).run P w = .ok (.slice (some ⟨w.heap.size, 0, none⟩) n newCap) w' := by
 have hb : n * by_ ≤ 140737488355328 := hb
 obtain ⟨i, z, h1, h2, h3, h4, h5⟩ := he.inf
 have hpos : i.bytes ≠ 0 := by rw [h3]; exact he.pos
 have hfit : Builtin.nextslicecap (0 + n) 0 * i.bytes ≤ 281474976710656 := growslice_fits (by omega) (by rw [h3]; simpa using hb)
 have hneed : n ≤ 140737488355328 := by
  have : n * 1 ≤ n * by_ := Nat.mul_le_mul_left _ (Nat.pos_of_ne_zero he.pos)
  omega
 let q : Question := .appendCap (0 + n) 0 e
 let newCap := q.cut (w.tape w.drawn q)
 have hnew : 0 + n ≤ newCap := Nat.le_add_right _ _
 have hnew' : n ≤ newCap := by omega
 have hwrap : IntKind.i64.wrap (n : Int) = (n : Int) := wrap_inR (inR_of hneed)
 have hti : ∀ w : World, (typeInfo e).run P w = .ok i w := fun w => by simp [typeInfo, h1]
 have hzv : ∀ w : World, (zeroValue e).run P w = .ok z w := fun w => by simp [zeroValue, typeInfo, h1, h4]
 have hch : (choose q).run P w = .ok newCap { w with drawn := w.drawn + 1 } := by
  simp only [choose, Sem.run, q, Question.forced]; rfl
 have hai : ∀ w : World, (asIntOf (.int k (n : Int))).run P w = .ok (k, (n : Int)) w := fun _ => rfl
 have hnot : ¬ ((n : Int) * (i.bytes : Int) > 2 ^ 48) := by
  have h : (n : Int) * (i.bytes : Int) = ((n * i.bytes : Nat) : Int) := by rw [Int.natCast_mul]
  rw [h, h3]
  omega
 have hmax : ¬ ((0 + n : Nat) : Int) > IntKind.i64.max := by
  have : IntKind.i64.max = 9223372036854775807 := by decide
  omega
 have hroom : ¬ 0 + n ≤ 0 := by omega
 have hfit' : ¬ (Builtin.nextslicecap (0 + n) 0 * i.bytes > 2 ^ 48) := by omega
 have hneg : ¬ (n : Int) < 0 := by omega
 have happ : ∀ w' : World, ((if n * sz = 0 then pure #[] else do pure (Builtin.zeroCells (← zeroValue e).cells n) : Sem (Array Value))).run P w' = .ok (Builtin.zeroCells z.cells n) w' := fun w' => by
  by_cases h0 : n * sz = 0
  ·rw [if_pos h0]
   have : Builtin.zeroCells z.cells n = #[] := by
    simp [Builtin.zeroCells, h5, h0]
   rw [this]; rfl
  ·rw [if_neg h0]
   simp only [Sem.run_bind, hzv, Sem.run_pure, Result.andThen_ok]
 refine ⟨newCap, Builtin.zeroCells z.cells n ++ Builtin.zeroCells z.cells (newCap - (0 + n)), { w with heap := w.heap.push (.cells (Builtin.zeroCells z.cells n ++ Builtin.zeroCells z.cells (newCap - (0 + n))) e), drawn := w.drawn + 1 }, hnew', rfl, ?_, ⟨rfl, rfl, fun _ => ⟨rfl, Nat.le_succ _⟩⟩, ?_⟩
 ·simp only [Array.size_append, Builtin.zeroCells, Array.size_map, Array.size_range, h5]
  rw [← Nat.add_mul]; congr 1; omega
 unfold Builtin.append_
 simp only [List.getElem?_toArray, List.getElem?_cons_zero, List.getElem?_cons_succ]
 simp only [Sem.run_bind, run_underlying' hs, Result.andThen_ok, run_sizeOf' h1, run_underlying' hx, Sem.run_pure, if_true, asInt, hai, hwrap, hneg, if_false, hti, hnot, Int.toNat_natCast, hroom, h2]
 rw [if_neg (fun h => hmax h.1)]
 simp only [Sem.run_bind, hti, Result.andThen_ok, hfit', if_false]
 rw [show (choose (.appendCap (0 + n) 0 e)) = choose q from rfl, hch]
 simp only [Result.andThen_ok, hti, run_askRoom, Builtin.firstCells, Sem.run_pure, Bool.not_true, Bool.false_eq_true, if_false, happ, hzv, newRow, Sem.run_bind, run_newObj]
 simp [newCap]
theorem opGrowz_sound (hm : MRel G F ρ H w) (hfresh : ∀ i, i ∈ D.al → H i = none) {site sz by_ tk : Nat} {u v : AV} {x y : Value} {sT xT e ty : TypeId}
  (hs : P.underlying sT = some (.slice e)) {kx : IntKind} (hx : P.underlying xT = some (.int kx)) (he : ElOk P e sz by_)
  (hu : RelV w F ρ H u x) (hv : RelV w F ρ H v y) (hD : opGrowz site sz by_ tk u v = some D) (hc : AllC Sp D.cs) :
  Eff G F ρ H w ((Builtin.append_ #[sT, xT] ty #[x, y]).run P w) D := by
 unfold opGrowz at hD
 split at hD
 ·rename_i k n
  cases hD
  have := hv.ints; subst this
  obtain ⟨c1, c2, _⟩ := hc
  have c1 : 0 < n := by simpa [Cd.holds, ltb] using c1
  obtain ⟨m, rfl⟩ : ∃ m : Nat, n = m := ⟨n.toNat, (Int.toNat_of_nonneg (by omega)).symm⟩
  have c2 : m * by_ ≤ roomMax := by
   have h : (m : Int) * (by_ : Int) ≤ ((roomMax : Nat) : Int) := of_decide_eq_true c2
   have : ((m * by_ : Nat) : Int) ≤ ((roomMax : Nat) : Int) := by rw [Int.natCast_mul]; exact h
   exact Int.ofNat_le.1 this
  cases hu with
  | imm _ _ hi =>
   cases hi
   obtain ⟨newCap, cells, w', r1, r2, r3, r4, r5⟩ := run_append_zeros (G := G) (P := P) (w := w) (ty := ty) (k := k) hs hx he (by omega : 0 < m) c2
   obtain ⟨ρ', h1, h2, h3, h4, h5⟩ := hm.alloc (w' := w') (site := site) (o := .blk { c := emptyOf tk, sz, n := 0, cap := none, nil := some false, mu := true, bx := false }) (hfresh site (by simp)) r2 r4 (fun ρ' H' hk hρ => by
    refine ⟨by rw [emptyOf_size]; simp, .inr ⟨w.heap.size, hρ, ⟨⟨cells, e, (0, 0), push_new r2, by simp, by show (emptyOf tk).size ≤ _; rw [emptyOf_size]; omega, fun i hi => ?_⟩, fun _ h => absurd (hm.frz _ h) (Nat.lt_irrefl _), fun e => by cases e⟩⟩⟩
    have : i < (emptyOf tk).size := hi
    rw [emptyOf_size] at this; omega)
   exact ⟨_, _, F, ρ', r5, h1, h2, h3, .spare site _ _ _ (.full site 0 _ _ (upd_same _ _ _) (Nat.le_refl _) ⟨_, _, _, rfl⟩ (fun _ => .inr (.inr ⟨(fun e => by cases e), w.heap.size, newCap, cells, e, (0, 0), h4, push_new r2, rfl, Nat.zero_le _, by show newCap * sz ≤ _; omega, fun n e => by cases e⟩)))⟩
 ·cases hD
end
end Go.Ab

/-
 One operation of the model, by its abstract effect: calls, built-in functions; all of them.
-/
set_option linter.unusedVariables false
set_option linter.unusedSimpArgs false
namespace Go.Ab
open Go
section
variable {P : Program} {G : GL} {F : Nat → Prop} {ρ : Nat → Option Nat} {H : Nat → Option HO} {w : World} {look : Nat → Option HO} {D : Delta} {o : Oper} {ev : Operand → Value} {T : List (Nat × AV)}

theorem step_mkf {f : FuncId} {A C : Array Operand} (ho : o.op = .makeFunc (.func f) A C) {a c : List Opd} (hA : compXs A.toList = some a) (hC : compXs C.toList = some c) (hm : MRel G F ρ H w) (hev : EvOk G F ρ H w T ev) {site : Nat} {d : Dir}
  (hD : execD site look (.mkf f a c) d ((XOp.mkf f a c).opds.map (Opd.ev G T)) = some D) : OpOk P o ev w (KD G F ρ H w D) := by
 have h1 := hev.list hA
 have h2 := hev.list hC
 have hlen : (a.map (Opd.ev G T)).length = a.length := by simp
 simp only [execD, XOp.opds, List.map_append] at hD
 rw [List.take_left' hlen, List.drop_left' hlen] at hD
 have hrun : (execOp ev o).run P w = (Result.ok (.func (.func f) (A.map ev) (C.map ev)) w).andThen fun v w' => .ok (.value v) w' := by
  unfold execOp
  rw [ho]
  rfl
 exact OpOk.eff hrun (Eff.val hm hD rfl (.fn _ _ _ _ _ (by simpa using h1) (by simpa using h2)))

theorem step_ext {X : Operand} {i : Nat} (ho : o.op = .extract X i) {a : Opd} (hX : compX X = some a) (hm : MRel G F ρ H w) (hev : EvOk G F ρ H w T ev) {site : Nat} {d : Dir}
  (hD : execD site look (.ext a i) d [a.ev G T] = some D) (hc : AllC (SpecQ P G) D.cs) : OpOk P o ev w (KD G F ρ H w D) := by
 have hrun : (execOp ev o).run P w = ((Instr.extract (ev X) i).run P w).andThen fun v w' => .ok (.value v) w' := by
  unfold execOp
  rw [ho]
  simp only [run_value]
 exact OpOk.eff hrun ((opExt_sound (hev _ _ hX) hD hc).eff hm)

theorem step_nilck {X : Operand} (ho : o.op = .nilCheck X) {a : Opd} (hX : compX X = some a) (hm : MRel G F ρ H w) (hl : ∀ id o, look id = some o → H id = some o) (hev : EvOk G F ρ H w T ev) {site : Nat} {d : Dir}
  (hD : execD site look (.nilck a) d [a.ev G T] = some D) (hc : AllC (SpecQ P G) D.cs) : OpOk P o ev w (KD G F ρ H w D) := by
 obtain ⟨y, h1, h2, h3, h4⟩ := opNilck_sound (P := P) (ρo := ev) hl ho rfl (hev _ _ hX) hD hc
 refine OpOk.eff (r := .ok y w) (by rw [h1]; rfl) (Eff.pure hm rfl h3 h2)

theorem idsH_mem (base : Nat) : ∀ (hs : List Blk) (j i : Nat), i < hs.length → base + (j + i) ∈ idsH base j hs
 | [], j, i, h => by simp at h
 | b :: r, j, 0, h => by simp [idsH]
 | b :: r, j, i + 1, h => by
  have := idsH_mem base r (j + 1) i (by simpa using h)
  simp only [idsH, List.mem_cons]
  right
  rw [show j + (i + 1) = j + 1 + i by omega]
  exact this

theorem call_sound0 (hm : MRel G F ρ H w) (hl : ∀ id o, look id = some o → H id = some o) {site f : Nat} {vs : List AV} {xs : Array Value} {args : List AV} {ids : List Nat} {cs : List Cd} {v : AV} {hs : List Blk} (hz : frzL look 8 vs = some (args, ids, cs)) (hc : AllC (SpecQ P G) (cs ++ [.call f args v hs])) (hfresh : ∀ i, i ∈ idsH (64 * site) 0 hs → H i = none)
  (hv : RelVs w F ρ H vs xs.toList) : CallOk P f xs w (KD G F ρ H w { v := shiftV (64 * site) v, ws := frzW look ids ++ shiftH (64 * site) 0 hs, al := idsH (64 * site) 0 hs, cs := cs ++ [.call f args v hs] }) := by
 obtain ⟨hc1, hc2⟩ := hc.app
 have hsp : SpecP P G f args v hs := hc2.1
 obtain ⟨F1, f1, f2, f3, f4, f5, f6⟩ := frzAll (look := look) ids F H hm (fun id k hk => .inl (hl _ _ hk))
 have hids := (frz_ids 8).2.1 _ _ _ _ hz
 obtain ⟨g1, g2⟩ := (frz_sound (Sp := SpecQ P G) hm hl f2.keep 8).2.1 _ _ _ _ hz hc1 (fun id hid b hb => f4 id hid (hids id hid) b hb)
 have hargs := relVs_frz g1 g2 hv
 have hfr : ∀ j, j < hs.length → updL H (frzW look ids) (64 * site + j) = none := fun j hj => by
  have h0 : H (64 * site + j) = none := hfresh _ (by have := idsH_mem (64 * site) hs 0 j hj; simpa using this)
  have hlk : look (64 * site + j) = none := by
   cases e : look (64 * site + j) with
   | none => rfl
   | some o => rw [hl _ _ e] at h0; cases h0
  rw [f6 _ hlk]; exact h0
 have fin : ∀ (y : Value) (w' : World), (∃ F' ρ', MRel G F' ρ' (hsH hs) w' ∧ Ext G F1 noR w F' ρ' w' ∧ RelV w' F' ρ' (hsH hs) v y) → KD G F ρ H w { v := shiftV (64 * site) v, ws := frzW look ids ++ shiftH (64 * site) 0 hs, al := idsH (64 * site) 0 hs, cs := cs ++ [.call f args v hs] } y w' := by
  rintro y w' ⟨F', ρ', q1, q2, q3⟩
  obtain ⟨ρ2, r1, r2, r3, r4⟩ := f1.join hfr q1 q2
  refine ⟨F', ρ2, ?_, f2.trans r2, ?_, ?_⟩
  ·simp only [updL_app]; exact r1
  ·simp only [updL_app]; exact f3.trans r3
  ·simp only [updL_app]; exact r4 _ _ q3
 exact (hsp F1 w xs f1.bare hargs).mono fin

theorem call_sound (hm : MRel G F ρ H w) (hl : ∀ id o, look id = some o → H id = some o) {site f : Nat} {d : Dir} {vs : List AV} {xs : Array Value} (hD : opCall site look d f vs = some D) (hc : AllC (SpecQ P G) D.cs) (hfresh : ∀ i, i ∈ D.al → H i = none)
  (hv : RelVs w F ρ H vs xs.toList) : CallOk P f xs w (KD G F ρ H w D) := by
 unfold opCall at hD
 split at hD
 ·split at hD
  ·rename_i args ids cs hz
   split at hD
   ·rename_i v hs _
    cases hD
    exact call_sound0 hm hl hz hc hfresh hv
   ·cases hD
  ·cases hD
 ·split at hD
  ·rename_i args ids cs hz
   cases hD
   exact call_sound0 hm hl hz hc hfresh hv
  ·cases hD
 ·exact callD_sound (cv := .fn f [] []) hm hl hD hc hfresh hv
 ·cases hD

theorem CallOk.op {f : FuncId} {args : Array Value} {K : Value → World → Prop} (h : CallOk P f args w K) (hr : (execOp ev o).run P w = (callFunc f args).run P w) : OpOk P o ev w K := by
 unfold OpOk; rw [hr]; exact h

theorem run_cally {c : Call} {X : Operand} {l : Nat} (ho : o.op = .call c) (hc : c.callee = .value X) (hX : ev X = .func (.yield l) #[] #[]) :
  (execOp ev o).run P w = (Instr.yield l (c.args.map ev)).run P w := by
 unfold execOp
 rw [ho]
 simp only [resolve, hc, Deferred.ofValue, hX, Sem.run_bind, Sem.run_pure, Result.andThen_ok, invoke]
 simp

theorem run_callv {c : Call} {X : Operand} {f : FuncId} {a cp : Array Value} (ho : o.op = .call c) (hc : c.callee = .value X) (hX : ev X = .func (.func f) a cp) :
  (execOp ev o).run P w = (callFunc f (a ++ c.args.map ev ++ cp)).run P w := by
 unfold execOp
 rw [ho]
 simp only [resolve, hc, Deferred.ofValue, hX, Sem.run_bind, Sem.run_pure, Result.andThen_ok, invoke]

theorem run_callb {c : Call} {b : Builtin} (ho : o.op = .call c) (hc : c.callee = .builtin b) :
  (execOp ev o).run P w = (builtin b c.argTypes o.type (c.args.map fun | .const _ => true | _ => false) (c.args.map ev)).run P w := by
 unfold execOp
 rw [ho]
 simp only [resolve, hc, Sem.run_bind, Sem.run_pure, Result.andThen_ok, invoke]
 rfl
theorem map1 {X : Operand} : (#[X] : Array Operand).map ev = #[ev X] := by simp
theorem map2 {X Y : Operand} : (#[X, Y] : Array Operand).map ev = #[ev X, ev Y] := by simp

theorem list2 {α : Type} {a : Array α} {x y : α} (h : a.toList = [x, y]) : a = #[x, y] := by
 apply Array.toList_inj.1; simpa using h
theorem list1' {α : Type} {a : Array α} {x : α} (h : a.toList = [x]) : a = #[x] := by
 apply Array.toList_inj.1; simpa using h
theorem compXs1 {A : Array Operand} {a : Opd} (h : compXs A.toList = some [a]) : ∃ X, A = #[X] ∧ compX X = some a := by
 generalize hl : A.toList = l at h
 cases l with
 | nil => simp [compXs] at h
 | cons X r =>
  simp only [compXs] at h
  split at h
  ·rename_i h1 h2
   cases h
   cases r with
   | nil => exact ⟨X, list1' hl, h1⟩
   | cons Y r => simp only [compXs] at h2; split at h2 <;> cases h2
  ·cases h
theorem compXs2 {A : Array Operand} {a b : Opd} (h : compXs A.toList = some [a, b]) : ∃ X Y, A = #[X, Y] ∧ compX X = some a ∧ compX Y = some b := by
 generalize hl : A.toList = l at h
 cases l with
 | nil => simp [compXs] at h
 | cons X r =>
  simp only [compXs] at h
  split at h
  ·rename_i h1 h2
   cases h
   cases r with
   | nil => simp [compXs] at h2
   | cons Y r =>
    simp only [compXs] at h2
    split at h2
    ·rename_i h3 h4
     cases h2
     cases r with
     | nil => exact ⟨X, Y, list2 hl, h1, h3⟩
     | cons Z r => simp only [compXs] at h4; split at h4 <;> cases h4
    ·cases h2
  ·cases h

theorem compX_func {f : FuncId} : compX (.func f) = some (.c (.fn f [] [])) := rfl

theorem step_call {c : Call} (ho : o.op = .call c) {x : XOp} (hx : compCall P c = some x) (hcon : ConstOk ev) (hm : MRel G F ρ H w) (hl : ∀ id o, look id = some o → H id = some o) (hev : EvOk G F ρ H w T ev) {site : Nat} {d : Dir}
  (hD : execD site look x d (x.opds.map (Opd.ev G T)) = some D) (hc : AllC (SpecQ P G) D.cs) (hfresh : ∀ i, i ∈ D.al → H i = none) : OpOk P o ev w (KD G F ρ H w D) := by
 unfold compCall at hx
 split at hx
 ·rename_i as has
  have hargs := hev.list has
  have bi : ∀ {b : Builtin} {s : Sem Value}, c.callee = .builtin b → (builtin b c.argTypes o.type (c.args.map fun | .const _ => true | _ => false) (c.args.map ev)) = (do pure (.value (← s))) → Eff G F ρ H w (s.run P w) D → OpOk P o ev w (KD G F ρ H w D) := by
   intro b s h1 h2 h3
   refine OpOk.eff ?_ h3
   rw [run_callb ho h1, h2, run_value]
  split at hx
  ·rename_i f hcal
   cases hx
   refine CallOk.op (call_sound (xs := c.args.map ev) hm hl hD hc hfresh (by simpa [XOp.opds] using hargs)) ?_
   rw [run_callv ho hcal (hcon.2 f)]
   simp
  ·rename_i X hnf hcal
   split at hx
   ·rename_i a hX
    cases hx
    simp only [execD, XOp.opds, List.map_cons, List.drop_succ_cons, List.drop_zero, x1, List.getD_cons_zero] at hD
    unfold opCallv at hD
    split at hD
    ·rename_i f l1 l2 e1
     have hfv := hev _ _ hX
     rw [e1] at hfv
     obtain ⟨y1, y2, e2, p1, p2⟩ := hfv.fns
     refine CallOk.op (call_sound (xs := y1 ++ c.args.map ev ++ y2) hm hl hD hc hfresh ?_) (run_callv ho hcal e2)
     simp only [Array.toList_append, Array.toList_map]
     exact (p1.app hargs).app p2
    ·rename_i id e1
     have hfv := hev _ _ hX
     rw [e1] at hfv
     split at hD
     ·generalize hy : ev X = y at hfv
      cases hfv with
      | imm _ _ hi => cases hi
      | yld _ b ob hb hh hbx =>
       have := callD_sound (cv := .yld id) (xs := c.args.map ev) hm hl hD hc hfresh (by simpa using hargs)
       unfold OpOk
       rw [run_cally ho hcal hy]
       exact this b hb
     ·cases hD
    ·cases hD
   ·cases hx
  ·rename_i hcal
   split at hx
   ·rename_i t a htys
    obtain ⟨X, hA, hX⟩ := compXs1 has
    have hty := list1' htys
    split at hx
    ·rename_i ht
     cases hx
     refine bi hcal (s := Builtin.len_ c.argTypes o.type (c.args.map ev)) rfl ?_
     rw [hty, hA, map1]
     exact (opLens_sound ht (hev _ _ hX) hD).eff hm
    ·rename_i e ht
     cases hx
     refine bi hcal (s := Builtin.len_ c.argTypes o.type (c.args.map ev)) rfl ?_
     rw [hty, hA, map1]
     exact (opLen_sound hl ht (hev _ _ hX).unc hD hc).eff hm
    ·rename_i n e ht
     cases hx
     refine bi hcal (s := Builtin.len_ c.argTypes o.type (c.args.map ev)) rfl ?_
     rw [hty, hA]
     refine Eff.val hm hD (x := .int .i64 n) ?_ (relInt _ _)
     simp [Builtin.len_, run_underlying' ht, goInt]
    ·cases hx
   ·cases hx
  ·rename_i hcal
   split at hx
   ·rename_i t a htys
    obtain ⟨X, hA, hX⟩ := compXs1 has
    have hty := list1' htys
    split at hx
    ·rename_i e ht
     cases hx
     refine bi hcal (s := Builtin.cap_ c.argTypes o.type (c.args.map ev)) rfl ?_
     rw [hty, hA, map1]
     exact (opCap_sound hl ht (hev _ _ hX) hD hc).eff hm
    ·cases hx
   ·cases hx
  ·rename_i hcal
   split at hx
   ·rename_i t u a b htys
    obtain ⟨X, Y, hA, hX, hY⟩ := compXs2 has
    have hty := list2 htys
    split at hx
    ·rename_i e e' ht hu
     split at hx
     ·rename_i sz by_ z hel
      cases hx
      refine bi hcal (s := Builtin.append_ c.argTypes o.type (c.args.map ev)) rfl ?_
      rw [hty, hA, map2]
      exact opAppend_sound hm hl hfresh ht hu (fun k h => by cases h) (elOf_ok hel).1 (hev _ _ hX).unc (hev _ _ hY).unc hD hc
     ·cases hx
    ·rename_i e k ht hu
     split at hx
     ·rename_i sz by_ z hel
      cases hx
      refine bi hcal (s := Builtin.append_ c.argTypes o.type (c.args.map ev)) rfl ?_
      rw [hty, hA, map2]
      exact opGrowz_sound hm hfresh ht hu (elOf_ok hel).1 (hev _ _ hX) (hev _ _ hY) hD hc
     ·cases hx
    ·cases hx
   ·cases hx
  ·rename_i hcal
   cases hx
   simp only [execD, XOp.opds] at hD
   split at hD
   ·rename_i v hv
    obtain ⟨y, h1, h2⟩ := mmF_sound (P := P) (xs := c.args.map ev) (tys := c.argTypes) (ty := o.type) (by simpa using hargs) hv
    refine bi hcal (s := Builtin.max_ c.argTypes o.type (c.args.map ev)) rfl ?_
    exact Eff.val hm hD h1 h2
   ·cases hD
  ·rename_i hcal
   cases hx
   simp only [execD, XOp.opds] at hD
   split at hD
   ·rename_i v hv
    obtain ⟨y, h1, h2⟩ := mmF_sound (P := P) (xs := c.args.map ev) (tys := c.argTypes) (ty := o.type) (by simpa using hargs) hv
    refine bi hcal (s := Builtin.min_ c.argTypes o.type (c.args.map ev)) rfl ?_
    exact Eff.val hm hD h1 h2
   ·cases hD
  ·cases hx
 ·cases hx

end
end Go.Ab

/-
 One operation of the model does what its abstract effect says.
-/
set_option linter.unusedVariables false
set_option linter.unusedSimpArgs false
namespace Go.Ab
open Go
section
variable {P : Program} {G : GL} {F : Nat → Prop} {ρ : Nat → Option Nat} {H : Nat → Option HO} {w : World} {look : Nat → Option HO} {D : Delta} {o : Oper} {ev : Operand → Value} {T : List (Nat × AV)}

theorem op_sound {x : XOp} (hx : compOp P o.op = some x) (hcon : ConstOk ev) (hm : MRel G F ρ H w) (hl : ∀ id o, look id = some o → H id = some o) (hev : EvOk G F ρ H w T ev) {site : Nat} {d : Dir}
  (hD : execD site look x d (x.opds.map (Opd.ev G T)) = some D) (hc : AllC (SpecQ P G) D.cs) (hfresh : ∀ i, i ∈ D.al → H i = none) : OpOk P o ev w (KD G F ρ H w D) := by
 unfold compOp at hx
 split at hx
 ·rename_i X ho
  split at hx
  ·rename_i a hX; cases hx; exact step_mv (.inl ho) hX hm hev hD
  ·cases hx
 ·rename_i X ho
  split at hx
  ·rename_i a hX; cases hx; exact step_mv (.inr ho) hX hm hev hD
  ·cases hx
 ·rename_i ho
  split at hx
  ·rename_i h1 h2 h3; cases hx; exact step_pick ho h1 h2 h3 hm hev hD hc
  ·cases hx
 ·rename_i ho; exact step_alloc ho hx hm hD hfresh
 ·rename_i ho
  split at hx
  ·rename_i hX; cases hx; exact step_box ho hX hm hev hD hfresh
  ·cases hx
 ·rename_i ho; exact step_build ho hx hm hev hD
 ·rename_i ho; exact step_buildS ho hx hm hev hD hfresh
 ·rename_i ho; exact step_load ho hx hm hl hev hD hc
 ·rename_i ho; exact step_store ho hx hm hl hev hD hc
 ·rename_i ho
  split at hx
  ·rename_i hX; cases hx; exact step_nilck ho hX hm hl hev hD hc
  ·cases hx
 ·rename_i ho; exact step_bin ho hx hcon hm hl hev hD hc
 ·rename_i ho
  split at hx
  ·rename_i hX; cases hx; exact step_un ho hX hm hev hD hc
  ·cases hx
 ·rename_i ho
  split at hx
  ·rename_i h; cases hx; exact step_conv ho h hm hev hD hc
  ·exact step_bstr ho hx hm hl hev hD hc
 ·rename_i ho
  split at hx
  ·rename_i h1 h2; cases hx; exact step_rng ho h2 h1 hm hev hD hfresh
  ·cases hx
 ·rename_i ho
  split at hx
  ·rename_i h1; cases hx; exact step_nxt ho h1 hm hl hev hD hc
  ·cases hx
 ·rename_i ho
  split at hx
  ·rename_i h1 h2; cases hx; exact step_mkf ho h1 h2 hm hev hD
  ·cases hx
 ·rename_i ho; exact step_mks ho hx hm hev hD hc hfresh
 ·rename_i ho; exact step_slice ho hx hm hl hev hD hc
 ·rename_i ho; exact step_fieldA ho hx hm hl hev hD hc
 ·rename_i ho; exact step_field ho hx hm hev hD hc
 ·rename_i ho; exact step_idxA ho hx hm hl hev hD hc
 ·rename_i ho; exact step_idx ho hx hm hev hD hc
 ·rename_i ho
  split at hx
  ·rename_i hX; cases hx; exact step_ext ho hX hm hev hD hc
  ·cases hx
 ·rename_i ho; exact step_call ho hx hcon hm hl hev hD hc hfresh
 ·cases hx

end
end Go.Ab

/-
 One operation of a region, at a state of the frame: reads, guards, effects.
-/
set_option linter.unusedVariables false
set_option linter.unusedSimpArgs false
namespace Go.Ab
open Go

structure RSf (G : GL) (F : Nat → Prop) (ρ : Nat → Option Nat) (T : Nat → Option AV) (H : Nat → Option HO) (n : Nat) (a : Act) (w : World) : Prop where
 size : a.tmps.size = n
 tmps : ∀ t v, T t = some v → RelV w F ρ H v (a.tmps.getD t undef)
 mem : MRel G F ρ H w
 defs : DefOk F ρ a w

theorem DefOk.ext {G : GL} {ρ ρ' : Nat → Option Nat} {F F' : Nat → Prop} {a a' : Act} {w w' : World} (h : DefOk F ρ a w) (he : Ext G F ρ w F' ρ' w') (hd : a'.defers = a.defers) : DefOk F' ρ' a' w' := by
 obtain ⟨rs, h1, h2, h3⟩ := h
 refine ⟨rs, h1, hd.trans h2, fun r hr => ?_⟩
 obtain ⟨g1, g2, g3⟩ := h3 r hr
 have hlt : r < w.heap.size := lt_of_some g1
 refine ⟨(he.same r hlt g2).trans g1, fun id e => ?_, fun hF => ?_⟩
 ·rcases he.im id r e with ⟨id', h'⟩ | h'
  ·exact g2 id' h'
  ·omega
 ·rcases he.more r hF with h' | h' | ⟨id, h'⟩
  ·exact g3 h'
  ·omega
  ·exact g2 id h'

def readT (T : List (Nat × AV)) : List Opd → List (Nat × AV)
 | [] => []
 | .t n :: r => match aget T n with
  | some v => (n, v) :: readT T r
  | none => readT T r
 | _ :: r => readT T r
def strip1 : AV → AV
 | .may _ v => v
 | v => v
def stripT : List (Nat × AV) → List (Nat × AV)
 | [] => []
 | (t, v) :: r => (t, strip1 v) :: stripT r
def stripB : AV → List Cd → List Cd
 | .may b _, cs => .b b :: cs
 | _, cs => cs
def stripC : List (Nat × AV) → List Cd → List Cd
 | [], cs => cs
 | (_, v) :: r, cs => stripB v (stripC r cs)
def keepMay : XOp → Bool
 | .mv _ => true
 | .pick _ _ _ => true
 | _ => false

inductive GDir where
 | auto
 | on
 | onl
 | off
 | may

def runU (G : GL) (site : Nat) (look : Nat → Option HO) (op : XOp) (d : Dir) (rt : List (Nat × AV)) : Option Delta :=
 match keepMay op with
 | true => execD site look op d (op.opds.map (Opd.ev G rt))
 | false => match execD site look op d (op.opds.map (Opd.ev G (stripT rt))) with
  | some D => some { D with cs := stripC rt D.cs }
  | none => none
def geC (b want : Bool) : List Cd → List Cd
 | [] => []
 | c :: r => .ge b want c :: geC b want r
def skipD (cs : List Cd) : Delta := { v := .may false (.bool false), ws := [], al := [], cs }
def gvalO : Option AV → Option (Bool × Bool)
 | none => none
 | some v => gval 8 v
def runG (G : GL) (site : Nat) (look : Nat → Option HO) (x : XO) (g : GDir) (d : Dir) (gv : Option AV) (rt : List (Nat × AV)) : Option Delta :=
 match x.guard with
 | none => runU G site look x.op d rt
 | some (_, want) => match gvalO gv with
  | some (dd, b) => match g with
   | .auto => cond (dd && negIf (!want) b) (runU G site look x.op d rt) (some (skipD []))
   | .on => match runU G site look x.op d rt with
    | some D => some { D with cs := .b (dd && negIf (!want) b) :: D.cs }
    | none => none
   | .onl => match runU G site look x.op d rt with
    | some D => some { D with cs := .b (dd && negIf (!want) b) :: D.cs }
    | none => none
   | .off => some (skipD [.b (!(dd && negIf (!want) b))])
   | .may => match runU G site look x.op d rt with
    | some D => match D.ws, D.al with
     | [], [] => some { v := mkMay (dd && negIf (!want) b) D.v, ws := [], al := [], cs := geC (dd && negIf (!want) b) true D.cs }
     | _, _ => none
    | none => none
  | none => none

def compG (ops : Array Oper) : Option (Nat × Bool) → Option (Option (Nat × Bool))
 | none => some none
 | some (j, want) => match (ops[j]?).bind (·.dst) with
  | some t => some (some (t, want))
  | none => none
def compXO (P : Program) (ops : Array Oper) (o : Oper) : Option XO :=
 match compOpB P o.op, compG ops o.guard with
 | some op, some g => some { dst := o.dst, op := op, guard := g }
 | _, _ => none

def updT (T : Nat → Option AV) : Option Nat → AV → Nat → Option AV
 | none, _ => T
 | some t, v => upd T t (some v)

def wpOpR (P : Program) (ops : Array Oper) (i : Nat) (K : Act → World → Prop) (a : Act) (w : World) : Prop :=
 match ops[i]? with
 | none => K a w
 | some o => if Region.wanted o (yielded ops a.tmps) then OpOk P o a.eval w (fun v w' => K (a.put o.dst v) w') else K (a.put o.dst undef) w
def wpOpsR (P : Program) (ops : Array Oper) (R : Act → World → Prop) : List Nat → Act → World → Prop
 | [], a, w => R a w
 | i :: r, a, w => wpOpR P ops i (wpOpsR P ops R r) a w
def wpAnyR (P : Program) (ops : Array Oper) (R : Act → World → Prop) : Nat → Array Bool → Act → World → Prop
 | 0, listed, a, w => Region.ready .any ops listed = [] ∧ R a w
 | fuel + 1, listed, a, w => (Region.ready .any ops listed = [] → R a w) ∧ ∀ i ∈ Region.ready .any ops listed, wpOpR P ops i (wpAnyR P ops R fuel (listed.setIfInBounds i true)) a w
theorem wpOpR_mono {P : Program} {ops : Array Oper} {i : Nat} {K K' : Act → World → Prop} {a : Act} {w : World} (hk : ∀ a w, K a w → K' a w) (h : wpOpR P ops i K a w) : wpOpR P ops i K' a w := by
 unfold wpOpR at h ⊢
 split
 ·rename_i e; rw [e] at h; exact hk _ _ h
 ·rename_i o e
  rw [e] at h
  simp only at h
  split
  ·rename_i hw; rw [if_pos hw] at h; exact NextOk.mono h fun v w' => hk _ _
  ·rename_i hw; rw [if_neg hw] at h; exact hk _ _ h
theorem wpAnyR_sound {P : Program} {ops : Array Oper} {R : Act → World → Prop} : ∀ (fuel t : Nat) (listed : Array Bool) (a : Act) (w : World), wpAnyR P ops R fuel listed a w → wpOpsR P ops R (Region.linearise.go .any ops fuel t listed []) a w := by
 intro fuel
 induction fuel with
 | zero => intro t listed a w h; simpa [Region.linearise.go, wpOpsR] using h.2
 | succ fuel ih =>
  intro t listed a w h
  obtain ⟨h₀, h₁⟩ := h
  simp only [Region.linearise.go]
  change wpOpsR P ops R (match (Region.ready .any ops listed)[t % (Region.ready .any ops listed).length]? with
   | some i => Region.linearise.go .any ops fuel (t / (Region.ready .any ops listed).length) (listed.setIfInBounds i true) [i]
   | none => [].reverse) a w
  cases hi : (Region.ready .any ops listed)[t % (Region.ready .any ops listed).length]? with
  | none =>
   have hnil : Region.ready .any ops listed = [] := by
    cases hr : Region.ready .any ops listed with
    | nil => rfl
    | cons x xs =>
     rw [hr] at hi
     have hlt : t % (x :: xs).length < (x :: xs).length := Nat.mod_lt _ (by simp)
     simp at hi
     simp at hlt
     omega
   simpa [wpOpsR] using h₀ hnil
  | some i =>
   simp only []
   rw [linearise_go_acc, List.reverse_singleton, List.singleton_append]
   exact wpOpR_mono (fun a w => ih _ _ a w) (h₁ i (List.mem_of_getElem? hi))

section
variable {P : Program} {G : GL} {F : Nat → Prop} {ρ : Nat → Option Nat} {T : Nat → Option AV} {H : Nat → Option HO} {n : Nat} {a : Act} {w : World} {look : Nat → Option HO} {D : Delta} {o : Oper} {rt : List (Nat × AV)}

theorem evOk_of (hm : MRel G F ρ H w) (hrt : ∀ t v, aget rt t = some v → RelV w F ρ H v (a.tmps.getD t undef)) : EvOk G F ρ H w rt a.eval := by
 intro X o hX
 cases X with
 | tmp t =>
  cases hX
  simp only [Opd.ev, Act.eval]
  cases h : aget rt t with
  | none => exact .imm _ _ (.undef _)
  | some v => exact hrt t v h
 | const v =>
  simp only [compX] at hX
  split at hX
  ·rename_i u hu; cases hX; exact .imm _ _ ((compV_sound w F 12).1 _ _ hu)
  ·cases hX
 | global g =>
  cases hX
  simp only [Opd.ev, Act.eval]
  cases h : G.g g with
  | none => exact .imm _ _ (.undef _)
  | some c =>
   obtain ⟨h1, xs, h2, h3, h4⟩ := hm.glob g c h
   exact .imm _ _ (.iptr c g 0 xs h1 (fun i hi => by rw [Nat.zero_add]; exact h2 i hi) h3 h4)
 | func f =>
  cases hX
  exact .imm _ _ (.fn f [] [] #[] #[] .nil .nil)

theorem constOk_eval : ConstOk a.eval := ⟨fun _ => rfl, fun _ => rfl⟩

theorem stripB_ok {Sp : SpT} {v : AV} {cs : List Cd} (h : AllC Sp (stripB v cs)) : AllC Sp cs ∧ (strip1 v = v ∨ v = .may true (strip1 v)) := by
 cases v with
 | may b v =>
  obtain ⟨h1, h2⟩ := h
  have : b = true := h1
  subst this
  exact ⟨h2, .inr rfl⟩
 | _ => exact ⟨h, .inl rfl⟩

theorem stripC_ok {Sp : SpT} : ∀ {rt : List (Nat × AV)} {cs : List Cd}, AllC Sp (stripC rt cs) → AllC Sp cs ∧ ∀ t v, aget (stripT rt) t = some v → aget rt t = some v ∨ aget rt t = some (.may true v)
 | [], cs, h => ⟨h, fun t v h => by cases h⟩
 | (k, u) :: r, cs, h => by
  obtain ⟨h1, h2⟩ := stripB_ok h
  obtain ⟨h3, h4⟩ := stripC_ok h1
  refine ⟨h3, fun t v hv => ?_⟩
  simp only [stripT, aget] at hv ⊢
  cases e : Nat.beq k t with
  | false =>
   rw [e] at hv
   simp only [cond_false] at hv ⊢
   exact h4 t v hv
  | true =>
   rw [e] at hv
   simp only [cond_true] at hv ⊢
   cases hv
   rcases h2 with h2 | h2
   ·left; rw [h2]
   ·right; rw [← h2]

theorem compOpB_ok {op : XOp} (hx : compOpB P o.op = some op) : compOp P o.op = some op ∨ op = .bad := by
 unfold compOpB at hx
 split at hx
 ·cases hx
 ·split at hx
  ·rename_i h; cases hx; exact .inl h
  ·cases hx; exact .inr rfl

theorem runU_sound' {op : XOp} (hx : compOp P o.op = some op) (hm : MRel G F ρ H w) (hrt : ∀ t v, aget rt t = some v → RelV w F ρ H v (a.tmps.getD t undef)) (hl : ∀ id o, look id = some o → H id = some o) {site : Nat} {d : Dir}
  (hD : runU G site look op d rt = some D) (hc : AllC (SpecQ P G) D.cs) (hfresh : ∀ i, i ∈ D.al → H i = none) : OpOk P o a.eval w (KD G F ρ H w D) := by
 unfold runU at hD
 split at hD
 ·exact op_sound hx constOk_eval hm hl (evOk_of hm hrt) hD hc hfresh
 ·split at hD
  ·rename_i D' hD'
   cases hD
   obtain ⟨h1, h2⟩ := stripC_ok hc
   have hrt' : ∀ t v, aget (stripT rt) t = some v → RelV w F ρ H v (a.tmps.getD t undef) := fun t v h => by
    rcases h2 t v h with h | h
    ·exact hrt t v h
    ·exact (hrt t _ h).mayInv rfl
   have := op_sound (D := D') hx constOk_eval hm hl (evOk_of hm hrt') hD' h1 hfresh
   exact this
  ·cases hD

theorem runU_sound {op : XOp} (hx : compOpB P o.op = some op) (hm : MRel G F ρ H w) (hrt : ∀ t v, aget rt t = some v → RelV w F ρ H v (a.tmps.getD t undef)) (hl : ∀ id o, look id = some o → H id = some o) {site : Nat} {d : Dir}
  (hD : runU G site look op d rt = some D) (hc : AllC (SpecQ P G) D.cs) (hfresh : ∀ i, i ∈ D.al → H i = none) : OpOk P o a.eval w (KD G F ρ H w D) := by
 rcases compOpB_ok hx with h | rfl
 ·exact runU_sound' h hm hrt hl hD hc hfresh
 ·simp [runU, keepMay, execD] at hD

theorem geC_ok {Sp : SpT} {b want : Bool} (hb : negIf (!want) b = true) : ∀ {cs : List Cd}, AllC Sp (geC b want cs) → AllC Sp cs
 | [], _ => trivial
 | c :: r, h => ⟨h.1 hb, geC_ok hb h.2⟩

variable {ops : Array Oper} {Q : Exit → Act → World → Prop}

theorem getD_bool {tmps : Array Value} {t : Nat} {b : Bool} (h : tmps.getD t undef = .bool b) : tmps[t]? = some (.bool b) := by
 cases e : tmps[t]? with
 | none => simp [Array.getD_eq_getD_getElem?, e, undef] at h
 | some v => simp [Array.getD_eq_getD_getElem?, e] at h; rw [h]

theorem wanted_of {x : XO} (hg : compG ops o.guard = some x.guard) : match x.guard with
  | none => ∀ (a : Act), Region.wanted o (yielded ops a.tmps) = true
  | some (t, want) => ∀ (a : Act) (d b : Bool), (d = true → a.tmps.getD t undef = .bool b) → (d = false → a.tmps.getD t undef = undef) → Region.wanted o (yielded ops a.tmps) = (d && negIf (!want) b) := by
 unfold compG at hg
 split at hg
 ·rename_i e
  cases hx : x.guard with
  | none => intro a; simp [Region.wanted, e]
  | some p => rw [hx] at hg; cases hg
 ·rename_i j want e
  split at hg
  ·rename_i t ht
   cases hx : x.guard with
   | none => rw [hx] at hg; cases hg
   | some p =>
    rw [hx] at hg
    cases hg
    intro a d b h1 h0
    cases d with
    | true =>
     have hb := getD_bool (h1 rfl)
     simp only [Region.wanted, e, yielded, ht, Option.bind_some, hb]
     cases want <;> cases b <;> rfl
    | false =>
     have h0 := h0 rfl
     simp only [Region.wanted, e, yielded, ht, Option.bind_some]
     cases hh : a.tmps[t]? with
     | none => rfl
     | some y =>
      have : y = undef := by
       simp [Array.getD_eq_getD_getElem?, hh] at h0; exact h0
      subst this
      rfl
  ·cases hg

theorem onl_lit {x : XO} {site : Nat} {d : Dir} {gv : Option AV} {Sp : SpT} {t : Nat} {want : Bool} {y : Value} (hD : runG G site look x .onl d gv rt = some D) (hc : AllC Sp D.cs) (hg : x.guard = some (t, want)) (hrel : ∀ v, gv = some v → RelV w F ρ H v y) : y = .bool want := by
 unfold runG at hD
 rw [hg] at hD
 simp only at hD
 split at hD
 ·rename_i dd b hgd
  split at hD
  ·rename_i D' hD'
   cases hD
   have he : (dd && negIf (!want) b) = true := hc.1
   rw [Bool.and_eq_true] at he
   cases gv with
   | none => cases hgd
   | some v =>
    have := (gval_ok 8 hgd (hrel v rfl)).1 he.1
    rw [this]
    have h2 := he.2
    cases want <;> cases b <;> simp_all [negIf]
  ·cases hD
 ·cases hD

theorem put_rsf {F' : Nat → Prop} {ρ' : Nat → Option Nat} {H' : Nat → Option HO} {w' : World} (hr : RSf G F ρ T H n a w) (hm : MRel G F' ρ' H' w') (he : Ext G F ρ w F' ρ' w') (hk : HKeep w ρ H w' ρ' H') {dst : Option Nat} (hd : ∀ t, dst = some t → t < n) {v : AV} {y : Value} (hv : RelV w' F' ρ' H' v y) :
  RSf G F' ρ' (updT T dst v) H' n (a.put dst y) w' := by
 have hold : ∀ t v, T t = some v → RelV w' F' ρ' H' v (a.tmps.getD t undef) := fun t v h => (hr.tmps t v h).mono he.frz he.keep hk
 cases dst with
 | none => exact ⟨hr.size, hold, hm, hr.defs.ext he rfl⟩
 | some d =>
  refine ⟨by simp [Act.put]; exact hr.size, fun t u h => ?_, hm, hr.defs.ext he rfl⟩
  have hd := hd d rfl
  rw [← hr.size] at hd
  simp only [updT] at h
  by_cases e : t = d
  ·subst e
   rw [upd_same] at h; cases h
   simp [Act.put, Array.getD_eq_getD_getElem?, hd]; exact hv
  ·rw [upd_other _ _ e] at h
   have := hold t u h
   simpa [Act.put, Array.getD_eq_getD_getElem?, Array.getElem?_setIfInBounds_ne (Ne.symm e)] using this

theorem one_sound {i : Nat} (hi : ops[i]? = some o) {x : XO} (hx : compXO P ops o = some x) (hr : RSf G F ρ T H n a w) (hrt : ∀ t v, aget rt t = some v → T t = some v) {gv : Option AV}
  (hgv : ∀ t want v, x.guard = some (t, want) → gv = some v → T t = some v) (hl : ∀ id o, look id = some o → H id = some o) {site : Nat} {g : GDir} {d : Dir}
  (hD : runG G site look x g d gv rt = some D) (hdst : ∀ t, x.dst = some t → t < n) (hfresh : ∀ i, i ∈ D.al → H i = none) (hc : AllC (SpecQ P G) D.cs) {K : Act → World → Prop}
  (hK : ∀ y w' F' ρ', RSf G F' ρ' (updT T x.dst D.v) (updL H D.ws) n (a.put x.dst y) w' → Ext G F ρ w F' ρ' w' → HKeep w ρ H w' ρ' (updL H D.ws) → K (a.put x.dst y) w') : wpOpR P ops i K a w := by
 unfold compXO at hx
 split at hx
 ·rename_i op gd hop hg
  cases hx
  have hw := wanted_of (x := { dst := o.dst, op := op, guard := gd }) hg
  have hrel : ∀ t v, aget rt t = some v → RelV w F ρ H v (a.tmps.getD t undef) := fun t v h => hr.tmps t v (hrt t v h)
  have skip : ∀ {D' : Delta}, D'.ws = [] → (∀ y w' F' ρ', RSf G F' ρ' (updT T o.dst D'.v) (updL H D'.ws) n (a.put o.dst y) w' → Ext G F ρ w F' ρ' w' → HKeep w ρ H w' ρ' (updL H D'.ws) → K (a.put o.dst y) w') → RelV w F ρ H D'.v undef → K (a.put o.dst undef) w := by
   intro D' hws hK hv
   rw [hws] at hK
   exact hK undef w F ρ (put_rsf hr hr.mem (Ext.refl _ _ _) (HKeep.refl _ _ _) hdst hv) (Ext.refl _ _ _) (HKeep.refl _ _ _)
  have run : ∀ {D' : Delta}, runU G site look op d rt = some D' → AllC (SpecQ P G) D'.cs → (∀ i, i ∈ D'.al → H i = none) →
    (∀ y w' F' ρ', RSf G F' ρ' (updT T o.dst D'.v) (updL H D'.ws) n (a.put o.dst y) w' → Ext G F ρ w F' ρ' w' → HKeep w ρ H w' ρ' (updL H D'.ws) → K (a.put o.dst y) w') → OpOk P o a.eval w (fun v w' => K (a.put o.dst v) w') := by
   intro D' hD' hc' hf' hK'
   have hok := runU_sound (a := a) hop hr.mem hrel hl hD' hc' hf'
   refine hok.mono ?_
   rintro y w' ⟨F', ρ', q1, q2, q3, q4⟩
   exact hK' y w' F' ρ' (put_rsf hr q1 q2 q3 hdst q4) q2 q3
  unfold wpOpR
  rw [hi]
  simp only
  unfold runG at hD
  split at hD
  ·rename_i hgn
   simp only at hgn
   subst hgn
   rw [if_pos (hw a)]
   exact (run hD hc hfresh hK)
  ·rename_i t want hgs
   simp only at hgs
   subst hgs
   split at hD
   ·rename_i d0 b hgd
    have hbb : (d0 = true → a.tmps.getD t undef = .bool b) ∧ (d0 = false → a.tmps.getD t undef = undef) := by
     cases gv with
     | none => cases hgd
     | some v => exact gval_ok 8 hgd (hr.tmps t _ (hgv t want _ rfl rfl))
    have hwant : Region.wanted o (yielded ops a.tmps) = (d0 && negIf (!want) b) := hw a d0 b hbb.1 hbb.2
    rw [hwant]
    generalize (d0 && negIf (!want) b) = e at hD ⊢
    split at hD
    ·cases hn : e with
     | true =>
      rw [hn] at hD
      rw [if_pos rfl]
      exact (run hD hc hfresh hK)
     | false =>
      rw [hn] at hD
      cases hD
      rw [if_neg (by simp)]
      exact skip (D' := skipD []) rfl hK (.may _ _ _ (fun h => by cases h) (fun _ => rfl))
    ·split at hD
     ·rename_i D' hD'
      cases hD
      have hn : e = true := hc.1
      rw [hn, if_pos rfl]
      exact (run hD' hc.2 hfresh hK)
     ·cases hD
    ·split at hD
     ·rename_i D' hD'
      cases hD
      have hn : e = true := hc.1
      rw [hn, if_pos rfl]
      exact (run hD' hc.2 hfresh hK)
     ·cases hD
    ·cases hD
     have hn : (!e) = true := hc.1
     have hn' : e = false := by cases e <;> simp_all
     rw [hn', if_neg (by simp)]
     exact skip (D' := skipD [.b (!e)]) rfl hK (.may _ _ _ (fun h => by cases h) (fun _ => rfl))
    ·split at hD
     ·rename_i D' hD'
      split at hD
      ·rename_i hws hal
       cases hD
       cases hn : e with
       | true =>
        rw [if_pos rfl]
        subst hn
        refine (run hD' (geC_ok (b := true) (want := true) rfl hc) (fun i hi => by rw [hal] at hi; cases hi) fun y w' F' ρ' h1 h2 h3 => hK y w' F' ρ' ?_ h2 (by rw [hws] at h3; exact h3))
        rw [hws] at h1
        refine ⟨h1.size, fun t v h => ?_, h1.mem, h1.defs⟩
        cases hdd : o.dst with
        | none => rw [hdd] at h h1; exact h1.tmps t v h
        | some d' =>
         rw [hdd] at h h1
         simp only [updT] at h
         by_cases e : t = d'
         ·subst e
          rw [upd_same] at h; cases h
          exact mkMay_rel (fun _ => h1.tmps t _ (upd_same _ _ _)) (fun e => by cases e)
         ·rw [upd_other _ _ e] at h
          exact h1.tmps t v (by simp only [updT]; rw [upd_other _ _ e]; exact h)
       | false =>
        rw [if_neg (by simp)]
        subst hn
        exact skip (D' := { v := mkMay false D'.v, ws := [], al := [], cs := geC false true D'.cs }) rfl hK (mkMay_rel (fun e => by cases e) (fun _ => rfl))
      ·cases hD
     ·cases hD
   ·cases hD
 ·cases hx

end
end Go.Ab

/-
 Regions: in text order, and in any order that the edges allow.
-/
set_option linter.unusedVariables false
set_option linter.unusedSimpArgs false
namespace Go.Ab
open Go

abbrev Dirs := List (Nat × (GDir × Dir))
def dirOf (ds : Dirs) (s : Nat) : GDir × Dir := match aget ds s with
 | some d => d
 | none => (aget ds 0).getD (.auto, .plain)

def putS (S : St) (dst : Option Nat) (D : Delta) : St :=
 { t := match dst with | some t => aset S.t t D.v | none => S.t, h := asets S.h D.ws, n := S.n }
def okDst : Option Nat → Nat → Bool
 | none, _ => true
 | some t, n => Nat.ble (t + 1) n
def freshA (h : List (Nat × HO)) : List Nat → Bool
 | [] => true
 | i :: r => match aget h i with
  | none => freshA h r
  | some _ => false
def gvOf (T : List (Nat × AV)) : Option (Nat × Bool) → Option AV
 | some (t, _) => aget T t
 | none => none

def litS (S : St) : GDir → Option (Nat × Bool) → St
 | .onl, some (t, want) => { S with t := aset S.t t (.bool want) }
 | _, _ => S
def exOps (G : GL) (ds : Dirs) : List XO → Nat → St → Option (St × List Cd)
 | [], _, S => some (S, [])
 | x :: r, s, S => match runG G s (aget S.h) x (dirOf ds s).1 (dirOf ds s).2 (gvOf S.t x.guard) (readT S.t x.op.opds) with
  | some D => cond (okDst x.dst S.n && freshA S.h D.al) (match exOps G ds r (s + 1) (putS (litS S (dirOf ds s).1 x.guard) x.dst D) with
   | some (S', cs) => some (S', D.cs ++ cs)
   | none => none) none
  | none => none

def compXOs (P : Program) (ops : Array Oper) : List Oper → Option (List XO)
 | [] => some []
 | o :: r => match compXO P ops o, compXOs P ops r with
  | some x, some l => some (x :: l)
  | _, _ => none

def RS (G : GL) (F : Nat → Prop) (ρ : Nat → Option Nat) (S : St) (a : Act) (w : World) : Prop := RSf G F ρ (aget S.t) (aget S.h) S.n a w

section
variable {P : Program} {G : GL} {F : Nat → Prop} {ρ : Nat → Option Nat} {a : Act} {w : World} {ops : Array Oper} {R : Act → World → Prop}

theorem aget_asetV {α : Type} (l : List (Nat × α)) (i : Nat) (v : α) : aget (aset l i v) = upd (aget l) i (some v) := aget_aset l i v

theorem readT_get {T : List (Nat × AV)} : ∀ {os : List Opd} {t : Nat} {v : AV}, aget (readT T os) t = some v → aget T t = some v
 | [], t, v, h => by cases h
 | .t n :: r, t, v, h => by
  simp only [readT] at h
  split at h
  ·rename_i u hu
   simp only [aget] at h
   by_cases e : n = t
   ·subst e
    rw [beq_self, cond_true] at h; cases h; exact hu
   ·rw [beq_ne e, cond_false] at h; exact readT_get h
  ·exact readT_get h
 | .c _ :: r, t, v, h => readT_get (os := r) h
 | .g _ :: r, t, v, h => readT_get (os := r) h

theorem freshA_ok {h : List (Nat × HO)} : ∀ {l : List Nat}, freshA h l = true → ∀ i, i ∈ l → aget h i = none
 | [], _, i, hi => by simp at hi
 | j :: r, hf, i, hi => by
  simp only [freshA] at hf
  split at hf
  ·rename_i hn
   rcases List.mem_cons.1 hi with rfl | hi
   ·exact hn
   ·exact freshA_ok hf i hi
  ·cases hf

theorem okDst_ok {dst : Option Nat} {n : Nat} (h : okDst dst n = true) : ∀ t, dst = some t → t < n := by
 rintro t rfl
 exact Nat.le_of_ble_eq_true h

theorem putS_t (S : St) (dst : Option Nat) (D : Delta) : aget (putS S dst D).t = updT (aget S.t) dst D.v := by
 cases dst with
 | none => rfl
 | some t => exact aget_aset _ _ _
theorem putS_h (S : St) (dst : Option Nat) (D : Delta) : aget (putS S dst D).h = updL (aget S.h) D.ws := aget_asets _ _

theorem gvOf_ok {T : List (Nat × AV)} {g : Option (Nat × Bool)} {t : Nat} {want : Bool} {v : AV} (hg : g = some (t, want)) (hv : gvOf T g = some v) : aget T t = some v := by
 subst hg; exact hv

theorem put_defers' (a : Act) (d : Option Nat) (y : Value) : (a.put d y).defers = a.defers := by cases d <;> rfl

theorem exOps_sound {ds : Dirs} : ∀ (l : List Oper) (k : Nat) (xs : List XO) (s : Nat) (S S' : St) (cs : List Cd) (F : Nat → Prop) (ρ : Nat → Option Nat) (a : Act) (w : World), (∀ j, j < l.length → l[j]? = ops[k + j]?) → compXOs P ops l = some xs → exOps G ds xs s S = some (S', cs) → AllC (SpecQ P G) cs →
  RS G F ρ S a w → (∀ a' w' F' ρ', RS G F' ρ' S' a' w' → Ext G F ρ w F' ρ' w' → HKeep w ρ (aget S.h) w' ρ' (aget S'.h) → a'.defers = a.defers → R a' w') → wpOpsR P ops R (List.range' k l.length) a w
 | [], k, xs, s, S, S', cs, F, ρ, a, w, hl, hx, he, hc, hr, hQ => by
  cases hx
  simp only [exOps] at he
  cases he
  exact hQ a w F ρ hr (Ext.refl _ _ _) (HKeep.refl _ _ _) rfl
 | o :: l, k, xs, s, S, S', cs, F, ρ, a, w, hl, hx, he, hc, hr, hQ => by
  simp only [compXOs] at hx
  split at hx
  ·rename_i x xl hxo hxl
   cases hx
   simp only [exOps] at he
   split at he
   ·rename_i D hD
    rw [cond_eq_ite] at he
    split at he
    ·rename_i hcond
     split at he
     ·rename_i S'' cs' he'
      cases he
      rw [Bool.and_eq_true] at hcond
      obtain ⟨c1, c2⟩ := hc.app
      have h0 : ops[k]? = some o := by simpa using (hl 0 (by simp)).symm
      rw [List.length_cons, List.range'_succ]
      show wpOpR P ops k _ a w
      refine one_sound h0 hxo hr (fun t v h => readT_get h) (fun t want v hg hv => gvOf_ok hg hv) (fun _ _ h => h) hD (okDst_ok hcond.1) (freshA_ok hcond.2) c1 ?_
      intro y w' F' ρ' hr' hx' hk'
      obtain ⟨l1, l2, l3⟩ : (litS S (dirOf ds s).1 x.guard).h = S.h ∧ (litS S (dirOf ds s).1 x.guard).n = S.n ∧ RSf G F' ρ' (updT (aget (litS S (dirOf ds s).1 x.guard).t) x.dst D.v) (updL (aget S.h) D.ws) S.n (a.put x.dst y) w' := by
       unfold litS
       split
       ·rename_i t want hdir hgd
        refine ⟨rfl, rfl, hr'.size, ?_, hr'.mem, hr'.defs⟩
        intro u v hu
        show RelV w' F' ρ' (updL (aget S.h) D.ws) v _
        have hy : a.tmps.getD t undef = .bool want := onl_lit (by rw [← hdir]; exact hD) c1 hgd fun v hv => hr.tmps t v (gvOf_ok hgd hv)
        have e1 : aget (aset S.t t (AV.bool want)) = upd (aget S.t) t (some (.bool want)) := aget_aset _ _ _
        simp only [e1] at hu
        cases hdd : x.dst with
        | none =>
         rw [hdd] at hu hr'
         simp only [updT] at hu
         by_cases e : u = t
         ·subst e
          rw [upd_same] at hu; cases hu
          show RelV _ _ _ _ _ (a.tmps.getD u undef)
          rw [hy]; exact relBool _
         ·rw [upd_other _ _ e] at hu
          exact hr'.tmps u v hu
        | some d' =>
         rw [hdd] at hu hr'
         simp only [updT] at hu
         by_cases ed : u = d'
         ·subst ed
          rw [upd_same] at hu
          exact hr'.tmps u v (by simp only [updT]; rw [upd_same]; exact hu)
         ·rw [upd_other _ _ ed] at hu
          by_cases e : u = t
          ·subst e
           rw [upd_same] at hu; cases hu
           have : (a.put (some d') y).tmps.getD u undef = a.tmps.getD u undef := by
            simp [Act.put, Array.getD_eq_getD_getElem?, Array.getElem?_setIfInBounds_ne (Ne.symm ed)]
           rw [this, hy]; exact relBool _
          ·rw [upd_other _ _ e] at hu
           exact hr'.tmps u v (by simp only [updT]; rw [upd_other _ _ ed]; exact hu)
       ·exact ⟨rfl, rfl, hr'⟩
      generalize litS S (dirOf ds s).1 x.guard = S1 at l1 l2 l3 he'
      rw [← l1] at hk' l3
      rw [← l2] at l3
      rw [← putS_h S1 x.dst D] at hk'
      rw [l1] at hk'
      clear hr'
      have hr' := l3
      refine exOps_sound l (k + 1) xl (s + 1) (putS S1 x.dst D) S' cs' F' ρ' _ w' (fun j hj => by have := hl (j + 1) (by simpa using hj); simpa [Nat.add_assoc, Nat.add_comm 1 j] using this) hxl he' c2 ?_ ?_
      ·unfold RS; rw [putS_t, putS_h]; exact hr'
      ·intro a' w'' F'' ρ'' h1 h2 h3 h4
       exact hQ a' w'' F'' ρ'' h1 (hx'.trans h2) (hk'.trans h3) (h4.trans (put_defers' _ _ _))
     ·cases he
    ·cases he
   ·cases he
  ·cases hx

theorem reg_sound {xs : List XO} {s : Nat} {ds : Dirs} {S S' : St} {cs : List Cd} (hx : compXOs P ops ops.toList = some xs) (he : exOps G ds xs s S = some (S', cs)) (hc : AllC (SpecQ P G) cs) (hr : RS G F ρ S a w)
  (hQ : ∀ a' w' F' ρ', RS G F' ρ' S' a' w' → Ext G F ρ w F' ρ' w' → HKeep w ρ (aget S.h) w' ρ' (aget S'.h) → a'.defers = a.defers → R a' w') : wpOpsR P ops R (List.range ops.size) a w := by
 rw [List.range_eq_range']
 have := exOps_sound (R := R) ops.toList 0 xs s S S' cs F ρ a w (by simp) hx he hc hr hQ
 simpa using this

end
end Go.Ab

/-
 Regions in any order that the edges allow: what each operation reads and writes decides that the order does not matter.
-/
set_option linter.unusedVariables false
set_option linter.unusedSimpArgs false
namespace Go.Ab
open Go

structure Ent where
 x : XO
 s : Nat
 g : GDir
 d : Dir
 gv : Option AV
 rt : List (Nat × AV)
 rh : List (Nat × HO)
 D : Delta

def refsE : List (Nat × AV) → List Nat
 | [] => []
 | (_, .ep id _ _) :: r => id :: refsE r
 | (_, .full id _) :: r => id :: refsE r
 | (_, .fullc id _ _) :: r => id :: refsE r
 | (_, .sl id _ _ _) :: r => id :: refsE r
 | _ :: r => refsE r
def rhOf (look : Nat → Option HO) (op : XOp) (rt : List (Nat × AV)) : List Nat :=
 match op with
 | .load _ _ | .store _ _ _ | .nxt _ => refsT rt
 | .fieldA _ _ | .nilck _ | .idxA _ _ _ _ | .len _ | .cap _ | .isnil _ _ _ => refsE rt
 | .slice _ _ _ _ _ | .slicea _ _ _ _ _ _ | .append _ _ _ _ _ | .copy _ _ _ | .bstr _ | .call _ _ | .callv _ _ => reachW look 1000000 (refsT rt) []
 | _ => []
def mkEnt (G : GL) (S : St) (x : XO) (s : Nat) (dd : GDir × Dir) : Option Ent :=
 let rt := readT S.t x.op.opds
 let rh := readF (aget S.h) (rhOf (aget S.h) x.op rt)
 let gv := gvOf S.t x.guard
 match runG G s (aget rh) x dd.1 dd.2 gv rt with
 | some D => cond (okDst x.dst S.n && freshA S.h D.al) (some { x, s, g := dd.1, d := dd.2, gv, rt, rh, D }) none
 | none => none

def nth? {α : Type} : List α → Nat → Option α
 | [], _ => none
 | x :: _, 0 => some x
 | _ :: r, n + 1 => nth? r n

def exEnts (G : GL) (ds : Dirs) (xs : List XO) (s : Nat) : List Nat → St → Option (St × List (Nat × Ent) × List Cd)
 | [], S => some (S, [], [])
 | i :: r, S => match nth? xs i with
  | some x => match mkEnt G S x (s + i) (dirOf ds (s + i)) with
   | some e => match exEnts G ds xs s r (putS S x.dst e.D) with
    | some (S', es, cs) => some (S', (i, e) :: es, e.D.cs ++ cs)
    | none => none
   | none => none
  | none => none

def optL : Option Nat → List Nat
 | some x => [x]
 | none => []
def gL : Option (Nat × Bool) → List Nat
 | some (x, _) => [x]
 | none => []
def apartE (e f : Ent) : Bool :=
 noneIn (optL e.x.dst) (keys f.rt ++ (gL f.x.guard ++ optL f.x.dst)) && (noneIn (optL f.x.dst) (keys e.rt ++ gL e.x.guard) &&
 (noneIn (keys e.D.ws) (keys f.rh ++ (f.D.al ++ keys f.D.ws)) && noneIn (keys f.D.ws) (keys e.rh ++ e.D.al)))

section
variable {P : Program} {G : GL} {ops : Array Oper} {R : Act → World → Prop}

theorem memN_iff {x : Nat} : ∀ {l : List Nat}, memN x l = true ↔ x ∈ l
 | [] => by simp [memN]
 | y :: r => by
  simp only [memN, cond_eq_ite]
  by_cases e : y = x
  ·subst e; simp [beq_self]
  ·rw [if_neg (by simp [beq_ne e]), memN_iff (l := r)]
   simp [Ne.symm e]

theorem noneIn_ok : ∀ {a l : List Nat}, noneIn a l = true → ∀ x, x ∈ a → x ∉ l
 | [], l, _, x, hx => by simp at hx
 | y :: r, l, h, x, hx => by
  simp only [noneIn, cond_eq_ite] at h
  split at h
  ·cases h
  ·rename_i hm
   rcases List.mem_cons.1 hx with rfl | hx
   ·exact fun hl => hm (memN_iff.2 hl)
   ·exact noneIn_ok h x hx

theorem keys_of_aget {α : Type} : ∀ {l : List (Nat × α)} {k : Nat} {v : α}, aget l k = some v → k ∈ keys l
 | [], k, v, h => by cases h
 | (j, u) :: r, k, v, h => by
  simp only [aget] at h
  by_cases e : j = k
  ·subst e; simp [keys]
  ·rw [beq_ne e, cond_false] at h
   simp only [keys, List.mem_cons]; right; exact keys_of_aget h

structure En (e : Ent) (T : Nat → Option AV) (H : Nat → Option HO) : Prop where
 rt : ∀ t v, aget e.rt t = some v → T t = some v
 gv : ∀ t want v, e.x.guard = some (t, want) → e.gv = some v → T t = some v
 rh : ∀ i o, aget e.rh i = some o → H i = some o
 al : ∀ i, i ∈ e.D.al → H i = none

theorem updL_other {H : Nat → Option HO} : ∀ {ws : List (Nat × HO)} {i : Nat}, i ∉ keys ws → updL H ws i = H i
 | [], i, h => rfl
 | (j, o) :: r, i, h => by
  simp only [keys, List.mem_cons, not_or] at h
  simp only [updL]
  rw [updL_other h.2, upd_other _ _ h.1]
theorem updL_congr {H H' : Nat → Option HO} {ws : List (Nat × HO)} {i : Nat} (h : H i = H' i) : updL H ws i = updL H' ws i := by
 induction ws generalizing H H' with
 | nil => exact h
 | cons p r ih =>
  obtain ⟨j, o⟩ := p
  simp only [updL]
  refine ih ?_
  by_cases e : i = j
  ·subst e; rw [upd_same, upd_same]
  ·rw [upd_other _ _ e, upd_other _ _ e]; exact h
theorem updL_comm {H : Nat → Option HO} {a b : List (Nat × HO)} (h : ∀ i, i ∈ keys a → i ∉ keys b) : updL (updL H a) b = updL (updL H b) a := by
 funext i
 by_cases hb : i ∈ keys b
 ·have ha : i ∉ keys a := fun ha => h i ha hb
  rw [updL_other (H := updL H b) ha]
  exact updL_congr (updL_other ha)
 ·rw [updL_other hb]
  exact updL_congr (updL_other hb).symm
theorem updT_other {T : Nat → Option AV} {dst : Option Nat} {v : AV} {t : Nat} (h : t ∉ optL dst) : updT T dst v t = T t := by
 cases dst with
 | none => rfl
 | some d => exact upd_other _ _ (by simpa [optL] using h)
theorem updT_comm {T : Nat → Option AV} {d e : Option Nat} {u v : AV} (h : ∀ t, t ∈ optL d → t ∉ optL e) : updT (updT T d u) e v = updT (updT T e v) d u := by
 cases d with
 | none => rfl
 | some d =>
  cases e with
  | none => rfl
  | some e =>
   have hne : d ≠ e := by simpa [optL] using h d (by simp [optL])
   funext t
   simp only [updT, upd]
   by_cases h1 : t = d
   ·subst h1; simp [hne]
   ·simp [h1]

structure Apart (e f : Ent) : Prop where
 d1 : ∀ t, t ∈ optL e.x.dst → t ∉ keys f.rt
 d2 : ∀ t, t ∈ optL e.x.dst → t ∉ gL f.x.guard
 d3 : ∀ t, t ∈ optL e.x.dst → t ∉ optL f.x.dst
 d4 : ∀ t, t ∈ optL f.x.dst → t ∉ keys e.rt
 d5 : ∀ t, t ∈ optL f.x.dst → t ∉ gL e.x.guard
 h1 : ∀ i, i ∈ keys e.D.ws → i ∉ keys f.rh
 h2 : ∀ i, i ∈ keys e.D.ws → i ∉ f.D.al
 h3 : ∀ i, i ∈ keys e.D.ws → i ∉ keys f.D.ws
 h4 : ∀ i, i ∈ keys f.D.ws → i ∉ keys e.rh
 h5 : ∀ i, i ∈ keys f.D.ws → i ∉ e.D.al

theorem apartE_ok {e f : Ent} (h : apartE e f = true) : Apart e f := by
 simp only [apartE, Bool.and_eq_true] at h
 obtain ⟨h1, h2, h3, h4⟩ := h
 have a1 := noneIn_ok h1
 have a2 := noneIn_ok h2
 have a3 := noneIn_ok h3
 have a4 := noneIn_ok h4
 simp only [List.mem_append, not_or] at a1 a2 a3 a4
 exact ⟨fun t h => (a1 t h).1, fun t h => (a1 t h).2.1, fun t h => (a1 t h).2.2, fun t h => (a2 t h).1, fun t h => (a2 t h).2, fun t h => (a3 t h).1, fun t h => (a3 t h).2.1, fun t h => (a3 t h).2.2, fun t h => (a4 t h).1, fun t h => (a4 t h).2⟩

def effT (e : Ent) (T : Nat → Option AV) : Nat → Option AV := updT T e.x.dst e.D.v
def effH (e : Ent) (H : Nat → Option HO) : Nat → Option HO := updL H e.D.ws

theorem En.later {e f : Ent} {T : Nat → Option AV} {H : Nat → Option HO} (ha : Apart e f) (he : En e T H) : En e (effT f T) (effH f H) :=
 ⟨fun t v h => by rw [effT, updT_other (fun hm => ha.d4 t hm (keys_of_aget h))]; exact he.rt t v h,
  fun t want v hg hv => by rw [effT, updT_other (fun hm => ha.d5 t hm (by rw [hg]; simp [gL]))]; exact he.gv t want v hg hv,
  fun i o h => by rw [effH, updL_other (fun hm => ha.h4 i hm (keys_of_aget h))]; exact he.rh i o h,
  fun i h => by rw [effH, updL_other (fun hm => ha.h5 i hm h)]; exact he.al i h⟩
theorem En.earlier {e f : Ent} {T : Nat → Option AV} {H : Nat → Option HO} (ha : Apart e f) (hf : En f (effT e T) (effH e H)) : En f T H :=
 ⟨fun t v h => by have := hf.rt t v h; rwa [effT, updT_other (fun hm => ha.d1 t hm (keys_of_aget h))] at this,
  fun t want v hg hv => by have := hf.gv t want v hg hv; rwa [effT, updT_other (fun hm => ha.d2 t hm (by rw [hg]; simp [gL]))] at this,
  fun i o h => by have := hf.rh i o h; rwa [effH, updL_other (fun hm => ha.h1 i hm (keys_of_aget h))] at this,
  fun i h => by have := hf.al i h; rwa [effH, updL_other (fun hm => ha.h2 i hm h)] at this⟩
theorem eff_comm {e f : Ent} {T : Nat → Option AV} {H : Nat → Option HO} (ha : Apart e f) : effT f (effT e T) = effT e (effT f T) ∧ effH f (effH e H) = effH e (effH f H) :=
 ⟨updT_comm ha.d3, updL_comm ha.h3⟩

def Chain (TF : Nat → Option AV) (HF : Nat → Option HO) : List (Nat × Ent) → (Nat → Option AV) → (Nat → Option HO) → Prop
 | [], T, H => T = TF ∧ H = HF
 | (_, e) :: r, T, H => En e T H ∧ Chain TF HF r (effT e T) (effH e H)

theorem Chain.pull {TF : Nat → Option AV} {HF : Nat → Option HO} {i : Nat} {f : Ent} {post : List (Nat × Ent)} : ∀ {pre : List (Nat × Ent)} {T : Nat → Option AV} {H : Nat → Option HO}, (∀ p ∈ pre, Apart p.2 f) → Chain TF HF (pre ++ (i, f) :: post) T H →
  En f T H ∧ Chain TF HF (pre ++ post) (effT f T) (effH f H)
 | [], T, H, _, h => h
 | (j, e) :: pre, T, H, ha, h => by
  have hae := ha (j, e) (by simp)
  obtain ⟨h1, h2⟩ := h
  obtain ⟨h3, h4⟩ := Chain.pull (fun p hp => ha p (by simp [hp])) h2
  obtain ⟨c1, c2⟩ := eff_comm (T := T) (H := H) hae
  rw [c1, c2] at h4
  exact ⟨h3.earlier hae, h1.later hae, h4⟩

def depOf (o : Oper) : List Nat := (o.after.toList.filter (Region.binds .any)).map (·.on)
def dpOf (ops : Array Oper) (i : Nat) : List Nat := match ops[i]? with
 | some o => depOf o
 | none => []

def DC (dp : Nat → List Nat) (listed : Array Bool) : Prop := ∀ j, listed.getD j false = true → ∀ k, k ∈ dp j → listed.getD k false = true
def AncOk (dp an : Nat → List Nat) : Prop := ∀ j i, i ∈ an j → ∀ listed, DC dp listed → (∀ k, k ∈ dp j → listed.getD k false = true) → listed.getD i false = true

def Pairs (dp an : Nat → List Nat) : List (Nat × Ent) → Prop
 | [] => True
 | (i, e) :: r => i ∉ dp i ∧ i ∉ keys r ∧ (∀ p ∈ r, p.1 ∉ dp i ∧ (i ∈ an p.1 ∨ Apart e p.2)) ∧ Pairs dp an r

theorem keys_app {α : Type} : ∀ {a b : List (Nat × α)}, keys (a ++ b) = keys a ++ keys b
 | [], b => rfl
 | (k, _) :: r, b => by simp [keys, keys_app (a := r)]
theorem mem_keys {α : Type} {k : Nat} : ∀ {l : List (Nat × α)}, k ∈ keys l → ∃ e, (k, e) ∈ l
 | [], h => by simp [keys] at h
 | (j, u) :: r, h => by
  simp only [keys, List.mem_cons] at h
  rcases h with rfl | h
  ·exact ⟨u, by simp⟩
  ·obtain ⟨e, he⟩ := mem_keys h; exact ⟨e, by simp [he]⟩
theorem keys_mem {α : Type} {k : Nat} {e : α} : ∀ {l : List (Nat × α)}, (k, e) ∈ l → k ∈ keys l
 | [], h => by simp at h
 | (j, u) :: r, h => by
  simp only [keys, List.mem_cons]
  rcases List.mem_cons.1 h with h | h
  ·cases h; exact .inl rfl
  ·exact .inr (keys_mem h)

theorem Pairs.split {dp an : Nat → List Nat} {i : Nat} {f : Ent} {post : List (Nat × Ent)} : ∀ {pre : List (Nat × Ent)}, Pairs dp an (pre ++ (i, f) :: post) →
  (∀ p ∈ pre, p.1 ∈ an i ∨ Apart p.2 f) ∧ Pairs dp an (pre ++ post) ∧ i ∉ keys (pre ++ post)
 | [], h => ⟨fun p hp => by simp at hp, h.2.2.2, h.2.1⟩
 | (j, e) :: pre, h => by
  have h : Pairs dp an ((j, e) :: (pre ++ (i, f) :: post)) := h
  obtain ⟨h1, h2, h3, h4⟩ := h
  obtain ⟨g1, g2, g3⟩ := Pairs.split h4
  have H2 : j ∉ keys (pre ++ post) := by
   intro hm
   refine h2 ?_
   rw [keys_app] at hm ⊢
   simp only [List.mem_append, keys, List.mem_cons] at hm ⊢
   rcases hm with hm | hm
   ·exact .inl hm
   ·exact .inr (.inr hm)
  have H3 : ∀ p, p ∈ pre ++ post → p.1 ∉ dp j ∧ (j ∈ an p.1 ∨ Apart e p.2) := fun p hp => h3 p (by
   simp only [List.mem_append, List.mem_cons] at hp ⊢
   rcases hp with hp | hp
   ·exact .inl hp
   ·exact .inr (.inr hp))
  have H4 : i ∉ keys ((j, e) :: (pre ++ post)) := by
   simp only [keys, List.mem_cons, not_or]
   refine ⟨fun e' => ?_, g3⟩
   subst e'
   refine h2 ?_
   rw [keys_app]
   simp [keys]
  refine ⟨fun p hp => ?_, ⟨h1, H2, H3, g2⟩, H4⟩
  rcases List.mem_cons.1 hp with rfl | hp
  ·exact (h3 (i, f) (by simp)).2
  ·exact g1 p hp

def EntOk (P : Program) (G : GL) (ops : Array Oper) (n : Nat) (p : Nat × Ent) : Prop :=
 ∃ o, ops[p.1]? = some o ∧ compXO P ops o = some p.2.x ∧ runG G p.2.s (aget p.2.rh) p.2.x p.2.g p.2.d p.2.gv p.2.rt = some p.2.D ∧ (∀ t, p.2.x.dst = some t → t < n) ∧ AllC (SpecQ P G) p.2.D.cs

theorem xo_dst {o : Oper} {x : XO} (h : compXO P ops o = some x) : x.dst = o.dst := by
 unfold compXO at h
 split at h
 ·cases h; rfl
 ·cases h

theorem getD_set_self {listed : Array Bool} {i : Nat} (d : Bool) (h : i < listed.size) : (listed.setIfInBounds i true).getD i d = true := by
 simp [h]

theorem any_sound {an : Nat → List Nat} (han : AncOk (dpOf ops) an) (hdl : ∀ i k, k ∈ dpOf ops i → k < ops.size) {TF : Nat → Option AV} {HF : Nat → Option HO} {n : Nat} : ∀ (fuel : Nat) (listed : Array Bool) (rem : List (Nat × Ent)) (F : Nat → Prop) (ρ : Nat → Option Nat) (T : Nat → Option AV) (H : Nat → Option HO) (a : Act) (w : World),
  rem.length = fuel → Pairs (dpOf ops) an rem → listed.size = ops.size → (∀ i, listed.getD i true = false ↔ i ∈ keys rem) → (∀ p, p ∈ rem → EntOk P G ops n p) → DC (dpOf ops) listed → Chain TF HF rem T H → RSf G F ρ T H n a w →
  (∀ a' w' F' ρ', RSf G F' ρ' TF HF n a' w' → Ext G F ρ w F' ρ' w' → HKeep w ρ H w' ρ' HF → a'.defers = a.defers → R a' w') → wpAnyR P ops R fuel listed a w := by
 intro fuel
 induction fuel with
 | zero =>
  intro listed rem F ρ T H a w hlen hp hsz hun hok hdc hch hr hQ
  have : rem = [] := by simpa using hlen
  subst this
  refine ⟨?_, ?_⟩
  ·cases e : Region.ready .any ops listed with
   | nil => rfl
   | cons j r =>
    have hj : j ∈ Region.ready .any ops listed := by rw [e]; simp
    have := (mem_ready.1 hj).1
    rw [hun] at this; simp [keys] at this
  ·obtain ⟨h1, h2⟩ := hch
   subst h1; subst h2
   exact hQ a w F ρ hr (Ext.refl _ _ _) (HKeep.refl _ _ _) rfl
 | succ fuel ih =>
  intro listed rem F ρ T H a w hlen hp hsz hun hok hdc hch hr hQ
  refine ⟨fun hnil => ?_, fun i hi => ?_⟩
  ·-- the first of what remains is ready
   exfalso
   cases rem with
   | nil => simp at hlen
   | cons p r =>
    obtain ⟨i, e⟩ := p
    obtain ⟨h1, h2, h3, h4⟩ := hp
    obtain ⟨o, ho, _⟩ := hok (i, e) (by simp)
    have hready : i ∈ Region.ready .any ops listed := by
     refine mem_ready.2 ⟨(hun i).2 (by simp [keys]), o, ho, fun ed hed hb => ?_⟩
     have hmem : ed.on ∈ dpOf ops i := by
      simp only [dpOf, ho, depOf, List.mem_map, List.mem_filter]
      exact ⟨ed, ⟨by simpa using hed, hb⟩, rfl⟩
     have hnot : ed.on ∉ keys ((i, e) :: r) := by
      simp only [keys, List.mem_cons, not_or]
      refine ⟨fun e' => h1 (e' ▸ hmem), fun hm => ?_⟩
      obtain ⟨f, hf⟩ := mem_keys hm
      exact (h3 _ hf).1 hmem
     have hnf : ¬ listed.getD ed.on true = false := fun h => hnot ((hun _).1 h)
     by_cases hlt : ed.on < listed.size
     ·simp only [Array.getD, hlt, dite_true] at hnf ⊢
      simpa using hnf
     ·have := hdl i _ hmem; omega
    rw [hnil] at hready; cases hready
  ·obtain ⟨h0, o, ho, hall⟩ := mem_ready.1 hi
   have him := (hun i).1 h0
   obtain ⟨f, hf⟩ := mem_keys him
   obtain ⟨pre, post, rfl⟩ := List.append_of_mem hf
   obtain ⟨g1, g2, g3⟩ := hp.split
   have hpl : ∀ k, k ∈ dpOf ops i → listed.getD k false = true := fun k hk => by
    simp only [dpOf, ho, depOf, List.mem_map, List.mem_filter] at hk
    obtain ⟨ed, ⟨h1, h2⟩, rfl⟩ := hk
    exact hall ed (by simpa using h1) h2
   have hap : ∀ p ∈ pre, Apart p.2 f := fun p hp => by
    rcases g1 p hp with h | h
    ·exfalso
     have h5 := han i p.1 h listed hdc hpl
     have h6 : listed.getD p.1 true = false := (hun p.1).2 (keys_mem (l := pre ++ (i, f) :: post) (e := p.2) (by simp [hp]))
     simp only [Array.getD_eq_getD_getElem?] at h5 h6
     cases e : listed[p.1]? with
     | none => rw [e] at h5; cases h5
     | some b => rw [e] at h5 h6; simp at h5 h6; rw [h5] at h6; cases h6
    ·exact h
   obtain ⟨c1, c2⟩ := Chain.pull hap hch
   obtain ⟨o', ho', hx, hD, hdst, hcs⟩ := hok (i, f) (by simp)
   rw [ho] at ho'; cases ho'
   have hilt : i < listed.size := by
    rw [hsz]; exact (Array.getElem?_eq_some_iff.1 ho).1
   refine one_sound (T := T) ho hx hr c1.rt c1.gv c1.rh hD hdst c1.al hcs ?_
   intro y w' F' ρ' hr' hx' hk'
   refine ih (listed.setIfInBounds i true) (pre ++ post) F' ρ' (effT f T) (effH f H) _ w' ?_ g2 (by simpa using hsz) (fun j => ?_) (fun p hp => hok p ?_) ?_ c2 hr' (fun a' w'' F'' ρ'' q1 q2 q3 q4 => hQ a' w'' F'' ρ'' q1 (hx'.trans q2) (hk'.trans q3) (q4.trans (put_defers' _ _ _)))
   ·simp at hlen ⊢; omega
   ·by_cases e : i = j
    ·subst e
     rw [getD_set_self true hilt]
     exact ⟨fun h => by simp at h, fun h => absurd h g3⟩
    ·rw [getD_set_ne true e, hun j]
     rw [keys_app, keys_app]
     simp only [keys, List.mem_append, List.mem_cons]
     exact ⟨fun h => by rcases h with h | h | h; exact .inl h; exact absurd h.symm e; exact .inr h, fun h => by rcases h with h | h; exact .inl h; exact .inr (.inr h)⟩
   ·simp only [List.mem_append, List.mem_cons] at hp ⊢
    rcases hp with hp | hp
    ·exact .inl hp
    ·exact .inr (.inr hp)
   ·intro j hj k hk
    by_cases e : i = j
    ·subst e; exact getD_set_true (hpl k hk)
    ·rw [getD_set_ne false e] at hj
     exact getD_set_true (hdc j hj k hk)

end
end Go.Ab
