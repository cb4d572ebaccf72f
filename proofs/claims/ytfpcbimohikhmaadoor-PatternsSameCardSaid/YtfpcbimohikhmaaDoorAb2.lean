/- An abstract reading of the program: what its operations do to what is known of memory. Part 2 of 7. -/
import Derived.Test.YtfpcbimohikhmaaDoorAb1
import Derived.Calls

/-
 Strings cut, tuples, literals, function values, nil tests, extremes, comparison of structs and arrays.
-/
set_option linter.unusedVariables false
set_option linter.unusedSimpArgs false
namespace Go.Ab
open Go
section
variable {P : Program} {F : Nat → Prop} {ρ : Nat → Option Nat} {H : Nat → Option HO} {w : World} {look : Nat → Option HO}
 {Sp : SpT} {D : Delta}

theorem run_sliceBound (k : IntKind) (i : Int) (y : Nat) (c : BoundsCode) (h0 : 0 ≤ i) (h1 : i ≤ y) : (Instr.sliceBound (.int k i) y c).run P w = .ok i.toNat w := by
 simp [Instr.sliceBound, run_asIntOf, h0, h1]

theorem extract_toList (s : ByteArray) (a b : Nat) : (s.extract a b).data.toList = (s.data.toList.drop a).take (b - a) := by
 rw [ByteArray.data_extract, Array.toList_extract, List.extract_eq_take_drop]

theorem opSlices_sound {lo hi : Bool} {v : AV} {bs : List AV} {x : Value} {xs : List Value} {t : TypeId} (ht : P.underlying t = some .string) (hx : RelV w F ρ H v x) (hb : RelVs w F ρ H bs xs)
  (hlen : bs.length = (if lo then 1 else 0) + (if hi then 1 else 0))
  (hD : opSlices lo hi v bs = some D) (hcs : AllC Sp D.cs) :
  Gives F ρ H w ((Instr.slice t x (if lo then xs[0]? else none) (if hi then (if lo then xs[1]? else xs[0]?) else none) none).run P w) D := by
 unfold opSlices at hD
 split at hD
 ·rename_i l
  obtain ⟨s, rfl, hs⟩ := hx.strs
  have hsz : s.size = l.length := by rw [← hs]; exact (Array.length_toList).symm
  have hnone : ∀ a b, (Instr.slice t (.string s) a b none).run P w = ((Instr.sliceBounds false s.size s.size a b none).run P w).andThen fun x w' => .ok (.string (s.extract x.1 x.2.1)) w' := fun a b => by
   simp [Instr.slice, run_underlying' ht]
  split at hD
  ·-- low alone
   cases bs with
   | nil => simp at hlen
   | cons b bs =>
    cases bs with
    | cons => simp at hlen
    | nil =>
     cases hb with
     | cons _ _ y _ hb1 hbs =>
      cases hbs
      split at hD
      ·rename_i k i hx1
       have hx1 : b = .int k i := by simpa [x1] using hx1
       subst hx1
       have := hb1.ints; subst this
       have h3 := val_cs hD; rw [h3] at hcs
       obtain ⟨g0, g1, _⟩ := hcs
       have g0 : 0 ≤ i := by simpa [Cd.holds, leb] using g0
       have g1 : i.toNat ≤ l.length := by simpa [Cd.holds, len'] using g1
       have hrun : (Instr.slice t (.string s) (some (.int k i)) none none).run P w = .ok (.string (s.extract i.toNat s.size)) w := by
        rw [hnone]
        simp [Instr.sliceBounds, run_sliceBound k i s.size _ g0 (by omega)]
       refine Gives.val hD (by simpa using hrun) (relStr _ _ ?_)
       rw [extract_toList, hs, hsz]
       exact List.take_of_length_le (by simp)
      ·cases hD
  ·cases bs with
   | nil => simp at hlen
   | cons b bs =>
    cases bs with
    | cons => simp at hlen
    | nil =>
     cases hb with
     | cons _ _ y _ hb1 hbs =>
      cases hbs
      split at hD
      ·rename_i k i hx1
       have hx1 : b = .int k i := by simpa [x1] using hx1
       subst hx1
       have := hb1.ints; subst this
       have h3 := val_cs hD; rw [h3] at hcs
       obtain ⟨g0, g1, _⟩ := hcs
       have g0 : 0 ≤ i := by simpa [Cd.holds, leb] using g0
       have g1 : i.toNat ≤ l.length := by simpa [Cd.holds, len'] using g1
       have hrun : (Instr.slice t (.string s) none (some (.int k i)) none).run P w = .ok (.string (s.extract 0 i.toNat)) w := by
        rw [hnone]
        simp [Instr.sliceBounds, run_sliceBound k i s.size _ g0 (by omega)]
       refine Gives.val hD (by simpa using hrun) (relStr _ _ ?_)
       rw [extract_toList, hs]; simp
      ·cases hD
  ·cases bs with
   | nil => simp at hlen
   | cons b bs =>
    cases bs with
    | nil => simp at hlen
    | cons b' bs =>
     cases bs with
     | cons => simp at hlen
     | nil =>
      cases hb with
      | cons _ _ y _ hb1 hbs =>
       cases hbs with
       | cons _ _ y' _ hb2 hbs =>
        cases hbs
        split at hD
        ·rename_i k i k' j hx1 hx2
         have hx1 : b = .int k i := by simpa [x1] using hx1
         have hx2 : b' = .int k' j := by simpa [x2] using hx2
         subst hx1 hx2
         have := hb1.ints; subst this
         have := hb2.ints; subst this
         have h3 := val_cs hD; rw [h3] at hcs
         obtain ⟨g0, g1, g2, _⟩ := hcs
         have g0 : 0 ≤ i := by simpa [Cd.holds, leb] using g0
         have g1 : i ≤ j := by simpa [Cd.holds, leb] using g1
         have g2 : j.toNat ≤ l.length := by simpa [Cd.holds, len'] using g2
         have hrun : (Instr.slice t (.string s) (some (.int k i)) (some (.int k' j)) none).run P w = .ok (.string (s.extract i.toNat j.toNat)) w := by
          rw [hnone]
          simp [Instr.sliceBounds, run_sliceBound k' j s.size _ (by omega) (by omega), run_sliceBound k i j.toNat _ g0 (by omega)]
         refine Gives.val hD (by simpa using hrun) (relStr _ _ ?_)
         rw [extract_toList, hs]
        ·cases hD
  ·cases hD
 ·cases hD

theorem opExt_sound {i : Nat} {v : AV} {x : Value} (hx : RelV w F ρ H v x) (hD : opExt i v = some D) (hcs : AllC Sp D.cs) : Gives F ρ H w ((Instr.extract x i).run P w) D := by
 unfold opExt at hD
 split at hD
 ·rename_i l
  obtain ⟨xs, rfl, hs⟩ := hx.tups
  have hlt : i < l.length := by have := val_cs hD; rw [this] at hcs; simpa [AllC, Cd.holds, ltn] using hcs
  obtain ⟨y, h1, h2⟩ := hs.getD hlt
  exact Gives.val hD (by simp [Instr.extract, h1]) h2
 ·cases hD

/-! ### Literals -/

theorem RelVs.set : ∀ {l : List AV} {xs : List Value} {v : AV} {x : Value} (i : Nat), RelVs w F ρ H l xs → RelV w F ρ H v x → RelVs w F ρ H (l.set i v) (xs.set i x)
 | _, _, _, _, _, .nil, _ => .nil
 | _, _, _, _, 0, .cons _ _ _ _ _ hs, hv => .cons _ _ _ _ hv hs
 | _, _, _, _, i + 1, .cons _ _ _ _ h hs, hv => .cons _ _ _ _ h (hs.set i hv)

theorem setAll_rel : ∀ {vs : List AV} {ys : List Value} {l : List AV} {xs : Array Value} (off j : Nat), RelVs w F ρ H l xs.toList → RelVs w F ρ H vs ys →
  RelVs w F ρ H (setAll l (off + j) vs) ((ys.zipIdx j).foldl (fun cs (c, j) => cs.setIfInBounds (off + j) c) xs).toList
 | _, _, _, _, _, _, h, .nil => h
 | _, _, l, xs, off, j, h, .cons v vs y ys hv hs => by
  simp only [List.zipIdx_cons, List.foldl_cons, setAll]
  have h1 : RelVs w F ρ H (l.set (off + j) v) (xs.setIfInBounds (off + j) y).toList := by
   rw [Array.toList_setIfInBounds]; exact h.set _ hv
  have := setAll_rel off (j + 1) h1 hs
  rw [← Nat.add_assoc] at this
  exact this

theorem plain_inv {v : AV} (h : v.plain = true) : (∀ b u, v ≠ .may b u) ∧ v ≠ .undef := by
 refine ⟨fun b u e => ?_, fun e => ?_⟩ <;> subst e <;> simp [AV.plain] at h

theorem fill_rel : ∀ {ps : List (Nat × Nat)} {vs : List AV} {ys : List Value} {z l : List AV} {zs : Array Value} {place : Nat → Option (Nat × Nat)} {ixs : List Nat},
  ixs.map place = ps.map some → RelVs w F ρ H vs ys → RelVs w F ρ H z zs.toList → fillL z ps vs = some l →
  ∃ cs, Instr.fill place zs (ixs.zip ys) = some cs ∧ RelVs w F ρ H l cs.toList
 | [], vs, ys, z, l, zs, place, ixs, hp, hv, hz, hf => by
  cases vs with
  | nil =>
   cases hv
   cases hf
   have : ixs = [] := by simpa using hp
   subst this
   exact ⟨zs, rfl, hz⟩
  | cons => cases hf
 | (off, size) :: ps, vs, ys, z, l, zs, place, ixs, hp, hv, hz, hf => by
  cases vs with
  | nil => cases hf
  | cons v vs =>
   cases hv with
   | cons _ _ y ys hv hs =>
    cases ixs with
    | nil => simp at hp
    | cons ix ixs =>
     simp only [List.map_cons, List.cons.injEq] at hp
     obtain ⟨hp1, hp2⟩ := hp
     simp only [fillL, cond_eq_ite] at hf
     split at hf
     ·rename_i hc
      simp only [Bool.and_eq_true] at hc
      obtain ⟨c1, c2, c3⟩ := hc
      have c2 : v.cs.length = size := Nat.eq_of_beq_eq_true c2
      have c3 : off + size ≤ z.length := by simpa [len'] using c3
      obtain ⟨hm, hu⟩ := plain_inv c1
      have hcs := hv.csOf hm hu
      have hyl : y.cells.size = size := by have := hcs.len; simp at this; omega
      have hzl : zs.size = z.length := by have := hz.len; simpa using this.symm
      have h1 : RelVs w F ρ H (setAll z off v.cs) (y.cells.zipIdx.foldl (fun cs (c, j) => cs.setIfInBounds (off + j) c) zs).toList := by
       have := setAll_rel off 0 hz hcs
       rw [← Array.foldl_toList, Array.toList_zipIdx]
       exact this
      obtain ⟨cs, g1, g2⟩ := fill_rel hp2 hs h1 hf
      refine ⟨cs, ?_, g2⟩
      simp only [List.zip_cons_cons, Instr.fill, hp1]
      rw [if_neg (by simp [hyl]; omega)]
      exact g1
     ·cases hf

/-! ### Nil tests -/

theorem opIsnil_sound (hl : ∀ id o, look id = some o → H id = some o) {neq : Bool} {kd : Nat} {v : AV} {x : Value} (hx : RelV w F ρ H v x) (hD : opIsnil look neq kd v = some D) (hcs : AllC Sp D.cs) :
  ∃ b, D.v = .bool (negIf neq b) ∧ D.ws = [] ∧ D.al = [] ∧ ((kd = 0 ∧ ∃ a l c, x = .slice a l c ∧ b = a.isNone) ∨ (kd = 1 ∧ ((x = .nilFunc ∧ b = true) ∨ ∃ f a c, x = .func f a c ∧ b = false)) ∨
   (kd ≠ 0 ∧ kd ≠ 1 ∧ ∃ a, x = .pointer a ∧ b = a.isNone)) := by
 unfold opIsnil at hD
 split at hD
 ·split at hD
  ·rename_i id len
   split at hD
   ·rename_i k0 hk
    have hH := hl _ _ hk
    split at hD
    ·rename_i nil hnil
     cases hx with
     | imm _ _ hi => cases hi
     | full _ _ k1 _ hh hle hp hxx =>
      rw [hH] at hh; cases hh
      have h3 := val_cs hD; rw [h3] at hcs
      cases hD
      refine ⟨_, rfl, rfl, rfl, .inl ⟨rfl, ?_⟩⟩
      rcases hxx hcs.1 with ⟨rfl, h2, _, rfl⟩ | ⟨rfl, h2, _, a, rfl⟩ | ⟨h2, b, cap, cs, ty, fz, p1, p2, rfl, p3, p4, p5⟩
      ·rw [hnil] at h2
       cases nil
       ·exact absurd rfl h2
       ·exact ⟨_, _, _, rfl, rfl⟩
      ·rw [hnil] at h2
       cases nil
       ·exact ⟨_, _, _, rfl, rfl⟩
       ·exact absurd rfl h2
      ·refine ⟨_, _, _, rfl, ?_⟩
       cases nil
       ·rfl
       ·have := h2 hnil
        simp only [Bool.true_and]
        exact beq_ne (by omega)
    ·cases hD
   ·cases hD
  ·cases hD; cases hx with | imm _ _ hi => cases hi; exact ⟨_, rfl, rfl, rfl, .inl ⟨rfl, _, _, _, rfl, rfl⟩⟩
  ·have h3 := val_cs hD; rw [h3] at hcs
   cases hD
   cases hx with
   | imm _ _ hi =>
    cases hi with
    | imm => exact ⟨_, rfl, rfl, rfl, .inl ⟨rfl, _, _, _, rfl, rfl⟩⟩
    | imm0 => have := hcs.1; simp [Cd.holds, ltn] at this
  ·cases hD
   cases hx with
   | imm _ _ hi => cases hi
   | sl => exact ⟨_, rfl, rfl, rfl, .inl ⟨rfl, _, _, _, rfl, rfl⟩⟩
  ·cases hD
   cases hx with
   | imm _ _ hi => cases hi with | nn => exact ⟨_, rfl, rfl, rfl, .inl ⟨rfl, _, _, _, rfl, rfl⟩⟩
  ·cases hD
 ·split at hD
  ·cases hD; cases hx with | imm _ _ hi => cases hi; exact ⟨_, rfl, rfl, rfl, .inr (.inl ⟨rfl, .inl ⟨rfl, rfl⟩⟩)⟩
  ·cases hD; obtain ⟨xs, ys, rfl, _⟩ := hx.fns; exact ⟨_, rfl, rfl, rfl, .inr (.inl ⟨rfl, .inr ⟨_, _, _, rfl, rfl⟩⟩)⟩
  ·cases hD
   cases hx with
   | imm _ _ hi => cases hi
   | yld => exact ⟨_, rfl, rfl, rfl, .inr (.inl ⟨rfl, .inr ⟨_, _, _, rfl, rfl⟩⟩)⟩
  ·cases hD
 ·rename_i h0 h1
  split at hD
  ·cases hD; cases hx with | imm _ _ hi => cases hi; exact ⟨_, rfl, rfl, rfl, .inr (.inr ⟨h0, h1, _, rfl, rfl⟩)⟩
  ·cases hD
   cases hx with
   | imm _ _ hi => cases hi
   | ptr => exact ⟨_, rfl, rfl, rfl, .inr (.inr ⟨h0, h1, _, rfl, rfl⟩)⟩
  ·cases hD
   cases hx with
   | imm _ _ hi => cases hi with | iptr => exact ⟨_, rfl, rfl, rfl, .inr (.inr ⟨h0, h1, _, rfl, rfl⟩)⟩
  ·cases hD

/-! ### Extremes -/

theorem mmG_sound (max : Bool) : ∀ {vs : List AV} {xs : List Value} {k : IntKind} {n : Int} {v : AV}, RelVs w F ρ H vs xs → mmF.mmG max k n vs = some v →
  ∃ x, ((xs.foldlM (if max then Builtin.max2 else Builtin.min2) (Value.int k n) : Sem Value)).run P w = .ok x w ∧ RelV w F ρ H v x
 | _, _, k, n, v, .nil, h => by
  simp only [mmF.mmG] at h; cases h
  exact ⟨_, rfl, relInt _ _⟩
 | _, _, k, n, v, .cons u us y ys hv hs, h => by
  cases u <;> simp only [mmF.mmG, reduceCtorEq] at h
  case int k' m =>
   simp only [cond_eq_ite] at h
   split at h
   ·rename_i hk
    have hk : k = k' := by simpa [beqK] using hk
    subst hk
    have := hv.ints; subst this
    obtain ⟨x, h1, h2⟩ := mmG_sound max hs h
    refine ⟨x, ?_, h2⟩
    rw [← h1]
    cases max
    ·simp [Builtin.min2]
    ·simp [Builtin.max2]
   ·cases h

theorem mmF_sound {max : Bool} {vs : List AV} {xs : Array Value} {v : AV} {tys : Array TypeId} {ty : TypeId} (hs : RelVs w F ρ H vs xs.toList) (h : mmF max vs = some v) :
  ∃ x, ((if max then Builtin.max_ else Builtin.min_) tys ty xs).run P w = .ok x w ∧ RelV w F ρ H v x := by
 unfold mmF at h
 split at h
 ·cases h
 ·rename_i k n r
  generalize hl : xs.toList = l at hs
  cases hs with
  | cons _ _ y ys hv hr =>
   have := hv.ints; subst this
   obtain ⟨x, h1, h2⟩ := mmG_sound (P := P) max hr h
   refine ⟨x, ?_, h2⟩
   rw [← h1]
   cases max
   ·simp only [Bool.false_eq_true, if_false, Builtin.min_, hl]
   ·simp only [if_true, Builtin.max_, hl]
 ·cases h

/-! ### Comparison, leaf by leaf -/

def aggD : TypeDesc → Bool
 | .struct _ => true
 | .array _ _ => true
 | _ => false
def fieldsT (P : Program) (g : TypeId → Nat → Option (List (Nat × Nat))) (size off : Nat) : List Field → Option (List (Nat × Nat))
 | [] => some []
 | f :: r => cond (f.name == "_") (fieldsT P g size off r) (match P.info? f.type with
  | some i => cond (len' (f.offset + i.size) size) (match g f.type (off + f.offset), fieldsT P g size off r with
   | some a, some b => some (a ++ b)
   | _, _ => none) none
  | none => none)
def elemsT (g : TypeId → Nat → Option (List (Nat × Nat))) (e : TypeId) (sz off : Nat) : List Nat → Option (List (Nat × Nat))
 | [] => some []
 | i :: r => match g e (off + i * sz), elemsT g e sz off r with
  | some a, some b => some (a ++ b)
  | _, _ => none
def leavesT (P : Program) : Nat → TypeId → Nat → Option (List (Nat × Nat))
 | 0, _, _ => none
 | d + 1, t, off =>
  match P.underlying t, P.info? t with
  | some (.int _), some i => cond (Nat.beq i.size 1) (some [(off, 0)]) none
  | some .bool, some i => cond (Nat.beq i.size 1) (some [(off, 1)]) none
  | some .string, some i => cond (Nat.beq i.size 1) (some [(off, 2)]) none
  | some (.struct fs), some i => cond (P.stoodInHeld t) none (fieldsT P (leavesT P d) i.size off fs.toList)
  | some (.array n e), some i => match P.info? e with
   | some ie => cond (Nat.beq i.size (n * ie.size)) (elemsT (leavesT P d) e ie.size off (List.range n)) none
   | none => none
  | _, _ => none

theorem eqLeaves_cons {i kd : Nat} {r : List (Nat × Nat)} {xs ys : List AV} {b : Bool} (h : eqLeaves ((i, kd) :: r) xs ys = some b) :
  ∃ a c, eqLeaf kd (xs.getD i .undef) (ys.getD i .undef) = some a ∧ eqLeaves r xs ys = some c ∧ b = (a && c) := by
 cases r with
 | nil => exact ⟨b, true, h, rfl, by simp⟩
 | cons j r =>
  simp only [eqLeaves] at h
  split at h
  ·rename_i a c h1 h2
   cases h
   exact ⟨a, c, h1, h2, rfl⟩
  ·cases h
theorem eqLeaves_app : ∀ {l r : List (Nat × Nat)} {xs ys : List AV} {b : Bool}, eqLeaves (l ++ r) xs ys = some b → ∃ a c, eqLeaves l xs ys = some a ∧ eqLeaves r xs ys = some c ∧ b = (a && c)
 | [], r, xs, ys, b, h => ⟨true, b, rfl, h, by simp⟩
 | (i, kd) :: l, r, xs, ys, b, h => by
  obtain ⟨a, c, h1, h2, rfl⟩ := eqLeaves_cons h
  obtain ⟨a', c', h3, h4, rfl⟩ := eqLeaves_app h2
  refine ⟨a && a', c', ?_, h4, by rw [Bool.and_assoc]⟩
  cases l with
  | nil =>
   cases h3
   simpa [eqLeaves] using h1
  | cons j l =>
   obtain ⟨j, kj⟩ := j
   simp only [eqLeaves, h1]
   rw [h3]

def PartOf (P : Program) (t : TypeId) (xs : Array Value) (off : Nat) (X : Value) : Prop :=
 match P.underlying t with
 | some (.struct _) | some (.array _ _) => ∃ i, P.info? t = some i ∧ off + i.size ≤ xs.size ∧ X = .agg (xs.extract off (off + i.size))
 | _ => xs[off]? = some X

theorem run_equalIn_leaf (d : Nat) {t : TypeId} {u v : AV} {x y : Value} {b : Bool} {kd : Nat} (hx : RelV w F ρ H u x) (hy : RelV w F ρ H v y) (h : eqLeaf kd u v = some b)
  (hty : (kd = 0 ∧ ∃ k, P.underlying t = some (.int k)) ∨ (kd = 1 ∧ P.underlying t = some .bool) ∨ (kd = 2 ∧ P.underlying t = some .string)) :
  (Op.equalIn (d + 1) t x y).run P w = .ok b w := by
 rcases hty with ⟨rfl, k0, h0⟩ | ⟨rfl, h0⟩ | ⟨rfl, h0⟩ <;> simp only [eqLeaf] at h
 ·split at h
  ·rename_i k a k' c
   simp only [cond_eq_ite] at h
   split at h
   ·rename_i hk
    cases h
    have hk : k = k' := by simpa [beqK] using hk
    subst hk
    have := hx.ints; subst this
    have := hy.ints; subst this
    exact run_equalIn_int w d t k k0 a c h0
   ·cases h
  ·cases h
 ·split at h
  ·cases h
   have := hx.bools; subst this
   have := hy.bools; subst this
   exact run_equalIn_bool' w d t _ _ h0
  ·cases h
 ·split at h
  ·cases h
   obtain ⟨s, rfl, hs⟩ := hx.strs
   obtain ⟨r, rfl, hr⟩ := hy.strs
   rw [run_equalIn_string w d t s r h0, ByteArray.toList_eq, ByteArray.toList_eq, hs, hr]
  ·cases h

def Op.eqElems (d : Nat) (e : TypeId) (n : Nat) (xs ys : Array Value) : List Nat → Sem Bool
 | [] => pure true
 | i :: r => do
  let a ← part e xs (i * n)
  let b ← part e ys (i * n)
  let q ← Op.equalIn d e a b
  if (!q) = true then pure false else Op.eqElems d e n xs ys r

theorem run_equalIn_array (d : Nat) (t e : TypeId) (len : Nat) (ie : TypeInfo) (xs ys : Array Value) (ht : P.underlying t = some (.array len e)) (hi : P.info? e = some ie) :
  (Op.equalIn (d + 1) t (.agg xs) (.agg ys)).run P w = (Op.eqElems d e ie.size xs ys (List.range len)).run P w := by
 have h1 : ∀ (l : List Nat) (w : World), ((do
   for i in l do
    if !(← Op.equalIn d e (← part e xs (i * ie.size)) (← part e ys (i * ie.size))) then return false
   pure true : Sem Bool)).run P w = (Op.eqElems d e ie.size xs ys l).run P w := by
  intro l
  induction l with
  | nil => intro w; simp [Op.eqElems]
  | cons i l ih =>
   intro w
   simp only [List.forIn_cons, Op.eqElems, Sem.run_bind, Sem.run_ite]
   generalize (part e xs (i * ie.size)).run P w = r1
   cases r1 with
   | ok a w1 =>
    simp only [Result.andThen_ok]
    generalize (part e ys (i * ie.size)).run P w1 = r2
    cases r2 with
    | ok b w2 =>
     simp only [Result.andThen_ok]
     generalize (Op.equalIn d e a b).run P w2 = r3
     cases r3 with
     | ok r w3 =>
      cases r
      ·simp only [Result.andThen_ok, Bool.not_false, if_true, Sem.run_pure]
      ·simp only [Result.andThen_ok, Bool.not_true, Bool.false_eq_true, if_false, Sem.run_pure]
       have := ih w3
       simp only [Sem.run_bind] at this
       exact this
     | halt x w3 => simp [Result.andThen]
    | halt x w2 => simp [Result.andThen]
   | halt x w1 => simp [Result.andThen]
 rw [← h1]
 simp only [Op.equalIn, Sem.run_bind, run_underlying' ht, Result.andThen_ok, run_sizeOf' hi]
 rw [Std.Legacy.Range.forIn_eq_forIn_range']
 simp [List.range_eq_range']

theorem extract_extract' (xs : Array Value) (off n a m : Nat) (h : a + m ≤ n) (hn : off + n ≤ xs.size) : (xs.extract off (off + n)).extract a (a + m) = xs.extract (off + a) (off + a + m) := by
 rw [Array.extract_extract]
 congr 1
 omega

theorem run_part_of {t : TypeId} {i : TypeInfo} {d : TypeDesc} (hd : P.underlying t = some d) (hi : P.info? t = some i) {xs : Array Value} {off n a : Nat} (hn : off + n ≤ xs.size) (ha : a + i.size ≤ n)
  (h1 : aggD d = false → i.size = 1) :
  ∃ X, (part t (xs.extract off (off + n)) a).run P w = .ok X w ∧ PartOf P t xs (off + a) X := by
 by_cases hagg : aggD d = true
 ·refine ⟨.agg (xs.extract (off + a) (off + a + i.size)), ?_, ?_⟩
  ·have : (isAgg t).run P w = .ok true w := by
    simp only [isAgg, Sem.run_bind, run_underlying' hd, Result.andThen_ok]
    cases d <;> simp [aggD] at hagg <;> rfl
   simp only [part, Sem.run_bind, this, Result.andThen_ok, if_true, run_sizeOf' hi, Sem.run_pure]
   rw [extract_extract' xs off n a i.size ha hn]
  ·unfold PartOf
   rw [hd]
   cases d <;> simp [aggD] at hagg
   ·exact ⟨i, hi, by omega, rfl⟩
   ·exact ⟨i, hi, by omega, rfl⟩
 ·have hs : i.size = 1 := h1 (by simpa using hagg)
  have hlt : off + a < xs.size := by omega
  refine ⟨xs[off + a], ?_, ?_⟩
  ·have : (isAgg t).run P w = .ok false w := by
    simp only [isAgg, Sem.run_bind, run_underlying' hd, Result.andThen_ok]
    cases d <;> simp [aggD] at hagg <;> rfl
   have h2 : (xs.extract off (off + n))[a]? = some xs[off + a] := by
    rw [Array.getElem?_extract]
    rw [if_pos (by omega)]
    simp [hlt]
   simp only [part, Sem.run_bind, this, Result.andThen_ok, Bool.false_eq_true, if_false, h2, Sem.run_pure]
  ·unfold PartOf
   rw [hd]
   cases d <;> simp [aggD] at hagg ⊢ <;> exact ⟨hlt, rfl⟩

theorem leaf_size {d : Nat} {t : TypeId} {off : Nat} {ls : List (Nat × Nat)} (h : leavesT P d t off = some ls) : ∃ dd i, P.underlying t = some dd ∧ P.info? t = some i ∧ (aggD dd = false → i.size = 1) := by
 cases d with
 | zero => cases h
 | succ d =>
  simp only [leavesT] at h
  split at h
  ·rename_i k i hd hi
   refine ⟨_, _, hd, hi, fun _ => ?_⟩
   simp only [cond_eq_ite] at h
   split at h
   ·rename_i he; exact Nat.eq_of_beq_eq_true he
   ·cases h
  ·rename_i i hd hi
   refine ⟨_, _, hd, hi, fun _ => ?_⟩
   simp only [cond_eq_ite] at h
   split at h
   ·rename_i he; exact Nat.eq_of_beq_eq_true he
   ·cases h
  ·rename_i i hd hi
   refine ⟨_, _, hd, hi, fun _ => ?_⟩
   simp only [cond_eq_ite] at h
   split at h
   ·rename_i he; exact Nat.eq_of_beq_eq_true he
   ·cases h
  ·rename_i fs i hd hi
   exact ⟨_, _, hd, hi, fun h => by cases h⟩
  ·rename_i n e i hd hi
   exact ⟨_, _, hd, hi, fun h => by cases h⟩
  ·cases h

theorem leavesT_sound {lx ly : List AV} {xs ys : Array Value} (hx : RelVs w F ρ H lx xs.toList) (hy : RelVs w F ρ H ly ys.toList) :
  ∀ (d : Nat) (t : TypeId) (off : Nat) (ls : List (Nat × Nat)) (b : Bool) (X Y : Value), leavesT P d t off = some ls → eqLeaves ls lx ly = some b → PartOf P t xs off X → PartOf P t ys off Y →
   ∀ D, d ≤ D → (Op.equalIn D t X Y).run P w = .ok b w := by
 have hxl : xs.size = lx.length := by have := hx.len; simpa using this.symm
 have hyl : ys.size = ly.length := by have := hy.len; simpa using this.symm
 intro d
 induction d with
 | zero => intro t off ls b X Y h; cases h
 | succ d ih =>
  intro t off ls b X Y h hb hX hY D hD
  obtain ⟨D, rfl⟩ : ∃ D', D = D' + 1 := ⟨D - 1, by omega⟩
  have hD : d ≤ D := by omega
  have leaf : ∀ kd, ls = [(off, kd)] → xs[off]? = some X → ys[off]? = some Y →
    ((kd = 0 ∧ ∃ k, P.underlying t = some (.int k)) ∨ (kd = 1 ∧ P.underlying t = some .bool) ∨ (kd = 2 ∧ P.underlying t = some .string)) → (Op.equalIn (D + 1) t X Y).run P w = .ok b w := by
   intro kd e hX hY hk
   subst e
   obtain ⟨a, c, h1, h2, rfl⟩ := eqLeaves_cons hb
   cases h2
   rw [Bool.and_true]
   have hlx : off < lx.length := by rw [← hxl]; exact (Array.getElem?_eq_some_iff.1 hX).1
   have hly : off < ly.length := by rw [← hyl]; exact (Array.getElem?_eq_some_iff.1 hY).1
   obtain ⟨x, p1, p2⟩ := hx.getD hlx
   obtain ⟨y, q1, q2⟩ := hy.getD hly
   rw [hX] at p1; cases p1
   rw [hY] at q1; cases q1
   exact run_equalIn_leaf D p2 q2 h1 hk
  simp only [leavesT] at h
  split at h
  ·rename_i k i hd hi
   simp only [cond_eq_ite] at h
   split at h
   ·cases h
    unfold PartOf at hX hY; rw [hd] at hX hY
    exact leaf 0 rfl hX hY (.inl ⟨rfl, k, hd⟩)
   ·cases h
  ·rename_i i hd hi
   simp only [cond_eq_ite] at h
   split at h
   ·cases h
    unfold PartOf at hX hY; rw [hd] at hX hY
    exact leaf 1 rfl hX hY (.inr (.inl ⟨rfl, hd⟩))
   ·cases h
  ·rename_i i hd hi
   simp only [cond_eq_ite] at h
   split at h
   ·cases h
    unfold PartOf at hX hY; rw [hd] at hX hY
    exact leaf 2 rfl hX hY (.inr (.inr ⟨rfl, hd⟩))
   ·cases h
  ·rename_i fs i hd hi
   simp only [cond_eq_ite] at h
   split at h
   ·cases h
   ·rename_i hstood
    have hstood : P.stoodInHeld t = false := by simpa using hstood
    unfold PartOf at hX hY; rw [hd] at hX hY
    obtain ⟨i', hi', hxs, rfl⟩ := hX
    obtain ⟨i'', hi'', hys, rfl⟩ := hY
    rw [hi] at hi' hi''; cases hi'; cases hi''
    have hfo : P.fieldsOf t = fs := by simp [Program.fieldsOf, hd]
    rw [run_equalIn_struct w D t _ _ (by rw [hfo]; exact hd) hstood, hfo]
    generalize fs.toList = fl at h
    clear hd hfo leaf
    induction fl generalizing ls b with
    | nil => cases h; cases hb; rfl
    | cons f fl ihf =>
     simp only [fieldsT, cond_eq_ite] at h
     simp only [Op.eqFields]
     by_cases hn : f.name = "_"
     ·simp only [hn, BEq.rfl, if_true] at h
      simp only [hn, ne_eq, not_true_eq_false, if_false]
      exact ihf ls b hb h
     ·have hn' : ¬ (f.name == "_") = true := by simpa using hn
      rw [if_neg hn'] at h
      rw [if_pos hn]
      split at h
      ·rename_i fi hfi
       split at h
       ·rename_i hle
        have hle : f.offset + fi.size ≤ i.size := by simpa [len'] using hle
        split at h
        ·rename_i a c ha hc
         cases h
         obtain ⟨q1, q2, e1, e2, rfl⟩ := eqLeaves_app hb
         obtain ⟨dd, fi', g1, g2, g3⟩ := leaf_size ha
         rw [hfi] at g2; cases g2
         obtain ⟨X', r1, r2⟩ := run_part_of (w := w) g1 hfi hxs hle g3
         obtain ⟨Y', s1, s2⟩ := run_part_of (w := w) g1 hfi hys hle g3
         have := ih f.type (off + f.offset) a q1 X' Y' ha e1 r2 s2 D hD
         simp only [Sem.run_bind, r1, s1, Result.andThen_ok, this]
         cases q1
         ·simp
         ·simp only [Bool.not_true, Bool.false_eq_true, if_false, Bool.true_and]
          exact ihf c q2 e2 hc
        ·cases h
       ·cases h
      ·cases h
  ·rename_i n e i hd hi
   split at h
   ·rename_i ie hie
    simp only [cond_eq_ite] at h
    split at h
    ·rename_i hsz
     have hsz : i.size = n * ie.size := Nat.eq_of_beq_eq_true hsz
     unfold PartOf at hX hY; rw [hd] at hX hY
     obtain ⟨i', hi', hxs, rfl⟩ := hX
     obtain ⟨i'', hi'', hys, rfl⟩ := hY
     rw [hi] at hi' hi''; cases hi'; cases hi''
     rw [run_equalIn_array D t e n ie _ _ hd hie]
     have hall : ∀ j ∈ List.range n, j * ie.size + ie.size ≤ i.size := by
      intro j hj
      have hj : j < n := by simpa using hj
      have : j + 1 ≤ n := hj
      have := Nat.mul_le_mul_right ie.size this
      rw [hsz]; rw [Nat.add_mul] at this; omega
     generalize List.range n = l at h hall
     clear hd leaf
     induction l generalizing ls b with
     | nil => cases h; cases hb; rfl
     | cons j l ihl =>
      simp only [elemsT] at h
      split at h
      ·rename_i a c ha hc
       cases h
       obtain ⟨q1, q2, e1, e2, rfl⟩ := eqLeaves_app hb
       obtain ⟨dd, fi', g1, g2, g3⟩ := leaf_size ha
       rw [hie] at g2; cases g2
       have hj := hall j (by simp)
       obtain ⟨X', r1, r2⟩ := run_part_of (w := w) g1 hie hxs hj g3
       obtain ⟨Y', s1, s2⟩ := run_part_of (w := w) g1 hie hys hj g3
       have := ih e (off + j * ie.size) a q1 X' Y' ha e1 r2 s2 D hD
       simp only [Op.eqElems, Sem.run_bind, r1, s1, Result.andThen_ok, this]
       cases q1
       ·simp
       ·simp only [Bool.not_true, Bool.false_eq_true, if_false, Bool.true_and]
        exact ihl c q2 e2 hc (fun j hj => hall j (by simp [hj]))
      ·cases h
    ·cases h
   ·cases h
  ·cases h

theorem opEqa_sound {neq : Bool} {ls : List (Nat × Nat)} {u v : AV} {x y : Value} {t : TypeId} {o1 o2 : Operand} {i : TypeInfo} (hl : leavesT P 16 t 0 = some ls) (hg : P.eqGuardType P.depth t = false) (hi : P.info? t = some i)
  (hd : ∃ d, P.underlying t = some d ∧ aggD d = true)
  (hx : RelV w F ρ H u x) (hy : RelV w F ρ H v y) (hD : opEqa neq i.size ls u v = some D) :
  Gives F ρ H w ((do eqGuard (if neq then .neq else .eql) t o1 o2 x y; binOp (if neq then .neq else .eql) t x y : Sem Value).run P w) D := by
 unfold opEqa at hD
 split at hD
 ·rename_i a b
  obtain ⟨xs, rfl, hx'⟩ := hx.aggs
  obtain ⟨ys, rfl, hy'⟩ := hy.aggs
  simp only [cond_eq_ite] at hD
  split at hD
  case isFalse => cases hD
  rename_i hlens
  simp only [Bool.and_eq_true] at hlens
  have hxs : a.length = i.size := Nat.eq_of_beq_eq_true hlens.1
  have hys : b.length = i.size := Nat.eq_of_beq_eq_true hlens.2
  split at hD
  ·rename_i r hr
   have hxl : xs.size = i.size := by have := hx'.len; rw [hxs] at this; simpa using this.symm
   have hyl : ys.size = i.size := by have := hy'.len; rw [hys] at this; simpa using this.symm
   have hp : ∀ zs : Array Value, zs.size = i.size → PartOf P t zs 0 (.agg zs) := by
    intro zs hz
    obtain ⟨d, hd1, hd2⟩ := hd
    unfold PartOf
    rw [hd1]
    have he : zs.extract 0 (0 + i.size) = zs := by rw [Nat.zero_add, ← hz]; simp
    cases d <;> simp [aggD] at hd2
    ·exact ⟨i, hi, by omega, by rw [he]⟩
    ·exact ⟨i, hi, by omega, by rw [he]⟩
   have he := leavesT_sound (P := P) hx' hy' 16 t 0 ls r _ _ hl hr (hp xs hxl) (hp ys hyl) 10000 (by omega)
   cases neq
   ·refine Gives.val hD ?_ (relBool _)
    simp only [Bool.false_eq_true, if_false, Sem.run_bind, run_eqGuard_agg w _ t _ _ xs ys hg, Result.andThen_ok, run_eql_struct, he, negIf]
   ·refine Gives.val hD ?_ (relBool _)
    simp only [if_true, Sem.run_bind, run_eqGuard_agg w _ t _ _ xs ys hg, Result.andThen_ok, run_neq_struct, he, negIf]
  ·cases hD
 ·cases hD

end
end Go.Ab

/-
 Values by value: what freezes; sources of elements; contents put together.
-/
set_option linter.unusedVariables false
set_option linter.unusedSimpArgs false
namespace Go.Ab
open Go
section
variable {P : Program} {G : GL} {F F' : Nat → Prop} {ρ : Nat → Option Nat} {H : Nat → Option HO} {w : World} {look : Nat → Option HO}
 {Sp : SpT} {D : Delta}

theorem updL_app (H : Nat → Option HO) : ∀ (a b : List (Nat × HO)), updL H (a ++ b) = updL (updL H a) b
 | [], b => rfl
 | (i, o) :: a, b => by simp only [List.cons_append, updL]; exact updL_app _ a b

theorem AllC.mk_app {a b : List Cd} (h : AllC Sp a) (k : AllC Sp b) : AllC Sp (a ++ b) := by
 induction a with
 | nil => exact k
 | cons c r ih => exact ⟨h.1, ih h.2⟩

theorem frzAll (ids : List Nat) : ∀ (F : Nat → Prop) (H : Nat → Option HO), MRel G F ρ H w → (∀ id k, look id = some (.blk k) → H id = some (.blk k) ∨ H id = some (.blk { k with mu := false })) →
  ∃ F', MRel G F' ρ (updL H (frzW look ids)) w ∧ Ext G F ρ w F' ρ w ∧ HKeep w ρ H w ρ (updL H (frzW look ids)) ∧
   (∀ id, id ∈ ids → (∃ k, look id = some (.blk k)) → ∀ b, ρ id = some b → F' b) ∧
   (∀ id k, look id = some (.blk k) → updL H (frzW look ids) id = H id ∨ (id ∈ ids ∧ updL H (frzW look ids) id = some (.blk { k with mu := false }))) ∧
   (∀ id, look id = none → updL H (frzW look ids) id = H id) := by
 induction ids with
 | nil => intro F H hm _; exact ⟨F, hm, Ext.refl _ _ _, HKeep.refl _ _ _, fun id h => by simp at h, fun id k _ => .inl rfl, fun _ _ => rfl⟩
 | cons i r ih =>
  intro F H hm hcur
  cases hl : look i with
  | none =>
   have : frzW look (i :: r) = frzW look r := by simp [frzW, hl]
   rw [this]
   obtain ⟨F', h1, h2, h3, h4, h5, h6⟩ := ih F H hm hcur
   refine ⟨F', h1, h2, h3, fun id hid hk b hb => ?_, fun id k hk => (h5 id k hk).imp (fun h => h) (fun h => ⟨List.mem_cons_of_mem _ h.1, h.2⟩), h6⟩
   rcases List.mem_cons.1 hid with rfl | hid
   ·obtain ⟨k, hk⟩ := hk; rw [hl] at hk; cases hk
   ·exact h4 id hid hk b hb
  | some o =>
   cases o with
   | iter s p | loop s =>
    have : frzW look (i :: r) = frzW look r := by simp [frzW, hl]
    rw [this]
    obtain ⟨F', h1, h2, h3, h4, h5, h6⟩ := ih F H hm hcur
    refine ⟨F', h1, h2, h3, fun id hid hk b hb => ?_, fun id k hk => (h5 id k hk).imp (fun h => h) (fun h => ⟨List.mem_cons_of_mem _ h.1, h.2⟩), h6⟩
    rcases List.mem_cons.1 hid with rfl | hid
    ·obtain ⟨k, hk⟩ := hk; rw [hl] at hk; cases hk
    ·exact h4 id hid hk b hb
   | blk k =>
    -- where the block is frozen already
    have old : (∃ k', H i = some (.blk k') ∧ k'.mu = false) → ∀ b, ρ i = some b → F b := by
     rintro ⟨k', hk', hmu⟩ b hb
     obtain ⟨_, h1 | ⟨b', h1, h2⟩⟩ := hm.heap i _ hk'
     ·rw [hb] at h1; cases h1.2
     ·rw [hb] at h1; cases h1; exact h2.fr hmu
    cases hmu : k.mu with
    | false =>
     have : frzW look (i :: r) = frzW look r := by simp [frzW, hl, hmu]
     rw [this]
     obtain ⟨F', h1, h2, h3, h4, h5, h6⟩ := ih F H hm hcur
     refine ⟨F', h1, h2, h3, fun id hid hk b hb => ?_, fun id k hk => (h5 id k hk).imp (fun h => h) (fun h => ⟨List.mem_cons_of_mem _ h.1, h.2⟩), h6⟩
     rcases List.mem_cons.1 hid with rfl | hid
     ·refine h2.keep b (old ?_ b hb)
      rcases hcur id k hl with h | h
      ·exact ⟨k, h, hmu⟩
      ·exact ⟨_, h, rfl⟩
     ·exact h4 id hid hk b hb
    | true =>
     have : frzW look (i :: r) = (i, .blk { k with mu := false }) :: frzW look r := by simp [frzW, hl, hmu]
     rw [this]
     simp only [updL]
     have step : ∃ F1, MRel G F1 ρ (upd H i (some (.blk { k with mu := false }))) w ∧ Ext G F ρ w F1 ρ w ∧ HKeep w ρ H w ρ (upd H i (some (.blk { k with mu := false }))) ∧ (∀ b, ρ i = some b → F1 b) := by
      rcases hcur i k hl with h | h
      ·exact hm.freeze h hmu
      ·have he : upd H i (some (.blk { k with mu := false })) = H := by
        funext j
        by_cases e : j = i
        ·subst e; rw [upd_same, h]
        ·rw [upd_other _ _ e]
       rw [he]
       exact ⟨F, hm, Ext.refl _ _ _, HKeep.refl _ _ _, old ⟨_, h, rfl⟩⟩
     obtain ⟨F1, g1, g2, g3, g4⟩ := step
     obtain ⟨F', h1, h2, h3, h4, h5, h6⟩ := ih F1 _ g1 (fun id k' hk' => by
      by_cases e : id = i
      ·subst e; rw [hl] at hk'; cases hk'; rw [upd_same]; exact .inr rfl
      ·rw [upd_other _ _ e]; exact hcur id k' hk')
     refine ⟨F', h1, g2.trans h2, g3.trans h3, fun id hid hk b hb => ?_, fun id k' hk' => ?_, fun id hid => ?_⟩
     ·rcases List.mem_cons.1 hid with rfl | hid
      ·exact h2.keep b (g4 b hb)
      ·exact h4 id hid hk b hb
     ·rcases h5 id k' hk' with h | h
      ·by_cases e : id = i
       ·subst e; rw [hl] at hk'; cases hk'; rw [upd_same] at h; exact .inr ⟨by simp, h⟩
       ·rw [upd_other _ _ e] at h; exact .inl h
      ·exact .inr ⟨List.mem_cons_of_mem _ h.1, h.2⟩
     ·have e : id ≠ i := fun e => by subst e; rw [hl] at hid; cases hid
      rw [h6 id hid, upd_other _ _ e]

def FrzV (F F' : Nat → Prop) (ρ : Nat → Option Nat) (H : Nat → Option HO) (w : World) (v v' : AV) : Prop := ∀ x, RelV w F ρ H v x → RelI w F' v' x

theorem holds_of_blk (hm : MRel G F ρ H w) {id b : Nat} {k : Blk} (hH : H id = some (.blk k)) (hb : ρ id = some b) {c : Cont} (hs : c.size = k.c.size)
  (hr : ∀ i, i < k.c.size → ∀ x, RelE w F ρ H k.c i x → RelI w F' (c.getV i) x) : ∃ xs : Nat → Value, (∀ i, i < c.size → w.cell? ⟨b, 0 + i, none⟩ = some (xs i)) ∧ (∀ i, i < c.size → RelI w F' (c.getV i) (xs i)) ∧ (∀ i, i < c.size → (xs i).oneCell' = true) := by
 obtain ⟨h0, h1 | ⟨b', h1, h2⟩⟩ := hm.heap id _ hH
 ·rw [hb] at h1; cases h1.2
 rw [hb] at h1; cases h1
 by_cases hmap : k.c.isMap = true
 ·have h0 := Cont.map_size hmap
  exact ⟨fun _ => undef, fun i hi => by omega, fun i hi => by omega, fun i hi => by omega⟩
 obtain ⟨cs, ty, fz, g1, g2, g3, g4⟩ := h2.ex (by simpa using hmap)
 refine ⟨fun i => (cs[i]?).getD default, fun i hi => ?_, fun i hi => ?_, fun i hi => ?_⟩
 ·obtain ⟨x, p1, p2⟩ := g4 i (hs ▸ hi)
  simp [World.cell?, g1, p1]
 ·obtain ⟨x, p1, p2⟩ := g4 i (hs ▸ hi)
  simp only [p1, Option.getD_some]
  exact hr i (hs ▸ hi) x p2
 ·obtain ⟨x, p1, p2⟩ := g4 i (hs ▸ hi)
  simp only [p1, Option.getD_some]
  exact p2.2

theorem relI_of (hF : ∀ b, F b → F' b) {v : AV} (hv : refsV v = [] ∧ (∀ l, v ≠ .agg l) ∧ (∀ l, v ≠ .tup l) ∧ (∀ f a b, v ≠ .fn f a b) ∧ (∀ b u, v ≠ .may b u) ∧ (∀ t u, v ≠ .iface t u)) : FrzV F F' ρ H w v v := by
 intro x hx
 obtain ⟨h1, h2, h3, h4, h5, h6⟩ := hv
 cases hx with
 | imm _ _ hi => exact hi.mono (fun _ _ => rfl) hF
 | ptr => simp [refsV] at h1
 | ep => simp [refsV] at h1
 | full => simp [refsV] at h1
 | sl => simp [refsV] at h1
 | yld => simp [refsV] at h1
 | spare => simp [refsV] at h1
 | mp => simp [refsV] at h1
 | fullc => simp [refsV] at h1
 | fn => exact absurd rfl (h4 _ _ _)
 | agg => exact absurd rfl (h2 _)
 | tup => exact absurd rfl (h3 _)
 | may => exact absurd rfl (h5 _ _)
 | iface => exact absurd rfl (h6 _ _)

theorem relVs_frz {l l' : List AV} (hlen : l'.length = l.length) (h : ∀ (i : Nat) (v : AV), l[i]? = some v → ∃ v', l'[i]? = some v' ∧ FrzV F F' ρ H w v v') : ∀ {xs : List Value}, RelVs w F ρ H l xs → RelIs w F' l' xs := by
 induction l generalizing l' with
 | nil =>
  intro xs hr
  cases hr
  have : l' = [] := by simpa using hlen
  subst this; exact .nil
 | cons v l ih =>
  intro xs hr
  cases hr with
  | cons _ _ x xs hv hs =>
   cases l' with
   | nil => simp at hlen
   | cons v' l' =>
    obtain ⟨u, h1, h2⟩ := h 0 v (by simp)
    simp at h1; subst h1
    exact .cons _ _ _ _ (h2 _ hv) (ih (by simpa using hlen) (fun i u hu => by obtain ⟨u', g1, g2⟩ := h (i + 1) u (by simpa using hu); exact ⟨u', by simpa using g1, g2⟩) hs)

theorem frz_sound (hm : MRel G F ρ H w) (hl : ∀ id o, look id = some o → H id = some o) (hF : ∀ b, F b → F' b) :
  ∀ n, (∀ v v' ids cs, frzV look n v = some (v', ids, cs) → AllC Sp cs → (∀ id, id ∈ ids → ∀ b, ρ id = some b → F' b) → FrzV F F' ρ H w v v') ∧
   (∀ l l' ids cs, frzL look n l = some (l', ids, cs) → AllC Sp cs → (∀ id, id ∈ ids → ∀ b, ρ id = some b → F' b) → l'.length = l.length ∧ ∀ (i : Nat) (v : AV), l[i]? = some v → ∃ v', l'[i]? = some v' ∧ FrzV F F' ρ H w v v') ∧
   (∀ c c' ids cs, frzC look n c = some (c', ids, cs) → AllC Sp cs → (∀ id, id ∈ ids → ∀ b, ρ id = some b → F' b) → c'.size = c.size ∧ ∀ i, i < c.size → ∀ x, RelE w F ρ H c i x → RelI w F' (c'.getV i) x) := by
 intro n
 induction n with
 | zero => exact ⟨fun v v' ids cs h => by simp [frzV] at h, fun l l' ids cs h => by simp [frzL] at h, fun c c' ids cs h => by simp [frzC] at h⟩
 | succ n ih =>
  obtain ⟨ihV, ihL, ihC⟩ := ih
  refine ⟨fun v v' ids cs h hc hids => ?_, fun l l' ids cs h hc hids => ?_, fun c c' ids cs h hc hids => ?_⟩
  ·cases v <;> simp only [frzV] at h
   case ptr id off =>
    split at h
    ·rename_i k hk
     split at h
     ·rename_i c' ids' cs' hfc
      cases h
      intro x hx
      cases hx with
      | imm _ _ hi => cases hi
      | ptr _ _ b o hb hh hbx =>
       obtain ⟨g1, g2⟩ := ihC _ _ _ _ hfc hc (fun i hi => hids i (List.mem_cons_of_mem _ hi))
       obtain ⟨xs, p1, p2, p3⟩ := holds_of_blk hm (hl _ _ hk) hb g1 g2
       have := iptr_drop off (RelI.iptr c' b 0 xs (hids id (by simp) b hb) p1 p2 p3)
       simpa using this
     ·cases h
    ·cases h
   case ep id m off =>
    split at h
    ·rename_i k hk
     split at h
     ·rename_i c' ids' cs' hfc
      cases h
      intro x hx
      cases hx with
      | imm _ _ hi => cases hi
      | ep _ _ _ k' _ hh hle hp hxx =>
       rw [hl _ _ hk] at hh; cases hh
       obtain ⟨b, hb, rfl⟩ := hxx hc.1
       obtain ⟨g1, g2⟩ := ihC _ _ _ _ hfc hc.2 (fun i hi => hids i (List.mem_cons_of_mem _ hi))
       obtain ⟨xs, p1, p2, p3⟩ := holds_of_blk hm (hl _ _ hk) hb g1 g2
       have := iptr_drop off (RelI.iptr c' b 0 xs (hids id (by simp) b hb) p1 p2 p3)
       simpa using this
     ·cases h
    ·cases h
   case full id len =>
    split at h
    ·rename_i k hk
     split at h
     ·rename_i c' ids' cs' hfc
      cases h
      intro x hx
      obtain ⟨g1, g2⟩ := ihC _ _ _ _ hfc hc.2 (fun i hi => hids i (List.mem_cons_of_mem _ hi))
      cases hx with
      | imm _ _ hi => cases hi
      | full _ _ k' _ hh hle hp hxx =>
       have hH := hl _ _ hk
       rw [hH] at hh; cases hh
       have hn : k.n = len := hc.1
       have hsz : k.c.size = k.n * k.sz := (hm.heap id _ hH).1
       rcases hxx hn with ⟨rfl, _, h3, rfl⟩ | ⟨rfl, _, h3, a, rfl⟩ | ⟨_, b, cap, cs0, ty, fz, q1, q2, rfl, q3, q4, q5⟩
       ·exact .imm0 _ _ _ (by rw [g1, hsz, hn]; simp) h3
       ·exact .imm0 _ _ _ (by rw [g1, hsz, hn]; simp) h3
       ·obtain ⟨xs, p1, p2, p3⟩ := holds_of_blk hm hH q1 g1 g2
        exact .imm c' len k.cap b 0 cap xs (hids id (by simp) b q1) p1 p2 p3 q3 q5
     ·cases h
    ·cases h
   case fullc id len cap =>
    split at h
    ·rename_i k hk
     split at h
     ·rename_i c' ids' cs' hfc
      cases h
      intro x hx
      obtain ⟨g1, g2⟩ := ihC _ _ _ _ hfc hc.2 (fun i hi => hids i (List.mem_cons_of_mem _ hi))
      cases hx with
      | imm _ _ hi => cases hi
      | fullc _ _ _ ad hf =>
       cases hf with
       | imm _ _ hi => cases hi
       | full _ _ k' _ hh hle hp hxx =>
        have hH := hl _ _ hk
        rw [hH] at hh; cases hh
        have hn : k.n = len := hc.1
        have hsz : k.c.size = k.n * k.sz := (hm.heap id _ hH).1
        rcases hxx hn with ⟨rfl, _, h3, hv⟩ | ⟨rfl, _, h3, a, hv⟩ | ⟨_, b, cap, cs0, ty, fz, q1, q2, hv, q3, q4, q5⟩
        ·cases hv; exact .imm0 _ _ _ (by rw [g1, hsz, hn]; simp) (fun n e => by cases e; rfl)
        ·cases hv; exact .imm0 _ _ _ (by rw [g1, hsz, hn]; simp) (fun n e => by cases e; rfl)
        ·cases hv
         obtain ⟨xs, p1, p2, p3⟩ := holds_of_blk hm hH q1 g1 g2
         exact .imm c' len _ b 0 _ xs (hids id (by simp) b q1) p1 p2 p3 q3 (fun n e => by cases e; rfl)
     ·cases h
    ·cases h
   case sl id off len cap =>
    split at h
    ·rename_i k hk
     split at h
     ·rename_i c' ids' cs' hfc
      cases h
      intro x hx
      obtain ⟨g1, g2⟩ := ihC _ _ _ _ hfc hc.2 (fun i hi => hids i (List.mem_cons_of_mem _ hi))
      have hle : off + mz len k.sz ≤ k.c.size := by simpa [Cd.holds, len'] using hc.1
      cases hx with
      | imm _ _ hi => cases hi
      | sl _ _ _ _ b k' hb hh hbx hlc =>
       rw [hl _ _ hk] at hh; cases hh
       obtain ⟨xs, p1, p2, p3⟩ := holds_of_blk hm (hl _ _ hk) hb g1 g2
       have hsz : ((c'.drop off).take (mz len k.sz)).size ≤ mz len k.sz := by rw [size_take]; omega
       refine .imm _ len (some cap) b off cap (fun i => xs (off + i)) (hids id (by simp) b hb) (fun i hi => ?_) (fun i hi => ?_) (fun i hi => p3 (off + i) (by rw [g1]; omega)) hlc (fun n e => by cases e; rfl)
       ·have := p1 (off + i) (by rw [g1]; omega)
        rw [Nat.zero_add] at this; exact this
       ·rw [getV_take _ _ _ (by omega), getV_drop]
        exact p2 (off + i) (by rw [g1]; omega)
     ·cases h
    ·cases h
   case fn f a b =>
    split at h
    ·rename_i a' i1 c1 b' i2 c2 h1 h2
     cases h
     obtain ⟨hc1, hc2⟩ := hc.app
     obtain ⟨l1, r1⟩ := ihL _ _ _ _ h1 hc1 (fun i hi => hids i (by simp [hi]))
     obtain ⟨l2, r2⟩ := ihL _ _ _ _ h2 hc2 (fun i hi => hids i (by simp [hi]))
     intro x hx
     obtain ⟨xs, ys, rfl, q1, q2⟩ := hx.fns
     exact .fn f _ _ _ _ (relVs_frz l1 r1 q1) (relVs_frz l2 r2 q2)
    ·cases h
   case agg l =>
    split at h
    ·rename_i l' i1 c1 h1
     cases h
     obtain ⟨l1, r1⟩ := ihL _ _ _ _ h1 hc hids
     intro x hx
     obtain ⟨xs, rfl, q1⟩ := hx.aggs
     exact .agg _ _ (relVs_frz l1 r1 q1)
    ·cases h
   case tup l =>
    split at h
    ·rename_i l' i1 c1 h1
     cases h
     obtain ⟨l1, r1⟩ := ihL _ _ _ _ h1 hc hids
     intro x hx
     obtain ⟨xs, rfl, q1⟩ := hx.tups
     exact .tup _ _ (relVs_frz l1 r1 q1)
    ·cases h
   case iface t u =>
    split at h
    ·rename_i u' i1 c1 h1
     cases h
     have := ihV _ _ _ _ h1 hc hids
     intro x hx
     cases hx with
     | imm _ _ hi => cases hi with | iface _ _ y hy => exact .iface _ _ _ (this _ hy.toV)
     | iface _ _ y hy => exact .iface _ _ _ (this _ hy)
    ·cases h
   case may => cases h
   case yld => cases h
   case spare => cases h
   case mp => cases h
   case undef => cases h
   all_goals
    cases h
    exact relI_of hF (by simp [refsV])
  ·cases l with
   | nil => simp only [frzL] at h; cases h; exact ⟨rfl, fun i v h => by simp at h⟩
   | cons v r =>
    simp only [frzL] at h
    split at h
    ·rename_i v' i1 c1 r' i2 c2 h1 h2
     cases h
     obtain ⟨hc1, hc2⟩ := hc.app
     have hv := ihV _ _ _ _ h1 hc1 (fun i hi => hids i (by simp [hi]))
     obtain ⟨l2, r2⟩ := ihL _ _ _ _ h2 hc2 (fun i hi => hids i (by simp [hi]))
     refine ⟨by simp [l2], fun i u hu => ?_⟩
     cases i with
     | zero => simp at hu; subst hu; exact ⟨v', by simp, hv⟩
     | succ i => obtain ⟨u', g1, g2⟩ := r2 i u (by simpa using hu); exact ⟨u', by simpa using g1, g2⟩
    ·cases h
  ·cases c <;> simp only [frzC] at h
   case cells l =>
    split at h
    ·rename_i l' i1 c1 h1
     cases h
     obtain ⟨l1, r1⟩ := ihL _ _ _ _ h1 hc hids
     refine ⟨l1, fun i hi x hx => ?_⟩
     simp only [Cont.size] at hi
     have hv : l[i]? = some l[i] := List.getElem?_eq_getElem hi
     obtain ⟨v', g1, g2⟩ := r1 i _ hv
     have hx := hx.1
     simp only [List.getD, hv, Option.getD_some] at hx
     simp only [Cont.getV, List.getD, g1, Option.getD_some]
     exact g2 x hx
    ·cases h
   all_goals
    cases h
    exact ⟨rfl, fun i hi x hx => RelI.mono (fun _ _ => rfl) hF hx.1⟩

theorem frz_ids : ∀ n, (∀ v v' ids cs, frzV look n v = some (v', ids, cs) → ∀ id, id ∈ ids → ∃ k, look id = some (.blk k)) ∧
   (∀ l l' ids cs, frzL look n l = some (l', ids, cs) → ∀ id, id ∈ ids → ∃ k, look id = some (.blk k)) ∧
   (∀ c c' ids cs, frzC look n c = some (c', ids, cs) → ∀ id, id ∈ ids → ∃ k, look id = some (.blk k)) := by
 intro n
 induction n with
 | zero => exact ⟨fun v v' ids cs h => by simp [frzV] at h, fun l l' ids cs h => by simp [frzL] at h, fun c c' ids cs h => by simp [frzC] at h⟩
 | succ n ih =>
  obtain ⟨ihV, ihL, ihC⟩ := ih
  refine ⟨fun v v' ids cs h id hid => ?_, fun l l' ids cs h id hid => ?_, fun c c' ids cs h id hid => ?_⟩
  ·cases v <;> simp only [frzV] at h
   case ptr | ep | full | fullc | sl =>
    split at h
    ·rename_i k hk
     split at h
     ·rename_i c' ids' cs' hfc
      cases h
      rcases List.mem_cons.1 hid with rfl | hid
      ·exact ⟨k, hk⟩
      ·exact ihC _ _ _ _ hfc id hid
     ·cases h
    ·cases h
   case fn =>
    split at h
    ·rename_i a' i1 c1 b' i2 c2 h1 h2
     cases h
     rcases List.mem_append.1 hid with hid | hid
     ·exact ihL _ _ _ _ h1 id hid
     ·exact ihL _ _ _ _ h2 id hid
    ·cases h
   case agg | tup =>
    split at h
    ·rename_i l' i1 c1 h1
     cases h
     exact ihL _ _ _ _ h1 id hid
    ·cases h
   case iface =>
    split at h
    ·rename_i l' i1 c1 h1
     cases h
     exact ihV _ _ _ _ h1 id hid
    ·cases h
   case may => cases h
   case yld => cases h
   case spare => cases h
   case mp => cases h
   case undef => cases h
   all_goals (cases h; simp at hid)
  ·cases l with
   | nil => simp only [frzL] at h; cases h; simp at hid
   | cons v r =>
    simp only [frzL] at h
    split at h
    ·rename_i v' i1 c1 r' i2 c2 h1 h2
     cases h
     rcases List.mem_append.1 hid with hid | hid
     ·exact ihV _ _ _ _ h1 id hid
     ·exact ihL _ _ _ _ h2 id hid
    ·cases h
  ·cases c <;> simp only [frzC] at h
   case cells =>
    split at h
    ·rename_i l' i1 c1 h1
     cases h
     exact ihL _ _ _ _ h1 id hid
    ·cases h
   all_goals (cases h; simp at hid)

end
end Go.Ab

/-
 Slices that grow, are cut, are laid; results of calls.
-/
set_option linter.unusedVariables false
set_option linter.unusedSimpArgs false
namespace Go.Ab
open Go

theorem MRel.setH {G : GL} {F : Nat → Prop} {ρ : Nat → Option Nat} {H : Nat → Option HO} {w : World} (hm : MRel G F ρ H w)
  {id : Nat} {k k' : Blk} (hi : H id = some (.blk k)) (hbx : k'.bx = k.bx) (hn : k'.n = k.n) (hnil : k'.nil = k.nil) (hsz : k'.sz = k.sz) (hcap : k'.cap = k.cap ∨ k'.cap = none)
  (hO : HKeep w ρ H w ρ (upd H id (some (.blk k'))) → RelO G w F ρ (upd H id (some (.blk k'))) id (.blk k')) :
  MRel G F ρ (upd H id (some (.blk k'))) w ∧ Ext G F ρ w F ρ w ∧ HKeep w ρ H w ρ (upd H id (some (.blk k'))) := by
 have hk : HKeep w ρ H w ρ (upd H id (some (.blk k'))) :=
  ⟨fun i o h1 h2 => by
   by_cases e : i = id
   ·subst e; rw [hi] at h1; cases h1; exact ⟨_, upd_same _ _ _, hbx.trans h2, rfl⟩
   ·exact ⟨o, by rw [upd_other _ _ e]; exact h1, h2, rfl⟩,
   fun i k1 h1 => by
   by_cases e : i = id
   ·subst e; rw [hi] at h1; cases h1
    exact ⟨_, upd_same _ _ _, hbx, Nat.le_of_eq hn.symm, fun e => ⟨hnil, hsz, hcap, rfl⟩⟩
   ·exact ⟨k1, by rw [upd_other _ _ e]; exact h1, rfl, Nat.le_refl _, fun _ => ⟨rfl, rfl, .inl rfl, rfl⟩⟩,
   fun b cs ty fz hb => ⟨cs, ty, fz, hb, rfl⟩⟩
 refine ⟨⟨fun i o h1 => ?_, fun i b hb => ?_, hm.inj, hm.lt, hm.frz, hm.glob⟩, Ext.refl _ _ _, hk⟩
 ·by_cases e : i = id
  ·subst e; rw [upd_same] at h1; cases h1; exact hO hk
  ·rw [upd_other _ _ e] at h1
   exact (hm.heap i o h1).mono (fun _ _ => rfl) (fun _ h => h) hk rfl (fun b hb => ⟨rfl, fun h => h⟩)
 ·obtain ⟨o', ho'⟩ := hm.dom i b hb
  by_cases e : i = id
  ·subst e; exact ⟨_, upd_same _ _ _⟩
  ·exact ⟨o', by rw [upd_other _ _ e]; exact ho'⟩

theorem MRel.ghost {G : GL} {F : Nat → Prop} {ρ : Nat → Option Nat} {H : Nat → Option HO} {w : World} (hm : MRel G F ρ H w)
  {site : Nat} {k : Blk} (hs : H site = none) (hn : k.n = 0) (hc : k.c.size = 0) :
  MRel G F ρ (upd H site (some (.blk k))) w ∧ Ext G F ρ w F ρ w ∧ HKeep w ρ H w ρ (upd H site (some (.blk k))) := by
 have hρ : ρ site = none := by
  cases e : ρ site with
  | none => rfl
  | some b => obtain ⟨o, h⟩ := hm.dom site b e; rw [hs] at h; cases h
 have hne : ∀ id o, H id = some o → id ≠ site := fun id o h e => by rw [e, hs] at h; cases h
 have hk : HKeep w ρ H w ρ (upd H site (some (.blk k))) :=
  ⟨fun id o' h1 h2 => ⟨o', by rw [upd_other _ _ (hne id o' h1)]; exact h1, h2, rfl⟩,
   fun id k1 h1 => ⟨k1, by rw [upd_other _ _ (hne id _ h1)]; exact h1, rfl, Nat.le_refl _, fun _ => ⟨rfl, rfl, .inl rfl, rfl⟩⟩,
   fun b cs ty fz hb => ⟨cs, ty, fz, hb, rfl⟩⟩
 refine ⟨⟨fun i o h1 => ?_, fun i b hb => ?_, hm.inj, hm.lt, hm.frz, hm.glob⟩, Ext.refl _ _ _, hk⟩
 ·by_cases e : i = site
  ·subst e; rw [upd_same] at h1; cases h1; exact ⟨by rw [hc, hn]; simp, .inl ⟨hn, hρ⟩⟩
  ·rw [upd_other _ _ e] at h1
   exact (hm.heap i o h1).mono (fun _ _ => rfl) (fun _ h => h) hk rfl (fun b hb => ⟨rfl, fun h => h⟩)
 ·obtain ⟨o', ho'⟩ := hm.dom i b hb
  by_cases e : i = site
  ·subst e; exact ⟨_, upd_same _ _ _⟩
  ·exact ⟨o', by rw [upd_other _ _ e]; exact ho'⟩

section
variable {P : Program} {G : GL} {F F' : Nat → Prop} {ρ : Nat → Option Nat} {H : Nat → Option HO} {w : World} {look : Nat → Option HO}
 {Sp : SpT} {D : Delta}

theorem app_nmap {a b c : Cont} (h : a.app b = some c) : a.isMap = false ∧ c.isMap = false := by
 cases a <;> cases b <;> simp only [Cont.app, reduceCtorEq] at h <;> first | (cases h; exact ⟨rfl, rfl⟩) | (rw [cond_eq_ite] at h; split at h <;> cases h; exact ⟨rfl, rfl⟩)
theorem app_spec {a b c : Cont} (h : a.app b = some c) : c.size = a.size + b.size ∧
  (∀ i x, i < a.size → RelE w F ρ H a i x → RelE w F ρ H c i x) ∧ (∀ i x, i < b.size → RelI w F (b.getV i) x → x.oneCell' = true → RelE w F ρ H c (a.size + i) x) := by
 cases a <;> cases b <;> simp only [Cont.app, reduceCtorEq] at h
 case ints.ints k l k' l' =>
  simp only [cond_eq_ite] at h
  split at h
  ·rename_i hk
   have hk : k = k' := by simpa [beqK] using hk
   subst hk
   cases h
   refine ⟨by simp [Cont.size], fun i x hi hr => ?_, fun i x hi hr hone => ?_⟩
   ·simp only [Cont.size] at hi
    simp only [RelE, Cont.getV] at hr ⊢
    rw [show (l ++ l').getD i 0 = l.getD i 0 by simp [List.getD, List.getElem?_append_left hi]]; exact hr
   ·simp only [Cont.size] at hi ⊢
    simp only [RelE, Cont.getV] at hr ⊢
    rw [show (l ++ l').getD (l.length + i) 0 = l'.getD i 0 by simp [List.getD, List.getElem?_append_right]]; exact ⟨hr, hone⟩
  ·cases h
 case bools.bools l l' =>
  cases h
  refine ⟨by simp [Cont.size], fun i x hi hr => ?_, fun i x hi hr hone => ?_⟩
  ·simp only [Cont.size] at hi
   simp only [RelE, Cont.getV] at hr ⊢
   rw [show (l ++ l').getD i false = l.getD i false by simp [List.getD, List.getElem?_append_left hi]]; exact hr
  ·simp only [Cont.size] at hi ⊢
   simp only [RelE, Cont.getV] at hr ⊢
   rw [show (l ++ l').getD (l.length + i) false = l'.getD i false by simp [List.getD, List.getElem?_append_right]]; exact ⟨hr, hone⟩
 case strs.strs l l' =>
  cases h
  refine ⟨by simp [Cont.size], fun i x hi hr => ?_, fun i x hi hr hone => ?_⟩
  ·simp only [Cont.size] at hi
   simp only [RelE, Cont.getV] at hr ⊢
   rw [show (l ++ l').getD i [] = l.getD i [] by simp [List.getD, List.getElem?_append_left hi]]; exact hr
  ·simp only [Cont.size] at hi ⊢
   simp only [RelE, Cont.getV] at hr ⊢
   rw [show (l ++ l').getD (l.length + i) [] = l'.getD i [] by simp [List.getD, List.getElem?_append_right]]; exact ⟨hr, hone⟩
 case vals.vals l l' =>
  cases h
  refine ⟨by simp [Cont.size], fun i x hi hr => ?_, fun i x hi hr hone => ?_⟩
  ·simp only [Cont.size] at hi
   simp only [RelE, Cont.getV] at hr ⊢
   rw [show (l ++ l').getD i .undef = l.getD i .undef by simp [List.getD, List.getElem?_append_left hi]]; exact hr
  ·simp only [Cont.size] at hi ⊢
   simp only [RelE, Cont.getV] at hr ⊢
   rw [show (l ++ l').getD (l.length + i) .undef = l'.getD i .undef by simp [List.getD, List.getElem?_append_right]]; exact ⟨hr, hone⟩

theorem src_sound (hm : MRel G F ρ H w) (hl : ∀ id o, look id = some o → H id = some o) {sz : Nat} {v : AV} {c : Cont} {m : Nat} {cs : List Cd} {x : Value} (h : srcOf look sz v = some (c, m, cs)) (hc : AllC Sp cs) (hx : RelV w F ρ H v x) :
  ∃ (a : Option Addr) (cap : Nat) (cells : List Value), x = .slice a m cap ∧ c.size = m * sz ∧ cells.length = m * sz ∧ (a = none → m = 0) ∧
   (∀ b, a = some b → ∀ j y, cells[j]? = some y → w.cell? (b.add j) = some y) ∧ (∀ j y, cells[j]? = some y → RelE w F ρ H c j y) := by
 have ofHolds : ∀ (b o cap : Nat) (c : Cont), x = .slice (some ⟨b, o, none⟩) m cap → c.size = m * sz → (∀ i, i < c.size → ∃ y, w.cell? ⟨b, o + i, none⟩ = some y ∧ RelE w F ρ H c i y) →
   ∃ (a : Option Addr) (cap : Nat) (cells : List Value), x = .slice a m cap ∧ c.size = m * sz ∧ cells.length = m * sz ∧ (a = none → m = 0) ∧
   (∀ b, a = some b → ∀ j y, cells[j]? = some y → w.cell? (b.add j) = some y) ∧ (∀ j y, cells[j]? = some y → RelE w F ρ H c j y) := by
  intro b o cap c hx hs hh
  refine ⟨some ⟨b, o, none⟩, cap, (List.range c.size).map (fun i => (w.cell? ⟨b, o + i, none⟩).getD default), hx, hs, by simp [hs], (fun e => by cases e), ?_, ?_⟩
  ·intro b' e j y hj
   cases e
   have hlt : j < c.size := by
    have := (List.getElem?_eq_some_iff.1 hj).1; simpa using this
   obtain ⟨z, g1, g2⟩ := hh j hlt
   rw [addr_add]
   simp [hlt, g1] at hj
   rw [g1, hj]
  ·intro j y hj
   have hlt : j < c.size := by
    have := (List.getElem?_eq_some_iff.1 hj).1; simpa using this
   obtain ⟨z, g1, g2⟩ := hh j hlt
   simp [hlt, g1] at hj
   rw [← hj]; exact g2
 have ofZero : ∀ (a : Option Addr) (c : Cont), x = .slice a 0 0 → m = 0 → c.size = 0 →
   ∃ (a : Option Addr) (cap : Nat) (cells : List Value), x = .slice a m cap ∧ c.size = m * sz ∧ cells.length = m * sz ∧ (a = none → m = 0) ∧
   (∀ b, a = some b → ∀ j y, cells[j]? = some y → w.cell? (b.add j) = some y) ∧ (∀ j y, cells[j]? = some y → RelE w F ρ H c j y) := by
  intro a c hx hm0 hs
  subst hm0
  exact ⟨a, 0, [], hx, by simp [hs], by simp, fun _ => rfl, fun b _ j y h => by simp at h, fun j y h => by simp at h⟩
 unfold srcOf at h
 split at h
 ·rename_i c' len cap
  cases h
  have hs : c.size = m * sz := by have := hc.1; simp only [Cd.holds, mz_eq] at this; exact this
  cases hx with
  | imm _ _ hi =>
   cases hi with
   | imm _ _ _ b o cap' xs hF hcell hr ho hle hcap =>
    refine ofHolds b o cap' c rfl hs (fun i hi => ⟨xs i, hcell i hi, ?_⟩)
    have := hr i hi
    refine ⟨?_, ho i hi⟩
    cases c <;> first | exact this | exact this.toV
   | imm0 _ _ a hc0 hcap => exact ofZero a c rfl rfl hc0
 ·rename_i id len
  split at h
  ·rename_i k hk
   have hH := hl _ _ hk
   simp only [cond_eq_ite] at h
   split at h
   ·rename_i hsz
    have hsz : k.sz = sz := Nat.eq_of_beq_eq_true hsz
    cases h
    have hn : k.n = m := hc.1
    have hs : k.c.size = m * sz := by rw [(hm.heap id _ hH).1, hn, hsz]
    cases hx with
    | imm _ _ hi => cases hi
    | full _ _ k' _ hh hle hp hxx =>
     rw [hH] at hh; cases hh
     rcases hxx hn with ⟨rfl, _, _, rfl⟩ | ⟨rfl, _, _, a, rfl⟩ | ⟨_, b, cap, cs0, ty, fz, q1, q2, rfl, q3, q4, q5⟩
     ·exact ofZero none _ rfl rfl (by rw [hs]; simp)
     ·exact ofZero _ _ rfl rfl (by rw [hs]; simp)
     ·refine ofHolds b 0 cap k.c rfl hs (fun i hi => ?_)
      obtain ⟨_, h1 | ⟨b', h1, h2⟩⟩ := hm.heap id _ hH
      ·rw [q1] at h1; cases h1.2
      ·rw [q1] at h1; cases h1
       obtain ⟨cs1, ty1, fz1, g1, g2, g3, g4⟩ := h2.ex (Cont.nmap hi)
       obtain ⟨y, p1, p2⟩ := g4 i hi
       exact ⟨y, by simp [World.cell?, g1, p1], p2⟩
   ·cases h
  ·cases h
 ·rename_i id off len cap
  split at h
  ·rename_i k hk
   have hH := hl _ _ hk
   simp only [cond_eq_ite] at h
   split at h
   ·rename_i hsz
    have hsz : k.sz = sz := Nat.eq_of_beq_eq_true hsz
    cases h
    have hle : off + m * sz ≤ k.c.size := by have := hc.1; simp only [Cd.holds, len', mz_eq, decide_eq_true_eq] at this; exact this
    cases hx with
    | imm _ _ hi => cases hi
    | sl _ _ _ _ b k' hb hh hbx hlc =>
     rw [hH] at hh; cases hh
     rw [mz_eq]
     refine ofHolds b off cap _ rfl (by rw [size_take, size_drop]; omega) (fun i hi => ?_)
     rw [size_take, size_drop] at hi
     obtain ⟨_, h1 | ⟨b', h1, h2⟩⟩ := hm.heap id _ hH
     ·rw [hb] at h1; cases h1.2
     ·rw [hb] at h1; cases h1
      obtain ⟨cs1, ty1, fz1, g1, g2, g3, g4⟩ := h2.ex (Cont.nmap (i := off + i) (by omega))
      obtain ⟨y, p1, p2⟩ := g4 (off + i) (by omega)
      refine ⟨y, by simp [World.cell?, g1, p1], ?_, p2.2⟩
      have p2 := p2.1
      have hv : ((k.c.drop off).take (m * sz)).getV i = k.c.getV (off + i) := by rw [getV_take _ _ _ (by omega), getV_drop]
      cases hkc : k.c with
      | cells l =>
       rw [hkc] at p2 hv
       simp only [Cont.drop, Cont.take] at hv p2 ⊢
       simp only [Cont.getV] at hv
       rw [hv]; exact p2
      | _ =>
       rw [hkc] at p2 hv
       simp only [Cont.drop, Cont.take] at hv p2 ⊢
       rw [hv]; exact p2
   ·cases h
  ·cases h
 ·cases h

theorem run_firstCells {a : Option Addr} {m cap sz : Nat} {cells : List Value} (hlen : cells.length = m * sz) (hz : a = none → m = 0)
  (hcell : ∀ b, a = some b → ∀ j y, cells[j]? = some y → w.cell? (b.add j) = some y) : (Builtin.firstCells sz m (.slice a m cap)).run P w = .ok cells.toArray w := by
 cases a with
 | none =>
  have := hz rfl; subst this
  have : cells = [] := by simpa using hlen
  subst this
  simp [Builtin.firstCells]
 | some b =>
  simp only [Builtin.firstCells]
  have := run_loadCells_list (P := P) (w := w) b cells (hcell b rfl)
  rw [hlen] at this
  exact this

end
end Go.Ab

/-
 append.
-/
set_option linter.unusedVariables false
set_option linter.unusedSimpArgs false
namespace Go.Ab
open Go

structure ElOk (P : Program) (e : TypeId) (sz by_ : Nat) : Prop where
 inf : ∃ i z, P.info? e = some i ∧ i.size = sz ∧ i.bytes = by_ ∧ i.zero = some z ∧ z.cells.size = sz
 pos : by_ ≠ 0

section
variable {P : Program} {G : GL} {F F' : Nat → Prop} {ρ : Nat → Option Nat} {H : Nat → Option HO} {w : World} {look : Nat → Option HO}
 {Sp : SpT} {D : Delta}

theorem run_append_room {sT xT e ty : TypeId} {sz by_ : Nat} (hs : P.underlying sT = some (.slice e)) {dx : TypeDesc} (hx : P.underlying xT = some dx) (hx' : ∀ k, dx ≠ .int k) (he : ElOk P e sz by_)
  {base a : Option Addr} {sLen sCap m cap : Nat} {cells : List Value} (hc : (Builtin.firstCells sz m (.slice a m cap)).run P w = .ok cells.toArray w) (hroom : sLen + m ≤ sCap) :
  (Builtin.append_ #[sT, xT] ty #[.slice base sLen sCap, .slice a m cap]).run P w =
   (match base with
    | some b => ((storeCells (b.add (sLen * sz)) cells).run P w).andThen fun _ w' => .ok (.slice (some b) (sLen + m) sCap) w'
    | none => .ok (.slice none (sLen + m) sCap) w) := by
 obtain ⟨i, z, h1, h2, h3, h4, h5⟩ := he.inf
 have hz : (match dx with | .int _ => true | _ => false) = false := by cases dx <;> simp; exact hx' _ rfl
 unfold Builtin.append_
 simp only [List.getElem?_toArray, List.getElem?_cons_zero, List.getElem?_cons_succ]
 simp only [Sem.run_bind, run_underlying' hs, Result.andThen_ok, run_sizeOf' h1, run_underlying' hx, Sem.run_pure, Builtin.lenOf, h2]
 cases dx <;> simp [Builtin.lenOf, hroom, hc] <;> first | exact absurd rfl (hx' _) | (cases base <;> simp)

theorem run_append_grow {sT xT e ty : TypeId} {sz by_ : Nat} (hs : P.underlying sT = some (.slice e)) {dx : TypeDesc} (hx : P.underlying xT = some dx) (hx' : ∀ k, dx ≠ .int k) (he : ElOk P e sz by_)
  {base a : Option Addr} {sLen sCap m cap : Nat} {cells old : List Value} (hc : ∀ w' : World, w'.heap = w.heap → (Builtin.firstCells sz m (.slice a m cap)).run P w' = .ok cells.toArray w')
  (ho : ∀ w' : World, w'.heap = w.heap → (Builtin.firstCells sz sLen (.slice base sLen sCap)).run P w' = .ok old.toArray w') (hroom : ¬ sLen + m ≤ sCap) (hb : (sLen + m) * by_ ≤ roomMax) :
  ∃ (newCap : Nat) (rest : List Value) (w' : World), sLen + m ≤ newCap ∧ w'.heap = w.heap.push (.cells (old ++ cells ++ rest).toArray e) ∧ (rest.length = (newCap - (sLen + m)) * sz ∧ IoEq G w w') ∧
   (Builtin.append_ #[sT, xT] ty #[.slice base sLen sCap, .slice a m cap]).run P w = .ok (.slice (some ⟨w.heap.size, 0, none⟩) (sLen + m) newCap) w' := by
 have hb : (sLen + m) * by_ ≤ 140737488355328 := hb
 obtain ⟨i, z, h1, h2, h3, h4, h5⟩ := he.inf
 have hpos : i.bytes ≠ 0 := by rw [h3]; exact he.pos
 have hfit : Builtin.nextslicecap (sLen + m) sCap * i.bytes ≤ 281474976710656 := growslice_fits (by omega) (by rw [h3]; exact hb)
 have hneed : sLen + m ≤ 140737488355328 := by
  have : (sLen + m) * 1 ≤ (sLen + m) * by_ := Nat.mul_le_mul_left _ (Nat.pos_of_ne_zero he.pos)
  omega
 let q : Question := .appendCap (sLen + m) sCap e
 let newCap := q.cut (w.tape w.drawn q)
 have hnew : sLen + m ≤ newCap := Nat.le_add_right _ _
 let rest := (Builtin.zeroCells z.cells (newCap - (sLen + m))).toList
 refine ⟨newCap, rest, { w with heap := w.heap.push (.cells (old ++ cells ++ rest).toArray e), drawn := w.drawn + 1 }, hnew, rfl, ⟨by simp [rest, Builtin.zeroCells, h5], ⟨rfl, rfl, fun _ => ⟨rfl, Nat.le_succ _⟩⟩⟩, ?_⟩
 unfold Builtin.append_
 simp only [List.getElem?_toArray, List.getElem?_cons_zero, List.getElem?_cons_succ]
 simp only [Sem.run_bind, run_underlying' hs, Result.andThen_ok, run_sizeOf' h1, run_underlying' hx, Sem.run_pure, Builtin.lenOf, h2]
 have hmax : ¬ ((sLen + m : Nat) : Int) > IntKind.i64.max := by
  have : IntKind.i64.max = 9223372036854775807 := by decide
  omega
 have hti : ∀ w : World, (typeInfo e).run P w = .ok i w := fun w => by simp [typeInfo, h1]
 have hzv : ∀ w : World, (zeroValue e).run P w = .ok z w := fun w => by simp [zeroValue, typeInfo, h1, h4]
 have hfit' : ¬ (Builtin.nextslicecap (sLen + m) sCap * i.bytes > 2 ^ 48) := by omega
 have hch : (choose q).run P w = .ok newCap { w with drawn := w.drawn + 1 } := by
  simp only [choose, Sem.run, q, Question.forced]; rfl
 have hc' := hc { w with drawn := w.drawn + 1 } rfl
 have ho' := ho { w with drawn := w.drawn + 1 } rfl
 have hfin : (match dx with | .int _ => true | _ => false) = false := by cases dx <;> simp; exact hx' _ rfl
 cases dx
 case int k => exact absurd rfl (hx' k)
 all_goals
  simp only [Bool.false_eq_true, if_false, Sem.run_bind, Builtin.lenOf, Sem.run_pure, Result.andThen_ok, hroom, hti, false_or, hpos, and_false, hfit', Bool.not_false, if_true]
  rw [show (choose (.appendCap (sLen + m) sCap e)) = choose q from rfl, hch]
  simp only [Result.andThen_ok, run_askRoom, ho', hc', hzv, newRow, Sem.run_bind, run_newObj, Sem.run_pure]
  have harr : ∀ Z : Array Value, (old ++ cells).toArray ++ Z = (old ++ (cells ++ Z.toList)).toArray := fun Z => by
   apply Array.toList_inj.1; simp
  simp [rest, harr]

def Old (F : Nat → Prop) (ρ : Nat → Option Nat) (H : Nat → Option HO) (w : World) (c : Cont) (old : List Value) : Prop :=
 old.length = c.size ∧ ∀ j y, old[j]? = some y → RelE w F ρ H c j y

theorem relE_app {c yc c' : Cont} {old cells rest : List Value} (hc : c.app yc = some c') (ho : Old F ρ H w c old) (hl : cells.length = yc.size) (hr : ∀ j y, cells[j]? = some y → RelI w F (yc.getV j) y ∧ y.oneCell' = true) :
  c'.size ≤ (old ++ cells ++ rest).length ∧ ∀ i, i < c'.size → ∃ x, (old ++ cells ++ rest)[i]? = some x ∧ RelE w F ρ H c' i x := by
 obtain ⟨s1, s2, s3⟩ := app_spec (w := w) (F := F) (ρ := ρ) (H := H) hc
 refine ⟨by simp [ho.1, hl]; omega, fun i hi => ?_⟩
 by_cases h : i < c.size
 ·have h' : i < old.length := by rw [ho.1]; exact h
  refine ⟨old[i], by simp [List.getElem?_append, h'], s2 i _ h (ho.2 i _ (List.getElem?_eq_getElem h'))⟩
 ·have h' : i - c.size < cells.length := by rw [hl]; omega
  refine ⟨cells[i - c.size], ?_, ?_⟩
  ·have h1 : old.length ≤ i := by rw [ho.1]; omega
   rw [List.append_assoc, List.getElem?_append_right h1, List.getElem?_append_left (by rw [ho.1]; exact h'), ho.1]
   exact List.getElem?_eq_getElem h'
  ·have := s3 (i - c.size) _ (by rw [← hl]; exact h') (hr _ _ (List.getElem?_eq_getElem h')).1 (hr _ _ (List.getElem?_eq_getElem h')).2
   rw [show c.size + (i - c.size) = i by omega] at this
   exact this

theorem relE_keep {w' : World} {ρ' : Nat → Option Nat} {H' : Nat → Option HO} {F' : Nat → Prop} {c : Cont} {xs : List Value} (hw : ∀ b, F b → w'.heap[b]? = w.heap[b]?) (hF : ∀ b, F b → F' b) (hk : HKeep w ρ H w' ρ' H')
  (h : ∀ i, i < c.size → ∃ x, xs[i]? = some x ∧ RelE w F ρ H c i x) : ∀ i, i < c.size → ∃ x, xs[i]? = some x ∧ RelE w' F' ρ' H' c i x :=
 fun i hi => by obtain ⟨x, h1, h2⟩ := h i hi; exact ⟨x, h1, h2.mono hw hF hk⟩

theorem memN_of_mem {id : Nat} : ∀ {ids : List Nat}, id ∈ ids → memN id ids = true
 | [], h => by simp at h
 | i :: r, h => by
  simp only [memN]
  by_cases e : i = id
  ·subst e; simp [beq_self]
  ·rcases List.mem_cons.1 h with h | h
   ·exact absurd h.symm e
   ·simp [beq_ne e, memN_of_mem h]

theorem of_len' {x y : Nat} (h : (Cd.b (len' x y)).holds Sp) : x ≤ y := of_decide_eq_true h

theorem emptyOf_nmap (ty : Nat) : (emptyOf ty).isMap = false := by
 unfold emptyOf; split <;> rfl
theorem emptyOf_size (ty : Nat) : (emptyOf ty).size = 0 := by
 unfold emptyOf; split <;> rfl

set_option maxHeartbeats 400000 in
theorem opAppend_sound (hm : MRel G F ρ H w) (hl : ∀ id o, look id = some o → H id = some o) (hfresh : ∀ i, i ∈ D.al → H i = none) {site sz by_ tk : Nat} {u v : AV} {x y : Value} {sT xT e ty : TypeId}
  (hs : P.underlying sT = some (.slice e)) {dx : TypeDesc} (hx : P.underlying xT = some dx) (hx' : ∀ k, dx ≠ .int k) (he : ElOk P e sz by_)
  (hu : RelV w F ρ H u x) (hv : RelV w F ρ H v y) {d : Dir} (hD : opAppend site look d sz by_ tk u v = some D) (hc : AllC Sp D.cs) :
  Eff G F ρ H w ((Builtin.append_ #[sT, xT] ty #[x, y]).run P w) D := by
 unfold opAppend at hD
 split at hD
 ·rename_i yc m cs hsrc
  split at hD
  ·rename_i yc' ids cs' hfrz
   -- what is frozen
   obtain ⟨F1, f1, f2, f3, f4, f5, f6⟩ := frzAll (look := look) ids F H hm (fun id k hk => .inl (hl _ _ hk))
   have key : AllC Sp cs → AllC Sp cs' → ∃ (a : Option Addr) (cap : Nat) (cells : List Value), y = .slice a m cap ∧ yc'.size = m * sz ∧ cells.length = m * sz ∧ (a = none → m = 0) ∧
     (∀ b, a = some b → ∀ j y, cells[j]? = some y → w.cell? (b.add j) = some y) ∧ (∀ j y, cells[j]? = some y → RelI w F1 (yc'.getV j) y ∧ y.oneCell' = true) := by
    intro h1 h2
    obtain ⟨a, cap, cells, q1, q2, q3, q4, q5, q6⟩ := src_sound hm hl hsrc h1 hv
    obtain ⟨g1, g2⟩ := (frz_sound hm hl f2.keep 60).2.2 _ _ _ _ hfrz h2 (fun id hid b hb => f4 id hid ((frz_ids 60).2.2 _ _ _ _ hfrz id hid) b hb)
    refine ⟨a, cap, cells, q1, g1.trans q2, q3, q4, q5, fun j z hj => ?_⟩
    have hlt : j < yc.size := by rw [q2, ← q3]; exact (List.getElem?_eq_some_iff.1 hj).1
    exact ⟨g2 j hlt z (q6 j z hj), (q6 j z hj).2⟩
   have first : ∀ {a : Option Addr} {n cap : Nat} {cells : List Value}, cells.length = n * sz → (a = none → n = 0) → (∀ b, a = some b → ∀ j y, cells[j]? = some y → w.cell? (b.add j) = some y) →
     ∀ w' : World, w'.heap = w.heap → (Builtin.firstCells sz n (.slice a n cap)).run P w' = .ok cells.toArray w' := by
    intro a n cap cells h1 h2 h3 w' hw
    refine run_firstCells h1 h2 (fun b hb j z hj => ?_)
    have := h3 b hb j z hj
    simp only [World.cell?] at this ⊢
    rw [hw]; exact this
   split at hD
   ·-- an own slice
    rename_i id len
    split at hD
    ·rename_i k hk
     have hH := hl _ _ hk
     simp only [cond_eq_ite] at hD
     split at hD
     ·rename_i hcond
      simp only [Bool.and_eq_true, Bool.not_eq_true'] at hcond
      obtain ⟨hmu, hbx, hmem, hsz⟩ := hcond
      have hsz : k.sz = sz := Nat.eq_of_beq_eq_true hsz
      have hmem : id ∉ ids := by
       intro h
       have : memN id ids = true := memN_of_mem h
       rw [this] at hmem; cases hmem
      split at hD
      ·rename_i c' happ
       cases hD
       obtain ⟨c1, c2, c3⟩ := hc
       obtain ⟨c3, c4⟩ := c3.app
       have hn : k.n = len := c1
       have hbound : (len + m) * by_ ≤ roomMax := of_len' c2
       obtain ⟨a, cap, cells, q1, q2, q3, q4, q5, q6⟩ := key c3 c4
       subst q1
       have hcs : cells.length = yc'.size := by rw [q2, q3]
       -- the block after the freeze
       have hH1 : updL H (frzW look ids) id = some (.blk k) := by
        rcases f5 id k hk with h | h
        ·rw [h, hH]
        ·exact absurd h.1 hmem
       obtain ⟨s1, s2, s3⟩ := app_spec (w := w) (F := F1) (ρ := ρ) (H := updL H (frzW look ids)) happ
       have hksz : k.c.size = len * sz := by rw [(hm.heap id _ hH).1, hn, hsz]
       let k' : Blk := { k with c := c', n := len + m, cap := none }
       have hk'sz : k'.c.size = k'.n * k'.sz := by
        show c'.size = (len + m) * k.sz
        rw [s1, q2, hksz, hsz, Nat.add_mul]
       -- the three ways in which the slice may lie
       have fullGo : FullOk w ρ id len k x → Eff G F ρ H w ((Builtin.append_ #[sT, xT] ty #[x, .slice a m cap]).run P w)
         { v := .full id (len + m), ws := frzW look ids ++ [(id, .blk k')], al := [], cs := .eqn k.n len :: .b (len' ((len + m) * by_) roomMax) :: (cs ++ cs') } := by
        intro hfull
        -- growing into a new row
        have grow : ∀ (base : Option Addr) (sCap : Nat) (old : List Value), x = .slice base len sCap → ¬ len + m ≤ sCap → Old F1 ρ (updL H (frzW look ids)) w k.c old →
          (base = none → len = 0) → (∀ b, base = some b → ∀ j y, old[j]? = some y → w.cell? (b.add j) = some y) →
          Eff G F ρ H w ((Builtin.append_ #[sT, xT] ty #[x, .slice a m cap]).run P w)
           { v := .full id (len + m), ws := frzW look ids ++ [(id, .blk k')], al := [], cs := .eqn k.n len :: .b (len' ((len + m) * by_) roomMax) :: (cs ++ cs') } := by
         intro base sCap old hxs hroom hold hbn hbc
         subst hxs
         obtain ⟨newCap, rest, w', r1, r2, r3, r4⟩ := run_append_grow (G := G) (ty := ty) hs hx hx' he (first (cap := cap) q3 q4 q5) (first (a := base) (n := len) (cap := sCap) (cells := old) (by rw [hold.1, hksz]) hbn hbc) hroom hbound
         have hmpos : 0 < m := by
          rcases hfull with ⟨rfl, _, _, e⟩ | ⟨rfl, _, _, _, e⟩ | ⟨_, _, _, _, _, _, _, _, e, hle, _, _⟩
          ·cases e; omega
          ·cases e; omega
          ·cases e; omega
         obtain ⟨g1, g2⟩ := relE_app (rest := rest) happ hold hcs q6
         obtain ⟨ρ', p1, p2, p3, p4⟩ := f1.move (w' := w') (k' := k') hH1 hbx hbx (show k.n < len + m by omega) r2 r3.2 (fun ρ' hk hρ => by
          refine ⟨hk'sz, .inr ⟨w.heap.size, hρ, RelB.ofCells (app_nmap happ).2 ⟨(old ++ cells ++ rest).toArray, e, (0, 0), push_new r2, by simp, by simpa using g1, fun i hi => ?_⟩ (fun _ h => absurd (f1.frz _ h) (Nat.lt_irrefl _)) (fun e => by rw [show k'.mu = k.mu from rfl, hmu] at e; cases e)⟩⟩
          obtain ⟨z, z1, z2⟩ := relE_keep (fun b hb => push_old r2 (f1.frz b hb)) (fun _ h => h) hk g2 i hi
          exact ⟨z, by simpa using z1, z2⟩)
         refine ⟨_, w', F1, ρ', r4, ?_⟩
         rw [updL_app]
         refine ⟨p1, f2.trans p2, f3.trans p3, .full id (len + m) k' _ (upd_same _ _ _) (Nat.le_refl _) ⟨_, _, _, rfl⟩ (fun _ => .inr (.inr ⟨fun _ => by omega, w.heap.size, newCap, (old ++ cells ++ rest).toArray, e, (0, 0), p4, push_new r2, rfl, r1, ?_, fun n e => by cases e⟩))⟩
         show newCap * k.sz ≤ _
         rw [hsz]
         simp only [List.size_toArray, List.length_append, r3, q3, hold.1, hksz]
         rw [← Nat.add_mul, ← Nat.add_mul]
         exact Nat.mul_le_mul_right _ (by omega)
        rcases hfull with ⟨rfl, hnil, hcap0, rfl⟩ | ⟨rfl, hnil, hcap0, a0, rfl⟩ | ⟨hnil, b, sCap, ocs, oty, ofz, e1, e2, rfl, e3, e4, e5⟩
        ·-- the nil slice
         have hc0 : k.c.size = 0 := by rw [hksz]; simp
         by_cases hroom : 0 + m ≤ 0
         ·have hm0 : m = 0 := by omega
          subst hm0
          have hrun := run_append_room (ty := ty) (base := none) (sLen := 0) (sCap := 0) hs hx hx' he (first (cap := cap) q3 q4 q5 w rfl) hroom
          have hrel : RelO G w F1 ρ (updL H (frzW look ids)) id (.blk k) := f1.heap id _ hH1
          obtain ⟨p1, p2, p3⟩ := f1.setH (k' := k') hH1 rfl (show (0 + 0 : Nat) = k.n by omega) rfl rfl (.inr rfl) (fun hk => by
           refine ⟨hk'sz, ?_⟩
           have hz : k'.c.size = 0 := by show c'.size = 0; rw [s1, q2, hc0]; simp
           rcases hrel.2 with h | ⟨b, h1, h2⟩
           ·exact .inl ⟨rfl, h.2⟩
           ·obtain ⟨cs1, ty1, fz1, z1, z2, z3, z4⟩ := h2.ex (app_nmap happ).1
            exact .inr ⟨b, h1, RelB.ofCells (app_nmap happ).2 ⟨cs1, ty1, fz1, z1, z2, by omega, fun i hi => by omega⟩ h2.mu h2.fr⟩)
          refine ⟨_, w, F1, ρ, hrun, ?_⟩
          rw [updL_app]
          exact ⟨p1, f2.trans p2, f3.trans p3, .full id _ k' _ (upd_same _ _ _) (Nat.le_refl _) ⟨_, _, _, rfl⟩ (fun _ => .inl ⟨rfl, hnil, (fun n e => by cases e), rfl⟩)⟩
         ·exact grow none 0 [] rfl hroom ⟨by rw [hc0]; rfl, fun j y h => by simp at h⟩ (fun _ => rfl) (fun b hb => by cases hb)
        ·have hc0 : k.c.size = 0 := by rw [hksz]; simp
         by_cases hroom : 0 + m ≤ 0
         ·have hm0 : m = 0 := by omega
          subst hm0
          have hrun := run_append_room (ty := ty) (base := some a0) (sLen := 0) (sCap := 0) hs hx hx' he (first (cap := cap) q3 q4 q5 w rfl) hroom
          have hcl : cells = [] := by simpa using q3
          subst hcl
          simp only [storeCells, Sem.run_pure, Result.andThen_ok] at hrun
          have hrel : RelO G w F1 ρ (updL H (frzW look ids)) id (.blk k) := f1.heap id _ hH1
          obtain ⟨p1, p2, p3⟩ := f1.setH (k' := k') hH1 rfl (show (0 + 0 : Nat) = k.n by omega) rfl rfl (.inr rfl) (fun hk => by
           refine ⟨hk'sz, ?_⟩
           have hz : k'.c.size = 0 := by show c'.size = 0; rw [s1, q2, hc0]; simp
           rcases hrel.2 with h | ⟨b, h1, h2⟩
           ·exact .inl ⟨rfl, h.2⟩
           ·obtain ⟨cs1, ty1, fz1, z1, z2, z3, z4⟩ := h2.ex (app_nmap happ).1
            exact .inr ⟨b, h1, RelB.ofCells (app_nmap happ).2 ⟨cs1, ty1, fz1, z1, z2, by omega, fun i hi => by omega⟩ h2.mu h2.fr⟩)
          refine ⟨_, w, F1, ρ, hrun, ?_⟩
          rw [updL_app]
          exact ⟨p1, f2.trans p2, f3.trans p3, .full id _ k' _ (upd_same _ _ _) (Nat.le_refl _) ⟨_, _, _, rfl⟩ (fun _ => .inr (.inl ⟨rfl, hnil, (fun n e => by cases e), _, rfl⟩))⟩
         ·exact grow (some a0) 0 [] rfl hroom ⟨by rw [hc0]; rfl, fun j y h => by simp at h⟩ (fun e => by cases e) (fun b hb j y h => by simp at h)
        ·-- it lies in its block
         obtain ⟨_, h1 | ⟨b', h1, hB⟩⟩ := f1.heap id _ hH1
         ·rw [e1] at h1; cases h1.2
         rw [e1] at h1; cases h1
         obtain ⟨ocs', oty', ofz', z1, z2, z3, z4⟩ := hB.ex (app_nmap happ).1
         rw [e2] at z1; cases z1
         have hFb : ¬ F1 b := hB.mu hmu
         by_cases hroom : len + m ≤ sCap
         ·-- there is room
          have hfit : len * sz + cells.length ≤ ocs.size := by
           rw [q3, ← Nat.add_mul]
           refine Nat.le_trans (Nat.mul_le_mul_right sz hroom) ?_
           rw [← hsz]; exact e4
          have hone : ∀ v ∈ cells, v.oneCell' = true := by
           intro z hz
           obtain ⟨j, hj, rfl⟩ := List.getElem_of_mem hz
           exact (q6 j _ (List.getElem?_eq_getElem hj)).2
          obtain ⟨w', cs', p1, p2, p3, p4, p5, p6, p7, p8⟩ := run_storeCells (G := G) (P := P) b oty ofz cells (len * sz) 0 ocs w hone e2 z2 (by omega)
          have hrun := run_append_room (ty := ty) (base := some ⟨b, 0, none⟩) (sLen := len) (sCap := sCap) hs hx hx' he (first (cap := cap) q3 q4 q5 w rfl) hroom
          simp only [addr_add, Nat.zero_add, p1, Result.andThen_ok] at hrun
          obtain ⟨g1, g2, g3⟩ := f1.write (w' := w') (o' := .blk k') hH1 e1 hFb p2 p6 p7 p8 (fun cs0 ty0 fz0 h => by rw [e2] at h; cases h; exact ⟨cs', oty, ofz, rfl, p3⟩) rfl
           (fun k0 h => by cases h; exact ⟨k', rfl, show k.n ≤ len + m by omega, fun _ => ⟨rfl, rfl, .inr rfl⟩⟩) (fun hk => by
            refine ⟨hk'sz, .inr ⟨b, e1, RelB.ofCells (app_nmap happ).2 ⟨cs', oty, ofz, p2, by rw [p3]; exact z2, ?_, fun i hi => ?_⟩ (fun _ => hFb) (fun e => by rw [show k'.mu = k.mu from rfl, hmu] at e; cases e)⟩⟩
            ·rw [p3]; show c'.size ≤ _; rw [s1, q2, hksz, ← q3]; exact hfit
            ·have hwF : ∀ b, F1 b → w'.heap[b]? = w.heap[b]? := fun j hj => p6 j (fun e => hFb (e ▸ hj))
             have hi : i < c'.size := hi
             by_cases hin : i < k.c.size
             ·obtain ⟨z, y1, y2⟩ := z4 i hin
              refine ⟨z, ?_, (s2 i z hin y2).mono hwF (fun _ h => h) hk⟩
              rw [p5 i (by rw [hksz] at hin; omega)]; exact y1
             ·have hj : i - k.c.size < cells.length := by rw [hcs]; omega
              refine ⟨cells[i - k.c.size], ?_, ?_⟩
              ·have := p4 (i - k.c.size) hj
               rw [show len * sz + 0 + (i - k.c.size) = i by rw [← hksz]; omega] at this
               rw [this]; exact List.getElem?_eq_getElem hj
              ·have := s3 (i - k.c.size) _ (by rw [← hcs]; exact hj) (q6 _ _ (List.getElem?_eq_getElem hj)).1 (q6 _ _ (List.getElem?_eq_getElem hj)).2
               rw [show k.c.size + (i - k.c.size) = i by omega] at this
               exact this.mono hwF (fun _ h => h) hk)
          refine ⟨_, w', F1, ρ, hrun, ?_⟩
          rw [updL_app]
          refine ⟨g1, f2.trans g2, f3.trans g3, .full id (len + m) k' _ (upd_same _ _ _) (Nat.le_refl _) ⟨_, _, _, rfl⟩ (fun _ => .inr (.inr ⟨fun h => by have := hnil h; omega, b, sCap, cs', oty, ofz, e1, p2, rfl, hroom, by rw [p3]; exact e4, fun n e => by cases e⟩))⟩
         ·-- it grows elsewhere
          refine grow (some ⟨b, 0, none⟩) sCap (ocs.toList.take k.c.size) rfl hroom ⟨by simp; omega, fun j y hj => ?_⟩ (fun e => by cases e) (fun b' hb j y hj => ?_)
          ·have hlt : j < k.c.size := by have := (List.getElem?_eq_some_iff.1 hj).1; simp at this; omega
           obtain ⟨z, y1, y2⟩ := z4 j hlt
           rw [List.getElem?_take, if_pos hlt] at hj
           simp at hj y1
           rw [hj] at y1; cases y1; exact y2
          ·cases hb
           have hlt : j < k.c.size := by have := (List.getElem?_eq_some_iff.1 hj).1; simp at this; omega
           rw [List.getElem?_take, if_pos hlt] at hj
           rw [addr_add]
           simp only [World.cell?, e2, Nat.zero_add]
           simpa using hj
       cases hu with
       | imm _ _ hi => cases hi
       | full _ _ k1 _ hh hle hp hxx =>
        rw [hH] at hh; cases hh
        exact fullGo (hxx hn)
      ·cases hD
     ·cases hD
    ·cases hD
   ·-- the nil slice
    split at hD
    ·rename_i c' happ
     cases hD
     obtain ⟨c2, c3⟩ := hc
     obtain ⟨c3, c4⟩ := c3.app
     have hbound : m * by_ ≤ roomMax := of_len' c2
     obtain ⟨a, cap, cells, q1, q2, q3, q4, q5, q6⟩ := key c3 c4
     subst q1
     have hcs : cells.length = yc'.size := by rw [q2, q3]
     cases hu with
     | imm _ _ hi =>
      cases hi
      have hsite : H site = none := hfresh site (by simp)
      have hlk : look site = none := by
       cases e : look site with
       | none => rfl
       | some o => have := hl _ _ e; rw [hsite] at this; cases this
      have hH1 : updL H (frzW look ids) site = none := by rw [f6 site hlk]; exact hsite
      obtain ⟨s1, s2, s3⟩ := app_spec (w := w) (F := F1) (ρ := ρ) (H := updL H (frzW look ids)) happ
      have hsz' : c'.size = m * sz := by rw [s1, emptyOf_size, q2, Nat.zero_add]
      by_cases hroom : 0 + m ≤ 0
      ·have hm0 : m = 0 := by omega
       subst hm0
       have hrun := run_append_room (ty := ty) (base := none) (sLen := 0) (sCap := 0) hs hx hx' he (first (cap := cap) q3 q4 q5 w rfl) hroom
       obtain ⟨p1, p2, p3⟩ := f1.ghost (k := { c := c', sz, n := 0, cap := none, nil := some true, mu := true, bx := false }) hH1 rfl (by rw [hsz']; simp)
       refine ⟨_, w, F1, ρ, hrun, ?_⟩
       rw [updL_app]
       exact ⟨p1, f2.trans p2, f3.trans p3, .full site _ _ _ (upd_same _ _ _) (Nat.le_refl _) ⟨_, _, _, rfl⟩ (fun _ => .inl ⟨rfl, by simp, (fun n e => by cases e), rfl⟩)⟩
      ·have hmpos : 0 < m := by omega
       obtain ⟨newCap, rest, w', r1, r2, r3, r4⟩ := run_append_grow (G := G) (ty := ty) (base := none) (sLen := 0) (sCap := 0) (old := []) hs hx hx' he (first (cap := cap) q3 q4 q5) (fun w' _ => by simp [Builtin.firstCells]) hroom (by simpa using hbound)
       obtain ⟨g1, g2⟩ := relE_app (w := w) (F := F1) (ρ := ρ) (H := updL H (frzW look ids)) (old := []) (rest := rest) happ ⟨by rw [emptyOf_size]; rfl, fun j y h => by simp at h⟩ hcs q6
       obtain ⟨ρ', p1, p2, p3, p4, _⟩ := f1.alloc (w' := w') (o := .blk { c := c', sz, n := m, cap := none, nil := some true, mu := true, bx := false }) hH1 r2 r3.2 (fun ρ' H' hk hρ => by
        refine ⟨hsz', .inr ⟨w.heap.size, hρ, RelB.ofCells (app_nmap happ).2 ⟨([] ++ cells ++ rest).toArray, e, (0, 0), push_new r2, by simp, by simpa using g1, fun i hi => ?_⟩ (fun _ h => absurd (f1.frz _ h) (Nat.lt_irrefl _)) (fun e => by cases e)⟩⟩
        obtain ⟨z, z1, z2⟩ := relE_keep (fun b hb => push_old r2 (f1.frz b hb)) (fun _ h => h) hk g2 i hi
        exact ⟨z, by simpa using z1, z2⟩)
       refine ⟨_, w', F1, ρ', r4, ?_⟩
       rw [updL_app]
       refine ⟨p1, f2.trans p2, f3.trans p3, ?_⟩
       rw [Nat.zero_add]
       refine .full site m _ _ (upd_same _ _ _) (Nat.le_refl _) ⟨_, _, _, rfl⟩ (fun _ => .inr (.inr ⟨fun _ => hmpos, w.heap.size, newCap, ([] ++ cells ++ rest).toArray, e, (0, 0), p4, push_new r2, rfl, by omega, ?_, fun n e => by cases e⟩))
       simp only [List.nil_append, List.size_toArray, List.length_append, r3, q3]
       rw [← Nat.add_mul]
       exact Nat.mul_le_mul_right _ (by omega)
    ·cases hD
   ·-- a slice without spare room
    rename_i c len cap0
    split at hD
    ·rename_i c' happ
     -- a new row
     have grow : ∀ (nil : Option Bool) (cs0 : List Cd), AllC Sp cs → AllC Sp cs' → c.size = len * sz → (len + m) * by_ ≤ roomMax → 0 < m → H site = none → cap0 = len →
       Eff G F ρ H w ((Builtin.append_ #[sT, xT] ty #[x, y]).run P w)
        { v := .full site (len + m), ws := frzW look ids ++ [(site, .blk { c := c', sz, n := len + m, cap := none, nil := nil, mu := true, bx := false })], al := [site], cs := cs0 } := by
      intro nil cs0 c3 c4 hcsz hbound hmpos hsite hcap
      subst hcap
      obtain ⟨a, cap, cells, q1, q2, q3, q4, q5, q6⟩ := key c3 c4
      subst q1
      have hcs : cells.length = yc'.size := by rw [q2, q3]
      have hlk : look site = none := by
       cases e : look site with
       | none => rfl
       | some o => have := hl _ _ e; rw [hsite] at this; cases this
      have hH1 : updL H (frzW look ids) site = none := by rw [f6 site hlk]; exact hsite
      obtain ⟨s1, s2, s3⟩ := app_spec (w := w) (F := F1) (ρ := ρ) (H := updL H (frzW look ids)) happ
      have hsz' : c'.size = (cap0 + m) * sz := by rw [s1, hcsz, q2, Nat.add_mul]
      have go : ∀ (base : Option Addr) (old : List Value), x = .slice base cap0 cap0 → Old F1 ρ (updL H (frzW look ids)) w c old → (base = none → cap0 = 0) → (∀ b, base = some b → ∀ j y, old[j]? = some y → w.cell? (b.add j) = some y) →
        Eff G F ρ H w ((Builtin.append_ #[sT, xT] ty #[x, .slice a m cap]).run P w)
         { v := .full site (cap0 + m), ws := frzW look ids ++ [(site, .blk { c := c', sz, n := cap0 + m, cap := none, nil := nil, mu := true, bx := false })], al := [site], cs := cs0 } := by
       intro base old hxs hold hbn hbc
       subst hxs
       obtain ⟨newCap, rest, w', r1, r2, r3, r4⟩ := run_append_grow (G := G) (ty := ty) hs hx hx' he (first (cap := cap) q3 q4 q5) (first (a := base) (n := cap0) (cap := cap0) (cells := old) (by rw [hold.1, hcsz]) hbn hbc) (by omega) hbound
       obtain ⟨g1, g2⟩ := relE_app (rest := rest) happ hold hcs q6
       obtain ⟨ρ', p1, p2, p3, p4, _⟩ := f1.alloc (w' := w') (o := .blk { c := c', sz, n := cap0 + m, cap := none, nil := nil, mu := true, bx := false }) hH1 r2 r3.2 (fun ρ' H' hk hρ => by
        refine ⟨hsz', .inr ⟨w.heap.size, hρ, RelB.ofCells (app_nmap happ).2 ⟨(old ++ cells ++ rest).toArray, e, (0, 0), push_new r2, by simp, by simpa using g1, fun i hi => ?_⟩ (fun _ h => absurd (f1.frz _ h) (Nat.lt_irrefl _)) (fun e => by cases e)⟩⟩
        obtain ⟨z, z1, z2⟩ := relE_keep (fun b hb => push_old r2 (f1.frz b hb)) (fun _ h => h) hk g2 i hi
        exact ⟨z, by simpa using z1, z2⟩)
       refine ⟨_, w', F1, ρ', r4, ?_⟩
       rw [updL_app]
       refine ⟨p1, f2.trans p2, f3.trans p3, .full site (cap0 + m) _ _ (upd_same _ _ _) (Nat.le_refl _) ⟨_, _, _, rfl⟩ (fun _ => .inr (.inr ⟨fun _ => by omega, w.heap.size, newCap, (old ++ cells ++ rest).toArray, e, (0, 0), p4, push_new r2, rfl, r1, ?_, fun n e => by cases e⟩))⟩
       simp only [List.size_toArray, List.length_append, r3, q3, hold.1, hcsz]
       rw [← Nat.add_mul, ← Nat.add_mul]
       exact Nat.mul_le_mul_right _ (by omega)
      cases hu with
      | imm _ _ hi =>
       cases hi with
       | imm _ _ _ b o cap' xs hF hcell hr ho hle hcap =>
        have := hcap _ rfl; subst this
        refine go (some ⟨b, o, none⟩) ((List.range c.size).map xs) rfl ⟨by simp, fun j y hj => ?_⟩ (fun e => by cases e) (fun b' hb j y hj => ?_)
        ·have hlt : j < c.size := by have := (List.getElem?_eq_some_iff.1 hj).1; simpa using this
         simp [hlt] at hj
         subst hj
         have h1 : RelI w F1 (c.getV j) (xs j) := (hr j hlt).mono (fun _ _ => rfl) f2.keep
         refine ⟨?_, ho j hlt⟩
         cases c <;> first | exact h1 | exact h1.toV
        ·cases hb
         have hlt : j < c.size := by have := (List.getElem?_eq_some_iff.1 hj).1; simpa using this
         simp [hlt] at hj
         subst hj
         rw [addr_add]; exact hcell j hlt
       | imm0 _ _ a0 hc0 hcap =>
        exact go a0 [] rfl ⟨by rw [hc0]; rfl, fun j y h => by simp at h⟩ (fun _ => rfl) (fun b hb j y h => by simp at h)
     split at hD
     ·cases hD
      obtain ⟨c0, c1, c2, c5, c3⟩ := hc
      obtain ⟨c3, c4⟩ := c3.app
      have hcsz : c.size = len * sz := by have := c1; simp only [Cd.holds, mz_eq] at this; exact this
      exact grow _ _ c3 c4 hcsz (of_len' c2) (by simpa [Cd.holds, ltn] using c5) (hfresh site (by simp)) c0
     ·cases hD
      obtain ⟨c0, c1, c2, c5, c3⟩ := hc
      obtain ⟨c3, c4⟩ := c3.app
      have hlen0 : len = 0 := c0
      have hcap0 : cap0 = 0 := c1
      have hcs0 : c.size = 0 := c2
      subst hlen0 hcap0
      have hbound : m * by_ ≤ roomMax := of_len' c5
      have hsite : H site = none := hfresh site (by simp)
      by_cases hm0 : 0 < m
      ·have := grow none (.eqn 0 0 :: .eqn 0 0 :: .eqn c.size 0 :: .b (len' (m * by_) roomMax) :: (cs ++ cs')) c3 c4 (by rw [hcs0]; simp) (by rw [Nat.zero_add]; exact hbound) hm0 hsite rfl
       rw [Nat.zero_add] at this
       exact this
      ·have hm0 : m = 0 := by omega
       subst hm0
       obtain ⟨a, cap, cells, q1, q2, q3, q4, q5, q6⟩ := key c3 c4
       subst q1
       have hlk : look site = none := by
        cases e : look site with
        | none => rfl
        | some o => have := hl _ _ e; rw [hsite] at this; cases this
       have hH1 : updL H (frzW look ids) site = none := by rw [f6 site hlk]; exact hsite
       obtain ⟨s1, s2, s3⟩ := app_spec (w := w) (F := F1) (ρ := ρ) (H := updL H (frzW look ids)) happ
       have hcl : cells = [] := by simpa using q3
       subst hcl
       obtain ⟨p1, p2, p3⟩ := f1.ghost (k := { c := c', sz, n := 0, cap := none, nil := none, mu := true, bx := false }) hH1 rfl (by rw [s1, hcs0, q2]; simp)
       have fin : ∀ base : Option Addr, x = .slice base 0 0 → Eff G F ρ H w ((Builtin.append_ #[sT, xT] ty #[x, .slice a 0 cap]).run P w)
         { v := .full site 0, ws := frzW look ids ++ [(site, .blk { c := c', sz, n := 0, cap := none, nil := none, mu := true, bx := false })], al := [site], cs := .eqn 0 0 :: .eqn 0 0 :: .eqn c.size 0 :: .b (len' (0 * by_) roomMax) :: (cs ++ cs') } := by
        intro base hxb
        subst hxb
        have hrun := run_append_room (ty := ty) (base := base) (sLen := 0) (sCap := 0) hs hx hx' he (first (cap := cap) q3 q4 q5 w rfl) (Nat.le_refl _)
        have hrun' : (Builtin.append_ #[sT, xT] ty #[.slice base 0 0, .slice a 0 cap]).run P w = .ok (.slice base 0 0) w := by
         rw [hrun]
         cases base <;> simp [storeCells]
        refine ⟨_, w, F1, ρ, hrun', ?_⟩
        rw [updL_app]
        refine ⟨p1, f2.trans p2, f3.trans p3, .full site 0 _ _ (upd_same _ _ _) (Nat.le_refl _) ⟨_, _, _, rfl⟩ (fun _ => ?_)⟩
        cases base with
        | none => exact .inl ⟨rfl, by simp, (fun n e => by cases e), rfl⟩
        | some b => exact .inr (.inl ⟨rfl, by simp, (fun n e => by cases e), b, rfl⟩)
       cases hu with
       | imm _ _ hi =>
        cases hi with
        | imm _ _ _ b o cap' xs hF hcell hr ho hle hcap =>
         have := hcap _ rfl; subst this
         exact fin _ rfl
        | imm0 _ _ a0 hc0 hcap => exact fin _ rfl
    ·cases hD
   ·cases hD
  ·cases hD
 ·cases hD

end
end Go.Ab

/-
 Slices cut, slice literals, make.
-/
set_option linter.unusedVariables false
set_option linter.unusedSimpArgs false
namespace Go.Ab
open Go
section
variable {P : Program} {G : GL} {F F' : Nat → Prop} {ρ : Nat → Option Nat} {H : Nat → Option HO} {w : World} {look : Nat → Option HO}
 {Sp : SpT} {D : Delta}

theorem Eff.frz (hm : MRel G F ρ H w) (hl : ∀ id o, look id = some o → H id = some o) {ids : List Nat} {r : Result Value} {v : AV} {cs : List Cd}
  (h : ∀ F', (∀ b, F b → F' b) → (∀ id, id ∈ ids → (∃ k, look id = some (.blk k)) → ∀ b, ρ id = some b → F' b) → ∃ x, r = .ok x w ∧ RelI w F' v x) :
  Eff G F ρ H w r { v := v, ws := frzW look ids, al := [], cs := cs } := by
 obtain ⟨F1, f1, f2, f3, f4, f5, f6⟩ := frzAll (look := look) ids F H hm (fun id k hk => .inl (hl _ _ hk))
 obtain ⟨x, h1, h2⟩ := h F1 f2.keep f4
 exact ⟨x, w, F1, ρ, h1, f1, f2, f3, h2.toV⟩

theorem imm_cut {c : Cont} {len : Nat} {cap : Option Nat} {b o cap' : Nat} {xs : Nat → Value} (a n sz : Nat) (newcap : Nat) (hF : F b)
  (hc : ∀ i, i < c.size → w.cell? ⟨b, o + i, none⟩ = some (xs i)) (hr : ∀ i, i < c.size → RelI w F (c.getV i) (xs i)) (ho : ∀ i, i < c.size → (xs i).oneCell' = true) (hn : n ≤ newcap) :
  RelI w F (.imm ((c.drop a).take sz) n none) (.slice (some ⟨b, o + a, none⟩) n newcap) := by
 refine .imm _ n none b (o + a) newcap (fun i => xs (a + i)) hF (fun i hi => ?_) (fun i hi => ?_) (fun i hi => ?_) hn (fun n e => by cases e) <;> rw [size_take, size_drop] at hi
 ·have := hc (a + i) (by omega)
  rw [Nat.add_assoc]; exact this
 ·rw [getV_take _ _ _ (by omega), getV_drop]; exact hr (a + i) (by omega)
 ·exact ho (a + i) (by omega)

theorem take_all (c : Cont) (n : Nat) (h : c.size ≤ n) : c.take n = c := by
 cases c <;> simp only [Cont.take, Cont.size] at * <;> rw [List.take_of_length_le h]
theorem drop_zero (c : Cont) : c.drop 0 = c := by cases c <;> rfl

theorem opWin_run {id off len cap sz : Nat} {lo hi mx : Bool} {bs : List AV} {xs : List Value} (hb : RelVs w F ρ H bs xs) (hlen : bs.length = (if lo then 1 else 0) + ((if hi then 1 else 0) + (if mx then 1 else 0))) (hlc : len ≤ cap)
  (hD : opWin id off len cap sz lo hi mx bs = some D) (hc : AllC Sp D.cs) (isS : Bool) :
  ∃ l h m, (Instr.sliceBounds isS len cap (if lo then xs[0]? else none) (if hi then (if lo then xs[1]? else xs[0]?) else none) (if mx then (if lo then (if hi then xs[2]? else xs[1]?) else (if hi then xs[1]? else xs[0]?)) else none)).run P w = .ok (l, h, m) w ∧
   l ≤ h ∧ h ≤ m ∧ D.v = .sl id (off + l * sz) (h - l) (m - l) ∧ (m = l → l = 0) ∧ D.ws = [] ∧ D.al = [] := by
 unfold opWin at hD
 split at hD
 ·cases hD
  refine ⟨0, len, cap, by simp [Instr.sliceBounds], Nat.zero_le _, hlc, by simp, fun h => rfl, rfl, rfl⟩
 ·split at hD
  ·rename_i k l hx1
   have hcs := val_cs hD; rw [hcs] at hc
   obtain ⟨c1, c2, c3, _⟩ := hc
   simp only [Cd.holds, leb, len', ltn, decide_eq_true_eq] at c1 c2 c3
   cases hb with
   | nil => simp at hlen
   | cons v _ y ys hv hs =>
    simp only [x1, List.getD_cons_zero] at hx1
    subst hx1
    have := hv.ints; subst this
    cases hD
    refine ⟨l.toNat, len, cap, ?_, by omega, hlc, by rw [az_eq, mz_eq], fun h => by omega, rfl, rfl⟩
    simp [Instr.sliceBounds, run_sliceBound k l len _ c1 (by omega)]
  ·cases hD
 ·split at hD
  ·rename_i k h hx1
   have hcs := val_cs hD; rw [hcs] at hc
   obtain ⟨c1, c2, _⟩ := hc
   simp only [Cd.holds, leb, len', ltn, decide_eq_true_eq] at c1 c2
   cases hb with
   | nil => simp at hlen
   | cons v _ y ys hv hs =>
    simp only [x1, List.getD_cons_zero] at hx1
    subst hx1
    have := hv.ints; subst this
    cases hD
    refine ⟨0, h.toNat, cap, ?_, by omega, c2, by simp, fun h => rfl, rfl, rfl⟩
    simp [Instr.sliceBounds, run_sliceBound k h cap _ c1 (by omega)]
  ·cases hD
 ·split at hD
  ·rename_i k l k' h hx1 hx2
   have hcs := val_cs hD; rw [hcs] at hc
   obtain ⟨c1, c2, c3, c4, _⟩ := hc
   simp only [Cd.holds, leb, len', ltn, decide_eq_true_eq] at c1 c2 c3 c4
   cases hb with
   | nil => simp at hlen
   | cons v _ y ys hv hs =>
    cases hs with
    | nil => simp at hlen
    | cons v2 _ y2 ys2 hv2 hs2 =>
     simp only [x1, List.getD_cons_zero] at hx1
     simp only [x2, List.getD_cons_succ, List.getD_cons_zero] at hx2
     subst hx1; subst hx2
     have := hv.ints; subst this
     have := hv2.ints; subst this
     cases hD
     refine ⟨l.toNat, h.toNat, cap, ?_, by omega, c3, by rw [az_eq, mz_eq], fun h => by omega, rfl, rfl⟩
     simp [Instr.sliceBounds, run_sliceBound k' h cap _ (by omega) (by omega), run_sliceBound k l h.toNat _ c1 (by omega)]
  ·cases hD
 ·split at hD
  ·rename_i k h k' m hx1 hx2
   have hcs := val_cs hD; rw [hcs] at hc
   obtain ⟨c1, c2, c3, _⟩ := hc
   simp only [Cd.holds, leb, len', ltn, decide_eq_true_eq] at c1 c2 c3
   cases hb with
   | nil => simp at hlen
   | cons v _ y ys hv hs =>
    cases hs with
    | nil => simp at hlen
    | cons v2 _ y2 ys2 hv2 hs2 =>
     simp only [x1, List.getD_cons_zero] at hx1
     simp only [x2, List.getD_cons_succ, List.getD_cons_zero] at hx2
     subst hx1; subst hx2
     have := hv.ints; subst this
     have := hv2.ints; subst this
     cases hD
     refine ⟨0, h.toNat, m.toNat, ?_, by omega, by omega, by simp, fun h => rfl, rfl, rfl⟩
     simp [Instr.sliceBounds, run_sliceBound k' m cap _ (by omega) (by omega), run_sliceBound k h m.toNat _ c1 (by omega)]
  ·cases hD
 ·cases hD

theorem win_addr {b off l m sz : Nat} (h : m = l → l = 0) : (if m = l then (⟨b, off, none⟩ : Addr) else (⟨b, off, none⟩ : Addr).add (l * sz)) = ⟨b, off + l * sz, none⟩ := by
 split
 ·rename_i e; have := h e; subst this; simp
 ·exact addr_add _ _ _

theorem opSlice_sound (hm : MRel G F ρ H w) (hl : ∀ id o, look id = some o → H id = some o) {sz : Nat} {lo hi mx : Bool} {v : AV} {bs : List AV} {x : Value} {xs : List Value} {t e : TypeId} {i : TypeInfo}
  (ht : P.underlying t = some (.slice e)) (hi' : P.info? e = some i) (hsz : i.size = sz) (hx : RelV w F ρ H v x) (hb : RelVs w F ρ H bs xs)
  (hlen : bs.length = (if lo then 1 else 0) + ((if hi then 1 else 0) + (if mx then 1 else 0)))
  {d : Dir} (hD : opSlice look d sz lo hi mx v bs = some D) (hc : AllC Sp D.cs) :
  Eff G F ρ H w ((Instr.sliceAt t x (if lo then xs[0]? else none) (if hi then (if lo then xs[1]? else xs[0]?) else none) (if mx then (if lo then (if hi then xs[2]? else xs[1]?) else (if hi then xs[1]? else xs[0]?)) else none)).run P w) D := by
 have hrun : ∀ (a : Option Addr) (len cap : Nat) (l h m : Option Value), (Instr.sliceAt t (.slice a len cap) l h m).run P w =
   ((Instr.sliceBounds true len cap l h m).run P w).andThen fun q w' => .ok (.slice (if q.2.2 = q.1 then a else a.map (·.add (q.1 * sz))) (q.2.1 - q.1) (q.2.2 - q.1)) w' := fun a len cap l h m => by
  simp only [Instr.sliceAt, Instr.slice, Sem.run_bind, run_underlying' ht, Result.andThen_ok]
  cases hq : (Instr.sliceBounds true len cap l h m).run P w with
  | ok q w' => simp [run_sizeOf' hi', hsz]
  | halt q w' => rfl
 unfold opSlice at hD
 cases hwin : winV v with
 | some p =>
  obtain ⟨id, off, len, cap⟩ := p
  rw [hwin] at hD
  simp only at hD
  have hv : v = .sl id off len cap := by
   unfold winV at hwin
   split at hwin
   ·cases hwin; rfl
   ·cases hwin
  subst hv
  cases hx with
  | imm _ _ hi => cases hi
  | sl _ _ _ _ b k hb0 hh hbx hlc =>
   obtain ⟨l, h, m, e1, e2, e3, e4, e5, e6, e7⟩ := opWin_run (P := P) hb hlen hlc hD hc true
   rw [hrun, e1]
   simp only [Result.andThen_ok]
   refine Eff.pure hm rfl e6 ?_
   rw [e4]
   have := win_addr (b := b) (off := off) (sz := sz) e5
   have hopt : (if m = l then (some ⟨b, off, none⟩ : Option Addr) else (some (⟨b, off, none⟩ : Addr)).map (·.add (l * sz))) = some ⟨b, off + l * sz, none⟩ := by
    rw [← this]; split <;> rfl
   rw [hopt]
   exact .sl id _ _ _ b k hb0 hh hbx (by omega)
 | none =>
 rw [hwin] at hD
 simp only at hD
 split at hD
 ·rename_i c len capA ids cs hfrz
  have base : AllC Sp cs → ∀ F', (∀ b, F b → F' b) → (∀ id, id ∈ ids → (∃ k, look id = some (.blk k)) → ∀ b, ρ id = some b → F' b) → RelI w F' (.imm c len capA) x := by
   intro hcs F' hF hids
   exact (frz_sound hm hl hF 60).1 _ _ _ _ hfrz hcs (fun id hid b hb => hids id hid ((frz_ids 60).1 _ _ _ _ hfrz id hid) b hb) x hx
  split at hD
  ·-- high and max
   cases bs with
   | nil => simp at hlen
   | cons b1 bs =>
    cases bs with
    | nil => simp at hlen
    | cons b2 bs =>
     cases hb with
     | cons _ _ y1 _ hb1 hbs =>
      cases hbs with
      | cons _ _ y2 ys hb2 hbs =>
       split at hD
       ·rename_i k h k' m hx1 hx2
        have hx1 : b1 = .int k h := by simpa [x1] using hx1
        have hx2 : b2 = .int k' m := by simpa [x2] using hx2
        subst hx1 hx2
        have := hb1.ints; subst this
        have := hb2.ints; subst this
        split at hD
        ·cases hD
         obtain ⟨h1, h2⟩ := hc.app
         have e1 : h = 0 := by simpa [Cd.holds] using h2.1
         have e2 : m = 0 := by simpa [Cd.holds] using h2.2.1
         subst e1 e2
         refine Eff.frz hm hl (fun F' hF hids => ?_)
         have hb := base h1 F' hF hids
         have run0 : ∀ (a : Option Addr) (cap : Nat), (Instr.sliceAt t (.slice a len cap) none (some (.int k 0)) (some (.int k' 0))).run P w = .ok (.slice a 0 0) w := fun a cap => by
          rw [hrun]
          simp [Instr.sliceBounds, run_sliceBound k' 0 cap _ (by omega) (by omega), run_sliceBound k 0 0 _ (by omega) (by omega)]
         cases hb with
         | imm _ _ _ b o cap' xs0 hF0 hcell hr ho hle hcap => exact ⟨_, by simpa using run0 _ _, .imm0 _ _ _ (by rw [size_take]; simp) (fun n e => by cases e; rfl)⟩
         | imm0 _ _ a hc0 hcap => exact ⟨_, by simpa using run0 _ _, .imm0 _ _ _ (by rw [size_take]; simp) (fun n e => by cases e; rfl)⟩
        ·cases hD
         obtain ⟨h1, h2⟩ := hc.app
         obtain ⟨g0, g1, g2, g3, g4, _⟩ := h2
         have g0 : 0 ≤ h := by simpa [Cd.holds, leb] using g0
         have g1 : h.toNat = len := g1
         have g2 : 0 ≤ m := by simpa [Cd.holds, leb] using g2
         have g3 : m.toNat = len := g3
         refine Eff.frz hm hl (fun F' hF hids => ?_)
         have hb := base h1 F' hF hids
         have run0 : ∀ (a : Option Addr) (cap : Nat), len ≤ cap → (Instr.sliceAt t (.slice a len cap) none (some (.int k h)) (some (.int k' m))).run P w = .ok (.slice (if len = 0 then a else a.map (·.add 0)) len len) w := fun a cap hle => by
          rw [hrun]
          simp [Instr.sliceBounds, run_sliceBound k' m cap _ g2 (by omega), run_sliceBound k h len _ g0 (by omega), g1, g3]
         cases hb with
         | imm _ _ _ b o cap' xs0 hF0 hcell hr ho hle hcap =>
          refine ⟨_, by simpa using run0 _ _ hle, ?_⟩
          have : (if len = 0 then (some ⟨b, o, none⟩ : Option Addr) else Option.map (fun x : Addr => x.add 0) (some ⟨b, o, none⟩)) = some ⟨b, o, none⟩ := by
           split <;> simp [Addr.add]
          rw [this]
          exact .imm c len (some len) b o len xs0 hF0 hcell hr ho (Nat.le_refl _) (fun n e => by cases e; rfl)
         | imm0 _ _ a hc0 hcap => exact ⟨_, by simpa using run0 _ _ (Nat.le_refl _), .imm0 _ _ _ hc0 (fun n e => by cases e; rfl)⟩
       ·cases hD
  ·-- low
   cases bs with
   | nil => simp at hlen
   | cons b1 bs =>
    cases hb with
    | cons _ _ y1 _ hb1 hbs =>
     split at hD
     ·rename_i k l hx1
      have hx1 : b1 = .int k l := by simpa [x1] using hx1
      subst hx1
      have := hb1.ints; subst this
      cases hD
      obtain ⟨h1, h2⟩ := hc.app
      obtain ⟨g0, g1, g2, _⟩ := h2
      have g0 : 0 ≤ l := by simpa [Cd.holds, leb] using g0
      have g1 : l.toNat ≤ len := of_len' g1
      have g2 : c.size = len * sz := by have := g2; simp only [Cd.holds, mz_eq] at this; exact this
      refine Eff.frz hm hl (fun F' hF hids => ?_)
      have hb := base h1 F' hF hids
      have run0 : ∀ (a : Option Addr) (cap : Nat), len ≤ cap → (Instr.sliceAt t (.slice a len cap) (some (.int k l)) none none).run P w = .ok (.slice (if cap = l.toNat then a else a.map (·.add (l.toNat * sz))) (len - l.toNat) (cap - l.toNat)) w := fun a cap hle => by
       rw [hrun]
       simp [Instr.sliceBounds, run_sliceBound k l len _ g0 (by omega)]
      have hsize : (c.drop (mz l.toNat sz)).size = (len - l.toNat) * sz := by rw [size_drop, mz_eq, g2, Nat.sub_mul]
      cases hb with
      | imm _ _ _ b o cap' xs0 hF0 hcell hr ho hle hcap =>
       refine ⟨_, by simpa using run0 _ _ hle, ?_⟩
       by_cases hcl : cap' = l.toNat
       ·have e1 : len - l.toNat = 0 := by omega
        have e2 : cap' - l.toNat = 0 := by omega
        rw [if_pos hcl, e1, e2]
        exact .imm0 _ _ _ (by rw [hsize, e1]; simp) (fun n e => by cases e)
       ·rw [if_neg hcl]
        have := imm_cut (w := w) (F := F') (c := c) (len := len) (cap := capA) (cap' := cap') (mz l.toNat sz) (len - l.toNat) ((len - l.toNat) * sz) (cap' - l.toNat) hF0 hcell hr ho (by omega)
        rw [take_all _ _ (Nat.le_of_eq hsize)] at this
        simp only [Option.map_some, addr_add]
        rw [← mz_eq]
        exact this
      | imm0 _ _ a hc0 hcap =>
       have e0 : l.toNat = 0 := by omega
       refine ⟨_, by simpa using run0 _ _ (Nat.le_refl _), ?_⟩
       rw [e0]
       exact .imm0 _ _ _ (by rw [size_drop]; omega) (fun n e => by cases e)
     ·cases hD
  ·-- high
   cases bs with
   | nil => simp at hlen
   | cons b1 bs =>
    cases hb with
    | cons _ _ y1 _ hb1 hbs =>
     split at hD
     ·rename_i k h hx1
      have hx1 : b1 = .int k h := by simpa [x1] using hx1
      subst hx1
      have := hb1.ints; subst this
      cases hD
      obtain ⟨h1, h2⟩ := hc.app
      obtain ⟨g0, g1, g2, _⟩ := h2
      have g0 : 0 ≤ h := by simpa [Cd.holds, leb] using g0
      have g1 : h.toNat ≤ len := of_len' g1
      have g2 : c.size = len * sz := by have := g2; simp only [Cd.holds, mz_eq] at this; exact this
      refine Eff.frz hm hl (fun F' hF hids => ?_)
      have hb := base h1 F' hF hids
      have run0 : ∀ (a : Option Addr) (cap : Nat), len ≤ cap → (Instr.sliceAt t (.slice a len cap) none (some (.int k h)) none).run P w = .ok (.slice (if cap = 0 then a else a.map (·.add 0)) h.toNat cap) w := fun a cap hle => by
       rw [hrun]
       simp [Instr.sliceBounds, run_sliceBound k h cap _ g0 (by omega)]
      cases hb with
      | imm _ _ _ b o cap' xs0 hF0 hcell hr ho hle hcap =>
       refine ⟨_, by simpa using run0 _ _ hle, ?_⟩
       have : (if cap' = 0 then (some ⟨b, o, none⟩ : Option Addr) else Option.map (fun x : Addr => x.add 0) (some ⟨b, o, none⟩)) = some ⟨b, o, none⟩ := by
        split <;> simp [Addr.add]
       rw [this]
       have := imm_cut (w := w) (F := F') (c := c) (len := len) (cap := capA) (cap' := cap') 0 h.toNat (mz h.toNat sz) cap' hF0 hcell hr ho (by omega)
       rw [drop_zero] at this
       exact this
      | imm0 _ _ a hc0 hcap =>
       have e0 : h.toNat = 0 := by omega
       refine ⟨_, by simpa using run0 _ _ (Nat.le_refl _), ?_⟩
       rw [e0]
       exact .imm0 _ _ _ (by rw [size_take]; omega) (fun n e => by cases e)
     ·cases hD
  ·-- low and high
   cases bs with
   | nil => simp at hlen
   | cons b1 bs =>
    cases bs with
    | nil => simp at hlen
    | cons b2 bs =>
     cases hb with
     | cons _ _ y1 _ hb1 hbs =>
      cases hbs with
      | cons _ _ y2 ys hb2 hbs =>
       split at hD
       ·rename_i k l k' h hx1 hx2
        have hx1 : b1 = .int k l := by simpa [x1] using hx1
        have hx2 : b2 = .int k' h := by simpa [x2] using hx2
        subst hx1 hx2
        have := hb1.ints; subst this
        have := hb2.ints; subst this
        cases hD
        obtain ⟨h1, h2⟩ := hc.app
        obtain ⟨g0, g1, g2, g3, _⟩ := h2
        have g0 : 0 ≤ l := by simpa [Cd.holds, leb] using g0
        have g1 : l ≤ h := by simpa [Cd.holds, leb] using g1
        have g2 : h.toNat ≤ len := of_len' g2
        have g3 : c.size = len * sz := by have := g3; simp only [Cd.holds, mz_eq] at this; exact this
        refine Eff.frz hm hl (fun F' hF hids => ?_)
        have hb := base h1 F' hF hids
        have run0 : ∀ (a : Option Addr) (cap : Nat), len ≤ cap → (Instr.sliceAt t (.slice a len cap) (some (.int k l)) (some (.int k' h)) none).run P w = .ok (.slice (if cap = l.toNat then a else a.map (·.add (l.toNat * sz))) (h.toNat - l.toNat) (cap - l.toNat)) w := fun a cap hle => by
         rw [hrun]
         simp [Instr.sliceBounds, run_sliceBound k' h cap _ (by omega) (by omega), run_sliceBound k l h.toNat _ g0 (by omega)]
        cases hb with
        | imm _ _ _ b o cap' xs0 hF0 hcell hr ho hle hcap =>
         refine ⟨_, by simpa using run0 _ _ hle, ?_⟩
         by_cases hcl : cap' = l.toNat
         ·have e1 : h.toNat - l.toNat = 0 := by omega
          have e2 : cap' - l.toNat = 0 := by omega
          rw [if_pos hcl, e1, e2]
          exact .imm0 _ _ _ (by rw [size_take, mz_eq]; simp) (fun n e => by cases e)
         ·rw [if_neg hcl]
          have := imm_cut (w := w) (F := F') (c := c) (len := len) (cap := capA) (cap' := cap') (mz l.toNat sz) (h.toNat - l.toNat) (mz (h.toNat - l.toNat) sz) (cap' - l.toNat) hF0 hcell hr ho (by omega)
          simp only [Option.map_some, addr_add]
          rw [← mz_eq]
          exact this
        | imm0 _ _ a hc0 hcap =>
         have e0 : h.toNat = 0 := by omega
         have e1 : l.toNat = 0 := by omega
         refine ⟨_, by simpa using run0 _ _ (Nat.le_refl _), ?_⟩
         rw [e0, e1]
         exact .imm0 _ _ _ (by rw [size_take, size_drop]; omega) (fun n e => by cases e)
       ·cases hD
  ·cases hD
 ·-- the nil slice
  rename_i ids cs hfrz
  have base : AllC Sp cs → ∀ F', (∀ b, F b → F' b) → (∀ id, id ∈ ids → (∃ k, look id = some (.blk k)) → ∀ b, ρ id = some b → F' b) → RelI w F' .nils x := by
   intro hcs F' hF hids
   exact (frz_sound hm hl hF 60).1 _ _ _ _ hfrz hcs (fun id hid b hb => hids id hid ((frz_ids 60).1 _ _ _ _ hfrz id hid) b hb) x hx
  split at hD
  ·cases bs with
   | nil => simp at hlen
   | cons b1 bs =>
    cases bs with
    | nil => simp at hlen
    | cons b2 bs =>
     cases hb with
     | cons _ _ y1 _ hb1 hbs =>
      cases hbs with
      | cons _ _ y2 ys hb2 hbs =>
       split at hD
       ·rename_i k h k' m hx1 hx2
        have hx1 : b1 = .int k h := by simpa [x1] using hx1
        have hx2 : b2 = .int k' m := by simpa [x2] using hx2
        subst hx1 hx2
        have := hb1.ints; subst this
        have := hb2.ints; subst this
        cases hD
        obtain ⟨h1, h2⟩ := hc.app
        obtain ⟨g0, g1, g2, g3, _⟩ := h2
        have g0 : 0 ≤ h := by simpa [Cd.holds, leb] using g0
        have g1 : h.toNat = 0 := g1
        have g2 : 0 ≤ m := by simpa [Cd.holds, leb] using g2
        have g3 : m.toNat = 0 := g3
        refine Eff.frz hm hl (fun F' hF hids => ?_)
        have hb := base h1 F' hF hids
        cases hb
        have run0 : (Instr.sliceAt t (.slice none 0 0) none (some (.int k h)) (some (.int k' m))).run P w = .ok (.slice none 0 0) w := by
         rw [hrun]
         simp [Instr.sliceBounds, run_sliceBound k' m 0 _ g2 (by omega), run_sliceBound k h 0 _ g0 (by omega), g1, g3]
        exact ⟨_, by simpa using run0, .nils⟩
       ·cases hD
  ·cases hD
 ·cases hD

/-! ### Slice literals, make -/

theorem opSliceS_sound (hm : MRel G F ρ H w) (hl : ∀ id o, look id = some o → H id = some o) {sz : Nat} {lo hi mx : Bool} {v : AV} {bs : List AV} {x : Value} {xs : List Value} {t e : TypeId} {i : TypeInfo}
  (ht : P.underlying t = some (.slice e)) (hi' : P.info? e = some i) (hsz : i.size = sz) (hx : RelV w F ρ H v x) (hb : RelVs w F ρ H bs xs)
  (hlen : bs.length = (if lo then 1 else 0) + ((if hi then 1 else 0) + (if mx then 1 else 0)))
  {d : Dir} (hD : opSliceS look d sz lo hi mx v bs = some D) (hc : AllC Sp D.cs) :
  Eff G F ρ H w ((Instr.sliceAt t x (if lo then xs[0]? else none) (if hi then (if lo then xs[1]? else xs[0]?) else none) (if mx then (if lo then (if hi then xs[2]? else xs[1]?) else (if hi then xs[1]? else xs[0]?)) else none)).run P w) D := by
 have hrun : ∀ (a : Option Addr) (len cap : Nat) (l h m : Option Value), (Instr.sliceAt t (.slice a len cap) l h m).run P w =
   ((Instr.sliceBounds true len cap l h m).run P w).andThen fun q w' => .ok (.slice (if q.2.2 = q.1 then a else a.map (·.add (q.1 * sz))) (q.2.1 - q.1) (q.2.2 - q.1)) w' := fun a len cap l h m => by
  simp only [Instr.sliceAt, Instr.slice, Sem.run_bind, run_underlying' ht, Result.andThen_ok]
  cases hq : (Instr.sliceBounds true len cap l h m).run P w with
  | ok q w' => simp [run_sizeOf' hi', hsz]
  | halt q w' => rfl
 have hopt : ∀ (a : Option Addr) (p : Prop) [Decidable p], (if p then a else a.map (·.add (0 * sz))) = a := fun a p _ => by
  split
  ·rfl
  ·cases a <;> simp [Addr.add]
 unfold opSliceS at hD
 split at hD
 ·rename_i id
  split at hD
  ·split at hD
   ·rename_i k h hx1
    cases bs with
    | nil => simp at hlen
    | cons b1 bs =>
     cases hb with
     | cons _ _ y1 _ hb1 hbs =>
      have hx1 : b1 = .int k h := by simpa [x1] using hx1
      subst hx1
      have := hb1.ints; subst this
      have hcs := val_cs hD
      rw [hcs] at hc
      have e0 : h = 0 := by simpa [Cd.holds] using hc.1
      subst e0
      cases hx with
      | imm _ _ hi => cases hi
      | spare _ a l c hf =>
       refine Eff.val hm hD (x := .slice a 0 c) ?_ hf
       have : (Instr.sliceAt t (.slice a l c) none (some (.int k 0)) none).run P w = .ok (.slice a 0 c) w := by
        rw [hrun]
        simp [Instr.sliceBounds, run_sliceBound k 0 c _ (by omega) (by omega)]
        simpa using hopt a (c = 0)
       simpa using this
   ·cases hD
  ·cases hD
 ·split at hD
  ·split at hD
   ·rename_i k h hx1
    cases bs with
    | nil => simp at hlen
    | cons b1 bs =>
     cases hb with
     | cons _ _ y1 _ hb1 hbs =>
      have hx1 : b1 = .int k h := by simpa [x1] using hx1
      subst hx1
      have := hb1.ints; subst this
      have hcs := val_cs hD
      rw [hcs] at hc
      have e0 : h = 0 := by simpa [Cd.holds] using hc.1
      subst e0
      cases hx with
      | imm _ _ hi =>
       cases hi
       refine Eff.val hm hD (x := .slice none 0 0) ?_ (.imm _ _ .nils)
       have : (Instr.sliceAt t (.slice none 0 0) none (some (.int k 0)) none).run P w = .ok (.slice none 0 0) w := by
        rw [hrun]
        simp [Instr.sliceBounds, run_sliceBound k 0 0 _ (by omega) (by omega)]
       simpa using this
   ·cases hD
  ·exact opSlice_sound hm hl ht hi' hsz hx hb hlen hD hc
 ·rename_i id len
  split at hD
  ·split at hD
   ·rename_i bk hbk
    split at hD
    ·rename_i hcap
     split at hD
     ·cases bs with
      | nil => simp at hlen
      | cons b1 bs =>
       cases bs with
       | nil => simp at hlen
       | cons b2 bs =>
        cases hb with
        | cons _ _ y1 _ hb1 hbs =>
         cases hbs with
         | cons _ _ y2 ys hb2 hbs =>
          split at hD
          ·rename_i k h k' m hx1 hx2
           have hx1 : b1 = .int k h := by simpa [x1] using hx1
           have hx2 : b2 = .int k' m := by simpa [x2] using hx2
           subst hx1 hx2
           have := hb1.ints; subst this
           have := hb2.ints; subst this
           have hcs := val_cs hD
           rw [hcs] at hc
           obtain ⟨c0, c1, c2, c3, c4, _⟩ := hc
           have c0 : bk.n = len := c0
           have c1 : 0 ≤ h := by simpa [Cd.holds, leb] using c1
           have c2 : h.toNat = len := c2
           have c3 : 0 ≤ m := by simpa [Cd.holds, leb] using c3
           have c4 : m.toNat = len := c4
           have run0 : ∀ (a : Option Addr) (cap : Nat), len ≤ cap → (Instr.sliceAt t (.slice a len cap) none (some (.int k h)) (some (.int k' m))).run P w = .ok (.slice a len len) w := fun a cap hle => by
            rw [hrun]
            simp [Instr.sliceBounds, run_sliceBound k' m cap _ c3 (by omega), run_sliceBound k h len _ c1 (by omega), c2, c4]
            simpa using hopt a (len = 0)
           have hH := hl _ _ hbk
           cases hx with
           | imm _ _ hi => cases hi
           | full _ _ kk x hh hle hp hx =>
            rw [hH] at hh; cases hh
            have hf := hx c0
            rcases hf with ⟨rfl, q1, q2, rfl⟩ | ⟨rfl, q1, q2, a, rfl⟩ | ⟨q1, b, cap, cs, ty, fz, q2, q3, rfl, q4, q5, q6⟩
            ·refine Eff.val hm hD (x := .slice none 0 0) ?_ (.full id 0 bk _ hH (by omega) ⟨_, _, _, rfl⟩ (fun _ => .inl ⟨rfl, q1, q2, rfl⟩))
             simpa using run0 none 0 (Nat.le_refl _)
            ·refine Eff.val hm hD (x := .slice (some a) 0 0) ?_ (.full id 0 bk _ hH (by omega) ⟨_, _, _, rfl⟩ (fun _ => .inr (.inl ⟨rfl, q1, q2, a, rfl⟩)))
             simpa using run0 (some a) 0 (Nat.le_refl _)
            ·refine Eff.val hm hD (x := .slice (some ⟨b, 0, none⟩) len len) ?_ (.full id len bk _ hH (by omega) ⟨_, _, _, rfl⟩ (fun _ => .inr (.inr ⟨q1, b, len, cs, ty, fz, q2, q3, rfl, Nat.le_refl _, Nat.le_trans (Nat.mul_le_mul_right _ q4) q5, fun n e => by rw [hcap] at e; cases e⟩)))
             simpa using run0 (some ⟨b, 0, none⟩) cap q4
          ·cases hD
     ·cases hD
    ·cases hD
   ·cases hD
  ·split at hD
   ·rename_i bk hbk
    split at hD
    ·rename_i hcap
     split at hD
     ·cases bs with
      | nil => simp at hlen
      | cons b1 bs =>
       cases bs with
       | nil => simp at hlen
       | cons b2 bs =>
        cases hb with
        | cons _ _ y1 _ hb1 hbs =>
         cases hbs with
         | cons _ _ y2 ys hb2 hbs =>
          split at hD
          ·rename_i k h k' m hx1 hx2
           have hx1 : b1 = .int k h := by simpa [x1] using hx1
           have hx2 : b2 = .int k' m := by simpa [x2] using hx2
           subst hx1 hx2
           have := hb1.ints; subst this
           have := hb2.ints; subst this
           have hcs := val_cs hD
           rw [hcs] at hc
           obtain ⟨c0, c1, c2, c3, c4, _⟩ := hc
           have c0 : bk.n = len := c0
           have c1 : 0 ≤ h := by simpa [Cd.holds, leb] using c1
           have c2 : h.toNat = len := c2
           have c3 : 0 ≤ m := by simpa [Cd.holds, leb] using c3
           have c4 : m.toNat = len := c4
           have run0 : ∀ (a : Option Addr) (cap : Nat), len ≤ cap → (Instr.sliceAt t (.slice a len cap) none (some (.int k h)) (some (.int k' m))).run P w = .ok (.slice a len len) w := fun a cap hle => by
            rw [hrun]
            simp [Instr.sliceBounds, run_sliceBound k' m cap _ c3 (by omega), run_sliceBound k h len _ c1 (by omega), c2, c4]
            simpa using hopt a (len = 0)
           have hH := hl _ _ hbk
           cases hx with
           | imm _ _ hi => cases hi
           | full _ _ kk x hh hle hp hx =>
            rw [hH] at hh; cases hh
            have hf := hx c0
            rcases hf with ⟨rfl, q1, q2, rfl⟩ | ⟨rfl, q1, q2, a, rfl⟩ | ⟨q1, b, cap, cs, ty, fz, q2, q3, rfl, q4, q5, q6⟩
            ·refine Eff.val hm hD (x := .slice none 0 0) ?_ (.fullc id 0 0 none (.full id 0 bk _ hH (by omega) ⟨_, _, _, rfl⟩ (fun _ => .inl ⟨rfl, q1, q2, rfl⟩)))
             simpa using run0 none 0 (Nat.le_refl _)
            ·refine Eff.val hm hD (x := .slice (some a) 0 0) ?_ (.fullc id 0 0 (some a) (.full id 0 bk _ hH (by omega) ⟨_, _, _, rfl⟩ (fun _ => .inr (.inl ⟨rfl, q1, q2, a, rfl⟩))))
             simpa using run0 (some a) 0 (Nat.le_refl _)
            ·refine Eff.val hm hD (x := .slice (some ⟨b, 0, none⟩) len len) ?_ (.fullc id len len (some ⟨b, 0, none⟩) (.full id len bk _ hH (by omega) ⟨_, _, _, rfl⟩ (fun _ => .inr (.inr ⟨q1, b, len, cs, ty, fz, q2, q3, rfl, Nat.le_refl _, Nat.le_trans (Nat.mul_le_mul_right _ q4) q5, fun n e => by rw [hcap] at e; cases e⟩))))
             simpa using run0 (some ⟨b, 0, none⟩) cap q4
          ·cases hD
     ·cases hD
    ·cases hD
   ·cases hD
  ·exact opSlice_sound hm hl ht hi' hsz hx hb hlen hD hc
 ·exact opSlice_sound hm hl ht hi' hsz hx hb hlen hD hc

theorem repL_rel {z : List AV} {zs : List Value} (h : RelVs w F ρ H z zs) : ∀ n, RelVs w F ρ H (repL z n) (repL zs n)
 | 0 => .nil
 | n + 1 => h.app (repL_rel h n)
theorem repL_length {α : Type} (l : List α) : ∀ n, (repL l n).length = n * l.length
 | 0 => by simp [repL]
 | n + 1 => by simp [repL, repL_length l n, Nat.add_mul, Nat.add_comm]
theorem repL_get {α : Type} [Inhabited α] (zs : Array α) (hz : 0 < zs.size) : ∀ n i, i < n * zs.size → (repL zs.toList n)[i]? = some zs[i % zs.size]!
 | 0, i, h => by simp at h
 | n + 1, i, h => by
  simp only [repL]
  by_cases hi : i < zs.size
  ·rw [List.getElem?_append_left (by simpa using hi), Nat.mod_eq_of_lt hi]
   simp [hi]
  ·rw [List.getElem?_append_right (by simp; omega)]
   rw [Array.length_toList]
   rw [repL_get zs hz n (i - zs.size) (by rw [Nat.add_mul] at h; omega)]
   rw [Nat.mod_eq_sub_mod (show i ≥ zs.size by omega)]
theorem rep_eq {α : Type} [Inhabited α] (zs : Array α) (n : Nat) (hz : 0 < zs.size) : ((Array.range (n * zs.size)).map fun i => zs[i % zs.size]!).toList = repL zs.toList n := by
 apply List.ext_getElem?
 intro i
 by_cases h : i < n * zs.size
 ·rw [repL_get zs hz n i h]
  simp [h]
 ·rw [List.getElem?_eq_none (by simp; omega), List.getElem?_eq_none (by rw [repL_length]; simp; omega)]

theorem intsOf_spec {k : IntKind} : ∀ {l : List AV} {l' : List Int}, intsOf k l = some l' → l = l'.map (.int k)
 | [], l', h => by cases h; rfl
 | v :: r, l', h => by
  cases v <;> simp only [intsOf, reduceCtorEq] at h
  case int k' n =>
   simp only [cond_eq_ite] at h
   split at h
   ·rename_i hk
    have hk : k = k' := by simpa [beqK] using hk
    subst hk
    split at h
    ·rename_i l1 h1; cases h; simp [intsOf_spec h1]
    ·cases h
   ·cases h
theorem boolsOf_spec : ∀ {l : List AV} {l' : List Bool}, boolsOf l = some l' → l = l'.map .bool
 | [], l', h => by cases h; rfl
 | v :: r, l', h => by
  cases v <;> simp only [boolsOf, reduceCtorEq] at h
  case bool b =>
   split at h
   ·rename_i l1 h1; cases h; simp [boolsOf_spec h1]
   ·cases h
theorem strsOf_spec : ∀ {l : List AV} {l' : List (List UInt8)}, strsOf l = some l' → l = l'.map .str
 | [], l', h => by cases h; rfl
 | v :: r, l', h => by
  cases v <;> simp only [strsOf, reduceCtorEq] at h
  case str b =>
   split at h
   ·rename_i l1 h1; cases h; simp [strsOf_spec h1]
   ·cases h

theorem relE_vals {l : List AV} {c : Cont} (hsz : c.size = l.length) (hv : ∀ i, i < l.length → c.getV i = l.getD i .undef) (hc : (∀ m, c ≠ .cells m) ∨ c = .cells l) {i : Nat} {x : Value} (hi : i < l.length)
  (hr : RelV w F ρ H (l.getD i .undef) x) (hplain : (∀ m, c ≠ .cells m) → RelI w F (l.getD i .undef) x) (hone : x.oneCell' = true) : RelE w F ρ H c i x := by
 refine ⟨?_, hone⟩
 rcases hc with hc | rfl
 ·have := hplain hc
  cases c with
  | cells m => exact absurd rfl (hc m)
  | _ => show RelI w F (Cont.getV _ i) x; rw [hv i hi]; exact this
 ·exact hr

theorem contOf_spec {ty : Nat} {l : List AV} {c : Cont} (h : contOf ty l = some c) : c.size = l.length ∧ ∀ i x, i < l.length → RelV w F ρ H (l.getD i .undef) x → x.oneCell' = true → RelE w F ρ H c i x := by
 have ints : ∀ k l', intsOf k l = some l' → (Cont.ints k l').size = l.length ∧ ∀ i x, i < l.length → RelV w F ρ H (l.getD i .undef) x → x.oneCell' = true → RelE w F ρ H (.ints k l') i x := by
  intro k l' hl'
  have := intsOf_spec hl'; subst this
  refine ⟨by simp [Cont.size], fun i x hi hr hone => ⟨?_, hone⟩⟩
  have hi' : i < l'.length := by simpa using hi
  have e : (l'.map (AV.int k)).getD i .undef = .int k (l'.getD i 0) := by simp [List.getD, hi']
  rw [e] at hr
  have := hr.ints; subst this
  exact .int _ _
 unfold contOf at h
 split at h
 ·cases h
  exact ⟨rfl, fun i x hi hr hone => ⟨hr, hone⟩⟩
 ·split at h
  ·rename_i l' hl'
   cases h
   have := boolsOf_spec hl'; subst this
   refine ⟨by simp [Cont.size], fun i x hi hr hone => ⟨?_, hone⟩⟩
   have hi' : i < l'.length := by simpa using hi
   have e : (l'.map AV.bool).getD i .undef = .bool (l'.getD i false) := by simp [List.getD, hi']
   rw [e] at hr
   have := hr.bools; subst this
   exact .bool _
  ·cases h
 ·split at h
  ·rename_i l' hl'
   cases h
   have := strsOf_spec hl'; subst this
   refine ⟨by simp [Cont.size], fun i x hi hr hone => ⟨?_, hone⟩⟩
   have hi' : i < l'.length := by simpa using hi
   have e : (l'.map AV.str).getD i .undef = .str (l'.getD i []) := by simp [List.getD, hi']
   rw [e] at hr
   obtain ⟨s, rfl, hs⟩ := hr.strs
   exact .str _ _ hs
  ·cases h
 ·split at h
  ·rename_i l' hl'
   cases h
   exact ints _ _ hl'
  ·cases h

theorem intsOf_nmap {ty : Nat} {l : List AV} {c : Cont} (h : contOf ty l = some c) : c.isMap = false := by
 unfold contOf at h
 split at h
 ·cases h; rfl
 ·split at h <;> cases h; rfl
 ·split at h <;> cases h; rfl
 ·split at h <;> cases h; rfl
theorem laidS_sound (hm : MRel G F ρ H w) {site sz len : Nat} {c : Cont} {cells : Array Value} {e : TypeId} {capc : Nat} {cs0 : List Cd} (hs : H site = none) (hnm : c.isMap = false) (hcsz : c.size = len * sz) (hle : c.size ≤ cells.size)
  (hz : ∀ i, i < c.size → ∃ x, cells[i]? = some x ∧ RelE w F ρ H c i x) (hcap : len ≤ capc) (hcells : capc * sz ≤ cells.size) :
  Eff G F ρ H w (((newRow e cells).run P w).andThen fun a w' => .ok (.slice (some a) len capc) w')
   { v := .full site len, ws := [(site, .blk { c, sz, n := len, cap := some capc, nil := some false, mu := true, bx := false })], al := [site], cs := cs0 } := by
 have hrun : ((newRow e cells).run P w).andThen (fun a w' => Result.ok (Value.slice (some a) len capc) w') = .ok (.slice (some ⟨w.heap.size, 0, none⟩) len capc) (w.alloc (.cells cells e)) := by
  simp [newRow]
 obtain ⟨ρ', h1, h2, h3, h4, h5⟩ := hm.alloc (w' := w.alloc (.cells cells e)) (site := site) (o := .blk { c, sz, n := len, cap := some capc, nil := some false, mu := true, bx := false }) hs rfl ⟨rfl, rfl, fun _ => ⟨rfl, Nat.le_refl _⟩⟩ (fun ρ' H' hk hρ => by
  refine ⟨hcsz, .inr ⟨w.heap.size, hρ, RelB.ofCells hnm ⟨cells, e, (0, 0), push_new rfl, by simp, hle, fun i hi => ?_⟩ (fun _ h => absurd (hm.frz _ h) (Nat.lt_irrefl _)) (fun e => by cases e)⟩⟩
  obtain ⟨x, g1, g2⟩ := hz i hi
  exact ⟨x, g1, g2.mono (fun b hb => push_old rfl (hm.frz b hb)) (fun _ h => h) hk⟩)
 exact ⟨_, _, F, ρ', hrun, h1, h2, h3, .full site len _ _ (upd_same _ _ _) (Nat.le_refl _) ⟨_, _, _, rfl⟩ (fun _ => .inr (.inr ⟨(fun e => by cases e), w.heap.size, capc, cells, e, (0, 0), h4, push_new rfl, rfl, hcap, hcells, fun n e => by cases e; rfl⟩))⟩

theorem fillL_length : ∀ {ps : List (Nat × Nat)} {vs : List AV} {z l : List AV}, fillL z ps vs = some l → l.length = z.length
 | [], vs, z, l, h => by
  cases vs with
  | nil => cases h; rfl
  | cons => cases h
 | (off, size) :: ps, vs, z, l, h => by
  cases vs with
  | nil => cases h
  | cons v vs =>
   simp only [fillL, cond_eq_ite] at h
   split at h
   ·rw [fillL_length h]

    suffices hs : ∀ (vs z : List AV) (i : Nat), (setAll z i vs).length = z.length from hs _ _ _
    intro vs
    induction vs with
    | nil => intro z i; rfl
    | cons v r ih => intro z i; simp [setAll, ih]
   ·cases h

end
end Go.Ab

/-
 Contracts of calls, and what a call's results become in the caller's abstract heap.
-/
set_option linter.unusedVariables false
set_option linter.unusedSimpArgs false
namespace Go.Ab
open Go

def RoundOk (P : Program) (l : Nat) (fn : FuncId) (tmps : Array Value) (as bd : Code) (w : World) (K : Value → World → Prop) : Prop :=
 ∀ (c : Frame) (cs : List Frame), ∃ v w', K v w' ∧ Steps P (lone (Frame.round l fn tmps as bd .normal) (c :: cs) w) (lone (c.finish v) cs w')

def NextOk (P : Program) (r : Result Next) (K : Value → World → Prop) : Prop :=
 (∃ nx y w', r = .ok nx w' ∧ (nx = .value y ∨ (nx = .skip ∧ y = undef)) ∧ K y w') ∨
 (∃ f args w1, r = .ok (.enter f args) w1 ∧ Calls P f args w1 fun e w' => ∃ v, e = .returned v ∧ K v w') ∨
 (∃ l fn tmps as bd w1, r = .ok (.round l fn tmps as bd) w1 ∧ RoundOk P l fn tmps as bd w1 K)

theorem NextOk.mono {P : Program} {r : Result Next} {K K' : Value → World → Prop} (h : NextOk P r K) (hk : ∀ v w, K v w → K' v w) : NextOk P r K' := by
 rcases h with ⟨nx, y, w', h1, h2, h3⟩ | ⟨f, args, w1, h1, h2⟩ | ⟨l, fn, tmps, as, bd, w1, h1, h2⟩
 ·exact .inl ⟨nx, y, w', h1, h2, hk _ _ h3⟩
 ·exact .inr (.inl ⟨f, args, w1, h1, h2.mono fun e w' ⟨v, e1, e2⟩ => ⟨v, e1, hk _ _ e2⟩⟩)
 ·exact .inr (.inr ⟨l, fn, tmps, as, bd, w1, h1, fun c cs => by obtain ⟨v, w', k1, k2⟩ := h2 c cs; exact ⟨v, w', hk _ _ k1, k2⟩⟩)

def CallOk (P : Program) (f : FuncId) (args : Array Value) (w : World) (R : Value → World → Prop) : Prop := NextOk P ((callFunc f args).run P w) R

def hsH (hs : List Blk) : Nat → Option HO := fun j => (hs[j]?).map HO.blk
def noR : Nat → Option Nat := fun _ => none
def noH : Nat → Option HO := fun _ => none

def SpecP (P : Program) (G : GL) (f : Nat) (args : List AV) (ret : AV) (hs : List Blk) : Prop :=
 ∀ (F : Nat → Prop) (w : World) (vs : Array Value), MRel G F noR noH w → RelIs w F args vs.toList →
  CallOk P f vs w fun v w' => ∃ F' ρ', MRel G F' ρ' (hsH hs) w' ∧ Ext G F noR w F' ρ' w' ∧ RelV w' F' ρ' (hsH hs) ret v

def KD (G : GL) (F : Nat → Prop) (ρ : Nat → Option Nat) (H : Nat → Option HO) (w : World) (D : Delta) (y : Value) (w' : World) : Prop :=
 ∃ F' ρ', MRel G F' ρ' (updL H D.ws) w' ∧ Ext G F ρ w F' ρ' w' ∧ HKeep w ρ H w' ρ' (updL H D.ws) ∧ RelV w' F' ρ' (updL H D.ws) D.v y

def TgtOk (P : Program) (ρ : Nat → Option Nat) (cv : AV) (xs : Array Value) (w : World) (K : Value → World → Prop) : Prop :=
 match cv with
 | .fn f _ _ => CallOk P f xs w K
 | .yld id => ∀ b, ρ id = some b → NextOk P ((Instr.yield b xs).run P w) K
 | _ => False
def SpecD (P : Program) (G : GL) (cv : AV) (args : List AV) (h : List (Nat × HO)) (v : AV) (ws : List (Nat × HO)) (al : List Nat) : Prop :=
 ∀ (F : Nat → Prop) (ρ : Nat → Option Nat) (w : World) (xs : Array Value), MRel G F ρ (aget h) w → RelVs w F ρ (aget h) args xs.toList →
  TgtOk P ρ cv xs w (KD G F ρ (aget h) w { v, ws, al, cs := [] })
def SpecQ (P : Program) (G : GL) : SpT := fun cv args o v hs =>
 match o with
 | none => match cv with
  | .fn f _ _ => SpecP P G f args v hs
  | _ => False
 | some (h, ws, al) => SpecD P G cv args h v ws al

theorem MRel.bare {G : GL} {F : Nat → Prop} {ρ : Nat → Option Nat} {H : Nat → Option HO} {w : World} (hm : MRel G F ρ H w) : MRel G F noR noH w :=
 ⟨(fun id o h => by cases h), (fun id b h => by cases h), (fun i j b h => by cases h), (fun id b h => by cases h), hm.frz, hm.glob⟩

mutual
theorem RelI.shift {w : World} {F : Nat → Prop} (base : Nat) : ∀ {v : AV} {x : Value}, RelI w F v x → RelI w F (shiftV base v) x
 | _, _, .undef x => .undef x
 | _, _, .bool b => .bool b
 | _, _, .int k n => .int k n
 | _, _, .str l s h => .str l s h
 | _, _, .nilp => .nilp
 | _, _, .nils => .nils
 | _, _, .nilf => .nilf
 | _, _, .nili => .nili
 | _, _, .nn a l c => .nn a l c
 | _, _, .iptr c b o xs hF hc hr ho => .iptr c b o xs hF hc hr ho
 | _, _, .imm c len cap b o cap' xs hF hc hr ho hl hcap => .imm c len cap b o cap' xs hF hc hr ho hl hcap
 | _, _, .imm0 c cap x hc hcap => .imm0 c cap x hc hcap
 | _, _, .fn f l1 l2 x1 x2 h1 h2 => .fn f _ _ x1 x2 (h1.shift base) (h2.shift base)
 | _, _, .agg l x h => .agg _ x (h.shift base)
 | _, _, .tup l x h => .tup _ x (h.shift base)
 | _, _, .may b v x h hn => .may b _ x (fun hb => (h hb).shift base) hn
 | _, _, .iface t v x h => .iface t _ x (h.shift base)
theorem RelIs.shift {w : World} {F : Nat → Prop} (base : Nat) : ∀ {l : List AV} {xs : List Value}, RelIs w F l xs → RelIs w F (shiftL base l) xs
 | _, _, .nil => .nil
 | _, _, .cons v l x xs h hs => .cons _ _ x xs (h.shift base) (hs.shift base)
end

def shB (base : Nat) (b : Blk) : Blk := { b with c := shiftC base b.c }

theorem updL_shift (base : Nat) : ∀ (hs : List Blk) (j : Nat) (H : Nat → Option HO) (i : Nat),
  updL H (shiftH base j hs) i = if base + j ≤ i ∧ i < base + j + hs.length then (hs[i - (base + j)]?).map (fun b => .blk (shB base b)) else H i
 | [], j, H, i => by
  simp only [shiftH, updL]
  rw [if_neg (by simp)]
 | b :: r, j, H, i => by
  simp only [shiftH, updL]
  rw [updL_shift base r (j + 1) _ i]
  by_cases h1 : i = base + j
  ·subst h1
   rw [if_neg (by omega), if_pos (by simp), upd_same]
   simp [shB]
  ·by_cases h2 : base + j ≤ i ∧ i < base + j + (b :: r).length
   ·rw [if_pos h2, if_pos (by simp at h2; omega)]
    obtain ⟨d, hd⟩ : ∃ d, i - (base + j) = d + 1 := ⟨i - (base + j) - 1, by omega⟩
    rw [hd, show i - (base + (j + 1)) = d by omega]
    simp
   ·rw [if_neg h2, if_neg (by simp at h2 ⊢; omega), upd_other _ _ h1]

section
variable {G : GL} {F F1 : Nat → Prop} {ρ ρ1 : Nat → Option Nat} {H : Nat → Option HO} {w w' : World}

def joinR (ρ ρ1 : Nat → Option Nat) (base n : Nat) : Nat → Option Nat := fun i => if base ≤ i ∧ i < base + n then ρ1 (i - base) else ρ i

theorem joinR_in (ρ ρ1 : Nat → Option Nat) (base n : Nat) {i : Nat} (h : i < n) : joinR ρ ρ1 base n (base + i) = ρ1 i := by
 simp only [joinR]; rw [if_pos (by omega)]; congr 1; omega
theorem joinR_out (ρ ρ1 : Nat → Option Nat) (base n : Nat) {i : Nat} (h : ¬ (base ≤ i ∧ i < base + n)) : joinR ρ ρ1 base n i = ρ i := by
 simp only [joinR]; rw [if_neg h]

mutual
theorem RelV.shift {base : Nat} {hs : List Blk} {H2 : Nat → Option HO} {ρ2 : Nat → Option Nat} (hρ : ∀ i, i < hs.length → ρ2 (base + i) = ρ1 i) (hH : ∀ i b, hs[i]? = some b → H2 (base + i) = some (.blk (shB base b))) :
  ∀ {v : AV} {x : Value}, RelV w F ρ1 (hsH hs) v x → RelV w F ρ2 H2 (shiftV base v) x
 | _, _, .imm v x hi => .imm _ _ (hi.shift base)
 | _, _, .ptr id off b o hb hh hx => by
  simp only [hsH, Option.map_eq_some_iff] at hh
  obtain ⟨k, hk, rfl⟩ := hh
  have hlt := (List.getElem?_eq_some_iff.1 hk).1
  exact .ptr (base + id) off b _ ((hρ id hlt).trans hb) (hH id k hk) hx
 | _, _, .ep id n off k x hh hle hp hx => by
  simp only [hsH, Option.map_eq_some_iff] at hh
  obtain ⟨k', hk, e⟩ := hh
  cases e
  have hlt := (List.getElem?_eq_some_iff.1 hk).1
  refine .ep (base + id) n off (shB base k) x (hH id k hk) hle hp (fun e => ?_)
  obtain ⟨b, hb, hxx⟩ := hx e
  exact ⟨b, (hρ id hlt).trans hb, hxx⟩
 | _, _, .full id len k x hh hle hp hx => by
  simp only [hsH, Option.map_eq_some_iff] at hh
  obtain ⟨k', hk, e⟩ := hh
  cases e
  have hlt := (List.getElem?_eq_some_iff.1 hk).1
  refine .full (base + id) len (shB base k) x (hH id k hk) hle hp (fun e => ?_)
  rcases hx e with h | h | ⟨h1, b, cap, cs, ty, fz, h2, h3⟩
  ·exact .inl h
  ·exact .inr (.inl h)
  ·exact .inr (.inr ⟨h1, b, cap, cs, ty, fz, (hρ id hlt).trans h2, h3⟩)
 | _, _, .sl id off len cap b k hb hh hx hlc => by
  simp only [hsH, Option.map_eq_some_iff] at hh
  obtain ⟨k', hk, e⟩ := hh
  cases e
  have hlt := (List.getElem?_eq_some_iff.1 hk).1
  exact .sl (base + id) off len cap b (shB base k) ((hρ id hlt).trans hb) (hH id k hk) hx hlc
 | _, _, .fn f l1 l2 x1 x2 h1 h2 => .fn f _ _ x1 x2 (RelVs.shift hρ hH h1) (RelVs.shift hρ hH h2)
 | _, _, .agg l x hl => .agg _ x (RelVs.shift hρ hH hl)
 | _, _, .tup l x hl => .tup _ x (RelVs.shift hρ hH hl)
 | _, _, .may b v x hb hn => .may b _ x (fun e => RelV.shift hρ hH (hb e)) hn
 | _, _, .iface t v x hv => .iface t _ x (RelV.shift hρ hH hv)
 | _, _, .yld id b o hb hh hx => by
  obtain ⟨hlt, k, hk⟩ : id < hs.length ∧ ∃ k, hs[id]? = some k := by
   simp only [hsH, Option.map_eq_some_iff] at hh
   obtain ⟨k, hk, _⟩ := hh
   exact ⟨(List.getElem?_eq_some_iff.1 hk).1, k, hk⟩
  have ho : o = .blk k := by simp only [hsH, hk, Option.map_some] at hh; cases hh; rfl
  subst ho
  exact .yld (base + id) b _ ((hρ id hlt).trans hb) (hH id k hk) hx
 | _, _, .mp id b o hb hh hx => by
  obtain ⟨hlt, k, hk⟩ : id < hs.length ∧ ∃ k, hs[id]? = some k := by
   simp only [hsH, Option.map_eq_some_iff] at hh
   obtain ⟨k, hk, _⟩ := hh
   exact ⟨(List.getElem?_eq_some_iff.1 hk).1, k, hk⟩
  have ho : o = .blk k := by simp only [hsH, hk, Option.map_some] at hh; cases hh; rfl
  subst ho
  exact .mp (base + id) b _ ((hρ id hlt).trans hb) (hH id k hk) hx
 | _, _, .spare id a l c hf => .spare (base + id) a l c (RelV.shift hρ hH hf)
 | _, _, .fullc id len cap a hf => .fullc (base + id) len cap a (RelV.shift hρ hH hf)
theorem RelVs.shift {base : Nat} {hs : List Blk} {H2 : Nat → Option HO} {ρ2 : Nat → Option Nat} (hρ : ∀ i, i < hs.length → ρ2 (base + i) = ρ1 i) (hH : ∀ i b, hs[i]? = some b → H2 (base + i) = some (.blk (shB base b))) :
  ∀ {l : List AV} {xs : List Value}, RelVs w F ρ1 (hsH hs) l xs → RelVs w F ρ2 H2 (shiftL base l) xs
 | _, _, .nil => .nil
 | _, _, .cons v l x xs hv hs' => .cons _ _ x xs (RelV.shift hρ hH hv) (RelVs.shift hρ hH hs')
end

theorem shiftL_getD (base : Nat) : ∀ (l : List AV) (i : Nat), (shiftL base l).getD i .undef = shiftV base (l.getD i .undef)
 | [], i => by simp [shiftL, shiftV]
 | v :: r, 0 => by simp [shiftL]
 | v :: r, i + 1 => by simp only [shiftL, List.getD_cons_succ]; exact shiftL_getD base r i
theorem shiftL_length (base : Nat) : ∀ (l : List AV), (shiftL base l).length = l.length
 | [] => rfl
 | v :: r => by simp [shiftL, shiftL_length base r]
theorem shiftC_size (base : Nat) (c : Cont) : (shiftC base c).size = c.size := by
 cases c <;> simp [shiftC, Cont.size, shiftL_length]

theorem shiftC_maps {base : Nat} {c : Cont} {kk vk : MV} {es : List (List Int × List Int × Nat)} {ck : Nat} (h : shiftC base c = .maps kk vk es ck) : c = .maps kk vk es ck := by
 cases c <;> first | exact h | cases h
theorem shiftC_nmap {base : Nat} {c : Cont} (h : (shiftC base c).isMap = false) : c.isMap = false := by
 cases c <;> first | rfl | cases h
theorem MRel.join {base : Nat} {hs : List Blk} (hm : MRel G F ρ H w) (hfresh : ∀ j, j < hs.length → H (base + j) = none)
  (hr : MRel G F1 ρ1 (hsH hs) w') (he : Ext G F noR w F1 ρ1 w') :
  ∃ ρ2, MRel G F1 ρ2 (updL H (shiftH base 0 hs)) w' ∧ Ext G F ρ w F1 ρ2 w' ∧ HKeep w ρ H w' ρ2 (updL H (shiftH base 0 hs)) ∧
   ∀ v x, RelV w' F1 ρ1 (hsH hs) v x → RelV w' F1 ρ2 (updL H (shiftH base 0 hs)) (shiftV base v) x := by
 let ρ2 := joinR ρ ρ1 base hs.length
 have hold : ∀ b, b < w.heap.size → w'.heap[b]? = w.heap[b]? := fun b hb => he.same b hb (fun id h => by cases h)
 have hwF : ∀ b, F b → w'.heap[b]? = w.heap[b]? := he.frz
 have hnew : ∀ j b, ρ1 j = some b → w.heap.size ≤ b := fun j b h => (he.im j b h).resolve_left (fun ⟨_, h⟩ => by cases h)
 have hF1 : ∀ b, b < w.heap.size → F1 b → F b := fun b hb h => by
  rcases he.more b h with h | h | ⟨id, h⟩
  ·exact h
  ·omega
  ·cases h
 have hin : ∀ i, i < hs.length → ρ2 (base + i) = ρ1 i := fun i h => joinR_in ρ ρ1 base hs.length h
 have hHin : ∀ i b, hs[i]? = some b → updL H (shiftH base 0 hs) (base + i) = some (.blk (shB base b)) := fun i b h => by
  have hlt := (List.getElem?_eq_some_iff.1 h).1
  rw [updL_shift, if_pos (by omega)]
  rw [show base + i - (base + 0) = i by omega, h]; rfl
 have hHout : ∀ i, ¬ (base ≤ i ∧ i < base + hs.length) → updL H (shiftH base 0 hs) i = H i := fun i h => by
  rw [updL_shift, if_neg (by omega)]
 have hdomOut : ∀ id o, H id = some o → ¬ (base ≤ id ∧ id < base + hs.length) := fun id o h hb => by
  have := hfresh (id - base) (by omega)
  rw [show base + (id - base) = id by omega, h] at this; cases this
 have hρout : ∀ id b, ρ id = some b → ¬ (base ≤ id ∧ id < base + hs.length) := fun id b h => by
  obtain ⟨o, ho⟩ := hm.dom id b h; exact hdomOut id o ho
 have hdom1 : ∀ j b, ρ1 j = some b → j < hs.length := fun j b h => by
  obtain ⟨o, ho⟩ := hr.dom j b h
  simp only [hsH, Option.map_eq_some_iff] at ho
  obtain ⟨k, hk, _⟩ := ho
  exact (List.getElem?_eq_some_iff.1 hk).1
 have hk : HKeep w ρ H w' ρ2 (updL H (shiftH base 0 hs)) :=
  ⟨fun id o h1 h2 => ⟨o, by rw [hHout id (hdomOut id o h1)]; exact h1, h2, joinR_out _ _ _ _ (hdomOut id o h1)⟩,
   fun id k h1 => ⟨k, by rw [hHout id (hdomOut id _ h1)]; exact h1, rfl, Nat.le_refl _, fun _ => ⟨rfl, rfl, .inl rfl, joinR_out _ _ _ _ (hdomOut id _ h1)⟩⟩,
   fun b cs ty fz hb => ⟨cs, ty, fz, (hold b (lt_of_some hb)).trans hb, rfl⟩⟩
 have shift : ∀ v x, RelV w' F1 ρ1 (hsH hs) v x → RelV w' F1 ρ2 (updL H (shiftH base 0 hs)) (shiftV base v) x := fun v x h => RelV.shift hin hHin h
 refine ⟨ρ2, ⟨fun id o h1 => ?_, fun id b hb => ?_, fun i j b hi hj => ?_, fun id b hb => ?_, hr.frz, hr.glob⟩, ⟨he.io, he.size, fun b hb hn => hold b hb, hwF, he.keep, fun b hb => ?_, fun id b hb => ?_⟩, hk, shift⟩
 ·by_cases hc : base ≤ id ∧ id < base + hs.length
  ·obtain ⟨j, rfl⟩ : ∃ j, id = base + j := ⟨id - base, by omega⟩
   have hj : j < hs.length := by omega
   have hjb : hs[j]? = some hs[j] := List.getElem?_eq_getElem hj
   rw [hHin j _ hjb] at h1; cases h1
   have h2 := hr.heap j (.blk hs[j]) (by simp [hsH, hjb])
   obtain ⟨g0, g1 | ⟨b, g1, g2⟩⟩ := h2
   ·exact ⟨by simp only [shB, shiftC_size]; exact g0, .inl ⟨g1.1, (hin j hj).trans g1.2⟩⟩
   ·refine ⟨by simp only [shB, shiftC_size]; exact g0, .inr ⟨b, (hin j hj).trans g1, ⟨fun hnm => ?_, fun kk vk es ck e => g2.mp kk vk es ck (shiftC_maps e), g2.mu, g2.fr⟩⟩⟩
    obtain ⟨cs, ty, fz, q1, q2, q3, q4⟩ := g2.ex (shiftC_nmap hnm)
    refine ⟨cs, ty, fz, q1, q2, by simp only [shB, shiftC_size]; exact q3, fun i hi => ?_⟩
    simp only [shB, shiftC_size] at hi
    obtain ⟨x, r1, r2⟩ := q4 i hi
    refine ⟨x, r1, ?_, r2.2⟩
    have r2 := r2.1
    cases hcc : hs[j].c with
    | cells l =>
     rw [hcc] at r2
     simp only [shB, hcc, shiftC]
     rw [shiftL_getD]
     exact shift _ _ r2
    | _ => rw [hcc] at r2; simp only [shB, hcc, shiftC]; exact r2
  ·rw [hHout id hc] at h1
   exact (hm.heap id o h1).mono hwF he.keep hk (joinR_out _ _ _ _ hc) (fun b hb => ⟨hold b (hm.lt id b hb), hF1 b (hm.lt id b hb)⟩)
 ·by_cases hc : base ≤ id ∧ id < base + hs.length
  ·obtain ⟨j, rfl⟩ : ∃ j, id = base + j := ⟨id - base, by omega⟩
   have hj : j < hs.length := by omega
   exact ⟨_, hHin j _ (List.getElem?_eq_getElem hj)⟩
  ·have hb' : ρ id = some b := (joinR_out _ _ _ _ hc).symm.trans hb
   obtain ⟨o, ho⟩ := hm.dom id b hb'
   exact ⟨o, by rw [hHout id hc]; exact ho⟩
 ·by_cases hci : base ≤ i ∧ i < base + hs.length <;> by_cases hcj : base ≤ j ∧ j < base + hs.length
  ·obtain ⟨i', rfl⟩ : ∃ i', i = base + i' := ⟨i - base, by omega⟩
   obtain ⟨j', rfl⟩ : ∃ j', j = base + j' := ⟨j - base, by omega⟩
   rw [hr.inj i' j' b ((hin i' (by omega)).symm.trans hi) ((hin j' (by omega)).symm.trans hj)]
  ·obtain ⟨i', rfl⟩ : ∃ i', i = base + i' := ⟨i - base, by omega⟩
   have h1 := hnew i' b ((hin i' (by omega)).symm.trans hi)
   have h2 := hm.lt j b ((joinR_out _ _ _ _ hcj).symm.trans hj)
   omega
  ·obtain ⟨j', rfl⟩ : ∃ j', j = base + j' := ⟨j - base, by omega⟩
   have h1 := hnew j' b ((hin j' (by omega)).symm.trans hj)
   have h2 := hm.lt i b ((joinR_out _ _ _ _ hci).symm.trans hi)
   omega
  ·exact hm.inj i j b ((joinR_out _ _ _ _ hci).symm.trans hi) ((joinR_out _ _ _ _ hcj).symm.trans hj)
 ·by_cases hc : base ≤ id ∧ id < base + hs.length
  ·obtain ⟨j, rfl⟩ : ∃ j, id = base + j := ⟨id - base, by omega⟩
   exact hr.lt j b ((hin j (by omega)).symm.trans hb)
  ·have := hm.lt id b ((joinR_out _ _ _ _ hc).symm.trans hb)
   have := he.size
   omega
 ·rcases he.more b hb with h | h | ⟨id, h⟩
  ·exact .inl h
  ·exact .inr (.inl h)
  ·cases h
 ·by_cases hc : base ≤ id ∧ id < base + hs.length
  ·obtain ⟨j, rfl⟩ : ∃ j, id = base + j := ⟨id - base, by omega⟩
   exact .inr (hnew j b ((hin j (by omega)).symm.trans hb))
  ·exact .inl ⟨id, (joinR_out _ _ _ _ hc).symm.trans hb⟩

end
end Go.Ab
