/- An abstract reading of the program: what its operations do to what is known of memory. Part 6 of 6. -/
import Derived.Test.YtfafinkgmhkdmaaDoorAb5
import Derived.LaidHandle
import Derived.Lib.Join
import Derived.Below
import Derived.Shelf.SlSortCmp.NoneTotal

/-
 What is read as data, as abstract values: arguments, package-level variables.
-/
set_option linter.unusedVariables false
set_option linter.unusedSimpArgs false
set_option linter.unnecessarySimpa false
namespace Go.Ab
open Go Go.RowKit Go.WideShapes Go.ChangeShapes

inductive Sh where
 | int (k : IntKind)
 | bool
 | str
 | fn
 | sl (s : Sh)
 | st (l : List Sh)
mutual
def Sh.size : Sh → Nat
 | .st l => sizes l
 | _ => 1
def sizes : List Sh → Nat
 | [] => 0
 | s :: r => s.size + sizes r
end
def fieldsSh (P : Program) (rec : TypeId → Option Sh) : List Field → Nat → Option (List Sh)
 | [], _ => some []
 | f :: r, off => match rec f.type with
  | some s => cond (Nat.beq f.offset off && Nat.beq (P.cellsOf f.type) s.size) (match fieldsSh P rec r (off + s.size) with
   | some l => some (s :: l)
   | none => none) none
  | none => none
def shp (P : Program) : Nat → TypeId → Option Sh
 | 0, _ => none
 | n + 1, t => match P.underlying t with
  | some .bool => some .bool
  | some (.int k) => some (.int k)
  | some .string => some .str
  | some (.func _ _ _) => some .fn
  | some (.slice e) => match shp P n e with
   | some s => cond (Nat.beq (P.cellsOf e) s.size && Nat.ble 1 s.size) (some (.sl s)) none
   | none => none
  | some (.struct fs) => match fieldsSh P (shp P n) fs.toList 0 with
   | some l => cond (Nat.beq (P.cellsOf t) (sizes l)) (some (.st l)) none
   | none => none
  | some (.array m e) => match shp P n e with
   | some s => cond (Nat.beq (P.cellsOf e) s.size && Nat.beq (P.cellsOf t) (m * s.size)) (some (.st (List.replicate m s))) none
   | none => none
  | _ => none
variable {H : Type}
def numD : DataW H → Int
 | .lit (.int _ n) => n
 | _ => 0
def Sh.intK : Sh → Option IntKind
 | .int k => some k
 | _ => none
def contOf' (k : Option IntKind) (vs : List AV) (ns : List Int) : Cont := match k with
 | some k => .ints k ns
 | none => .vals vs
mutual
def flat (hd : H → AV) : Sh → DataW H → List AV
 | .int k, d => match d with
  | .lit (.int _ n) => [.int k n]
  | _ => [.undef]
 | .bool, d => match d with
  | .lit (.bool b) => [.bool b]
  | _ => [.undef]
 | .str, d => match d with
  | .lit (.string s) => [.str s]
  | _ => [.undef]
 | .fn, d => match d with
  | .held h => [hd h]
  | .nil => [.nilf]
  | _ => [.undef]
 | .sl s, d => match d with
  | .slice es _ => [.imm (contOf' s.intK (es.flatMap (flat hd s)) (es.map numD)) es.length none]
  | .nil => [.imm (contOf' s.intK [] []) 0 none]
  | _ => [.undef]
 | .st l, d => match d with
  | .agg ds => flatL hd l ds
  | _ => [.undef]
def flatL (hd : H → AV) : List Sh → List (DataW H) → List AV
 | [], _ => []
 | s :: l, ds => match ds with
  | d :: ds => flat hd s d ++ flatL hd l ds
  | [] => []
end
theorem flatMap_len {α β : Type} {f : α → List β} {z : Nat} : ∀ {l : List α}, (∀ x ∈ l, (f x).length = z) → (l.flatMap f).length = l.length * z
 | [], _ => by simp
 | a :: r, h => by
  rw [List.flatMap_cons, List.length_append, h a (by simp), flatMap_len fun x hx => h x (by simp [hx]), List.length_cons, Nat.succ_mul, Nat.add_comm]
theorem flatMap_get {α β : Type} {f : α → List β} {z : Nat} : ∀ {l : List α}, (∀ x ∈ l, (f x).length = z) → ∀ {i j : Nat} {a : α}, l[i]? = some a → j < z → (l.flatMap f)[i * z + j]? = (f a)[j]?
 | [], _, i, j, a, h, hj => by simp at h
 | b :: r, h, 0, j, a, hi, hj => by
  simp at hi; subst hi
  rw [List.flatMap_cons, Nat.zero_mul, Nat.zero_add, List.getElem?_append_left (by rw [h b (by simp)]; exact hj)]
 | b :: r, h, i + 1, j, a, hi, hj => by
  have hb := h b (by simp)
  rw [List.flatMap_cons, List.getElem?_append_right (by rw [hb, Nat.succ_mul]; omega), hb, show (i + 1) * z + j - z = i * z + j by rw [Nat.succ_mul]; omega]
  exact flatMap_get (fun x hx => h x (by simp [hx])) (by simpa using hi) hj

section
variable {P : Program} {W : World} {F : Nat → Prop} {enc : TypeId × Value → H} {base : Nat} {held : Bool} {hd : H → AV}
theorem RelIs.app : ∀ {a b : List AV} {xs ys : List Value}, RelIs W F a xs → RelIs W F b ys → RelIs W F (a ++ b) (xs ++ ys)
 | [], b, [], ys, .nil, h2 => h2
 | _ :: _, b, _ :: _, ys, .cons _ _ _ _ h hs, h2 => .cons _ _ _ _ h (hs.app h2)
theorem RelIs.length : ∀ {a : List AV} {xs : List Value}, RelIs W F a xs → a.length = xs.length
 | _, _, .nil => rfl
 | _, _, .cons _ _ _ _ _ hs => by simp [hs.length]
theorem RelIs.get : ∀ {a : List AV} {xs : List Value}, RelIs W F a xs → ∀ {i : Nat} {v : AV} {x : Value}, a[i]? = some v → xs[i]? = some x → RelI W F v x
 | _, _, .nil, i, v, x, h, _ => by simp at h
 | _, _, .cons _ _ _ _ h hs, 0, v, x, h1, h2 => by simp at h1 h2; subst h1 h2; exact h
 | _, _, .cons _ _ _ _ h hs, i + 1, v, x, h1, h2 => hs.get (by simpa using h1) (by simpa using h2)
def OneCells (cs : List Value) : Prop := ∀ x ∈ cs, x.oneCell' = true
theorem rel_pieces : ∀ (l : List Sh) (ds : List (DataW H)) (cs : List Value) (off : Nat), l.length = ds.length →
  (∀ i s d, l[i]? = some s → ds[i]? = some d → RelIs W F (flat hd s d) ((cs.drop (off + sizes (l.take i))).take s.size) ∧ OneCells ((cs.drop (off + sizes (l.take i))).take s.size)) →
  RelIs W F (flatL hd l ds) ((cs.drop off).take (sizes l)) ∧ OneCells ((cs.drop off).take (sizes l))
 | [], [], cs, off, _, h => by simp [sizes, flatL, OneCells]; exact .nil
 | [], _ :: _, cs, off, hl, h => by simp at hl
 | _ :: _, [], cs, off, hl, h => by simp at hl
 | s :: l, d :: ds, cs, off, hl, h => by
  have h0 := h 0 s d rfl rfl
  simp only [List.take_zero, sizes, Nat.add_zero] at h0
  have ih := rel_pieces l ds cs (off + s.size) (by simpa using hl) (fun i s' d' h1 h2 => by
   have := h (i + 1) s' d' (by simpa using h1) (by simpa using h2)
   simpa [sizes, Nat.add_assoc] using this)
  have e : (cs.drop off).take (sizes (s :: l)) = (cs.drop off).take s.size ++ (cs.drop (off + s.size)).take (sizes l) := by
   simp only [sizes]
   rw [List.take_add, List.drop_drop]
  rw [e]
  refine ⟨h0.1.app ih.1, fun x hx => ?_⟩
  rcases List.mem_append.1 hx with hx | hx
  ·exact h0.2 x hx
  ·exact ih.2 x hx

theorem fieldsSh_ok {rec : TypeId → Option Sh} : ∀ {fs : List Field} {off : Nat} {l : List Sh}, fieldsSh P rec fs off = some l → l.length = fs.length ∧ ∀ i (f : Field), fs[i]? = some f → ∃ s, l[i]? = some s ∧ rec f.type = some s ∧ f.offset = off + sizes (l.take i) ∧ P.cellsOf f.type = s.size
 | [], off, l, h => by cases h; simp
 | f :: r, off, l, h => by
  simp only [fieldsSh] at h
  split at h
  ·rename_i s hs
   rw [cond_eq_ite] at h
   split at h
   ·rename_i hc
    rw [Bool.and_eq_true] at hc
    split at h
    ·rename_i l' hl'
     cases h
     obtain ⟨i1, i2⟩ := fieldsSh_ok hl'
     refine ⟨by simp [i1], fun i g hg => ?_⟩
     cases i with
     | zero => simp at hg; subst hg; exact ⟨s, rfl, hs, by simpa [sizes] using Nat.eq_of_beq_eq_true hc.1, Nat.eq_of_beq_eq_true hc.2⟩
     | succ i =>
      obtain ⟨s', g1, g2, g3, g4⟩ := i2 i g (by simpa using hg)
      exact ⟨s', by simpa using g1, g2, by simp [sizes]; omega, g4⟩
    ·cases h
   ·cases h
  ·cases h
theorem sizes_rep (s : Sh) : ∀ m, sizes (List.replicate m s) = m * s.size
 | 0 => by simp [sizes]
 | m + 1 => by rw [List.replicate_succ]; simp only [sizes]; rw [sizes_rep s m, Nat.succ_mul, Nat.add_comm]

theorem mapM_get {α β : Type} {f : α → Option β} {l : List α} {r : List β} (h : l.mapM f = some r) : r.length = l.length ∧ ∀ (i : Nat) (a : α), l[i]? = some a → ∃ b, r[i]? = some b ∧ f a = some b :=
 ⟨Lib.mapM_length h, fun i a hi => Lib.mapM_at h i a hi⟩
example : flat (H := Unit) (fun _ => .undef) (.st [.int .u8, .sl (.int .u8)]) (.agg [.lit (.int .u8 1), .nil]) = [.int .u8 1, .imm (.ints .u8 []) 0 none] := rfl

theorem shp_int : ∀ {n : Nat} {t : TypeId} {k : IntKind}, shp P n t = some (.int k) → P.underlying t = some (.int k)
 | 0, t, k, h => by cases h
 | n + 1, t, k, h => by
  simp only [shp] at h
  split at h
  ·cases h
  ·rename_i k' hu; cases h; exact hu
  ·cases h
  ·cases h
  ·split at h
   ·rw [cond_eq_ite] at h; split at h <;> cases h
   ·cases h
  ·split at h
   ·rw [cond_eq_ite] at h; split at h <;> cases h
   ·cases h
  ·split at h
   ·rw [cond_eq_ite] at h; split at h <;> cases h
   ·cases h
  ·cases h
theorem trod_rel (hhd : held = true → ∀ t f x y, RelI W F (hd (enc (t, .func f x y))) (.func f x y)) (hF : ∀ b, b < W.heap.size → F b) : ∀ (n : Nat) (t : TypeId) (s : Sh), shp P n t = some s → ∀ (fuel : Nat) (cs : List Value) (x : DataW H × List MemPlace),
  DataW.trod enc P W base (fun _ => true) held fuel t cs = some x → RelIs W F (flat hd s x.1) cs ∧ OneCells cs ∧ cs.length = s.size := by
 intro n
 induction n with
 | zero => intro t s h; simp [shp] at h
 | succ n ih =>
  intro t s hs fuel cs x hx
  simp only [shp] at hs
  split at hs
  ·rename_i hu
   cases hs
   obtain ⟨b, rfl, rfl⟩ := DataW.trod_bool hu hx
   exact ⟨.cons _ _ _ _ (.bool b) .nil, by simp [OneCells, Value.oneCell'], rfl⟩
  ·rename_i k hu
   cases hs
   obtain ⟨m, rfl, rfl, _⟩ := DataW.trod_int hu hx
   exact ⟨.cons _ _ _ _ (.int k m) .nil, by simp [OneCells, Value.oneCell'], rfl⟩
  ·rename_i hu
   cases hs
   obtain ⟨b, rfl, rfl, _⟩ := DataW.trod_string hu hx
   exact ⟨.cons _ _ _ _ (.str _ _ rfl) .nil, by simp [OneCells, Value.oneCell'], rfl⟩
  ·rename_i hu
   cases hs
   cases fuel with
   | zero => simp [DataW.trod] at hx
   | succ fuel =>
    unfold DataW.trod at hx
    rw [hu] at hx
    split at hx <;> simp_all
    ·rename_i hcs
     subst hx
     exact ⟨.cons _ _ _ _ .nilf .nil, by simp [OneCells, Value.oneCell'], rfl⟩
    ·obtain ⟨h1, rfl⟩ := hx
     exact ⟨.cons _ _ _ _ (hhd _ _ _ _) .nil, by simp [OneCells, Value.oneCell'], rfl⟩
  ·rename_i e hu
   split at hs
   ·rename_i s' hs'
    rw [cond_eq_ite] at hs
    split at hs
    ·rename_i hc
     cases hs
     rw [Bool.and_eq_true] at hc
     have hz := Nat.eq_of_beq_eq_true hc.1
     have hz1 := Nat.le_of_ble_eq_true hc.2
     rcases DataW.trod_slice hu hx with ⟨rfl, rfl⟩ | ⟨a, len, cap, elems, rest, m, rfl, rfl, rfl, hb, hl, hm, hlen, hel, hsp, _⟩
     ·refine ⟨.cons _ _ _ _ (.imm0 _ _ _ ?_ (fun n e => by cases e)) .nil, by simp [OneCells, Value.oneCell'], rfl⟩
      cases s' <;> rfl
     ·refine ⟨.cons _ _ _ _ ?_ .nil, by simp [OneCells, Value.oneCell'], rfl⟩
      have hrest := (hsp rfl).1
      have hrest2 := (hsp rfl).2
      -- each element's cells
      have each : ∀ j, j < cap → ∃ y cs, (W.cells? base (a.add (j * P.cellsOf e)) (P.cellsOf e)) = some cs ∧ DataW.trod enc P W base (fun _ => true) held m e cs = some y := by
       intro j hj
       have : ∃ y, (W.cells? base (a.add (j * P.cellsOf e)) (P.cellsOf e)).bind (DataW.trod enc P W base (fun _ => true) held m e) = some y := by
        by_cases h : j < len
        ·rw [hel j h, List.getElem?_eq_getElem (by omega)]; exact ⟨_, rfl⟩
        ·have := hrest2 (j - len) (by omega)
         rw [show len + (j - len) = j by omega] at this
         rw [this, List.getElem?_eq_getElem (by omega)]; exact ⟨_, rfl⟩
       obtain ⟨y, hy⟩ := this
       rw [Option.bind_eq_some_iff] at hy
       obtain ⟨cs, h1, h2⟩ := hy
       exact ⟨y, cs, h1, h2⟩
      have cellsOk : ∀ (p : Addr) (cs : List Value), W.cells? base p (P.cellsOf e) = some cs → cs.length = s'.size ∧ ∀ r x, cs[r]? = some x → W.cell? (p.add r) = some x := by
       intro p cs h
       unfold World.cells? at h
       split at h
       ·obtain ⟨g1, g2⟩ := mapM_get h
        refine ⟨by rw [g1, List.length_range, hz], fun r x hr => ?_⟩
        have hlt : r < P.cellsOf e := by
         have := (List.getElem?_eq_some_iff.1 hr).1
         rw [g1, List.length_range] at this; exact this
        obtain ⟨b, b1, b2⟩ := g2 r r (by simp [hlt])
        rw [hr] at b1; cases b1
        exact b2
       ·cases h
      by_cases h0 : cap = 0
      ·have hl0 : len = 0 := by omega
       subst h0 hl0
       have hnil : elems = [] := List.eq_nil_of_length_eq_zero hlen
       subst hnil
       exact .imm0 _ _ _ (by cases s' <;> rfl) (fun n e => by cases e)
      ·obtain ⟨y0, cs0, k1, k2⟩ := each 0 (by omega)
       obtain ⟨k3, k4⟩ := cellsOk _ _ k1
       have hcell : ∃ x, W.cell? a = some x := by
        have hlt : 0 < cs0.length := by omega
        have := k4 0 _ (List.getElem?_eq_getElem hlt)
        simp [Addr.add] at this
        exact ⟨_, this⟩
       obtain ⟨x0, hx0⟩ := hcell
       have hs : a.spot = none ∧ a.block < W.heap.size := by
        simp only [World.cell?] at hx0
        split at hx0
        ·rename_i hb
         split at hx0
         ·cases hx0
         ·rename_i hsp
          exact ⟨by cases e : a.spot with
           | none => rfl
           | some _ => simp [e] at hsp, lt_of_some hb⟩
        ·cases hx0
       have ha : a = ⟨a.block, a.off, none⟩ := by cases a; simp_all
       have hadd : ∀ i r, (a.add (i * P.cellsOf e)).add r = ⟨a.block, a.off + (i * s'.size + r), none⟩ := by
        intro i r
        rw [ha, hz]
        by_cases h1 : i * s'.size = 0 <;> by_cases h2 : r = 0 <;> simp [Addr.add, h1, h2, Nat.add_assoc]
       have elem : ∀ i, i < len → ∃ y cs, elems[i]? = some y ∧ DataW.trod enc P W base (fun _ => true) held m e cs = some y ∧ RelIs W F (flat hd s' y.1) cs ∧ OneCells cs ∧ cs.length = s'.size ∧ ∀ r x, cs[r]? = some x → W.cell? ⟨a.block, a.off + (i * s'.size + r), none⟩ = some x := by
        intro i hi
        obtain ⟨y, cs, e1, e2⟩ := each i (by omega)
        have e3 := hel i hi
        rw [e1] at e3
        simp only [Option.bind_some] at e3
        rw [e2] at e3
        obtain ⟨i1, i2, i3⟩ := ih _ _ hs' m cs y e2
        refine ⟨y, cs, e3.symm, e2, i1, i2, i3, fun r x hr => ?_⟩
        rw [← hadd i r]
        exact (cellsOk _ _ e1).2 r x hr
       have flen : ∀ d ∈ elems.map (·.1), (flat hd s' d).length = s'.size := by
        intro d hd'
        obtain ⟨y, hy, rfl⟩ := List.mem_map.1 hd'
        obtain ⟨i, hi, rfl⟩ := List.getElem_of_mem hy
        obtain ⟨y', cs, e1, _, e2, _, e4, _⟩ := elem i (by omega)
        rw [List.getElem?_eq_getElem hi] at e1; cases e1
        rw [e2.length, e4]
       have csize : (contOf' s'.intK ((elems.map (·.1)).flatMap (flat hd s')) ((elems.map (·.1)).map numD)).size = len * s'.size := by
        cases s' <;> simp only [Sh.intK, contOf', Cont.size] <;> first
         | (rw [flatMap_len flen]; simp [hlen])
         | (simp [hlen, Sh.size])
       rw [ha]
       have hml : (elems.map (·.1)).length = len := by simp [hlen]
       rw [hml]
       refine .imm _ _ _ a.block a.off cap (fun j => (W.cell? ⟨a.block, a.off + j, none⟩).getD undef) (hF _ hs.2) (fun j hj => ?_) (fun j hj => ?_) (fun j hj => ?_) hl (fun n e => by cases e)
       all_goals
        rw [csize] at hj
        have hdiv : j / s'.size < len := Nat.div_lt_of_lt_mul (by rw [Nat.mul_comm]; exact hj)
        have hmod : j % s'.size < s'.size := Nat.mod_lt _ hz1
        obtain ⟨y, cs, e1, e0, e2, e3, e4, e5⟩ := elem (j / s'.size) hdiv
        have hjj : j / s'.size * s'.size + j % s'.size = j := by rw [Nat.mul_comm]; exact Nat.div_add_mod j s'.size
        have hr : cs[j % s'.size]? = some (cs[j % s'.size]'(by omega)) := List.getElem?_eq_getElem (by omega)
        have e6 := e5 _ _ hr
        rw [hjj] at e6
        simp only [e6, Option.getD_some]
       ·have hfl : (flat hd s' y.1)[j % s'.size]? = some ((flat hd s' y.1)[j % s'.size]'(by rw [e2.length, e4]; exact hmod)) := List.getElem?_eq_getElem _
        have hrel := e2.get hfl hr
        have hmap : (elems.map (·.1))[j / s'.size]? = some y.1 := by rw [List.getElem?_map, e1]; rfl
        have hgv : (contOf' s'.intK ((elems.map (·.1)).flatMap (flat hd s')) ((elems.map (·.1)).map numD)).getV j = (flat hd s' y.1)[j % s'.size]'(by rw [e2.length, e4]; exact hmod) := by
         have gen : ((elems.map (·.1)).flatMap (flat hd s')).getD j .undef = (flat hd s' y.1)[j % s'.size]'(by rw [e2.length, e4]; exact hmod) := by
          rw [List.getD_eq_getElem?_getD]
          have := flatMap_get (f := flat hd s') flen hmap hmod
          rw [hjj, hfl] at this
          rw [this]; rfl
         cases s' with
         | int k =>
          simp only [Sh.size, Nat.div_one, Nat.mod_one] at *
          simp only [Sh.intK, contOf', Cont.getV]
          rw [List.getD_eq_getElem?_getD, List.getElem?_map, hmap]
          obtain ⟨v, _, rfl, _⟩ := DataW.trod_int (shp_int hs') e0
          rfl
         | _ => exact gen
        rw [hgv]; exact hrel
       ·exact e3 _ (List.mem_of_getElem? hr)
    ·cases hs
   ·cases hs
  ·rename_i fs hu
   split at hs
   ·rename_i l hl
    rw [cond_eq_ite] at hs
    split at hs
    ·rename_i hc
     cases hs
     have hcells := Nat.eq_of_beq_eq_true hc
     obtain ⟨xs, m, rfl, rfl, hlen, hxl, hget⟩ := DataW.trod_struct hu hx
     obtain ⟨f1, f2⟩ := fieldsSh_ok hl
     have key := rel_pieces (W := W) (F := F) (hd := hd) l (xs.map (·.1)) cs 0 (by simp [hxl, f1]) (fun i s d h1 h2 => by
      have hi : i < fs.toList.length := by
       have := (List.getElem?_eq_some_iff.1 h1).1
       omega
      obtain ⟨s2, g1, g2, g3, g4⟩ := f2 i fs.toList[i] (List.getElem?_eq_getElem hi)
      rw [h1] at g1; cases g1
      have hq := hget i fs.toList[i] (by simpa using List.getElem?_eq_getElem hi)
      rw [List.getElem?_map] at h2
      cases hxi : xs[i]? with
      | none => rw [hxi] at h2; cases h2
      | some y =>
       rw [hxi] at h2 hq
       cases h2
       obtain ⟨r1, r2, r3⟩ := ih _ _ g2 m _ y hq
       rw [← g3, ← g4]
       exact ⟨r1, r2⟩)
     rw [List.drop_zero, List.take_of_length_le (by omega)] at key
     exact ⟨key.1, key.2, by rw [hlen, hcells]; rfl⟩
    ·cases hs
   ·cases hs
  ·rename_i m e hu
   split at hs
   ·rename_i s' hs'
    rw [cond_eq_ite] at hs
    split at hs
    ·rename_i hc
     cases hs
     rw [Bool.and_eq_true] at hc
     have hz := Nat.eq_of_beq_eq_true hc.1
     have hcells := Nat.eq_of_beq_eq_true hc.2
     cases fuel with
     | zero => simp [DataW.trod] at hx
     | succ fuel =>
      unfold DataW.trod at hx
      rw [hu] at hx
      simp only at hx
      split at hx
      ·rename_i hlen
       rw [Option.map_eq_some_iff] at hx
       obtain ⟨xs, hxs, rfl⟩ := hx
       obtain ⟨q1, q2⟩ := mapM_get hxs
       have key := rel_pieces (W := W) (F := F) (hd := hd) (List.replicate m s') (xs.map (·.1)) cs 0 (by simp [q1]) (fun i s d h1 h2 => by
        have hi : i < m := by
         have := (List.getElem?_eq_some_iff.1 h1).1
         simpa using this
        rw [List.getElem?_replicate, if_pos hi] at h1
        cases h1
        obtain ⟨y, y1, y2⟩ := q2 i i (by simp [hi])
        rw [List.getElem?_map, y1] at h2
        cases h2
        obtain ⟨r1, r2, r3⟩ := ih _ _ hs' fuel _ y y2
        have et : (List.replicate m s').take i = List.replicate i s' := by rw [List.take_replicate, Nat.min_eq_left (by omega)]
        rw [et, sizes_rep, Nat.zero_add, ← hz]
        exact ⟨r1, r2⟩)
       rw [List.drop_zero, List.take_of_length_le (by rw [sizes_rep]; omega)] at key
       exact ⟨key.1, key.2, by rw [hlen, hcells]; show _ = sizes _; rw [sizes_rep]⟩
      ·cases hx
    ·cases hs
   ·cases hs
  ·cases hs

mutual
def Conf : Sh → DataW H → Prop
 | .int k, d => ∃ n, d = .lit (.int k n) ∧ (Lit.int k n).wf = true
 | .bool, d => ∃ b, d = .lit (.bool b)
 | .str, d => ∃ s, d = .lit (.string s) ∧ s.length ≤ maxLen
 | .fn, _ => True
 | .sl s, d => d = .nil ∨ ∃ es sp, d = .slice es sp ∧ es.length ≤ maxLen ∧ ∀ x ∈ es, Conf s x
 | .st l, d => ∃ ds, d = .agg ds ∧ ConfL l ds
def ConfL : List Sh → List (DataW H) → Prop
 | [], ds => ds = []
 | s :: l, ds => ∃ d r, ds = d :: r ∧ Conf s d ∧ ConfL l r
end
theorem confL_of : ∀ {l : List Sh} {ds : List (DataW H)}, l.length = ds.length → (∀ (i : Nat) (s : Sh) (d : DataW H), l[i]? = some s → ds[i]? = some d → Conf s d) → ConfL l ds
 | [], [], _, _ => rfl
 | [], _ :: _, h, _ => by simp at h
 | _ :: _, [], h, _ => by simp at h
 | s :: l, d :: ds, h, k => ⟨d, ds, rfl, k 0 s d rfl rfl, confL_of (by simpa using h) (fun i s' d' h1 h2 => k (i + 1) s' d' (by simpa using h1) (by simpa using h2))⟩
theorem trod_conf : ∀ (n : Nat) (t : TypeId) (s : Sh), shp P n t = some s → ∀ (fuel : Nat) (cs : List Value) (x : DataW H × List MemPlace), DataW.trod enc P W base (fun _ => true) held fuel t cs = some x → Conf s x.1 := by
 intro n
 induction n with
 | zero => intro t s h; simp [shp] at h
 | succ n ih =>
  intro t s hs fuel cs x hx
  simp only [shp] at hs
  split at hs
  ·rename_i hu
   cases hs
   obtain ⟨b, rfl, rfl⟩ := DataW.trod_bool hu hx
   exact ⟨b, rfl⟩
  ·rename_i k hu
   cases hs
   obtain ⟨m, rfl, rfl, hw⟩ := DataW.trod_int hu hx
   exact ⟨m, rfl, hw⟩
  ·rename_i hu
   cases hs
   obtain ⟨b, rfl, rfl, hb⟩ := DataW.trod_string hu hx
   exact ⟨_, rfl, hb⟩
  ·cases hs; trivial
  ·rename_i e hu
   split at hs
   ·rename_i s' hs'
    rw [cond_eq_ite] at hs
    split at hs
    ·cases hs
     rcases DataW.trod_slice hu hx with ⟨rfl, rfl⟩ | ⟨a, len, cap, elems, rest, m, rfl, rfl, rfl, hb, hl, hm, hlen, hel, _, _⟩
     ·exact .inl rfl
     ·refine .inr ⟨_, _, rfl, by simp; omega, fun d hd' => ?_⟩
      obtain ⟨y, hy, rfl⟩ := List.mem_map.1 hd'
      obtain ⟨i, hi, rfl⟩ := List.getElem_of_mem hy
      have := hel i (by omega)
      rw [List.getElem?_eq_getElem hi, Option.bind_eq_some_iff] at this
      obtain ⟨cs', _, h2⟩ := this
      exact ih _ _ hs' m cs' _ h2
    ·cases hs
   ·cases hs
  ·rename_i fs hu
   split at hs
   ·rename_i l hl
    rw [cond_eq_ite] at hs
    split at hs
    ·cases hs
     obtain ⟨xs, m, rfl, rfl, hlen, hxl, hget⟩ := DataW.trod_struct hu hx
     obtain ⟨f1, f2⟩ := fieldsSh_ok hl
     refine ⟨_, rfl, confL_of (by simp [hxl, f1]) fun i s d h1 h2 => ?_⟩
     have hi : i < fs.toList.length := by
      have := (List.getElem?_eq_some_iff.1 h1).1
      omega
     obtain ⟨s2, g1, g2, g3, g4⟩ := f2 i fs.toList[i] (List.getElem?_eq_getElem hi)
     rw [h1] at g1; cases g1
     have hq := hget i fs.toList[i] (by simpa using List.getElem?_eq_getElem hi)
     rw [List.getElem?_map] at h2
     cases hxi : xs[i]? with
     | none => rw [hxi] at h2; cases h2
     | some y =>
      rw [hxi] at h2 hq
      cases h2
      exact ih _ _ g2 m _ y hq
    ·cases hs
   ·cases hs
  ·rename_i m e hu
   split at hs
   ·rename_i s' hs'
    rw [cond_eq_ite] at hs
    split at hs
    ·cases hs
     cases fuel with
     | zero => simp [DataW.trod] at hx
     | succ fuel =>
      unfold DataW.trod at hx
      rw [hu] at hx
      simp only at hx
      split at hx
      ·rw [Option.map_eq_some_iff] at hx
       obtain ⟨xs, hxs, rfl⟩ := hx
       obtain ⟨q1, q2⟩ := mapM_get hxs
       refine ⟨_, rfl, confL_of (by simp [q1]) fun i s d h1 h2 => ?_⟩
       have hi : i < m := by
        have := (List.getElem?_eq_some_iff.1 h1).1
        simpa using this
       rw [List.getElem?_replicate, if_pos hi] at h1
       cases h1
       obtain ⟨y, y1, y2⟩ := q2 i i (by simp [hi])
       rw [List.getElem?_map, y1] at h2
       cases h2
       exact ih _ _ hs' fuel _ y y2
      ·cases hx
    ·cases hs
   ·cases hs
  ·cases hs

def argV (hd : H → AV) (s : Sh) (d : DataW H) : AV := match s with
 | .st _ => .agg (flat hd s d)
 | .fn => .undef
 | s => (flat hd s d).getD 0 .undef
def noHd : H → AV := fun _ => .undef
theorem noHd_ok {b : Bool} : b = true → ∀ t f x y, RelI W F (noHd (enc (t, Value.func f x y))) (.func f x y) := fun _ _ _ _ _ => .undef _
theorem arg_rel {r : Reach} {b0 n : Nat} {t : TypeId} {s : Sh} {v : Value} {d : DataW H} {p : List MemPlace} (hs : shp P n t = some s) (hv : Value.okWide P W r b0 t v) (h : DataW.Trod enc P W base (fun _ => true) held t v d p) :
  RelI W (fun b => b < W.heap.size) (argV noHd s d) v ∧ Conf s d := by
 obtain ⟨fuel, hf⟩ := h
 obtain ⟨h1, h2, h3⟩ := trod_rel (F := fun b => b < W.heap.size) (hd := noHd) noHd_ok (fun _ h => h) n t s hs fuel _ _ hf
 refine ⟨?_, trod_conf n t s hs fuel _ _ hf⟩
 have one : ∀ {y : Value}, v = y → y.cells = #[y] → (∃ u, flat noHd s d = [u]) → argV noHd s d = (flat noHd s d).getD 0 .undef → RelI W (fun b => b < W.heap.size) (argV noHd s d) v := by
  rintro y rfl hc ⟨u, hu⟩ ha
  have h1' : RelIs W (fun b => b < W.heap.size) (flat noHd s d) v.cells.toList := h1
  rw [hc, hu] at h1'
  rw [ha, hu]
  cases h1' with
  | cons _ _ _ _ h _ => exact h
 have hlen : ∀ {u : List AV}, flat noHd s d = u → s.size = 1 → ∃ x, u = [x] := by
  intro u hu hsz
  have := h1.length
  rw [hu, h3, hsz] at this
  exact List.length_eq_one_iff.1 this
 cases n with
 | zero => cases hs
 | succ n =>
  simp only [shp] at hs
  split at hs
  ·rename_i hu
   cases hs
   obtain ⟨b, rfl⟩ := okWide_bool hu hv
   exact one rfl rfl (hlen rfl rfl) rfl
  ·rename_i k hu
   cases hs
   obtain ⟨m, rfl⟩ := okWide_int hu hv
   exact one rfl rfl (hlen rfl rfl) rfl
  ·rename_i hu
   cases hs
   obtain ⟨b, rfl⟩ := okWide_string hu hv
   exact one rfl rfl (hlen rfl rfl) rfl
  ·cases hs; exact .undef _
  ·rename_i e hu
   split at hs
   ·rw [cond_eq_ite] at hs
    split at hs
    ·cases hs
     obtain ⟨a, len, cap, rfl⟩ := okWide_slice hu hv
     exact one rfl rfl (hlen rfl rfl) rfl
    ·cases hs
   ·cases hs
  ·rename_i fs hu
   split at hs
   ·rw [cond_eq_ite] at hs
    split at hs
    ·cases hs
     simp only [Value.okWide, hu] at hv
     obtain ⟨cs, rfl, _, _⟩ := hv
     exact .agg _ _ h1
    ·cases hs
   ·cases hs
  ·rename_i m e hu
   split at hs
   ·rw [cond_eq_ite] at hs
    split at hs
    ·cases hs
     simp only [Value.okWide, hu] at hv
     obtain ⟨cs, rfl, _, _⟩ := hv
     exact .agg _ _ h1
    ·cases hs
   ·cases hs
  ·cases hs

theorem conf_ints {k : IntKind} {d : DataW H} {hd : H → AV} (h : Conf (.sl (.int k)) d) : ∃ ks : List Int, flat hd (.sl (.int k)) d = [.imm (.ints k ks) ks.length none] ∧ ∀ x ∈ ks, (Lit.int k x).wf = true := by
 rcases h with rfl | ⟨es, sp, rfl, _, h⟩
 ·exact ⟨[], rfl, by simp⟩
 ·refine ⟨es.map numD, by simp [flat, Sh.intK, contOf'], fun x hx => ?_⟩
  obtain ⟨y, hy, rfl⟩ := List.mem_map.1 hx
  obtain ⟨n, rfl, hn⟩ := h y hy
  exact hn
def GlobAt (W : World) (g : Nat) (c : Cont) : Prop := g < W.heap.size ∧ ∃ xs : Nat → Value, (∀ i, i < c.size → W.cell? ⟨g, i, none⟩ = some (xs i)) ∧ (∀ i, i < c.size → RelI W (fun b => b < W.heap.size) (c.getV i) (xs i)) ∧ (∀ i, i < c.size → (xs i).oneCell' = true)
theorem glob_rel {g n : Nat} {t : TypeId} {s : Sh} {cs : Array Value} {fuel : Nat} {name : String} {d : DataW H} {p : List MemPlace} (hs : shp P n t = some s) (hg : P.globalNamed name = some g) (hvar : W.var? P name = some cs)
  (hhd : held = true → ∀ t f x y, RelI W (fun b => b < W.heap.size) (hd (enc (t, .func f x y))) (.func f x y))
  (h : DataW.trod enc P W base (fun _ => true) held fuel t cs.toList = some (d, p)) {c : Cont} (hc : c.size = (flat hd s d).length ∧ ∀ i, i < c.size → c.getV i = (flat hd s d).getD i .undef) : GlobAt W g c := by
 obtain ⟨h1, h2, h3⟩ := trod_rel (F := fun b => b < W.heap.size) hhd (fun _ h => h) n t s hs fuel _ _ h
 have hlen : (flat hd s d).length = cs.toList.length := h1.length
 have hlt : g < W.heap.size := by
  simp only [World.var?, hg, Option.bind_some] at hvar
  split at hvar
  ·rename_i hh; exact lt_of_some hh
  ·cases hvar
 have key : ∀ i, i < c.size → ∃ x, cs[i]? = some x ∧ (flat hd s d)[i]? = some (c.getV i) ∧ RelI W (fun b => b < W.heap.size) (c.getV i) x ∧ x.oneCell' = true := by
  intro i hi
  have hi2 : i < (flat hd s d).length := by omega
  have hi3 : i < cs.toList.length := by omega
  have e1 : (flat hd s d)[i]? = some (c.getV i) := by
   rw [hc.2 i hi, List.getD_eq_getElem?_getD, List.getElem?_eq_getElem hi2]; rfl
  have e2 : cs.toList[i]? = some cs.toList[i] := List.getElem?_eq_getElem hi3
  exact ⟨cs.toList[i], by simpa using e2, e1, h1.get e1 e2, h2 _ (List.getElem_mem hi3)⟩
 refine ⟨hlt, fun i => cs.getD i undef, fun i hi => ?_, fun i hi => ?_, fun i hi => ?_⟩
 all_goals
  obtain ⟨x, k1, k2, k3, k4⟩ := key i hi
  have kx : cs.getD i undef = x := by rw [Array.getD_eq_getD_getElem?, k1]; rfl
  simp only [kx]
 ·rw [World.var?_cell hg hvar i, k1]
 ·exact k3
 ·exact k4
theorem cont_ints {k : IntKind} {zs : List Int} {l : List AV} (h : l = zs.map (.int k)) : (Cont.ints k zs).size = l.length ∧ ∀ i, i < (Cont.ints k zs).size → (Cont.ints k zs).getV i = l.getD i .undef := by
 subst h
 refine ⟨by simp [Cont.size], fun i hi => ?_⟩
 have hi : i < zs.length := hi
 simp [Cont.getV, hi]
theorem cont_vals {l : List AV} : (Cont.vals l).size = l.length ∧ ∀ i, i < (Cont.vals l).size → (Cont.vals l).getV i = l.getD i .undef := ⟨rfl, fun i hi => rfl⟩
theorem laid_one {name : String} {dt : DataW Unit} {rest : List (String × DataW Unit)} {ps : List MemPlace} {g n : Nat} {t : TypeId} {s : Sh} (hg : P.globalNamed name = some g) (hty : (P.globals[g]?).map (·.type) = some t) (hs : shp P n t = some s)
  (h : DataW.LaidVars P W ((name, dt) :: rest) ps) {c : Cont} (hc : c.size = (flat noHd s dt).length ∧ ∀ i, i < c.size → c.getV i = (flat noHd s dt).getD i .undef) : GlobAt W g c ∧ ∃ q, DataW.LaidVars P W rest q := by
 obtain ⟨g', t', cs, fuel, p, q, hg', ht', hvar, hd', hr, _⟩ := h
 obtain rfl := Option.some.inj (hg.symm.trans hg')
 obtain rfl := Option.some.inj (hty.symm.trans ht')
 exact ⟨glob_rel (hd := noHd) hs hg hvar noHd_ok hd' hc, q, hr⟩

def nameHd (l : List (List UInt8 × Nat)) (tok : List UInt8) : AV := match l.find? fun p => p.1 == tok with
 | some p => .fn p.2 [] []
 | none => .undef
theorem nameHd_ok {l : List (List UInt8 × Nat)} (hl : ∀ p ∈ l, p.1 ≠ [] ∧ ∃ name : String, name.toUTF8.data.toList = p.1 ∧ P.funcNamed name = some p.2) {b : Bool} : b = true → ∀ t f x y, RelI W F (nameHd l (funcToken P (t, Value.func f x y))) (.func f x y) := by
 intro _ t f x y
 unfold nameHd
 split
 ·rename_i p hp
  have h1 := List.find?_some hp
  have h1 : p.1 = funcToken P (t, Value.func f x y) := by simpa using h1
  obtain ⟨n0, name, n1, n2⟩ := hl p (List.mem_of_find?_eq_some hp)
  cases htok : funcToken P (t, Value.func f x y) with
  | nil =>
   exact absurd (h1.trans htok) n0
  | cons c r =>
   obtain ⟨f', fn, e1, e2, e3, e4⟩ := funcToken_tells htok
   cases e1
   have : fn.name = name := by
    have h5 : fn.name.toUTF8 = name.toUTF8 := by
     have e5 : fn.name.toUTF8.data.toList = name.toUTF8.data.toList := by rw [e4, ← htok, ← h1, n1]
     exact ByteArray.ext (Array.toList_inj.1 e5)
    exact String.toByteArray_inj.mp h5
   rw [this, n2] at e3
   cases e3
   exact .fn _ _ _ _ _ .nil .nil
 ·exact .undef _
end
end Go.Ab

/-
 strings.Join, by the contract of the library's shelf, as a contract here.
-/
set_option linter.unusedVariables false
namespace Go.Ab
open Go Go.RowKit

def strL : List AV → Option (List (List UInt8))
 | [] => some []
 | v :: r => match v with
  | .str s => match strL r with
   | some l => some (s :: l)
   | none => none
  | _ => none
def contS : Cont → Option (List (List UInt8))
 | .vals l => strL l
 | .strs l => some l
 | _ => none
def joinF (i : Nat) (f : Nat) (args : List AV) : Option (AV × List Blk) :=
 cond (Nat.beq i f) (match args with
  | [.imm c n _, .str sep] => match contS c with
   | some ls => cond (Nat.beq n ls.length && (Nat.ble ls.length 100000 && Nat.ble (Lib.join ls sep).length 100000)) (some (.str (Lib.join ls sep), [])) none
   | none => none
  | _ => none) none
theorem strL_get : ∀ {l : List AV} {ls : List (List UInt8)}, strL l = some ls → ls.length = l.length ∧ ∀ (i : Nat) (s : List UInt8), ls[i]? = some s → l[i]? = some (AV.str s)
 | [], ls, h => by cases h; exact ⟨rfl, fun i s h => by simp at h⟩
 | v :: r, ls, h => by
  simp only [strL] at h
  split at h
  ·split at h
   ·rename_i s l' hl
    cases h
    obtain ⟨h1, h2⟩ := strL_get hl
    refine ⟨by simp [h1], fun i s h => ?_⟩
    cases i with
    | zero => simp at h; subst h; rfl
    | succ i => simpa using h2 i s (by simpa using h)
   ·cases h
  ·cases h
theorem contS_get {c : Cont} {ls : List (List UInt8)} (h : contS c = some ls) : ls.length = c.size ∧ ∀ (i : Nat) (s : List UInt8), ls[i]? = some s → c.getV i = .str s := by
 unfold contS at h
 split at h
 ·obtain ⟨h1, h2⟩ := strL_get h
  exact ⟨h1, fun i s hi => by simp [Cont.getV, h2 i s hi]⟩
 ·cases h
  exact ⟨rfl, fun i s hi => by simp [Cont.getV, hi]⟩
 ·cases h
theorem toArr (s : ByteArray) (l : List UInt8) (h : s.data.toList = l) : s = ⟨l.toArray⟩ := by
 subst h
 cases s with
 | mk d => simp
theorem joinF_ok {P : Program} {G : GL} (hns : ¬ G.strong) {f : Nat} {fn : Func} {c : Code} (hf : P.funcs[f]? = some fn) (hname : (fn.name == "runtime.NumGoroutine") = false) (hb : fn.body = some c)
  (h0 : ∀ (a : Option Addr) (c : Nat) (sep : ByteArray) (w : World), Calls P f #[.slice a 0 c, .string sep] w fun e w' => e = .returned (.string ⟨#[]⟩) ∧ w' = w)
  (h1 : ∀ (bk o c : Nat) (xs : List ByteArray) (sep : ByteArray) (w : World), (∀ (j : Nat) x, xs[j]? = some x → w.cell? ⟨bk, o + j, none⟩ = some (.string x)) → bk < w.heap.size → xs.length ≤ 140737488355328 → xs.length ≤ c → (Lib.join (xs.map (·.data.toList)) sep.data.toList).length ≤ 140737488355328 →
   Calls P f #[.slice (some ⟨bk, o, none⟩) xs.length c, .string sep] w fun e w' => e = .returned (.string ⟨(Lib.join (xs.map (·.data.toList)) sep.data.toList).toArray⟩) ∧ Below w.heap.size w w') :
  ∀ g args v hs, joinF f g args = some (v, hs) → SpecP P G g args v hs := by
 intro g args v hs h
 unfold joinF at h
 rw [cond_eq_ite] at h
 split at h
 ·rename_i hg
  have hg := Nat.eq_of_beq_eq_true hg
  subst hg
  split at h
  ·rename_i l n cap sep
   split at h
   ·rename_i ls hls
    rw [cond_eq_ite] at h
    split at h
    ·rename_i hc
     cases h
     simp only [Bool.and_eq_true] at hc
     have hn := Nat.eq_of_beq_eq_true hc.1
     have hl1 := Nat.le_of_ble_eq_true hc.2.1
     have hl2 := Nat.le_of_ble_eq_true hc.2.2
     have hn0 := hn
     obtain ⟨g1, g2⟩ := contS_get hls
     intro F w vs hm hr
     obtain ⟨vl⟩ := vs
     cases hr with
     | cons _ _ x1 r1 hx1 hr =>
      cases hr with
      | cons _ _ x2 r2 hx2 hr2 =>
       cases hr2
       obtain ⟨sb, rfl, hs⟩ : ∃ sb, x2 = .string sb ∧ sb.data.toList = sep := by cases hx2 with | str _ s h => exact ⟨s, rfl, h⟩
       have key : ∀ e w', e = Ending.returned (.string ⟨(Lib.join ls sep).toArray⟩) ∧ Below w.heap.size w w' → ∃ v, e = .returned v ∧ ∃ F' ρ', MRel G F' ρ' (hsH []) w' ∧ Ext G F noR w F' ρ' w' ∧ RelV w' F' ρ' (hsH []) (.str (Lib.join ls sep)) v := by
        rintro e w' ⟨rfl, hB⟩
        have hfr : ∀ b, F b → w'.heap[b]? = w.heap[b]? := fun b hb => hB.block b (hm.frz b hb)
        refine ⟨_, rfl, F, noR, ⟨fun id o h => (by simp [hsH] at h), fun id b h => (by cases h), fun i j b h => (by cases h), fun id b h => (by cases h), fun b hb => Nat.lt_of_lt_of_le (hm.frz b hb) hB.size, GlobOk.mono hfr (fun _ h => h) hm.glob⟩, ⟨⟨hB.os, hB.output, fun s => absurd s hns⟩, hB.size, fun b hb _ => hB.block b hb, hfr, fun _ h => h, fun _ h => .inl h, fun id b h => (by cases h)⟩, .imm _ _ (.str _ _ rfl)⟩
       unfold CallOk
       rw [callFunc_enter hf hname hb]
       refine .inr (.inl ⟨_, _, _, rfl, ?_⟩)
       cases hx1 with
       | imm0 _ _ x hz hcap =>
        have e : ls = [] := List.length_eq_zero_iff.1 hn0.symm
        subst e
        exact (h0 _ _ _ _).mono fun e w' ⟨e1, e2⟩ => key e w' ⟨by rw [e1]; rfl, e2 ▸ Below.refl _ _⟩
       | imm _ _ _ b o cap' xs hF hcl hrl ho hlc hcap =>
        have hcell : ∀ (j : Nat) x, (ls.map fun l => (⟨l.toArray⟩ : ByteArray))[j]? = some x → w.cell? ⟨b, o + j, none⟩ = some (.string x) := by
         intro j x hj
         rw [List.getElem?_map] at hj
         cases hlj : ls[j]? with
         | none => rw [hlj] at hj; cases hj
         | some s =>
          rw [hlj] at hj
          cases hj
          have hjl : j < l.size := by
           rw [← g1]; exact (List.getElem?_eq_some_iff.1 hlj).1
          have h2 := g2 j s hlj
          rw [hcl j hjl]
          have hrj := hrl j hjl
          rw [h2] at hrj
          generalize xs j = y at hrj
          cases hrj with
          | str _ sb' e2 => rw [toArr _ _ e2]
        have hmap : (ls.map fun l => (⟨l.toArray⟩ : ByteArray)).map (·.data.toList) = ls := by
         rw [List.map_map]
         conv => rhs; rw [← List.map_id ls]
         exact List.map_congr_left fun a _ => by simp
        have hlen : (ls.map fun l => (⟨l.toArray⟩ : ByteArray)).length = ls.length := List.length_map ..
        have := h1 b o cap' _ sb w hcell (hm.frz b hF) (by rw [hlen]; omega) (by rw [hlen, ← hn0]; exact hlc) (by rw [hmap, hs]; omega)
        rw [hmap, hs, hlen, ← hn0] at this
        exact this.mono key
    ·cases h
   ·cases h
  ·cases h
 ·cases h
theorem SpecP.more {P : Program} {G G' : GL} (hg : ∀ g c, G.g g = some c → G'.g g = some c) (hst : G'.strong → G.strong) {f : Nat} {args : List AV} {ret : AV} {hs : List Blk} (h : SpecP P G f args ret hs) : SpecP P G' f args ret hs := by
 intro F w vs hm hr
 have hm' : MRel G F noR noH w := ⟨fun id o h => (by cases h), fun id b h => (by cases h), fun i j b h => (by cases h), fun id b h => (by cases h), hm.frz, fun g c hgc => hm.glob g c (hg g c hgc)⟩
 refine (h F w vs hm' hr).mono ?_
 rintro v w' ⟨F', ρ', h1, h2, h3⟩
 refine ⟨F', ρ', ⟨fun id o ho => ?_, h1.dom, h1.inj, h1.lt, h1.frz, GlobOk.mono (fun b hb => h2.frz b hb) (fun b hb => h2.keep b hb) hm.glob⟩, ⟨⟨h2.io.1, h2.io.2.1, fun s => h2.io.2.2 (hst s)⟩, h2.size, h2.same, h2.frz, h2.keep, h2.more, h2.im⟩, h3⟩
 have := h1.heap id o ho
 unfold hsH at ho
 cases hx : hs[id]? with
 | none => rw [hx] at ho; cases ho
 | some k => rw [hx] at ho; cases ho; exact this
end Go.Ab

/-
 slices.SortFunc over structs of numbers, by the contract of the library's shelf, as a contract here.
-/
set_option linter.unusedVariables false
namespace Go.Ab
open Go Go.RowKit

structure RowS (α : Type) where
 k : Nat
 row : α → List (IntKind × Int)
 len : ∀ x, (row x).length = k
def RowS.av {α : Type} (R : RowS α) (x : α) : List AV := (R.row x).map fun p => AV.int p.1 p.2
def RowS.vl {α : Type} (R : RowS α) (x : α) : List Value := (R.row x).map fun p => Value.int p.1 p.2
def sortL {α : Type} [Inhabited α] (cf : α → α → Int) (d : List α) : List α := (Go.Sort.pdq (Go.Proofs.ltOf cf) d.toArray 0 d.length (Lib.bitLen d.length) true true).toList
theorem sortL_perm {α : Type} [Inhabited α] {cf : α → α → Int} (hO : Go.Sort.SWO (Go.Proofs.ltOf cf)) (d : List α) : (sortL cf d).Perm d ∧ (sortL cf d).Pairwise (fun x y => ¬ cf y x < 0) := by
 have h := Go.Sort.pdq_sorts (Go.Proofs.ltOf cf) hO d.toArray 0 d.toArray.size (Lib.bitLen d.toArray.size) true true (Nat.zero_le _) (Nat.le_refl _) (Or.inl rfl)
 obtain ⟨⟨hs, _, hp⟩, ho⟩ := h
 have e : sortL cf d = (Go.Sort.pdq (Go.Proofs.ltOf cf) d.toArray 0 d.toArray.size (Lib.bitLen d.toArray.size) true true).toList := by simp [sortL]
 rw [e]
 generalize Go.Sort.pdq (Go.Proofs.ltOf cf) d.toArray 0 d.toArray.size (Lib.bitLen d.toArray.size) true true = D at *
 constructor
 ·have e1 : (D.extract 0 d.toArray.size).toList = D.toList := by rw [← hs]; simp
  have e2 : (d.toArray.extract 0 d.toArray.size).toList = d := by simp
  rw [e1, e2] at hp
  exact hp
 ·rw [List.pairwise_iff_getElem]
  intro i j hi hj hij hlt
  have hj' : j < d.toArray.size := by rw [← hs]; simpa using hj
  have := ho i j (Nat.zero_le _) hij hj'
  have g1 : D[i]! = D.toList[i] := by
   have : i < D.size := by simpa using hi
   simp [this]
  have g2 : D[j]! = D.toList[j] := by
   have : j < D.size := by simpa using hj
   simp [this]
  rw [g1, g2] at this
  unfold Go.Proofs.ltOf at this
  simp only [decide_eq_false_iff_not] at this
  exact this hlt
theorem flatMap_row {α β : Type} {f : α → List β} {k : Nat} (hk : 0 < k) (hf : ∀ x, (f x).length = k) : ∀ (l : List α) (j : Nat), (l.flatMap f)[j]? = (l[j / k]?).bind fun x => (f x)[j % k]?
 | [], j => by simp
 | x :: l, j => by
  rw [List.flatMap_cons]
  by_cases h : j < k
  ·rw [List.getElem?_append_left (by rw [hf]; exact h), Nat.div_eq_of_lt h, Nat.mod_eq_of_lt h]; rfl
  ·have h' : k ≤ j := Nat.le_of_not_lt h
   rw [List.getElem?_append_right (by rw [hf]; exact h'), hf, flatMap_row hk hf l (j - k), Nat.div_eq_sub_div hk h', Nat.mod_eq_sub_mod h']
   rfl
section
variable {α : Type} (R : RowS α)
theorem RowS.av_len (x : α) : (R.av x).length = R.k := by unfold RowS.av; rw [List.length_map, R.len]
theorem RowS.vl_len (x : α) : (R.vl x).length = R.k := by unfold RowS.vl; rw [List.length_map, R.len]
theorem RowS.flat_len (d : List α) : (d.flatMap R.av).length = d.length * R.k := by
 induction d with
 | nil => simp
 | cons x d ih => rw [List.flatMap_cons, List.length_append, R.av_len, ih, List.length_cons, Nat.add_mul, Nat.one_mul, Nat.add_comm]
theorem RowS.flat_rel [Inhabited α] (hk : 0 < R.k) (d : List α) (i : Nat) (hi : i < d.length * R.k) : ∃ kd n, (d.flatMap R.av)[i]? = some (.int kd n) ∧ (Go.Sort.flatK R.vl R.k d.toArray)[i]! = .int kd n := by
 have h1 : i / R.k < d.length := Nat.div_lt_of_lt_mul (by rw [Nat.mul_comm]; exact hi)
 have h2 : i % R.k < (R.row d[i / R.k]).length := by rw [R.len]; exact Nat.mod_lt _ hk
 refine ⟨((R.row d[i / R.k])[i % R.k]).1, ((R.row d[i / R.k])[i % R.k]).2, ?_, ?_⟩
 ·rw [flatMap_row hk R.av_len, List.getElem?_eq_getElem h1]
  simp only [Option.bind_some, RowS.av, List.getElem?_map, List.getElem?_eq_getElem h2, Option.map_some]
 ·rw [Go.Sort.get_flatK _ _ _ _ (by simpa using hi)]
  have e : d.toArray[i / R.k]! = d[i / R.k] := by simp [h1]
  rw [e]
  unfold RowS.vl
  rw [getElem!_pos _ _ (by simpa using h2)]
  simp
end
theorem MRel.grown {G : GL} {F : Nat → Prop} {ρ : Nat → Option Nat} {H : Nat → Option HO} {w w' : World} (hm : MRel G F ρ H w) {os : Array Obj} (hw : w'.heap = w.heap ++ os) (hio : IoEq G w w') :
  MRel G F ρ H w' ∧ Ext G F ρ w F ρ w' ∧ HKeep w ρ H w' ρ H := by
 have hold : ∀ b, b < w.heap.size → w'.heap[b]? = w.heap[b]? := fun b hb => by rw [hw, Array.getElem?_append, if_pos hb]
 have hsz : w.heap.size ≤ w'.heap.size := by rw [hw]; simp
 have hk : HKeep w ρ H w' ρ H := ⟨fun id o h1 h2 => ⟨o, h1, h2, rfl⟩, fun id k h1 => ⟨k, h1, rfl, Nat.le_refl _, fun _ => ⟨rfl, rfl, .inl rfl, rfl⟩⟩, fun b cs ty fz hb => ⟨cs, ty, fz, (hold b (lt_of_some hb)).trans hb, rfl⟩⟩
 have hwF : ∀ b, F b → w'.heap[b]? = w.heap[b]? := fun b hb => hold b (hm.frz b hb)
 refine ⟨⟨fun id o ho => (hm.heap id o ho).mono hwF (fun _ h => h) hk rfl (fun b hb => ⟨hold b (hm.lt id b hb), fun h => h⟩), hm.dom, hm.inj, fun id b hb => Nat.lt_of_lt_of_le (hm.lt id b hb) hsz, fun b hb => Nat.lt_of_lt_of_le (hm.frz b hb) hsz, hm.glob.mono hwF (fun _ h => h)⟩, ?_, hk⟩
 exact ⟨hio, hsz, fun b hb _ => hold b hb, hwF, fun _ h => h, fun _ h => .inl h, fun id b hb => .inl ⟨id, hb⟩⟩
theorem calls_of_strong {P : Program} {G : GL} (hst : G.strong) (hg : ∀ g, G.g g = none) {f : Nat} {fn : Func} {c : Code} {args : List AV} {vs : Array Value} {n : Int} (hs : SpecP P G f args (.int .i64 n) [])
  (hf : P.funcs[f]? = some fn) (hname : (fn.name == "runtime.NumGoroutine") = false) (hb : fn.body = some c) (W : World) (hr : RelIs W (fun _ => False) args vs.toList) :
  Calls P f vs W fun e w' => e = .returned (.int .i64 n) ∧ ∃ q os', w' = Go.Sort.grow (W.drewN q) os' := by
 have hm : MRel G (fun _ => False) noR noH W := ⟨fun id o h => (by cases h), fun id b h => (by cases h), fun i j b h => (by cases h), fun id b h => (by cases h), fun b h => h.elim, fun g c hc => by rw [hg] at hc; cases hc⟩
 have key : ∀ v w', (∃ F' ρ', MRel G F' ρ' (hsH []) w' ∧ Ext G (fun _ => False) noR W F' ρ' w' ∧ RelV w' F' ρ' (hsH []) (.int .i64 n) v) → v = .int .i64 n ∧ ∃ q os', w' = Go.Sort.grow (W.drewN q) os' := by
  rintro v w' ⟨F', ρ', h1, h2, h3⟩
  refine ⟨h3.ints, w'.drawn - W.drawn, w'.heap.extract W.heap.size w'.heap.size, ?_⟩
  obtain ⟨i1, i2, i3⟩ := h2.io
  obtain ⟨i3, i4⟩ := i3 hst
  have hh : w'.heap = W.heap ++ w'.heap.extract W.heap.size w'.heap.size := by
   have hz := h2.size
   apply Array.ext_getElem?
   intro i
   rw [Array.getElem?_append]
   by_cases hi : i < W.heap.size
   ·rw [if_pos hi]; exact h2.same i hi (fun id e => by cases e)
   ·rw [if_neg hi, Array.getElem?_extract]
    by_cases hi2 : i < w'.heap.size
    ·rw [if_pos (by omega)]; congr 1; omega
    ·rw [if_neg (by omega)]; exact Array.getElem?_eq_none (by omega)
  obtain ⟨wh, wt, wd, wo, wp⟩ := w'
  obtain ⟨Wh, Wt, Wd, Wo, Wp⟩ := W
  simp only at i1 i2 i3 i4 hh
  show _ = World.mk _ _ _ _ _
  simp only [World.drewN, World.mk.injEq]
  exact ⟨hh, i3, by omega, i1, i2⟩
 have h := hs _ W vs hm hr
 unfold CallOk at h
 rw [callFunc_enter hf hname hb] at h
 rcases h with ⟨nx, y, w', h1, h2, _⟩ | ⟨f', args', w1, h1, h2⟩ | ⟨l, fn', tmps, as', bd, w1, h1, _⟩
 ·cases h1; rcases h2 with h2 | ⟨h2, _⟩ <;> cases h2
 ·cases h1
  refine h2.mono ?_
  rintro e w' ⟨v, rfl, hk⟩
  obtain ⟨rfl, h⟩ := key v w' hk
  exact ⟨rfl, h⟩
 ·cases h1
theorem sortF_spec {P : Program} {G : GL} {ρr : Go.Shelf.Ren} {α : Type} [Inhabited α] (L : Go.Proofs.SlLaysF0.n6 P ρr) (R : RowS α) (hk0 : 0 < R.k) (aE : ∀ w, (isAgg (ρr.t 24)).run P w = .ok true w) (zE : ∀ w, (Go.sizeOf (ρr.t 24)).run P w = .ok R.k w)
  (cf : α → α → Int) (hO : Go.Sort.SWO (Go.Proofs.ltOf cf)) {f g : Nat} {fn : Func} {c : Code} (hfr : ρr.f 6 = f) (hf : P.funcs[f]? = some fn) (hname : (fn.name == "runtime.NumGoroutine") = false) (hb : fn.body = some c)
  (eg : ∀ args w, (callFunc g args).run P w = .ok (.enter g args) w)
  (hC : ∀ (W : World) (x y : α), Calls P g #[.agg (R.vl x).toArray, .agg (R.vl y).toArray] W fun e w' => e = .returned (.int .i64 (cf x y)) ∧ ∃ q os', w' = Go.Sort.grow (W.drewN q) os')
  {id : Nat} {d : List α} {cap : Option Nat} {nl : Option Bool} {bx : Bool} (hsz : d.length < 1000000000) :
  SpecD P G (.fn f [] []) [.full id d.length, .fn g [] []] [(id, .blk ⟨.vals (d.flatMap R.av), R.k, d.length, cap, nl, true, bx⟩)] (.tup [])
   [(id, .blk ⟨.vals ((sortL cf d).flatMap R.av), R.k, d.length, cap, nl, true, bx⟩)] [] := by
 subst hfr
 intro F ρ w xs hm hv
 obtain ⟨vl⟩ := xs
 have Hid : aget [(id, HO.blk ⟨.vals (d.flatMap R.av), R.k, d.length, cap, nl, true, bx⟩)] id = some (.blk ⟨.vals (d.flatMap R.av), R.k, d.length, cap, nl, true, bx⟩) := by simp [aget]
 generalize hH : aget [(id, HO.blk ⟨.vals (d.flatMap R.av), R.k, d.length, cap, nl, true, bx⟩)] = H at *
 have hl : (sortL cf d).length = d.length := (sortL_perm hO d).1.length_eq
 cases hv with
 | cons _ _ x1 r1 hx1 hv =>
  cases hv with
  | cons _ _ x2 r2 hx2 hv2 =>
   cases hv2
   obtain ⟨a', b', rfl, h1, h2⟩ := hx2.fns
   have ea : a' = #[] := by
    have := h1.len
    exact Array.eq_empty_of_size_eq_zero (by simpa using this.symm)
   have eb : b' = #[] := by
    have := h2.len
    exact Array.eq_empty_of_size_eq_zero (by simpa using this.symm)
   subst ea; subst eb
   show CallOk P _ _ w _
   unfold CallOk
   rw [callFunc_enter hf hname hb]
   refine .inr (.inl ⟨_, _, _, rfl, ?_⟩)
   obtain ⟨hle, hF⟩ : d.length ≤ d.length ∧ FullOk w ρ id d.length ⟨.vals (d.flatMap R.av), R.k, d.length, cap, nl, true, bx⟩ x1 := by
    cases hx1 with
    | imm _ _ hi => cases hi
    | full _ _ k1 x hh hle hp hx =>
     rw [Hid] at hh
     cases hh
     exact ⟨Nat.le_refl _, hx rfl⟩
   have hnone : ∀ (p : Option Addr) (cp : Nat), d = [] → Calls P (ρr.f 6) ⟨[.slice p d.length cp, .func (.func g) #[] #[]]⟩ w fun e w' => ∃ v, e = .returned v ∧ KD G F ρ H w { v := .tup [], ws := [(id, .blk ⟨.vals ((sortL cf d).flatMap R.av), R.k, d.length, cap, nl, true, bx⟩)], al := [], cs := [] } v w' := by
    intro p cp hd
    have hc := Go.Proofs.AnyF.slices_SortFunc_none L p cp (.func (.func g) #[] #[]) w
    rw [show (0 : Nat) = d.length by rw [hd]; rfl] at hc
    refine hc.mono fun e w' ⟨he, hw⟩ => ⟨_, he, ?_⟩
    subst hw
    have es : sortL cf d = d := by
     rw [hd] at hl ⊢
     exact List.length_eq_zero_iff.1 hl
    have eu : updL H [(id, .blk ⟨.vals ((sortL cf d).flatMap R.av), R.k, d.length, cap, nl, true, bx⟩)] = H := by
     rw [es]
     funext i
     by_cases e : i = id
     ·subst e; simp only [updL]; rw [upd_same, Hid]
     ·simp only [updL]; rw [upd_other _ _ e]
    refine ⟨F, ρ, ?_, Ext.refl _ _ _, ?_, ?_⟩
    ·rw [eu]; exact hm
    ·rw [eu]; exact HKeep.refl _ _ _
    ·exact .imm _ _ (.tup [] #[] .nil)
   by_cases hd : d = []
   ·rcases hF with ⟨e1, _, _, rfl⟩ | ⟨e1, _, _, a, rfl⟩ | ⟨_, b, cp, cs, ty, fz, _, _, rfl, _, _, _⟩
    ·have := hnone none 0 hd
     rw [e1] at this ⊢
     exact this
    ·have := hnone (some a) 0 hd
     rw [e1] at this ⊢
     exact this
    ·exact hnone _ _ hd
   ·have hpos : 0 < d.length := List.length_pos_iff.2 hd
    rcases hF with ⟨e1, _, _, rfl⟩ | ⟨e1, _, _, a, rfl⟩ | ⟨_, b, cp, cs, ty, fz, hρ, hheap, rfl, hlc, hcs, _⟩
    ·omega
    ·omega
    ·obtain ⟨hsize, h3 | ⟨b', hb', hB⟩⟩ := hm.heap id _ Hid
     ·have := h3.1; simp only at this; omega
     ·obtain rfl : b = b' := Option.some.inj (hρ.symm.trans hb')
      obtain ⟨cs', ty', fz', g1, g2, g3, g4⟩ := hB.ex
      rw [hheap] at g1
      cases g1
      simp only [size_vals, R.flat_len] at g3 g4
      have hcell : ∀ j, j < d.length * R.k → cs[j]? = some (Go.Sort.flatK R.vl R.k d.toArray)[j]! := fun j hj => by
       obtain ⟨x, q1, q2, q3⟩ := g4 j hj
       obtain ⟨kd, n, p1, p2⟩ := R.flat_rel hk0 d j hj
       have q2 : RelI w F ((d.flatMap R.av).getD j .undef) x := q2
       rw [List.getD_eq_getElem?_getD, p1] at q2
       cases q2
       rw [q1, p2]
      have hH : Go.Sort.HoldsK R.vl R.k w b 0 d.toArray := fun j hj => by
       have hj' : j < d.length * R.k := by simpa using hj
       constructor
       ·simp only [World.cell?, hheap, Nat.zero_add, Option.isSome_none, Bool.false_eq_true, if_false]
        rw [hcell j hj']; rfl
       ·have := g2 j (Nat.lt_of_lt_of_le hj' g3)
        obtain ⟨lo, hi⟩ := fz
        simp only [World.frozen?, hheap, Nat.zero_add]
        simp only [not_and, Nat.not_lt] at this
        by_cases hlo : lo ≤ j
        ·simp [hlo]; exact this hlo
        ·simp [hlo]
      have hblk : b < w.heap.size := lt_of_some hheap
      have hcmp : Go.Proofs.CmpLays P g #[] R.vl R.k cf b 0 d.toArray.size w := fun m os dk hs x y => by
       have := hC (Go.Proofs.sortWorldK R.vl R.k w b 0 m dk os) x y
       simpa using this
      have hcall := Go.Proofs.AnyQ.slices_SortFunc_eq L R.k aE zE R.vl R.vl_len (fun x v hv => by
       unfold RowS.vl at hv
       obtain ⟨p, _, rfl⟩ := List.mem_map.1 hv
       rfl) cf hO g #[] b 0 cp d.toArray w eg hcmp hH hblk (by simp; omega)
      have esz : d.toArray.size = d.length := by simp
      rw [esz] at hcall
      refine hcall.mono fun e w' ⟨he, m, os, hw⟩ => ⟨_, he, ?_⟩
      have eD : (Go.Sort.pdq (Go.Proofs.ltOf cf) d.toArray 0 d.length (Lib.bitLen d.length) true true) = (sortL cf d).toArray := by simp [sortL]
      rw [eD] at hw
      let w1 : World := Go.Sort.putRowK R.vl R.k w b 0 (sortL cf d).toArray
      have hw1 : w1.heap = w.heap.modify b (Go.Sort.onCells (Go.Sort.putCells _root_.id 0 (Go.Sort.flatK R.vl R.k (sortL cf d).toArray))) := rfl
      let cs1 : Array Value := Go.Sort.putCells _root_.id 0 (Go.Sort.flatK R.vl R.k (sortL cf d).toArray) cs
      have hnew : w1.heap[b]? = some (.cells cs1 ty fz) := by
       rw [hw1, Array.getElem?_modify, if_pos rfl, hheap]; rfl
      have hoth : ∀ j, j ≠ b → w1.heap[j]? = w.heap[j]? := fun j hj => by
       rw [hw1, Array.getElem?_modify, if_neg (Ne.symm hj)]
      have hsz1 : w1.heap.size = w.heap.size := by rw [hw1]; simp
      have hcs1 : cs1.size = cs.size := by simp [cs1, Go.Sort.putCells]
      have hmu := hB.mu rfl
      obtain ⟨m1, x1, k1⟩ := hm.write (w' := w1) (o' := .blk ⟨.vals ((sortL cf d).flatMap R.av), R.k, d.length, cap, nl, true, bx⟩) Hid hρ hmu hnew hoth hsz1 ⟨rfl, rfl, fun _ => ⟨rfl, Nat.le_refl _⟩⟩
       (fun cs2 ty2 fz2 h => by rw [hheap] at h; cases h; exact ⟨_, _, _, rfl, hcs1⟩) rfl
       (fun k hk => by cases hk; exact ⟨_, rfl, Nat.le_refl _, fun _ => ⟨rfl, rfl, .inl rfl⟩⟩)
       (fun hkp => ⟨by simp only [size_vals, R.flat_len, hl], .inr ⟨b, hρ, ⟨⟨cs1, ty, fz, hnew, by rw [hcs1]; exact g2, by simp only [size_vals, R.flat_len, hl]; rw [hcs1]; exact g3, fun i hi => by
        simp only [size_vals, R.flat_len] at hi
        obtain ⟨kd, n, p1, p2⟩ := R.flat_rel hk0 (sortL cf d) i hi
        have hi2 : i < cs.size := by rw [hl] at hi; omega
        refine ⟨.int kd n, ?_, ⟨?_, rfl⟩⟩
        ·show (Go.Sort.putCells _root_.id 0 (Go.Sort.flatK R.vl R.k (sortL cf d).toArray) cs)[i]? = _
         unfold Go.Sort.putCells
         rw [Array.getElem?_mapIdx, Array.getElem?_eq_getElem hi2]
         simp only [Option.map_some, Nat.zero_le, true_and, Nat.zero_add, Nat.sub_zero]
         rw [if_pos (by simpa using hi), p2]; rfl
        ·show RelI _ _ (((sortL cf d).flatMap R.av).getD i .undef) _
         rw [List.getD_eq_getElem?_getD, p1]
         exact .int _ _⟩, fun _ => hmu, fun h => by cases h⟩⟩⟩)
      obtain ⟨m2, x2, k2⟩ := m1.grown (w' := w') (os := os) (by rw [hw]; rfl) (by rw [hw]; exact ⟨rfl, rfl, fun _ => ⟨rfl, Nat.le_add_right _ _⟩⟩)
      exact ⟨F, ρ, m2, x1.trans x2, k1.trans k2, .imm _ _ (.tup [] #[] .nil)⟩
end Go.Ab
