/-
 The texts of fans.
-/
import Derived.Test.YtfafinkgmhkdmaaDoorVO9Z
import Derived.Test.YtfafinkgmhkdmaaDoorVC6hZ
set_option maxRecDepth 1000000
set_option linter.unusedVariables false
set_option linter.unusedSimpArgs false
namespace Go.Proofs.YtfafinkgmhkdmaaDoor.X
open Go Go.Ab

theorem ev34_1 : evM G (aget xpl) nats me0 100000 1000 1 [] (.fn 34 [] []) [.int .i64 1] = some ⟨.str [49], [], [], []⟩ := by kernel_rfl
theorem ev34_2 : evM G (aget xpl) nats me0 100000 1000 1 [] (.fn 34 [] []) [.int .i64 2] = some ⟨.str [50], [], [], []⟩ := by kernel_rfl
theorem ev34_3 : evM G (aget xpl) nats me0 100000 1000 1 [] (.fn 34 [] []) [.int .i64 3] = some ⟨.str [51], [], [], []⟩ := by kernel_rfl
theorem ev34_4 : evM G (aget xpl) nats me0 100000 1000 1 [] (.fn 34 [] []) [.int .i64 4] = some ⟨.str [52], [], [], []⟩ := by kernel_rfl
theorem ev34_5 : evM G (aget xpl) nats me0 100000 1000 1 [] (.fn 34 [] []) [.int .i64 5] = some ⟨.str [53], [], [], []⟩ := by kernel_rfl
theorem ev34_6 : evM G (aget xpl) nats me0 100000 1000 1 [] (.fn 34 [] []) [.int .i64 6] = some ⟨.str [54], [], [], []⟩ := by kernel_rfl
theorem ev34_7 : evM G (aget xpl) nats me0 100000 1000 1 [] (.fn 34 [] []) [.int .i64 7] = some ⟨.str [55], [], [], []⟩ := by kernel_rfl
theorem ev34_8 : evM G (aget xpl) nats me0 100000 1000 1 [] (.fn 34 [] []) [.int .i64 8] = some ⟨.str [56], [], [], []⟩ := by kernel_rfl
theorem sp34 (n : Int) (h0 : 1 ≤ n) (h1 : n ≤ 8) : SpecP Tryd.prog G 34 [.int .i64 n] (.str [UInt8.ofNat (48 + n.toNat)]) [] := by
 obtain ⟨m, rfl⟩ : ∃ m : Nat, n = m := ⟨n.toNat, (Int.toNat_of_nonneg (by omega)).symm⟩
 have hm : m = 1 ∨ m = 2 ∨ m = 3 ∨ m = 4 ∨ m = 5 ∨ m = 6 ∨ m = 7 ∨ m = 8 := by omega
 rcases hm with rfl | rfl | rfl | rfl | rfl | rfl | rfl | rfl
 ·exact specP_of_evM hcm hmx xpOk natsOk me0Ok ev34_1 rfl
 ·exact specP_of_evM hcm hmx xpOk natsOk me0Ok ev34_2 rfl
 ·exact specP_of_evM hcm hmx xpOk natsOk me0Ok ev34_3 rfl
 ·exact specP_of_evM hcm hmx xpOk natsOk me0Ok ev34_4 rfl
 ·exact specP_of_evM hcm hmx xpOk natsOk me0Ok ev34_5 rfl
 ·exact specP_of_evM hcm hmx xpOk natsOk me0Ok ev34_6 rfl
 ·exact specP_of_evM hcm hmx xpOk natsOk me0Ok ev34_7 rfl
 ·exact specP_of_evM hcm hmx xpOk natsOk me0Ok ev34_8 rfl
theorem ct34 : CtOk Tryd.prog G 34 e34 := by
 intro args r hr hp
 unfold e34 at hr
 split at hr <;> cases hr
 exact sp34 _ hp.1 hp.2
theorem sp57 (l : List (List UInt8)) (n : Nat) (cap : Option Nat) (sep : List UInt8) (h1 : n = l.length) (h2 : l.length ≤ 100000) (h3 : (Lib.join l sep).length ≤ 100000) : SpecP Tryd.prog G 57 [.imm (.strs l) n cap, .str sep] (.str (Lib.join l sep)) [] := by
 refine joinOk 57 _ _ _ ?_
 have e1 : Nat.beq n l.length = true := by rw [h1]; exact Nat.beq_refl _
 have e2 : Nat.ble l.length 100000 = true := Nat.ble_eq_true_of_le h2
 have e3 : Nat.ble (Lib.join l sep).length 100000 = true := Nat.ble_eq_true_of_le h3
 simp [joinF, contS, e1, e2, e3]
theorem ct57 : CtOk Tryd.prog G 57 e57 := by
 intro args r hr hp
 unfold e57 at hr
 split at hr <;> cases hr
 exact sp57 _ _ _ _ hp.1 hp.2.1 hp.2.2
theorem XTok : TabOk Tryd.prog G XT := tabL_ok noCh_ok ⟨ct34, ct57, ct17, trivial⟩
theorem pcT_len (n k : Int) : (pcT n k).length = 2 := rfl
theorem letT {k : Int} (h : k = 1 ∨ k = 2 ∨ k = 3) : ([32, 109, 118, 97] : List UInt8).drop k.toNat = letU k :: ([32, 109, 118, 97] : List UInt8).drop (k.toNat + 1) := by
 rcases h with rfl | rfl | rfl <;> rfl
theorem join_len : ∀ (l : List (List UInt8)) (sep : List UInt8), (∀ x ∈ l, x.length = 2) → (Lib.join l [32]).length ≤ 3 * l.length
 | [], sep, h => by simp [Lib.join_nil]
 | x :: r, sep, h => by
  rw [Lib.join_cons, Lib.joinTail, List.length_append, List.length_flatten, List.map_map]
  have : ∀ r : List (List UInt8), (∀ x ∈ r, x.length = 2) → (r.map (List.length ∘ fun x => [32] ++ x)).sum = 3 * r.length := by
   intro r
   induction r with
   | nil => intro _; rfl
   | cons y r ih =>
    intro hr
    rw [List.map_cons, List.sum_cons, ih fun x hx => hr x (List.mem_cons_of_mem _ hx)]
    have := hr y List.mem_cons_self
    simp [this]; omega
  rw [this r fun x hx => h x (List.mem_cons_of_mem _ hx), h x List.mem_cons_self]
  simp; omega
theorem len_sum : ∀ (a : List Int), (∀ x ∈ a, 1 ≤ x) → (a.length : Int) ≤ a.sum
 | [], _ => by simp
 | x :: r, h => by
  have := len_sum r fun y hy => h y (List.mem_cons_of_mem _ hy)
  have := h x List.mem_cons_self
  simp; omega
theorem le_sum : ∀ (a : List Int), (∀ x ∈ a, 1 ≤ x) → ∀ x ∈ a, x ≤ a.sum
 | x :: r, h, y, hy => by
  have h1 := len_sum r fun y hy => h y (List.mem_cons_of_mem _ hy)
  have h2 := h x List.mem_cons_self
  rw [List.sum_cons]
  rcases List.mem_cons.1 hy with rfl | hy
  ·omega
  ·have := le_sum r (fun y hy => h y (List.mem_cons_of_mem _ hy)) y hy
   omega
theorem sp33 (a k : List Int) (hc : chk a k = 0) : SpecP Tryd.prog G 33 [fanV a k] (.str (txF a k)) [] := by
 refine fnP_spec hcm hmx XTok ok33 rfl (ob_o33 a k) ?_
 obtain ⟨h1, h2, h3⟩ := chk_ok hc
 have hs := h2.2
 have hl : a.length ≤ 8 := by have := len_sum a h2.1; omega
 have pl : (pcs a k).length = a.length := by unfold pcs; rw [List.length_zipWith, ← h1]; omega
 have pk : ∀ (n : Nat), n < a.length → (1 ≤ k[n]?.getD 0 ∧ k[n]?.getD 0 ≤ 3) ∧ (1 ≤ a[n]?.getD 0 ∧ a[n]?.getD 0 ≤ 8) ∧ (pcs a k)[n]? = some (pcT (a[n]?.getD 0) (k[n]?.getD 0)) := fun n hn => by
  have e1 : a[n]? = some a[n] := List.getElem?_eq_getElem hn
  have hk : n < k.length := by omega
  have e2 : k[n]? = some k[n] := List.getElem?_eq_getElem hk
  rw [e1, e2]
  have g1 := h3 _ (List.getElem_mem hk)
  have g2 := h2.1 _ (List.getElem_mem hn)
  have g3 := le_sum a h2.1 _ (List.getElem_mem hn)
  refine ⟨g1, ⟨g2, by simp only [Option.getD_some]; omega⟩, ?_⟩
  unfold pcs
  rw [List.getElem?_zipWith, e1, e2]; rfl
 simp only [ltb_iff, ltb_no, leb_iff, leb_no, ltn_iff, ltn_no, len'_iff, len'_no, inR_i64, inR_u8, size_ints, getD_drop, List.getElem?_drop, beq_iff_eq, beq_eq_false_iff_ne, bne_iff_ne, bne_eq_false_iff_eq, ne_eq, Nat.zero_add, Nat.add_zero, Nat.mul_one, Int.toNat_natCast, and_true, true_and, List.length_drop, List.length_append, List.length_cons, List.length_nil, List.length_set, List.getD_eq_getElem?_getD, implies_true, iI, iL, Int.natCast_inj]
 refine ⟨by omega, hc, fun h0 => ?_, fun h0 => ⟨⟨0, rfl, by omega, by simp⟩, ?_⟩⟩
 ·have : a = [] := List.length_eq_zero_iff.1 (by omega)
  unfold txF; rw [if_pos this]
 ·rintro ⟨i, l⟩ ⟨n, rfl, hn, rfl⟩
  simp only [Int.toNat_natCast, List.length_take, pl]
  refine ⟨fun hlt => ?_, fun hge => ?_⟩
  ·obtain ⟨⟨k1, k2⟩, ⟨a1, a2⟩, pe⟩ := pk n (by omega)
   generalize k[n]?.getD 0 = kk at *
   generalize a[n]?.getD 0 = aa at *
   have e1 : (kk + 1).toNat - kk.toNat = 1 := by omega
   rw [e1, letT (by omega)]
   have tk : (pcs a k).take (n + 1) = (pcs a k).take n ++ [pcT aa kk] := by
    rw [List.take_add_one, pe]; rfl
   have ln : min n a.length = n := by omega
   simp only [List.take_succ_cons, List.take_zero, List.length_cons, List.length_nil, ln, List.singleton_append]
   repeat refine ⟨by omega, ?_⟩
   refine ⟨⟨n + 1, by omega, by omega, ?_⟩, by omega⟩
   rw [tk]; rfl
  ·have : n = a.length := by omega
   subst this
   have e1 : (pcs a k).take a.length = pcs a k := List.take_of_length_le (by omega)
   rw [e1]
   have jl := join_len (pcs a k) [32] fun x hx => by
    obtain ⟨m, hm⟩ := List.mem_iff_getElem?.1 hx
    have hlt : m < a.length := by
     obtain ⟨h, _⟩ := List.getElem?_eq_some_iff.1 hm
     omega
    have := (pk m hlt).2.2
    rw [this] at hm
    cases hm
    exact pcT_len _ _
   refine ⟨⟨by omega, by omega⟩, ?_⟩
   unfold txF
   rw [if_neg]
   rintro rfl
   simp at h0
theorem ct33 : CtOk Tryd.prog G 33 e33 := by
 intro args r hr hp
 unfold e33 at hr
 split at hr <;> cases hr
 obtain ⟨rfl, rfl, h⟩ := hp
 exact (sp33 _ _ h).caps
end Go.Proofs.YtfafinkgmhkdmaaDoor.X
