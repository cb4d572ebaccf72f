/-
 What Connected computes.
-/
import Derived.Test.YtmnaghfndigfkaaDoorDHZ
set_option maxRecDepth 1000000
set_option linter.unusedVariables false
namespace Go.Proofs.YtmnaghfndigfkaaDoor.X
open Go Go.Ab

/-- Closed under neighbours in a list. -/
def clo (l : List Cl) (S : Cl → Prop) : Prop := ∀ c ∈ l, S c → ∀ e : Int, 0 ≤ e → e < 3 → nbC c e ∈ l → S (nbC c e)
def conP (l : List Cl) : Prop := ∀ S : Cl → Prop, (∀ h t, l = h :: t → S h) → clo l S → ∀ x ∈ l, S x
noncomputable def conB (l : List Cl) : Bool := @decide (conP l) (Classical.propDecidable _)
noncomputable def cnX (l : List Cl) : Bool := cond (chkI l == 0) (conB l) false
noncomputable def e42 : CtE
 | [.imm (.vals a) n _] => some ⟨.tup [.bool (cnX (unK a)), .int .i64 (chkI (unK a))], [], some (okL a n ∧ okQ (unK a))⟩
 | _ => none
/-- The cells that are left (L), and those that wait (W). -/
def invC (l L W : List Cl) : Prop :=
 (∀ x ∈ L, x ∈ l) ∧ (∀ h t, l = h :: t → h ∉ L) ∧ (∀ x ∈ W, x ∈ l ∧ x ∉ L) ∧
 (∀ x ∈ l, x ∉ L → x ∉ W → ∀ e : Int, 0 ≤ e → e < 3 → nbC x e ∉ L) ∧
 (∀ S : Cl → Prop, (∀ h t, l = h :: t → S h) → clo l S → ∀ x ∈ l, x ∉ L → S x)
def invD (l L W : List Cl) (c : Cl) (k : Int) : Prop :=
 (c ∈ l ∧ c ∉ L) ∧ (∀ x ∈ L, x ∈ l) ∧ (∀ h t, l = h :: t → h ∉ L) ∧ (∀ x ∈ W, x ∈ l ∧ x ∉ L) ∧
 (∀ x ∈ l, x ∉ L → x ∉ W → x ≠ c → ∀ e : Int, 0 ≤ e → e < 3 → nbC x e ∉ L) ∧
 (∀ e : Int, 0 ≤ e → e < k → nbC c e ∉ L) ∧
 (∀ S : Cl → Prop, (∀ h t, l = h :: t → S h) → clo l S → ∀ x ∈ l, x ∉ L → S x)
def rwB (o : List AV) (n : Nat) : Blk := ⟨.vals o, 3, n, none, some false, true, false⟩
structure L42 where (es : ME) (k : Nat) (o : List AV) (n w : Nat)
def l42 (l : List Cl) : LpS L42 where
 ov b := [(6, .vw 579 b.n 3 0 b.w)]
 bk b := [(28736, .blk (mpB b.es b.k)), (579, .blk (rwB b.o b.n))]
 rd S := match aget S.t 6, aget S.h 28736, aget S.h 579 with
  | some (.vw _ n _ _ w), some (.blk ⟨.maps _ _ es k, _, _, _, _, _, _⟩), some (.blk ⟨.vals o, _, _, _, _, _, _⟩) => some ⟨es, k, o, n, w⟩
  | some (.full _ n), some (.blk ⟨.maps _ _ es k, _, _, _, _, _, _⟩), some (.blk ⟨.vals o, _, _, _, _, _, _⟩) => some ⟨es, k, o, n, n⟩
  | _, _, _ => none
 pre b := ∃ L R : List Cl, repM b.es L ∧ b.o = flatK R ∧ b.n = R.length ∧ b.w ≤ b.n ∧ b.n + L.length < 1000000 ∧ invC l L (R.take b.w)
 mu b := 2 * b.es.length + b.w
structure M42 where (e : Int) (es : ME) (k : Nat) (o : List AV) (n w : Nat)
def m42 (l : List Cl) (c : Cl) (B : Nat) : LpS M42 where
 ov b := [(43, .int .u8 b.e), (6, .vw 579 b.n 3 0 b.w)]
 bk b := [(28736, .blk (mpB b.es b.k)), (579, .blk (rwB b.o b.n))]
 rd S := match aget S.t 43, aget S.t 6, aget S.h 28736, aget S.h 579 with
  | some (.int _ e), some (.vw _ n _ _ w), some (.blk ⟨.maps _ _ es k, _, _, _, _, _, _⟩), some (.blk ⟨.vals o, _, _, _, _, _, _⟩) => some ⟨e, es, k, o, n, w⟩
  | _, _, _, _ => none
 pre b := ∃ L R : List Cl, ∃ j : Nat, b.e = j ∧ j ≤ 3 ∧ repM b.es L ∧ b.o = flatK R ∧ b.n = R.length ∧ b.w ≤ b.n ∧ b.n + L.length < 1000000 ∧ 2 * b.es.length + b.w < B ∧ invD l L (R.take b.w) c j
 mu b := 3 - b.e.toNat
def tI42 : List (Nat × CtE) := [(61, e61), (96, e96), (97, e97)]
def TI42 : Tab := tabL tI42 noCh
end Go.Proofs.YtmnaghfndigfkaaDoor.X
