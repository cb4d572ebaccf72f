/-
 What the reference's outline and connection compute.
-/
import Derived.Test.YtmnaghfndigfkaaDoorDQZ
import Derived.Test.YtmnaghfndigfkaaDoorDIZ
set_option maxRecDepth 1000000
set_option linter.unusedVariables false
namespace Go.Proofs.YtmnaghfndigfkaaDoor.X
open Go Go.Ab

/-- Lists of valid cells. -/
def vlL (l : List Cl) : Prop := (∀ x ∈ l, vldC x = true ∧ 0 ≤ x.2.2) ∧ l.length ≤ 1024
def e45 : CtE
 | [.imm (.vals a) n _] => some ⟨.imm (.vals (flatE (outF (unK a) (unK a).length))) (outF (unK a) (unK a).length).length none, [], some (okL a n ∧ vlL (unK a))⟩
 | _ => none
def tT45 : List (Nat × CtE) := [(100, e100), (47, e47)]
def TT45 : Tab := tabL tT45 noCh
def l45 (l : List Cl) : LpS M43 where
 ov b := [(4, .int .i64 b.i), (3, .full 9001 b.n)]
 bk b := [(9001, .blk ⟨.vals b.o, 4, b.n, none, some true, true, false⟩)]
 rd S := match aget S.t 4, aget S.h 9001 with
  | some (.int _ i), some (.blk ⟨.vals o, _, n, _, _, _, _⟩) => some ⟨i, o, n⟩
  | _, _ => none
 pre b := ∃ n : Nat, b.i = n ∧ n ≤ l.length ∧ b.o = flatE (outF l n) ∧ b.n = (outF l n).length
 mu b := l.length - b.i.toNat
def m45 (l : List Cl) (c : Cl) (o0 : List AV) (n0 : Nat) : LpS M43 where
 ov b := [(5, .int .i64 b.i), (3, .full 9001 b.n)]
 bk b := [(9001, .blk ⟨.vals b.o, 4, b.n, none, some true, true, false⟩)]
 rd S := match aget S.t 5, aget S.h 9001 with
  | some (.int _ i), some (.blk ⟨.vals o, _, n, _, _, _, _⟩) => some ⟨i, o, n⟩
  | _, _ => none
 pre b := ∃ n : Nat, b.i = n ∧ n ≤ 3 ∧ b.o = o0 ++ flatE (outE l c n) ∧ b.n = n0 + (outE l c n).length
 mu b := 3 - b.i.toNat
/-! ### Connection, by marking again and again -/
noncomputable def e46 : CtE
 | [.imm (.vals a) n _] => some ⟨.int .i64 (bI (conB (unK a)) 1 0), [], some (okL a n ∧ vlL (unK a) ∧ (unK a).Nodup)⟩
 | _ => none
def invR (l R : List Cl) : Prop := R.Nodup ∧ (∀ x ∈ R, x ∈ l) ∧ (∀ h t, l = h :: t → h ∈ R) ∧ (∀ S : Cl → Prop, (∀ h t, l = h :: t → S h) → clo l S → ∀ x ∈ R, S x)
def stbl (l R : List Cl) (k : Nat) : Prop := ∀ j : Nat, j < k → ∀ x, l[j]? = some x → x ∉ R → ∀ e : Int, 0 ≤ e → e < 3 → nbC x e ∉ R
def free (R : List Cl) (c : Cl) (k : Int) : Prop := c ∉ R ∧ ∀ e : Int, 0 ≤ e → e < k → nbC c e ∉ R
structure L46 where (m : Bool) (o : List AV) (n : Nat)
def b46 (o : List AV) (n : Nat) : HO := .blk ⟨.vals o, 3, n, none, some false, true, false⟩
def l46 (l : List Cl) : LpS L46 where
 ov b := [(4, .bool b.m), (3, .full 259 b.n)]
 bk b := [(259, b46 b.o b.n)]
 rd S := match aget S.t 4, aget S.h 259 with
  | some (.bool m), some (.blk ⟨.vals o, _, n, _, _, _, _⟩) => some ⟨m, o, n⟩
  | _, _ => none
 pre b := ∃ R : List Cl, b.o = flatK R ∧ b.n = R.length ∧ invR l R ∧ (b.m = false → stbl l R l.length)
 mu b := 2 * (l.length - b.n) + cond b.m 1 0
structure M46 where (i : Int) (m : Bool) (o : List AV) (n : Nat)
def m46 (l : List Cl) (n0 : Nat) : LpS M46 where
 ov b := [(5, .int .i64 b.i), (4, .bool b.m), (3, .full 259 b.n)]
 bk b := [(259, b46 b.o b.n)]
 rd S := match aget S.t 5, aget S.t 4, aget S.h 259 with
  | some (.int _ i), some (.bool m), some (.blk ⟨.vals o, _, n, _, _, _, _⟩) => some ⟨i, m, o, n⟩
  | _, _, _ => none
 pre b := ∃ R : List Cl, ∃ k : Nat, b.i = k ∧ k ≤ l.length ∧ b.o = flatK R ∧ b.n = R.length ∧ invR l R ∧ (b.m = true → n0 < b.n) ∧ n0 ≤ b.n ∧ (b.m = false → stbl l R k)
 mu b := l.length - b.i.toNat
def n46 (l : List Cl) (c : Cl) (i : Int) (n0 : Nat) : LpS M46 where
 ov b := [(6, .int .i64 b.i), (4, .bool b.m), (3, .full 259 b.n)]
 bk b := [(259, b46 b.o b.n)]
 rd S := match aget S.t 6, aget S.t 4, aget S.h 259 with
  | some (.int _ i), some (.bool m), some (.blk ⟨.vals o, _, n, _, _, _, _⟩) => some ⟨i, m, o, n⟩
  | _, _, _ => none
 pre b := ∃ R : List Cl, ∃ k : Nat, b.i = k ∧ k ≤ 3 ∧ b.o = flatK R ∧ b.n = R.length ∧ invR l R ∧ (b.m = true → n0 < b.n) ∧ n0 ≤ b.n ∧ (b.m = false → stbl l R i.toNat ∧ free R c k)
 mu b := 3 - b.i.toNat
/-- Has, of the row that grows: it stays an own row. -/
def ch46 (h : List (Nat × HO)) (cv : AV) (args : List AV) : Option Cx :=
 match cv, args, aget h 259 with
 | .fn g [] [], [.full i n, .agg [.int .i64 x, .int .i64 y, .int .u8 q]], some (.blk ⟨.vals o, _, _, _, _, _, _⟩) => cond (Nat.beq g 47 && Nat.beq i 259) (some ⟨.int .i64 (bI (hasL (unK o) (x, y, q)) 1 0), [(259, b46 o n)], some (h = [(259, b46 o n)] ∧ okL o n)⟩) none
 | _, _, _ => none
def tT46 : List (Nat × CtE) := [(100, e100)]
def TT46 : Tab := tabL tT46 ch46
end Go.Proofs.YtmnaghfndigfkaaDoor.X
