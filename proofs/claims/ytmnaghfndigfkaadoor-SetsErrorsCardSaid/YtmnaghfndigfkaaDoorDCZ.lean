/-
 What union, common cells and difference compute.
-/
import Derived.Test.YtmnaghfndigfkaaDoorDBZ
import Derived.Test.YtmnaghfndigfkaaDoorAb6
set_option maxRecDepth 1000000
set_option linter.unusedVariables false
namespace Go.Proofs.YtmnaghfndigfkaaDoor.X
open Go Go.Ab

def e89 : CtE
 | [.agg [.bool p, .bool q]] => some ⟨.bool true, [], none⟩
 | _ => none
def e90 : CtE
 | [.agg [.bool p, .bool q]] => some ⟨.bool (p && q), [], none⟩
 | _ => none
def e91 : CtE
 | [.agg [.bool p, .bool q]] => some ⟨.bool (p && !q), [], none⟩
 | _ => none
def tK : List (Nat × CtE) := [(89, e89), (90, e90), (91, e91)]
def TK : Tab := tabL tK noCh
/-- Which cells the functions 89, 90, 91 choose. -/
def kpF (f : Nat) (p q : Bool) : Bool := cond (Nat.beq f 89) true (cond (Nat.beq f 90) (p && q) (p && !q))
def addK (k : Bool) (l : List Cl) (c : Cl) : List Cl := cond k (l ++ [c]) l
def mrgF (f : Nat) : Nat → List Cl → List Cl → List Cl
 | 0, _, _ => []
 | _ + 1, [], [] => []
 | n + 1, [], b :: s => addK (kpF f false true) [] b ++ mrgF f n [] s
 | n + 1, a :: r, [] => addK (kpF f true false) [] a ++ mrgF f n r []
 | n + 1, a :: r, b :: s => cond (ltC a b) (addK (kpF f true false) [] a ++ mrgF f n r (b :: s)) (cond (ltC b a) (addK (kpF f false true) [] b ++ mrgF f n (a :: r) s) (addK (kpF f true true) [] a ++ mrgF f n r s))
def mrg (f : Nat) (a b : List Cl) : List Cl := mrgF f (a.length + b.length) a b
def e99 : CtE
 | [.imm (.vals a) n _] => some ⟨.imm (.vals a) n (some n), [], some (okL a n)⟩
 | _ => none
def bxB (a : List AV) (n : Nat) : Blk := ⟨.cells [.imm (.vals a) n none], 1, 1, none, some false, true, true⟩
def e131 : CtE
 | [.imm (.vals a) n _, .imm (.vals b) m _] => some ⟨.fn 164 [] [.ptr 0 0, .ptr 1 0], [bxB a n, bxB b m], some (okL a n ∧ okL b m)⟩
 | _ => none
/-! ### The heap of the range -/
def bxO (v : AV) : HO := .blk ⟨.cells [v], 1, 1, none, some false, true, true⟩
def row88 (l : List Cl) : HO := .blk ⟨.vals (flatK l), 3, l.length, none, some true, true, false⟩
def tm88 : List (Nat × AV) := [(5, .ptr 64 0), (9, .ptr 320 0), (20, .fn 164 [] [.ptr 24704 0, .ptr 24705 0])]
noncomputable def H88 (f : Nat) (l : List Cl) (a b : List AV) (n m : Nat) : List (Nat × HO) := [(24705, .blk (bxB b m)), (24704, .blk (bxB a n)), (9001, row88 l), (320, bxO (.full 9001 l.length)), (64, bxO (.fn f [] [])), (9002, .loop (rfLoop fe88 tm88))]
noncomputable def H88e (f : Nat) (a b : List Cl) : List (Nat × HO) := [(24705, .blk (bxB (flatK b) b.length)), (24704, .blk (bxB (flatK a) a.length)), (9001, .blk ⟨.vals [], 3, 0, some 0, some true, true, false⟩), (320, bxO (.full 9001 0)), (64, bxO (.fn f [] [])), (9002, .loop (rfLoop fe88 tm88))]
/-- A round, by its contract. -/
noncomputable def ch88 (f : Nat) (h : List (Nat × HO)) (cv : AV) (args : List AV) : Option Cx :=
 match cv, args, aget h 9001, aget h 24704, aget h 24705 with
 | .yld id, [.agg [.int .i64 x, .int .i64 y, .int .u8 q], .agg [.bool p1, .bool p2]], some (.blk ⟨.vals o, _, _, _, _, _, _⟩), some (.blk ⟨.cells [.imm (.vals a) n _], _, _, _, _, _, _⟩), some (.blk ⟨.cells [.imm (.vals b) m _], _, _, _, _, _, _⟩) =>
  cond (Nat.beq id 9002) (some ⟨.bool true, [(320, bxO (.full 9001 (addK (kpF f p1 p2) (unK o) (x, y, q)).length)), (9001, row88 (addK (kpF f p1 p2) (unK o) (x, y, q)))], some (h = H88 f (unK o) a b n m ∧ (unK o).length < 1000000)⟩) none
 | _, _, _, _, _ => none
noncomputable def TY88 (f : Nat) : Tab := tabL [(79, e79)] (ch88 f)
def ordV (a : List AV) (n : Nat) (b : List AV) (m : Nat) : Int := cond (Nat.beq n 0) 1 (cond (Nat.beq m 0) (-1) (cmpC (kC (unK a) 0) (kC (unK b) 0)))
structure L164 where (a b o : List AV) (n m k : Nat)
def l164 (f : Nat) (A B : List Cl) : LpS L164 where
 ov b := []
 bk b := [(24705, .blk (bxB b.b b.m)), (24704, .blk (bxB b.a b.n)), (9001, .blk ⟨.vals b.o, 3, b.k, none, some true, true, false⟩), (320, bxO (.full 9001 b.k))]
 rd S := match aget S.h 24704, aget S.h 24705, aget S.h 9001 with
  | some (.blk ⟨.cells [.imm (.vals a) n _], _, _, _, _, _, _⟩), some (.blk ⟨.cells [.imm (.vals b) m _], _, _, _, _, _, _⟩), some (.blk ⟨.vals o, _, k, _, _, _, _⟩) => some ⟨a, b, o, n, m, k⟩
  | _, _, _ => none
 pre c := ∃ a b o : List Cl, c.a = flatK a ∧ c.n = a.length ∧ c.b = flatK b ∧ c.m = b.length ∧ c.o = flatK o ∧ c.k = o.length ∧ okQ a ∧ okQ b ∧ o.length + a.length + b.length ≤ A.length + B.length ∧ o ++ mrg f a b = mrg f A B
 mu c := c.n + c.m
noncomputable def ch164 (f : Nat) (A B : List Cl) (h : List (Nat × HO)) (cv : AV) (args : List AV) : Option Cx :=
 match cv, args with
 | .fn g [] [], [.yld id, .ptr i 0, .ptr j 0] => cond (Nat.beq g 164 && (Nat.beq id 9002 && (Nat.beq i 24704 && Nat.beq j 24705))) (some ⟨.tup [], [(24705, .blk (bxB [] 0)), (24704, .blk (bxB [] 0)), (9001, row88 (mrg f A B)), (320, bxO (.full 9001 (mrg f A B).length))],
   some (h = H88e f A B ∧ okQ A ∧ okQ B ∧ A.length < 10000 ∧ B.length < 10000)⟩) none
 | _, _ => none
def tC7 : List (Nat × CtE) := [(130, e130), (131, e131), (99, e99)]
noncomputable def TC7 (f : Nat) (A B : List Cl) : Tab := tabL tC7 (ch164 f A B)
def okS (l : List Cl) : Prop := okQ l ∧ chkI l = 0
def e88 : CtE
 | [.imm (.vals a) n _, .imm (.vals b) m _, .fn f [] []] => cond (Nat.beq f 89 || (Nat.beq f 90 || Nat.beq f 91)) (some ⟨.tup [.imm (.vals (flatK (mrg f (unK a) (unK b)))) (mrg f (unK a) (unK b)).length (some (mrg f (unK a) (unK b)).length), .int .i64 0], [], some (okL a n ∧ okL b m ∧ okS (unK a) ∧ okS (unK b) ∧ (mrg f (unK a) (unK b)).length ≤ 1024)⟩) none
 | _ => none
def eMg (f : Nat) : CtE
 | [.imm (.vals a) n _, .imm (.vals b) m _] => some ⟨.tup [.imm (.vals (flatK (mrg f (unK a) (unK b)))) (mrg f (unK a) (unK b)).length (some (mrg f (unK a) (unK b)).length), .int .i64 0], [], some (okL a n ∧ okL b m ∧ okS (unK a) ∧ okS (unK b) ∧ (mrg f (unK a) (unK b)).length ≤ 1024)⟩
 | _ => none
def tC8 : List (Nat × CtE) := [(88, e88)]
def TC8 : Tab := tabL tC8 noCh
end Go.Proofs.YtmnaghfndigfkaaDoor.X
