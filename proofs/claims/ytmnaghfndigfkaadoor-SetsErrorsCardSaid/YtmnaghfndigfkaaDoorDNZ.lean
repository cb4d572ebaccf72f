/-
 The move that moves nothing: what the functions on moves compute of it.
-/
import Derived.Test.YtmnaghfndigfkaaDoorDMZ
import Derived.Test.YtmnaghfndigfkaaDoorDHZ
set_option maxRecDepth 1000000
set_option linter.unusedVariables false
namespace Go.Proofs.YtmnaghfndigfkaaDoor.X
open Go Go.Ab

def id3 (t a b : Int) : Prop := t = 0 ∧ a = 0 ∧ b = 0
def e55i : CtE
 | [.agg [.int .u8 t, .int .i64 a, .int .i64 b]] => some ⟨.int .i64 0, [], some (id3 t a b)⟩
 | _ => none
def e108i : CtE
 | [.int .i64 a] => some ⟨.bool false, [], some (a = 0)⟩
 | _ => none
def ptB (x y : Int) : Bool := decide (-65536 ≤ x ∧ x ≤ 65536 ∧ -65536 ≤ y ∧ y ≤ 65536)
def e151 : CtE
 | [.agg [.int .i64 x, .int .i64 y]] => some ⟨.int .i64 (bI (ptB x y) 0 1), [], none⟩
 | _ => none
def smP (x y : Int) : Prop := -65536 ≤ x ∧ x ≤ 65536 ∧ -65536 ≤ y ∧ y ≤ 65536
def e112i : CtE
 | [.agg [.int .i64 a, .int .i64 b, .int .i64 c, .int .i64 d], .int .i64 x, .int .i64 y] => some ⟨.tup [.int .i64 x, .int .i64 y], [], some (a = 1 ∧ b = 0 ∧ c = 0 ∧ d = 1 ∧ smP x y)⟩
 | _ => none
def e165 : CtE
 | [.agg [.int .i64 x, .int .i64 y, .int .u8 q]] => some ⟨.agg [.int .i64 (2 * x + 1), .int .i64 (2 * y + 1)], [], some (smP x y)⟩
 | _ => none
def e166i : CtE
 | [.agg [.int .u8 t, .int .i64 a, .int .i64 b], .agg [.int .i64 x, .int .i64 y]] => some ⟨.tup [.agg [.int .i64 x, .int .i64 y], .int .i64 0], [], some (id3 t a b ∧ smP x y)⟩
 | _ => none
def e132i : CtE
 | [.agg [.int .u8 t, .int .i64 a, .int .i64 b], .agg [.int .i64 x, .int .i64 y, .int .u8 q]] => some ⟨.agg [.int .i64 x, .int .i64 y, .int .u8 q], [], some (id3 t a b ∧ vldC (x, y, q) = true ∧ 0 ≤ q)⟩
 | _ => none
def e93i : CtE
 | [.agg [.int .u8 t, .int .i64 a, .int .i64 b], .agg [.int .i64 x, .int .i64 y, .int .u8 q]] => some ⟨.tup [.agg [.int .i64 x, .int .i64 y, .int .u8 q], .int .i64 0], [], some (id3 t a b ∧ vldC (x, y, q) = true ∧ 0 ≤ q)⟩
 | _ => none
def tN55 : List (Nat × CtE) := [(108, e108i)]
def TN55 : Tab := tabL tN55 noCh
def tN166 : List (Nat × CtE) := [(55, e55i), (151, e151), (112, e112i)]
def TN166 : Tab := tabL tN166 noCh
def tN132 : List (Nat × CtE) := [(165, e165), (166, e166i)]
def TN132 : Tab := tabL tN132 noCh
def tN93 : List (Nat × CtE) := [(55, e55i), (86, e86), (132, e132i)]
def TN93 : Tab := tabL tN93 noCh
/-! ### The quarters, one after the other -/
def jC (x : Int) (c : Bool) : LpS Unit where
 ov _ := [(47, .int .i64 x), (48, .bool c)]
 bk _ := []
 rd S := some ()
 pre _ := True
 mu _ := 0
/-- The quarter that has been found. -/
def kAft (q : Int) (n : Nat) : Int := if q < n then q else 0
structure L132 where (i k : Int)
def l132 (q X Y : Int) : LpS L132 where
 ov b := [(47, .int .i64 b.i)]
 bk b := [(399, .blk ⟨.cells [.int .i64 X, .int .i64 Y, .int .u8 b.k], 3, 1, none, some false, true, true⟩)]
 rd S := match aget S.t 47, aget S.h 399 with
  | some (.int _ i), some (.blk ⟨.cells [_, _, .int _ k], _, _, _, _, _, _⟩) => some ⟨i, k⟩
  | _, _ => none
 pre b := ∃ n : Nat, b.i = n ∧ n ≤ 4 ∧ b.k = kAft q n
 mu b := 4 - b.i.toNat
def sh1 (x : Int) : Int := (2 * x + 1 - bitI .and .i64 (2 * x + 1) 1).tdiv 2
/-! ### Sorting -/
def clq (c : Cl) : Cl := (c.1, c.2.1, c.2.2 % 256)
def RCq : RowS Cl where
 k := 3
 row x := [(.i64, x.1), (.i64, x.2.1), (.u8, x.2.2 % 256)]
 len _ := rfl
def cmpQ (a b : Cl) : Int := cmpC (clq a) (clq b)
def srtQ (l : List Cl) : List Cl := sortL cmpQ l
/-! ### Move -/
def mvX (l : List Cl) : List Cl := cond (chkI l == 0) (srtQ l) []
def e38i : CtE
 | [.agg [.int .u8 t, .int .i64 a, .int .i64 b], .imm (.vals l) n _] => some ⟨.tup [.imm (.vals (flatK (mvX (unK l)))) (mvX (unK l)).length none, .int .i64 (chkI (unK l))], [], some (id3 t a b ∧ okL l n ∧ okQ (unK l))⟩
 | _ => none
def blk38 (o : List AV) (n : Nat) : HO := .blk ⟨.vals o, 3, n, some n, some false, true, false⟩
structure L38 where (i : Int) (o : List AV)
def l38 (l : List Cl) : LpS L38 where
 ov b := [(25, .int .i64 b.i)]
 bk b := [(450, blk38 b.o l.length)]
 rd S := match aget S.t 25, aget S.h 450 with
  | some (.int _ i), some (.blk ⟨.vals o, _, _, _, _, _, _⟩) => some ⟨i, o⟩
  | _, _ => none
 pre b := ∃ R : List Cl, ∃ n : Nat, b.i = n ∧ n ≤ l.length ∧ b.o = flatK R ∧ R.length = l.length ∧ R.take n = l.take n
 mu b := l.length - b.i.toNat
/-- The sort of an own row, by its contract. -/
def ch94 (id : Nat) (d : List Cl) (h : List (Nat × HO)) (cv : AV) (args : List AV) : Option Cx :=
 match cv, args with
 | .fn g [] [], [.full i n, .fn g' [] []] => cond (Nat.beq g 94 && (Nat.beq g' 79 && Nat.beq i id)) (some ⟨.tup [], [(id, blk38 (flatK (srtQ d)) n)], some (h = [(id, blk38 (flatK d) n)] ∧ n = d.length ∧ d.length < 1000000000 ∧ okQ d)⟩) none
 | _, _ => none
def tN38 : List (Nat × CtE) := [(55, e55i), (61, e61), (93, e93i)]
def TN38 (d : List Cl) : Tab := tabL tN38 (ch94 450 d)
end Go.Proofs.YtmnaghfndigfkaaDoor.X
