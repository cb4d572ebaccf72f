/-
 The laws on patterns: contracts of valid patterns, the laws' loops.
-/
import Derived.Test.YtfpcbimohikhmaaDoorPAZ
import Derived.Test.YtfpcbimohikhmaaDoorLZ

set_option maxRecDepth 1000000
set_option linter.unusedVariables false
set_option linter.unusedSimpArgs false
namespace Go.Proofs.YtfpcbimohikhmaaDoor.X
open Go Go.Ab

def s4 (w h : Int) : Prop := (1 ≤ w ∧ w ≤ 4) ∧ (1 ≤ h ∧ h ≤ 4)
def okV (w h : Int) (a : List AV) (n : Nat) : Prop := okA a n ∧ vP w h (unC a)
def e22z : CtE
 | [.agg [.int .i64 w, .int .i64 h, .imm (.vals a) n _], .agg [.int .i64 w', .int .i64 h', .imm (.vals b) m _]] => some ⟨.int .i64 0, [], some (okA a n ∧ okA b m ∧ w = w' ∧ h = h' ∧ unC a = unC b)⟩
 | _ => none
def e27v : CtE
 | [.agg [.int .i64 w, .int .i64 h, .imm (.vals a) n _]] => some ⟨.int .i64 0, [], some (s5 w h ∧ okV w h a n)⟩
 | _ => none
/-! ### Set -/
def patP (W H : Int) (ks : List Int) : AV := .agg [.int .u8 W, .int .u8 H, .imm (.ints .u8 ks) ks.length none]
structure L2w where (v a : Int)
/-- The error that is wanted, and the unit's number. -/
def j3a (w h i e : Int) : LpS L2w where
 ov b := [(13, .int .i64 b.v), (14, .int .i64 b.a)]
 bk b := []
 rd S := match aget S.t 13, aget S.t 14 with
  | some (.int _ v), some (.int _ a) => some ⟨v, a⟩
  | _, _ => none
 pre b := b.v = neE w h i e ∧ (neE w h i e = 0 → b.a = unI w h i e)
 mu b := 0
def j3b (v : Int) : LpS VI where
 ov b := [(13, .int .i64 b.v)]
 bk b := []
 rd S := match aget S.t 13 with
  | some (.int _ i) => some ⟨i⟩
  | _ => none
 pre b := b.v = v
 mu b := 0
/-- Set and Kind, of valid patterns. -/
def e15v : CtE
 | [.agg [.int .i64 w, .int .i64 h, .imm (.vals a) n _], .int .i64 i, .int .u8 e, .int .u8 k] => some ⟨.tup [patI (seE w h (unC a) i e k == 0) w h (seL w h (unC a) i e k), .int .i64 (seE w h (unC a) i e k)], [], some (s5 w h ∧ okV w h a n ∧ 0 ≤ e ∧ e ≤ 255)⟩
 | _ => none
/-- The kind behind an edge. -/
def kdI (w h : Int) (l : List Cr) (i e : Int) : Int := bI (neE w h i e == 0) (lookK (cod w h i e) 0 l) 0
def e16v : CtE
 | [.agg [.int .i64 w, .int .i64 h, .imm (.vals a) n _], .int .i64 i, .int .u8 e] => some ⟨.tup [.int .u8 (kdI w h (unC a) i e), .int .i64 (neE w h i e)], [], some (s5 w h ∧ okV w h a n ∧ 0 ≤ e ∧ e ≤ 255)⟩
 | _ => none
def cT3' : List (Nat × CtE) := (14, e14) :: (15, e15v) :: (16, e16v) :: (17, e17) :: (19, e19u) :: (20, e20) :: (21, e21) :: (22, e22z) :: (23, e23) :: (18, e18) :: []
def TB3 : Tab := tabL cT3' noCh
def l3 (us : List Int) : LpS L1 where
 ov c := [(17, .int .i64 c.i)]
 bk c := []
 rd S := match aget S.t 17 with
  | some (.int _ i) => some ⟨i⟩
  | _ => none
 pre c := ∃ n : Nat, c.i = n ∧ n ≤ us.length
 mu c := us.length - c.i.toNat
/-! ### Order -/
def e32z : CtE
 | [.agg [.int .i64 w, .int .i64 h, .imm (.vals a) n _], .agg [.int .i64 w', .int .i64 h', .imm (.vals b) m _]] => some ⟨.bool true, [], some (okA a n ∧ okA b m ∧ w = w' ∧ h = h' ∧ unC a = unC b)⟩
 | _ => none
def e15u : CtE
 | [.agg [.int .i64 w, .int .i64 h, .imm (.vals a) n _], .int .i64 c, .int .u8 e, .int .u8 k] => some ⟨.tup [.agg [.int .i64 w, .int .i64 h, .imm (.vals (flatC (setR (3 * c + e) k (unC a)))) (setR (3 * c + e) k (unC a)).length (some (setR (3 * c + e) k (unC a)).length)], .int .i64 0], [], some (s5 w h ∧ okV w h a n ∧ 3 * c + e ∈ units w h ∧ 0 ≤ e ∧ e ≤ 2 ∧ 0 ≤ k ∧ k ≤ 3)⟩
 | _ => none
def cT6' : List (Nat × CtE) := (14, e14) :: (15, e15u) :: (20, e20) :: (22, e22z) :: (32, e32z) :: (18, e18) :: []
def TB6 : Tab := tabL cT6' noCh
end Go.Proofs.YtfpcbimohikhmaaDoor.X

/-
 The law Check: contracts of patterns that are not valid.
-/
set_option maxRecDepth 1000000
set_option linter.unusedVariables false
namespace Go.Proofs.YtfpcbimohikhmaaDoor.X
open Go Go.Ab

def chkP (w h : Int) (a : List AV) (n : Nat) : Prop := okA a n ∧ (unC a).length < 1000000 ∧ edg (unC a)
/-! ### Sheets that are valid -/
def e29t : CtE
 | [.agg [.int .i64 w, .int .i64 h]] => some ⟨.int .i64 1, [], some (okS w h = true)⟩
 | _ => none
def e31t : CtE
 | [.agg [.int .i64 w, .int .i64 h]] => some ⟨.tup [.agg [.int .i64 w, .int .i64 h, .nils], .int .i64 0], [], some (okS w h = true)⟩
 | _ => none
def e30t : CtE
 | [.agg [.int .i64 w, .int .i64 h, .imm (.vals a) n _]] => some ⟨.int .i64 (chkI w h (unC a)), [], some (chkP w h a n ∧ s5 w h)⟩
 | _ => none
def e16t : CtE
 | [.agg [.int .i64 w, .int .i64 h, .imm (.vals a) n _], .int .i64 i, .int .u8 e] => some ⟨.tup [.int .u8 0, .int .i64 (chkI w h (unC a))], [], some (chkP w h a n ∧ chkI w h (unC a) ≠ 0 ∧ 0 ≤ e ∧ e ≤ 255)⟩
 | _ => none
def e15t : CtE
 | [.agg [.int .i64 w, .int .i64 h, .imm (.vals a) n _], .int .i64 i, .int .u8 e, .int .u8 k] => some ⟨.tup [.agg [.int .i64 0, .int .i64 0, .imm (.vals []) 0 (some 0)], .int .i64 (chkI w h (unC a))], [], some (chkP w h a n ∧ chkI w h (unC a) ≠ 0 ∧ 0 ≤ e ∧ e ≤ 255)⟩
 | _ => none
def blkN : Blk := ⟨.vals [], 3, 0, some 0, none, true, false⟩
def e25t : CtE
 | [.agg [.int .i64 w, .int .i64 h, .imm (.vals a) n _]] => some ⟨.tup [.agg [.int .i64 0, .int .i64 0, .full 0 0], .int .i64 (chkI w h (unC a))], [blkN], some (chkP w h a n ∧ chkI w h (unC a) ≠ 0)⟩
 | _ => none
def e24t : CtE
 | [.agg [.int .i64 w, .int .i64 h, .imm (.vals a) n _]] => some ⟨.tup [.agg [.int .i64 0, .int .i64 0, .full 0 0], .int .i64 (chkI w h (unC a))], [blkN], some (chkP w h a n ∧ chkI w h (unC a) ≠ 0 ∧ (okS w h = true → s5 w h))⟩
 | _ => none
def cT5t' : List (Nat × CtE) := (29, e29t) :: (31, e31t) :: (30, e30t) :: (27, e27) :: (16, e16t) :: (15, e15t) :: (25, e25t) :: (24, e24t) :: (18, e18) :: []
def TB5t : Tab := tabL cT5t' noCh
/-! ### Sheets that are not valid -/
def e29f : CtE
 | [.agg [.int .i64 w, .int .i64 h]] => some ⟨.int .i64 0, [], some (okS w h = false)⟩
 | _ => none
def e31f : CtE
 | [.agg [.int .i64 w, .int .i64 h]] => some ⟨.tup [.agg [.int .i64 0, .int .i64 0, .nils], .int .i64 1], [], some (okS w h = false)⟩
 | _ => none
def e30f : CtE
 | [.agg [.int .i64 w, .int .i64 h, .imm (.vals a) n _]] => some ⟨.int .i64 1, [], some (chkP w h a n ∧ okS w h = false)⟩
 | _ => none
def e16f : CtE
 | [.agg [.int .i64 w, .int .i64 h, .imm (.vals a) n _], .int .i64 i, .int .u8 e] => some ⟨.tup [.int .u8 0, .int .i64 1], [], some (chkP w h a n ∧ okS w h = false ∧ 0 ≤ e ∧ e ≤ 255)⟩
 | _ => none
def e15f : CtE
 | [.agg [.int .i64 w, .int .i64 h, .imm (.vals a) n _], .int .i64 i, .int .u8 e, .int .u8 k] => some ⟨.tup [.agg [.int .i64 0, .int .i64 0, .imm (.vals []) 0 (some 0)], .int .i64 1], [], some (chkP w h a n ∧ okS w h = false ∧ 0 ≤ e ∧ e ≤ 255)⟩
 | _ => none
def e25f : CtE
 | [.agg [.int .i64 w, .int .i64 h, .imm (.vals a) n _]] => some ⟨.tup [.agg [.int .i64 0, .int .i64 0, .full 0 0], .int .i64 1], [blkN], some (chkP w h a n ∧ okS w h = false)⟩
 | _ => none
def e24f : CtE
 | [.agg [.int .i64 w, .int .i64 h, .imm (.vals a) n _]] => some ⟨.tup [.agg [.int .i64 0, .int .i64 0, .full 0 0], .int .i64 1], [blkN], some (chkP w h a n ∧ okS w h = false)⟩
 | _ => none
def cT5f' : List (Nat × CtE) := (29, e29f) :: (31, e31f) :: (30, e30f) :: (27, e30f) :: (16, e16f) :: (15, e15f) :: (25, e25f) :: (24, e24f) :: (18, e18) :: []
def TB5f : Tab := tabL cT5f' noCh
end Go.Proofs.YtfpcbimohikhmaaDoor.X
/-
 The closed law, by the others.
-/
set_option maxRecDepth 1000000
set_option linter.unusedVariables false
namespace Go.Proofs.YtfpcbimohikhmaaDoor.X
open Go Go.Ab

def eK3 : CtE
 | [.agg [.int .u8 W, .int .u8 H, .imm (.ints .u8 ks) n _], .int .i64 i, .agg [.int .u8 e, .int .u8 k]] => some ⟨.bool true, [], some ((0 ≤ W ∧ W ≤ 255) ∧ (0 ≤ H ∧ H ≤ 255) ∧ n = ks.length ∧ u8s ks ∧ (0 ≤ e ∧ e ≤ 255) ∧ 0 ≤ k ∧ k ≤ 255)⟩
 | _ => none
def eK6 : CtE
 | [.agg [.int .u8 W, .int .u8 H, .imm (.ints .u8 ks) n _], .agg [.int .u8 a, .int .u8 b], .agg [.int .u8 k, .int .u8 l]] => some ⟨.bool true, [], some ((0 ≤ W ∧ W ≤ 255) ∧ (0 ≤ H ∧ H ≤ 255) ∧ n = ks.length ∧ u8s ks ∧ (0 ≤ a ∧ a ≤ 255) ∧ (0 ≤ b ∧ b ≤ 255) ∧ (0 ≤ k ∧ k ≤ 255) ∧ 0 ≤ l ∧ l ≤ 255)⟩
 | _ => none
def eK7 : CtE
 | [.agg [.int .u8 W, .int .u8 H, .imm (.ints .u8 ks) n _], .agg [.int .u8 W2, .int .u8 H2, .imm (.ints .u8 ks2) n2 _], .agg [.int .u8 p, .int .u8 q]] => some ⟨.bool true, [], some ((0 ≤ W ∧ W ≤ 255) ∧ (0 ≤ H ∧ H ≤ 255) ∧ n = ks.length ∧ u8s ks ∧ (0 ≤ W2 ∧ W2 ≤ 255) ∧ (0 ≤ H2 ∧ H2 ≤ 255) ∧ n2 = ks2.length ∧ u8s ks2 ∧ (0 ≤ p ∧ p ≤ 255) ∧ 0 ≤ q ∧ q ≤ 255)⟩
 | _ => none
def eK4 : CtE
 | [.agg [.int .u8 W, .int .u8 H, .imm (.ints .u8 ks) n _]] => some ⟨.bool true, [], some ((0 ≤ W ∧ W ≤ 255) ∧ (0 ≤ H ∧ H ≤ 255) ∧ n = ks.length ∧ u8s ks)⟩
 | _ => none
def eK5 : CtE
 | [.agg [.int .i64 w, .int .i64 h, .imm (.vals a) n _], .int .i64 i, .int .u8 e] => some ⟨.bool true, [], some (okA a n ∧ edg (unC a) ∧ 0 ≤ e ∧ e ≤ 255)⟩
 | [.agg [.int .i64 w, .int .i64 h, .nils], .int .i64 i, .int .u8 e] => some ⟨.bool true, [], some (0 ≤ e ∧ e ≤ 255)⟩
 | _ => none
def e36 : CtE
 | [.int .i64 c, .int .u8 e, .int .u8 k] => some ⟨.agg [.int .i64 c, .int .u8 e, .int .u8 k], [], none⟩
 | _ => none
def cTK' : List (Nat × CtE) := (3, eK3) :: (6, eK6) :: (7, eK7) :: (4, eK4) :: (5, eK5) :: (14, e14) :: (35, e35) :: (36, e36) :: (18, e18) :: []
def TBK : Tab := tabL cTK' noCh
structure L8 where (k n : Int)
def l8 : LpS L8 where
 ov b := [(1, .int .i64 b.k), (2, .int .i64 b.n)]
 bk b := []
 rd S := match aget S.t 1, aget S.t 2 with
  | some (.int _ k), some (.int _ n) => some ⟨k, n⟩
  | _, _ => none
 pre b := ∃ m : Nat, b.n = m ∧ m ≤ 20 ∧ 0 ≤ b.k ∧ b.k ≤ 100003
 mu b := 20 - b.n.toNat
structure M8 where (i k : Int) (x y : List Int)
def blkY (l : List Int) : Blk := ⟨.ints .u8 l, 1, l.length, none, some true, true, false⟩
def boxY (w h : Int) (id n : Nat) : HO := .blk ⟨.cells [.int .u8 w, .int .u8 h, .full id n], 3, 1, none, some false, true, true⟩
def m8 (a b c d : Int) (n : Int) : LpS M8 where
 ov q := [(5, .int .i64 q.i), (1, .int .i64 q.k)]
 bk q := [(395, boxY a b 9001 q.x.length), (396, boxY c d 9002 q.y.length), (9001, .blk (blkY q.x)), (9002, .blk (blkY q.y))]
 rd S := match aget S.t 5, aget S.t 1, aget S.h 9001, aget S.h 9002 with
  | some (.int _ i), some (.int _ k), some (.blk ⟨.ints _ x, _, _, _, _, _, _⟩), some (.blk ⟨.ints _ y, _, _, _, _, _, _⟩) => some ⟨i, k, x, y⟩
  | _, _, _, _ => none
 pre q := ∃ m : Nat, q.i = m ∧ m ≤ 60 ∧ 0 ≤ q.k ∧ q.k ≤ 100003 ∧ q.x.length = m ∧ q.y.length = m ∧ u8s q.x ∧ u8s q.y
 mu q := 60 - q.i.toNat
end Go.Proofs.YtfpcbimohikhmaaDoor.X
