/-
 The laws on patterns: contracts of valid patterns, the laws' loops.
-/
import Derived.Test.YtfpcbimohikhmaaDoorPAZ
import Derived.Test.YtfpcbimohikhmaaDoorLZ
set_option maxRecDepth 1000000
set_option linter.unusedVariables false
set_option linter.unusedSimpArgs false
namespace Go.Proofs.YtfpcbimohikhmaaDoor.X
open Go Go.Ab

def s4 (w h : Int) : Prop := (1 ≤ w ∧ w ≤ 4) ∧ (1 ≤ h ∧ h ≤ 4)
def okV (w h : Int) (a : List AV) (n : Nat) : Prop := okA a n ∧ vP w h (unC a)
def e22z : CtE
 | [.agg [.int .i64 w, .int .i64 h, .imm (.vals a) n _], .agg [.int .i64 w', .int .i64 h', .imm (.vals b) m _]] => some ⟨.int .i64 0, [], some (okA a n ∧ okA b m ∧ w = w' ∧ h = h' ∧ unC a = unC b)⟩
 | _ => none
def e27v : CtE
 | [.agg [.int .i64 w, .int .i64 h, .imm (.vals a) n _]] => some ⟨.int .i64 0, [], some (s5 w h ∧ okV w h a n)⟩
 | _ => none
/-! ### Set -/
def patP (W H : Int) (ks : List Int) : AV := .agg [.int .u8 W, .int .u8 H, .imm (.ints .u8 ks) ks.length none]
structure L2w where (v a : Int)
/-- The error that is wanted, and the unit's number. -/
def j3a (w h i e : Int) : LpS L2w where
 ov b := [(13, .int .i64 b.v), (14, .int .i64 b.a)]
 bk b := []
 rd S := match aget S.t 13, aget S.t 14 with
  | some (.int _ v), some (.int _ a) => some ⟨v, a⟩
  | _, _ => none
 pre b := b.v = neE w h i e ∧ (neE w h i e = 0 → b.a = unI w h i e)
 mu b := 0
def j3b (v : Int) : LpS VI where
 ov b := [(13, .int .i64 b.v)]
 bk b := []
 rd S := match aget S.t 13 with
  | some (.int _ i) => some ⟨i⟩
  | _ => none
 pre b := b.v = v
 mu b := 0
/-- Set and Kind, of valid patterns. -/
def e15v : CtE
 | [.agg [.int .i64 w, .int .i64 h, .imm (.vals a) n _], .int .i64 i, .int .u8 e, .int .u8 k] => some ⟨.tup [patI (seE w h (unC a) i e k == 0) w h (seL w h (unC a) i e k), .int .i64 (seE w h (unC a) i e k)], [], some (s5 w h ∧ okV w h a n ∧ 0 ≤ e ∧ e ≤ 255)⟩
 | _ => none
/-- The kind behind an edge. -/
def kdI (w h : Int) (l : List Cr) (i e : Int) : Int := bI (neE w h i e == 0) (lookK (cod w h i e) 0 l) 0
def e16v : CtE
 | [.agg [.int .i64 w, .int .i64 h, .imm (.vals a) n _], .int .i64 i, .int .u8 e] => some ⟨.tup [.int .u8 (kdI w h (unC a) i e), .int .i64 (neE w h i e)], [], some (s5 w h ∧ okV w h a n ∧ 0 ≤ e ∧ e ≤ 255)⟩
 | _ => none
def cT3' : List (Nat × CtE) := (14, e14) :: (15, e15v) :: (16, e16v) :: (17, e17) :: (19, e19u) :: (20, e20) :: (21, e21) :: (22, e22z) :: (23, e23) :: (18, e18) :: []
def TB3 : Tab := tabL cT3' noCh
/-- The kinds with one changed. -/
def ksS (us : List Int) (l : List Cr) (a k : Int) : List Int := (kindsL us l).set a.toNat k
def l3 (us : List Int) : LpS L1 where
 ov c := [(17, .int .i64 c.i)]
 bk c := []
 rd S := match aget S.t 17 with
  | some (.int _ i) => some ⟨i⟩
  | _ => none
 pre c := ∃ n : Nat, c.i = n ∧ n ≤ us.length
 mu c := us.length - c.i.toNat
/-! ### Order -/
def e32z : CtE
 | [.agg [.int .i64 w, .int .i64 h, .imm (.vals a) n _], .agg [.int .i64 w', .int .i64 h', .imm (.vals b) m _]] => some ⟨.bool true, [], some (okA a n ∧ okA b m ∧ w = w' ∧ h = h' ∧ unC a = unC b)⟩
 | _ => none
/-- Set of a unit of a valid pattern. -/
def stL (w h : Int) (l : List Cr) (c k : Int) : List Cr := setR c k l
def e15u : CtE
 | [.agg [.int .i64 w, .int .i64 h, .imm (.vals a) n _], .int .i64 c, .int .u8 e, .int .u8 k] => some ⟨.tup [.agg [.int .i64 w, .int .i64 h, .imm (.vals (flatC (setR (3 * c + e) k (unC a)))) (setR (3 * c + e) k (unC a)).length (some (setR (3 * c + e) k (unC a)).length)], .int .i64 0], [], some (s5 w h ∧ okV w h a n ∧ 3 * c + e ∈ units w h ∧ 0 ≤ e ∧ e ≤ 2 ∧ 0 ≤ k ∧ k ≤ 3)⟩
 | _ => none
def cT6' : List (Nat × CtE) := (14, e14) :: (15, e15u) :: (20, e20) :: (22, e22z) :: (32, e32z) :: (18, e18) :: []
def TB6 : Tab := tabL cT6' noCh
end Go.Proofs.YtfpcbimohikhmaaDoor.X
