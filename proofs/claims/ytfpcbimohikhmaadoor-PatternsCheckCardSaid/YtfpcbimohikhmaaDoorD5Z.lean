/-
 What the functions on whole patterns compute: equal, fits, counts, the reference's check, the opposite, the back side.
-/
import Derived.Test.YtfpcbimohikhmaaDoorD4Z
set_option maxRecDepth 1000000
set_option linter.unusedVariables false
namespace Go.Proofs.YtfpcbimohikhmaaDoor.X
open Go Go.Ab

structure L2i where (i n : Int)
/-! ### The reference's check -/
def lkI (c e : Int) : Int → Int → List Int → Int
 | acc, _, [] => acc
 | acc, i, u :: r => lkI c e (cond (u / 3 == c && u % 3 == e) i acc) (i + 1) r
def rck (us : List Int) : Int → Int → List Cr → Int
 | _, o, [] => o
 | last, o, x :: r => cond (ltb (lkI x.1 x.2.1 (-1) 0 us) 0) 7 (rck us (lkI x.1 x.2.1 (-1) 0 us) (cond (leb (lkI x.1 x.2.1 (-1) 0 us) last) 6 o) r)
def rchI (w h : Int) (l : List Cr) : Int := cond (okS w h) (cond (badL l) 1 (rck (units w h) (-1) 0 l)) 1
def k30 (l : List Cr) : LpS L1 where
 ov c := [(3, .int .i64 c.i)]
 bk c := []
 rd S := match aget S.t 3 with
  | some (.int _ i) => some ⟨i⟩
  | _ => none
 pre c := ∃ n : Nat, c.i = n ∧ n ≤ l.length ∧ badL (l.drop n) = badL l
 mu c := l.length - c.i.toNat
structure L3i where (i p o : Int)
def l30 (us : List Int) (l : List Cr) : LpS L3i where
 ov c := [(7, .int .i64 c.i), (5, .int .i64 c.p), (6, .int .i64 c.o)]
 bk c := []
 rd S := match aget S.t 7, aget S.t 5, aget S.t 6 with
  | some (.int _ i), some (.int _ p), some (.int _ o) => some ⟨i, p, o⟩
  | _, _, _ => none
 pre c := ∃ n : Nat, c.i = n ∧ n ≤ l.length ∧ rck us c.p c.o (l.drop n) = rck us (-1) 0 l
 mu c := l.length - c.i.toNat
def m30 (us : List Int) (c e : Int) : LpS L2i where
 ov b := [(9, .int .i64 b.i), (8, .int .i64 b.n)]
 bk b := []
 rd S := match aget S.t 9, aget S.t 8 with
  | some (.int _ i), some (.int _ n) => some ⟨i, n⟩
  | _, _ => none
 pre b := ∃ n : Nat, b.i = n ∧ n ≤ us.length ∧ lkI c e b.n n (us.drop n) = lkI c e (-1) 0 us
 mu b := us.length - b.i.toNat
def cQ4' : List (Nat × CtE) := (29, e29) :: cW'
def CQ4 : Tab := tabL cQ4' noCh
/-! ### Opposite -/
def opC (x : Cr) : Cr := (x.1, x.2.1, otK x.2.2)
def opL (l : List Cr) : List Cr := l.map opC
structure L25 where (i : Int) (l : List AV)
def blkA (l : List AV) (n : Nat) : HO := .blk ⟨.vals l, 3, n, some n, some false, true, false⟩
def l25 (l : List Cr) : LpS L25 where
 ov c := [(23, .int .i64 c.i)]
 bk c := [(323, blkA c.l l.length)]
 rd S := match aget S.t 23, aget S.h 323 with
  | some (.int _ i), some (.blk ⟨.vals l, _, _, _, _, _, _⟩) => some ⟨i, l⟩
  | _, _ => none
 pre c := ∃ n : Nat, c.i = n ∧ n ≤ l.length ∧ c.l = flatC ((opL l).take n ++ l.drop n)
 mu c := l.length - c.i.toNat
def opR (w h : Int) (l : List Cr) : List Cr := cond (chkI w h l == 0) (opL l) []
def blkR (l : List Cr) : Blk := ⟨.vals (flatC l), 3, l.length, some l.length, none, true, false⟩
def patR (b : Bool) (w h : Int) (l : List Cr) : AV := .agg [.int .i64 (bI b w 0), .int .i64 (bI b h 0), .full 0 l.length]
def e25 : CtE
 | [.agg [.int .i64 w, .int .i64 h, .imm (.vals a) n _]] => some ⟨.tup [patR (chkI w h (unC a) == 0) w h (opR w h (unC a)), .int .i64 (chkI w h (unC a))], [blkR (opR w h (unC a))], some (okA a n ∧ (unC a).length < 1000000 ∧ edg (unC a))⟩
 | _ => none
/-! ### The pattern of plain data -/
end Go.Proofs.YtfpcbimohikhmaaDoor.X
