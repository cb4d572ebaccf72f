/-
 The law Same: the second pattern, the loops.
-/
import Derived.Test.YtfpcbimohikhmaaDoorD11Z
set_option maxRecDepth 1000000
set_option linter.unusedVariables false
namespace Go.Proofs.YtfpcbimohikhmaaDoor.X
open Go Go.Ab

/-- A pattern with another kind at a place. -/
def modL (l : List Cr) (i v : Int) : List Cr := l.set i.toNat (cC l i, cE l i, v)
def cS (p : Int) (l : List Cr) : Bool := cond (ltb 0 (p.tmod 3)) (ltb 0 l.length) false
def bS (p q : Int) (l l' : List Cr) : List Cr := cond (cS p l) (modL l (q.tmod l.length) (1 + (p.tdiv 3).tmod 3)) l'
structure L7 where (i : Int) (f : Bool)
def l7 (s : Bool) (a b : List Cr) : LpS L7 where
 ov c := [(12, .int .i64 c.i), (11, .bool c.f)]
 bk c := []
 rd S := match aget S.t 12, aget S.t 11 with
  | some (.int _ i), some (.bool f) => some ⟨i, f⟩
  | _, _ => none
 pre c := ∃ n : Nat, c.i = n ∧ n ≤ a.length ∧ (c.f = true → s = true ∧ a.length = b.length ∧ fitL (a.drop n) (b.drop n) = fitL a b) ∧ (c.f = false → (s && fitL a b) = false)
 mu c := a.length - c.i.toNat
def cumF (l : List Cr) : Nat → Nat
 | 0 => 0
 | n + 1 => cumF l n + cntN l ((n + 1 : Nat) : Int)
structure L7k where (k s : Int)
def k7 (l : List Cr) : LpS L7k where
 ov c := [(16, .int .u8 c.k), (15, .int .i64 c.s)]
 bk c := []
 rd S := match aget S.t 16, aget S.t 15 with
  | some (.int _ k), some (.int _ s) => some ⟨k, s⟩
  | _, _ => none
 pre c := ∃ n : Nat, c.k = ((n + 1 : Nat) : Int) ∧ n ≤ 3 ∧ c.s = (cumF l n : Nat)
 mu c := 4 - c.k.toNat
def m7 (l : List Cr) (k : Int) : LpS L2i where
 ov c := [(18, .int .i64 c.i), (17, .int .i64 c.n)]
 bk c := []
 rd S := match aget S.t 18, aget S.t 17 with
  | some (.int _ i), some (.int _ n) => some ⟨i, n⟩
  | _, _ => none
 pre c := ∃ n : Nat, c.i = n ∧ n ≤ l.length ∧ c.n = (cntN (l.take n) k : Nat)
 mu c := l.length - c.i.toNat
def e22g : CtE
 | [.agg [.int .i64 w, .int .i64 h, .imm (.vals a) n _], .agg [.int .i64 w', .int .i64 h', .imm (.vals b) m _]] => some ⟨.int .i64 (difI w h w' h' (unC a) (unC b)), [], some (okA a n ∧ okA b m)⟩
 | _ => none
def cT7' : List (Nat × CtE) := (14, e14) :: (22, e22g) :: (32, e32) :: (33, e33) :: (34, e34) :: (18, e18) :: []
def TB7 : Tab := tabL cT7' noCh
end Go.Proofs.YtfpcbimohikhmaaDoor.X
