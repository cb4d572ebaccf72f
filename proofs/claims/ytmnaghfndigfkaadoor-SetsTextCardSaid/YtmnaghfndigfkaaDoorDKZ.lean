/-
 What the reference's drawing computes.
-/
import Derived.Test.YtmnaghfndigfkaaDoorDJZ
set_option maxRecDepth 1000000
set_option linter.unusedVariables false
namespace Go.Proofs.YtmnaghfndigfkaaDoor.X
open Go Go.Ab

/-- The least and the greatest Y of the first cells. -/
def dnF (l : List Cl) : Nat → Int
 | 0 => kY l 0
 | n + 1 => if kY l n < dnF l n then kY l n else dnF l n
def upF (l : List Cl) : Nat → Int
 | 0 => kY l 0
 | n + 1 => if kY l n > upF l n then kY l n else upF l n
/-- The box of the first cells. -/
def bxA (l : List Cl) : Nat → Int
 | 0 => 0
 | n + 1 => lftF l (n + 1)
def bxR (l : List Cl) : Nat → Int
 | 0 => -1
 | n + 1 => rgtF l (n + 1)
def bxC (l : List Cl) : Nat → Int
 | 0 => 0
 | n + 1 => dnF l (n + 1)
def bxD (l : List Cl) : Nat → Int
 | 0 => -1
 | n + 1 => upF l (n + 1)
def boA (l : List Cl) : Int := bxA l l.length
def boB (l : List Cl) : Int := bxR l l.length
def boC (l : List Cl) : Int := bxC l l.length
def boD (l : List Cl) : Int := bxD l l.length
def e102 : CtE
 | [.imm (.vals a) n _] => some ⟨.tup [.int .i64 (boA (unK a)), .int .i64 (boB (unK a)), .int .i64 (boC (unK a)), .int .i64 (boD (unK a))], [], some (okL a n)⟩
 | _ => none
structure L102 where (i a b c d : Int)
def l102 (l : List Cl) : LpS L102 where
 ov v := [(10, .int .i64 v.i), (6, .int .i64 v.a), (7, .int .i64 v.b), (8, .int .i64 v.c), (9, .int .i64 v.d)]
 bk v := []
 rd S := match aget S.t 10, aget S.t 6, aget S.t 7, aget S.t 8, aget S.t 9 with
  | some (.int _ i), some (.int _ a), some (.int _ b), some (.int _ c), some (.int _ d) => some ⟨i, a, b, c, d⟩
  | _, _, _, _, _ => none
 pre v := ∃ n : Nat, v.i = n ∧ n ≤ l.length ∧ v.a = bxA l n ∧ v.b = bxR l n ∧ v.c = bxC l n ∧ v.d = bxD l n
 mu v := l.length - v.i.toNat
def smal (x : Int) : Prop := -10000 ≤ x ∧ x ≤ 10000
def bxOk (l : List Cl) : Prop := smal (boA l) ∧ smal (boB l) ∧ smal (boC l) ∧ smal (boD l)
def siz (l : List Cl) : Int := (4 * (boB l - boA l + 1) + 1) * (boD l - boC l + 1)
def e50 : CtE
 | [.imm (.vals a) n _] => some ⟨.int .i64 (siz (unK a)), [], some (okL a n ∧ bxOk (unK a))⟩
 | _ => none
/-- A byte of the drawing; squares, rows. -/
def sg (l : List Cl) (x y q : Int) : Int := bI (hasL l (x, y, q)) (sgn q) 46
def rt4 (l : List Cl) (x y : Int) : Nat → List Int
 | 0 => []
 | k + 1 => rt4 l x y k ++ [sg l x y k]
def rtR (l : List Cl) (a y : Int) : Nat → List Int
 | 0 => []
 | m + 1 => rtR l a y m ++ rt4 l (a + m) y 4
def rtT (l : List Cl) (a d : Int) (w : Nat) : Nat → List Int
 | 0 => []
 | h + 1 => rtT l a d w h ++ rtR l a (d - h) w ++ [10]
def rfT (l : List Cl) : List Int := rtT l (boA l) (boD l) (boB l - boA l + 1).toNat (boD l - boC l + 1).toNat
def e51 : CtE
 | [.imm (.vals a) n _] => some ⟨.str (bytesI (rfT (unK a))), [], some (okL a n ∧ bxOk (unK a) ∧ siz (unK a) ≤ 65536)⟩
 | _ => none
def byB (o : List Int) (n : Nat) : HO := .blk ⟨.ints .u8 o, 1, n, none, some true, true, false⟩
structure L51 where (i : Int) (o : List Int) (n : Nat)
def l51 (l : List Cl) : LpS L51 where
 ov v := [(8, .int .i64 v.i), (7, .full 9001 v.n)]
 bk v := [(9001, byB v.o v.n)]
 rd S := match aget S.t 8, aget S.h 9001 with
  | some (.int _ i), some (.blk ⟨.ints _ o, _, n, _, _, _, _⟩) => some ⟨i, o, n⟩
  | _, _ => none
 pre v := ∃ h : Nat, v.i = boD l - h ∧ (h : Int) ≤ (boD l - boC l + 1).toNat ∧ v.o = rtT l (boA l) (boD l) (boB l - boA l + 1).toNat h ∧ v.n = v.o.length
 mu v := (v.i - boC l + 1).toNat
def m51 (l : List Cl) (y : Int) (o0 : List Int) : LpS L51 where
 ov v := [(9, .int .i64 v.i), (7, .full 9001 v.n)]
 bk v := [(9001, byB v.o v.n)]
 rd S := match aget S.t 9, aget S.h 9001 with
  | some (.int _ i), some (.blk ⟨.ints _ o, _, n, _, _, _, _⟩) => some ⟨i, o, n⟩
  | _, _ => none
 pre v := ∃ m : Nat, v.i = boA l + m ∧ (m : Int) ≤ (boB l - boA l + 1).toNat ∧ v.o = o0 ++ rtR l (boA l) y m ∧ v.n = v.o.length
 mu v := (boB l - v.i + 1).toNat
def n51 (l : List Cl) (x y : Int) (o0 : List Int) : LpS L51 where
 ov v := [(10, .int .u8 v.i), (7, .full 9001 v.n)]
 bk v := [(9001, byB v.o v.n)]
 rd S := match aget S.t 10, aget S.h 9001 with
  | some (.int _ i), some (.blk ⟨.ints _ o, _, n, _, _, _, _⟩) => some ⟨i, o, n⟩
  | _, _ => none
 pre v := ∃ k : Nat, v.i = k ∧ k ≤ 4 ∧ v.o = o0 ++ rt4 l x y k ∧ v.n = v.o.length
 mu v := 4 - v.i.toNat
def tK50 : List (Nat × CtE) := [(102, e102), (47, e47)]
def TK50 : Tab := tabL tK50 noCh
end Go.Proofs.YtmnaghfndigfkaaDoor.X
