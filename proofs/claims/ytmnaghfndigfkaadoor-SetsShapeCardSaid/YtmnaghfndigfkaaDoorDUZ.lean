/-
 The law on shapes: its table; the set by a name; its loops.
-/
import Derived.Test.YtmnaghfndigfkaaDoorDTZ
set_option maxRecDepth 1000000
set_option linter.unusedVariables false
namespace Go.Proofs.YtmnaghfndigfkaaDoor.X
open Go Go.Ab

noncomputable def tU10 : List (Nat × CtE) := [(31, e31), (42, e42), (43, e43), (44, e44), (45, e45), (46, e46), (47, e47), (48, e48), (35, e35), (37, e37)]
noncomputable def TU10 : Tab := tabL tU10 noCh
structure S10 where (a : List AV) (n : Nat)
def s10 (x : List Cl) : LpS S10 where
 ov v := [(3, .imm (.vals v.a) v.n none)]
 bk v := []
 rd S := match aget S.t 3 with
  | some (.imm (.vals a) n _) => some ⟨a, n⟩
  | _ => none
 pre v := v.a = flatK x ∧ v.n = x.length
 mu v := 0
/-- Edges of a list, by their numbers. -/
def gE (l : List Ed) (i : Int) : Ed := l[i.toNat]?.getD ((0, 0, 0), 0)
def gE1 (l : List Ed) (i : Int) : Int := (gE l i).1.1
def gE2 (l : List Ed) (i : Int) : Int := (gE l i).1.2.1
def gE3 (l : List Ed) (i : Int) : Int := (gE l i).1.2.2
def gE4 (l : List Ed) (i : Int) : Int := (gE l i).2
def eV (l : List Ed) (i : Int) : List AV := [.int .i64 (gE1 l i), .int .i64 (gE2 l i), .int .u8 (gE3 l i), .int .u8 (gE4 l i)]
def ouL (x : List Cl) : List Ed := outF x x.length
def l10a (x : List Cl) : LpS L1 where
 ov b := [(11, .int .i64 b.i)]
 bk b := []
 rd S := match aget S.t 11 with
  | some (.int _ i) => some ⟨i⟩
  | _ => none
 pre b := ∃ n : Nat, b.i = n ∧ n ≤ (ouL x).length
 mu b := (ouL x).length - b.i.toNat
structure L10 where (i : Int) (o : List AV) (n : Nat)
def l10b (x : List Cl) : LpS L10 where
 ov b := [(13, .int .i64 b.i), (12, .full 9001 b.n)]
 bk b := [(9001, .blk ⟨.vals b.o, 3, b.n, none, some true, true, false⟩)]
 rd S := match aget S.t 13, aget S.h 9001 with
  | some (.int _ i), some (.blk ⟨.vals o, _, n, _, _, _, _⟩) => some ⟨i, o, n⟩
  | _, _ => none
 pre b := ∃ n : Nat, b.i = n ∧ n ≤ x.length ∧ b.o = flatK (sqL x n) ∧ b.n = (sqL x n).length
 mu b := x.length - b.i.toNat
/-- How many of the cells of a square, of the first ones, are in a list. -/
def cn4 (l : List Cl) (x y : Int) : Nat → Int
 | 0 => 0
 | k + 1 => cn4 l x y k + bI (hasL l (x, y, (k : Nat))) 1 0
structure M10 where (k c : Int)
def m10 (l : List Cl) (x y : Int) : LpS M10 where
 ov b := [(15, .int .u8 b.k), (14, .int .i64 b.c)]
 bk b := []
 rd S := match aget S.t 15, aget S.t 14 with
  | some (.int _ k), some (.int _ c) => some ⟨k, c⟩
  | _, _ => none
 pre b := ∃ n : Nat, b.k = n ∧ n ≤ 4 ∧ b.c = cn4 l x y n
 mu b := 4 - b.k.toNat
end Go.Proofs.YtmnaghfndigfkaaDoor.X
