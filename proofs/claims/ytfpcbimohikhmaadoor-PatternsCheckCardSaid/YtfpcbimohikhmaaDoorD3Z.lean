/-
 What the functions on units and patterns compute: units, kinds, patterns of kinds.
-/
import Derived.Test.YtfpcbimohikhmaaDoorD2Z
import Derived.Test.YtfpcbimohikhmaaDoorAb7
set_option maxRecDepth 1000000
set_option linter.unusedVariables false
namespace Go.Proofs.YtfpcbimohikhmaaDoor.X
open Go Go.Ab

/-- A unit's number: three times the cell, and the edge. -/
def unB (w h c : Int) : Bool := ltb (c / 3) (nbI w h (c / 3) (c % 3))
def unL (w h : Int) (n : Nat) : List Int := ((List.range n).map Int.ofNat).filter (unB w h)
def units (w h : Int) : List Int := unL w h (3 * (4 * w * h).toNat)
def flatU (l : List Int) : List AV := l.flatMap fun c => [.int .i64 (c / 3), .int .u8 (c % 3)]
def uC (l : List Int) (i : Int) : Int := l[i.toNat]?.getD 0 / 3
def uE (l : List Int) (i : Int) : Int := l[i.toNat]?.getD 0 % 3
def cU' : List (Nat × CtE) := [(21, e21)]
def CU : Tab := tabL cU' noCh
def blkU (l : List AV) (n : Nat) : HO := .blk ⟨.vals l, 2, n, none, some true, true, false⟩
structure L20 where (i : Int) (l : List AV) (n : Nat)
def l20 (w h : Int) : LpS L20 where
 ov b := [(4, .int .i64 b.i), (3, .full 9001 b.n)]
 bk b := [(9001, blkU b.l b.n)]
 rd S := match aget S.t 4, aget S.h 9001 with
  | some (.int _ i), some (.blk ⟨.vals l, _, n, _, _, _, _⟩) => some ⟨i, l, n⟩
  | _, _ => none
 pre b := ∃ k : Nat, b.i = k ∧ k ≤ (4 * w * h).toNat ∧ b.l = flatU (unL w h (3 * k)) ∧ b.n = (unL w h (3 * k)).length
 mu b := (4 * w * h).toNat - b.i.toNat
def m20 (w h i : Int) : LpS L20 where
 ov b := [(5, .int .i64 b.i), (3, .full 9001 b.n)]
 bk b := [(9001, blkU b.l b.n)]
 rd S := match aget S.t 5, aget S.h 9001 with
  | some (.int _ i), some (.blk ⟨.vals l, _, n, _, _, _, _⟩) => some ⟨i, l, n⟩
  | _, _ => none
 pre b := ∃ k : Nat, b.i = k ∧ k ≤ 3 ∧ b.l = flatU (unL w h (3 * i.toNat + k)) ∧ b.n = (unL w h (3 * i.toNat + k)).length
 mu b := 3 - b.i.toNat
def unV (w h : Int) : AV := .imm (.vals (flatU (units w h))) (units w h).length none
def e20 : CtE
 | [.agg [.int .i64 w, .int .i64 h]] => some ⟨unV w h, [], some (s5 w h)⟩
 | _ => none
/-- Creases: cell, edge, kind. -/
abbrev Cr : Type := Int × Int × Int
def RCr : RowS Cr where
 k := 3
 row x := [(.i64, x.1), (.u8, x.2.1), (.u8, x.2.2)]
 len _ := rfl
def flatC (l : List Cr) : List AV := l.flatMap RCr.av
def cC (l : List Cr) (i : Int) : Int := (l[i.toNat]?.getD (0, 0, 0)).1
def cE (l : List Cr) (i : Int) : Int := (l[i.toNat]?.getD (0, 0, 0)).2.1
def cK (l : List Cr) (i : Int) : Int := (l[i.toNat]?.getD (0, 0, 0)).2.2
def crV (l : List Cr) (i : Int) : List AV := [.int .i64 (cC l i), .int .u8 (cE l i), .int .u8 (cK l i)]
def patV (w h : Int) (cs : List Cr) : AV := .agg [.int .i64 w, .int .i64 h, .imm (.vals (flatC cs)) cs.length none]
structure L23 where (i : Int) (l : List AV) (n : Nat)
def cW' : List (Nat × CtE) := (20, e20) :: cU'
structure L1 where (i : Int)
/-- Patterns are equal. -/
def eqC (a b : List Cr) : Bool := decide (a = b)
def otK (k : Int) : Int := if k = 1 then 2 else if k = 2 then 1 else k
structure L19 where (i : Int) (l : List Int)
end Go.Proofs.YtfpcbimohikhmaaDoor.X
