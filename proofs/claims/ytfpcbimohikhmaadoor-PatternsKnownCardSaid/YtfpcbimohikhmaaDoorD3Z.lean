/-
 What the functions on units and patterns compute: units, kinds, patterns of kinds.
-/
import Derived.Test.YtfpcbimohikhmaaDoorD2Z
import Derived.Test.YtfpcbimohikhmaaDoorAb5
set_option maxRecDepth 1000000
set_option linter.unusedVariables false
namespace Go.Proofs.YtfpcbimohikhmaaDoor.X
open Go Go.Ab

/-- A unit's number: three times the cell, and the edge. -/
def unB (w h c : Int) : Bool := ltb (c / 3) (nbI w h (c / 3) (c % 3))
def unL (w h : Int) (n : Nat) : List Int := ((List.range n).map Int.ofNat).filter (unB w h)
def units (w h : Int) : List Int := unL w h (3 * (4 * w * h).toNat)
def flatU (l : List Int) : List AV := l.flatMap fun c => [.int .i64 (c / 3), .int .u8 (c % 3)]
def uC (l : List Int) (i : Int) : Int := l[i.toNat]?.getD 0 / 3
def uE (l : List Int) (i : Int) : Int := l[i.toNat]?.getD 0 % 3
def cU' : List (Nat × CtE) := [(21, e21)]
def CU : Tab := tabL cU' noCh
def blkU (l : List AV) (n : Nat) : HO := .blk ⟨.vals l, 2, n, none, some true, true, false⟩
structure L20 where (i : Int) (l : List AV) (n : Nat)
def l20 (w h : Int) : LpS L20 where
 ov b := [(4, .int .i64 b.i), (3, .full 9001 b.n)]
 bk b := [(9001, blkU b.l b.n)]
 rd S := match aget S.t 4, aget S.h 9001 with
  | some (.int _ i), some (.blk ⟨.vals l, _, n, _, _, _, _⟩) => some ⟨i, l, n⟩
  | _, _ => none
 pre b := ∃ k : Nat, b.i = k ∧ k ≤ (4 * w * h).toNat ∧ b.l = flatU (unL w h (3 * k)) ∧ b.n = (unL w h (3 * k)).length
 mu b := (4 * w * h).toNat - b.i.toNat
def m20 (w h i : Int) : LpS L20 where
 ov b := [(5, .int .i64 b.i), (3, .full 9001 b.n)]
 bk b := [(9001, blkU b.l b.n)]
 rd S := match aget S.t 5, aget S.h 9001 with
  | some (.int _ i), some (.blk ⟨.vals l, _, n, _, _, _, _⟩) => some ⟨i, l, n⟩
  | _, _ => none
 pre b := ∃ k : Nat, b.i = k ∧ k ≤ 3 ∧ b.l = flatU (unL w h (3 * i.toNat + k)) ∧ b.n = (unL w h (3 * i.toNat + k)).length
 mu b := 3 - b.i.toNat
def unV (w h : Int) : AV := .imm (.vals (flatU (units w h))) (units w h).length none
def e20 : CtE
 | [.agg [.int .i64 w, .int .i64 h]] => some ⟨unV w h, [], some (s5 w h)⟩
 | _ => none
/-- Creases: cell, edge, kind. -/
abbrev Cr : Type := Int × Int × Int
def RCr : RowS Cr where
 k := 3
 row x := [(.i64, x.1), (.u8, x.2.1), (.u8, x.2.2)]
 len _ := rfl
def flatC (l : List Cr) : List AV := l.flatMap RCr.av
def cC (l : List Cr) (i : Int) : Int := (l[i.toNat]?.getD (0, 0, 0)).1
def cE (l : List Cr) (i : Int) : Int := (l[i.toNat]?.getD (0, 0, 0)).2.1
def cK (l : List Cr) (i : Int) : Int := (l[i.toNat]?.getD (0, 0, 0)).2.2
def crV (l : List Cr) (i : Int) : List AV := [.int .i64 (cC l i), .int .u8 (cE l i), .int .u8 (cK l i)]
/-- The creases of the units that have a kind. -/
def wthL : List Int → List Int → List Cr
 | c :: us, k :: ks => if k = 0 then wthL us ks else (c / 3, c % 3, k) :: wthL us ks
 | _, _ => []
def patV (w h : Int) (cs : List Cr) : AV := .agg [.int .i64 w, .int .i64 h, .imm (.vals (flatC cs)) cs.length none]
def blkC (l : List AV) (n : Nat) : Blk := ⟨.vals l, 3, n, none, some true, true, false⟩
def boxP (w h : Int) (n : Nat) : HO := .blk ⟨.cells [.int .i64 w, .int .i64 h, .full 9001 n], 3, 1, none, some false, true, true⟩
structure L23 where (i : Int) (l : List AV) (n : Nat)
def l23 (w h : Int) (us ks : List Int) : LpS L23 where
 ov b := [(7, .int .i64 b.i)]
 bk b := [(194, boxP w h b.n), (9001, .blk (blkC b.l b.n))]
 rd S := match aget S.t 7, aget S.h 9001 with
  | some (.int _ i), some (.blk ⟨.vals l, _, n, _, _, _, _⟩) => some ⟨i, l, n⟩
  | _, _ => none
 pre b := ∃ k : Nat, b.i = k ∧ k ≤ us.length ∧ k ≤ ks.length ∧ b.l = flatC (wthL (us.take k) (ks.take k)) ∧ b.n = (wthL (us.take k) (ks.take k)).length
 mu b := us.length - b.i.toNat
def e23 : CtE
 | [.agg [.int .i64 w, .int .i64 h], .imm (.ints .u8 ks) m _] => some ⟨.agg [.int .i64 w, .int .i64 h, .full 0 (wthL (units w h) ks).length], [blkC (flatC (wthL (units w h) ks)) (wthL (units w h) ks).length], some (s5 w h ∧ m = ks.length ∧ ks.length < 1000000000)⟩
 | _ => none
def cW' : List (Nat × CtE) := (20, e20) :: cU'
def CW : Tab := tabL cW' noCh
/-- Where a number stands first. -/
def idxL (x : Int) : List Int → Int → Int
 | [], _ => -1
 | y :: r, i => if y = x then i else idxL x r (i + 1)
def unI (w h i e : Int) : Int := cond (hasB w h i && (decide (0 ≤ e) && decide (e ≤ 2)) && leb 0 (nbI w h i e)) (idxL (3 * min i (nbI w h i e) + e) (units w h) 0) (-1)
structure L1 where (i : Int)
def l17 (x : Int) (us : List Int) : LpS L1 where
 ov b := [(9, .int .i64 b.i)]
 bk b := []
 rd S := match aget S.t 9 with
  | some (.int _ i) => some ⟨i⟩
  | _ => none
 pre b := ∃ n : Nat, b.i = n ∧ n ≤ us.length ∧ idxL x (us.drop n) n = idxL x us 0
 mu b := us.length - b.i.toNat
def e17 : CtE
 | [.agg [.int .i64 w, .int .i64 h], .int .i64 i, .int .i64 e] => some ⟨.int .i64 (unI w h i e), [], some (s5 w h)⟩
 | _ => none
/-- Patterns are equal. -/
def eqC (a b : List Cr) : Bool := decide (a = b)
def difI (w h w' h' : Int) (a b : List Cr) : Int := cond (decide (w = w' ∧ h = h') && eqC a b) 0 1
def l22 (a b : List Cr) : LpS L1 where
 ov c := [(5, .int .i64 c.i)]
 bk c := []
 rd S := match aget S.t 5 with
  | some (.int _ i) => some ⟨i⟩
  | _ => none
 pre c := ∃ n : Nat, c.i = n ∧ n ≤ a.length ∧ eqC (a.drop n) (b.drop n) = eqC a b
 mu c := a.length - c.i.toNat
def otK (k : Int) : Int := if k = 1 then 2 else if k = 2 then 1 else k
def e28 : CtE
 | [.int .u8 k] => some ⟨.int .u8 (otK k), [], none⟩
 | _ => none
/-- The kind of a unit: that of the last crease that is on it. -/
def lookK (c : Int) (acc : Int) : List Cr → Int
 | [] => acc
 | x :: r => lookK c (if x.1 = c / 3 ∧ x.2.1 = c % 3 then x.2.2 else acc) r
def kindsL (us : List Int) (cs : List Cr) : List Int := us.map fun c => lookK c 0 cs
structure L19 where (i : Int) (l : List Int)
def l19 (us : List Int) (cs : List Cr) : LpS L19 where
 ov b := [(5, .int .i64 b.i)]
 bk b := [(194, .blk ⟨.ints .u8 b.l, 1, us.length, some us.length, some false, true, false⟩)]
 rd S := match aget S.t 5, aget S.h 194 with
  | some (.int _ i), some (.blk ⟨.ints _ l, _, _, _, _, _, _⟩) => some ⟨i, l⟩
  | _, _ => none
 pre b := ∃ n : Nat, b.i = n ∧ n ≤ us.length ∧ b.l = (kindsL us cs).take n ++ List.replicate (us.length - n) 0
 mu b := us.length - b.i.toNat
def m19 (us : List Int) (cs : List Cr) (i : Int) : LpS L19 where
 ov b := [(6, .int .i64 b.i)]
 bk b := [(194, .blk ⟨.ints .u8 b.l, 1, us.length, some us.length, some false, true, false⟩)]
 rd S := match aget S.t 6, aget S.h 194 with
  | some (.int _ i), some (.blk ⟨.ints _ l, _, _, _, _, _, _⟩) => some ⟨i, l⟩
  | _, _ => none
 pre b := ∃ n : Nat, b.i = n ∧ n ≤ cs.length ∧ b.l = (kindsL us cs).take i.toNat ++ lookK (us[i.toNat]?.getD 0) 0 (cs.take n) :: List.replicate (us.length - (i.toNat + 1)) 0
 mu b := cs.length - b.i.toNat
end Go.Proofs.YtfpcbimohikhmaaDoor.X
