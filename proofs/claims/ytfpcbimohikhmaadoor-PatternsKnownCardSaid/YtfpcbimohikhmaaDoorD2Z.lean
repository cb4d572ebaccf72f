/-
 What the functions on cells and sheets compute.
-/
import Derived.Test.YtfpcbimohikhmaaDoorDZ
set_option maxRecDepth 1000000
set_option linter.unusedVariables false
namespace Go.Proofs.YtfpcbimohikhmaaDoor.X
open Go Go.Ab

/-! ### The cell that has three corners -/
def p3 (a b c j : Int) : Int := if j = 0 then a else if j = 1 then b else c
def evB (x y : Int) : Bool := x.tmod 2 == 0 || y.tmod 2 == 0
def hf (x : Int) : Int := (x - 1).tdiv 2
def mtB (mx my ax ay bx by_ q : Int) : Bool :=
 ((2 * hf mx + hQ q == ax && 2 * hf my + hQ q == ay) && (2 * hf mx + gQ q == bx && 2 * hf my + (2 - gQ q) == by_)) ||
 ((2 * hf mx + hQ q == bx && 2 * hf my + hQ q == by_) && (2 * hf mx + gQ q == ax && 2 * hf my + (2 - gQ q) == ay))
def fndQ (f : Int → Bool) : Nat → Int → Int
 | 0, n => n
 | k + 1, n => cond (f n) n (fndQ f k (n + 1))
def wthM (x0 y0 x1 y1 x2 y2 : Int) (i : Int) (q : Int) : Bool :=
 mtB (p3 x0 x1 x2 i) (p3 y0 y1 y2 i) (p3 x0 x1 x2 ((i + 1).tmod 3)) (p3 y0 y1 y2 ((i + 1).tmod 3)) (p3 x0 x1 x2 ((i + 2).tmod 3)) (p3 y0 y1 y2 ((i + 2).tmod 3)) q
def wth (x0 y0 x1 y1 x2 y2 : Int) : Nat → Int → Int × Int × Int
 | 0, _ => (0, 0, 4)
 | k + 1, i => cond (evB (p3 x0 x1 x2 i) (p3 y0 y1 y2 i)) (wth x0 y0 x1 y1 x2 y2 k (i + 1))
  (cond (decide (fndQ (wthM x0 y0 x1 y1 x2 y2 i) 4 0 < 4)) (hf (p3 x0 x1 x2 i), hf (p3 y0 y1 y2 i), fndQ (wthM x0 y0 x1 y1 x2 y2 i) 4 0) (wth x0 y0 x1 y1 x2 y2 k (i + 1)))
def wX (x0 y0 x1 y1 x2 y2 : Int) : Int := (wth x0 y0 x1 y1 x2 y2 3 0).1
def wY (x0 y0 x1 y1 x2 y2 : Int) : Int := (wth x0 y0 x1 y1 x2 y2 3 0).2.1
def wQ (x0 y0 x1 y1 x2 y2 : Int) : Int := (wth x0 y0 x1 y1 x2 y2 3 0).2.2
def sml2 (x : Int) : Prop := -1000 ≤ x ∧ x ≤ 1000
def e89 : CtE
 | [.agg [.int .i64 x0, .int .i64 y0, .int .i64 x1, .int .i64 y1, .int .i64 x2, .int .i64 y2]] => some ⟨.agg [.int .i64 (wX x0 y0 x1 y1 x2 y2), .int .i64 (wY x0 y0 x1 y1 x2 y2), .int .u8 (wQ x0 y0 x1 y1 x2 y2)], [],
   some (sml2 x0 ∧ sml2 y0 ∧ sml2 x1 ∧ sml2 y1 ∧ sml2 x2 ∧ sml2 y2)⟩
 | _ => none
structure L89 where (i : Int)
def l89 (x0 y0 x1 y1 x2 y2 : Int) : LpS L89 where
 ov b := [(3, .int .i64 b.i)]
 bk b := []
 rd S := match aget S.t 3 with
  | some (.int _ i) => some ⟨i⟩
  | _ => none
 pre b := ∃ n : Nat, b.i = n ∧ n ≤ 3 ∧ wth x0 y0 x1 y1 x2 y2 3 0 = wth x0 y0 x1 y1 x2 y2 (3 - n) n
 mu b := 3 - b.i.toNat
def m89 (x0 y0 x1 y1 x2 y2 i : Int) : LpS L89 where
 ov b := [(7, .int .u8 b.i)]
 bk b := []
 rd S := match aget S.t 7 with
  | some (.int _ i) => some ⟨i⟩
  | _ => none
 pre b := ∃ n : Nat, b.i = n ∧ n ≤ 4 ∧ fndQ (wthM x0 y0 x1 y1 x2 y2 i) 4 0 = fndQ (wthM x0 y0 x1 y1 x2 y2 i) (4 - n) n
 mu b := 4 - b.i.toNat
def cC' : List (Nat × CtE) := (88, e88) :: (42, e42) :: cB'
/-! ### The neighbour behind an edge -/
def nbX (x q e : Int) : Int := if e = 0 then (if q = 1 then x + 1 else if q = 3 then x - 1 else x) else x
def nbY (y q e : Int) : Int := if e = 0 then (if q = 2 then y + 1 else if q = 0 then y - 1 else y) else y
def nbQ (q e : Int) : Int := if e = 0 then (if q ≤ 1 then q + 2 else q - 2) else if e = 1 then (if q = 0 then 1 else if q = 1 then 0 else if q = 2 then 3 else 2) else 3 - q
def e55 : CtE
 | [.agg [.int .i64 x, .int .i64 y, .int .u8 q], .int .i64 e] => some ⟨.agg [.int .i64 (nbX x q e), .int .i64 (nbY y q e), .int .u8 (nbQ q e)], [], some (0 ≤ x ∧ x ≤ 4 ∧ 0 ≤ y ∧ y ≤ 4 ∧ 0 ≤ q ∧ q ≤ 3 ∧ 0 ≤ e ∧ e ≤ 2)⟩
 | _ => none
/-- A corner, reflected. -/
def rfX (k c x y : Int) : Int := x - rfD k c x y * acA k
def rfY (k c x y : Int) : Int := y - rfD k c x y * acB k
def cD' : List (Nat × CtE) := (89, e89) :: cC'
def CD : Tab := tabL cD' noCh
/-! ### Sheets -/
def okS (w h : Int) : Bool := decide (1 ≤ w ∧ 1 ≤ h ∧ w ≤ 256 ∧ h ≤ 256 ∧ w * h ≤ 256)
def e64 : CtE
 | [.agg [.int .i64 w, .int .i64 h]] => some ⟨.int .i64 (bI (okS w h) 0 1), [], none⟩
 | _ => none
def e29 : CtE
 | [.agg [.int .i64 w, .int .i64 h]] => some ⟨.int .i64 (bI (okS w h) 1 0), [], none⟩
 | _ => none
def okCl (x y q : Int) : Bool := decide (-4096 ≤ x ∧ x ≤ 4096 ∧ -4096 ≤ y ∧ y ≤ 4096 ∧ q ≤ 3)
def e92 : CtE
 | [.agg [.int .i64 x, .int .i64 y, .int .u8 q]] => some ⟨.int .i64 (bI (okCl x y q) 0 1), [], none⟩
 | _ => none
def hasB (w h i : Int) : Bool := decide (0 ≤ i ∧ i < 4 * w * h)
def e90 : CtE
 | [.agg [.int .i64 w, .int .i64 h], .int .i64 i] => some ⟨.bool (hasB w h i), [], some (okS w h = true)⟩
 | _ => none
def qX (w i : Int) : Int := (i.tdiv 4).tmod w
def qY (w i : Int) : Int := (i.tdiv 4).tdiv w
def qQ (i : Int) : Int := i.tmod 4
def e91 : CtE
 | [.agg [.int .i64 w, .int .i64 h], .int .i64 i] => some ⟨.agg [.int .i64 (qX w i), .int .i64 (qY w i), .int .u8 (qQ i)], [], some (okS w h = true ∧ hasB w h i = true)⟩
 | _ => none
def ceE (w h i : Int) : Int := bI (okS w h) (bI (hasB w h i) 0 7) 1
def okI (w h i : Int) : Bool := okS w h && hasB w h i
def e56 : CtE
 | [.agg [.int .i64 w, .int .i64 h], .int .i64 i] => some ⟨.tup [.agg [.int .i64 (bI (okI w h i) (qX w i) 0), .int .i64 (bI (okI w h i) (qY w i) 0), .int .u8 (bI (okI w h i) (qQ i) 0)], .int .i64 (ceE w h i)], [], none⟩
 | _ => none
def inB (w h x y : Int) : Bool := decide (0 ≤ x ∧ x < w ∧ 0 ≤ y ∧ y < h)
def e57 : CtE
 | [.agg [.int .i64 w, .int .i64 h], .agg [.int .i64 x, .int .i64 y, .int .u8 q]] => some ⟨.tup [.int .i64 (bI (inB w h x y) (4 * (y * w + x) + q) 0), .int .i64 (bI (inB w h x y) 0 7)], [], some (okS w h = true ∧ 0 ≤ q ∧ q ≤ 3 ∧ sml2 x ∧ sml2 y)⟩
 | _ => none
def e96 : CtE
 | [.agg [.int .i64 x, .int .i64 y, .int .u8 q], .int .u8 e] => some ⟨.tup [.agg [.int .i64 (bI (decide (e ≤ 2)) (nbX x q e) 0), .int .i64 (bI (decide (e ≤ 2)) (nbY y q e) 0), .int .u8 (bI (decide (e ≤ 2)) (nbQ q e) 0)], .int .i64 (bI (decide (e ≤ 2)) 0 1)], [],
   some (-900 ≤ x ∧ x ≤ 900 ∧ -900 ≤ y ∧ y ≤ 900 ∧ 0 ≤ q ∧ q ≤ 3 ∧ 0 ≤ e)⟩
 | _ => none
def cS' : List (Nat × CtE) := (64, e64) :: (29, e29) :: (92, e92) :: []
def CS : Tab := tabL cS' noCh
def cS2' : List (Nat × CtE) := (90, e90) :: (91, e91) :: cS'
def CS2 : Tab := tabL cS2' noCh
/-- The neighbour's id, or -1. -/
def nbI (w h i e : Int) : Int := cond (inB w h (nbX (qX w i) (qQ i) e) (nbY (qY w i) (qQ i) e)) (4 * (nbY (qY w i) (qQ i) e * w + nbX (qX w i) (qQ i) e) + nbQ (qQ i) e) (-1)
def neE (w h i e : Int) : Int := cond (okI w h i) (cond (decide (e ≤ 2)) (bI (leb 0 (nbI w h i e)) 0 7) 1) (ceE w h i)
def okN (w h i e : Int) : Bool := okI w h i && (decide (e ≤ 2) && leb 0 (nbI w h i e))
def e70 : CtE
 | [.agg [.int .i64 w, .int .i64 h], .int .i64 i, .int .u8 e] => some ⟨.tup [.int .i64 (bI (okN w h i e) (nbI w h i e) 0), .int .i64 (neE w h i e)], [], some (0 ≤ e)⟩
 | _ => none
def nmC (w h i e : Int) : Int := bI (okN w h i e) (min i (nbI w h i e)) 0
def nmE (w h i e : Int) : Int := bI (okN w h i e) e 0
def e58 : CtE
 | [.agg [.int .i64 w, .int .i64 h], .int .i64 i, .int .u8 e] => some ⟨.tup [.agg [.int .i64 (nmC w h i e), .int .u8 (nmE w h i e)], .int .i64 (neE w h i e)], [], some (0 ≤ e)⟩
 | _ => none
def cS3' : List (Nat × CtE) := (56, e56) :: (57, e57) :: (96, e96) :: cS2'
def CS3 : Tab := tabL cS3' noCh
def cS4' : List (Nat × CtE) := (70, e70) :: cS3'
def CS4 : Tab := tabL cS4' noCh
def idI (w h x y q : Int) : Int := cond (inB w h x y) (4 * w * y + 4 * x + q) (-1)
def e54 : CtE
 | [.agg [.int .i64 w, .int .i64 h], .agg [.int .i64 x, .int .i64 y, .int .u8 q]] => some ⟨.int .i64 (idI w h x y q), [], some (okS w h = true ∧ 0 ≤ q ∧ q ≤ 3 ∧ sml2 x ∧ sml2 y)⟩
 | _ => none
/-- Sheets of the statements. -/
def s5 (w h : Int) : Prop := 1 ≤ w ∧ w ≤ 5 ∧ 1 ≤ h ∧ h ≤ 5
def e21 : CtE
 | [.agg [.int .i64 w, .int .i64 h], .int .i64 i, .int .i64 e] => some ⟨.int .i64 (nbI w h i e), [], some (s5 w h ∧ 0 ≤ i ∧ i < 4 * w * h ∧ 0 ≤ e ∧ e ≤ 2)⟩
 | _ => none
def cN' : List (Nat × CtE) := (55, e55) :: (54, e54) :: []
def CN : Tab := tabL cN' noCh
end Go.Proofs.YtfpcbimohikhmaaDoor.X
