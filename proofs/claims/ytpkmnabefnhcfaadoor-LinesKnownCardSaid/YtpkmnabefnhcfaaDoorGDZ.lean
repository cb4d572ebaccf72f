/-
  What the functions of the lines compute.
-/
import Derived.Test.YtpkmnabefnhcfaaDoorXpZ
import Derived.Test.YtpkmnabefnhcfaaDoorAb5
import Derived.KernelRfl
set_option maxRecDepth 1000000
set_option linter.unusedVariables false
namespace Go.Proofs.YtpkmnabefnhcfaaDoor.X
open Go Go.Ab

/-- Package-level tables. -/
def gl : Nat → Option Cont
  | 2 => some (.ints .u8 [0, 1, 28, 2, 29, 14, 24, 3, 30, 22, 20, 15, 25, 17, 4, 8, 31, 27, 13, 23, 21, 19, 16, 7, 26, 12, 18, 6, 11, 5, 10, 9])
  | 3 => some (.ints .u8 [0, 1, 56, 2, 57, 49, 28, 3, 61, 58, 42, 50, 38, 29, 17, 4, 62, 47, 59, 36, 45, 43, 51, 22, 53, 39, 33, 30, 24, 18, 12, 5, 63, 55, 48, 27, 60, 41, 37, 16, 46, 35, 44, 21, 52, 32, 23, 11, 54, 26, 40, 15, 34, 20, 31, 10, 25, 14, 19, 9, 13, 8, 7, 6])
  | 1 => some (.ints .u64 [1, 10, 100, 1000, 10000, 100000, 1000000, 10000000, 100000000, 1000000000, 10000000000, 100000000000, 1000000000000, 10000000000000, 100000000000000, 1000000000000000, 10000000000000000, 100000000000000000, 1000000000000000000, 10000000000000000000])
  | _ => none
noncomputable def G : GL := ⟨gl, cmOf Tryd.prog⟩
theorem hcm : G.cm = cmOf Tryd.prog := rfl
theorem hmx : Tryd.prog.follows .mixedOrders = true := by kernel_rfl

def bI (b : Bool) (x y : Int) : Int := cond b x y
/-- A line is valid; a point is inside. -/
def vl (k c : Int) : Bool := decide (1 ≤ k ∧ k ≤ 4 ∧ -4096 ≤ c ∧ c ≤ 4096)
def ins (x y : Int) : Bool := decide (-65536 ≤ x ∧ x ≤ 65536 ∧ -65536 ≤ y ∧ y ≤ 65536)
/-- A number that is small. -/
def sm (n : Int) : Prop := -1000000000 ≤ n ∧ n ≤ 1000000000
/-- The number on a line of a kind through a point, doubled; the direction across. -/
def acr (k x y : Int) : Int := if k = 1 then x else if k = 2 then y else if k = 3 then x + y else y - x
def crA (k : Int) : Int := if k = 1 then 1 else if k = 2 then 0 else if k = 3 then 1 else -1
def crB (k : Int) : Int := if k = 1 then 0 else 1
def ptV (x y : Int) : AV := .agg [.int .i64 x, .int .i64 y]
def lnV (k c : Int) : AV := .agg [.int .u8 k, .int .i64 c]
/-- The mirror image of a point. -/
def rfX (k c x y : Int) : Int := if k = 1 then 4 * c - x else if k = 2 then x else if k = 3 then 2 * c - y else y - 2 * c
def rfY (k c x y : Int) : Int := if k = 1 then y else if k = 2 then 4 * c - y else if k = 3 then 2 * c - x else x + 2 * c
/-- Reflect's results. -/
def rfOk (k c x y : Int) : Bool := vl k c && ins x y && ins (rfX k c x y) (rfY k c x y)
def rfE (k c x y : Int) : Int := bI (vl k c && ins x y) (bI (ins (rfX k c x y) (rfY k c x y)) 0 3) 1
def rfPX (k c x y : Int) : Int := bI (rfOk k c x y) (rfX k c x y) 0
def rfPY (k c x y : Int) : Int := bI (rfOk k c x y) (rfY k c x y) 0
/-- The mirror image of a line. -/
def imK (k c j d : Int) : Int := if k = 1 then (if j = 1 then 1 else if j = 2 then 2 else if j = 3 then 4 else 3) else if k = 2 then (if j = 1 then 1 else if j = 2 then 2 else if j = 3 then 4 else 3)
  else if k = 3 then (if j = 1 then 2 else if j = 2 then 1 else if j = 3 then 3 else 4) else (if j = 1 then 2 else if j = 2 then 1 else if j = 3 then 3 else 4)
def imC (k c j d : Int) : Int := if k = 1 then (if j = 1 then 2 * c - d else if j = 2 then d else if j = 3 then d - 2 * c else d + 2 * c) else if k = 2 then (if j = 1 then d else 2 * c - d)
  else if k = 3 then (if j = 1 then c - d else if j = 2 then c - d else if j = 3 then 2 * c - d else d) else (if j = 1 then d + c else if j = 2 then d - c else if j = 3 then d else 2 * c - d)
def imE (k c j d : Int) : Int := bI (vl k c && vl j d) (bI (vl (imK k c j d) (imC k c j d)) 0 3) 1
def imRK (k c j d : Int) : Int := bI (imE k c j d == 0) (imK k c j d) 0
def imRC (k c j d : Int) : Int := bI (imE k c j d == 0) (imC k c j d) 0
/-- Where two lines meet. -/
def m2X (k c j d : Int) : Int := if k = 1 then 2 * c else if k = 2 then (if j = 3 then 2 * d - 2 * c else 2 * c - 2 * d) else c - d
def m2Y (k c j d : Int) : Int := if k = 1 then (if j = 2 then 2 * d else if j = 3 then 2 * d - 2 * c else 2 * d + 2 * c) else if k = 2 then 2 * c else c + d
def mtX (k c j d : Int) : Int := if j < k then m2X j d k c else m2X k c j d
def mtY (k c j d : Int) : Int := if j < k then m2Y j d k c else m2Y k c j d
def mtE (k c j d : Int) : Int := bI (vl k c && vl j d) (bI (k == j) 7 0) 1
def mtRX (k c j d : Int) : Int := bI (mtE k c j d == 0) (mtX k c j d) 0
def mtRY (k c j d : Int) : Int := bI (mtE k c j d == 0) (mtY k c j d) 0
/-- The line of a kind through a point. -/
def thE (k x y : Int) : Int := bI (decide (1 ≤ k ∧ k ≤ 4) && ins x y) (bI ((acr k x y).tmod 2 == 0) (bI (vl k ((acr k x y).tdiv 2)) 0 3) 7) 1
def thK (k x y : Int) : Int := bI (thE k x y == 0) k 0
def thC (k x y : Int) : Int := bI (thE k x y == 0) ((acr k x y).tdiv 2) 0

def rulesV : AV := .agg [.nilf, .nilf, .nilf, .fn 37 [] [], .fn 38 [] [], .fn 39 [] [], .fn 40 [] [], .fn 41 [] [], .fn 42 [] [], .fn 43 [] [], .fn 44 [] [], .fn 45 [] [.ptr 0 0], .fn 46 [] [], .fn 47 [] [], .fn 48 [] [.ptr 0 0]]
/-- The kinds' twins, which two of the closures hold. -/
def twins : List Int := [0, 2, 1, 4, 3]
def rulesB : List Blk := [⟨.ints .u8 twins, 1, 5, none, some false, true, true⟩]

def e11 : CtE
  | [.agg [.int .u8 k, .int .i64 c]] => some ⟨.int .i64 (bI (vl k c) 1 0), [], none⟩
  | _ => none
def e12 : CtE
  | [.agg [.int .i64 x, .int .i64 y]] => some ⟨.int .i64 (bI (ins x y) 1 0), [], none⟩
  | _ => none
def e13 : CtE
  | [.agg [.int .u8 k, .int .i64 c]] => some ⟨.int .i64 (bI (vl k c) 0 1), [], none⟩
  | _ => none
def e14 : CtE
  | [.agg [.int .i64 x, .int .i64 y]] => some ⟨.int .i64 (bI (ins x y) 0 1), [], none⟩
  | _ => none
def e16 : CtE
  | [] => some ⟨.bool true, [], none⟩
  | _ => none
def e17 : CtE
  | [.agg [.int .u8 k, .int .i64 c], .agg [.int .i64 x, .int .i64 y]] => some ⟨.int .i64 (acr k x y - 2 * c), [], some (vl k c = true ∧ sm x ∧ sm y)⟩
  | _ => none
def e18 : CtE
  | [.agg [.int .u8 k, .int .i64 c], .agg [.int .i64 x, .int .i64 y]] => some ⟨.tup [ptV (rfPX k c x y) (rfPY k c x y), .int .i64 (rfE k c x y)], [], none⟩
  | _ => none
def e19 : CtE
  | [.agg [.int .u8 k, .int .i64 c], .agg [.int .i64 x, .int .i64 y]] => some ⟨ptV (rfX k c x y) (rfY k c x y), [], some (vl k c = true ∧ sm x ∧ sm y)⟩
  | _ => none
def e20 : CtE
  | [.int .u8 k] => some ⟨.tup [.int .i64 (crA k), .int .i64 (crB k)], [], none⟩
  | _ => none
def e21 : CtE
  | [.agg [.int .u8 k, .int .i64 c], .agg [.int .u8 j, .int .i64 d]] => some ⟨.tup [lnV (imRK k c j d) (imRC k c j d), .int .i64 (imE k c j d)], [], none⟩
  | _ => none
def onX (k c : Int) : Int := if k = 1 then 2 * c else if k = 2 then 0 else if k = 3 then c else -c
def onY (k c : Int) : Int := if k = 1 then 0 else if k = 2 then 2 * c else c
def e22 : CtE
  | [.agg [.int .u8 k, .int .i64 c]] => some ⟨.tup [ptV (onX k c) (onY k c), ptV (onX k c - 2 * crB k) (onY k c + 2 * crA k)], [], some (vl k c = true)⟩
  | _ => none
def e23 : CtE
  | [.agg [.int .u8 k, .int .i64 c], .agg [.int .u8 j, .int .i64 d]] => some ⟨.tup [ptV (mtRX k c j d) (mtRY k c j d), .int .i64 (mtE k c j d)], [], none⟩
  | _ => none
/-- The same for lines whose kinds ascend. -/
def e23a : CtE
  | [.agg [.int .u8 k, .int .i64 c], .agg [.int .u8 j, .int .i64 d]] => some ⟨.tup [ptV (mtRX k c j d) (mtRY k c j d), .int .i64 (mtE k c j d)], [], some (k ≤ j)⟩
  | _ => none
def e24 : CtE
  | [.int .u8 k, .agg [.int .i64 x, .int .i64 y]] => some ⟨.tup [lnV (thK k x y) (thC k x y), .int .i64 (thE k x y)], [], none⟩
  | _ => none
def e25 : CtE
  | [.agg [.int .u8 k, .int .i8 c]] => some ⟨lnV (1 + k.tmod 4) c, [], some (0 ≤ k ∧ k ≤ 255 ∧ -128 ≤ c ∧ c ≤ 127)⟩
  | _ => none
def e26 : CtE
  | [.int .i64 x, .int .i64 y] => some ⟨ptV x y, [], none⟩
  | _ => none
def e30 : CtE
  | [.int .u8 k, .int .i64 c] => some ⟨lnV k c, [], none⟩
  | _ => none
def e31 : CtE
  | [] => some ⟨rulesV, rulesB, none⟩
  | _ => none
def e32 : CtE
  | [.int .u8 k, .agg [.int .i64 x, .int .i64 y]] => some ⟨.int .i64 (acr k x y), [], some (sm x ∧ sm y)⟩
  | _ => none
def e38 : CtE
  | [.int .i64 c, .agg [.int .i64 x, .int .i64 y]] => some ⟨ptV (4 * c - x) y, [], some (sm c ∧ sm x ∧ sm y)⟩
  | _ => none
def e41 : CtE
  | [.int .i64 c, .agg [.int .i64 x, .int .i64 y]] => some ⟨ptV x (4 * c - y), [], some (sm c ∧ sm x ∧ sm y)⟩
  | _ => none
def e44 : CtE
  | [.int .i64 c, .agg [.int .i64 x, .int .i64 y]] => some ⟨ptV (2 * c - y) (2 * c - x), [], some (sm c ∧ sm x ∧ sm y)⟩
  | _ => none
def e47 : CtE
  | [.int .i64 c, .agg [.int .i64 x, .int .i64 y]] => some ⟨ptV (y - 2 * c) (x + 2 * c), [], some (sm c ∧ sm x ∧ sm y)⟩
  | _ => none
/-- The closures that mirror lines. -/
def eIm (k : Int) : CtE
  | [.int .i64 c, .agg [.int .u8 j, .int .i64 d]] => some ⟨lnV (imK k c j d) (imC k c j d), [], some (sm c ∧ sm d ∧ 1 ≤ j ∧ j ≤ 4)⟩
  | _ => none
def eImP (k : Int) : CtE
  | [.int .i64 c, .agg [.int .u8 j, .int .i64 d], .iptr t] => cond (eqC t (.ints .u8 twins)) (some ⟨lnV (imK k c j d) (imC k c j d), [], some (sm c ∧ sm d ∧ 1 ≤ j ∧ j ≤ 4)⟩) none
  | _ => none
def tl0 : List (Nat × CtE) := []
def T0 : Tab := tabL tl0 noCh
theorem T0ok : TabOk Tryd.prog G T0 := tabL_ok noCh_ok trivial
def tlA : List (Nat × CtE) := [(11, e11), (12, e12), (13, e13), (14, e14), (20, e20), (26, e26), (30, e30), (31, e31), (32, e32), (38, e38), (41, e41), (44, e44), (47, e47)]
def TA : Tab := tabL tlA noCh
def tlB : List (Nat × CtE) := (17, e17) :: (18, e18) :: (22, e22) :: (25, e25) :: (16, e16) :: (39, eIm 1) :: (42, eIm 2) :: (45, eImP 3) :: (48, eImP 4) :: tlA
def TB' : Tab := tabL tlB noCh
def tlC : List (Nat × CtE) := (23, e23a) :: tlB
def TC' : Tab := tabL tlC noCh
def tlD : List (Nat × CtE) := (19, e19) :: (21, e21) :: (23, e23) :: (24, e24) :: tlB
def TD : Tab := tabL tlD noCh
/-- The law's search for the line through both points. -/
def wfit (n : Nat) (px py qx qy : Int) : Bool := crA n * px + crB n * py == crA n * qx + crB n * qy
def wfold (px py qx qy : Int) : Nat → Int × Int
  | 0 => (0, 0)
  | n + 1 => if n = 0 then (0, 0) else if wfit n px py qx qy then (n, (crA n * px + crB n * py).tdiv 2) else wfold px py qx qy n
structure L5 where (k wk wc : Int)
def l5 (px py qx qy : Int) : LpS L5 where
  ov b := [(12, .int .u8 b.k)]
  bk b := [(448, .blk ⟨.cells [.int .u8 b.wk, .int .i64 b.wc], 2, 1, none, some false, true, true⟩)]
  rd S := match aget S.t 12, aget S.h 448 with
    | some (.int _ k), some (.blk ⟨.cells [.int _ a, .int _ b], _, _, _, _, _, _⟩) => some ⟨k, a, b⟩
    | _, _ => none
  pre b := ∃ n : Nat, b.k = n ∧ 1 ≤ n ∧ n ≤ 5 ∧ (b.wk, b.wc) = wfold px py qx qy n
  mu b := 5 - b.k.toNat
/-- How many lines go through a point. -/
def manyF (x y : Int) : Nat → Int
  | 0 => 0
  | n + 1 => if n = 0 then 0 else manyF x y n + (if thE n x y = 7 then 0 else 1)
structure L7 where (k m : Int)
def l7 (x y : Int) : LpS L7 where
  ov b := [(12, .int .u8 b.k), (11, .int .i64 b.m)]
  bk b := []
  rd S := match aget S.t 12, aget S.t 11 with
    | some (.int _ k), some (.int _ m) => some ⟨k, m⟩
    | _, _ => none
  pre b := ∃ n : Nat, b.k = n ∧ 1 ≤ n ∧ n ≤ 5 ∧ 0 ≤ b.m ∧ b.m ≤ n ∧ b.m = manyF x y n
  mu b := 5 - b.k.toNat
def wantE (k x y : Int) : Int := if (acr k x y).tmod 2 = 0 then (if acr k x y < -8192 ∨ 8192 < acr k x y then 3 else 0) else 7
def thrN (x y : Int) : Int := if x.tmod 2 = 0 ∧ y.tmod 2 = 0 then 4 else if x.tmod 2 ≠ 0 ∧ y.tmod 2 ≠ 0 then 2 else 1
end Go.Proofs.YtpkmnabefnhcfaaDoor.X
