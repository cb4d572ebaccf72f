/-
  What the functions of the lines compute.
-/
import Derived.Test.YteghjimhlpbpkaaDoorXpZ
import Derived.Test.YteghjimhlpbpkaaDoorAb5
set_option maxRecDepth 1000000
set_option linter.unusedVariables false
namespace Go.Proofs.YteghjimhlpbpkaaDoor.X
open Go Go.Ab

/-- Package-level tables. -/
def gl : Nat → Option Cont
  | 2 => some (.ints .u8 [0, 1, 28, 2, 29, 14, 24, 3, 30, 22, 20, 15, 25, 17, 4, 8, 31, 27, 13, 23, 21, 19, 16, 7, 26, 12, 18, 6, 11, 5, 10, 9])
  | 3 => some (.ints .u8 [0, 1, 56, 2, 57, 49, 28, 3, 61, 58, 42, 50, 38, 29, 17, 4, 62, 47, 59, 36, 45, 43, 51, 22, 53, 39, 33, 30, 24, 18, 12, 5, 63, 55, 48, 27, 60, 41, 37, 16, 46, 35, 44, 21, 52, 32, 23, 11, 54, 26, 40, 15, 34, 20, 31, 10, 25, 14, 19, 9, 13, 8, 7, 6])
  | 1 => some (.ints .u64 [1, 10, 100, 1000, 10000, 100000, 1000000, 10000000, 100000000, 1000000000, 10000000000, 100000000000, 1000000000000, 10000000000000, 100000000000000, 1000000000000000, 10000000000000000, 100000000000000000, 1000000000000000000, 10000000000000000000])
  | _ => none
noncomputable def G : GL := ⟨gl, cmOf Tryd.prog⟩
theorem hcm : G.cm = cmOf Tryd.prog := rfl
theorem hmx : Tryd.prog.follows .mixedOrders = true := by kernel_rfl

/-- A line is valid; a point is inside. -/
def vl (k c : Int) : Bool := decide (1 ≤ k ∧ k ≤ 4 ∧ -4096 ≤ c ∧ c ≤ 4096)
def ins (x y : Int) : Bool := decide (-65536 ≤ x ∧ x ≤ 65536 ∧ -65536 ≤ y ∧ y ≤ 65536)
/-- The number on a line of a kind through a point, doubled. -/
def acr (k x y : Int) : Int := if k = 1 then x else if k = 2 then y else if k = 3 then x + y else y - x
def crA (k : Int) : Int := if k = 1 then 1 else if k = 2 then 0 else if k = 3 then 1 else -1
def crB (k : Int) : Int := if k = 1 then 0 else 1
def bI (b : Bool) (x y : Int) : Int := cond b x y
def sideI (k c x y : Int) : Int := if vl k c && ins x y then (if acr k x y < 2 * c then -1 else if acr k x y > 2 * c then 1 else 0) else 0
/-- The mirror image of a point. -/
def rfX (k c x y : Int) : Int := if k = 1 then 4 * c - x else if k = 2 then x else if k = 3 then 2 * c - y else y - 2 * c
def rfY (k c x y : Int) : Int := if k = 1 then y else if k = 2 then 4 * c - y else if k = 3 then 2 * c - x else x + 2 * c
def ptV (x y : Int) : AV := .agg [.int .i64 x, .int .i64 y]
def lnV (k c : Int) : AV := .agg [.int .u8 k, .int .i64 c]
/-- Reflect's results. -/
def rfOk (k c x y : Int) : Bool := vl k c && ins x y && ins (rfX k c x y) (rfY k c x y)
def rfE (k c x y : Int) : Int := bI (vl k c && ins x y) (bI (ins (rfX k c x y) (rfY k c x y)) 0 3) 1
def rfPX (k c x y : Int) : Int := bI (rfOk k c x y) (rfX k c x y) 0
def rfPY (k c x y : Int) : Int := bI (rfOk k c x y) (rfY k c x y) 0

def rulesV : AV := .agg [.nilf, .nilf, .nilf, .fn 37 [] [], .fn 38 [] [], .fn 39 [] [], .fn 40 [] [], .fn 41 [] [], .fn 42 [] [], .fn 43 [] [], .fn 44 [] [], .fn 45 [] [.ptr 0 0], .fn 46 [] [], .fn 47 [] [], .fn 48 [] [.ptr 0 0]]
/-- The kinds' twins, which two of the closures hold. -/
def rulesB : List Blk := [⟨.ints .u8 [0, 2, 1, 4, 3], 1, 5, none, some false, true, true⟩]
/-- What the functions return. -/
def ct (f : Nat) (args : List AV) : Option (AV × List Blk) :=
  match f with
  | 11 => match args with | [.agg [.int .u8 k, .int .i64 c]] => some (.int .i64 (bI (vl k c) 1 0), []) | _ => none
  | 12 => match args with | [.agg [.int .i64 x, .int .i64 y]] => some (.int .i64 (bI (ins x y) 1 0), []) | _ => none
  | 13 => match args with | [.agg [.int .u8 k, .int .i64 c]] => some (.int .i64 (bI (vl k c) 0 1), []) | _ => none
  | 14 => match args with | [.agg [.int .i64 x, .int .i64 y]] => some (.int .i64 (bI (ins x y) 0 1), []) | _ => none
  | 15 => match args with | [.agg [.int .u8 k, .int .i64 c], .agg [.int .i64 x, .int .i64 y]] => some (.int .i64 (sideI k c x y), []) | _ => none
  | 16 => some (.bool true, [])
  | 17 => match args with | [.agg [.int .u8 k, .int .i64 c], .agg [.int .i64 x, .int .i64 y]] => some (.int .i64 (acr k x y - 2 * c), []) | _ => none
  | 18 => match args with | [.agg [.int .u8 k, .int .i64 c], .agg [.int .i64 x, .int .i64 y]] => some (.tup [ptV (rfPX k c x y) (rfPY k c x y), .int .i64 (rfE k c x y)], []) | _ => none
  | 19 => match args with | [.agg [.int .u8 k, .int .i64 c], .agg [.int .i64 x, .int .i64 y]] => some (ptV (rfX k c x y) (rfY k c x y), []) | _ => none
  | 20 => match args with | [.int .u8 k] => some (.tup [.int .i64 (crA k), .int .i64 (crB k)], []) | _ => none
  | 26 => match args with | [.int .i64 x, .int .i64 y] => some (ptV x y, []) | _ => none
  | 30 => match args with | [.int .u8 k, .int .i64 c] => some (lnV k c, []) | _ => none
  | 31 => some (rulesV, rulesB)
  | 32 => match args with | [.int .u8 k, .agg [.int .i64 x, .int .i64 y]] => some (.int .i64 (acr k x y), []) | _ => none
  | 37 => match args with | [.agg [.int .i64 x, .int .i64 y]] => some (.int .i64 x, []) | _ => none
  | 40 => match args with | [.agg [.int .i64 x, .int .i64 y]] => some (.int .i64 y, []) | _ => none
  | 43 => match args with | [.agg [.int .i64 x, .int .i64 y]] => some (.int .i64 (x + y), []) | _ => none
  | 46 => match args with | [.agg [.int .i64 x, .int .i64 y]] => some (.int .i64 (y - x), []) | _ => none
  | 38 => match args with | [.int .i64 c, .agg [.int .i64 x, .int .i64 y]] => some (ptV (4 * c - x) y, []) | _ => none
  | 41 => match args with | [.int .i64 c, .agg [.int .i64 x, .int .i64 y]] => some (ptV x (4 * c - y), []) | _ => none
  | 44 => match args with | [.int .i64 c, .agg [.int .i64 x, .int .i64 y]] => some (ptV (2 * c - y) (2 * c - x), []) | _ => none
  | 47 => match args with | [.int .i64 c, .agg [.int .i64 x, .int .i64 y]] => some (ptV (y - 2 * c) (x + 2 * c), []) | _ => none
  | _ => none
def dd : Dirs := [(0, (.auto, .ctr ct))]
/-- The laws' cases: is the line valid, is the point inside? -/
def ct3 (v i : Bool) (f : Nat) (args : List AV) : Option (AV × List Blk) :=
  match f with
  | 11 => some (.int .i64 (bI v 1 0), [])
  | 12 => some (.int .i64 (bI i 1 0), [])
  | 13 => some (.int .i64 (bI v 0 1), [])
  | 14 => some (.int .i64 (bI i 0 1), [])
  | _ => ct f args
def ct2 (v : Bool) (f : Nat) (args : List AV) : Option (AV × List Blk) :=
  match f with
  | 11 => some (.int .i64 (bI v 1 0), [])
  | 13 => some (.int .i64 (bI v 0 1), [])
  | _ => ct f args
def dd2 (v : Bool) : Dirs := [(0, (.auto, .ctr (ct2 v)))]
def dd3 (v i : Bool) : Dirs := [(0, (.auto, .ctr (ct3 v i)))]
end Go.Proofs.YteghjimhlpbpkaaDoor.X
