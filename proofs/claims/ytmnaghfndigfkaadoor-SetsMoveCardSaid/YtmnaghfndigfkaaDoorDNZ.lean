/-
 Sorting cells: where nothing is listed and draws are counted.
-/
import Derived.Test.YtmnaghfndigfkaaDoorDCZ
import Derived.Test.YtmnaghfndigfkaaDoorAb7
import Derived.Test.YtmnaghfndigfkaaDoorDDZ

set_option maxRecDepth 1000000
set_option linter.unusedVariables false
namespace Go.Proofs.YtmnaghfndigfkaaDoor.X
open Go Go.Ab

/-- What is known of memory where nothing is listed, draws counted. -/
noncomputable def Gs : GL := { g := fun _ => none, cm := cmOf Tryd.prog, strong := True }
end Go.Proofs.YtmnaghfndigfkaaDoor.X

/-
 What neighbours, squares, outlines compute.
-/
set_option maxRecDepth 1000000
set_option linter.unusedVariables false
namespace Go.Proofs.YtmnaghfndigfkaaDoor.X
open Go Go.Ab

/-- From a quarter across an edge: how far, which quarter. -/
def nbD (q e : Int) : Cl :=
 if q = 0 then (if e = 0 then (0, -1, 2) else if e = 1 then (0, 0, 1) else (0, 0, 3))
 else if q = 1 then (if e = 0 then (1, 0, 3) else if e = 1 then (0, 0, 0) else (0, 0, 2))
 else if q = 2 then (if e = 0 then (0, 1, 0) else if e = 1 then (0, 0, 3) else (0, 0, 1))
 else (if e = 0 then (-1, 0, 1) else if e = 1 then (0, 0, 2) else (0, 0, 0))
def nbC (c : Cl) (e : Int) : Cl := ((nbD c.2.2 e).1 + c.1, (nbD c.2.2 e).2.1 + c.2.1, (nbD c.2.2 e).2.2)
/-- What Neighbour returns: a cell, an error. -/
def nbX (x y q e : Int) : Int := bI (vldC (nbC (x, y, q) e)) (nbC (x, y, q) e).1 0
def nbY (x y q e : Int) : Int := bI (vldC (nbC (x, y, q) e)) (nbC (x, y, q) e).2.1 0
def nbQ (x y q e : Int) : Int := bI (vldC (nbC (x, y, q) e)) (nbC (x, y, q) e).2.2 0
def nbE (x y q e : Int) : Int := bI (vldC (nbC (x, y, q) e)) 0 3
def nbL (x y q e : Int) : List AV := [.agg [.int .i64 (nbX x y q e), .int .i64 (nbY x y q e), .int .u8 (nbQ x y q e)], .int .i64 (nbE x y q e)]
def e97 : CtE
 | [.agg [.int .i64 x, .int .i64 y, .int .u8 q], .int .u8 e] => some ⟨.tup (nbL x y q e), [], some (vldC (x, y, q) = true ∧ 0 ≤ q ∧ 0 ≤ e ∧ e ≤ 2)⟩
 | _ => none
/-! ### The map of a set -/
abbrev ME : Type := List (List Int × List Int × Nat)
def kyC (c : Cl) : List Int := [c.1, c.2.1, c.2.2]
def kM : MV := ⟨true, [some .i64, some .i64, some .u8]⟩
def vM : MV := ⟨false, [none]⟩
def memS : List Cl → ME × Nat → ME × Nat
 | [], s => s
 | c :: r, s => memS r (mput s.1 (kyC c) [1] s.2, mck s.1 (kyC c) s.2)
def mpB (es : ME) (k : Nat) : Blk := ⟨.maps kM vM es k, 1, 0, none, some false, true, true⟩
def e96 : CtE
 | [.imm (.vals a) n _] => some ⟨.mp 0, [mpB (memS (unK a) ([], 0)).1 (memS (unK a) ([], 0)).2], some (okL a n)⟩
 | _ => none
structure L96 where (i : Int) (es : ME) (k : Nat)
def l96 (l : List Cl) : LpS L96 where
 ov b := [(11, .int .i64 b.i)]
 bk b := [(130, .blk (mpB b.es b.k))]
 rd S := match aget S.t 11, aget S.h 130 with
  | some (.int _ i), some (.blk ⟨.maps _ _ es k, _, _, _, _, _, _⟩) => some ⟨i, es, k⟩
  | _, _ => none
 pre b := ∃ n : Nat, b.i = n ∧ n ≤ l.length ∧ memS (l.drop n) (b.es, b.k) = memS l ([], 0)
 mu b := l.length - b.i.toNat
def repM (es : ME) (L : List Cl) : Prop := (es.map fun e => (e.1, e.2.1)) = (L.map fun c => (kyC c, [1])) ∧ L.Nodup
/-! ### Squares -/
structure L44 where (i : Int) (o : List AV) (n : Nat)
/-! ### The outline -/
structure M43 where (i : Int) (o : List AV) (n : Nat)
def tH97 : List (Nat × CtE) := [(86, e86)]
def TH97 : Tab := tabL tH97 noCh
end Go.Proofs.YtmnaghfndigfkaaDoor.X
/-
 The move that moves nothing: what the functions on moves compute of it.
-/
set_option maxRecDepth 1000000
set_option linter.unusedVariables false
namespace Go.Proofs.YtmnaghfndigfkaaDoor.X
open Go Go.Ab

def ptB (x y : Int) : Bool := decide (-65536 ≤ x ∧ x ≤ 65536 ∧ -65536 ≤ y ∧ y ≤ 65536)
def e151 : CtE
 | [.agg [.int .i64 x, .int .i64 y]] => some ⟨.int .i64 (bI (ptB x y) 0 1), [], none⟩
 | _ => none
def smP (x y : Int) : Prop := -65536 ≤ x ∧ x ≤ 65536 ∧ -65536 ≤ y ∧ y ≤ 65536
def e165 : CtE
 | [.agg [.int .i64 x, .int .i64 y, .int .u8 q]] => some ⟨.agg [.int .i64 (2 * x + 1), .int .i64 (2 * y + 1)], [], some (smP x y)⟩
 | _ => none
/-! ### The quarters, one after the other -/
/-- The quarter that has been found. -/
def kAft (q : Int) (n : Nat) : Int := if q < n then q else 0
structure L132 where (i k : Int)
def l132 (q X Y : Int) : LpS L132 where
 ov b := [(47, .int .i64 b.i)]
 bk b := [(399, .blk ⟨.cells [.int .i64 X, .int .i64 Y, .int .u8 b.k], 3, 1, none, some false, true, true⟩)]
 rd S := match aget S.t 47, aget S.h 399 with
  | some (.int _ i), some (.blk ⟨.cells [_, _, .int _ k], _, _, _, _, _, _⟩) => some ⟨i, k⟩
  | _, _ => none
 pre b := ∃ n : Nat, b.i = n ∧ n ≤ 4 ∧ b.k = kAft q n
 mu b := 4 - b.i.toNat
/-! ### Sorting -/
def clq (c : Cl) : Cl := (c.1, c.2.1, c.2.2 % 256)
def RCq : RowS Cl where
 k := 3
 row x := [(.i64, x.1), (.i64, x.2.1), (.u8, x.2.2 % 256)]
 len _ := rfl
def cmpQ (a b : Cl) : Int := cmpC (clq a) (clq b)
def srtQ (l : List Cl) : List Cl := sortL cmpQ l
/-! ### Move -/
def blk38 (o : List AV) (n : Nat) : HO := .blk ⟨.vals o, 3, n, some n, some false, true, false⟩
structure L38 where (i : Int) (o : List AV)
/-- The sort of an own row, by its contract. -/
def ch94 (id : Nat) (d : List Cl) (h : List (Nat × HO)) (cv : AV) (args : List AV) : Option Cx :=
 match cv, args with
 | .fn g [] [], [.full i n, .fn g' [] []] => cond (Nat.beq g 94 && (Nat.beq g' 79 && Nat.beq i id)) (some ⟨.tup [], [(id, blk38 (flatK (srtQ d)) n)], some (h = [(id, blk38 (flatK d) n)] ∧ n = d.length ∧ d.length < 1000000000 ∧ okQ d)⟩) none
 | _, _ => none
end Go.Proofs.YtmnaghfndigfkaaDoor.X
