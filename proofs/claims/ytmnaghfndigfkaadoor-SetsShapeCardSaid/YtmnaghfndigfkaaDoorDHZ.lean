/-
 What neighbours, squares, outlines compute.
-/
import Derived.Test.YtmnaghfndigfkaaDoorDDZ
set_option maxRecDepth 1000000
set_option linter.unusedVariables false
namespace Go.Proofs.YtmnaghfndigfkaaDoor.X
open Go Go.Ab

/-- From a quarter across an edge: how far, which quarter. -/
def nbD (q e : Int) : Cl :=
 if q = 0 then (if e = 0 then (0, -1, 2) else if e = 1 then (0, 0, 1) else (0, 0, 3))
 else if q = 1 then (if e = 0 then (1, 0, 3) else if e = 1 then (0, 0, 0) else (0, 0, 2))
 else if q = 2 then (if e = 0 then (0, 1, 0) else if e = 1 then (0, 0, 3) else (0, 0, 1))
 else (if e = 0 then (-1, 0, 1) else if e = 1 then (0, 0, 2) else (0, 0, 0))
def nbC (c : Cl) (e : Int) : Cl := ((nbD c.2.2 e).1 + c.1, (nbD c.2.2 e).2.1 + c.2.1, (nbD c.2.2 e).2.2)
/-- What Neighbour returns: a cell, an error. -/
def nbX (x y q e : Int) : Int := bI (vldC (nbC (x, y, q) e)) (nbC (x, y, q) e).1 0
def nbY (x y q e : Int) : Int := bI (vldC (nbC (x, y, q) e)) (nbC (x, y, q) e).2.1 0
def nbQ (x y q e : Int) : Int := bI (vldC (nbC (x, y, q) e)) (nbC (x, y, q) e).2.2 0
def nbE (x y q e : Int) : Int := bI (vldC (nbC (x, y, q) e)) 0 3
def nbL (x y q e : Int) : List AV := [.agg [.int .i64 (nbX x y q e), .int .i64 (nbY x y q e), .int .u8 (nbQ x y q e)], .int .i64 (nbE x y q e)]
def e97 : CtE
 | [.agg [.int .i64 x, .int .i64 y, .int .u8 q], .int .u8 e] => some ⟨.tup (nbL x y q e), [], some (vldC (x, y, q) = true ∧ 0 ≤ q ∧ 0 ≤ e ∧ e ≤ 2)⟩
 | _ => none
/-! ### The map of a set -/
abbrev ME : Type := List (List Int × List Int × Nat)
def kyC (c : Cl) : List Int := [c.1, c.2.1, c.2.2]
def kM : MV := ⟨true, [some .i64, some .i64, some .u8]⟩
def vM : MV := ⟨false, [none]⟩
def memS : List Cl → ME × Nat → ME × Nat
 | [], s => s
 | c :: r, s => memS r (mput s.1 (kyC c) [1] s.2, mck s.1 (kyC c) s.2)
def mpB (es : ME) (k : Nat) : Blk := ⟨.maps kM vM es k, 1, 0, none, some false, true, true⟩
def e96 : CtE
 | [.imm (.vals a) n _] => some ⟨.mp 0, [mpB (memS (unK a) ([], 0)).1 (memS (unK a) ([], 0)).2], some (okL a n)⟩
 | _ => none
structure L96 where (i : Int) (es : ME) (k : Nat)
def l96 (l : List Cl) : LpS L96 where
 ov b := [(11, .int .i64 b.i)]
 bk b := [(130, .blk (mpB b.es b.k))]
 rd S := match aget S.t 11, aget S.h 130 with
  | some (.int _ i), some (.blk ⟨.maps _ _ es k, _, _, _, _, _, _⟩) => some ⟨i, es, k⟩
  | _, _ => none
 pre b := ∃ n : Nat, b.i = n ∧ n ≤ l.length ∧ memS (l.drop n) (b.es, b.k) = memS l ([], 0)
 mu b := l.length - b.i.toNat
def repM (es : ME) (L : List Cl) : Prop := (es.map fun e => (e.1, e.2.1)) = (L.map fun c => (kyC c, [1])) ∧ L.Nodup
/-! ### Squares -/
def sqB (l : List Cl) (i : Nat) : Bool := kQ l i == 0 && (decide (i + 3 < l.length) && eqCl (kC l (i + 3 : Nat)) (kX l i, kY l i, 3))
def sqL (l : List Cl) : Nat → List Cl
 | 0 => []
 | n + 1 => cond (sqB l n) (sqL l n ++ [kC l n]) (sqL l n)
def sqX (l : List Cl) : List Cl := cond (chkI l == 0) (sqL l l.length) []
def e44 : CtE
 | [.imm (.vals a) n _] => some ⟨.tup [.imm (.vals (flatK (sqX (unK a)))) (sqX (unK a)).length (some (sqX (unK a)).length), .int .i64 (chkI (unK a))], [], some (okL a n ∧ okQ (unK a))⟩
 | _ => none
structure L44 where (i : Int) (o : List AV) (n : Nat)
def l44 (l : List Cl) : LpS L44 where
 ov b := [(15, .int .i64 b.i), (5, .full 9001 b.n)]
 bk b := [(9001, .blk ⟨.vals b.o, 3, b.n, none, some true, true, false⟩)]
 rd S := match aget S.t 15, aget S.h 9001 with
  | some (.int _ i), some (.blk ⟨.vals o, _, n, _, _, _, _⟩) => some ⟨i, o, n⟩
  | _, _ => none
 pre b := ∃ n : Nat, b.i = n ∧ n ≤ l.length ∧ b.o = flatK (sqL l n) ∧ b.n = (sqL l n).length
 mu b := l.length - b.i.toNat
/-! ### The outline -/
abbrev Ed : Type := Cl × Int
def RE : RowS Ed where
 k := 4
 row x := [(.i64, x.1.1), (.i64, x.1.2.1), (.u8, x.1.2.2), (.u8, x.2)]
 len _ := rfl
def flatE (l : List Ed) : List AV := l.flatMap RE.av
def outB (l : List Cl) (c : Cl) (e : Int) : Bool := !(vldC (nbC c e) && hasL l (nbC c e))
def outE (l : List Cl) (c : Cl) : Nat → List Ed
 | 0 => []
 | n + 1 => cond (outB l c (n : Nat)) (outE l c n ++ [(c, ((n : Nat) : Int))]) (outE l c n)
def outF (l : List Cl) : Nat → List Ed
 | 0 => []
 | n + 1 => outF l n ++ outE l (kC l n) 3
def outX (l : List Cl) : List Ed := cond (chkI l == 0) (outF l l.length) []
def e98 : CtE
 | [.imm (.vals a) n _] => some ⟨.imm (.vals a) n (some n), [], some (a.length = n * 4)⟩
 | _ => none
def e43 : CtE
 | [.imm (.vals a) n _] => some ⟨.tup [.imm (.vals (flatE (outX (unK a)))) (outX (unK a)).length (some (outX (unK a)).length), .int .i64 (chkI (unK a))], [], some (okL a n ∧ okQ (unK a))⟩
 | _ => none
structure M43 where (i : Int) (o : List AV) (n : Nat)
def l43 (l : List Cl) : LpS M43 where
 ov b := [(21, .int .i64 b.i), (6, .full 9001 b.n)]
 bk b := [(9001, .blk ⟨.vals b.o, 4, b.n, none, some true, true, false⟩)]
 rd S := match aget S.t 21, aget S.h 9001 with
  | some (.int _ i), some (.blk ⟨.vals o, _, n, _, _, _, _⟩) => some ⟨i, o, n⟩
  | _, _ => none
 pre b := ∃ n : Nat, b.i = n ∧ n ≤ l.length ∧ b.o = flatE (outF l n) ∧ b.n = (outF l n).length
 mu b := l.length - b.i.toNat
def m43 (l : List Cl) (c : Cl) (o0 : List AV) (n0 : Nat) : LpS M43 where
 ov b := [(25, .int .u8 b.i), (6, .full 9001 b.n)]
 bk b := [(9001, .blk ⟨.vals b.o, 4, b.n, none, some true, true, false⟩)]
 rd S := match aget S.t 25, aget S.h 9001 with
  | some (.int _ i), some (.blk ⟨.vals o, _, n, _, _, _, _⟩) => some ⟨i, o, n⟩
  | _, _ => none
 pre b := ∃ n : Nat, b.i = n ∧ n ≤ 3 ∧ b.o = o0 ++ flatE (outE l c n) ∧ b.n = n0 + (outE l c n).length
 mu b := 3 - b.i.toNat
def tH97 : List (Nat × CtE) := [(86, e86)]
def TH97 : Tab := tabL tH97 noCh
def tH44 : List (Nat × CtE) := [(61, e61), (99, e99)]
def TH44 : Tab := tabL tH44 noCh
def tH43 : List (Nat × CtE) := [(61, e61), (96, e96), (97, e97), (98, e98)]
def TH43 : Tab := tabL tH43 noCh
end Go.Proofs.YtmnaghfndigfkaaDoor.X
