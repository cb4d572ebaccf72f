/-
  What the parser of fans computes; the law on texts.
-/
import Derived.Test.YtfafinkgmhkdmaaDoorVD9Z
set_option maxRecDepth 1000000
set_option linter.unusedVariables false
namespace Go.Proofs.YtfafinkgmhkdmaaDoor.X
open Go Go.Ab

def mva : List UInt8 := [109, 118, 97]
def okP (p : List UInt8) : Bool := p.length == 2 && (decide (49 ≤ (p.getD 1 0).toNat) && decide ((p.getD 1 0).toNat ≤ 56))
def angP (p : List UInt8) : Int := ((p.getD 1 0).toNat : Int) - 48
def kndP (p : List UInt8) : Int := 1 + ixB [109, 118, 97] ((p.getD 0 0).toNat : Int)
def pcA (l : List (List UInt8)) : List Int := l.map angP
def pcK (l : List (List UInt8)) : List Int := l.map kndP
def okT (t : List UInt8) : Bool := !(t == [45]) && ((splitS t).all okP && chk (pcA (splitS t)) (pcK (splitS t)) == 0)
def prsA (t : List UInt8) : List Int := bif okT t then pcA (splitS t) else []
def prsK (t : List UInt8) : List Int := bif okT t then pcK (splitS t) else []
def prsE (t : List UInt8) : Int := bif okT t || t == [45] then 0 else 4
/-- A fan with its capacities. -/
def fanW (a k : List Int) : AV := .agg [.imm (.ints .i64 a) a.length (some a.length), .imm (.ints .u8 k) k.length (some k.length)]
def e35 : CtE
  | [.str t] => some ⟨.tup [fanW (prsA t) (prsK t), .int .i64 (prsE t)], [], some (t.length < 1000000)⟩
  | _ => none
structure L35 where (i : Int) (a k : List Int)
def l35 (t : List UInt8) : LpS L35 where
  ov b := [(13, .int .i64 b.i)]
  bk b := [(256, .blk ⟨.cells [.full 9001 b.a.length, .full 9002 b.k.length], 2, 1, none, some false, true, true⟩), (9001, .blk (blkI b.a)), (9002, .blk (blkK b.k))]
  rd S := match aget S.t 13, aget S.h 9001, aget S.h 9002 with
    | some (.int _ i), some (.blk ⟨.ints _ a, _, _, _, _, _, _⟩), some (.blk ⟨.ints _ k, _, _, _, _, _, _⟩) => some ⟨i, a, k⟩
    | _, _, _ => none
  pre b := ∃ n : Nat, b.i = n ∧ n ≤ (splitS t).length ∧ ((splitS t).take n).all okP = true ∧ b.a = pcA ((splitS t).take n) ∧ b.k = pcK ((splitS t).take n)
  mu b := (splitS t).length - b.i.toNat
def yA : List (Nat × CtE) := (60, eIxB) :: (59, e59) :: (17, e17) :: (41, eClip .i64) :: (61, eClip .u8) :: []
def YA : Tab := tabL yA noCh
structure L11 where (i : Int) (s : List UInt8)
def l11 (A K : List Int) : LpS L11 where
  ov b := [(7, .int .i64 b.i), (6, .str b.s)]
  bk b := []
  rd S := match aget S.t 7, aget S.t 6 with
    | some (.int _ i), some (.str s) => some ⟨i, s⟩
    | _, _ => none
  pre b := ∃ n : Nat, b.i = n ∧ n ≤ A.length ∧ b.s = txF (A.take n) (K.take n)
  mu b := A.length - b.i.toNat
def zL : List (Nat × CtE) := (27, e12) :: (25, e25) :: (26, e26) :: (34, e34) :: (35, e35) :: (33, e33) :: (17, e17) :: []
def ZL : Tab := tabL zL noCh
end Go.Proofs.YtfafinkgmhkdmaaDoor.X
