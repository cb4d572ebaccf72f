/-
 What the law on texts computes: texts split and joined; the texts of fans.
-/
import Derived.Test.YtfafinkgmhkdmaaDoorVD6Z
import Derived.Test.YtfafinkgmhkdmaaDoorAb5
import Derived.Lib.Join
set_option maxRecDepth 1000000
set_option linter.unusedVariables false
namespace Go.Proofs.YtfafinkgmhkdmaaDoor.X
open Go Go.Ab

def ixB (s : List UInt8) (b : Int) : Int := idxB s b.toNat.toUInt8 0
def ctB (s : List UInt8) (b : Int) : Int := cntB s b.toNat.toUInt8 0
def eIxB : CtE
 | [.str s, .int .u8 b] => some ⟨.int .i64 (ixB s b), [], none⟩
 | _ => none
def eCtB : CtE
 | [.str s, .int .u8 b] => some ⟨.int .i64 (ctB s b), [], none⟩
 | _ => none
def eIx1 : CtE
 | [.str s, .str [b]] => some ⟨.int .i64 (ixB s b.toNat), [], some (b = 32 ∧ s.length < 1000000000)⟩
 | _ => none
def eCt1 : CtE
 | [.str s, .str [b]] => some ⟨.int .i64 (ctB s b.toNat), [], some (b = 32 ∧ s.length < 1000000000)⟩
 | _ => none
/-- A text's pieces between blanks. -/
def consS (c : UInt8) : List (List UInt8) → List (List UInt8)
 | h :: t => (c :: h) :: t
 | [] => [[c]]
def splitS : List UInt8 → List (List UInt8)
 | [] => [[]]
 | c :: s => cond (c == 32) ([] :: splitS s) (consS c (splitS s))
def eSplit : CtE
 | [.str s, .str [b], .int .i64 0, .int .i64 m] => cond (m == -1) (some ⟨.imm (.strs (splitS s)) (splitS s).length none, [], some (b = 32 ∧ s.length < 1000000)⟩) none
 | _ => none
def e59 : CtE
 | [.str s, .str [b]] => some ⟨.imm (.strs (splitS s)) (splitS s).length none, [], some (b = 32 ∧ s.length < 1000000)⟩
 | _ => none
def blkS (l : List (List UInt8)) (n : Nat) : Blk := ⟨.strs l, 1, n, some n, some false, true, false⟩
structure L81 where (i : Int) (s : List UInt8) (l : List (List UInt8))
def l81 (s0 : List UInt8) (id : Nat) : LpS L81 where
 ov b := [(0, .str b.s), (10, .int .i64 b.i)]
 bk b := [(id, .blk (blkS b.l b.l.length))]
 rd S := match aget S.t 0, aget S.t 10, aget S.h id with
  | some (.str s), some (.int _ i), some (.blk ⟨.strs l, _, _, _, _, _, _⟩) => some ⟨i, s, l⟩
  | _, _, _ => none
 pre b := ∃ n : Nat, b.i = n ∧ n < (splitS s0).length ∧ b.l.length = (splitS s0).length ∧ b.l.take n ++ splitS b.s = splitS s0 ∧ b.s.length ≤ s0.length
 mu b := b.s.length
/-- The texts of fans. -/
def letU (k : Int) : UInt8 := if k = 1 then 109 else if k = 2 then 118 else 97
def pcT (n k : Int) : List UInt8 := [letU k, UInt8.ofNat (48 + n.toNat)]
def pcs (a k : List Int) : List (List UInt8) := List.zipWith pcT a k
def txF (a k : List Int) : List UInt8 := if a = [] then [45] else Lib.join (pcs a k) [32]
def e34 : CtE
 | [.int .i64 n] => some ⟨.str [UInt8.ofNat (48 + n.toNat)], [], some (1 ≤ n ∧ n ≤ 8)⟩
 | _ => none
def e57 : CtE
 | [.imm (.strs l) n _, .str sep] => some ⟨.str (Lib.join l sep), [], some (n = l.length ∧ l.length ≤ 100000 ∧ (Lib.join l sep).length ≤ 100000)⟩
 | _ => none
structure L33 where (i : Int) (l : List (List UInt8))
def l33 (a k : List Int) : LpS L33 where
 ov b := [(16, .int .i64 b.i), (3, .full 9001 b.l.length)]
 bk b := [(9001, .blk ⟨.strs b.l, 1, b.l.length, none, none, true, false⟩)]
 rd S := match aget S.t 16, aget S.h 9001 with
  | some (.int _ i), some (.blk ⟨.strs l, _, _, _, _, _, _⟩) => some ⟨i, l⟩
  | _, _ => none
 pre b := ∃ n : Nat, b.i = n ∧ n ≤ a.length ∧ b.l = (pcs a k).take n
 mu b := a.length - b.i.toNat
def e33 : CtE
 | [.agg [.imm (.ints .i64 a) n _, .imm (.ints .u8 k) m _]] => some ⟨.str (txF a k), [], some (n = a.length ∧ m = k.length ∧ chk a k = 0)⟩
 | _ => none
def xA : List (Nat × CtE) := (107, eIxB) :: (121, eCtB) :: []
def XA : Tab := tabL xA noCh
def xB : List (Nat × CtE) := (82, eIxB) :: (60, eIxB) :: xA
def XB : Tab := tabL xB noCh
def xC : List (Nat × CtE) := (122, eIx1) :: (105, eCt1) :: xB
def XC' : Tab := tabL xC noCh
def xD : List (Nat × CtE) := (106, eIx1) :: xC
def XD : Tab := tabL xD noCh
def xE : List (Nat × CtE) := (81, eSplit) :: xD
def XE : Tab := tabL xE noCh
def xT : List (Nat × CtE) := (34, e34) :: (57, e57) :: (17, e17) :: []
def XT : Tab := tabL xT noCh
end Go.Proofs.YtfafinkgmhkdmaaDoor.X
