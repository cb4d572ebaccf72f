/-
 The law on Of: its contracts.
-/
import Derived.Test.YtmnaghfndigfkaaDoorDNZ
import Derived.Test.YtmnaghfndigfkaaDoorP3Z
import Derived.Test.YtmnaghfndigfkaaDoorDCZ
import Derived.Test.YtmnaghfndigfkaaDoorAb8

set_option maxRecDepth 1000000
set_option linter.unusedVariables false
namespace Go.Proofs.YtmnaghfndigfkaaDoor.X
open Go Go.Ab

def idxL : List Cl → Cl → Int → Int
 | [], _, _ => -1
 | a :: r, c, i => cond (eqCl a c) i (idxL r c (i + 1))
def e150 : CtE
 | [.imm (.vals a) n _, .agg [.int .i64 x, .int .i64 y, .int .u8 q]] => some ⟨.int .i64 (idxL (unK a) (x, y, q) 0), [], some (okL a n)⟩
 | _ => none
def l150 (l : List Cl) (c : Cl) : LpS L1 where
 ov b := [(8, .int .i64 b.i)]
 bk b := []
 rd S := match aget S.t 8 with
  | some (.int _ i) => some ⟨i⟩
  | _ => none
 pre b := ∃ n : Nat, b.i = n ∧ n ≤ l.length ∧ idxL (l.drop n) c n = idxL l c 0
 mu b := l.length - b.i.toNat
def eHasB : CtE
 | [.imm (.vals a) n _, .agg [.int .i64 x, .int .i64 y, .int .u8 q]] => some ⟨.bool (hasL (unK a) (x, y, q)), [], some (okL a n)⟩
 | _ => none
def eSame : CtE
 | [.imm (.vals a) n _, .imm (.vals b) m _] => some ⟨.bool (eqLC (unK a) (unK b)), [], some (okL a n ∧ okL b m)⟩
 | _ => none
def l119 (a b : List Cl) : LpS L1 where
 ov c := [(13, .int .i64 c.i)]
 bk c := []
 rd S := match aget S.t 13 with
  | some (.int _ i) => some ⟨i⟩
  | _ => none
 pre c := ∃ n : Nat, c.i = n ∧ n ≤ a.length ∧ eqLC (a.drop n) (b.drop n) = eqLC a b
 mu c := a.length - c.i.toNat
def tY118 : List (Nat × CtE) := [(150, e150)]
def TY118 : Tab := tabL tY118 noCh
def tY60 : List (Nat × CtE) := [(118, eHasB)]
def TY60 : Tab := tabL tY60 noCh
def tY63 : List (Nat × CtE) := [(119, eSame)]
def TY63 : Tab := tabL tY63 noCh
/-! ### Clone, Compact -/
def e116 : CtE
 | [.imm (.vals a) n _] => some ⟨.full 0 n, [rwB a n], some (okL a n ∧ 0 < n)⟩
 | _ => none
def cpR (d : List Cl) : List Cl := cptL d ++ List.replicate (d.length - (cptL d).length) (0, 0, 0)
def jV (n : Nat) : LpS Unit where
 ov _ := [(2, .vw 16448 n 3 0 n)]
 bk _ := []
 rd S := some ()
 pre _ := True
 mu _ := 0
def jW (d : List Cl) : LpS Unit where
 ov _ := [(0, .vw 16448 d.length 3 0 d.length)]
 bk _ := []
 rd S := some ()
 pre _ := cptL d = d
 mu _ := 0
def l117 (d : List Cl) : LpS L1 where
 ov b := [(3, .int .i64 b.i)]
 bk b := []
 rd S := match aget S.t 3 with
  | some (.int _ i) => some ⟨i⟩
  | _ => none
 pre b := ∃ n : Nat, b.i = n ∧ 1 ≤ n ∧ n ≤ d.length ∧ cptL (d.take n) = d.take n
 mu b := d.length - b.i.toNat
structure M117 where (k j : Int) (o : List AV)
def m117 (d : List Cl) (k0 : Nat) : LpS M117 where
 ov b := [(3, .int .i64 b.k), (5, .int .i64 b.j)]
 bk b := [(16448, .blk (rwB b.o d.length))]
 rd S := match aget S.t 3, aget S.t 5, aget S.h 16448 with
  | some (.int _ k), some (.int _ j), some (.blk ⟨.vals o, _, _, _, _, _, _⟩) => some ⟨k, j, o⟩
  | _, _, _ => none
 pre b := ∃ R : List Cl, ∃ k m : Nat, b.k = k ∧ b.j = m ∧ b.o = flatK R ∧ R.length = d.length ∧ 1 ≤ m ∧ k0 + m ≤ d.length ∧ k + 1 ≤ k0 + m ∧ R.take k = cptL (d.take (k0 + m)) ∧ R.drop (k0 + m - 1) = d.drop (k0 + m - 1)
 mu b := d.length - b.j.toNat
end Go.Proofs.YtmnaghfndigfkaaDoor.X

/-
 Of, and the law on it: the contracts.
-/
set_option maxRecDepth 1000000
set_option linter.unusedVariables false
namespace Go.Proofs.YtmnaghfndigfkaaDoor.X
open Go Go.Ab

def ofX (l : List Cl) : List Cl := cond (badL l) [] (ofL l)
/-- Sort and Compact, on the heap. -/
def ch59 (d : List Cl) (h : List (Nat × HO)) (cv : AV) (args : List AV) : Option Cx :=
 match cv, args with
 | .fn g [] [], [.full i n, .fn g' [] []] => cond (Nat.beq g 94 && (Nat.beq g' 79 && Nat.beq i 16448)) (some ⟨.tup [], [(16448, .blk (rwB (flatK (srtQ d)) n))], some (h = [(16448, .blk (rwB (flatK d) n))] ∧ n = d.length ∧ d.length < 1000000 ∧ okQ d)⟩) none
 | .fn g [] [], [.full i n] => cond (Nat.beq g 117 && Nat.beq i 16448) (some ⟨.vw 16448 n 3 0 (cptL (srtQ d)).length, [(16448, .blk (rwB (flatK (cpR (srtQ d))) n))], some (h = [(16448, .blk (rwB (flatK (srtQ d)) n))] ∧ n = (srtQ d).length ∧ n < 1000000)⟩) none
 | _, _ => none
def tZ59 : List (Nat × CtE) := [(115, e115), (116, e116), (99, e99)]
def TZ59 (d : List Cl) : Tab := tabL tZ59 (ch59 d)
def e59 : CtE
 | [.imm (.vals a) n _] => some ⟨.tup [.imm (.vals (flatK (ofX (unK a)))) (ofX (unK a)).length (some (ofX (unK a)).length), .int .i64 (bI (badL (unK a)) 1 0)], [], some (okL a n ∧ okQ (unK a) ∧ n ≤ 1024)⟩
 | _ => none
/-! ### An empty list -/
def e116z : CtE
 | [.imm (.vals a) n _] => some ⟨.imm (.vals []) 0 none, [], some (n = 0 ∧ a = [])⟩
 | _ => none
def eSrtz : CtE
 | [.imm (.vals a) n _, .fn g [] []] => some ⟨.tup [], [], some (n = 0 ∧ a = [])⟩
 | _ => none
def eCptz : CtE
 | [.imm (.vals a) n _] => some ⟨.imm (.vals []) 0 none, [], some (n = 0 ∧ a = [])⟩
 | _ => none
def e167z : CtE
 | [.imm (.vals a) n _, .int .i64 x, .int .i64 y, .fn g [] []] => some ⟨.tup [], [], some (n = 0 ∧ a = [] ∧ x = 0 ∧ y = 0)⟩
 | _ => none
def e133z : CtE
 | [.imm (.vals a) n _, .int .i64 x, .int .i64 y, .int .i64 z, .fn g [] []] => some ⟨.tup [], [], some (n = 0 ∧ a = [] ∧ x = 0 ∧ y = 0 ∧ z = 0)⟩
 | _ => none
def e126z : CtE
 | [.int .u64 x] => some ⟨.int .i64 0, [], some (x = 0)⟩
 | _ => none
def tZ126 : List (Nat × CtE) := [(162, e126z)]
def TZ126 : Tab := tabL tZ126 noCh
def tZ133 : List (Nat × CtE) := [(167, e167z)]
def TZ133 : Tab := tabL tZ133 noCh
def tZ94 : List (Nat × CtE) := [(126, e126z), (133, e133z)]
def TZ94 : Tab := tabL tZ94 noCh
def tZ59z : List (Nat × CtE) := [(115, e115), (116, e116z), (94, eSrtz), (117, eCptz), (99, e99)]
def TZ59z : Tab := tabL tZ59z noCh
end Go.Proofs.YtmnaghfndigfkaaDoor.X
/-
 What Text computes.
-/
set_option maxRecDepth 1000000
set_option linter.unusedVariables false
namespace Go.Proofs.YtmnaghfndigfkaaDoor.X
open Go Go.Ab

structure L49 where (i a b : Int)
structure M49 where (i : Int) (o : List Int)
end Go.Proofs.YtmnaghfndigfkaaDoor.X
/-
 The law on errors: its contracts.
-/
set_option maxRecDepth 1000000
set_option linter.unusedVariables false
namespace Go.Proofs.YtmnaghfndigfkaaDoor.X
open Go Go.Ab

/-! ### The reference's check -/
def e52 : CtE
 | [.imm (.vals a) n _] => some ⟨.int .i64 (chkI (unK a)), [], some (okL a n)⟩
 | _ => none
def tO52 : List (Nat × CtE) := [(41, e41), (103, e103)]
def TO52 : Tab := tabL tO52 noCh
def l52 (l : List Cl) : LpS L1 where
 ov b := [(3, .int .i64 b.i)]
 bk b := []
 rd S := match aget S.t 3 with
  | some (.int _ i) => some ⟨i⟩
  | _ => none
 pre b := ∃ n : Nat, b.i = n ∧ n ≤ l.length ∧ badL (l.drop n) = badL l
 mu b := l.length - b.i.toNat
def m52 (l : List Cl) : LpS L1 where
 ov b := [(4, .int .i64 b.i)]
 bk b := []
 rd S := match aget S.t 4 with
  | some (.int _ i) => some ⟨i⟩
  | _ => none
 pre b := ∃ n : Nat, b.i = ((n + 1 : Nat) : Int) ∧ (n + 1 ≤ l.length ∨ n = 0) ∧ srtB (l.drop n) = srtB l
 mu b := l.length + 1 - b.i.toNat
/-! ### Union, common cells, difference of any lists -/
/-! ### The law -/
structure J12 where (a : List AV) (n : Nat) (e : Int)
structure Z12 where (o : List AV)
structure K12 where (h : Int)
end Go.Proofs.YtmnaghfndigfkaaDoor.X
