/-
 What the functions on cells and lists of cells compute.
-/
import Derived.Test.YtmnaghfndigfkaaDoorDZ
import Derived.Test.YtmnaghfndigfkaaDoorAb7
import Derived.Test.YtmnaghfndigfkaaDoorAb6

set_option maxRecDepth 1000000
set_option linter.unusedVariables false
namespace Go.Proofs.YtmnaghfndigfkaaDoor.X
open Go Go.Ab

def bI (b : Bool) (x y : Int) : Int := cond b x y
def RCl : RowS Cl where
 k := 3
 row x := [(.i64, x.1), (.i64, x.2.1), (.u8, x.2.2)]
 len _ := rfl
def flatK (l : List Cl) : List AV := l.flatMap RCl.av
def unK : List AV → List Cl
 | .int _ x :: .int _ y :: .int _ q :: r => (x, y, q) :: unK r
 | _ => []
def okL (a : List AV) (n : Nat) : Prop := a = flatK (unK a) ∧ n = (unK a).length ∧ (unK a).length < 1000000
def gK (l : List Cl) (i : Int) : Cl := l[i.toNat]?.getD (0, 0, 0)
def kX (l : List Cl) (i : Int) : Int := (gK l i).1
def kY (l : List Cl) (i : Int) : Int := (gK l i).2.1
def kQ (l : List Cl) (i : Int) : Int := (gK l i).2.2
def kV (l : List Cl) (i : Int) : List AV := [.int .i64 (kX l i), .int .i64 (kY l i), .int .u8 (kQ l i)]
def kC (l : List Cl) (i : Int) : Cl := (kX l i, kY l i, kQ l i)
/-- A list of cells, given by value. -/
def cls (l : List Cl) : AV := .imm (.vals (flatK l)) l.length none
def ltC (a b : Cl) : Bool := decide (a.2.1 < b.2.1 ∨ (a.2.1 = b.2.1 ∧ (a.1 < b.1 ∨ (a.1 = b.1 ∧ a.2.2 < b.2.2))))
def eqCl (a b : Cl) : Bool := a.1 == b.1 && (a.2.1 == b.2.1 && a.2.2 == b.2.2)
def vldC (c : Cl) : Bool := decide (-4096 ≤ c.1 ∧ c.1 ≤ 4096 ∧ -4096 ≤ c.2.1 ∧ c.2.1 ≤ 4096 ∧ c.2.2 ≤ 3)
def cmpI (a b : Int) : Int := if a < b then -1 else if b < a then 1 else 0
def ord3 (a b c d e f : Int) : Int := if cmpI a b ≠ 0 then cmpI a b else if cmpI c d ≠ 0 then cmpI c d else cmpI e f
def cmpC (a b : Cl) : Int := ord3 a.2.1 b.2.1 a.1 b.1 a.2.2 b.2.2
def e103 : CtE
 | [.agg [.int .i64 x, .int .i64 y, .int .u8 q], .agg [.int .i64 x', .int .i64 y', .int .u8 q']] => some ⟨.int .i64 (bI (ltC (x, y, q) (x', y', q')) 1 0), [], none⟩
 | _ => none
def e41 : CtE
 | [.agg [.int .i64 x, .int .i64 y, .int .u8 q]] => some ⟨.int .i64 (bI (vldC (x, y, q)) 1 0), [], none⟩
 | _ => none
def e86 : CtE
 | [.agg [.int .i64 x, .int .i64 y, .int .u8 q]] => some ⟨.int .i64 (bI (vldC (x, y, q)) 0 1), [], none⟩
 | _ => none
def e202 : CtE
 | [.int .i64 x] => some ⟨.bool false, [], none⟩
 | _ => none
def e163 : CtE
 | [.int .i64 x, .int .i64 y] => some ⟨.int .i64 (cmpI x y), [], none⟩
 | _ => none
def e127 : CtE
 | [.imm (.vals [.int .i64 a, .int .i64 b, .int .i64 c, .int .i64 d, .int .i64 e, .int .i64 f]) n _] => some ⟨.int .i64 (ord3 a b c d e f), [], some (n = 3)⟩
 | _ => none
def e79 : CtE
 | [.agg [.int .i64 x, .int .i64 y, .int .u8 q], .agg [.int .i64 x', .int .i64 y', .int .u8 q']] => some ⟨.int .i64 (cmpC (x, y, q) (x', y', q')), [], some (0 ≤ q ∧ q ≤ 255 ∧ 0 ≤ q' ∧ q' ≤ 255)⟩
 | _ => none
def tB1 : List (Nat × CtE) := [(202, e202)]
def TB1 : Tab := tabL tB1 noCh
def tB2 : List (Nat × CtE) := (163, e163) :: tB1
def TB2 : Tab := tabL tB2 noCh
def tB3 : List (Nat × CtE) := (127, e127) :: tB2
def TB3 : Tab := tabL tB3 noCh
/-! ### Lists -/
def hasL : List Cl → Cl → Bool
 | [], _ => false
 | a :: r, c => cond (eqCl a c) true (hasL r c)
def e47 : CtE
 | [.imm (.vals a) n _, .agg [.int .i64 x, .int .i64 y, .int .u8 q]] => some ⟨.int .i64 (bI (hasL (unK a) (x, y, q)) 1 0), [], some (okL a n)⟩
 | _ => none
structure L1 where (i : Int)
def l47 (l : List Cl) (c : Cl) : LpS L1 where
 ov b := [(5, .int .i64 b.i)]
 bk b := []
 rd S := match aget S.t 5 with
  | some (.int _ i) => some ⟨i⟩
  | _ => none
 pre b := ∃ n : Nat, b.i = n ∧ n ≤ l.length ∧ hasL (l.drop n) c = hasL l c
 mu b := l.length - b.i.toNat
def eqLC : List Cl → List Cl → Bool
 | [], [] => true
 | a :: r, b :: s => cond (eqCl a b) (eqLC r s) false
 | _, _ => false
/-- same of two lists, of which the first one has the capacity c. -/
def e35 : CtE
 | [.imm (.vals a) n (some c), .imm (.vals b) m _] => some ⟨.int .i64 (bI (Nat.beq c n && eqLC (unK a) (unK b)) 1 0), [], some (okL a n ∧ okL b m)⟩
 | _ => none
def l35 (a b : List Cl) : LpS L1 where
 ov c := [(5, .int .i64 c.i)]
 bk c := []
 rd S := match aget S.t 5 with
  | some (.int _ i) => some ⟨i⟩
  | _ => none
 pre c := ∃ n : Nat, c.i = n ∧ n ≤ a.length ∧ eqLC (a.drop n) (b.drop n) = eqLC a b
 mu c := a.length - c.i.toNat
/-! ### Add, Of -/
def anyG (c : Cl) : List Cl → Bool
 | [] => false
 | a :: r => cond (ltC c a) true (anyG c r)
def insP (c : Cl) : List Cl → List Cl
 | [] => []
 | a :: r => cond (ltC c a) (c :: a :: r) (a :: insP c r)
def insL (c : Cl) (l : List Cl) : List Cl := cond (anyG c l) (insP c l) (l ++ [c])
def addL (l : List Cl) (c : Cl) : List Cl := cond (hasL l c) l (insL c l)
def ofL (l : List Cl) : List Cl := l.foldl addL []
def e92 : CtE
 | [.imm (.vals a) n _, .agg [.int .i64 x, .int .i64 y, .int .u8 q]] => some ⟨cls (addL (unK a) (x, y, q)), [], some (okL a n)⟩
 | _ => none
def tA1 : List (Nat × CtE) := [(47, e47), (103, e103)]
def TA1 : Tab := tabL tA1 noCh
structure L92 where (i d : Int) (o : List AV) (n : Nat)
def l92 (l : List Cl) (c : Cl) : LpS L92 where
 ov b := [(7, .int .i64 b.i), (6, .int .i64 b.d), (5, .full 9001 b.n)]
 bk b := [(9001, .blk ⟨.vals b.o, 3, b.n, none, some true, true, false⟩)]
 rd S := match aget S.t 7, aget S.t 6, aget S.h 9001 with
  | some (.int _ i), some (.int _ d), some (.blk ⟨.vals o, _, n, _, _, _, _⟩) => some ⟨i, d, o, n⟩
  | _, _, _ => none
 pre b := ∃ n : Nat, b.i = n ∧ n ≤ l.length ∧ b.d = bI (anyG c (l.take n)) 1 0 ∧ b.o = flatK (insP c (l.take n)) ∧ b.n = (insP c (l.take n)).length
 mu b := l.length - b.i.toNat
def e62 : CtE
 | [.imm (.vals a) n _] => some ⟨cls (ofL (unK a)), [], some (okL a n)⟩
 | _ => none
def tA2 : List (Nat × CtE) := [(92, e92)]
def TA2 : Tab := tabL tA2 noCh
structure L62 where (i : Int) (o : List AV) (n : Nat)
def l62 (l : List Cl) : LpS L62 where
 ov b := [(4, .int .i64 b.i), (3, .imm (.vals b.o) b.n none)]
 bk b := []
 rd S := match aget S.t 4, aget S.t 3 with
  | some (.int _ i), some (.imm (.vals o) n _) => some ⟨i, o, n⟩
  | some (.int _ i), some .nils => some ⟨i, [], 0⟩
  | _, _ => none
 pre b := ∃ n : Nat, b.i = n ∧ n ≤ l.length ∧ b.o = flatK (ofL (l.take n)) ∧ b.n = (ofL (l.take n)).length
 mu b := l.length - b.i.toNat
/-! ### The set of plain data -/
structure L31 where (i : Int) (o : List AV) (n : Nat)
def p3 (a b c : Int) (i : Int) : Int := if i = 0 then a else if i = 1 then b else c
def l127 (a b c d e f : Int) : LpS L1 where
 ov q := [(8, .int .i64 q.i)]
 bk q := []
 rd S := match aget S.t 8 with
  | some (.int _ i) => some ⟨i⟩
  | _ => none
 pre q := (0 ≤ q.i ∧ q.i ≤ 3) ∧ (1 ≤ q.i → cmpI a b = 0) ∧ (2 ≤ q.i → cmpI c d = 0) ∧ (3 ≤ q.i → cmpI e f = 0)
 mu q := 3 - q.i.toNat
end Go.Proofs.YtmnaghfndigfkaaDoor.X

/-
 What the check of sets computes.
-/
set_option maxRecDepth 1000000
set_option linter.unusedVariables false
namespace Go.Proofs.YtmnaghfndigfkaaDoor.X
open Go Go.Ab

def okQ (l : List Cl) : Prop := ∀ x ∈ l, 0 ≤ x.2.2 ∧ x.2.2 ≤ 255
def e149 : CtE
 | [.agg [.int .i64 x, .int .i64 y, .int .u8 q]] => some ⟨.bool (!vldC (x, y, q)), [], none⟩
 | _ => none
def tC1 : List (Nat × CtE) := [(86, e86)]
def TC1 : Tab := tabL tC1 noCh
def idxW : List Cl → Int → Int
 | [], _ => -1
 | c :: r, i => cond (vldC c) (idxW r (i + 1)) i
def badL : List Cl → Bool
 | [] => false
 | c :: r => cond (vldC c) (badL r) true
def e183 : CtE
 | [.imm (.vals a) n _, .fn f [] []] => cond (Nat.beq f 149) (some ⟨.int .i64 (idxW (unK a) 0), [], some (okL a n)⟩) none
 | _ => none
def tC2 : List (Nat × CtE) := [(149, e149)]
def TC2 : Tab := tabL tC2 noCh
def l183 (l : List Cl) : LpS L1 where
 ov b := [(8, .int .i64 b.i)]
 bk b := []
 rd S := match aget S.t 8 with
  | some (.int _ i) => some ⟨i⟩
  | _ => none
 pre b := ∃ n : Nat, b.i = n ∧ n ≤ l.length ∧ idxW (l.drop n) n = idxW l 0
 mu b := l.length - b.i.toNat
def e148 : CtE
 | [.imm (.vals a) n _, .fn f [] []] => cond (Nat.beq f 149) (some ⟨.bool (badL (unK a)), [], some (okL a n)⟩) none
 | _ => none
def tC3 : List (Nat × CtE) := [(183, e183)]
def TC3 : Tab := tabL tC3 noCh
def e115 : CtE
 | [.imm (.vals a) n _] => some ⟨.bool (badL (unK a)), [], some (okL a n)⟩
 | _ => none
def tC4 : List (Nat × CtE) := [(148, e148)]
def TC4 : Tab := tabL tC4 noCh
def srtB : List Cl → Bool
 | a :: b :: r => cond (ltC a b) (srtB (b :: r)) false
 | _ => true
def chkI (l : List Cl) : Int := cond (decide (1024 < l.length)) 3 (bI (badL l) 1 (bI (srtB l) 0 6))
def e61 : CtE
 | [.imm (.vals a) n _] => some ⟨.int .i64 (chkI (unK a)), [], some (okL a n ∧ okQ (unK a))⟩
 | _ => none
def tC5 : List (Nat × CtE) := [(115, e115), (79, e79)]
def TC5 : Tab := tabL tC5 noCh
def l61 (l : List Cl) : LpS L1 where
 ov b := [(3, .int .i64 b.i)]
 bk b := []
 rd S := match aget S.t 3 with
  | some (.int _ i) => some ⟨i⟩
  | _ => none
 pre b := ∃ n : Nat, b.i = ((n + 1 : Nat) : Int) ∧ (n + 1 ≤ l.length ∨ n = 0) ∧ srtB (l.drop n) = srtB l
 mu b := l.length + 1 - b.i.toNat
end Go.Proofs.YtmnaghfndigfkaaDoor.X
/-
 What union, common cells and difference compute.
-/
set_option maxRecDepth 1000000
set_option linter.unusedVariables false
namespace Go.Proofs.YtmnaghfndigfkaaDoor.X
open Go Go.Ab

def e99 : CtE
 | [.imm (.vals a) n _] => some ⟨.imm (.vals a) n (some n), [], some (okL a n)⟩
 | _ => none
/-! ### The heap of the range -/
structure L164 where (a b o : List AV) (n m k : Nat)
def okS (l : List Cl) : Prop := okQ l ∧ chkI l = 0
end Go.Proofs.YtmnaghfndigfkaaDoor.X
