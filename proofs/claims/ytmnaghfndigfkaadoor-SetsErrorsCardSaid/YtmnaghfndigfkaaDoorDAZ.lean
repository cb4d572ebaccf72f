/-
 What the functions on cells and lists of cells compute.
-/
import Derived.Test.YtmnaghfndigfkaaDoorDZ
import Derived.Test.YtmnaghfndigfkaaDoorAb7
set_option maxRecDepth 1000000
set_option linter.unusedVariables false
namespace Go.Proofs.YtmnaghfndigfkaaDoor.X
open Go Go.Ab

def bI (b : Bool) (x y : Int) : Int := cond b x y
def RCl : RowS Cl where
 k := 3
 row x := [(.i64, x.1), (.i64, x.2.1), (.u8, x.2.2)]
 len _ := rfl
def flatK (l : List Cl) : List AV := l.flatMap RCl.av
def unK : List AV → List Cl
 | .int _ x :: .int _ y :: .int _ q :: r => (x, y, q) :: unK r
 | _ => []
def okL (a : List AV) (n : Nat) : Prop := a = flatK (unK a) ∧ n = (unK a).length ∧ (unK a).length < 1000000
def gK (l : List Cl) (i : Int) : Cl := l[i.toNat]?.getD (0, 0, 0)
def kX (l : List Cl) (i : Int) : Int := (gK l i).1
def kY (l : List Cl) (i : Int) : Int := (gK l i).2.1
def kQ (l : List Cl) (i : Int) : Int := (gK l i).2.2
def kV (l : List Cl) (i : Int) : List AV := [.int .i64 (kX l i), .int .i64 (kY l i), .int .u8 (kQ l i)]
def kC (l : List Cl) (i : Int) : Cl := (kX l i, kY l i, kQ l i)
/-- A list of cells, given by value. -/
def cls (l : List Cl) : AV := .imm (.vals (flatK l)) l.length none
def ltC (a b : Cl) : Bool := decide (a.2.1 < b.2.1 ∨ (a.2.1 = b.2.1 ∧ (a.1 < b.1 ∨ (a.1 = b.1 ∧ a.2.2 < b.2.2))))
def eqCl (a b : Cl) : Bool := a.1 == b.1 && (a.2.1 == b.2.1 && a.2.2 == b.2.2)
def vldC (c : Cl) : Bool := decide (-4096 ≤ c.1 ∧ c.1 ≤ 4096 ∧ -4096 ≤ c.2.1 ∧ c.2.1 ≤ 4096 ∧ c.2.2 ≤ 3)
def cmpI (a b : Int) : Int := if a < b then -1 else if b < a then 1 else 0
def ord3 (a b c d e f : Int) : Int := if cmpI a b ≠ 0 then cmpI a b else if cmpI c d ≠ 0 then cmpI c d else cmpI e f
def cmpC (a b : Cl) : Int := ord3 a.2.1 b.2.1 a.1 b.1 a.2.2 b.2.2
def e48 : CtE
 | [.int .i64 x, .int .i64 y, .int .u8 q] => some ⟨.agg [.int .i64 x, .int .i64 y, .int .u8 q], [], none⟩
 | _ => none
def e103 : CtE
 | [.agg [.int .i64 x, .int .i64 y, .int .u8 q], .agg [.int .i64 x', .int .i64 y', .int .u8 q']] => some ⟨.int .i64 (bI (ltC (x, y, q) (x', y', q')) 1 0), [], none⟩
 | _ => none
def e41 : CtE
 | [.agg [.int .i64 x, .int .i64 y, .int .u8 q]] => some ⟨.int .i64 (bI (vldC (x, y, q)) 1 0), [], none⟩
 | _ => none
def e86 : CtE
 | [.agg [.int .i64 x, .int .i64 y, .int .u8 q]] => some ⟨.int .i64 (bI (vldC (x, y, q)) 0 1), [], none⟩
 | _ => none
def e202 : CtE
 | [.int .i64 x] => some ⟨.bool false, [], none⟩
 | _ => none
def e163 : CtE
 | [.int .i64 x, .int .i64 y] => some ⟨.int .i64 (cmpI x y), [], none⟩
 | _ => none
def e127 : CtE
 | [.imm (.vals [.int .i64 a, .int .i64 b, .int .i64 c, .int .i64 d, .int .i64 e, .int .i64 f]) n _] => some ⟨.int .i64 (ord3 a b c d e f), [], some (n = 3)⟩
 | _ => none
def e79 : CtE
 | [.agg [.int .i64 x, .int .i64 y, .int .u8 q], .agg [.int .i64 x', .int .i64 y', .int .u8 q']] => some ⟨.int .i64 (cmpC (x, y, q) (x', y', q')), [], some (0 ≤ q ∧ q ≤ 255 ∧ 0 ≤ q' ∧ q' ≤ 255)⟩
 | _ => none
def tB1 : List (Nat × CtE) := [(202, e202)]
def TB1 : Tab := tabL tB1 noCh
def tB2 : List (Nat × CtE) := (163, e163) :: tB1
def TB2 : Tab := tabL tB2 noCh
def tB3 : List (Nat × CtE) := (127, e127) :: tB2
def TB3 : Tab := tabL tB3 noCh
/-! ### Lists -/
def hasL : List Cl → Cl → Bool
 | [], _ => false
 | a :: r, c => cond (eqCl a c) true (hasL r c)
structure L1 where (i : Int)
/-! ### Add, Of -/
structure L92 where (i d : Int) (o : List AV) (n : Nat)
structure L62 where (i : Int) (o : List AV) (n : Nat)
/-! ### The set of plain data -/
structure L31 where (i : Int) (o : List AV) (n : Nat)
def p3 (a b c : Int) (i : Int) : Int := if i = 0 then a else if i = 1 then b else c
def l127 (a b c d e f : Int) : LpS L1 where
 ov q := [(8, .int .i64 q.i)]
 bk q := []
 rd S := match aget S.t 8 with
  | some (.int _ i) => some ⟨i⟩
  | _ => none
 pre q := (0 ≤ q.i ∧ q.i ≤ 3) ∧ (1 ≤ q.i → cmpI a b = 0) ∧ (2 ≤ q.i → cmpI c d = 0) ∧ (3 ≤ q.i → cmpI e f = 0)
 mu q := 3 - q.i.toNat
end Go.Proofs.YtmnaghfndigfkaaDoor.X
