/-
 What the check of sets computes.
-/
import Derived.Test.YtmnaghfndigfkaaDoorDAZ
set_option maxRecDepth 1000000
set_option linter.unusedVariables false
namespace Go.Proofs.YtmnaghfndigfkaaDoor.X
open Go Go.Ab

def okQ (l : List Cl) : Prop := ∀ x ∈ l, 0 ≤ x.2.2 ∧ x.2.2 ≤ 255
def e149 : CtE
 | [.agg [.int .i64 x, .int .i64 y, .int .u8 q]] => some ⟨.bool (!vldC (x, y, q)), [], none⟩
 | _ => none
def tC1 : List (Nat × CtE) := [(86, e86)]
def TC1 : Tab := tabL tC1 noCh
def idxW : List Cl → Int → Int
 | [], _ => -1
 | c :: r, i => cond (vldC c) (idxW r (i + 1)) i
def badL : List Cl → Bool
 | [] => false
 | c :: r => cond (vldC c) (badL r) true
def e183 : CtE
 | [.imm (.vals a) n _, .fn f [] []] => cond (Nat.beq f 149) (some ⟨.int .i64 (idxW (unK a) 0), [], some (okL a n)⟩) none
 | _ => none
def tC2 : List (Nat × CtE) := [(149, e149)]
def TC2 : Tab := tabL tC2 noCh
def l183 (l : List Cl) : LpS L1 where
 ov b := [(8, .int .i64 b.i)]
 bk b := []
 rd S := match aget S.t 8 with
  | some (.int _ i) => some ⟨i⟩
  | _ => none
 pre b := ∃ n : Nat, b.i = n ∧ n ≤ l.length ∧ idxW (l.drop n) n = idxW l 0
 mu b := l.length - b.i.toNat
def e148 : CtE
 | [.imm (.vals a) n _, .fn f [] []] => cond (Nat.beq f 149) (some ⟨.bool (badL (unK a)), [], some (okL a n)⟩) none
 | _ => none
def tC3 : List (Nat × CtE) := [(183, e183)]
def TC3 : Tab := tabL tC3 noCh
def e115 : CtE
 | [.imm (.vals a) n _] => some ⟨.bool (badL (unK a)), [], some (okL a n)⟩
 | _ => none
def tC4 : List (Nat × CtE) := [(148, e148)]
def TC4 : Tab := tabL tC4 noCh
def srtB : List Cl → Bool
 | a :: b :: r => cond (ltC a b) (srtB (b :: r)) false
 | _ => true
def chkI (l : List Cl) : Int := cond (decide (1024 < l.length)) 3 (bI (badL l) 1 (bI (srtB l) 0 6))
def e61 : CtE
 | [.imm (.vals a) n _] => some ⟨.int .i64 (chkI (unK a)), [], some (okL a n ∧ okQ (unK a))⟩
 | _ => none
def tC5 : List (Nat × CtE) := [(115, e115), (79, e79)]
def TC5 : Tab := tabL tC5 noCh
def l61 (l : List Cl) : LpS L1 where
 ov b := [(3, .int .i64 b.i)]
 bk b := []
 rd S := match aget S.t 3 with
  | some (.int _ i) => some ⟨i⟩
  | _ => none
 pre b := ∃ n : Nat, b.i = ((n + 1 : Nat) : Int) ∧ (n + 1 ≤ l.length ∨ n = 0) ∧ srtB (l.drop n) = srtB l
 mu b := l.length + 1 - b.i.toNat
end Go.Proofs.YtmnaghfndigfkaaDoor.X
