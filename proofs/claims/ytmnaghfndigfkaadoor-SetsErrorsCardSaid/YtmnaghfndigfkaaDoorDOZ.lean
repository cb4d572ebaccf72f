/-
 The law on errors: its contracts.
-/
import Derived.Test.YtmnaghfndigfkaaDoorDNZ
import Derived.Test.YtmnaghfndigfkaaDoorDIZ
import Derived.Test.YtmnaghfndigfkaaDoorDJZ
set_option maxRecDepth 1000000
set_option linter.unusedVariables false
namespace Go.Proofs.YtmnaghfndigfkaaDoor.X
open Go Go.Ab

/-! ### The reference's check -/
def e52 : CtE
 | [.imm (.vals a) n _] => some ⟨.int .i64 (chkI (unK a)), [], some (okL a n)⟩
 | _ => none
def tO52 : List (Nat × CtE) := [(41, e41), (103, e103)]
def TO52 : Tab := tabL tO52 noCh
def l52 (l : List Cl) : LpS L1 where
 ov b := [(3, .int .i64 b.i)]
 bk b := []
 rd S := match aget S.t 3 with
  | some (.int _ i) => some ⟨i⟩
  | _ => none
 pre b := ∃ n : Nat, b.i = n ∧ n ≤ l.length ∧ badL (l.drop n) = badL l
 mu b := l.length - b.i.toNat
def m52 (l : List Cl) : LpS L1 where
 ov b := [(4, .int .i64 b.i)]
 bk b := []
 rd S := match aget S.t 4 with
  | some (.int _ i) => some ⟨i⟩
  | _ => none
 pre b := ∃ n : Nat, b.i = ((n + 1 : Nat) : Int) ∧ (n + 1 ≤ l.length ∨ n = 0) ∧ srtB (l.drop n) = srtB l
 mu b := l.length + 1 - b.i.toNat
/-! ### Union, common cells, difference of any lists -/
def mgX (f : Nat) (a b : List Cl) : List Cl := cond (bothI a b == 0) (mrg f a b) []
def e88e : CtE
 | [.imm (.vals a) n _, .imm (.vals b) m _, .fn f [] []] => some ⟨.tup [.imm (.vals []) 0 (some 0), .int .i64 (bothI (unK a) (unK b))], [], some ((okL a n ∧ okQ (unK a)) ∧ (okL b m ∧ okQ (unK b)) ∧ bothI (unK a) (unK b) ≠ 0)⟩
 | _ => none
def tO88 : List (Nat × CtE) := [(130, e130)]
def TO88 : Tab := tabL tO88 noCh
def tO32 : List (Nat × CtE) := [(88, e88e)]
def TO32 : Tab := tabL tO32 noCh
def eMgT (f : Nat) : CtE
 | [.imm (.vals a) n _, .imm (.vals b) m _] => some ⟨.tup [.imm (.vals (flatK (mgX f (unK a) (unK b)))) (mgX f (unK a) (unK b)).length (some (mgX f (unK a) (unK b)).length), .int .i64 (bothI (unK a) (unK b))], [], some ((okL a n ∧ okQ (unK a)) ∧ (okL b m ∧ okQ (unK b)) ∧ (bothI (unK a) (unK b) = 0 → (mrg f (unK a) (unK b)).length ≤ 1024))⟩
 | _ => none
def e53 : CtE
 | [] => some ⟨.agg [.int .u8 0, .int .i64 0, .int .i64 0], [], none⟩
 | _ => none
/-! ### The law -/
noncomputable def tO12 : List (Nat × CtE) := [(48, e48), (52, e52), (32, eMgT 89), (33, eMgT 90), (34, eMgT 91), (53, e53), (38, e38i), (44, e44), (42, e42), (43, e43), (49, e49), (37, e37)]
noncomputable def TO12 : Tab := tabL tO12 noCh
structure J12 where (a : List AV) (n : Nat) (e : Int)
def smL (x : List Cl) : Prop := okQ x ∧ x.length < 1000000 ∧ (x.length ≤ 40 ∨ chkI x ≠ 0)
def j12 (x : List Cl) : LpS J12 where
 ov v := [(0, .imm (.vals v.a) v.n none), (5, .int .i64 v.e)]
 bk v := []
 rd S := match aget S.t 0, aget S.t 5 with
  | some (.imm (.vals a) n _), some (.int _ e) => some ⟨a, n, e⟩
  | _, _ => none
 pre v := v.a = flatK x ∧ v.n = x.length ∧ smL x ∧ v.e = chkI x
 mu v := 0
def zerL : List Cl := List.replicate 1025 (0, 0, 0)
def zerA (Z : List Cl) (o : List AV) : Prop := o = flatK Z
structure Z12 where (o : List AV)
/-- The row of zeros, by a name. -/
def z12 (Z : List Cl) : LpS Z12 where
 ov v := [(0, .full 320 1025)]
 bk v := [(320, .blk ⟨.vals v.o, 3, 1025, some 1025, some false, true, false⟩)]
 rd S := match aget S.h 320 with
  | some (.blk ⟨.vals o, _, _, _, _, _, _⟩) => some ⟨o⟩
  | _ => none
 pre v := zerA Z v.o
 mu v := 0
structure K12 where (h : Int)
def k12 (e : Int) : LpS K12 where
 ov v := [(22, .int .i64 v.h)]
 bk v := []
 rd S := match aget S.t 22 with
  | some (.int _ h) => some ⟨h⟩
  | _ => none
 pre v := v.h = e
 mu v := 0
end Go.Proofs.YtmnaghfndigfkaaDoor.X
