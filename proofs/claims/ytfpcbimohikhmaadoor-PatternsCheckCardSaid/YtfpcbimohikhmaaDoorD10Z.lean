/-
 The law Check: contracts of patterns that are not valid.
-/
import Derived.Test.YtfpcbimohikhmaaDoorD7Z
set_option maxRecDepth 1000000
set_option linter.unusedVariables false
namespace Go.Proofs.YtfpcbimohikhmaaDoor.X
open Go Go.Ab

def chkP (w h : Int) (a : List AV) (n : Nat) : Prop := okA a n ∧ (unC a).length < 1000000 ∧ edg (unC a)
/-! ### Sheets that are valid -/
def e29t : CtE
 | [.agg [.int .i64 w, .int .i64 h]] => some ⟨.int .i64 1, [], some (okS w h = true)⟩
 | _ => none
def e31t : CtE
 | [.agg [.int .i64 w, .int .i64 h]] => some ⟨.tup [.agg [.int .i64 w, .int .i64 h, .nils], .int .i64 0], [], some (okS w h = true)⟩
 | _ => none
def e30t : CtE
 | [.agg [.int .i64 w, .int .i64 h, .imm (.vals a) n _]] => some ⟨.int .i64 (chkI w h (unC a)), [], some (chkP w h a n ∧ s5 w h)⟩
 | _ => none
def e16t : CtE
 | [.agg [.int .i64 w, .int .i64 h, .imm (.vals a) n _], .int .i64 i, .int .u8 e] => some ⟨.tup [.int .u8 0, .int .i64 (chkI w h (unC a))], [], some (chkP w h a n ∧ chkI w h (unC a) ≠ 0 ∧ 0 ≤ e ∧ e ≤ 255)⟩
 | _ => none
def e15t : CtE
 | [.agg [.int .i64 w, .int .i64 h, .imm (.vals a) n _], .int .i64 i, .int .u8 e, .int .u8 k] => some ⟨.tup [.agg [.int .i64 0, .int .i64 0, .imm (.vals []) 0 (some 0)], .int .i64 (chkI w h (unC a))], [], some (chkP w h a n ∧ chkI w h (unC a) ≠ 0 ∧ 0 ≤ e ∧ e ≤ 255)⟩
 | _ => none
def blkN : Blk := ⟨.vals [], 3, 0, some 0, none, true, false⟩
def e25t : CtE
 | [.agg [.int .i64 w, .int .i64 h, .imm (.vals a) n _]] => some ⟨.tup [.agg [.int .i64 0, .int .i64 0, .full 0 0], .int .i64 (chkI w h (unC a))], [blkN], some (chkP w h a n ∧ chkI w h (unC a) ≠ 0)⟩
 | _ => none
def e24t : CtE
 | [.agg [.int .i64 w, .int .i64 h, .imm (.vals a) n _]] => some ⟨.tup [.agg [.int .i64 0, .int .i64 0, .full 0 0], .int .i64 (chkI w h (unC a))], [blkN], some (chkP w h a n ∧ chkI w h (unC a) ≠ 0 ∧ (okS w h = true → s5 w h))⟩
 | _ => none
def cT5t' : List (Nat × CtE) := (29, e29t) :: (31, e31t) :: (30, e30t) :: (27, e27) :: (16, e16t) :: (15, e15t) :: (25, e25t) :: (24, e24t) :: (18, e18) :: []
def TB5t : Tab := tabL cT5t' noCh
/-! ### Sheets that are not valid -/
def e29f : CtE
 | [.agg [.int .i64 w, .int .i64 h]] => some ⟨.int .i64 0, [], some (okS w h = false)⟩
 | _ => none
def e31f : CtE
 | [.agg [.int .i64 w, .int .i64 h]] => some ⟨.tup [.agg [.int .i64 0, .int .i64 0, .nils], .int .i64 1], [], some (okS w h = false)⟩
 | _ => none
def e30f : CtE
 | [.agg [.int .i64 w, .int .i64 h, .imm (.vals a) n _]] => some ⟨.int .i64 1, [], some (chkP w h a n ∧ okS w h = false)⟩
 | _ => none
def e16f : CtE
 | [.agg [.int .i64 w, .int .i64 h, .imm (.vals a) n _], .int .i64 i, .int .u8 e] => some ⟨.tup [.int .u8 0, .int .i64 1], [], some (chkP w h a n ∧ okS w h = false ∧ 0 ≤ e ∧ e ≤ 255)⟩
 | _ => none
def e15f : CtE
 | [.agg [.int .i64 w, .int .i64 h, .imm (.vals a) n _], .int .i64 i, .int .u8 e, .int .u8 k] => some ⟨.tup [.agg [.int .i64 0, .int .i64 0, .imm (.vals []) 0 (some 0)], .int .i64 1], [], some (chkP w h a n ∧ okS w h = false ∧ 0 ≤ e ∧ e ≤ 255)⟩
 | _ => none
def e25f : CtE
 | [.agg [.int .i64 w, .int .i64 h, .imm (.vals a) n _]] => some ⟨.tup [.agg [.int .i64 0, .int .i64 0, .full 0 0], .int .i64 1], [blkN], some (chkP w h a n ∧ okS w h = false)⟩
 | _ => none
def e24f : CtE
 | [.agg [.int .i64 w, .int .i64 h, .imm (.vals a) n _]] => some ⟨.tup [.agg [.int .i64 0, .int .i64 0, .full 0 0], .int .i64 1], [blkN], some (chkP w h a n ∧ okS w h = false)⟩
 | _ => none
def cT5f' : List (Nat × CtE) := (29, e29f) :: (31, e31f) :: (30, e30f) :: (27, e30f) :: (16, e16f) :: (15, e15f) :: (25, e25f) :: (24, e24f) :: (18, e18) :: []
def TB5f : Tab := tabL cT5f' noCh
end Go.Proofs.YtfpcbimohikhmaaDoor.X
