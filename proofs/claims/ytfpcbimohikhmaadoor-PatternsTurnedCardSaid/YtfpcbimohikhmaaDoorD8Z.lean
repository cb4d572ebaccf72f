/-
 The law on the back side: contracts of valid patterns, the loop.
-/
import Derived.Test.YtfpcbimohikhmaaDoorD7Z
import Derived.Test.YtfpcbimohikhmaaDoorPBZ
set_option maxRecDepth 1000000
set_option linter.unusedVariables false
set_option linter.unusedSimpArgs false
namespace Go.Proofs.YtfpcbimohikhmaaDoor.X
open Go Go.Ab
noncomputable def e24v : CtE
 | [.agg [.int .i64 w, .int .i64 h, .imm (.vals a) n _]] => some ⟨.tup [.agg [.int .i64 w, .int .i64 h, .full 0 (trL w h (unC a)).length], .int .i64 0], [blkR (trL w h (unC a))], some (s4 w h ∧ okV w h a n)⟩
 | _ => none
def e25v : CtE
 | [.agg [.int .i64 w, .int .i64 h, .imm (.vals a) n _]] => some ⟨.tup [.agg [.int .i64 w, .int .i64 h, .full 0 (opL (unC a)).length], .int .i64 0], [blkR (opL (unC a))], some (s4 w h ∧ okV w h a n)⟩
 | _ => none
def cT4' : List (Nat × CtE) := (14, e14) :: (25, e25v) :: (22, e22z) :: (26, e26) :: (27, e27v) :: (28, e28) :: (18, e18) :: []
noncomputable def TB4 : Tab := tabL ((24, e24v) :: cT4') noCh
def l4 (l : List Cr) : LpS L1 where
 ov c := [(8, .int .i64 c.i)]
 bk c := []
 rd S := match aget S.t 8 with
  | some (.int _ i) => some ⟨i⟩
  | _ => none
 pre c := ∃ n : Nat, c.i = n ∧ n ≤ l.length
 mu c := l.length - c.i.toNat
end Go.Proofs.YtfpcbimohikhmaaDoor.X
