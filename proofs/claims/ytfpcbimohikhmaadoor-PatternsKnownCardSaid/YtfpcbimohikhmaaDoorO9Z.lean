/-
 The law on the back side: contracts of valid patterns, the loop.
-/
import Derived.Test.YtfpcbimohikhmaaDoorD11Z
import Derived.Test.YtfpcbimohikhmaaDoorPBZ
import Derived.KernelRfl

set_option maxRecDepth 1000000
set_option linter.unusedVariables false
set_option linter.unusedSimpArgs false
namespace Go.Proofs.YtfpcbimohikhmaaDoor.X
open Go Go.Ab
noncomputable def e24v : CtE
 | [.agg [.int .i64 w, .int .i64 h, .imm (.vals a) n _]] => some ⟨.tup [.agg [.int .i64 w, .int .i64 h, .full 0 (trL w h (unC a)).length], .int .i64 0], [blkR (trL w h (unC a))], some (s4 w h ∧ okV w h a n)⟩
 | _ => none
def e25v : CtE
 | [.agg [.int .i64 w, .int .i64 h, .imm (.vals a) n _]] => some ⟨.tup [.agg [.int .i64 w, .int .i64 h, .full 0 (opL (unC a)).length], .int .i64 0], [blkR (opL (unC a))], some (s4 w h ∧ okV w h a n)⟩
 | _ => none
def cT4' : List (Nat × CtE) := (14, e14) :: (25, e25v) :: (22, e22z) :: (26, e26) :: (27, e27v) :: (28, e28) :: (18, e18) :: []
noncomputable def TB4 : Tab := tabL ((24, e24v) :: cT4') noCh
def l4 (l : List Cr) : LpS L1 where
 ov c := [(8, .int .i64 c.i)]
 bk c := []
 rd S := match aget S.t 8 with
  | some (.int _ i) => some ⟨i⟩
  | _ => none
 pre c := ∃ n : Nat, c.i = n ∧ n ≤ l.length
 mu c := l.length - c.i.toNat
end Go.Proofs.YtfpcbimohikhmaaDoor.X

/-
 What is to be shown of the functions (made by a program).
-/
set_option maxRecDepth 1000000
set_option linter.unusedVariables false
namespace Go.Proofs.YtfpcbimohikhmaaDoor.X
open Go Go.Ab
open List IntKind

theorem ob_o4 (W H : Int) (ks : List Int) : fnP (TB4) G 10000 fe4 (.r [] 0 (.r [] 5 (.r [] 57 (.r [] 57 (.r [yO 348, yO 349, yO 350, yO 351, yO 352, yO 353, yO 354] 9147108879 (.ff (.r [] 0 (.lp (l4 (ofL W H ks)) [] [] (fun b => (.r [] 1 (.cnd
 (.r [(644, .auto, Dr.val (crV (ofL W H ks) b.i))] 257 (.r [] 7 (.r [(772, .auto, Dr.val (crV (opL (ofL W H ks)) b.i))] 257 (.ff (.r [] 0 .nil))))) (.r [] 57 (.r [] 57 (.r [] 130271119
 .nil)))))))))))))) ([patP W H ks]) ([.bool true]) ([]) = (
 (fun (x0 : List AV) =>
 (fun (x1 : List Cr) =>
 (fun (x2 : Nat) =>
 (0 ≤ W ∧ W ≤ 255 ∧ 0 ≤ H ∧ H ≤ 255 ∧ length ks = length ks ∧ u8s ks) ∧ length x1 = length x1 ∧ (s4 (dim W) (dim H) ∧ okV (dim W) (dim H) x0 x2) ∧ length x1 = length x1 ∧ (s4 (dim W) (dim H) ∧ okV (dim
 W) (dim H) x0 x2) ∧ length x1 = length x1 ∧ (s5 (dim W) (dim H) ∧ okA x0 x2) ∧ length (trL (dim W) (dim H) (unC x0)) = length (trL (dim W) (dim H) (unC x0)) ∧ length (rtL (dim W) (dim H) (unC x0)) =
 length (rtL (dim W) (dim H) (unC x0)) ∧ (okA (flatC (trL (dim W) (dim H) (unC x0))) (length (trL (dim W) (dim H) (unC x0))) ∧ okA (flatC (rtL (dim W) (dim H) (unC x0))) (length (rtL (dim W) (dim H)
 (unC x0))) ∧ dim W = dim W ∧ dim H = dim H ∧ unC (flatC (trL (dim W) (dim H) (unC x0))) = unC (flatC (rtL (dim W) (dim H) (unC x0)))) ∧ length (trL (dim W) (dim H) (unC x0)) = length (trL (dim W) (dim
 H) (unC x0)) ∧ (s5 (dim W) (dim H) ∧ okV (dim W) (dim H) (flatC (trL (dim W) (dim H) (unC x0))) (length (trL (dim W) (dim H) (unC x0)))) ∧ length (trL (dim W) (dim H) (unC x0)) = length (trL (dim W)
 (dim H) (unC x0)) ∧ length (trL (dim W) (dim H) (unC x0)) = length (trL (dim W) (dim H) (unC x0)) ∧ (!(↑(length (trL (dim W) (dim H) (unC x0))) : Int) != (↑(length (trL (dim W) (dim H) (unC x0))) :
 Int)) = true ∧ (!(↑(length (trL (dim W) (dim H) (unC x0))) : Int) != (↑(length (trL (dim W) (dim H) (unC x0))) : Int)) = true ∧ (!(↑(length (trL (dim W) (dim H) (unC x0))) : Int) != (↑(length (trL
 (dim W) (dim H) (unC x0))) : Int)) = true ∧ length (opL (unC x0)) = length (opL (unC x0)) ∧ (!(↑(length (trL (dim W) (dim H) (unC x0))) : Int) != (↑(length (trL (dim W) (dim H) (unC x0))) : Int)) =
 true ∧ (!(↑(length (trL (dim W) (dim H) (unC x0))) : Int) != (↑(length (trL (dim W) (dim H) (unC x0))) : Int)) = true ∧ (!(↑(length (trL (dim W) (dim H) (unC x0))) : Int) != (↑(length (trL (dim W)
 (dim H) (unC x0))) : Int)) = true ∧ length x1 = length x1 ∧ (!(↑(length (trL (dim W) (dim H) (unC x0))) : Int) != (↑(length (trL (dim W) (dim H) (unC x0))) : Int)) = true ∧ (bif (↑(length (trL (dim W)
 (dim H) (unC x0))) : Int) != (↑(length (trL (dim W) (dim H) (unC x0))) : Int) then true else true) = true ∧ (bif (↑(length (trL (dim W) (dim H) (unC x0))) : Int) != (↑(length (trL (dim W) (dim H) (unC
 x0))) : Int) then true else (↑(length (opL (unC x0))) : Int) != (↑x2 : Int)) = false ∧ 1 = 1 ∧ W = W ∧ H = H ∧ Cont.ints u8 ks = Cont.ints u8 ks ∧ length ks = length ks ∧ length x1 = length x1 ∧ flatC
 x1 = flatC x1 ∧ 1 = 1 ∧ dim W = dim W ∧ dim H = dim H ∧ length x1 = length x1 ∧ length (trL (dim W) (dim H) (unC x0)) = length (trL (dim W) (dim H) (unC x0)) ∧ length (trL (dim W) (dim H) (unC x0)) =
 length (trL (dim W) (dim H) (unC x0)) ∧ flatC (trL (dim W) (dim H) (unC x0)) = flatC (trL (dim W) (dim H) (unC x0)) ∧ 1 = 1 ∧ dim W = dim W ∧ dim H = dim H ∧ length (trL (dim W) (dim H) (unC x0)) =
 length (trL (dim W) (dim H) (unC x0)) ∧ length (opL (unC x0)) = length (opL (unC x0)) ∧ length (opL (unC x0)) = length (opL (unC x0)) ∧ flatC (opL (unC x0)) = flatC (opL (unC x0)) ∧ 1 = 1 ∧ dim W =
 dim W ∧ dim H = dim H ∧ length (opL (unC x0)) = length (opL (unC x0)) ∧ length (rtL (dim W) (dim H) (unC x0)) = length (rtL (dim W) (dim H) (unC x0)) ∧ flatC (rtL (dim W) (dim H) (unC x0)) = flatC
 (rtL (dim W) (dim H) (unC x0)) ∧ 0 = 0 ∧ 0 = 0 ∧ 0 = 0 ∧ 0 = 0 ∧ iI 0 = 0 ∧ (∃ (n : Nat), 0 = (↑n : Int) ∧ n ≤ length x1) ∧ ∀ (b : L1), (∃ (n : Nat), b.i = (↑n : Int) ∧ n ≤ length x1) → length x1 =
 length x1 ∧ (ltb b.i (↑x2 : Int) = true → leb 0 b.i = true ∧ ltb b.i (↑x2 : Int) = true ∧ length x1 = length x1 ∧ length x1 = length x1 ∧ x0[Int.toNat b.i * 3]? = some (AV.int i64 (cC x1 b.i)) ∧
 x0[Int.toNat b.i * 3 + 1]? = some (AV.int u8 (cE x1 b.i)) ∧ x0[Int.toNat b.i * 3 + 1 + 1]? = some (AV.int u8 (cK x1 b.i)) ∧ leb 0 b.i = true ∧ ltb b.i (↑(length (opL (unC x0))) : Int) = true ∧ length
 (opL (unC x0)) = length (opL (unC x0)) ∧ length (opL (unC x0)) = length (opL (unC x0)) ∧ (flatC (opL (unC x0)))[Int.toNat b.i * 3]? = some (AV.int i64 (cC (opL x1) b.i)) ∧ (flatC (opL (unC
 x0)))[Int.toNat b.i * 3 + 1]? = some (AV.int u8 (cE (opL x1) b.i)) ∧ (flatC (opL (unC x0)))[Int.toNat b.i * 3 + 1 + 1]? = some (AV.int u8 (cK (opL x1) b.i)) ∧ (!(cC (opL x1) b.i == cC x1 b.i && (cE
 (opL x1) b.i == cE x1 b.i && cK (opL x1) b.i == otK (cK x1 b.i)))) = false ∧ inR i64 (b.i + 1) = true ∧ 1 = 1 ∧ W = W ∧ H = H ∧ Cont.ints u8 ks = Cont.ints u8 ks ∧ length ks = length ks ∧ length x1 =
 length x1 ∧ flatC x1 = flatC x1 ∧ 1 = 1 ∧ dim W = dim W ∧ dim H = dim H ∧ length x1 = length x1 ∧ length (trL (dim W) (dim H) (unC x0)) = length (trL (dim W) (dim H) (unC x0)) ∧ length (trL (dim W)
 (dim H) (unC x0)) = length (trL (dim W) (dim H) (unC x0)) ∧ flatC (trL (dim W) (dim H) (unC x0)) = flatC (trL (dim W) (dim H) (unC x0)) ∧ 1 = 1 ∧ dim W = dim W ∧ dim H = dim H ∧ length (trL (dim W)
 (dim H) (unC x0)) = length (trL (dim W) (dim H) (unC x0)) ∧ length (opL (unC x0)) = length (opL (unC x0)) ∧ length (opL (unC x0)) = length (opL (unC x0)) ∧ flatC (opL (unC x0)) = flatC (opL (unC x0))
 ∧ 1 = 1 ∧ dim W = dim W ∧ dim H = dim H ∧ length (opL (unC x0)) = length (opL (unC x0)) ∧ length (rtL (dim W) (dim H) (unC x0)) = length (rtL (dim W) (dim H) (unC x0)) ∧ flatC (rtL (dim W) (dim H)
 (unC x0)) = flatC (rtL (dim W) (dim H) (unC x0)) ∧ 0 = 0 ∧ 0 = 0 ∧ 0 = 0 ∧ 0 = 0 ∧ b.i + 1 = b.i + 1 ∧ (∃ (n : Nat), b.i + 1 = (↑n : Int) ∧ n ≤ length x1) ∧ length x1 - Int.toNat (b.i + 1) < length x1
 - Int.toNat b.i ∧ True) ∧ (ltb b.i (↑x2 : Int) = false → length (trL (dim W) (dim H) (unC x0)) = length (trL (dim W) (dim H) (unC x0)) ∧ (s4 (dim W) (dim H) ∧ okV (dim W) (dim H) (flatC (trL (dim W)
 (dim H) (unC x0))) (length (trL (dim W) (dim H) (unC x0)))) ∧ length (opL (unC x0)) = length (opL (unC x0)) ∧ (s4 (dim W) (dim H) ∧ okV (dim W) (dim H) (flatC (opL (unC x0))) (length (opL (unC x0))))
 ∧ length (trL (dim W) (dim H) (unC (flatC (trL (dim W) (dim H) (unC x0))))) = length (trL (dim W) (dim H) (unC (flatC (trL (dim W) (dim H) (unC x0))))) ∧ length x1 = length x1 ∧ (okA (flatC (trL (dim
 W) (dim H) (unC (flatC (trL (dim W) (dim H) (unC x0)))))) (length (trL (dim W) (dim H) (unC (flatC (trL (dim W) (dim H) (unC x0)))))) ∧ okA x0 x2 ∧ dim W = dim W ∧ dim H = dim H ∧ unC (flatC (trL (dim
 W) (dim H) (unC (flatC (trL (dim W) (dim H) (unC x0)))))) = unC x0) ∧ length (opL (unC (flatC (opL (unC x0))))) = length (opL (unC (flatC (opL (unC x0))))) ∧ length x1 = length x1 ∧ (okA (flatC (opL
 (unC (flatC (opL (unC x0)))))) (length (opL (unC (flatC (opL (unC x0)))))) ∧ okA x0 x2 ∧ dim W = dim W ∧ dim H = dim H ∧ unC (flatC (opL (unC (flatC (opL (unC x0)))))) = unC x0) ∧ (0 ≤ W ∧ W ≤ 255 ∧ 0
 ≤ H ∧ H ≤ 255 ∧ length ks = length ks ∧ u8s ks) ∧ length x1 = length x1 ∧ length x1 = length x1 ∧ (okA x0 x2 ∧ okA x0 x2 ∧ dim W = dim W ∧ dim H = dim H ∧ unC x0 = unC x0) ∧ true = true ∧ True)) (length x1)) (ofL W H ks)) (flatC (ofL W H ks))) := by kernel_rfl

end Go.Proofs.YtfpcbimohikhmaaDoor.X
