/-
 What is to be shown of the functions (made by a program).
-/
import Derived.Test.YtfpcbimohikhmaaDoorD8Z
import Derived.KernelRfl
set_option maxRecDepth 1000000
set_option linter.unusedVariables false
namespace Go.Proofs.YtfpcbimohikhmaaDoor.X
open Go Go.Ab
open List IntKind

theorem ob_o4 (W H : Int) (ks : List Int) : fnP (TB4) G 10000 fe4 (.r [] 0 (.r [] 5 (.r [] 57 (.r [] 57 (.r [yO 348, yO 349, yO 350, yO 351, yO 352, yO 353, yO 354] 9147108879 (.ff (.r [] 0 (.lp (l4 (ofL W H ks)) [] [] (fun b => (.r [] 1 (.cnd (.r [(644, .auto, Dr.val (crV (ofL W H ks) b.i))] 257 (.r [] 7 (.r [(772, .auto, Dr.val (crV (opL (ofL W H ks)) b.i))] 257 (.ff (.r [] 0 .nil))))) (.r [] 57 (.r [] 57 (.r [] 130271119 .nil)))))))))))))) ([patP W H ks]) ([.bool true]) ([]) = (
 (0 ≤ W ∧ W ≤ 255 ∧ 0 ≤ H ∧ H ≤ 255 ∧ length ks = length ks ∧ u8s ks) ∧ length (ofL W H ks) = length (ofL W H ks) ∧ (s4 (dim W) (dim H) ∧ okV (dim W) (dim H) (flatC (ofL W H ks)) (length (ofL W H ks)))
 ∧ length (ofL W H ks) = length (ofL W H ks) ∧ (s4 (dim W) (dim H) ∧ okV (dim W) (dim H) (flatC (ofL W H ks)) (length (ofL W H ks))) ∧ length (ofL W H ks) = length (ofL W H ks) ∧ (s5 (dim W) (dim H) ∧
 okA (flatC (ofL W H ks)) (length (ofL W H ks))) ∧ length (trL (dim W) (dim H) (unC (flatC (ofL W H ks)))) = length (trL (dim W) (dim H) (unC (flatC (ofL W H ks)))) ∧ length (rtL (dim W) (dim H) (unC
 (flatC (ofL W H ks)))) = length (rtL (dim W) (dim H) (unC (flatC (ofL W H ks)))) ∧ (okA (flatC (trL (dim W) (dim H) (unC (flatC (ofL W H ks))))) (length (trL (dim W) (dim H) (unC (flatC (ofL W H
 ks))))) ∧ okA (flatC (rtL (dim W) (dim H) (unC (flatC (ofL W H ks))))) (length (rtL (dim W) (dim H) (unC (flatC (ofL W H ks))))) ∧ dim W = dim W ∧ dim H = dim H ∧ unC (flatC (trL (dim W) (dim H) (unC
 (flatC (ofL W H ks))))) = unC (flatC (rtL (dim W) (dim H) (unC (flatC (ofL W H ks)))))) ∧ length (trL (dim W) (dim H) (unC (flatC (ofL W H ks)))) = length (trL (dim W) (dim H) (unC (flatC (ofL W H
 ks)))) ∧ (s5 (dim W) (dim H) ∧ okV (dim W) (dim H) (flatC (trL (dim W) (dim H) (unC (flatC (ofL W H ks))))) (length (trL (dim W) (dim H) (unC (flatC (ofL W H ks)))))) ∧ length (trL (dim W) (dim H)
 (unC (flatC (ofL W H ks)))) = length (trL (dim W) (dim H) (unC (flatC (ofL W H ks)))) ∧ length (trL (dim W) (dim H) (unC (flatC (ofL W H ks)))) = length (trL (dim W) (dim H) (unC (flatC (ofL W H
 ks)))) ∧ (!(↑(length (trL (dim W) (dim H) (unC (flatC (ofL W H ks))))) : Int) != (↑(length (trL (dim W) (dim H) (unC (flatC (ofL W H ks))))) : Int)) = true ∧ (!(↑(length (trL (dim W) (dim H) (unC
 (flatC (ofL W H ks))))) : Int) != (↑(length (trL (dim W) (dim H) (unC (flatC (ofL W H ks))))) : Int)) = true ∧ (!(↑(length (trL (dim W) (dim H) (unC (flatC (ofL W H ks))))) : Int) != (↑(length (trL
 (dim W) (dim H) (unC (flatC (ofL W H ks))))) : Int)) = true ∧ length (opL (unC (flatC (ofL W H ks)))) = length (opL (unC (flatC (ofL W H ks)))) ∧ (!(↑(length (trL (dim W) (dim H) (unC (flatC (ofL W H
 ks))))) : Int) != (↑(length (trL (dim W) (dim H) (unC (flatC (ofL W H ks))))) : Int)) = true ∧ (!(↑(length (trL (dim W) (dim H) (unC (flatC (ofL W H ks))))) : Int) != (↑(length (trL (dim W) (dim H)
 (unC (flatC (ofL W H ks))))) : Int)) = true ∧ (!(↑(length (trL (dim W) (dim H) (unC (flatC (ofL W H ks))))) : Int) != (↑(length (trL (dim W) (dim H) (unC (flatC (ofL W H ks))))) : Int)) = true ∧
 length (ofL W H ks) = length (ofL W H ks) ∧ (!(↑(length (trL (dim W) (dim H) (unC (flatC (ofL W H ks))))) : Int) != (↑(length (trL (dim W) (dim H) (unC (flatC (ofL W H ks))))) : Int)) = true ∧ (bif
 (↑(length (trL (dim W) (dim H) (unC (flatC (ofL W H ks))))) : Int) != (↑(length (trL (dim W) (dim H) (unC (flatC (ofL W H ks))))) : Int) then true else true) = true ∧ (bif (↑(length (trL (dim W) (dim
 H) (unC (flatC (ofL W H ks))))) : Int) != (↑(length (trL (dim W) (dim H) (unC (flatC (ofL W H ks))))) : Int) then true else (↑(length (opL (unC (flatC (ofL W H ks))))) : Int) != (↑(length (ofL W H
 ks)) : Int)) = false ∧ 1 = 1 ∧ W = W ∧ H = H ∧ Cont.ints u8 ks = Cont.ints u8 ks ∧ length ks = length ks ∧ length (ofL W H ks) = length (ofL W H ks) ∧ flatC (ofL W H ks) = flatC (ofL W H ks) ∧ 1 = 1 ∧
 dim W = dim W ∧ dim H = dim H ∧ length (ofL W H ks) = length (ofL W H ks) ∧ length (trL (dim W) (dim H) (unC (flatC (ofL W H ks)))) = length (trL (dim W) (dim H) (unC (flatC (ofL W H ks)))) ∧ length
 (trL (dim W) (dim H) (unC (flatC (ofL W H ks)))) = length (trL (dim W) (dim H) (unC (flatC (ofL W H ks)))) ∧ flatC (trL (dim W) (dim H) (unC (flatC (ofL W H ks)))) = flatC (trL (dim W) (dim H) (unC
 (flatC (ofL W H ks)))) ∧ 1 = 1 ∧ dim W = dim W ∧ dim H = dim H ∧ length (trL (dim W) (dim H) (unC (flatC (ofL W H ks)))) = length (trL (dim W) (dim H) (unC (flatC (ofL W H ks)))) ∧ length (opL (unC
 (flatC (ofL W H ks)))) = length (opL (unC (flatC (ofL W H ks)))) ∧ length (opL (unC (flatC (ofL W H ks)))) = length (opL (unC (flatC (ofL W H ks)))) ∧ flatC (opL (unC (flatC (ofL W H ks)))) = flatC
 (opL (unC (flatC (ofL W H ks)))) ∧ 1 = 1 ∧ dim W = dim W ∧ dim H = dim H ∧ length (opL (unC (flatC (ofL W H ks)))) = length (opL (unC (flatC (ofL W H ks)))) ∧ length (rtL (dim W) (dim H) (unC (flatC
 (ofL W H ks)))) = length (rtL (dim W) (dim H) (unC (flatC (ofL W H ks)))) ∧ flatC (rtL (dim W) (dim H) (unC (flatC (ofL W H ks)))) = flatC (rtL (dim W) (dim H) (unC (flatC (ofL W H ks)))) ∧ 0 = 0 ∧ 0
 = 0 ∧ 0 = 0 ∧ 0 = 0 ∧ iI 0 = 0 ∧ (∃ (n : Nat), 0 = (↑n : Int) ∧ n ≤ length (ofL W H ks)) ∧ ∀ (b : L1), (∃ (n : Nat), b.i = (↑n : Int) ∧ n ≤ length (ofL W H ks)) → length (ofL W H ks) = length (ofL W H
 ks) ∧ (ltb b.i (↑(length (ofL W H ks)) : Int) = true → leb 0 b.i = true ∧ ltb b.i (↑(length (ofL W H ks)) : Int) = true ∧ length (ofL W H ks) = length (ofL W H ks) ∧ length (ofL W H ks) = length (ofL
 W H ks) ∧ (flatC (ofL W H ks))[Int.toNat b.i * 3]? = some (AV.int i64 (cC (ofL W H ks) b.i)) ∧ (flatC (ofL W H ks))[Int.toNat b.i * 3 + 1]? = some (AV.int u8 (cE (ofL W H ks) b.i)) ∧ (flatC (ofL W H
 ks))[Int.toNat b.i * 3 + 1 + 1]? = some (AV.int u8 (cK (ofL W H ks) b.i)) ∧ leb 0 b.i = true ∧ ltb b.i (↑(length (opL (unC (flatC (ofL W H ks))))) : Int) = true ∧ length (opL (unC (flatC (ofL W H
 ks)))) = length (opL (unC (flatC (ofL W H ks)))) ∧ length (opL (unC (flatC (ofL W H ks)))) = length (opL (unC (flatC (ofL W H ks)))) ∧ (flatC (opL (unC (flatC (ofL W H ks)))))[Int.toNat b.i * 3]? =
 some (AV.int i64 (cC (opL (ofL W H ks)) b.i)) ∧ (flatC (opL (unC (flatC (ofL W H ks)))))[Int.toNat b.i * 3 + 1]? = some (AV.int u8 (cE (opL (ofL W H ks)) b.i)) ∧ (flatC (opL (unC (flatC (ofL W H
 ks)))))[Int.toNat b.i * 3 + 1 + 1]? = some (AV.int u8 (cK (opL (ofL W H ks)) b.i)) ∧ (!(cC (opL (ofL W H ks)) b.i == cC (ofL W H ks) b.i && (cE (opL (ofL W H ks)) b.i == cE (ofL W H ks) b.i && cK (opL
 (ofL W H ks)) b.i == otK (cK (ofL W H ks) b.i)))) = false ∧ inR i64 (b.i + 1) = true ∧ 1 = 1 ∧ W = W ∧ H = H ∧ Cont.ints u8 ks = Cont.ints u8 ks ∧ length ks = length ks ∧ length (ofL W H ks) = length
 (ofL W H ks) ∧ flatC (ofL W H ks) = flatC (ofL W H ks) ∧ 1 = 1 ∧ dim W = dim W ∧ dim H = dim H ∧ length (ofL W H ks) = length (ofL W H ks) ∧ length (trL (dim W) (dim H) (unC (flatC (ofL W H ks)))) =
 length (trL (dim W) (dim H) (unC (flatC (ofL W H ks)))) ∧ length (trL (dim W) (dim H) (unC (flatC (ofL W H ks)))) = length (trL (dim W) (dim H) (unC (flatC (ofL W H ks)))) ∧ flatC (trL (dim W) (dim H)
 (unC (flatC (ofL W H ks)))) = flatC (trL (dim W) (dim H) (unC (flatC (ofL W H ks)))) ∧ 1 = 1 ∧ dim W = dim W ∧ dim H = dim H ∧ length (trL (dim W) (dim H) (unC (flatC (ofL W H ks)))) = length (trL
 (dim W) (dim H) (unC (flatC (ofL W H ks)))) ∧ length (opL (unC (flatC (ofL W H ks)))) = length (opL (unC (flatC (ofL W H ks)))) ∧ length (opL (unC (flatC (ofL W H ks)))) = length (opL (unC (flatC (ofL
 W H ks)))) ∧ flatC (opL (unC (flatC (ofL W H ks)))) = flatC (opL (unC (flatC (ofL W H ks)))) ∧ 1 = 1 ∧ dim W = dim W ∧ dim H = dim H ∧ length (opL (unC (flatC (ofL W H ks)))) = length (opL (unC (flatC
 (ofL W H ks)))) ∧ length (rtL (dim W) (dim H) (unC (flatC (ofL W H ks)))) = length (rtL (dim W) (dim H) (unC (flatC (ofL W H ks)))) ∧ flatC (rtL (dim W) (dim H) (unC (flatC (ofL W H ks)))) = flatC
 (rtL (dim W) (dim H) (unC (flatC (ofL W H ks)))) ∧ 0 = 0 ∧ 0 = 0 ∧ 0 = 0 ∧ 0 = 0 ∧ b.i + 1 = b.i + 1 ∧ (∃ (n : Nat), b.i + 1 = (↑n : Int) ∧ n ≤ length (ofL W H ks)) ∧ length (ofL W H ks) - Int.toNat
 (b.i + 1) < length (ofL W H ks) - Int.toNat b.i ∧ True) ∧ (ltb b.i (↑(length (ofL W H ks)) : Int) = false → length (trL (dim W) (dim H) (unC (flatC (ofL W H ks)))) = length (trL (dim W) (dim H) (unC
 (flatC (ofL W H ks)))) ∧ (s4 (dim W) (dim H) ∧ okV (dim W) (dim H) (flatC (trL (dim W) (dim H) (unC (flatC (ofL W H ks))))) (length (trL (dim W) (dim H) (unC (flatC (ofL W H ks)))))) ∧ length (opL
 (unC (flatC (ofL W H ks)))) = length (opL (unC (flatC (ofL W H ks)))) ∧ (s4 (dim W) (dim H) ∧ okV (dim W) (dim H) (flatC (opL (unC (flatC (ofL W H ks))))) (length (opL (unC (flatC (ofL W H ks)))))) ∧
 length (trL (dim W) (dim H) (unC (flatC (trL (dim W) (dim H) (unC (flatC (ofL W H ks))))))) = length (trL (dim W) (dim H) (unC (flatC (trL (dim W) (dim H) (unC (flatC (ofL W H ks))))))) ∧ length (ofL
 W H ks) = length (ofL W H ks) ∧ (okA (flatC (trL (dim W) (dim H) (unC (flatC (trL (dim W) (dim H) (unC (flatC (ofL W H ks)))))))) (length (trL (dim W) (dim H) (unC (flatC (trL (dim W) (dim H) (unC
 (flatC (ofL W H ks)))))))) ∧ okA (flatC (ofL W H ks)) (length (ofL W H ks)) ∧ dim W = dim W ∧ dim H = dim H ∧ unC (flatC (trL (dim W) (dim H) (unC (flatC (trL (dim W) (dim H) (unC (flatC (ofL W H
 ks)))))))) = unC (flatC (ofL W H ks))) ∧ length (opL (unC (flatC (opL (unC (flatC (ofL W H ks))))))) = length (opL (unC (flatC (opL (unC (flatC (ofL W H ks))))))) ∧ length (ofL W H ks) = length (ofL W
 H ks) ∧ (okA (flatC (opL (unC (flatC (opL (unC (flatC (ofL W H ks)))))))) (length (opL (unC (flatC (opL (unC (flatC (ofL W H ks)))))))) ∧ okA (flatC (ofL W H ks)) (length (ofL W H ks)) ∧ dim W = dim W
 ∧ dim H = dim H ∧ unC (flatC (opL (unC (flatC (opL (unC (flatC (ofL W H ks)))))))) = unC (flatC (ofL W H ks))) ∧ (0 ≤ W ∧ W ≤ 255 ∧ 0 ≤ H ∧ H ≤ 255 ∧ length ks = length ks ∧ u8s ks) ∧ length (ofL W H
 ks) = length (ofL W H ks) ∧ length (ofL W H ks) = length (ofL W H ks) ∧ (okA (flatC (ofL W H ks)) (length (ofL W H ks)) ∧ okA (flatC (ofL W H ks)) (length (ofL W H ks)) ∧ dim W = dim W ∧ dim H = dim H
 ∧ unC (flatC (ofL W H ks)) = unC (flatC (ofL W H ks))) ∧ true = true ∧ True)) := by kernel_rfl

end Go.Proofs.YtfpcbimohikhmaaDoor.X
