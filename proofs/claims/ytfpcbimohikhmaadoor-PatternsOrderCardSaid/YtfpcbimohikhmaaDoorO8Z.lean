/-
 What is to be shown of the functions (made by a program).
-/
import Derived.Test.YtfpcbimohikhmaaDoorD7Z
import Derived.KernelRfl
set_option maxRecDepth 1000000
set_option linter.unusedVariables false
namespace Go.Proofs.YtfpcbimohikhmaaDoor.X
open Go Go.Ab
open List IntKind

theorem ob_o6 (W H a b k l : Int) (ks : List Int) : fnP (TB6) G 10000 fe6 (.r [] 0 (.r [] 5 (.r [] 1 (.r [(264, .auto, Dr.val
 [AV.int i64 (uC (units (dim W) (dim H)) (Int.tmod a (↑(length (units (dim W) (dim H))) : Int))),
  AV.int u8 (uE (units (dim W) (dim H)) (Int.tmod a (↑(length (units (dim W) (dim H))) : Int)))]), (273, .auto, Dr.val
 [AV.int i64 (uC (units (dim W) (dim H)) (Int.tmod b (↑(length (units (dim W) (dim H))) : Int))),
  AV.int u8 (uE (units (dim W) (dim H)) (Int.tmod b (↑(length (units (dim W) (dim H))) : Int)))])] 3152903 (.r [] 255 (.r [] 231 (.r [] 119 (.r [] 231 (.r [] 119 (.r [] 63 (.lit (.r [] 3 (.cnd (.r [] 2011 .nil) (.r [] 2011 .nil)))))))))))))) ([patP W H ks, .agg [.int .u8 a, .int .u8 b], .agg [.int .u8 k, .int .u8 l]]) ([.bool true]) ([]) = (
 (0 ≤ W ∧ W ≤ 255 ∧ 0 ≤ H ∧ H ≤ 255 ∧ length ks = length ks ∧ u8s ks) ∧ s5 (dim W) (dim H) ∧ inR i64 a = true ∧ (!(↑(length (units (dim W) (dim H))) : Int) == 0) = true ∧ leb 0 (Int.tmod a (↑(length
 (units (dim W) (dim H))) : Int)) = true ∧ ltb (Int.tmod a (↑(length (units (dim W) (dim H))) : Int)) (↑(length (units (dim W) (dim H))) : Int) = true ∧ ltn 0 (Cont.size (Cont.vals (flatU (units (dim
 W) (dim H))))) = true ∧ (drop (Int.toNat (Int.tmod a (↑(length (units (dim W) (dim H))) : Int)) * 2) (flatU (units (dim W) (dim H))))[0]? = some (AV.int i64 (uC (units (dim W) (dim H)) (Int.tmod a
 (↑(length (units (dim W) (dim H))) : Int)))) ∧ (drop (Int.toNat (Int.tmod a (↑(length (units (dim W) (dim H))) : Int)) * 2) (flatU (units (dim W) (dim H))))[1]? = some (AV.int u8 (uE (units (dim W)
 (dim H)) (Int.tmod a (↑(length (units (dim W) (dim H))) : Int)))) ∧ inR i64 b = true ∧ (!(↑(length (units (dim W) (dim H))) : Int) == 0) = true ∧ leb 0 (Int.tmod b (↑(length (units (dim W) (dim H))) :
 Int)) = true ∧ ltb (Int.tmod b (↑(length (units (dim W) (dim H))) : Int)) (↑(length (units (dim W) (dim H))) : Int) = true ∧ ltn 0 (Cont.size (Cont.vals (flatU (units (dim W) (dim H))))) = true ∧
 (drop (Int.toNat (Int.tmod b (↑(length (units (dim W) (dim H))) : Int)) * 2) (flatU (units (dim W) (dim H))))[0]? = some (AV.int i64 (uC (units (dim W) (dim H)) (Int.tmod b (↑(length (units (dim W)
 (dim H))) : Int)))) ∧ (drop (Int.toNat (Int.tmod b (↑(length (units (dim W) (dim H))) : Int)) * 2) (flatU (units (dim W) (dim H))))[1]? = some (AV.int u8 (uE (units (dim W) (dim H)) (Int.tmod b
 (↑(length (units (dim W) (dim H))) : Int)))) ∧ length (ofL W H ks) = length (ofL W H ks) ∧ (s5 (dim W) (dim H) ∧ okV (dim W) (dim H) (flatC (ofL W H ks)) (length (ofL W H ks)) ∧ 3 * uC (units (dim W)
 (dim H)) (Int.tmod a (↑(length (units (dim W) (dim H))) : Int)) + uE (units (dim W) (dim H)) (Int.tmod a (↑(length (units (dim W) (dim H))) : Int)) ∈ units (dim W) (dim H) ∧ 0 ≤ uE (units (dim W) (dim
 H)) (Int.tmod a (↑(length (units (dim W) (dim H))) : Int)) ∧ uE (units (dim W) (dim H)) (Int.tmod a (↑(length (units (dim W) (dim H))) : Int)) ≤ 2 ∧ 0 ≤ Int.tmod k 4 ∧ Int.tmod k 4 ≤ 3) ∧ (s5 (dim W)
 (dim H) ∧ okV (dim W) (dim H) (flatC (setR (3 * uC (units (dim W) (dim H)) (Int.tmod a (↑(length (units (dim W) (dim H))) : Int)) + uE (units (dim W) (dim H)) (Int.tmod a (↑(length (units (dim W) (dim
 H))) : Int))) (Int.tmod k 4) (unC (flatC (ofL W H ks))))) (length (setR (3 * uC (units (dim W) (dim H)) (Int.tmod a (↑(length (units (dim W) (dim H))) : Int)) + uE (units (dim W) (dim H)) (Int.tmod a
 (↑(length (units (dim W) (dim H))) : Int))) (Int.tmod k 4) (unC (flatC (ofL W H ks))))) ∧ 3 * uC (units (dim W) (dim H)) (Int.tmod b (↑(length (units (dim W) (dim H))) : Int)) + uE (units (dim W) (dim
 H)) (Int.tmod b (↑(length (units (dim W) (dim H))) : Int)) ∈ units (dim W) (dim H) ∧ 0 ≤ uE (units (dim W) (dim H)) (Int.tmod b (↑(length (units (dim W) (dim H))) : Int)) ∧ uE (units (dim W) (dim H))
 (Int.tmod b (↑(length (units (dim W) (dim H))) : Int)) ≤ 2 ∧ 0 ≤ Int.tmod l 4 ∧ Int.tmod l 4 ≤ 3) ∧ length (ofL W H ks) = length (ofL W H ks) ∧ (s5 (dim W) (dim H) ∧ okV (dim W) (dim H) (flatC (ofL W
 H ks)) (length (ofL W H ks)) ∧ 3 * uC (units (dim W) (dim H)) (Int.tmod b (↑(length (units (dim W) (dim H))) : Int)) + uE (units (dim W) (dim H)) (Int.tmod b (↑(length (units (dim W) (dim H))) : Int))
 ∈ units (dim W) (dim H) ∧ 0 ≤ uE (units (dim W) (dim H)) (Int.tmod b (↑(length (units (dim W) (dim H))) : Int)) ∧ uE (units (dim W) (dim H)) (Int.tmod b (↑(length (units (dim W) (dim H))) : Int)) ≤ 2
 ∧ 0 ≤ Int.tmod l 4 ∧ Int.tmod l 4 ≤ 3) ∧ (s5 (dim W) (dim H) ∧ okV (dim W) (dim H) (flatC (setR (3 * uC (units (dim W) (dim H)) (Int.tmod b (↑(length (units (dim W) (dim H))) : Int)) + uE (units (dim
 W) (dim H)) (Int.tmod b (↑(length (units (dim W) (dim H))) : Int))) (Int.tmod l 4) (unC (flatC (ofL W H ks))))) (length (setR (3 * uC (units (dim W) (dim H)) (Int.tmod b (↑(length (units (dim W) (dim
 H))) : Int)) + uE (units (dim W) (dim H)) (Int.tmod b (↑(length (units (dim W) (dim H))) : Int))) (Int.tmod l 4) (unC (flatC (ofL W H ks))))) ∧ 3 * uC (units (dim W) (dim H)) (Int.tmod a (↑(length
 (units (dim W) (dim H))) : Int)) + uE (units (dim W) (dim H)) (Int.tmod a (↑(length (units (dim W) (dim H))) : Int)) ∈ units (dim W) (dim H) ∧ 0 ≤ uE (units (dim W) (dim H)) (Int.tmod a (↑(length
 (units (dim W) (dim H))) : Int)) ∧ uE (units (dim W) (dim H)) (Int.tmod a (↑(length (units (dim W) (dim H))) : Int)) ≤ 2 ∧ 0 ≤ Int.tmod k 4 ∧ Int.tmod k 4 ≤ 3) ∧ ((uC (units (dim W) (dim H)) (Int.tmod
 a (↑(length (units (dim W) (dim H))) : Int)) == uC (units (dim W) (dim H)) (Int.tmod b (↑(length (units (dim W) (dim H))) : Int)) && uE (units (dim W) (dim H)) (Int.tmod a (↑(length (units (dim W)
 (dim H))) : Int)) == uE (units (dim W) (dim H)) (Int.tmod b (↑(length (units (dim W) (dim H))) : Int))) = true → (okA (flatC (setR (3 * uC (units (dim W) (dim H)) (Int.tmod b (↑(length (units (dim W)
 (dim H))) : Int)) + uE (units (dim W) (dim H)) (Int.tmod b (↑(length (units (dim W) (dim H))) : Int))) (Int.tmod l 4) (unC (flatC (setR (3 * uC (units (dim W) (dim H)) (Int.tmod a (↑(length (units
 (dim W) (dim H))) : Int)) + uE (units (dim W) (dim H)) (Int.tmod a (↑(length (units (dim W) (dim H))) : Int))) (Int.tmod k 4) (unC (flatC (ofL W H ks)))))))) (length (setR (3 * uC (units (dim W) (dim
 H)) (Int.tmod b (↑(length (units (dim W) (dim H))) : Int)) + uE (units (dim W) (dim H)) (Int.tmod b (↑(length (units (dim W) (dim H))) : Int))) (Int.tmod l 4) (unC (flatC (setR (3 * uC (units (dim W)
 (dim H)) (Int.tmod a (↑(length (units (dim W) (dim H))) : Int)) + uE (units (dim W) (dim H)) (Int.tmod a (↑(length (units (dim W) (dim H))) : Int))) (Int.tmod k 4) (unC (flatC (ofL W H ks)))))))) ∧
 okA (flatC (setR (3 * uC (units (dim W) (dim H)) (Int.tmod b (↑(length (units (dim W) (dim H))) : Int)) + uE (units (dim W) (dim H)) (Int.tmod b (↑(length (units (dim W) (dim H))) : Int))) (Int.tmod l
 4) (unC (flatC (ofL W H ks))))) (length (setR (3 * uC (units (dim W) (dim H)) (Int.tmod b (↑(length (units (dim W) (dim H))) : Int)) + uE (units (dim W) (dim H)) (Int.tmod b (↑(length (units (dim W)
 (dim H))) : Int))) (Int.tmod l 4) (unC (flatC (ofL W H ks))))) ∧ dim W = dim W ∧ dim H = dim H ∧ unC (flatC (setR (3 * uC (units (dim W) (dim H)) (Int.tmod b (↑(length (units (dim W) (dim H))) : Int))
 + uE (units (dim W) (dim H)) (Int.tmod b (↑(length (units (dim W) (dim H))) : Int))) (Int.tmod l 4) (unC (flatC (setR (3 * uC (units (dim W) (dim H)) (Int.tmod a (↑(length (units (dim W) (dim H))) :
 Int)) + uE (units (dim W) (dim H)) (Int.tmod a (↑(length (units (dim W) (dim H))) : Int))) (Int.tmod k 4) (unC (flatC (ofL W H ks)))))))) = unC (flatC (setR (3 * uC (units (dim W) (dim H)) (Int.tmod b
 (↑(length (units (dim W) (dim H))) : Int)) + uE (units (dim W) (dim H)) (Int.tmod b (↑(length (units (dim W) (dim H))) : Int))) (Int.tmod l 4) (unC (flatC (ofL W H ks)))))) ∧ (okA (flatC (setR (3 * uC
 (units (dim W) (dim H)) (Int.tmod a (↑(length (units (dim W) (dim H))) : Int)) + uE (units (dim W) (dim H)) (Int.tmod a (↑(length (units (dim W) (dim H))) : Int))) (Int.tmod k 4) (unC (flatC (setR (3
 * uC (units (dim W) (dim H)) (Int.tmod b (↑(length (units (dim W) (dim H))) : Int)) + uE (units (dim W) (dim H)) (Int.tmod b (↑(length (units (dim W) (dim H))) : Int))) (Int.tmod l 4) (unC (flatC (ofL
 W H ks)))))))) (length (setR (3 * uC (units (dim W) (dim H)) (Int.tmod a (↑(length (units (dim W) (dim H))) : Int)) + uE (units (dim W) (dim H)) (Int.tmod a (↑(length (units (dim W) (dim H))) : Int)))
 (Int.tmod k 4) (unC (flatC (setR (3 * uC (units (dim W) (dim H)) (Int.tmod b (↑(length (units (dim W) (dim H))) : Int)) + uE (units (dim W) (dim H)) (Int.tmod b (↑(length (units (dim W) (dim H))) :
 Int))) (Int.tmod l 4) (unC (flatC (ofL W H ks)))))))) ∧ okA (flatC (setR (3 * uC (units (dim W) (dim H)) (Int.tmod a (↑(length (units (dim W) (dim H))) : Int)) + uE (units (dim W) (dim H)) (Int.tmod a
 (↑(length (units (dim W) (dim H))) : Int))) (Int.tmod k 4) (unC (flatC (ofL W H ks))))) (length (setR (3 * uC (units (dim W) (dim H)) (Int.tmod a (↑(length (units (dim W) (dim H))) : Int)) + uE (units
 (dim W) (dim H)) (Int.tmod a (↑(length (units (dim W) (dim H))) : Int))) (Int.tmod k 4) (unC (flatC (ofL W H ks))))) ∧ dim W = dim W ∧ dim H = dim H ∧ unC (flatC (setR (3 * uC (units (dim W) (dim H))
 (Int.tmod a (↑(length (units (dim W) (dim H))) : Int)) + uE (units (dim W) (dim H)) (Int.tmod a (↑(length (units (dim W) (dim H))) : Int))) (Int.tmod k 4) (unC (flatC (setR (3 * uC (units (dim W) (dim
 H)) (Int.tmod b (↑(length (units (dim W) (dim H))) : Int)) + uE (units (dim W) (dim H)) (Int.tmod b (↑(length (units (dim W) (dim H))) : Int))) (Int.tmod l 4) (unC (flatC (ofL W H ks)))))))) = unC
 (flatC (setR (3 * uC (units (dim W) (dim H)) (Int.tmod a (↑(length (units (dim W) (dim H))) : Int)) + uE (units (dim W) (dim H)) (Int.tmod a (↑(length (units (dim W) (dim H))) : Int))) (Int.tmod k 4)
 (unC (flatC (ofL W H ks)))))) ∧ true = true ∧ True) ∧ ((uC (units (dim W) (dim H)) (Int.tmod a (↑(length (units (dim W) (dim H))) : Int)) == uC (units (dim W) (dim H)) (Int.tmod b (↑(length (units
 (dim W) (dim H))) : Int)) && uE (units (dim W) (dim H)) (Int.tmod a (↑(length (units (dim W) (dim H))) : Int)) == uE (units (dim W) (dim H)) (Int.tmod b (↑(length (units (dim W) (dim H))) : Int))) =
 false → (okA (flatC (setR (3 * uC (units (dim W) (dim H)) (Int.tmod b (↑(length (units (dim W) (dim H))) : Int)) + uE (units (dim W) (dim H)) (Int.tmod b (↑(length (units (dim W) (dim H))) : Int)))
 (Int.tmod l 4) (unC (flatC (setR (3 * uC (units (dim W) (dim H)) (Int.tmod a (↑(length (units (dim W) (dim H))) : Int)) + uE (units (dim W) (dim H)) (Int.tmod a (↑(length (units (dim W) (dim H))) :
 Int))) (Int.tmod k 4) (unC (flatC (ofL W H ks)))))))) (length (setR (3 * uC (units (dim W) (dim H)) (Int.tmod b (↑(length (units (dim W) (dim H))) : Int)) + uE (units (dim W) (dim H)) (Int.tmod b
 (↑(length (units (dim W) (dim H))) : Int))) (Int.tmod l 4) (unC (flatC (setR (3 * uC (units (dim W) (dim H)) (Int.tmod a (↑(length (units (dim W) (dim H))) : Int)) + uE (units (dim W) (dim H))
 (Int.tmod a (↑(length (units (dim W) (dim H))) : Int))) (Int.tmod k 4) (unC (flatC (ofL W H ks)))))))) ∧ okA (flatC (setR (3 * uC (units (dim W) (dim H)) (Int.tmod a (↑(length (units (dim W) (dim H)))
 : Int)) + uE (units (dim W) (dim H)) (Int.tmod a (↑(length (units (dim W) (dim H))) : Int))) (Int.tmod k 4) (unC (flatC (setR (3 * uC (units (dim W) (dim H)) (Int.tmod b (↑(length (units (dim W) (dim
 H))) : Int)) + uE (units (dim W) (dim H)) (Int.tmod b (↑(length (units (dim W) (dim H))) : Int))) (Int.tmod l 4) (unC (flatC (ofL W H ks)))))))) (length (setR (3 * uC (units (dim W) (dim H)) (Int.tmod
 a (↑(length (units (dim W) (dim H))) : Int)) + uE (units (dim W) (dim H)) (Int.tmod a (↑(length (units (dim W) (dim H))) : Int))) (Int.tmod k 4) (unC (flatC (setR (3 * uC (units (dim W) (dim H))
 (Int.tmod b (↑(length (units (dim W) (dim H))) : Int)) + uE (units (dim W) (dim H)) (Int.tmod b (↑(length (units (dim W) (dim H))) : Int))) (Int.tmod l 4) (unC (flatC (ofL W H ks)))))))) ∧ dim W = dim
 W ∧ dim H = dim H ∧ unC (flatC (setR (3 * uC (units (dim W) (dim H)) (Int.tmod b (↑(length (units (dim W) (dim H))) : Int)) + uE (units (dim W) (dim H)) (Int.tmod b (↑(length (units (dim W) (dim H)))
 : Int))) (Int.tmod l 4) (unC (flatC (setR (3 * uC (units (dim W) (dim H)) (Int.tmod a (↑(length (units (dim W) (dim H))) : Int)) + uE (units (dim W) (dim H)) (Int.tmod a (↑(length (units (dim W) (dim
 H))) : Int))) (Int.tmod k 4) (unC (flatC (ofL W H ks)))))))) = unC (flatC (setR (3 * uC (units (dim W) (dim H)) (Int.tmod a (↑(length (units (dim W) (dim H))) : Int)) + uE (units (dim W) (dim H))
 (Int.tmod a (↑(length (units (dim W) (dim H))) : Int))) (Int.tmod k 4) (unC (flatC (setR (3 * uC (units (dim W) (dim H)) (Int.tmod b (↑(length (units (dim W) (dim H))) : Int)) + uE (units (dim W) (dim
 H)) (Int.tmod b (↑(length (units (dim W) (dim H))) : Int))) (Int.tmod l 4) (unC (flatC (ofL W H ks))))))))) ∧ (okA (flatC (setR (3 * uC (units (dim W) (dim H)) (Int.tmod b (↑(length (units (dim W)
 (dim H))) : Int)) + uE (units (dim W) (dim H)) (Int.tmod b (↑(length (units (dim W) (dim H))) : Int))) (Int.tmod l 4) (unC (flatC (setR (3 * uC (units (dim W) (dim H)) (Int.tmod a (↑(length (units
 (dim W) (dim H))) : Int)) + uE (units (dim W) (dim H)) (Int.tmod a (↑(length (units (dim W) (dim H))) : Int))) (Int.tmod k 4) (unC (flatC (ofL W H ks)))))))) (length (setR (3 * uC (units (dim W) (dim
 H)) (Int.tmod b (↑(length (units (dim W) (dim H))) : Int)) + uE (units (dim W) (dim H)) (Int.tmod b (↑(length (units (dim W) (dim H))) : Int))) (Int.tmod l 4) (unC (flatC (setR (3 * uC (units (dim W)
 (dim H)) (Int.tmod a (↑(length (units (dim W) (dim H))) : Int)) + uE (units (dim W) (dim H)) (Int.tmod a (↑(length (units (dim W) (dim H))) : Int))) (Int.tmod k 4) (unC (flatC (ofL W H ks)))))))) ∧
 okA (flatC (setR (3 * uC (units (dim W) (dim H)) (Int.tmod a (↑(length (units (dim W) (dim H))) : Int)) + uE (units (dim W) (dim H)) (Int.tmod a (↑(length (units (dim W) (dim H))) : Int))) (Int.tmod k
 4) (unC (flatC (setR (3 * uC (units (dim W) (dim H)) (Int.tmod b (↑(length (units (dim W) (dim H))) : Int)) + uE (units (dim W) (dim H)) (Int.tmod b (↑(length (units (dim W) (dim H))) : Int)))
 (Int.tmod l 4) (unC (flatC (ofL W H ks)))))))) (length (setR (3 * uC (units (dim W) (dim H)) (Int.tmod a (↑(length (units (dim W) (dim H))) : Int)) + uE (units (dim W) (dim H)) (Int.tmod a (↑(length
 (units (dim W) (dim H))) : Int))) (Int.tmod k 4) (unC (flatC (setR (3 * uC (units (dim W) (dim H)) (Int.tmod b (↑(length (units (dim W) (dim H))) : Int)) + uE (units (dim W) (dim H)) (Int.tmod b
 (↑(length (units (dim W) (dim H))) : Int))) (Int.tmod l 4) (unC (flatC (ofL W H ks)))))))) ∧ dim W = dim W ∧ dim H = dim H ∧ unC (flatC (setR (3 * uC (units (dim W) (dim H)) (Int.tmod b (↑(length
 (units (dim W) (dim H))) : Int)) + uE (units (dim W) (dim H)) (Int.tmod b (↑(length (units (dim W) (dim H))) : Int))) (Int.tmod l 4) (unC (flatC (setR (3 * uC (units (dim W) (dim H)) (Int.tmod a
 (↑(length (units (dim W) (dim H))) : Int)) + uE (units (dim W) (dim H)) (Int.tmod a (↑(length (units (dim W) (dim H))) : Int))) (Int.tmod k 4) (unC (flatC (ofL W H ks)))))))) = unC (flatC (setR (3 *
 uC (units (dim W) (dim H)) (Int.tmod a (↑(length (units (dim W) (dim H))) : Int)) + uE (units (dim W) (dim H)) (Int.tmod a (↑(length (units (dim W) (dim H))) : Int))) (Int.tmod k 4) (unC (flatC (setR
 (3 * uC (units (dim W) (dim H)) (Int.tmod b (↑(length (units (dim W) (dim H))) : Int)) + uE (units (dim W) (dim H)) (Int.tmod b (↑(length (units (dim W) (dim H))) : Int))) (Int.tmod l 4) (unC (flatC
 (ofL W H ks))))))))) ∧ true = true ∧ True)) := by kernel_rfl

end Go.Proofs.YtfpcbimohikhmaaDoor.X
