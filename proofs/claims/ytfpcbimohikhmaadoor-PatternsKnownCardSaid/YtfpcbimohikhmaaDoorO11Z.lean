/-
 What is to be shown of the functions (made by a program).
-/
import Derived.Test.YtfpcbimohikhmaaDoorD11Z
import Derived.KernelRfl
set_option maxRecDepth 1000000
set_option linter.unusedVariables false
namespace Go.Proofs.YtfpcbimohikhmaaDoor.X
open Go Go.Ab
open List IntKind

theorem ob_o5t (w h i e : Int) (l : List Cr) : fnP (TB5t) G 10000 fe5 (.r [] 0 (.jn (jQ (length l ≤ 40 ∧ w ≤ 5 ∧ h ≤ 5)) [] [] (.rs 5 [] 1 22 (.r [] 15 (.lit (.r [] 0 .nil))) (.rs 5 [] 1 27 (.r [] 253 (.lit (.r [] 0 .nil))) (.rs 12 [] 31 39 (.r [] 61 (.lit (.r [] 0 .nil))) (.r [] 15 (.lit .nil))))) (fun b => (.r [] 1 (.r [] 1 (.ff (.r [] 29 (.r [yL 529, yL 530, yL 531, yL 532, yL 533] 65517 (.lit (.r [] 0 (.cnd (.r [] 1 .nil) (.r [] 13 (.r [] 29 (.r [] 29 (.r [] 29 (.r [yL 1028, yL 1033, yL 1038, yL 1043] 4193718 .nil)))))))))))))))) ([patV w h l, .int .i64 i, .int .u8 e]) ([.bool true]) ([]) = (
 ((ltb 40 (↑(length l) : Int) = true → true = true ∧ True) ∧ (ltb 40 (↑(length l) : Int) = false → (ltb 5 w = true → okS w h = true ∧ true = true ∧ True) ∧ (ltb 5 w = false → (ltb 5 h = true → okS w h
 = true ∧ true = true ∧ True) ∧ (ltb 5 h = false → 1 = 1 ∧ w = w ∧ h = h ∧ Cont.vals (flatC l) = Cont.vals (flatC l) ∧ length l = length l ∧ i = i ∧ e = e ∧ 0 = 0 ∧ (length l ≤ 40 ∧ w ≤ 5 ∧ h ≤ 5) ∧
 True)))) ∧ ∀ (b : Unit), length l ≤ 40 ∧ w ≤ 5 ∧ h ≤ 5 → (chkP w h (flatC l) (length l) ∧ s5 w h) ∧ (okA (flatC l) (length l) ∧ edg (unC (flatC l))) ∧ (chkI w h (unC (flatC l)) != chkI w h (unC (flatC
 l))) = false ∧ okS w h = true ∧ okS w h = true ∧ (!!(w == w && h == h)) = true ∧ ((chkI w h (unC (flatC l)) == 0) = true → true = true ∧ True) ∧ ((chkI w h (unC (flatC l)) == 0) = false → (chkP w h
 (flatC l) (length l) ∧ chkI w h (unC (flatC l)) ≠ 0 ∧ 0 ≤ e ∧ e ≤ 255) ∧ (chkP w h (flatC l) (length l) ∧ chkI w h (unC (flatC l)) ≠ 0 ∧ 0 ≤ e ∧ e ≤ 255) ∧ (chkP w h (flatC l) (length l) ∧ chkI w h
 (unC (flatC l)) ≠ 0) ∧ (chkP w h (flatC l) (length l) ∧ chkI w h (unC (flatC l)) ≠ 0 ∧ (okS w h = true → s5 w h)) ∧ (chkI w h (unC (flatC l)) == chkI w h (unC (flatC l))) = true ∧ (chkI w h (unC
 (flatC l)) == chkI w h (unC (flatC l))) = true ∧ (chkI w h (unC (flatC l)) == chkI w h (unC (flatC l))) = true ∧ (chkI w h (unC (flatC l)) == chkI w h (unC (flatC l))) = true ∧ true = true ∧ True)) := by kernel_rfl

theorem ob_o5f (w h i e : Int) (l : List Cr) : fnP (TB5f) G 10000 fe5 (.r [] 0 (.jn (jQ (length l ≤ 40)) [] [] (.rs 5 [] 1 22 (.r [] 15 (.lit (.r [] 0 .nil))) (.rs 5 [] 1 27 (.rs 12 [] 125 39 (.r [] 61 (.lit .nil)) (.r [] 15 (.lit .nil))) (.rs 12 [] 31 39 (.r [] 61 (.lit .nil)) (.r [] 15 (.lit .nil))))) (fun b => (.r [] 1 (.r [] 1 (.lit (.r [] 29 (.r [] 61 (.lit (.r [] 0 (.lit (.r [] 13 (.r [] 29 (.r [] 29 (.r [] 29 (.r [] 262143 .nil)))))))))))))))) ([patV w h l, .int .i64 i, .int .u8 e]) ([.bool true]) ([]) = (
 ((ltb 40 (↑(length l) : Int) = true → true = true ∧ True) ∧ (ltb 40 (↑(length l) : Int) = false → (ltb 5 w = true → okS w h = false ∧ (ltb 5 h = true → okS w h = false ∧ 1 = 1 ∧ w = w ∧ h = h ∧
 Cont.vals (flatC l) = Cont.vals (flatC l) ∧ length l = length l ∧ i = i ∧ e = e ∧ 0 = 0 ∧ length l ≤ 40 ∧ True) ∧ (ltb 5 h = false → 1 = 1 ∧ w = w ∧ h = h ∧ Cont.vals (flatC l) = Cont.vals (flatC l) ∧
 length l = length l ∧ i = i ∧ e = e ∧ 0 = 0 ∧ length l ≤ 40 ∧ True)) ∧ (ltb 5 w = false → (ltb 5 h = true → okS w h = false ∧ 1 = 1 ∧ w = w ∧ h = h ∧ Cont.vals (flatC l) = Cont.vals (flatC l) ∧ length
 l = length l ∧ i = i ∧ e = e ∧ 0 = 0 ∧ length l ≤ 40 ∧ True) ∧ (ltb 5 h = false → 1 = 1 ∧ w = w ∧ h = h ∧ Cont.vals (flatC l) = Cont.vals (flatC l) ∧ length l = length l ∧ i = i ∧ e = e ∧ 0 = 0 ∧
 length l ≤ 40 ∧ True)))) ∧ ∀ (b : Unit), length l ≤ 40 → (chkP w h (flatC l) (length l) ∧ okS w h = false) ∧ (chkP w h (flatC l) (length l) ∧ okS w h = false) ∧ okS w h = false ∧ okS w h = false ∧
 (chkP w h (flatC l) (length l) ∧ okS w h = false ∧ 0 ≤ e ∧ e ≤ 255) ∧ (chkP w h (flatC l) (length l) ∧ okS w h = false ∧ 0 ≤ e ∧ e ≤ 255) ∧ (chkP w h (flatC l) (length l) ∧ okS w h = false) ∧ (chkP w
 h (flatC l) (length l) ∧ okS w h = false) ∧ true = true ∧ True) := by kernel_rfl

end Go.Proofs.YtfpcbimohikhmaaDoor.X
