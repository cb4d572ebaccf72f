/-
 What is to be shown of the functions (made by a program).
-/
import Derived.Test.YtfpcbimohikhmaaDoorD11Z
import Derived.KernelRfl
set_option maxRecDepth 1000000
set_option linter.unusedVariables false
namespace Go.Proofs.YtfpcbimohikhmaaDoor.X
open Go Go.Ab
open List IntKind

theorem ob_o3 (W H i e k : Int) (ks : List Int) : ((fun (x0 : List Int) =>
 (fun (x1 : Pn) =>
 fnP (TB3) G 10000 fe3 (.r [] 0 (.r [] 5 (.r [] 7 (.r [] 463 (.r [] 207 (.r [] 0 (.r [] 0 (.jn (j3a (dim W) (dim H) i e) [1, 5] [] (.rs 3 [] 0 45 (.r [] 3 (.lit x1)) (.r [] 53 (.cnd x1 (.r [] 7 (.cnd
 x1 (.r [] 15 (.r [] 0 (.cnd x1 .nil)))))))) (fun b => (.r [] 0 (.ff (.jn (j3b (seE (dim W) (dim H) (ofL W H ks) i e k)) [71] [] (.rs 3 [] 0 74 (.r [] 3 (.cnd x1 .nil)) (.r [] 3 (.lit .nil))) (fun b_1
 => (.r [] 0 (.ff (.r [] 0 (.cnd (.r [yL 1413, yL 1419] 477 .nil) (.r [] 1 (.r [] 0 (.ff (.r [] 0 (.r [] 1 (.r [] 0 (.lp (l3 x0) [] [] (fun b_2 => (.r [] 0 (.cnd (.r [(1989, .auto, Dr.val [AV.int i64
 (uC x0 b_2.i)]), (1994, .auto, Dr.val [AV.int u8 (uE x0 b_2.i)])] 3073 (.r [(2055, .auto, Dr.val [AV.int i64 (uC x0 b_2.i)]), (2060, .auto, Dr.val [AV.int u8 (uE x0 b_2.i)]), (2067, .auto, Dr.val
 [AV.int u8 (uE x0 b_2.i)])] 393219 (.rs 3 [] 0 158 (.r [] 63 (.lit x1)) (.rs 4 [] 3 162 (.r [] 15 (.lit x1)) (.rs 8 [] 96 170 (.r [] 3 (.lit x1)) (.r [] 96 (.ff x1))))))) (.r [yO 2257, yO 2258, yO
 2259, yO 2260, yO 2261, (2262, .auto, Dr.pk true)] 127937475 .nil)))))))))))))))))))))))))))) ([patP W H ks, .int .i64 i, .agg [.int .u8 e, .int .u8 k]]) ([.bool true]) ([])) (.r [] 0 .nil)) (units (dim W) (dim H))) = (
 (fun (x0 : List AV) =>
 (fun (x1 : List Int) =>
 (fun (x2 : List Cr) =>
 (fun (x3 : List AV) =>
 (0 ≤ W ∧ W ≤ 255 ∧ 0 ≤ H ∧ H ≤ 255 ∧ length ks = length ks ∧ u8s ks) ∧ length x2 = length x2 ∧ (s5 (dim W) (dim H) ∧ okV (dim W) (dim H) x0 (length x2) ∧ 0 ≤ e ∧ e ≤ 255) ∧ length x2 = length x2 ∧ (s5
 (dim W) (dim H) ∧ okV (dim W) (dim H) x0 (length x2) ∧ 0 ≤ e ∧ e ≤ 255) ∧ ((ltb i 0 = true → 1 = 1 ∧ W = W ∧ H = H ∧ Cont.ints u8 ks = Cont.ints u8 ks ∧ length ks = length ks ∧ 1 = 1 ∧ e = e ∧ k = k ∧
 length x2 = length x2 ∧ flatC x2 = flatC x2 ∧ 1 = 1 ∧ dim W = dim W ∧ dim H = dim H ∧ length x2 = length x2 ∧ 1 = 1 ∧ bI (seE (dim W) (dim H) (unC x0) i e k == 0) (dim W) 0 = bI (seE (dim W) (dim H)
 (unC x0) i e k == 0) (dim W) 0 ∧ bI (seE (dim W) (dim H) (unC x0) i e k == 0) (dim H) 0 = bI (seE (dim W) (dim H) (unC x0) i e k == 0) (dim H) 0 ∧ Cont.vals (flatC (seL (dim W) (dim H) (unC x0) i e
 k)) = Cont.vals (flatC (seL (dim W) (dim H) (unC x0) i e k)) ∧ length (seL (dim W) (dim H) (unC x0) i e k) = length (seL (dim W) (dim H) (unC x0) i e k) ∧ length (seL (dim W) (dim H) (unC x0) i e k) =
 length (seL (dim W) (dim H) (unC x0) i e k) ∧ 0 = 0 ∧ 0 = 0 ∧ k = k ∧ 0 = 0 ∧ seE (dim W) (dim H) (unC x0) i e k = seE (dim W) (dim H) (unC x0) i e k ∧ kdI (dim W) (dim H) (unC x0) i e = kdI (dim W)
 (dim H) (unC x0) i e ∧ neE (dim W) (dim H) i e = neE (dim W) (dim H) i e ∧ iI 7 = 7 ∧ iI (-1) = -1 ∧ (7 = neE (dim W) (dim H) i e ∧ (neE (dim W) (dim H) i e = 0 → -1 = unI (dim W) (dim H) i e)) ∧
 True) ∧ (ltb i 0 = false → inR i64 (4 * dim W) = true ∧ inR i64 (4 * dim W * dim H) = true ∧ (leb (4 * dim W * dim H) i = true → 1 = 1 ∧ W = W ∧ H = H ∧ Cont.ints u8 ks = Cont.ints u8 ks ∧ length ks =
 length ks ∧ 1 = 1 ∧ e = e ∧ k = k ∧ length x2 = length x2 ∧ flatC x2 = flatC x2 ∧ 1 = 1 ∧ dim W = dim W ∧ dim H = dim H ∧ length x2 = length x2 ∧ 1 = 1 ∧ bI (seE (dim W) (dim H) (unC x0) i e k == 0)
 (dim W) 0 = bI (seE (dim W) (dim H) (unC x0) i e k == 0) (dim W) 0 ∧ bI (seE (dim W) (dim H) (unC x0) i e k == 0) (dim H) 0 = bI (seE (dim W) (dim H) (unC x0) i e k == 0) (dim H) 0 ∧ Cont.vals (flatC
 (seL (dim W) (dim H) (unC x0) i e k)) = Cont.vals (flatC (seL (dim W) (dim H) (unC x0) i e k)) ∧ length (seL (dim W) (dim H) (unC x0) i e k) = length (seL (dim W) (dim H) (unC x0) i e k) ∧ length (seL
 (dim W) (dim H) (unC x0) i e k) = length (seL (dim W) (dim H) (unC x0) i e k) ∧ 0 = 0 ∧ 0 = 0 ∧ k = k ∧ 0 = 0 ∧ seE (dim W) (dim H) (unC x0) i e k = seE (dim W) (dim H) (unC x0) i e k ∧ kdI (dim W)
 (dim H) (unC x0) i e = kdI (dim W) (dim H) (unC x0) i e ∧ neE (dim W) (dim H) i e = neE (dim W) (dim H) i e ∧ iI 7 = 7 ∧ iI (-1) = -1 ∧ (7 = neE (dim W) (dim H) i e ∧ (neE (dim W) (dim H) i e = 0 → -1
 = unI (dim W) (dim H) i e)) ∧ True) ∧ (leb (4 * dim W * dim H) i = false → (ltb 2 e = true → 1 = 1 ∧ W = W ∧ H = H ∧ Cont.ints u8 ks = Cont.ints u8 ks ∧ length ks = length ks ∧ 1 = 1 ∧ e = e ∧ k = k ∧
 length x2 = length x2 ∧ flatC x2 = flatC x2 ∧ 1 = 1 ∧ dim W = dim W ∧ dim H = dim H ∧ length x2 = length x2 ∧ 1 = 1 ∧ bI (seE (dim W) (dim H) (unC x0) i e k == 0) (dim W) 0 = bI (seE (dim W) (dim H)
 (unC x0) i e k == 0) (dim W) 0 ∧ bI (seE (dim W) (dim H) (unC x0) i e k == 0) (dim H) 0 = bI (seE (dim W) (dim H) (unC x0) i e k == 0) (dim H) 0 ∧ Cont.vals (flatC (seL (dim W) (dim H) (unC x0) i e
 k)) = Cont.vals (flatC (seL (dim W) (dim H) (unC x0) i e k)) ∧ length (seL (dim W) (dim H) (unC x0) i e k) = length (seL (dim W) (dim H) (unC x0) i e k) ∧ length (seL (dim W) (dim H) (unC x0) i e k) =
 length (seL (dim W) (dim H) (unC x0) i e k) ∧ 0 = 0 ∧ 0 = 0 ∧ k = k ∧ 0 = 0 ∧ seE (dim W) (dim H) (unC x0) i e k = seE (dim W) (dim H) (unC x0) i e k ∧ kdI (dim W) (dim H) (unC x0) i e = kdI (dim W)
 (dim H) (unC x0) i e ∧ neE (dim W) (dim H) i e = neE (dim W) (dim H) i e ∧ iI 1 = 1 ∧ iI (-1) = -1 ∧ (1 = neE (dim W) (dim H) i e ∧ (neE (dim W) (dim H) i e = 0 → -1 = unI (dim W) (dim H) i e)) ∧
 True) ∧ (ltb 2 e = false → inR i64 e = true ∧ s5 (dim W) (dim H) ∧ (ltb (unI (dim W) (dim H) i e) 0 = true → 1 = 1 ∧ W = W ∧ H = H ∧ Cont.ints u8 ks = Cont.ints u8 ks ∧ length ks = length ks ∧ 1 = 1 ∧
 e = e ∧ k = k ∧ length x2 = length x2 ∧ flatC x2 = flatC x2 ∧ 1 = 1 ∧ dim W = dim W ∧ dim H = dim H ∧ length x2 = length x2 ∧ 1 = 1 ∧ bI (seE (dim W) (dim H) (unC x0) i e k == 0) (dim W) 0 = bI (seE
 (dim W) (dim H) (unC x0) i e k == 0) (dim W) 0 ∧ bI (seE (dim W) (dim H) (unC x0) i e k == 0) (dim H) 0 = bI (seE (dim W) (dim H) (unC x0) i e k == 0) (dim H) 0 ∧ Cont.vals (flatC (seL (dim W) (dim H)
 (unC x0) i e k)) = Cont.vals (flatC (seL (dim W) (dim H) (unC x0) i e k)) ∧ length (seL (dim W) (dim H) (unC x0) i e k) = length (seL (dim W) (dim H) (unC x0) i e k) ∧ length (seL (dim W) (dim H) (unC
 x0) i e k) = length (seL (dim W) (dim H) (unC x0) i e k) ∧ 0 = 0 ∧ 0 = 0 ∧ k = k ∧ 0 = 0 ∧ seE (dim W) (dim H) (unC x0) i e k = seE (dim W) (dim H) (unC x0) i e k ∧ kdI (dim W) (dim H) (unC x0) i e =
 kdI (dim W) (dim H) (unC x0) i e ∧ neE (dim W) (dim H) i e = neE (dim W) (dim H) i e ∧ iI 7 = 7 ∧ unI (dim W) (dim H) i e = unI (dim W) (dim H) i e ∧ (7 = neE (dim W) (dim H) i e ∧ (neE (dim W) (dim
 H) i e = 0 → unI (dim W) (dim H) i e = unI (dim W) (dim H) i e)) ∧ True) ∧ (ltb (unI (dim W) (dim H) i e) 0 = false → 1 = 1 ∧ W = W ∧ H = H ∧ Cont.ints u8 ks = Cont.ints u8 ks ∧ length ks = length ks
 ∧ 1 = 1 ∧ e = e ∧ k = k ∧ length x2 = length x2 ∧ flatC x2 = flatC x2 ∧ 1 = 1 ∧ dim W = dim W ∧ dim H = dim H ∧ length x2 = length x2 ∧ 1 = 1 ∧ bI (seE (dim W) (dim H) (unC x0) i e k == 0) (dim W) 0 =
 bI (seE (dim W) (dim H) (unC x0) i e k == 0) (dim W) 0 ∧ bI (seE (dim W) (dim H) (unC x0) i e k == 0) (dim H) 0 = bI (seE (dim W) (dim H) (unC x0) i e k == 0) (dim H) 0 ∧ Cont.vals (flatC (seL (dim W)
 (dim H) (unC x0) i e k)) = Cont.vals (flatC (seL (dim W) (dim H) (unC x0) i e k)) ∧ length (seL (dim W) (dim H) (unC x0) i e k) = length (seL (dim W) (dim H) (unC x0) i e k) ∧ length (seL (dim W) (dim
 H) (unC x0) i e k) = length (seL (dim W) (dim H) (unC x0) i e k) ∧ 0 = 0 ∧ 0 = 0 ∧ k = k ∧ 0 = 0 ∧ seE (dim W) (dim H) (unC x0) i e k = seE (dim W) (dim H) (unC x0) i e k ∧ kdI (dim W) (dim H) (unC
 x0) i e = kdI (dim W) (dim H) (unC x0) i e ∧ neE (dim W) (dim H) i e = neE (dim W) (dim H) i e ∧ iI 0 = 0 ∧ unI (dim W) (dim H) i e = unI (dim W) (dim H) i e ∧ (0 = neE (dim W) (dim H) i e ∧ (neE (dim
 W) (dim H) i e = 0 → unI (dim W) (dim H) i e = unI (dim W) (dim H) i e)) ∧ True))))) ∧ ∀ (b : L2w), b.v = neE (dim W) (dim H) i e ∧ (neE (dim W) (dim H) i e = 0 → b.a = unI (dim W) (dim H) i e) → (neE
 (dim W) (dim H) i e != b.v) = false ∧ (((b.v == 0) = true → (ltb 3 k = true → 1 = 1 ∧ W = W ∧ H = H ∧ Cont.ints u8 ks = Cont.ints u8 ks ∧ length ks = length ks ∧ 1 = 1 ∧ e = e ∧ k = k ∧ length x2 =
 length x2 ∧ flatC x2 = flatC x2 ∧ 1 = 1 ∧ dim W = dim W ∧ dim H = dim H ∧ length x2 = length x2 ∧ 1 = 1 ∧ bI (seE (dim W) (dim H) (unC x0) i e k == 0) (dim W) 0 = bI (seE (dim W) (dim H) (unC x0) i e
 k == 0) (dim W) 0 ∧ bI (seE (dim W) (dim H) (unC x0) i e k == 0) (dim H) 0 = bI (seE (dim W) (dim H) (unC x0) i e k == 0) (dim H) 0 ∧ Cont.vals (flatC (seL (dim W) (dim H) (unC x0) i e k)) = Cont.vals
 (flatC (seL (dim W) (dim H) (unC x0) i e k)) ∧ length (seL (dim W) (dim H) (unC x0) i e k) = length (seL (dim W) (dim H) (unC x0) i e k) ∧ length (seL (dim W) (dim H) (unC x0) i e k) = length (seL
 (dim W) (dim H) (unC x0) i e k) ∧ 0 = 0 ∧ 0 = 0 ∧ k = k ∧ 0 = 0 ∧ seE (dim W) (dim H) (unC x0) i e k = seE (dim W) (dim H) (unC x0) i e k ∧ kdI (dim W) (dim H) (unC x0) i e = kdI (dim W) (dim H) (unC
 x0) i e ∧ iI 1 = 1 ∧ b.a = b.a ∧ 1 = seE (dim W) (dim H) x2 i e k ∧ True) ∧ (ltb 3 k = false → 1 = 1 ∧ W = W ∧ H = H ∧ Cont.ints u8 ks = Cont.ints u8 ks ∧ length ks = length ks ∧ 1 = 1 ∧ e = e ∧ k = k
 ∧ length x2 = length x2 ∧ flatC x2 = flatC x2 ∧ 1 = 1 ∧ dim W = dim W ∧ dim H = dim H ∧ length x2 = length x2 ∧ 1 = 1 ∧ bI (seE (dim W) (dim H) (unC x0) i e k == 0) (dim W) 0 = bI (seE (dim W) (dim H)
 (unC x0) i e k == 0) (dim W) 0 ∧ bI (seE (dim W) (dim H) (unC x0) i e k == 0) (dim H) 0 = bI (seE (dim W) (dim H) (unC x0) i e k == 0) (dim H) 0 ∧ Cont.vals (flatC (seL (dim W) (dim H) (unC x0) i e
 k)) = Cont.vals (flatC (seL (dim W) (dim H) (unC x0) i e k)) ∧ length (seL (dim W) (dim H) (unC x0) i e k) = length (seL (dim W) (dim H) (unC x0) i e k) ∧ length (seL (dim W) (dim H) (unC x0) i e k) =
 length (seL (dim W) (dim H) (unC x0) i e k) ∧ 0 = 0 ∧ 0 = 0 ∧ k = k ∧ 0 = 0 ∧ seE (dim W) (dim H) (unC x0) i e k = seE (dim W) (dim H) (unC x0) i e k ∧ kdI (dim W) (dim H) (unC x0) i e = kdI (dim W)
 (dim H) (unC x0) i e ∧ b.v = b.v ∧ b.a = b.a ∧ b.v = seE (dim W) (dim H) x2 i e k ∧ True)) ∧ ((b.v == 0) = false → 1 = 1 ∧ W = W ∧ H = H ∧ Cont.ints u8 ks = Cont.ints u8 ks ∧ length ks = length ks ∧ 1
 = 1 ∧ e = e ∧ k = k ∧ length x2 = length x2 ∧ flatC x2 = flatC x2 ∧ 1 = 1 ∧ dim W = dim W ∧ dim H = dim H ∧ length x2 = length x2 ∧ 1 = 1 ∧ bI (seE (dim W) (dim H) (unC x0) i e k == 0) (dim W) 0 = bI
 (seE (dim W) (dim H) (unC x0) i e k == 0) (dim W) 0 ∧ bI (seE (dim W) (dim H) (unC x0) i e k == 0) (dim H) 0 = bI (seE (dim W) (dim H) (unC x0) i e k == 0) (dim H) 0 ∧ Cont.vals (flatC (seL (dim W)
 (dim H) (unC x0) i e k)) = Cont.vals (flatC (seL (dim W) (dim H) (unC x0) i e k)) ∧ length (seL (dim W) (dim H) (unC x0) i e k) = length (seL (dim W) (dim H) (unC x0) i e k) ∧ length (seL (dim W) (dim
 H) (unC x0) i e k) = length (seL (dim W) (dim H) (unC x0) i e k) ∧ 0 = 0 ∧ 0 = 0 ∧ k = k ∧ 0 = 0 ∧ seE (dim W) (dim H) (unC x0) i e k = seE (dim W) (dim H) (unC x0) i e k ∧ kdI (dim W) (dim H) (unC
 x0) i e = kdI (dim W) (dim H) (unC x0) i e ∧ b.v = b.v ∧ b.a = b.a ∧ b.v = seE (dim W) (dim H) x2 i e k ∧ True)) ∧ ∀ (b_1 : VI), b_1.v = seE (dim W) (dim H) x2 i e k → (seE (dim W) (dim H) (unC x0) i
 e k != b_1.v) = false ∧ ((b_1.v != 0) = true → ((↑(length (seL (dim W) (dim H) (unC x0) i e k)) : Int) == 0) = true ∧ (bI (seE (dim W) (dim H) (unC x0) i e k == 0) (dim W) 0 == 0 && bI (seE (dim W)
 (dim H) (unC x0) i e k == 0) (dim H) 0 == 0) = true ∧ true = true ∧ True) ∧ ((b_1.v != 0) = false → length x2 = length x2 ∧ (s5 (dim W) (dim H) ∧ okA x0 (length x2)) ∧ leb 0 b.a = true ∧ ltb b.a
 (↑(length (kindsL x1 (unC x0))) : Int) = true ∧ length (kindsL x1 (unC x0)) = length (kindsL x1 (unC x0)) ∧ length (kindsL x1 (unC x0)) = length (kindsL x1 (unC x0)) ∧ ltn (Int.toNat b.a) (Cont.size
 (Cont.ints u8 (kindsL x1 (unC x0)))) = true ∧ (kdI (dim W) (dim H) (unC x0) i e != getD (kindsL x1 (unC x0)) (Int.toNat b.a) 0) = false ∧ leb 0 b.a = true ∧ ltb b.a (↑(length (kindsL x1 (unC x0))) :
 Int) = true ∧ length (kindsL x1 (unC x0)) = length (kindsL x1 (unC x0)) ∧ length (kindsL x1 (unC x0)) = length (kindsL x1 (unC x0)) ∧ len' (Int.toNat b.a + 1) (Cont.size (Cont.ints u8 (kindsL x1 (unC
 x0)))) = true ∧ s5 (dim W) (dim H) ∧ 1 = 1 ∧ W = W ∧ H = H ∧ Cont.ints u8 ks = Cont.ints u8 ks ∧ length ks = length ks ∧ 1 = 1 ∧ e = e ∧ k = k ∧ length x2 = length x2 ∧ flatC x2 = flatC x2 ∧ 1 = 1 ∧
 dim W = dim W ∧ dim H = dim H ∧ length x2 = length x2 ∧ 1 = 1 ∧ bI (seE (dim W) (dim H) (unC x0) i e k == 0) (dim W) 0 = bI (seE (dim W) (dim H) (unC x0) i e k == 0) (dim W) 0 ∧ bI (seE (dim W) (dim
 H) (unC x0) i e k == 0) (dim H) 0 = bI (seE (dim W) (dim H) (unC x0) i e k == 0) (dim H) 0 ∧ Cont.vals (flatC (seL (dim W) (dim H) (unC x0) i e k)) = Cont.vals (flatC (seL (dim W) (dim H) (unC x0) i e
 k)) ∧ length (seL (dim W) (dim H) (unC x0) i e k) = length (seL (dim W) (dim H) (unC x0) i e k) ∧ length (seL (dim W) (dim H) (unC x0) i e k) = length (seL (dim W) (dim H) (unC x0) i e k) ∧ length
 (kindsL x1 (unC x0)) = length (kindsL x1 (unC x0)) ∧ set (kindsL x1 (unC x0)) (Int.toNat b.a) k = set (kindsL x1 (unC x0)) (Int.toNat b.a) k ∧ 0 = 0 ∧ 0 = 0 ∧ 0 = 0 ∧ length (kindsL x1 (unC x0)) =
 length (kindsL x1 (unC x0)) ∧ Cont.vals x3 = Cont.vals x3 ∧ length x1 = length x1 ∧ iI 0 = 0 ∧ (∃ (n : Nat), 0 = (↑n : Int) ∧ n ≤ length x1) ∧ ∀ (b_2 : L1), (∃ (n : Nat), b_2.i = (↑n : Int) ∧ n ≤
 length x1) → (ltb b_2.i (↑(length x1) : Int) = true → leb 0 b_2.i = true ∧ ltb b_2.i (↑(length x1) : Int) = true ∧ ltn 0 (Cont.size (Cont.vals x3)) = true ∧ (drop 0 (drop (Int.toNat b_2.i * 2)
 x3))[0]? = some (AV.int i64 (uC x1 b_2.i)) ∧ leb 0 b_2.i = true ∧ ltb b_2.i (↑(length x1) : Int) = true ∧ ltn 0 (Cont.size (Cont.vals x3)) = true ∧ (drop 1 (drop (Int.toNat b_2.i * 2) x3))[0]? = some
 (AV.int u8 (uE x1 b_2.i)) ∧ (s5 (bI (seE (dim W) (dim H) (unC x0) i e k == 0) (dim W) 0) (bI (seE (dim W) (dim H) (unC x0) i e k == 0) (dim H) 0) ∧ okV (bI (seE (dim W) (dim H) (unC x0) i e k == 0)
 (dim W) 0) (bI (seE (dim W) (dim H) (unC x0) i e k == 0) (dim H) 0) (flatC (seL (dim W) (dim H) (unC x0) i e k)) (length (seL (dim W) (dim H) (unC x0) i e k)) ∧ 0 ≤ uE x1 b_2.i ∧ uE x1 b_2.i ≤ 255) ∧
 leb 0 b_2.i = true ∧ ltb b_2.i (↑(length x1) : Int) = true ∧ ltn 0 (Cont.size (Cont.vals x3)) = true ∧ (drop 0 (drop (Int.toNat b_2.i * 2) x3))[0]? = some (AV.int i64 (uC x1 b_2.i)) ∧ leb 0 b_2.i =
 true ∧ ltb b_2.i (↑(length x1) : Int) = true ∧ ltn 0 (Cont.size (Cont.vals x3)) = true ∧ (drop 1 (drop (Int.toNat b_2.i * 2) x3))[0]? = some (AV.int u8 (uE x1 b_2.i)) ∧ inR i64 (uE x1 b_2.i) = true ∧
 (s5 (dim W) (dim H) ∧ 0 ≤ uC x1 b_2.i ∧ uC x1 b_2.i < 4 * dim W * dim H ∧ 0 ≤ uE x1 b_2.i ∧ uE x1 b_2.i ≤ 2) ∧ leb 0 b_2.i = true ∧ ltb b_2.i (↑(length x1) : Int) = true ∧ ltn 0 (Cont.size (Cont.vals
 x3)) = true ∧ (drop 1 (drop (Int.toNat b_2.i * 2) x3))[0]? = some (AV.int u8 (uE x1 b_2.i)) ∧ (s5 (bI (seE (dim W) (dim H) (unC x0) i e k == 0) (dim W) 0) (bI (seE (dim W) (dim H) (unC x0) i e k == 0)
 (dim H) 0) ∧ okV (bI (seE (dim W) (dim H) (unC x0) i e k == 0) (dim W) 0) (bI (seE (dim W) (dim H) (unC x0) i e k == 0) (dim H) 0) (flatC (seL (dim W) (dim H) (unC x0) i e k)) (length (seL (dim W)
 (dim H) (unC x0) i e k)) ∧ 0 ≤ uE x1 b_2.i ∧ uE x1 b_2.i ≤ 255) ∧ ((neE (bI (seE (dim W) (dim H) (unC x0) i e k == 0) (dim W) 0) (bI (seE (dim W) (dim H) (unC x0) i e k == 0) (dim H) 0) (uC x1 b_2.i)
 (uE x1 b_2.i) != 0) = true → false = true ∧ True) ∧ ((neE (bI (seE (dim W) (dim H) (unC x0) i e k == 0) (dim W) 0) (bI (seE (dim W) (dim H) (unC x0) i e k == 0) (dim H) 0) (uC x1 b_2.i) (uE x1 b_2.i)
 != 0) = false → ((neE (bI (seE (dim W) (dim H) (unC x0) i e k == 0) (dim W) 0) (bI (seE (dim W) (dim H) (unC x0) i e k == 0) (dim H) 0) (nbI (dim W) (dim H) (uC x1 b_2.i) (uE x1 b_2.i)) (uE x1 b_2.i)
 != 0) = true → false = true ∧ True) ∧ ((neE (bI (seE (dim W) (dim H) (unC x0) i e k == 0) (dim W) 0) (bI (seE (dim W) (dim H) (unC x0) i e k == 0) (dim H) 0) (nbI (dim W) (dim H) (uC x1 b_2.i) (uE x1
 b_2.i)) (uE x1 b_2.i) != 0) = false → leb 0 b_2.i = true ∧ ltb b_2.i (↑(length (kindsL x1 (unC x0))) : Int) = true ∧ length (kindsL x1 (unC x0)) = length (kindsL x1 (unC x0)) ∧ length (kindsL x1 (unC
 x0)) = length (kindsL x1 (unC x0)) ∧ ltn (Int.toNat b_2.i) (Cont.size (Cont.ints u8 (set (kindsL x1 (unC x0)) (Int.toNat b.a) k))) = true ∧ ((kdI (bI (seE (dim W) (dim H) (unC x0) i e k == 0) (dim W)
 0) (bI (seE (dim W) (dim H) (unC x0) i e k == 0) (dim H) 0) (unC (flatC (seL (dim W) (dim H) (unC x0) i e k))) (uC x1 b_2.i) (uE x1 b_2.i) != getD (set (kindsL x1 (unC x0)) (Int.toNat b.a) k)
 (Int.toNat b_2.i) 0) = true → false = true ∧ True) ∧ ((kdI (bI (seE (dim W) (dim H) (unC x0) i e k == 0) (dim W) 0) (bI (seE (dim W) (dim H) (unC x0) i e k == 0) (dim H) 0) (unC (flatC (seL (dim W)
 (dim H) (unC x0) i e k))) (uC x1 b_2.i) (uE x1 b_2.i) != getD (set (kindsL x1 (unC x0)) (Int.toNat b.a) k) (Int.toNat b_2.i) 0) = false → leb 0 b_2.i = true ∧ ltb b_2.i (↑(length (kindsL x1 (unC x0)))
 : Int) = true ∧ length (kindsL x1 (unC x0)) = length (kindsL x1 (unC x0)) ∧ length (kindsL x1 (unC x0)) = length (kindsL x1 (unC x0)) ∧ ltn (Int.toNat b_2.i) (Cont.size (Cont.ints u8 (set (kindsL x1
 (unC x0)) (Int.toNat b.a) k))) = true ∧ (kdI (bI (seE (dim W) (dim H) (unC x0) i e k == 0) (dim W) 0) (bI (seE (dim W) (dim H) (unC x0) i e k == 0) (dim H) 0) (unC (flatC (seL (dim W) (dim H) (unC x0)
 i e k))) (nbI (dim W) (dim H) (uC x1 b_2.i) (uE x1 b_2.i)) (uE x1 b_2.i) != getD (set (kindsL x1 (unC x0)) (Int.toNat b.a) k) (Int.toNat b_2.i) 0) = false ∧ inR i64 (b_2.i + 1) = true ∧ 1 = 1 ∧ W = W
 ∧ H = H ∧ Cont.ints u8 ks = Cont.ints u8 ks ∧ length ks = length ks ∧ 1 = 1 ∧ e = e ∧ k = k ∧ length x2 = length x2 ∧ flatC x2 = flatC x2 ∧ 1 = 1 ∧ dim W = dim W ∧ dim H = dim H ∧ length x2 = length
 x2 ∧ 1 = 1 ∧ bI (seE (dim W) (dim H) (unC x0) i e k == 0) (dim W) 0 = bI (seE (dim W) (dim H) (unC x0) i e k == 0) (dim W) 0 ∧ bI (seE (dim W) (dim H) (unC x0) i e k == 0) (dim H) 0 = bI (seE (dim W)
 (dim H) (unC x0) i e k == 0) (dim H) 0 ∧ Cont.vals (flatC (seL (dim W) (dim H) (unC x0) i e k)) = Cont.vals (flatC (seL (dim W) (dim H) (unC x0) i e k)) ∧ length (seL (dim W) (dim H) (unC x0) i e k) =
 length (seL (dim W) (dim H) (unC x0) i e k) ∧ length (seL (dim W) (dim H) (unC x0) i e k) = length (seL (dim W) (dim H) (unC x0) i e k) ∧ length (kindsL x1 (unC x0)) = length (kindsL x1 (unC x0)) ∧
 set (kindsL x1 (unC x0)) (Int.toNat b.a) k = set (kindsL x1 (unC x0)) (Int.toNat b.a) k ∧ 0 = 0 ∧ 0 = 0 ∧ 0 = 0 ∧ length (kindsL x1 (unC x0)) = length (kindsL x1 (unC x0)) ∧ Cont.vals x3 = Cont.vals
 x3 ∧ length x1 = length x1 ∧ b_2.i + 1 = b_2.i + 1 ∧ (∃ (n : Nat), b_2.i + 1 = (↑n : Int) ∧ n ≤ length x1) ∧ length x1 - Int.toNat (b_2.i + 1) < length x1 - Int.toNat b_2.i ∧ True)))) ∧ (ltb b_2.i
 (↑(length x1) : Int) = false → length (kindsL x1 (unC x0)) = length (kindsL x1 (unC x0)) ∧ (s5 (dim W) (dim H) ∧ length (kindsL x1 (unC x0)) = length (set (kindsL x1 (unC x0)) (Int.toNat b.a) k) ∧
 length (set (kindsL x1 (unC x0)) (Int.toNat b.a) k) < 1000000000) ∧ length (wthL x1 (set (kindsL x1 (unC x0)) (Int.toNat b.a) k)) = length (wthL x1 (set (kindsL x1 (unC x0)) (Int.toNat b.a) k)) ∧ (okA
 (flatC (seL (dim W) (dim H) (unC x0) i e k)) (length (seL (dim W) (dim H) (unC x0) i e k)) ∧ okA (flatC (wthL x1 (set (kindsL x1 (unC x0)) (Int.toNat b.a) k))) (length (wthL x1 (set (kindsL x1 (unC
 x0)) (Int.toNat b.a) k))) ∧ bI (seE (dim W) (dim H) (unC x0) i e k == 0) (dim W) 0 = dim W ∧ bI (seE (dim W) (dim H) (unC x0) i e k == 0) (dim H) 0 = dim H ∧ unC (flatC (seL (dim W) (dim H) (unC x0) i
 e k)) = unC (flatC (wthL x1 (set (kindsL x1 (unC x0)) (Int.toNat b.a) k)))) ∧ ((↑(length (seL (dim W) (dim H) (unC x0) i e k)) : Int) == (↑(length (seL (dim W) (dim H) (unC x0) i e k)) : Int)) = true
 ∧ ((↑(length (seL (dim W) (dim H) (unC x0) i e k)) : Int) == (↑(length (seL (dim W) (dim H) (unC x0) i e k)) : Int)) = true ∧ ((↑(length (seL (dim W) (dim H) (unC x0) i e k)) : Int) == (↑(length (seL
 (dim W) (dim H) (unC x0) i e k)) : Int)) = true ∧ (0 ≤ W ∧ W ≤ 255 ∧ 0 ≤ H ∧ H ≤ 255 ∧ length ks = length ks ∧ u8s ks) ∧ ((↑(length (seL (dim W) (dim H) (unC x0) i e k)) : Int) == (↑(length (seL (dim
 W) (dim H) (unC x0) i e k)) : Int)) = true ∧ length x2 = length x2 ∧ length x2 = length x2 ∧ (okA x0 (length x2) ∧ okA x0 (length x2) ∧ dim W = dim W ∧ dim H = dim H ∧ unC x0 = unC x0) ∧ ((↑(length
 (seL (dim W) (dim H) (unC x0) i e k)) : Int) == (↑(length (seL (dim W) (dim H) (unC x0) i e k)) : Int)) = true ∧ ((↑(length (seL (dim W) (dim H) (unC x0) i e k)) : Int) == (↑(length (seL (dim W) (dim
 H) (unC x0) i e k)) : Int)) = true ∧ true = true ∧ True))) (flatU x1)) (ofL W H ks)) (units (dim W) (dim H))) (flatC (ofL W H ks))) := by kernel_rfl

theorem ob_o6 (W H a b k l : Int) (ks : List Int) : ((fun (x0 : List Int) =>
 fnP (TB6) G 10000 fe6 (.r [] 0 (.r [] 5 (.r [] 1 (.r [(264, .auto, Dr.val [AV.int i64 (uC x0 (Int.tmod a (↑(length x0) : Int))), AV.int u8 (uE x0 (Int.tmod a (↑(length x0) : Int)))]), (273, .auto,
 Dr.val [AV.int i64 (uC x0 (Int.tmod b (↑(length x0) : Int))), AV.int u8 (uE x0 (Int.tmod b (↑(length x0) : Int)))])] 3152903 (.r [] 255 (.r [] 231 (.r [] 119 (.r [] 231 (.r [] 119 (.r [] 63 (.lit (.r
 [] 3 (.cnd (.r [] 2011 .nil) (.r [] 2011 .nil)))))))))))))) ([patP W H ks, .agg [.int .u8 a, .int .u8 b], .agg [.int .u8 k, .int .u8 l]]) ([.bool true]) ([])) (units (dim W) (dim H))) = (
 (fun (x0 : List Int) =>
 (fun (x1 : Nat) =>
 (fun (x2 : List AV) =>
 (0 ≤ W ∧ W ≤ 255 ∧ 0 ≤ H ∧ H ≤ 255 ∧ length ks = length ks ∧ u8s ks) ∧ s5 (dim W) (dim H) ∧ inR i64 a = true ∧ (!(↑x1 : Int) == 0) = true ∧ leb 0 (Int.tmod a (↑x1 : Int)) = true ∧ ltb (Int.tmod a (↑x1
 : Int)) (↑x1 : Int) = true ∧ ltn 0 (Cont.size (Cont.vals (flatU x0))) = true ∧ (drop (Int.toNat (Int.tmod a (↑x1 : Int)) * 2) (flatU x0))[0]? = some (AV.int i64 (uC x0 (Int.tmod a (↑x1 : Int)))) ∧
 (drop (Int.toNat (Int.tmod a (↑x1 : Int)) * 2) (flatU x0))[1]? = some (AV.int u8 (uE x0 (Int.tmod a (↑x1 : Int)))) ∧ inR i64 b = true ∧ (!(↑x1 : Int) == 0) = true ∧ leb 0 (Int.tmod b (↑x1 : Int)) =
 true ∧ ltb (Int.tmod b (↑x1 : Int)) (↑x1 : Int) = true ∧ ltn 0 (Cont.size (Cont.vals (flatU x0))) = true ∧ (drop (Int.toNat (Int.tmod b (↑x1 : Int)) * 2) (flatU x0))[0]? = some (AV.int i64 (uC x0
 (Int.tmod b (↑x1 : Int)))) ∧ (drop (Int.toNat (Int.tmod b (↑x1 : Int)) * 2) (flatU x0))[1]? = some (AV.int u8 (uE x0 (Int.tmod b (↑x1 : Int)))) ∧ length (ofL W H ks) = length (ofL W H ks) ∧ (s5 (dim
 W) (dim H) ∧ okV (dim W) (dim H) x2 (length (ofL W H ks)) ∧ 3 * uC x0 (Int.tmod a (↑x1 : Int)) + uE x0 (Int.tmod a (↑x1 : Int)) ∈ units (dim W) (dim H) ∧ 0 ≤ uE x0 (Int.tmod a (↑x1 : Int)) ∧ uE x0
 (Int.tmod a (↑x1 : Int)) ≤ 2 ∧ 0 ≤ Int.tmod k 4 ∧ Int.tmod k 4 ≤ 3) ∧ (s5 (dim W) (dim H) ∧ okV (dim W) (dim H) (flatC (setR (3 * uC x0 (Int.tmod a (↑x1 : Int)) + uE x0 (Int.tmod a (↑x1 : Int)))
 (Int.tmod k 4) (unC x2))) (length (setR (3 * uC x0 (Int.tmod a (↑x1 : Int)) + uE x0 (Int.tmod a (↑x1 : Int))) (Int.tmod k 4) (unC x2))) ∧ 3 * uC x0 (Int.tmod b (↑x1 : Int)) + uE x0 (Int.tmod b (↑x1 :
 Int)) ∈ units (dim W) (dim H) ∧ 0 ≤ uE x0 (Int.tmod b (↑x1 : Int)) ∧ uE x0 (Int.tmod b (↑x1 : Int)) ≤ 2 ∧ 0 ≤ Int.tmod l 4 ∧ Int.tmod l 4 ≤ 3) ∧ length (ofL W H ks) = length (ofL W H ks) ∧ (s5 (dim W)
 (dim H) ∧ okV (dim W) (dim H) x2 (length (ofL W H ks)) ∧ 3 * uC x0 (Int.tmod b (↑x1 : Int)) + uE x0 (Int.tmod b (↑x1 : Int)) ∈ units (dim W) (dim H) ∧ 0 ≤ uE x0 (Int.tmod b (↑x1 : Int)) ∧ uE x0
 (Int.tmod b (↑x1 : Int)) ≤ 2 ∧ 0 ≤ Int.tmod l 4 ∧ Int.tmod l 4 ≤ 3) ∧ (s5 (dim W) (dim H) ∧ okV (dim W) (dim H) (flatC (setR (3 * uC x0 (Int.tmod b (↑x1 : Int)) + uE x0 (Int.tmod b (↑x1 : Int)))
 (Int.tmod l 4) (unC x2))) (length (setR (3 * uC x0 (Int.tmod b (↑x1 : Int)) + uE x0 (Int.tmod b (↑x1 : Int))) (Int.tmod l 4) (unC x2))) ∧ 3 * uC x0 (Int.tmod a (↑x1 : Int)) + uE x0 (Int.tmod a (↑x1 :
 Int)) ∈ units (dim W) (dim H) ∧ 0 ≤ uE x0 (Int.tmod a (↑x1 : Int)) ∧ uE x0 (Int.tmod a (↑x1 : Int)) ≤ 2 ∧ 0 ≤ Int.tmod k 4 ∧ Int.tmod k 4 ≤ 3) ∧ ((uC x0 (Int.tmod a (↑x1 : Int)) == uC x0 (Int.tmod b
 (↑x1 : Int)) && uE x0 (Int.tmod a (↑x1 : Int)) == uE x0 (Int.tmod b (↑x1 : Int))) = true → (okA (flatC (setR (3 * uC x0 (Int.tmod b (↑x1 : Int)) + uE x0 (Int.tmod b (↑x1 : Int))) (Int.tmod l 4) (unC
 (flatC (setR (3 * uC x0 (Int.tmod a (↑x1 : Int)) + uE x0 (Int.tmod a (↑x1 : Int))) (Int.tmod k 4) (unC x2)))))) (length (setR (3 * uC x0 (Int.tmod b (↑x1 : Int)) + uE x0 (Int.tmod b (↑x1 : Int)))
 (Int.tmod l 4) (unC (flatC (setR (3 * uC x0 (Int.tmod a (↑x1 : Int)) + uE x0 (Int.tmod a (↑x1 : Int))) (Int.tmod k 4) (unC x2)))))) ∧ okA (flatC (setR (3 * uC x0 (Int.tmod b (↑x1 : Int)) + uE x0
 (Int.tmod b (↑x1 : Int))) (Int.tmod l 4) (unC x2))) (length (setR (3 * uC x0 (Int.tmod b (↑x1 : Int)) + uE x0 (Int.tmod b (↑x1 : Int))) (Int.tmod l 4) (unC x2))) ∧ dim W = dim W ∧ dim H = dim H ∧ unC
 (flatC (setR (3 * uC x0 (Int.tmod b (↑x1 : Int)) + uE x0 (Int.tmod b (↑x1 : Int))) (Int.tmod l 4) (unC (flatC (setR (3 * uC x0 (Int.tmod a (↑x1 : Int)) + uE x0 (Int.tmod a (↑x1 : Int))) (Int.tmod k 4)
 (unC x2)))))) = unC (flatC (setR (3 * uC x0 (Int.tmod b (↑x1 : Int)) + uE x0 (Int.tmod b (↑x1 : Int))) (Int.tmod l 4) (unC x2)))) ∧ (okA (flatC (setR (3 * uC x0 (Int.tmod a (↑x1 : Int)) + uE x0
 (Int.tmod a (↑x1 : Int))) (Int.tmod k 4) (unC (flatC (setR (3 * uC x0 (Int.tmod b (↑x1 : Int)) + uE x0 (Int.tmod b (↑x1 : Int))) (Int.tmod l 4) (unC x2)))))) (length (setR (3 * uC x0 (Int.tmod a (↑x1
 : Int)) + uE x0 (Int.tmod a (↑x1 : Int))) (Int.tmod k 4) (unC (flatC (setR (3 * uC x0 (Int.tmod b (↑x1 : Int)) + uE x0 (Int.tmod b (↑x1 : Int))) (Int.tmod l 4) (unC x2)))))) ∧ okA (flatC (setR (3 * uC
 x0 (Int.tmod a (↑x1 : Int)) + uE x0 (Int.tmod a (↑x1 : Int))) (Int.tmod k 4) (unC x2))) (length (setR (3 * uC x0 (Int.tmod a (↑x1 : Int)) + uE x0 (Int.tmod a (↑x1 : Int))) (Int.tmod k 4) (unC x2))) ∧
 dim W = dim W ∧ dim H = dim H ∧ unC (flatC (setR (3 * uC x0 (Int.tmod a (↑x1 : Int)) + uE x0 (Int.tmod a (↑x1 : Int))) (Int.tmod k 4) (unC (flatC (setR (3 * uC x0 (Int.tmod b (↑x1 : Int)) + uE x0
 (Int.tmod b (↑x1 : Int))) (Int.tmod l 4) (unC x2)))))) = unC (flatC (setR (3 * uC x0 (Int.tmod a (↑x1 : Int)) + uE x0 (Int.tmod a (↑x1 : Int))) (Int.tmod k 4) (unC x2)))) ∧ true = true ∧ True) ∧ ((uC
 x0 (Int.tmod a (↑x1 : Int)) == uC x0 (Int.tmod b (↑x1 : Int)) && uE x0 (Int.tmod a (↑x1 : Int)) == uE x0 (Int.tmod b (↑x1 : Int))) = false → (okA (flatC (setR (3 * uC x0 (Int.tmod b (↑x1 : Int)) + uE
 x0 (Int.tmod b (↑x1 : Int))) (Int.tmod l 4) (unC (flatC (setR (3 * uC x0 (Int.tmod a (↑x1 : Int)) + uE x0 (Int.tmod a (↑x1 : Int))) (Int.tmod k 4) (unC x2)))))) (length (setR (3 * uC x0 (Int.tmod b
 (↑x1 : Int)) + uE x0 (Int.tmod b (↑x1 : Int))) (Int.tmod l 4) (unC (flatC (setR (3 * uC x0 (Int.tmod a (↑x1 : Int)) + uE x0 (Int.tmod a (↑x1 : Int))) (Int.tmod k 4) (unC x2)))))) ∧ okA (flatC (setR (3
 * uC x0 (Int.tmod a (↑x1 : Int)) + uE x0 (Int.tmod a (↑x1 : Int))) (Int.tmod k 4) (unC (flatC (setR (3 * uC x0 (Int.tmod b (↑x1 : Int)) + uE x0 (Int.tmod b (↑x1 : Int))) (Int.tmod l 4) (unC x2))))))
 (length (setR (3 * uC x0 (Int.tmod a (↑x1 : Int)) + uE x0 (Int.tmod a (↑x1 : Int))) (Int.tmod k 4) (unC (flatC (setR (3 * uC x0 (Int.tmod b (↑x1 : Int)) + uE x0 (Int.tmod b (↑x1 : Int))) (Int.tmod l
 4) (unC x2)))))) ∧ dim W = dim W ∧ dim H = dim H ∧ unC (flatC (setR (3 * uC x0 (Int.tmod b (↑x1 : Int)) + uE x0 (Int.tmod b (↑x1 : Int))) (Int.tmod l 4) (unC (flatC (setR (3 * uC x0 (Int.tmod a (↑x1 :
 Int)) + uE x0 (Int.tmod a (↑x1 : Int))) (Int.tmod k 4) (unC x2)))))) = unC (flatC (setR (3 * uC x0 (Int.tmod a (↑x1 : Int)) + uE x0 (Int.tmod a (↑x1 : Int))) (Int.tmod k 4) (unC (flatC (setR (3 * uC
 x0 (Int.tmod b (↑x1 : Int)) + uE x0 (Int.tmod b (↑x1 : Int))) (Int.tmod l 4) (unC x2))))))) ∧ (okA (flatC (setR (3 * uC x0 (Int.tmod b (↑x1 : Int)) + uE x0 (Int.tmod b (↑x1 : Int))) (Int.tmod l 4)
 (unC (flatC (setR (3 * uC x0 (Int.tmod a (↑x1 : Int)) + uE x0 (Int.tmod a (↑x1 : Int))) (Int.tmod k 4) (unC x2)))))) (length (setR (3 * uC x0 (Int.tmod b (↑x1 : Int)) + uE x0 (Int.tmod b (↑x1 : Int)))
 (Int.tmod l 4) (unC (flatC (setR (3 * uC x0 (Int.tmod a (↑x1 : Int)) + uE x0 (Int.tmod a (↑x1 : Int))) (Int.tmod k 4) (unC x2)))))) ∧ okA (flatC (setR (3 * uC x0 (Int.tmod a (↑x1 : Int)) + uE x0
 (Int.tmod a (↑x1 : Int))) (Int.tmod k 4) (unC (flatC (setR (3 * uC x0 (Int.tmod b (↑x1 : Int)) + uE x0 (Int.tmod b (↑x1 : Int))) (Int.tmod l 4) (unC x2)))))) (length (setR (3 * uC x0 (Int.tmod a (↑x1
 : Int)) + uE x0 (Int.tmod a (↑x1 : Int))) (Int.tmod k 4) (unC (flatC (setR (3 * uC x0 (Int.tmod b (↑x1 : Int)) + uE x0 (Int.tmod b (↑x1 : Int))) (Int.tmod l 4) (unC x2)))))) ∧ dim W = dim W ∧ dim H =
 dim H ∧ unC (flatC (setR (3 * uC x0 (Int.tmod b (↑x1 : Int)) + uE x0 (Int.tmod b (↑x1 : Int))) (Int.tmod l 4) (unC (flatC (setR (3 * uC x0 (Int.tmod a (↑x1 : Int)) + uE x0 (Int.tmod a (↑x1 : Int)))
 (Int.tmod k 4) (unC x2)))))) = unC (flatC (setR (3 * uC x0 (Int.tmod a (↑x1 : Int)) + uE x0 (Int.tmod a (↑x1 : Int))) (Int.tmod k 4) (unC (flatC (setR (3 * uC x0 (Int.tmod b (↑x1 : Int)) + uE x0
 (Int.tmod b (↑x1 : Int))) (Int.tmod l 4) (unC x2))))))) ∧ true = true ∧ True)) (flatC (ofL W H ks))) (length x0)) (units (dim W) (dim H))) := by kernel_rfl

end Go.Proofs.YtfpcbimohikhmaaDoor.X
