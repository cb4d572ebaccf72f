/-
 What is to be shown of the functions (made by a program).
-/
import Derived.Test.YtfpcbimohikhmaaDoorD9Z
import Derived.KernelRfl
set_option maxRecDepth 1000000
set_option linter.unusedVariables false
namespace Go.Proofs.YtfpcbimohikhmaaDoor.X
open Go Go.Ab
open List IntKind

theorem ob_o7 (W H W2 H2 p q : Int) (ks ks2 : List Int) : ((fun (x0 : List Cr) =>
 (fun (x1 : List Cr) =>
 (fun (x2 : Pn) =>
 (fun (x3 : Pn) =>
 (fun (x4 : Int) =>
 (fun (x5 : Int) =>
 (fun (x6 : Pn) =>
 fnP (TB7) G 10000 fe7 (.r [] 0 (.r [] 53 (.r [yM 197, yM 198, yM 199, yM 200] 559 (.cnd (.r [] 5 (.r [] 23 (.r [] 207 (.r [] 3 (.jn (jB 11 (shEq (dim W) (dim H) x4 x5 && decide (length x1 = length
 x0))) [] [] (.rs 6 [] 3 63 (.r [] 53 .nil) (.r [] 3 .nil)) (fun b => (.r [] 0 (.lp (l7 (shEq (dim W) (dim H) x4 x5) x1 x0) [] [] (fun b_1 => (.r [yM 646] 5 (.cnd (.r [(772, .auto, Dr.val (crV x1
 b_1.i)), (777, .auto, Dr.val (crV x0 b_1.i))] 196865 (.jn (jB 11 (fitB (cC x1 b_1.i, cE x1 b_1.i, cK x1 b_1.i) (cC x0 b_1.i, cE x0 b_1.i, cK x0 b_1.i))) [13, 14] [] x3 (fun b_2 => x6))) (.r [yL 902,
 yL 903, yL 904, yL 905, yL 906, yL 907, yL 909, yL 910, yL 911, yL 912, yL 913, yL 915, yL 916, yL 917, yL 918, yM 919, yM 920, yM 921, yM 922, yM 923, yL 924] 1900445421134787 (.ff (.r [] 0 (.r [] 0
 (.lp (k7 x1) [] [] (fun b_2 => (.r [] 0 (.cnd (.r [] 0 (.r [] 0 (.lp (m7 x1 b_2.k) [] [] (fun b_3 => (.r [] 1 (.cnd (.r [(1541, .auto, Dr.val [AV.int u8 (cK x1 b_3.i)])] 1 (.cnd (.r [] 0 x6) x6)) (.r
 [] 1 (.ff (.r [] 0 x6))))))))) x2))))))))))))))))))) (.r [] 3 (.jn (jB 11 (shEq (dim W) (dim H) x4 x5 && decide (length x1 = length x0))) [] [] (.rs 6 [] 3 63 (.r [] 53 .nil) (.r [] 3 .nil)) (fun b =>
 (.r [] 0 (.lp (l7 (shEq (dim W) (dim H) x4 x5) x1 x0) [] [] (fun b_1 => (.r [yM 646] 5 (.cnd (.r [(772, .auto, Dr.val (crV x1 b_1.i)), (777, .auto, Dr.val (crV x0 b_1.i))] 196865 (.jn (jB 11 (fitB (cC
 x1 b_1.i, cE x1 b_1.i, cK x1 b_1.i) (cC x0 b_1.i, cE x0 b_1.i, cK x0 b_1.i))) [13, 14] [] x3 (fun b_2 => x6))) (.r [yL 902, yL 903, yL 904, yL 905, yL 906, yL 907, yL 909, yL 910, yL 911, yL 912, yL
 913, yL 915, yL 916, yL 917, yL 918, yM 919, yM 920, yM 921, yM 922, yM 923, yL 924] 1900445421134787 (.ff (.r [] 0 (.r [] 0 (.lp (k7 x1) [] [] (fun b_2 => (.r [] 0 (.cnd (.r [] 0 (.r [] 0 (.lp (m7 x1
 b_2.k) [] [] (fun b_3 => (.r [] 1 (.cnd (.r [(1541, .auto, Dr.val [AV.int u8 (cK x1 b_3.i)])] 1 (.cnd (.r [] 0 x6) x6)) (.r [] 1 (.ff (.r [] 0 x6))))))))) x2)))))))))))))))))))) ([patP W H ks, patP W2
 H2 ks2, .agg [.int .u8 p, .int .u8 q]]) ([.bool true]) ([])) (.r [] 0 .nil)) (bI (cS p x1) (dim H) (dim H2))) (bI (cS p x1) (dim W) (dim W2))) (.rs 6 [] 3 97 (.rs 7 [] 15 104 (.rs 6 [] 3 110 (.r [] 15 .nil) (.r [] 31 .nil)) (.r [] 3 .nil)) (.r [] 15 .nil))) (.r [yO 1862, yO 1863, yO 1864, yO 1865, yO 1866, yO 1867, (1868, .auto, Dr.pk true), yO 1870, (1871, .auto, Dr.pk true)] 5931273 .nil)) (ofL W H ks)) (bS p q (ofL W H ks) (ofL W2 H2 ks2))) = (
 (fun (x0 : List Cr) =>
 (fun (x1 : List Cr) =>
 (fun (x2 : Nat) =>
 (fun (x3 : List Cr) =>
 (fun (x4 : List AV) =>
 (fun (x5 : Int) =>
 (fun (x6 : Int) =>
 (fun (x7 : List AV) =>
 (0 ≤ W ∧ W ≤ 255 ∧ 0 ≤ H ∧ H ≤ 255 ∧ length ks = length ks ∧ u8s ks) ∧ (0 ≤ W2 ∧ W2 ≤ 255 ∧ 0 ≤ H2 ∧ H2 ≤ 255 ∧ length ks2 = length ks2 ∧ u8s ks2) ∧ (ltb 0 (Int.tmod p 3) = true → ltb 0 (Int.tmod p 3)
 = true) ∧ (ltb 0 (Int.tmod p 3) = true → ltb 0 (Int.tmod p 3) = true) ∧ (ltb 0 (Int.tmod p 3) = true → length x0 = length x0) ∧ (ltb 0 (Int.tmod p 3) = true → ltb 0 (Int.tmod p 3) = true) ∧ (bif ltb 0
 (Int.tmod p 3) then ltb 0 (Int.tmod p 3) && true else true) = true ∧ ((bif ltb 0 (Int.tmod p 3) then ltb 0 (↑x2 : Int) else false) = true → (0 ≤ W ∧ W ≤ 255 ∧ 0 ≤ H ∧ H ≤ 255 ∧ length ks = length ks ∧
 u8s ks) ∧ inR i64 q = true ∧ length x0 = length x0 ∧ (!(↑x2 : Int) == 0) = true ∧ inR i64 p = true ∧ inR i64 (Int.tdiv p 3) = true ∧ inR i64 (1 + Int.tmod (Int.tdiv p 3) 3) = true ∧ inR u8 (1 +
 Int.tmod (Int.tdiv p 3) 3) = true ∧ leb 0 (Int.tmod q (↑x2 : Int)) = true ∧ ltb (Int.tmod q (↑x2 : Int)) (↑x2 : Int) = true ∧ length x0 = length x0 ∧ length x0 = length x0 ∧ length x0 = length x0 ∧
 len' (Int.toNat (Int.tmod q (↑x2 : Int)) * 3 + 2 + 1) (Cont.size (Cont.vals x4)) = true ∧ length x0 = length x0 ∧ length x0 = length x0 ∧ (okA x4 x2 ∧ okA (set x4 (Int.toNat (Int.tmod q (↑x2 : Int)) *
 3 + 2) (AV.int u8 (1 + Int.tmod (Int.tdiv p 3) 3))) x2) ∧ (((dim W == dim W && dim H == dim H) = true → length x0 = length x0 ∧ length x0 = length x0 ∧ 1 = 1 ∧ W = W ∧ H = H ∧ Cont.ints u8 ks =
 Cont.ints u8 ks ∧ length ks = length ks ∧ 1 = 1 ∧ W2 = W2 ∧ H2 = H2 ∧ Cont.ints u8 ks2 = Cont.ints u8 ks2 ∧ length ks2 = length ks2 ∧ 1 = 1 ∧ p = p ∧ q = q ∧ length x0 = length x0 ∧ flatC x0 = flatC
 x0 ∧ length x1 = length x1 ∧ flatC x1 = flatC x1 ∧ 1 = 1 ∧ dim W = dim W ∧ dim H = dim H ∧ length x0 = length x0 ∧ 1 = 1 ∧ dim W = dim W ∧ dim H = dim H ∧ length x0 = length x0 ∧ length x0 = length x0
 ∧ set x4 (Int.toNat (Int.tmod q (↑x2 : Int)) * 3 + 2) (AV.int u8 (1 + Int.tmod (Int.tdiv p 3) 3)) = set x4 (Int.toNat (Int.tmod q (↑x2 : Int)) * 3 + 2) (AV.int u8 (1 + Int.tmod (Int.tdiv p 3) 3)) ∧ 0
 = 0 ∧ 0 = 0 ∧ (difI (dim W) (dim H) (dim W) (dim H) (unC x4) (unC (set x4 (Int.toNat (Int.tmod q (↑x2 : Int)) * 3 + 2) (AV.int u8 (1 + Int.tmod (Int.tdiv p 3) 3)))) == 0) = (difI (dim W) (dim H) (dim
 W) (dim H) (unC x4) (unC (set x4 (Int.toNat (Int.tmod q (↑x2 : Int)) * 3 + 2) (AV.int u8 (1 + Int.tmod (Int.tdiv p 3) 3)))) == 0) ∧ ((↑x2 : Int) == (↑x2 : Int)) = ((↑x2 : Int) == (↑x2 : Int)) ∧ ((↑x2
 : Int) == (↑x2 : Int)) = (shEq (dim W) (dim H) x5 x6 && decide (length x0 = length x3)) ∧ True) ∧ ((dim W == dim W && dim H == dim H) = false → 1 = 1 ∧ W = W ∧ H = H ∧ Cont.ints u8 ks = Cont.ints u8
 ks ∧ length ks = length ks ∧ 1 = 1 ∧ W2 = W2 ∧ H2 = H2 ∧ Cont.ints u8 ks2 = Cont.ints u8 ks2 ∧ length ks2 = length ks2 ∧ 1 = 1 ∧ p = p ∧ q = q ∧ length x0 = length x0 ∧ flatC x0 = flatC x0 ∧ length x1
 = length x1 ∧ flatC x1 = flatC x1 ∧ 1 = 1 ∧ dim W = dim W ∧ dim H = dim H ∧ length x0 = length x0 ∧ 1 = 1 ∧ dim W = dim W ∧ dim H = dim H ∧ length x0 = length x0 ∧ length x0 = length x0 ∧ set x4
 (Int.toNat (Int.tmod q (↑x2 : Int)) * 3 + 2) (AV.int u8 (1 + Int.tmod (Int.tdiv p 3) 3)) = set x4 (Int.toNat (Int.tmod q (↑x2 : Int)) * 3 + 2) (AV.int u8 (1 + Int.tmod (Int.tdiv p 3) 3)) ∧ 0 = 0 ∧ 0 =
 0 ∧ (difI (dim W) (dim H) (dim W) (dim H) (unC x4) (unC (set x4 (Int.toNat (Int.tmod q (↑x2 : Int)) * 3 + 2) (AV.int u8 (1 + Int.tmod (Int.tdiv p 3) 3)))) == 0) = (difI (dim W) (dim H) (dim W) (dim H)
 (unC x4) (unC (set x4 (Int.toNat (Int.tmod q (↑x2 : Int)) * 3 + 2) (AV.int u8 (1 + Int.tmod (Int.tdiv p 3) 3)))) == 0) ∧ false = false ∧ false = (shEq (dim W) (dim H) x5 x6 && decide (length x0 =
 length x3)) ∧ True)) ∧ ∀ (b : VB), b.v = (shEq (dim W) (dim H) x5 x6 && decide (length x0 = length x3)) → 1 = 1 ∧ W = W ∧ H = H ∧ Cont.ints u8 ks = Cont.ints u8 ks ∧ length ks = length ks ∧ 1 = 1 ∧ W2
 = W2 ∧ H2 = H2 ∧ Cont.ints u8 ks2 = Cont.ints u8 ks2 ∧ length ks2 = length ks2 ∧ 1 = 1 ∧ p = p ∧ q = q ∧ length x0 = length x0 ∧ flatC x0 = flatC x0 ∧ length x1 = length x1 ∧ flatC x1 = flatC x1 ∧ 1 =
 1 ∧ dim W = dim W ∧ dim H = dim H ∧ length x0 = length x0 ∧ 1 = 1 ∧ dim W = dim W ∧ dim H = dim H ∧ length x0 = length x0 ∧ length x0 = length x0 ∧ set x4 (Int.toNat (Int.tmod q (↑x2 : Int)) * 3 + 2)
 (AV.int u8 (1 + Int.tmod (Int.tdiv p 3) 3)) = set x4 (Int.toNat (Int.tmod q (↑x2 : Int)) * 3 + 2) (AV.int u8 (1 + Int.tmod (Int.tdiv p 3) 3)) ∧ 0 = 0 ∧ 0 = 0 ∧ (difI (dim W) (dim H) (dim W) (dim H)
 (unC x4) (unC (set x4 (Int.toNat (Int.tmod q (↑x2 : Int)) * 3 + 2) (AV.int u8 (1 + Int.tmod (Int.tdiv p 3) 3)))) == 0) = (difI (dim W) (dim H) (dim W) (dim H) (unC x4) (unC (set x4 (Int.toNat
 (Int.tmod q (↑x2 : Int)) * 3 + 2) (AV.int u8 (1 + Int.tmod (Int.tdiv p 3) 3)))) == 0) ∧ b.v = b.v ∧ iI 0 = 0 ∧ (∃ (n : Nat), 0 = (↑n : Int) ∧ n ≤ length x0 ∧ (b.v = true → shEq (dim W) (dim H) x5 x6 =
 true ∧ length x0 = length x3 ∧ fitL (drop n x0) (drop n x3) = fitL x0 x3) ∧ (b.v = false → (shEq (dim W) (dim H) x5 x6 && fitL x0 x3) = false)) ∧ ∀ (b_1 : L7), (∃ (n : Nat), b_1.i = (↑n : Int) ∧ n ≤
 length x0 ∧ (b_1.f = true → shEq (dim W) (dim H) x5 x6 = true ∧ length x0 = length x3 ∧ fitL (drop n x0) (drop n x3) = fitL x0 x3) ∧ (b_1.f = false → (shEq (dim W) (dim H) x5 x6 && fitL x0 x3) =
 false)) → length x0 = length x0 ∧ (bif ltb b_1.i (↑x2 : Int) then ltb b_1.i (↑x2 : Int) && true else true) = true ∧ ((bif ltb b_1.i (↑x2 : Int) then b_1.f else false) = true → leb 0 b_1.i = true ∧ ltb
 b_1.i (↑x2 : Int) = true ∧ length x0 = length x0 ∧ length x0 = length x0 ∧ x4[Int.toNat b_1.i * 3]? = some (AV.int i64 (cC x0 b_1.i)) ∧ x4[Int.toNat b_1.i * 3 + 1]? = some (AV.int u8 (cE x0 b_1.i)) ∧
 x4[Int.toNat b_1.i * 3 + 1 + 1]? = some (AV.int u8 (cK x0 b_1.i)) ∧ leb 0 b_1.i = true ∧ ltb b_1.i (↑x2 : Int) = true ∧ length x0 = length x0 ∧ length x0 = length x0 ∧ (set x4 (Int.toNat (Int.tmod q
 (↑x2 : Int)) * 3 + 2) (AV.int u8 (1 + Int.tmod (Int.tdiv p 3) 3)))[Int.toNat b_1.i * 3]? = some (AV.int i64 (cC x3 b_1.i)) ∧ (set x4 (Int.toNat (Int.tmod q (↑x2 : Int)) * 3 + 2) (AV.int u8 (1 +
 Int.tmod (Int.tdiv p 3) 3)))[Int.toNat b_1.i * 3 + 1]? = some (AV.int u8 (cE x3 b_1.i)) ∧ (set x4 (Int.toNat (Int.tmod q (↑x2 : Int)) * 3 + 2) (AV.int u8 (1 + Int.tmod (Int.tdiv p 3) 3)))[Int.toNat
 b_1.i * 3 + 1 + 1]? = some (AV.int u8 (cK x3 b_1.i)) ∧ (((cC x0 b_1.i == cC x3 b_1.i) = true → ((cE x0 b_1.i == cE x3 b_1.i) = true → ((cK x0 b_1.i == cK x3 b_1.i) = true → 1 = 1 ∧ W = W ∧ H = H ∧
 Cont.ints u8 ks = Cont.ints u8 ks ∧ length ks = length ks ∧ 1 = 1 ∧ W2 = W2 ∧ H2 = H2 ∧ Cont.ints u8 ks2 = Cont.ints u8 ks2 ∧ length ks2 = length ks2 ∧ 1 = 1 ∧ p = p ∧ q = q ∧ length x0 = length x0 ∧
 flatC x0 = flatC x0 ∧ length x1 = length x1 ∧ flatC x1 = flatC x1 ∧ 1 = 1 ∧ dim W = dim W ∧ dim H = dim H ∧ length x0 = length x0 ∧ 1 = 1 ∧ dim W = dim W ∧ dim H = dim H ∧ length x0 = length x0 ∧
 length x0 = length x0 ∧ set x4 (Int.toNat (Int.tmod q (↑x2 : Int)) * 3 + 2) (AV.int u8 (1 + Int.tmod (Int.tdiv p 3) 3)) = set x4 (Int.toNat (Int.tmod q (↑x2 : Int)) * 3 + 2) (AV.int u8 (1 + Int.tmod
 (Int.tdiv p 3) 3)) ∧ 1 = 1 ∧ cC x0 b_1.i = cC x0 b_1.i ∧ cE x0 b_1.i = cE x0 b_1.i ∧ cK x0 b_1.i = cK x0 b_1.i ∧ 1 = 1 ∧ cC x3 b_1.i = cC x3 b_1.i ∧ cE x3 b_1.i = cE x3 b_1.i ∧ cK x3 b_1.i = cK x3
 b_1.i ∧ 0 = 0 ∧ 0 = 0 ∧ (difI (dim W) (dim H) (dim W) (dim H) (unC x4) (unC (set x4 (Int.toNat (Int.tmod q (↑x2 : Int)) * 3 + 2) (AV.int u8 (1 + Int.tmod (Int.tdiv p 3) 3)))) == 0) = (difI (dim W)
 (dim H) (dim W) (dim H) (unC x4) (unC (set x4 (Int.toNat (Int.tmod q (↑x2 : Int)) * 3 + 2) (AV.int u8 (1 + Int.tmod (Int.tdiv p 3) 3)))) == 0) ∧ b_1.i = b_1.i ∧ ltb b_1.i (↑x2 : Int) = ltb b_1.i (↑x2
 : Int) ∧ b_1.f = b_1.f ∧ true = true ∧ true = fitB (cC x0 b_1.i, cE x0 b_1.i, cK x0 b_1.i) (cC x3 b_1.i, cE x3 b_1.i, cK x3 b_1.i) ∧ True) ∧ ((cK x0 b_1.i == cK x3 b_1.i) = false → 1 = 1 ∧ W = W ∧ H =
 H ∧ Cont.ints u8 ks = Cont.ints u8 ks ∧ length ks = length ks ∧ 1 = 1 ∧ W2 = W2 ∧ H2 = H2 ∧ Cont.ints u8 ks2 = Cont.ints u8 ks2 ∧ length ks2 = length ks2 ∧ 1 = 1 ∧ p = p ∧ q = q ∧ length x0 = length
 x0 ∧ flatC x0 = flatC x0 ∧ length x1 = length x1 ∧ flatC x1 = flatC x1 ∧ 1 = 1 ∧ dim W = dim W ∧ dim H = dim H ∧ length x0 = length x0 ∧ 1 = 1 ∧ dim W = dim W ∧ dim H = dim H ∧ length x0 = length x0 ∧
 length x0 = length x0 ∧ set x4 (Int.toNat (Int.tmod q (↑x2 : Int)) * 3 + 2) (AV.int u8 (1 + Int.tmod (Int.tdiv p 3) 3)) = set x4 (Int.toNat (Int.tmod q (↑x2 : Int)) * 3 + 2) (AV.int u8 (1 + Int.tmod
 (Int.tdiv p 3) 3)) ∧ 1 = 1 ∧ cC x0 b_1.i = cC x0 b_1.i ∧ cE x0 b_1.i = cE x0 b_1.i ∧ cK x0 b_1.i = cK x0 b_1.i ∧ 1 = 1 ∧ cC x3 b_1.i = cC x3 b_1.i ∧ cE x3 b_1.i = cE x3 b_1.i ∧ cK x3 b_1.i = cK x3
 b_1.i ∧ 0 = 0 ∧ 0 = 0 ∧ (difI (dim W) (dim H) (dim W) (dim H) (unC x4) (unC (set x4 (Int.toNat (Int.tmod q (↑x2 : Int)) * 3 + 2) (AV.int u8 (1 + Int.tmod (Int.tdiv p 3) 3)))) == 0) = (difI (dim W)
 (dim H) (dim W) (dim H) (unC x4) (unC (set x4 (Int.toNat (Int.tmod q (↑x2 : Int)) * 3 + 2) (AV.int u8 (1 + Int.tmod (Int.tdiv p 3) 3)))) == 0) ∧ b_1.i = b_1.i ∧ ltb b_1.i (↑x2 : Int) = ltb b_1.i (↑x2
 : Int) ∧ b_1.f = b_1.f ∧ (cK x3 b_1.i == 3) = (cK x3 b_1.i == 3) ∧ (cK x3 b_1.i == 3) = fitB (cC x0 b_1.i, cE x0 b_1.i, cK x0 b_1.i) (cC x3 b_1.i, cE x3 b_1.i, cK x3 b_1.i) ∧ True)) ∧ ((cE x0 b_1.i ==
 cE x3 b_1.i) = false → 1 = 1 ∧ W = W ∧ H = H ∧ Cont.ints u8 ks = Cont.ints u8 ks ∧ length ks = length ks ∧ 1 = 1 ∧ W2 = W2 ∧ H2 = H2 ∧ Cont.ints u8 ks2 = Cont.ints u8 ks2 ∧ length ks2 = length ks2 ∧ 1
 = 1 ∧ p = p ∧ q = q ∧ length x0 = length x0 ∧ flatC x0 = flatC x0 ∧ length x1 = length x1 ∧ flatC x1 = flatC x1 ∧ 1 = 1 ∧ dim W = dim W ∧ dim H = dim H ∧ length x0 = length x0 ∧ 1 = 1 ∧ dim W = dim W
 ∧ dim H = dim H ∧ length x0 = length x0 ∧ length x0 = length x0 ∧ set x4 (Int.toNat (Int.tmod q (↑x2 : Int)) * 3 + 2) (AV.int u8 (1 + Int.tmod (Int.tdiv p 3) 3)) = set x4 (Int.toNat (Int.tmod q (↑x2 :
 Int)) * 3 + 2) (AV.int u8 (1 + Int.tmod (Int.tdiv p 3) 3)) ∧ 1 = 1 ∧ cC x0 b_1.i = cC x0 b_1.i ∧ cE x0 b_1.i = cE x0 b_1.i ∧ cK x0 b_1.i = cK x0 b_1.i ∧ 1 = 1 ∧ cC x3 b_1.i = cC x3 b_1.i ∧ cE x3 b_1.i
 = cE x3 b_1.i ∧ cK x3 b_1.i = cK x3 b_1.i ∧ 0 = 0 ∧ 0 = 0 ∧ (difI (dim W) (dim H) (dim W) (dim H) (unC x4) (unC (set x4 (Int.toNat (Int.tmod q (↑x2 : Int)) * 3 + 2) (AV.int u8 (1 + Int.tmod (Int.tdiv
 p 3) 3)))) == 0) = (difI (dim W) (dim H) (dim W) (dim H) (unC x4) (unC (set x4 (Int.toNat (Int.tmod q (↑x2 : Int)) * 3 + 2) (AV.int u8 (1 + Int.tmod (Int.tdiv p 3) 3)))) == 0) ∧ b_1.i = b_1.i ∧ ltb
 b_1.i (↑x2 : Int) = ltb b_1.i (↑x2 : Int) ∧ b_1.f = b_1.f ∧ false = false ∧ false = fitB (cC x0 b_1.i, cE x0 b_1.i, cK x0 b_1.i) (cC x3 b_1.i, cE x3 b_1.i, cK x3 b_1.i) ∧ True)) ∧ ((cC x0 b_1.i == cC
 x3 b_1.i) = false → 1 = 1 ∧ W = W ∧ H = H ∧ Cont.ints u8 ks = Cont.ints u8 ks ∧ length ks = length ks ∧ 1 = 1 ∧ W2 = W2 ∧ H2 = H2 ∧ Cont.ints u8 ks2 = Cont.ints u8 ks2 ∧ length ks2 = length ks2 ∧ 1 =
 1 ∧ p = p ∧ q = q ∧ length x0 = length x0 ∧ flatC x0 = flatC x0 ∧ length x1 = length x1 ∧ flatC x1 = flatC x1 ∧ 1 = 1 ∧ dim W = dim W ∧ dim H = dim H ∧ length x0 = length x0 ∧ 1 = 1 ∧ dim W = dim W ∧
 dim H = dim H ∧ length x0 = length x0 ∧ length x0 = length x0 ∧ set x4 (Int.toNat (Int.tmod q (↑x2 : Int)) * 3 + 2) (AV.int u8 (1 + Int.tmod (Int.tdiv p 3) 3)) = set x4 (Int.toNat (Int.tmod q (↑x2 :
 Int)) * 3 + 2) (AV.int u8 (1 + Int.tmod (Int.tdiv p 3) 3)) ∧ 1 = 1 ∧ cC x0 b_1.i = cC x0 b_1.i ∧ cE x0 b_1.i = cE x0 b_1.i ∧ cK x0 b_1.i = cK x0 b_1.i ∧ 1 = 1 ∧ cC x3 b_1.i = cC x3 b_1.i ∧ cE x3 b_1.i
 = cE x3 b_1.i ∧ cK x3 b_1.i = cK x3 b_1.i ∧ 0 = 0 ∧ 0 = 0 ∧ (difI (dim W) (dim H) (dim W) (dim H) (unC x4) (unC (set x4 (Int.toNat (Int.tmod q (↑x2 : Int)) * 3 + 2) (AV.int u8 (1 + Int.tmod (Int.tdiv
 p 3) 3)))) == 0) = (difI (dim W) (dim H) (dim W) (dim H) (unC x4) (unC (set x4 (Int.toNat (Int.tmod q (↑x2 : Int)) * 3 + 2) (AV.int u8 (1 + Int.tmod (Int.tdiv p 3) 3)))) == 0) ∧ b_1.i = b_1.i ∧ ltb
 b_1.i (↑x2 : Int) = ltb b_1.i (↑x2 : Int) ∧ b_1.f = b_1.f ∧ false = false ∧ false = fitB (cC x0 b_1.i, cE x0 b_1.i, cK x0 b_1.i) (cC x3 b_1.i, cE x3 b_1.i, cK x3 b_1.i) ∧ True)) ∧ ∀ (b_2 : VB), b_2.v
 = fitB (cC x0 b_1.i, cE x0 b_1.i, cK x0 b_1.i) (cC x3 b_1.i, cE x3 b_1.i, cK x3 b_1.i) → inR i64 (b_1.i + 1) = true ∧ 1 = 1 ∧ W = W ∧ H = H ∧ Cont.ints u8 ks = Cont.ints u8 ks ∧ length ks = length ks
 ∧ 1 = 1 ∧ W2 = W2 ∧ H2 = H2 ∧ Cont.ints u8 ks2 = Cont.ints u8 ks2 ∧ length ks2 = length ks2 ∧ 1 = 1 ∧ p = p ∧ q = q ∧ length x0 = length x0 ∧ flatC x0 = flatC x0 ∧ length x1 = length x1 ∧ flatC x1 =
 flatC x1 ∧ 1 = 1 ∧ dim W = dim W ∧ dim H = dim H ∧ length x0 = length x0 ∧ 1 = 1 ∧ dim W = dim W ∧ dim H = dim H ∧ length x0 = length x0 ∧ length x0 = length x0 ∧ set x4 (Int.toNat (Int.tmod q (↑x2 :
 Int)) * 3 + 2) (AV.int u8 (1 + Int.tmod (Int.tdiv p 3) 3)) = set x4 (Int.toNat (Int.tmod q (↑x2 : Int)) * 3 + 2) (AV.int u8 (1 + Int.tmod (Int.tdiv p 3) 3)) ∧ 0 = 0 ∧ 0 = 0 ∧ (difI (dim W) (dim H)
 (dim W) (dim H) (unC x4) (unC (set x4 (Int.toNat (Int.tmod q (↑x2 : Int)) * 3 + 2) (AV.int u8 (1 + Int.tmod (Int.tdiv p 3) 3)))) == 0) = (difI (dim W) (dim H) (dim W) (dim H) (unC x4) (unC (set x4
 (Int.toNat (Int.tmod q (↑x2 : Int)) * 3 + 2) (AV.int u8 (1 + Int.tmod (Int.tdiv p 3) 3)))) == 0) ∧ b_2.v = b_2.v ∧ b_1.i + 1 = b_1.i + 1 ∧ (∃ (n : Nat), b_1.i + 1 = (↑n : Int) ∧ n ≤ length x0 ∧ (b_2.v
 = true → shEq (dim W) (dim H) x5 x6 = true ∧ length x0 = length x3 ∧ fitL (drop n x0) (drop n x3) = fitL x0 x3) ∧ (b_2.v = false → (shEq (dim W) (dim H) x5 x6 && fitL x0 x3) = false)) ∧ length x0 -
 Int.toNat (b_1.i + 1) < length x0 - Int.toNat b_1.i ∧ True) ∧ ((bif ltb b_1.i (↑x2 : Int) then b_1.f else false) = false → length x0 = length x0 ∧ length x0 = length x0 ∧ (okA x4 x2 ∧ okA (set x4
 (Int.toNat (Int.tmod q (↑x2 : Int)) * 3 + 2) (AV.int u8 (1 + Int.tmod (Int.tdiv p 3) 3))) x2) ∧ (!!(shEq (dim W) (dim H) (dim W) (dim H) && eqC (unC x4) (unC (set x4 (Int.toNat (Int.tmod q (↑x2 :
 Int)) * 3 + 2) (AV.int u8 (1 + Int.tmod (Int.tdiv p 3) 3))))) == (difI (dim W) (dim H) (dim W) (dim H) (unC x4) (unC (set x4 (Int.toNat (Int.tmod q (↑x2 : Int)) * 3 + 2) (AV.int u8 (1 + Int.tmod
 (Int.tdiv p 3) 3)))) == 0)) = true ∧ length x0 = length x0 ∧ length x0 = length x0 ∧ (okA x4 x2 ∧ okA (set x4 (Int.toNat (Int.tmod q (↑x2 : Int)) * 3 + 2) (AV.int u8 (1 + Int.tmod (Int.tdiv p 3) 3)))
 x2) ∧ (!!(shEq (dim W) (dim H) (dim W) (dim H) && fitL (unC x4) (unC (set x4 (Int.toNat (Int.tmod q (↑x2 : Int)) * 3 + 2) (AV.int u8 (1 + Int.tmod (Int.tdiv p 3) 3))))) == b_1.f) = true ∧ length x0 =
 length x0 ∧ length x0 = length x0 ∧ (okA x4 x2 ∧ okA x4 x2) ∧ (!!(shEq (dim W) (dim H) (dim W) (dim H) && fitL (unC x4) (unC x4))) = true ∧ length x0 = length x0 ∧ length x0 = length x0 ∧ (okA x4 x2 ∧
 okA (set x4 (Int.toNat (Int.tmod q (↑x2 : Int)) * 3 + 2) (AV.int u8 (1 + Int.tmod (Int.tdiv p 3) 3))) x2) ∧ ((shEq (dim W) (dim H) (dim W) (dim H) && fitL (unC x4) (unC (set x4 (Int.toNat (Int.tmod q
 (↑x2 : Int)) * 3 + 2) (AV.int u8 (1 + Int.tmod (Int.tdiv p 3) 3))))) = true → (shEq (dim W) (dim H) (dim W) (dim H) && fitL (unC x4) (unC (set x4 (Int.toNat (Int.tmod q (↑x2 : Int)) * 3 + 2) (AV.int
 u8 (1 + Int.tmod (Int.tdiv p 3) 3))))) = true) ∧ ((shEq (dim W) (dim H) (dim W) (dim H) && fitL (unC x4) (unC (set x4 (Int.toNat (Int.tmod q (↑x2 : Int)) * 3 + 2) (AV.int u8 (1 + Int.tmod (Int.tdiv p
 3) 3))))) = true → (shEq (dim W) (dim H) (dim W) (dim H) && fitL (unC x4) (unC (set x4 (Int.toNat (Int.tmod q (↑x2 : Int)) * 3 + 2) (AV.int u8 (1 + Int.tmod (Int.tdiv p 3) 3))))) = true) ∧ ((shEq (dim
 W) (dim H) (dim W) (dim H) && fitL (unC x4) (unC (set x4 (Int.toNat (Int.tmod q (↑x2 : Int)) * 3 + 2) (AV.int u8 (1 + Int.tmod (Int.tdiv p 3) 3))))) = true → length x0 = length x0) ∧ ((shEq (dim W)
 (dim H) (dim W) (dim H) && fitL (unC x4) (unC (set x4 (Int.toNat (Int.tmod q (↑x2 : Int)) * 3 + 2) (AV.int u8 (1 + Int.tmod (Int.tdiv p 3) 3))))) = true → length x0 = length x0) ∧ ((shEq (dim W) (dim
 H) (dim W) (dim H) && fitL (unC x4) (unC (set x4 (Int.toNat (Int.tmod q (↑x2 : Int)) * 3 + 2) (AV.int u8 (1 + Int.tmod (Int.tdiv p 3) 3))))) = true → okA (set x4 (Int.toNat (Int.tmod q (↑x2 : Int)) *
 3 + 2) (AV.int u8 (1 + Int.tmod (Int.tdiv p 3) 3))) x2 ∧ okA x4 x2) ∧ ((shEq (dim W) (dim H) (dim W) (dim H) && fitL (unC x4) (unC (set x4 (Int.toNat (Int.tmod q (↑x2 : Int)) * 3 + 2) (AV.int u8 (1 +
 Int.tmod (Int.tdiv p 3) 3))))) = true → (shEq (dim W) (dim H) (dim W) (dim H) && fitL (unC x4) (unC (set x4 (Int.toNat (Int.tmod q (↑x2 : Int)) * 3 + 2) (AV.int u8 (1 + Int.tmod (Int.tdiv p 3) 3)))))
 = true) ∧ ((shEq (dim W) (dim H) (dim W) (dim H) && fitL (unC x4) (unC (set x4 (Int.toNat (Int.tmod q (↑x2 : Int)) * 3 + 2) (AV.int u8 (1 + Int.tmod (Int.tdiv p 3) 3))))) = true → (shEq (dim W) (dim
 H) (dim W) (dim H) && fitL (unC x4) (unC (set x4 (Int.toNat (Int.tmod q (↑x2 : Int)) * 3 + 2) (AV.int u8 (1 + Int.tmod (Int.tdiv p 3) 3))))) = true) ∧ (bif shEq (dim W) (dim H) (dim W) (dim H) && fitL
 (unC x4) (unC (set x4 (Int.toNat (Int.tmod q (↑x2 : Int)) * 3 + 2) (AV.int u8 (1 + Int.tmod (Int.tdiv p 3) 3)))) then shEq (dim W) (dim H) (dim W) (dim H) && fitL (unC x4) (unC (set x4 (Int.toNat
 (Int.tmod q (↑x2 : Int)) * 3 + 2) (AV.int u8 (1 + Int.tmod (Int.tdiv p 3) 3)))) && true else true) = true ∧ (bif shEq (dim W) (dim H) (dim W) (dim H) && fitL (unC x4) (unC (set x4 (Int.toNat (Int.tmod
 q (↑x2 : Int)) * 3 + 2) (AV.int u8 (1 + Int.tmod (Int.tdiv p 3) 3)))) then !(shEq (dim W) (dim H) (dim W) (dim H) && fitL (unC (set x4 (Int.toNat (Int.tmod q (↑x2 : Int)) * 3 + 2) (AV.int u8 (1 +
 Int.tmod (Int.tdiv p 3) 3)))) (unC x4)) == (difI (dim W) (dim H) (dim W) (dim H) (unC x4) (unC (set x4 (Int.toNat (Int.tmod q (↑x2 : Int)) * 3 + 2) (AV.int u8 (1 + Int.tmod (Int.tdiv p 3) 3)))) == 0)
 else false) = false ∧ 1 = 1 ∧ W = W ∧ H = H ∧ Cont.ints u8 ks = Cont.ints u8 ks ∧ length ks = length ks ∧ 1 = 1 ∧ W2 = W2 ∧ H2 = H2 ∧ Cont.ints u8 ks2 = Cont.ints u8 ks2 ∧ length ks2 = length ks2 ∧ 1
 = 1 ∧ p = p ∧ q = q ∧ length x0 = length x0 ∧ flatC x0 = flatC x0 ∧ length x1 = length x1 ∧ flatC x1 = flatC x1 ∧ 1 = 1 ∧ dim W = dim W ∧ dim H = dim H ∧ length x0 = length x0 ∧ 1 = 1 ∧ dim W = dim W
 ∧ dim H = dim H ∧ length x0 = length x0 ∧ length x0 = length x0 ∧ set x4 (Int.toNat (Int.tmod q (↑x2 : Int)) * 3 + 2) (AV.int u8 (1 + Int.tmod (Int.tdiv p 3) 3)) = set x4 (Int.toNat (Int.tmod q (↑x2 :
 Int)) * 3 + 2) (AV.int u8 (1 + Int.tmod (Int.tdiv p 3) 3)) ∧ 0 = 0 ∧ ltb b_1.i (↑x2 : Int) = ltb b_1.i (↑x2 : Int) ∧ b_1.f = b_1.f ∧ ((bif ltb b_1.i (↑x2 : Int) then b_1.f else false) = bif ltb b_1.i
 (↑x2 : Int) then b_1.f else false) ∧ iI 0 = 0 ∧ iI 1 = 1 ∧ (∃ (n : Nat), 1 = (↑(n + 1) : Int) ∧ n ≤ 3 ∧ 0 = (↑(cumF x0 n) : Int)) ∧ ∀ (b_2 : L7k), (∃ (n : Nat), b_2.k = (↑(n + 1) : Int) ∧ n ≤ 3 ∧
 b_2.s = (↑(cumF x0 n) : Int)) → (leb b_2.k 3 = true → 1 = 1 ∧ W = W ∧ H = H ∧ Cont.ints u8 ks = Cont.ints u8 ks ∧ length ks = length ks ∧ 1 = 1 ∧ W2 = W2 ∧ H2 = H2 ∧ Cont.ints u8 ks2 = Cont.ints u8
 ks2 ∧ length ks2 = length ks2 ∧ 1 = 1 ∧ p = p ∧ q = q ∧ length x0 = length x0 ∧ flatC x0 = flatC x0 ∧ length x1 = length x1 ∧ flatC x1 = flatC x1 ∧ 1 = 1 ∧ dim W = dim W ∧ dim H = dim H ∧ length x0 =
 length x0 ∧ 1 = 1 ∧ dim W = dim W ∧ dim H = dim H ∧ length x0 = length x0 ∧ length x0 = length x0 ∧ set x4 (Int.toNat (Int.tmod q (↑x2 : Int)) * 3 + 2) (AV.int u8 (1 + Int.tmod (Int.tdiv p 3) 3)) =
 set x4 (Int.toNat (Int.tmod q (↑x2 : Int)) * 3 + 2) (AV.int u8 (1 + Int.tmod (Int.tdiv p 3) 3)) ∧ 0 = 0 ∧ ltb b_1.i (↑x2 : Int) = ltb b_1.i (↑x2 : Int) ∧ b_1.f = b_1.f ∧ ((bif ltb b_1.i (↑x2 : Int)
 then b_1.f else false) = bif ltb b_1.i (↑x2 : Int) then b_1.f else false) ∧ b_2.s = b_2.s ∧ b_2.k = b_2.k ∧ iI 0 = 0 ∧ iI 0 = 0 ∧ (∃ (n : Nat), 0 = (↑n : Int) ∧ n ≤ length x0 ∧ 0 = (↑(cntN (take n x0)
 b_2.k) : Int)) ∧ ∀ (b_3 : L2i), (∃ (n : Nat), b_3.i = (↑n : Int) ∧ n ≤ length x0 ∧ b_3.n = (↑(cntN (take n x0) b_2.k) : Int)) → length x0 = length x0 ∧ (ltb b_3.i (↑x2 : Int) = true → leb 0 b_3.i =
 true ∧ ltb b_3.i (↑x2 : Int) = true ∧ length x0 = length x0 ∧ length x0 = length x0 ∧ length x0 = length x0 ∧ x4[Int.toNat b_3.i * 3 + 2]? = some (AV.int u8 (cK x0 b_3.i)) ∧ ((cK x0 b_3.i == b_2.k) =
 true → inR i64 (b_3.n + 1) = true ∧ inR i64 (b_3.i + 1) = true ∧ 1 = 1 ∧ W = W ∧ H = H ∧ Cont.ints u8 ks = Cont.ints u8 ks ∧ length ks = length ks ∧ 1 = 1 ∧ W2 = W2 ∧ H2 = H2 ∧ Cont.ints u8 ks2 =
 Cont.ints u8 ks2 ∧ length ks2 = length ks2 ∧ 1 = 1 ∧ p = p ∧ q = q ∧ length x0 = length x0 ∧ flatC x0 = flatC x0 ∧ length x1 = length x1 ∧ flatC x1 = flatC x1 ∧ 1 = 1 ∧ dim W = dim W ∧ dim H = dim H ∧
 length x0 = length x0 ∧ 1 = 1 ∧ dim W = dim W ∧ dim H = dim H ∧ length x0 = length x0 ∧ length x0 = length x0 ∧ set x4 (Int.toNat (Int.tmod q (↑x2 : Int)) * 3 + 2) (AV.int u8 (1 + Int.tmod (Int.tdiv p
 3) 3)) = set x4 (Int.toNat (Int.tmod q (↑x2 : Int)) * 3 + 2) (AV.int u8 (1 + Int.tmod (Int.tdiv p 3) 3)) ∧ 0 = 0 ∧ ltb b_1.i (↑x2 : Int) = ltb b_1.i (↑x2 : Int) ∧ b_1.f = b_1.f ∧ ((bif ltb b_1.i (↑x2
 : Int) then b_1.f else false) = bif ltb b_1.i (↑x2 : Int) then b_1.f else false) ∧ b_2.s = b_2.s ∧ b_2.k = b_2.k ∧ b_3.n + 1 = b_3.n + 1 ∧ b_3.i + 1 = b_3.i + 1 ∧ (∃ (n : Nat), b_3.i + 1 = (↑n : Int)
 ∧ n ≤ length x0 ∧ b_3.n + 1 = (↑(cntN (take n x0) b_2.k) : Int)) ∧ length x0 - Int.toNat (b_3.i + 1) < length x0 - Int.toNat b_3.i ∧ True) ∧ ((cK x0 b_3.i == b_2.k) = false → inR i64 (b_3.i + 1) =
 true ∧ 1 = 1 ∧ W = W ∧ H = H ∧ Cont.ints u8 ks = Cont.ints u8 ks ∧ length ks = length ks ∧ 1 = 1 ∧ W2 = W2 ∧ H2 = H2 ∧ Cont.ints u8 ks2 = Cont.ints u8 ks2 ∧ length ks2 = length ks2 ∧ 1 = 1 ∧ p = p ∧ q
 = q ∧ length x0 = length x0 ∧ flatC x0 = flatC x0 ∧ length x1 = length x1 ∧ flatC x1 = flatC x1 ∧ 1 = 1 ∧ dim W = dim W ∧ dim H = dim H ∧ length x0 = length x0 ∧ 1 = 1 ∧ dim W = dim W ∧ dim H = dim H
 ∧ length x0 = length x0 ∧ length x0 = length x0 ∧ set x4 (Int.toNat (Int.tmod q (↑x2 : Int)) * 3 + 2) (AV.int u8 (1 + Int.tmod (Int.tdiv p 3) 3)) = set x4 (Int.toNat (Int.tmod q (↑x2 : Int)) * 3 + 2)
 (AV.int u8 (1 + Int.tmod (Int.tdiv p 3) 3)) ∧ 0 = 0 ∧ ltb b_1.i (↑x2 : Int) = ltb b_1.i (↑x2 : Int) ∧ b_1.f = b_1.f ∧ ((bif ltb b_1.i (↑x2 : Int) then b_1.f else false) = bif ltb b_1.i (↑x2 : Int)
 then b_1.f else false) ∧ b_2.s = b_2.s ∧ b_2.k = b_2.k ∧ b_3.n = b_3.n ∧ b_3.i + 1 = b_3.i + 1 ∧ (∃ (n : Nat), b_3.i + 1 = (↑n : Int) ∧ n ≤ length x0 ∧ b_3.n = (↑(cntN (take n x0) b_2.k) : Int)) ∧
 length x0 - Int.toNat (b_3.i + 1) < length x0 - Int.toNat b_3.i ∧ True)) ∧ (ltb b_3.i (↑x2 : Int) = false → length x0 = length x0 ∧ okA x4 x2 ∧ ((↑(cntN (unC x4) b_2.k) : Int) != b_3.n) = false ∧ inR
 i64 (b_2.s + b_3.n) = true ∧ inR u8 (b_2.k + 1) = true ∧ 1 = 1 ∧ W = W ∧ H = H ∧ Cont.ints u8 ks = Cont.ints u8 ks ∧ length ks = length ks ∧ 1 = 1 ∧ W2 = W2 ∧ H2 = H2 ∧ Cont.ints u8 ks2 = Cont.ints u8
 ks2 ∧ length ks2 = length ks2 ∧ 1 = 1 ∧ p = p ∧ q = q ∧ length x0 = length x0 ∧ flatC x0 = flatC x0 ∧ length x1 = length x1 ∧ flatC x1 = flatC x1 ∧ 1 = 1 ∧ dim W = dim W ∧ dim H = dim H ∧ length x0 =
 length x0 ∧ 1 = 1 ∧ dim W = dim W ∧ dim H = dim H ∧ length x0 = length x0 ∧ length x0 = length x0 ∧ set x4 (Int.toNat (Int.tmod q (↑x2 : Int)) * 3 + 2) (AV.int u8 (1 + Int.tmod (Int.tdiv p 3) 3)) =
 set x4 (Int.toNat (Int.tmod q (↑x2 : Int)) * 3 + 2) (AV.int u8 (1 + Int.tmod (Int.tdiv p 3) 3)) ∧ 0 = 0 ∧ ltb b_1.i (↑x2 : Int) = ltb b_1.i (↑x2 : Int) ∧ b_1.f = b_1.f ∧ ((bif ltb b_1.i (↑x2 : Int)
 then b_1.f else false) = bif ltb b_1.i (↑x2 : Int) then b_1.f else false) ∧ b_2.s + b_3.n = b_2.s + b_3.n ∧ b_2.k + 1 = b_2.k + 1 ∧ (∃ (n : Nat), b_2.k + 1 = (↑(n + 1) : Int) ∧ n ≤ 3 ∧ b_2.s + b_3.n =
 (↑(cumF x0 n) : Int)) ∧ 4 - Int.toNat (b_2.k + 1) < 4 - Int.toNat b_2.k ∧ True)) ∧ (leb b_2.k 3 = false → length x0 = length x0 ∧ (b_2.s == (↑x2 : Int)) = true ∧ (b_2.s == (↑x2 : Int)) = true ∧ length
 x0 = length x0 ∧ okA x4 x2 ∧ (b_2.s == (↑x2 : Int)) = true ∧ (b_2.s == (↑x2 : Int)) = true ∧ length x0 = length x0 ∧ okA x4 x2 ∧ (b_2.s == (↑x2 : Int)) = true ∧ inR i64 ((↑(cntN (unC x4) 0) : Int) +
 (↑(cntN (unC x4) 4) : Int)) = true ∧ (b_2.s == (↑x2 : Int)) = true ∧ (b_2.s == (↑x2 : Int)) = true ∧ ((↑(cntN (unC x4) 0) : Int) + (↑(cntN (unC x4) 4) : Int) == 0) = true ∧ ((↑(cntN (unC x4) 0) : Int)
 + (↑(cntN (unC x4) 4) : Int) == 0) = true ∧ true = true ∧ True))) ∧ ((bif ltb 0 (Int.tmod p 3) then ltb 0 (↑x2 : Int) else false) = false → length x0 = length x0 ∧ length x1 = length x1 ∧ (okA x4 x2 ∧
 okA x7 (length x1)) ∧ (((dim W == dim W2 && dim H == dim H2) = true → length x0 = length x0 ∧ length x1 = length x1 ∧ 1 = 1 ∧ W = W ∧ H = H ∧ Cont.ints u8 ks = Cont.ints u8 ks ∧ length ks = length ks
 ∧ 1 = 1 ∧ W2 = W2 ∧ H2 = H2 ∧ Cont.ints u8 ks2 = Cont.ints u8 ks2 ∧ length ks2 = length ks2 ∧ 1 = 1 ∧ p = p ∧ q = q ∧ length x0 = length x0 ∧ flatC x0 = flatC x0 ∧ length x1 = length x1 ∧ flatC x1 =
 flatC x1 ∧ 1 = 1 ∧ dim W = dim W ∧ dim H = dim H ∧ length x0 = length x0 ∧ 1 = 1 ∧ dim W2 = dim W2 ∧ dim H2 = dim H2 ∧ length x1 = length x1 ∧ 0 = 0 ∧ 0 = 0 ∧ (difI (dim W) (dim H) (dim W2) (dim H2)
 (unC x4) (unC x7) == 0) = (difI (dim W) (dim H) (dim W2) (dim H2) (unC x4) (unC x7) == 0) ∧ ((↑x2 : Int) == (↑(length x1) : Int)) = ((↑x2 : Int) == (↑(length x1) : Int)) ∧ ((↑x2 : Int) == (↑(length
 x1) : Int)) = (shEq (dim W) (dim H) x5 x6 && decide (length x0 = length x3)) ∧ True) ∧ ((dim W == dim W2 && dim H == dim H2) = false → 1 = 1 ∧ W = W ∧ H = H ∧ Cont.ints u8 ks = Cont.ints u8 ks ∧
 length ks = length ks ∧ 1 = 1 ∧ W2 = W2 ∧ H2 = H2 ∧ Cont.ints u8 ks2 = Cont.ints u8 ks2 ∧ length ks2 = length ks2 ∧ 1 = 1 ∧ p = p ∧ q = q ∧ length x0 = length x0 ∧ flatC x0 = flatC x0 ∧ length x1 =
 length x1 ∧ flatC x1 = flatC x1 ∧ 1 = 1 ∧ dim W = dim W ∧ dim H = dim H ∧ length x0 = length x0 ∧ 1 = 1 ∧ dim W2 = dim W2 ∧ dim H2 = dim H2 ∧ length x1 = length x1 ∧ 0 = 0 ∧ 0 = 0 ∧ (difI (dim W) (dim
 H) (dim W2) (dim H2) (unC x4) (unC x7) == 0) = (difI (dim W) (dim H) (dim W2) (dim H2) (unC x4) (unC x7) == 0) ∧ false = false ∧ false = (shEq (dim W) (dim H) x5 x6 && decide (length x0 = length x3))
 ∧ True)) ∧ ∀ (b : VB), b.v = (shEq (dim W) (dim H) x5 x6 && decide (length x0 = length x3)) → 1 = 1 ∧ W = W ∧ H = H ∧ Cont.ints u8 ks = Cont.ints u8 ks ∧ length ks = length ks ∧ 1 = 1 ∧ W2 = W2 ∧ H2 =
 H2 ∧ Cont.ints u8 ks2 = Cont.ints u8 ks2 ∧ length ks2 = length ks2 ∧ 1 = 1 ∧ p = p ∧ q = q ∧ length x0 = length x0 ∧ flatC x0 = flatC x0 ∧ length x1 = length x1 ∧ flatC x1 = flatC x1 ∧ 1 = 1 ∧ dim W =
 dim W ∧ dim H = dim H ∧ length x0 = length x0 ∧ 1 = 1 ∧ dim W2 = dim W2 ∧ dim H2 = dim H2 ∧ length x1 = length x1 ∧ 0 = 0 ∧ 0 = 0 ∧ (difI (dim W) (dim H) (dim W2) (dim H2) (unC x4) (unC x7) == 0) =
 (difI (dim W) (dim H) (dim W2) (dim H2) (unC x4) (unC x7) == 0) ∧ b.v = b.v ∧ iI 0 = 0 ∧ (∃ (n : Nat), 0 = (↑n : Int) ∧ n ≤ length x0 ∧ (b.v = true → shEq (dim W) (dim H) x5 x6 = true ∧ length x0 =
 length x3 ∧ fitL (drop n x0) (drop n x3) = fitL x0 x3) ∧ (b.v = false → (shEq (dim W) (dim H) x5 x6 && fitL x0 x3) = false)) ∧ ∀ (b_1 : L7), (∃ (n : Nat), b_1.i = (↑n : Int) ∧ n ≤ length x0 ∧ (b_1.f =
 true → shEq (dim W) (dim H) x5 x6 = true ∧ length x0 = length x3 ∧ fitL (drop n x0) (drop n x3) = fitL x0 x3) ∧ (b_1.f = false → (shEq (dim W) (dim H) x5 x6 && fitL x0 x3) = false)) → length x0 =
 length x0 ∧ (bif ltb b_1.i (↑x2 : Int) then ltb b_1.i (↑x2 : Int) && true else true) = true ∧ ((bif ltb b_1.i (↑x2 : Int) then b_1.f else false) = true → leb 0 b_1.i = true ∧ ltb b_1.i (↑x2 : Int) =
 true ∧ length x0 = length x0 ∧ length x0 = length x0 ∧ x4[Int.toNat b_1.i * 3]? = some (AV.int i64 (cC x0 b_1.i)) ∧ x4[Int.toNat b_1.i * 3 + 1]? = some (AV.int u8 (cE x0 b_1.i)) ∧ x4[Int.toNat b_1.i *
 3 + 1 + 1]? = some (AV.int u8 (cK x0 b_1.i)) ∧ leb 0 b_1.i = true ∧ ltb b_1.i (↑(length x1) : Int) = true ∧ length x1 = length x1 ∧ length x1 = length x1 ∧ x7[Int.toNat b_1.i * 3]? = some (AV.int i64
 (cC x3 b_1.i)) ∧ x7[Int.toNat b_1.i * 3 + 1]? = some (AV.int u8 (cE x3 b_1.i)) ∧ x7[Int.toNat b_1.i * 3 + 1 + 1]? = some (AV.int u8 (cK x3 b_1.i)) ∧ (((cC x0 b_1.i == cC x3 b_1.i) = true → ((cE x0
 b_1.i == cE x3 b_1.i) = true → ((cK x0 b_1.i == cK x3 b_1.i) = true → 1 = 1 ∧ W = W ∧ H = H ∧ Cont.ints u8 ks = Cont.ints u8 ks ∧ length ks = length ks ∧ 1 = 1 ∧ W2 = W2 ∧ H2 = H2 ∧ Cont.ints u8 ks2 =
 Cont.ints u8 ks2 ∧ length ks2 = length ks2 ∧ 1 = 1 ∧ p = p ∧ q = q ∧ length x0 = length x0 ∧ flatC x0 = flatC x0 ∧ length x1 = length x1 ∧ flatC x1 = flatC x1 ∧ 1 = 1 ∧ dim W = dim W ∧ dim H = dim H ∧
 length x0 = length x0 ∧ 1 = 1 ∧ dim W2 = dim W2 ∧ dim H2 = dim H2 ∧ length x1 = length x1 ∧ 1 = 1 ∧ cC x0 b_1.i = cC x0 b_1.i ∧ cE x0 b_1.i = cE x0 b_1.i ∧ cK x0 b_1.i = cK x0 b_1.i ∧ 1 = 1 ∧ cC x3
 b_1.i = cC x3 b_1.i ∧ cE x3 b_1.i = cE x3 b_1.i ∧ cK x3 b_1.i = cK x3 b_1.i ∧ 0 = 0 ∧ 0 = 0 ∧ (difI (dim W) (dim H) (dim W2) (dim H2) (unC x4) (unC x7) == 0) = (difI (dim W) (dim H) (dim W2) (dim H2)
 (unC x4) (unC x7) == 0) ∧ b_1.i = b_1.i ∧ ltb b_1.i (↑x2 : Int) = ltb b_1.i (↑x2 : Int) ∧ b_1.f = b_1.f ∧ true = true ∧ true = fitB (cC x0 b_1.i, cE x0 b_1.i, cK x0 b_1.i) (cC x3 b_1.i, cE x3 b_1.i,
 cK x3 b_1.i) ∧ True) ∧ ((cK x0 b_1.i == cK x3 b_1.i) = false → 1 = 1 ∧ W = W ∧ H = H ∧ Cont.ints u8 ks = Cont.ints u8 ks ∧ length ks = length ks ∧ 1 = 1 ∧ W2 = W2 ∧ H2 = H2 ∧ Cont.ints u8 ks2 =
 Cont.ints u8 ks2 ∧ length ks2 = length ks2 ∧ 1 = 1 ∧ p = p ∧ q = q ∧ length x0 = length x0 ∧ flatC x0 = flatC x0 ∧ length x1 = length x1 ∧ flatC x1 = flatC x1 ∧ 1 = 1 ∧ dim W = dim W ∧ dim H = dim H ∧
 length x0 = length x0 ∧ 1 = 1 ∧ dim W2 = dim W2 ∧ dim H2 = dim H2 ∧ length x1 = length x1 ∧ 1 = 1 ∧ cC x0 b_1.i = cC x0 b_1.i ∧ cE x0 b_1.i = cE x0 b_1.i ∧ cK x0 b_1.i = cK x0 b_1.i ∧ 1 = 1 ∧ cC x3
 b_1.i = cC x3 b_1.i ∧ cE x3 b_1.i = cE x3 b_1.i ∧ cK x3 b_1.i = cK x3 b_1.i ∧ 0 = 0 ∧ 0 = 0 ∧ (difI (dim W) (dim H) (dim W2) (dim H2) (unC x4) (unC x7) == 0) = (difI (dim W) (dim H) (dim W2) (dim H2)
 (unC x4) (unC x7) == 0) ∧ b_1.i = b_1.i ∧ ltb b_1.i (↑x2 : Int) = ltb b_1.i (↑x2 : Int) ∧ b_1.f = b_1.f ∧ (cK x3 b_1.i == 3) = (cK x3 b_1.i == 3) ∧ (cK x3 b_1.i == 3) = fitB (cC x0 b_1.i, cE x0 b_1.i,
 cK x0 b_1.i) (cC x3 b_1.i, cE x3 b_1.i, cK x3 b_1.i) ∧ True)) ∧ ((cE x0 b_1.i == cE x3 b_1.i) = false → 1 = 1 ∧ W = W ∧ H = H ∧ Cont.ints u8 ks = Cont.ints u8 ks ∧ length ks = length ks ∧ 1 = 1 ∧ W2 =
 W2 ∧ H2 = H2 ∧ Cont.ints u8 ks2 = Cont.ints u8 ks2 ∧ length ks2 = length ks2 ∧ 1 = 1 ∧ p = p ∧ q = q ∧ length x0 = length x0 ∧ flatC x0 = flatC x0 ∧ length x1 = length x1 ∧ flatC x1 = flatC x1 ∧ 1 = 1
 ∧ dim W = dim W ∧ dim H = dim H ∧ length x0 = length x0 ∧ 1 = 1 ∧ dim W2 = dim W2 ∧ dim H2 = dim H2 ∧ length x1 = length x1 ∧ 1 = 1 ∧ cC x0 b_1.i = cC x0 b_1.i ∧ cE x0 b_1.i = cE x0 b_1.i ∧ cK x0
 b_1.i = cK x0 b_1.i ∧ 1 = 1 ∧ cC x3 b_1.i = cC x3 b_1.i ∧ cE x3 b_1.i = cE x3 b_1.i ∧ cK x3 b_1.i = cK x3 b_1.i ∧ 0 = 0 ∧ 0 = 0 ∧ (difI (dim W) (dim H) (dim W2) (dim H2) (unC x4) (unC x7) == 0) =
 (difI (dim W) (dim H) (dim W2) (dim H2) (unC x4) (unC x7) == 0) ∧ b_1.i = b_1.i ∧ ltb b_1.i (↑x2 : Int) = ltb b_1.i (↑x2 : Int) ∧ b_1.f = b_1.f ∧ false = false ∧ false = fitB (cC x0 b_1.i, cE x0
 b_1.i, cK x0 b_1.i) (cC x3 b_1.i, cE x3 b_1.i, cK x3 b_1.i) ∧ True)) ∧ ((cC x0 b_1.i == cC x3 b_1.i) = false → 1 = 1 ∧ W = W ∧ H = H ∧ Cont.ints u8 ks = Cont.ints u8 ks ∧ length ks = length ks ∧ 1 = 1
 ∧ W2 = W2 ∧ H2 = H2 ∧ Cont.ints u8 ks2 = Cont.ints u8 ks2 ∧ length ks2 = length ks2 ∧ 1 = 1 ∧ p = p ∧ q = q ∧ length x0 = length x0 ∧ flatC x0 = flatC x0 ∧ length x1 = length x1 ∧ flatC x1 = flatC x1
 ∧ 1 = 1 ∧ dim W = dim W ∧ dim H = dim H ∧ length x0 = length x0 ∧ 1 = 1 ∧ dim W2 = dim W2 ∧ dim H2 = dim H2 ∧ length x1 = length x1 ∧ 1 = 1 ∧ cC x0 b_1.i = cC x0 b_1.i ∧ cE x0 b_1.i = cE x0 b_1.i ∧ cK
 x0 b_1.i = cK x0 b_1.i ∧ 1 = 1 ∧ cC x3 b_1.i = cC x3 b_1.i ∧ cE x3 b_1.i = cE x3 b_1.i ∧ cK x3 b_1.i = cK x3 b_1.i ∧ 0 = 0 ∧ 0 = 0 ∧ (difI (dim W) (dim H) (dim W2) (dim H2) (unC x4) (unC x7) == 0) =
 (difI (dim W) (dim H) (dim W2) (dim H2) (unC x4) (unC x7) == 0) ∧ b_1.i = b_1.i ∧ ltb b_1.i (↑x2 : Int) = ltb b_1.i (↑x2 : Int) ∧ b_1.f = b_1.f ∧ false = false ∧ false = fitB (cC x0 b_1.i, cE x0
 b_1.i, cK x0 b_1.i) (cC x3 b_1.i, cE x3 b_1.i, cK x3 b_1.i) ∧ True)) ∧ ∀ (b_2 : VB), b_2.v = fitB (cC x0 b_1.i, cE x0 b_1.i, cK x0 b_1.i) (cC x3 b_1.i, cE x3 b_1.i, cK x3 b_1.i) → inR i64 (b_1.i + 1)
 = true ∧ 1 = 1 ∧ W = W ∧ H = H ∧ Cont.ints u8 ks = Cont.ints u8 ks ∧ length ks = length ks ∧ 1 = 1 ∧ W2 = W2 ∧ H2 = H2 ∧ Cont.ints u8 ks2 = Cont.ints u8 ks2 ∧ length ks2 = length ks2 ∧ 1 = 1 ∧ p = p ∧
 q = q ∧ length x0 = length x0 ∧ flatC x0 = flatC x0 ∧ length x1 = length x1 ∧ flatC x1 = flatC x1 ∧ 1 = 1 ∧ dim W = dim W ∧ dim H = dim H ∧ length x0 = length x0 ∧ 1 = 1 ∧ dim W2 = dim W2 ∧ dim H2 =
 dim H2 ∧ length x1 = length x1 ∧ 0 = 0 ∧ 0 = 0 ∧ (difI (dim W) (dim H) (dim W2) (dim H2) (unC x4) (unC x7) == 0) = (difI (dim W) (dim H) (dim W2) (dim H2) (unC x4) (unC x7) == 0) ∧ b_2.v = b_2.v ∧
 b_1.i + 1 = b_1.i + 1 ∧ (∃ (n : Nat), b_1.i + 1 = (↑n : Int) ∧ n ≤ length x0 ∧ (b_2.v = true → shEq (dim W) (dim H) x5 x6 = true ∧ length x0 = length x3 ∧ fitL (drop n x0) (drop n x3) = fitL x0 x3) ∧
 (b_2.v = false → (shEq (dim W) (dim H) x5 x6 && fitL x0 x3) = false)) ∧ length x0 - Int.toNat (b_1.i + 1) < length x0 - Int.toNat b_1.i ∧ True) ∧ ((bif ltb b_1.i (↑x2 : Int) then b_1.f else false) =
 false → length x0 = length x0 ∧ length x1 = length x1 ∧ (okA x4 x2 ∧ okA x7 (length x1)) ∧ (!!(shEq (dim W) (dim H) (dim W2) (dim H2) && eqC (unC x4) (unC x7)) == (difI (dim W) (dim H) (dim W2) (dim
 H2) (unC x4) (unC x7) == 0)) = true ∧ length x0 = length x0 ∧ length x1 = length x1 ∧ (okA x4 x2 ∧ okA x7 (length x1)) ∧ (!!(shEq (dim W) (dim H) (dim W2) (dim H2) && fitL (unC x4) (unC x7)) == b_1.f)
 = true ∧ length x0 = length x0 ∧ length x0 = length x0 ∧ (okA x4 x2 ∧ okA x4 x2) ∧ (!!(shEq (dim W) (dim H) (dim W) (dim H) && fitL (unC x4) (unC x4))) = true ∧ length x0 = length x0 ∧ length x1 =
 length x1 ∧ (okA x4 x2 ∧ okA x7 (length x1)) ∧ ((shEq (dim W) (dim H) (dim W2) (dim H2) && fitL (unC x4) (unC x7)) = true → (shEq (dim W) (dim H) (dim W2) (dim H2) && fitL (unC x4) (unC x7)) = true) ∧
 ((shEq (dim W) (dim H) (dim W2) (dim H2) && fitL (unC x4) (unC x7)) = true → (shEq (dim W) (dim H) (dim W2) (dim H2) && fitL (unC x4) (unC x7)) = true) ∧ ((shEq (dim W) (dim H) (dim W2) (dim H2) &&
 fitL (unC x4) (unC x7)) = true → length x1 = length x1) ∧ ((shEq (dim W) (dim H) (dim W2) (dim H2) && fitL (unC x4) (unC x7)) = true → length x0 = length x0) ∧ ((shEq (dim W) (dim H) (dim W2) (dim H2)
 && fitL (unC x4) (unC x7)) = true → okA x7 (length x1) ∧ okA x4 x2) ∧ ((shEq (dim W) (dim H) (dim W2) (dim H2) && fitL (unC x4) (unC x7)) = true → (shEq (dim W) (dim H) (dim W2) (dim H2) && fitL (unC
 x4) (unC x7)) = true) ∧ ((shEq (dim W) (dim H) (dim W2) (dim H2) && fitL (unC x4) (unC x7)) = true → (shEq (dim W) (dim H) (dim W2) (dim H2) && fitL (unC x4) (unC x7)) = true) ∧ (bif shEq (dim W) (dim
 H) (dim W2) (dim H2) && fitL (unC x4) (unC x7) then shEq (dim W) (dim H) (dim W2) (dim H2) && fitL (unC x4) (unC x7) && true else true) = true ∧ (bif shEq (dim W) (dim H) (dim W2) (dim H2) && fitL
 (unC x4) (unC x7) then !(shEq (dim W2) (dim H2) (dim W) (dim H) && fitL (unC x7) (unC x4)) == (difI (dim W) (dim H) (dim W2) (dim H2) (unC x4) (unC x7) == 0) else false) = false ∧ 1 = 1 ∧ W = W ∧ H =
 H ∧ Cont.ints u8 ks = Cont.ints u8 ks ∧ length ks = length ks ∧ 1 = 1 ∧ W2 = W2 ∧ H2 = H2 ∧ Cont.ints u8 ks2 = Cont.ints u8 ks2 ∧ length ks2 = length ks2 ∧ 1 = 1 ∧ p = p ∧ q = q ∧ length x0 = length
 x0 ∧ flatC x0 = flatC x0 ∧ length x1 = length x1 ∧ flatC x1 = flatC x1 ∧ 1 = 1 ∧ dim W = dim W ∧ dim H = dim H ∧ length x0 = length x0 ∧ 1 = 1 ∧ dim W2 = dim W2 ∧ dim H2 = dim H2 ∧ length x1 = length
 x1 ∧ 0 = 0 ∧ ltb b_1.i (↑x2 : Int) = ltb b_1.i (↑x2 : Int) ∧ b_1.f = b_1.f ∧ ((bif ltb b_1.i (↑x2 : Int) then b_1.f else false) = bif ltb b_1.i (↑x2 : Int) then b_1.f else false) ∧ iI 0 = 0 ∧ iI 1 = 1
 ∧ (∃ (n : Nat), 1 = (↑(n + 1) : Int) ∧ n ≤ 3 ∧ 0 = (↑(cumF x0 n) : Int)) ∧ ∀ (b_2 : L7k), (∃ (n : Nat), b_2.k = (↑(n + 1) : Int) ∧ n ≤ 3 ∧ b_2.s = (↑(cumF x0 n) : Int)) → (leb b_2.k 3 = true → 1 = 1 ∧
 W = W ∧ H = H ∧ Cont.ints u8 ks = Cont.ints u8 ks ∧ length ks = length ks ∧ 1 = 1 ∧ W2 = W2 ∧ H2 = H2 ∧ Cont.ints u8 ks2 = Cont.ints u8 ks2 ∧ length ks2 = length ks2 ∧ 1 = 1 ∧ p = p ∧ q = q ∧ length
 x0 = length x0 ∧ flatC x0 = flatC x0 ∧ length x1 = length x1 ∧ flatC x1 = flatC x1 ∧ 1 = 1 ∧ dim W = dim W ∧ dim H = dim H ∧ length x0 = length x0 ∧ 1 = 1 ∧ dim W2 = dim W2 ∧ dim H2 = dim H2 ∧ length
 x1 = length x1 ∧ 0 = 0 ∧ ltb b_1.i (↑x2 : Int) = ltb b_1.i (↑x2 : Int) ∧ b_1.f = b_1.f ∧ ((bif ltb b_1.i (↑x2 : Int) then b_1.f else false) = bif ltb b_1.i (↑x2 : Int) then b_1.f else false) ∧ b_2.s =
 b_2.s ∧ b_2.k = b_2.k ∧ iI 0 = 0 ∧ iI 0 = 0 ∧ (∃ (n : Nat), 0 = (↑n : Int) ∧ n ≤ length x0 ∧ 0 = (↑(cntN (take n x0) b_2.k) : Int)) ∧ ∀ (b_3 : L2i), (∃ (n : Nat), b_3.i = (↑n : Int) ∧ n ≤ length x0 ∧
 b_3.n = (↑(cntN (take n x0) b_2.k) : Int)) → length x0 = length x0 ∧ (ltb b_3.i (↑x2 : Int) = true → leb 0 b_3.i = true ∧ ltb b_3.i (↑x2 : Int) = true ∧ length x0 = length x0 ∧ length x0 = length x0 ∧
 length x0 = length x0 ∧ x4[Int.toNat b_3.i * 3 + 2]? = some (AV.int u8 (cK x0 b_3.i)) ∧ ((cK x0 b_3.i == b_2.k) = true → inR i64 (b_3.n + 1) = true ∧ inR i64 (b_3.i + 1) = true ∧ 1 = 1 ∧ W = W ∧ H = H
 ∧ Cont.ints u8 ks = Cont.ints u8 ks ∧ length ks = length ks ∧ 1 = 1 ∧ W2 = W2 ∧ H2 = H2 ∧ Cont.ints u8 ks2 = Cont.ints u8 ks2 ∧ length ks2 = length ks2 ∧ 1 = 1 ∧ p = p ∧ q = q ∧ length x0 = length x0
 ∧ flatC x0 = flatC x0 ∧ length x1 = length x1 ∧ flatC x1 = flatC x1 ∧ 1 = 1 ∧ dim W = dim W ∧ dim H = dim H ∧ length x0 = length x0 ∧ 1 = 1 ∧ dim W2 = dim W2 ∧ dim H2 = dim H2 ∧ length x1 = length x1
 ∧ 0 = 0 ∧ ltb b_1.i (↑x2 : Int) = ltb b_1.i (↑x2 : Int) ∧ b_1.f = b_1.f ∧ ((bif ltb b_1.i (↑x2 : Int) then b_1.f else false) = bif ltb b_1.i (↑x2 : Int) then b_1.f else false) ∧ b_2.s = b_2.s ∧ b_2.k
 = b_2.k ∧ b_3.n + 1 = b_3.n + 1 ∧ b_3.i + 1 = b_3.i + 1 ∧ (∃ (n : Nat), b_3.i + 1 = (↑n : Int) ∧ n ≤ length x0 ∧ b_3.n + 1 = (↑(cntN (take n x0) b_2.k) : Int)) ∧ length x0 - Int.toNat (b_3.i + 1) <
 length x0 - Int.toNat b_3.i ∧ True) ∧ ((cK x0 b_3.i == b_2.k) = false → inR i64 (b_3.i + 1) = true ∧ 1 = 1 ∧ W = W ∧ H = H ∧ Cont.ints u8 ks = Cont.ints u8 ks ∧ length ks = length ks ∧ 1 = 1 ∧ W2 = W2
 ∧ H2 = H2 ∧ Cont.ints u8 ks2 = Cont.ints u8 ks2 ∧ length ks2 = length ks2 ∧ 1 = 1 ∧ p = p ∧ q = q ∧ length x0 = length x0 ∧ flatC x0 = flatC x0 ∧ length x1 = length x1 ∧ flatC x1 = flatC x1 ∧ 1 = 1 ∧
 dim W = dim W ∧ dim H = dim H ∧ length x0 = length x0 ∧ 1 = 1 ∧ dim W2 = dim W2 ∧ dim H2 = dim H2 ∧ length x1 = length x1 ∧ 0 = 0 ∧ ltb b_1.i (↑x2 : Int) = ltb b_1.i (↑x2 : Int) ∧ b_1.f = b_1.f ∧
 ((bif ltb b_1.i (↑x2 : Int) then b_1.f else false) = bif ltb b_1.i (↑x2 : Int) then b_1.f else false) ∧ b_2.s = b_2.s ∧ b_2.k = b_2.k ∧ b_3.n = b_3.n ∧ b_3.i + 1 = b_3.i + 1 ∧ (∃ (n : Nat), b_3.i + 1
 = (↑n : Int) ∧ n ≤ length x0 ∧ b_3.n = (↑(cntN (take n x0) b_2.k) : Int)) ∧ length x0 - Int.toNat (b_3.i + 1) < length x0 - Int.toNat b_3.i ∧ True)) ∧ (ltb b_3.i (↑x2 : Int) = false → length x0 =
 length x0 ∧ okA x4 x2 ∧ ((↑(cntN (unC x4) b_2.k) : Int) != b_3.n) = false ∧ inR i64 (b_2.s + b_3.n) = true ∧ inR u8 (b_2.k + 1) = true ∧ 1 = 1 ∧ W = W ∧ H = H ∧ Cont.ints u8 ks = Cont.ints u8 ks ∧
 length ks = length ks ∧ 1 = 1 ∧ W2 = W2 ∧ H2 = H2 ∧ Cont.ints u8 ks2 = Cont.ints u8 ks2 ∧ length ks2 = length ks2 ∧ 1 = 1 ∧ p = p ∧ q = q ∧ length x0 = length x0 ∧ flatC x0 = flatC x0 ∧ length x1 =
 length x1 ∧ flatC x1 = flatC x1 ∧ 1 = 1 ∧ dim W = dim W ∧ dim H = dim H ∧ length x0 = length x0 ∧ 1 = 1 ∧ dim W2 = dim W2 ∧ dim H2 = dim H2 ∧ length x1 = length x1 ∧ 0 = 0 ∧ ltb b_1.i (↑x2 : Int) =
 ltb b_1.i (↑x2 : Int) ∧ b_1.f = b_1.f ∧ ((bif ltb b_1.i (↑x2 : Int) then b_1.f else false) = bif ltb b_1.i (↑x2 : Int) then b_1.f else false) ∧ b_2.s + b_3.n = b_2.s + b_3.n ∧ b_2.k + 1 = b_2.k + 1 ∧
 (∃ (n : Nat), b_2.k + 1 = (↑(n + 1) : Int) ∧ n ≤ 3 ∧ b_2.s + b_3.n = (↑(cumF x0 n) : Int)) ∧ 4 - Int.toNat (b_2.k + 1) < 4 - Int.toNat b_2.k ∧ True)) ∧ (leb b_2.k 3 = false → length x0 = length x0 ∧
 (b_2.s == (↑x2 : Int)) = true ∧ (b_2.s == (↑x2 : Int)) = true ∧ length x0 = length x0 ∧ okA x4 x2 ∧ (b_2.s == (↑x2 : Int)) = true ∧ (b_2.s == (↑x2 : Int)) = true ∧ length x0 = length x0 ∧ okA x4 x2 ∧
 (b_2.s == (↑x2 : Int)) = true ∧ inR i64 ((↑(cntN (unC x4) 0) : Int) + (↑(cntN (unC x4) 4) : Int)) = true ∧ (b_2.s == (↑x2 : Int)) = true ∧ (b_2.s == (↑x2 : Int)) = true ∧ ((↑(cntN (unC x4) 0) : Int) +
 (↑(cntN (unC x4) 4) : Int) == 0) = true ∧ ((↑(cntN (unC x4) 0) : Int) + (↑(cntN (unC x4) 4) : Int) == 0) = true ∧ true = true ∧ True)))) (flatC x1)) (bI (cS p x0) (dim H) (dim H2))) (bI (cS p x0) (dim W) (dim W2))) (flatC x0)) (bS p q x0 x1)) (length x0)) (ofL W2 H2 ks2)) (ofL W H ks)) := by kernel_rfl

end Go.Proofs.YtfpcbimohikhmaaDoor.X
