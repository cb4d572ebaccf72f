/-
 What is to be shown of the functions (made by a program).
-/
import Derived.Test.YtmnaghfndigfkaaDoorDLZ
import Derived.KernelRfl
set_option maxRecDepth 1000000
set_option linter.unusedVariables false
namespace Go.Proofs.YtmnaghfndigfkaaDoor.X
open Go Go.Ab

theorem ob_o11 (l : List Cl) (s1 s2 s3 : List UInt8) (e1 e2 e3 : Int) : fnP (TL11 s1 s2 s3 e1 e2 e3) G 10000 fe11 (.r [] 0 (.jn (jSet 3 (sOf l)) [0] [] (.r [] 0 .nil) (fun b => (.r [] 6 (.r [] 0 (.jn (j11 (sOf l)) [3] [] (.r [] 0 (.cnd (.r [] 0 .nil) .nil)) (fun b_1 => (.r [] 3 (.r [] 3 (.r [] 13 (.r [] 13 (.r [] 458751 (.r [yL 772, yL 773, yL 774, yL 775, yL 777, yL 778, yL 779, yL 781, yL 782, yL 783, yL 784, yL 786, yL 787, yL 788, yL 790, yL 791, yL 792, yL 793, yL 795, yL 796, yL 797, yL 799] 2004598238 .nil))))))))))))) ([rwS l]) ([.bool true]) ([]) = (
((flatS l = flatS (unS (flatS l)) ∧ List.length l = List.length (unS (flatS l)) ∧ rawP (unS (flatS l))) ∧ Cont.vals (flatK (sOf (unS (flatS l)))) = Cont.vals (flatK (sOf (unS (flatS l)))) ∧
List.length (sOf (unS (flatS l))) = List.length (sOf (unS (flatS l))) ∧ (flatK (sOf (unS (flatS l))) = flatK (sOf l) ∧ List.length (sOf (unS (flatS l))) = List.length (sOf l)) ∧ True) ∧ ∀ (b : JSet),
b.a = flatK (sOf l) ∧ b.n = List.length (sOf l) → okA b.a b.n ∧ ((okL b.a b.n ∧ bxOk (unK b.a)) ∧ (leb (siz (unK b.a)) 65536 = true → (okL b.a b.n ∧ bxOk (unK b.a) ∧ siz (unK b.a) ≤ 65536) ∧ txV (unK
b.a) = txV (unK b.a) ∧ txE (unK b.a) = txE (unK b.a) ∧ bytesI (rfT (unK b.a)) = bytesI (rfT (unK b.a)) ∧ iI 0 = 0 ∧ (bytesI (rfT (unK b.a)) = txV (sOf l) ∧ 0 = txE (sOf l)) ∧ True) ∧ (leb (siz (unK
b.a)) 65536 = false → txV (unK b.a) = txV (unK b.a) ∧ txE (unK b.a) = txE (unK b.a) ∧ uL [] = [] ∧ iI 3 = 3 ∧ ([] = txV (sOf l) ∧ 3 = txE (sOf l)) ∧ True)) ∧ ∀ (b_1 : J11), b_1.s = txV (sOf l) ∧ b_1.e
= txE (sOf l) → (okA [AV.int IntKind.i64 (-4096), AV.int IntKind.i64 0, AV.int IntKind.u8 0, AV.int IntKind.i64 4096, AV.int IntKind.i64 0, AV.int IntKind.u8 0] 2 ∧ nmP [(-4096, 0, 0), (4096, 0, 0)]
s1 e1 [(-4096, 0, 0), (4096, 0, 0)]) ∧ (okA [AV.int IntKind.i64 0, AV.int IntKind.i64 (-4096), AV.int IntKind.u8 0, AV.int IntKind.i64 0, AV.int IntKind.i64 4096, AV.int IntKind.u8 0] 2 ∧ nmP [(0,
-4096, 0), (0, 4096, 0)] s2 e2 [(0, -4096, 0), (0, 4096, 0)]) ∧ (okA [AV.int IntKind.i64 0, AV.int IntKind.i64 (-4096), AV.int IntKind.u8 0, AV.int IntKind.i64 (-4096), AV.int IntKind.i64 0, AV.int
IntKind.u8 0, AV.int IntKind.i64 4096, AV.int IntKind.i64 0, AV.int IntKind.u8 0] 3 ∧ nmP [(0, -4096, 0), (-4096, 0, 0), (4096, 0, 0)] s3 e3 [(0, -4096, 0), (-4096, 0, 0), (4096, 0, 0)]) ∧ (txE (unK
b.a) == b_1.e) = true ∧ (txV (unK b.a) == b_1.s) = true ∧ (e1 == 0) = true ∧ ((↑(List.length s1) : Int) == 32773) = true ∧ (e2 == 0) = true ∧ ((↑(List.length s2) : Int) == 40965) = true ∧ (e3 == 3) =
true ∧ true = true ∧ True) := by kernel_rfl

end Go.Proofs.YtmnaghfndigfkaaDoor.X
