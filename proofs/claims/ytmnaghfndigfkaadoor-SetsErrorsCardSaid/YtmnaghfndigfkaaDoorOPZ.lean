/-
 What is to be shown of the functions (made by a program).
-/
import Derived.Test.YtmnaghfndigfkaaDoorDOZ
import Derived.KernelRfl
set_option maxRecDepth 1000000
set_option linter.unusedVariables false
namespace Go.Proofs.YtmnaghfndigfkaaDoor.X
open Go Go.Ab

theorem ob_o12a (l : List Cl) (more : Int) : fnP (TO12) G 10000 fe12 (.r [] 0 (.r [] 0 (.cnd (.r [] 0 .nil) (.r [] 1 (.ff (.jn (j12 l) [28] [] (.r [] 0 .nil) (fun b => (.r [] 1 (.r [] 13 (.r [] 13 (.r [] 6 (.r [] 13 (.r [] 6 (.r [] 6 (.r [] 6 (.r [] 6 (.jn (k12 (chkI l)) [] [] (.rs 3 [] 0 80 (.r [] 3 (.cnd (.r [] 0 .nil) .nil)) (.r [] 3 (.lit .nil))) (fun b_1 => (.r [yL 1156, yL 1157, yL 1158, yL 1159, yL 1161, yL 1162, yL 1163, yL 1164, yL 1166, yL 1167, yL 1168, yL 1169, yL 1171, yL 1172, yL 1173, yL 1174, yL 1176, yL 1177, yL 1178, yL 1179, yL 1181, yL 1182, yL 1183, yL 1184, yL 1186, yL 1187, yL 1188, yL 1189, yL 1191] 514287696862 .nil))))))))))))))))))) ([cls l, .int .u8 more]) ([.bool true]) ([]) = (
(ltb 40 (↑(List.length l) : Int) = true → true = true ∧ True) ∧ (ltb 40 (↑(List.length l) : Int) = false → (Int.tmod more 4 == 1) = false ∧ (okL (flatK l) (List.length l) ∧ Cont.vals (flatK l) =
Cont.vals (flatK l) ∧ List.length l = List.length l ∧ chkI (unK (flatK l)) = chkI (unK (flatK l)) ∧ (flatK l = flatK l ∧ List.length l = List.length l ∧ smL l ∧ chkI (unK (flatK l)) = chkI l) ∧ True)
∧ ∀ (b : J12), b.a = flatK l ∧ b.n = List.length l ∧ smL l ∧ b.e = chkI l → ((okL b.a b.n ∧ okQ (unK b.a)) ∧ (okL [AV.int IntKind.i64 0, AV.int IntKind.i64 0, AV.int IntKind.u8 0] 1 ∧ okQ [(0, 0, 0)])
∧ (bothI (unK b.a) [(0, 0, 0)] = 0 → List.length (mrg 89 (unK b.a) [(0, 0, 0)]) ≤ 1024)) ∧ ((okL [AV.int IntKind.i64 0, AV.int IntKind.i64 0, AV.int IntKind.u8 0] 1 ∧ okQ [(0, 0, 0)]) ∧ (okL b.a b.n ∧
okQ (unK b.a)) ∧ (bothI [(0, 0, 0)] (unK b.a) = 0 → List.length (mrg 90 [(0, 0, 0)] (unK b.a)) ≤ 1024)) ∧ ((okL b.a b.n ∧ okQ (unK b.a)) ∧ (okL b.a b.n ∧ okQ (unK b.a)) ∧ (bothI (unK b.a) (unK b.a) =
0 → List.length (mrg 91 (unK b.a) (unK b.a)) ≤ 1024)) ∧ (id3 0 0 0 ∧ okL b.a b.n ∧ okQ (unK b.a)) ∧ (okL b.a b.n ∧ okQ (unK b.a)) ∧ (okL b.a b.n ∧ okQ (unK b.a)) ∧ (okL b.a b.n ∧ okQ (unK b.a)) ∧ (okL
b.a b.n ∧ okQ (unK b.a)) ∧ (((b.e == 0) = true → ((txE (unK b.a) == 3) = true → 1 = 1 ∧ 1 = 1 ∧ [AV.int IntKind.i64 0, AV.int IntKind.i64 0, AV.int IntKind.u8 0] = [AV.int IntKind.i64 0, AV.int
IntKind.i64 0, AV.int IntKind.u8 0] ∧ b.e = b.e ∧ bothI (unK b.a) [(0, 0, 0)] = bothI (unK b.a) [(0, 0, 0)] ∧ bothI [(0, 0, 0)] (unK b.a) = bothI [(0, 0, 0)] (unK b.a) ∧ bothI (unK b.a) (unK b.a) =
bothI (unK b.a) (unK b.a) ∧ chkI (unK b.a) = chkI (unK b.a) ∧ chkI (unK b.a) = chkI (unK b.a) ∧ chkI (unK b.a) = chkI (unK b.a) ∧ chkI (unK b.a) = chkI (unK b.a) ∧ iI 0 = 0 ∧ 0 = chkI l ∧ True) ∧
((txE (unK b.a) == 3) = false → 1 = 1 ∧ 1 = 1 ∧ [AV.int IntKind.i64 0, AV.int IntKind.i64 0, AV.int IntKind.u8 0] = [AV.int IntKind.i64 0, AV.int IntKind.i64 0, AV.int IntKind.u8 0] ∧ b.e = b.e ∧
bothI (unK b.a) [(0, 0, 0)] = bothI (unK b.a) [(0, 0, 0)] ∧ bothI [(0, 0, 0)] (unK b.a) = bothI [(0, 0, 0)] (unK b.a) ∧ bothI (unK b.a) (unK b.a) = bothI (unK b.a) (unK b.a) ∧ chkI (unK b.a) = chkI
(unK b.a) ∧ chkI (unK b.a) = chkI (unK b.a) ∧ chkI (unK b.a) = chkI (unK b.a) ∧ chkI (unK b.a) = chkI (unK b.a) ∧ txE (unK b.a) = txE (unK b.a) ∧ txE (unK b.a) = chkI l ∧ True)) ∧ ((b.e == 0) = false
→ 1 = 1 ∧ 1 = 1 ∧ [AV.int IntKind.i64 0, AV.int IntKind.i64 0, AV.int IntKind.u8 0] = [AV.int IntKind.i64 0, AV.int IntKind.i64 0, AV.int IntKind.u8 0] ∧ b.e = b.e ∧ bothI (unK b.a) [(0, 0, 0)] =
bothI (unK b.a) [(0, 0, 0)] ∧ bothI [(0, 0, 0)] (unK b.a) = bothI [(0, 0, 0)] (unK b.a) ∧ bothI (unK b.a) (unK b.a) = bothI (unK b.a) (unK b.a) ∧ chkI (unK b.a) = chkI (unK b.a) ∧ chkI (unK b.a) =
chkI (unK b.a) ∧ chkI (unK b.a) = chkI (unK b.a) ∧ chkI (unK b.a) = chkI (unK b.a) ∧ txE (unK b.a) = txE (unK b.a) ∧ txE (unK b.a) = chkI l ∧ True)) ∧ ∀ (b_1 : K12), b_1.h = chkI l → (bothI (unK b.a)
[(0, 0, 0)] == b.e) = true ∧ (bothI [(0, 0, 0)] (unK b.a) == b.e) = true ∧ (bothI (unK b.a) (unK b.a) == b.e) = true ∧ (chkI (unK b.a) == b.e) = true ∧ (chkI (unK b.a) == b.e) = true ∧ (chkI (unK b.a)
== b.e) = true ∧ (chkI (unK b.a) == b.e) = true ∧ (b_1.h == b.e) = true ∧ true = true ∧ True)) := by kernel_rfl

theorem ob_o12b (l Z : List Cl) (more : Int) : fnP (TO12) G 10000 fe12 (.r [] 0 (.r [] 0 (.cnd (.r [] 0 .nil) (.r [] 1 (.tt (.jn (z12 Z) [28] [] (.r [] 7 .nil) (fun b => (.frz 0 1 (.jn (j12 Z) [] [] (.r [] 0 .nil) (fun b_1 => (.r [] 1 (.r [] 13 (.r [] 13 (.r [] 6 (.r [] 13 (.r [] 6 (.r [] 6 (.r [] 6 (.r [] 6 (.jn (k12 3) [] [] (.rs 3 [] 0 80 (.r [] 3 (.cnd (.r [] 0 .nil) .nil)) (.r [] 3 (.lit .nil))) (fun b_2 => (.r [yL 1156, yL 1157, yL 1158, yL 1159, yL 1161, yL 1162, yL 1163, yL 1164, yL 1166, yL 1167, yL 1168, yL 1169, yL 1171, yL 1172, yL 1173, yL 1174, yL 1176, yL 1177, yL 1178, yL 1179, yL 1181, yL 1182, yL 1183, yL 1184, yL 1186, yL 1187, yL 1188, yL 1189, yL 1191] 514287696862 .nil)))))))))))))))))))))) ([cls l, .int .u8 more]) ([.bool true]) ([]) = (
(ltb 40 (↑(List.length l) : Int) = true → true = true ∧ True) ∧ (ltb 40 (↑(List.length l) : Int) = false → (Int.tmod more 4 == 1) = true ∧ (1025 = 1025 ∧ 1025 = 1025 ∧ (repL [AV.int IntKind.i64 0, AV.int IntKind.i64 0, AV.int IntKind.u8 0] 1025) = (repL [AV.int IntKind.i64 0, AV.int IntKind.i64 0, AV.int IntKind.u8 0] 1025) ∧ 1025 = 1025 ∧ zerA Z (repL [AV.int IntKind.i64 0, AV.int IntKind.i64 0, AV.int IntKind.u8 0] 1025) ∧ True) ∧ ∀
(b : Z12), zerA Z b.o → (okL b.o 1025 ∧ 1025 = 1025 ∧ 1025 = 1025 ∧ b.o = b.o ∧ Cont.vals b.o = Cont.vals b.o ∧ 1025 = 1025 ∧ chkI (unK b.o) = chkI (unK b.o) ∧ (b.o = flatK Z ∧ 1025 = List.length Z ∧
smL Z ∧ chkI (unK b.o) = chkI Z) ∧ True) ∧ ∀ (b_1 : J12), b_1.a = flatK Z ∧ b_1.n = List.length Z ∧ smL Z ∧ b_1.e = chkI Z → ((okL b_1.a b_1.n ∧ okQ (unK b_1.a)) ∧ (okL [AV.int IntKind.i64 0, AV.int
IntKind.i64 0, AV.int IntKind.u8 0] 1 ∧ okQ [(0, 0, 0)]) ∧ (bothI (unK b_1.a) [(0, 0, 0)] = 0 → List.length (mrg 89 (unK b_1.a) [(0, 0, 0)]) ≤ 1024)) ∧ ((okL [AV.int IntKind.i64 0, AV.int IntKind.i64
0, AV.int IntKind.u8 0] 1 ∧ okQ [(0, 0, 0)]) ∧ (okL b_1.a b_1.n ∧ okQ (unK b_1.a)) ∧ (bothI [(0, 0, 0)] (unK b_1.a) = 0 → List.length (mrg 90 [(0, 0, 0)] (unK b_1.a)) ≤ 1024)) ∧ ((okL b_1.a b_1.n ∧
okQ (unK b_1.a)) ∧ (okL b_1.a b_1.n ∧ okQ (unK b_1.a)) ∧ (bothI (unK b_1.a) (unK b_1.a) = 0 → List.length (mrg 91 (unK b_1.a) (unK b_1.a)) ≤ 1024)) ∧ (id3 0 0 0 ∧ okL b_1.a b_1.n ∧ okQ (unK b_1.a)) ∧
(okL b_1.a b_1.n ∧ okQ (unK b_1.a)) ∧ (okL b_1.a b_1.n ∧ okQ (unK b_1.a)) ∧ (okL b_1.a b_1.n ∧ okQ (unK b_1.a)) ∧ (okL b_1.a b_1.n ∧ okQ (unK b_1.a)) ∧ (((b_1.e == 0) = true → ((txE (unK b_1.a) == 3)
= true → 1025 = 1025 ∧ 1025 = 1025 ∧ b.o = b.o ∧ 1 = 1 ∧ 1 = 1 ∧ [AV.int IntKind.i64 0, AV.int IntKind.i64 0, AV.int IntKind.u8 0] = [AV.int IntKind.i64 0, AV.int IntKind.i64 0, AV.int IntKind.u8 0] ∧
b_1.e = b_1.e ∧ bothI (unK b_1.a) [(0, 0, 0)] = bothI (unK b_1.a) [(0, 0, 0)] ∧ bothI [(0, 0, 0)] (unK b_1.a) = bothI [(0, 0, 0)] (unK b_1.a) ∧ bothI (unK b_1.a) (unK b_1.a) = bothI (unK b_1.a) (unK
b_1.a) ∧ chkI (unK b_1.a) = chkI (unK b_1.a) ∧ chkI (unK b_1.a) = chkI (unK b_1.a) ∧ chkI (unK b_1.a) = chkI (unK b_1.a) ∧ chkI (unK b_1.a) = chkI (unK b_1.a) ∧ iI 0 = 0 ∧ iI 0 = 3 ∧ True) ∧ ((txE
(unK b_1.a) == 3) = false → 1025 = 1025 ∧ 1025 = 1025 ∧ b.o = b.o ∧ 1 = 1 ∧ 1 = 1 ∧ [AV.int IntKind.i64 0, AV.int IntKind.i64 0, AV.int IntKind.u8 0] = [AV.int IntKind.i64 0, AV.int IntKind.i64 0,
AV.int IntKind.u8 0] ∧ b_1.e = b_1.e ∧ bothI (unK b_1.a) [(0, 0, 0)] = bothI (unK b_1.a) [(0, 0, 0)] ∧ bothI [(0, 0, 0)] (unK b_1.a) = bothI [(0, 0, 0)] (unK b_1.a) ∧ bothI (unK b_1.a) (unK b_1.a) =
bothI (unK b_1.a) (unK b_1.a) ∧ chkI (unK b_1.a) = chkI (unK b_1.a) ∧ chkI (unK b_1.a) = chkI (unK b_1.a) ∧ chkI (unK b_1.a) = chkI (unK b_1.a) ∧ chkI (unK b_1.a) = chkI (unK b_1.a) ∧ txE (unK b_1.a)
= txE (unK b_1.a) ∧ txE (unK b_1.a) = 3 ∧ True)) ∧ ((b_1.e == 0) = false → 1025 = 1025 ∧ 1025 = 1025 ∧ b.o = b.o ∧ 1 = 1 ∧ 1 = 1 ∧ [AV.int IntKind.i64 0, AV.int IntKind.i64 0, AV.int IntKind.u8 0] =
[AV.int IntKind.i64 0, AV.int IntKind.i64 0, AV.int IntKind.u8 0] ∧ b_1.e = b_1.e ∧ bothI (unK b_1.a) [(0, 0, 0)] = bothI (unK b_1.a) [(0, 0, 0)] ∧ bothI [(0, 0, 0)] (unK b_1.a) = bothI [(0, 0, 0)]
(unK b_1.a) ∧ bothI (unK b_1.a) (unK b_1.a) = bothI (unK b_1.a) (unK b_1.a) ∧ chkI (unK b_1.a) = chkI (unK b_1.a) ∧ chkI (unK b_1.a) = chkI (unK b_1.a) ∧ chkI (unK b_1.a) = chkI (unK b_1.a) ∧ chkI
(unK b_1.a) = chkI (unK b_1.a) ∧ txE (unK b_1.a) = txE (unK b_1.a) ∧ txE (unK b_1.a) = 3 ∧ True)) ∧ ∀ (b_2 : K12), b_2.h = 3 → (bothI (unK b_1.a) [(0, 0, 0)] == b_1.e) = true ∧ (bothI [(0, 0, 0)] (unK
b_1.a) == b_1.e) = true ∧ (bothI (unK b_1.a) (unK b_1.a) == b_1.e) = true ∧ (chkI (unK b_1.a) == b_1.e) = true ∧ (chkI (unK b_1.a) == b_1.e) = true ∧ (chkI (unK b_1.a) == b_1.e) = true ∧ (chkI (unK
b_1.a) == b_1.e) = true ∧ (b_2.h == b_1.e) = true ∧ true = true ∧ True)) := by kernel_rfl

end Go.Proofs.YtmnaghfndigfkaaDoor.X
