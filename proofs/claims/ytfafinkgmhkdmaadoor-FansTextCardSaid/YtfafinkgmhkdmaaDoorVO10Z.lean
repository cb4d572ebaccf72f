/-
  What is to be shown of the functions (made by a program).
-/
import Derived.Test.YtfafinkgmhkdmaaDoorVD10Z
import Derived.KernelRfl
set_option maxRecDepth 1000000
set_option linter.unusedVariables false
namespace Go.Proofs.YtfafinkgmhkdmaaDoor.X
open Go Go.Ab

theorem ob_o35 (t : List UInt8) : fnP (YA) G 10000 fe35 (.r [] 0 (.r [] 0 (.cnd (.r [] 1 .nil) (.r [] 0 (.r [] 0 (.ghc 256 0 9001 1 (Cont.ints IntKind.i64 []) (.ghc 256 1 9002 1 (Cont.ints IntKind.u8 []) (.lp (l35 t) [] [] (fun b => (.r [] 0 (.cnd (.r [] 0 (.rs 4 [] 0 20 (.r [] 15 (.lit (.r [] 1 .nil))) (.rs 5 [] 13 25 (.r [] 3 (.lit (.r [] 1 .nil))) (.r [] 13 (.cnd (.r [] 1 .nil) (.r [] 461699 (.r [] 0 .nil))))))) (.r [] 1 (.cnd (.r [] 1 .nil) (.r [] 73 .nil)))))))))))))) ([.str t]) ([fanW (prsA t) (prsK t), .int .i64 (prsE t)]) ([]) = (
((t == [45]) = true → Cont.size (Cont.ints IntKind.i64 (prsA t)) = 0 ∧ List.length (prsA t) = 0 ∧ List.length (prsA t) = 0 ∧ Cont.size (Cont.ints IntKind.u8 (prsK t)) = 0 ∧ List.length (prsK t) = 0 ∧
List.length (prsK t) = 0 ∧ 0 = prsE t ∧ True) ∧ ((t == [45]) = false → ((32 : UInt8) = 32 ∧ List.length t < 1000000) ∧ 1 = 1 ∧ 1 = 1 ∧ 0 = 0 ∧ 0 = 0 ∧ 0 = 0 ∧ iL [] = [] ∧ 0 = 0 ∧ iL [] = [] ∧ 0 = 0 ∧
0 = 0 ∧ Cont.strs (splitS t) = Cont.strs (splitS t) ∧ List.length (splitS t) = List.length (splitS t) ∧ (↑(List.length (splitS t)) : Int) = (↑(List.length (splitS t)) : Int) ∧ iI 0 = 0 ∧ (∃ (n : Nat),
0 = (↑n : Int) ∧ n ≤ List.length (splitS t) ∧ List.all (List.take n (splitS t)) okP = true ∧ [] = pcA (List.take n (splitS t)) ∧ [] = pcK (List.take n (splitS t))) ∧ ∀ (b : L35), (∃ (n : Nat), b.i =
(↑n : Int) ∧ n ≤ List.length (splitS t) ∧ List.all (List.take n (splitS t)) okP = true ∧ b.a = pcA (List.take n (splitS t)) ∧ b.k = pcK (List.take n (splitS t))) → (ltb b.i (↑(List.length (splitS t))
: Int) = true → leb 0 b.i = true ∧ ltb b.i (↑(List.length (splitS t)) : Int) = true ∧ ltn 0 (Cont.size (Cont.strs (splitS t))) = true ∧ ltn 0 (Cont.size (Cont.strs (List.drop (Int.toNat b.i) (splitS
t)))) = true ∧ (((↑(List.length (List.getD (List.drop (Int.toNat b.i) (splitS t)) 0 [])) : Int) != 2) = true → Cont.size (Cont.ints IntKind.i64 (prsA t)) = 0 ∧ List.length (prsA t) = 0 ∧ List.length
(prsA t) = 0 ∧ Cont.size (Cont.ints IntKind.u8 (prsK t)) = 0 ∧ List.length (prsK t) = 0 ∧ List.length (prsK t) = 0 ∧ 4 = prsE t ∧ True) ∧ (((↑(List.length (List.getD (List.drop (Int.toNat b.i) (splitS
t)) 0 [])) : Int) != 2) = false → ltb 1 (↑(List.length (List.getD (List.drop (Int.toNat b.i) (splitS t)) 0 [])) : Int) = true ∧ (ltb (↑(UInt8.toNat (List.getD (List.getD (List.drop (Int.toNat b.i)
(splitS t)) 0 []) (Int.toNat 1) 0)) : Int) 49 = true → Cont.size (Cont.ints IntKind.i64 (prsA t)) = 0 ∧ List.length (prsA t) = 0 ∧ List.length (prsA t) = 0 ∧ Cont.size (Cont.ints IntKind.u8 (prsK t))
= 0 ∧ List.length (prsK t) = 0 ∧ List.length (prsK t) = 0 ∧ 4 = prsE t ∧ True) ∧ (ltb (↑(UInt8.toNat (List.getD (List.getD (List.drop (Int.toNat b.i) (splitS t)) 0 []) (Int.toNat 1) 0)) : Int) 49 =
false → ltb 1 (↑(List.length (List.getD (List.drop (Int.toNat b.i) (splitS t)) 0 [])) : Int) = true ∧ (ltb 56 (↑(UInt8.toNat (List.getD (List.getD (List.drop (Int.toNat b.i) (splitS t)) 0 [])
(Int.toNat 1) 0)) : Int) = true → Cont.size (Cont.ints IntKind.i64 (prsA t)) = 0 ∧ List.length (prsA t) = 0 ∧ List.length (prsA t) = 0 ∧ Cont.size (Cont.ints IntKind.u8 (prsK t)) = 0 ∧ List.length
(prsK t) = 0 ∧ List.length (prsK t) = 0 ∧ 4 = prsE t ∧ True) ∧ (ltb 56 (↑(UInt8.toNat (List.getD (List.getD (List.drop (Int.toNat b.i) (splitS t)) 0 []) (Int.toNat 1) 0)) : Int) = false → ltb 1
(↑(List.length (List.getD (List.drop (Int.toNat b.i) (splitS t)) 0 [])) : Int) = true ∧ inR IntKind.u8 ((↑(UInt8.toNat (List.getD (List.getD (List.drop (Int.toNat b.i) (splitS t)) 0 []) (Int.toNat 1)
0)) : Int) - 48) = true ∧ inR IntKind.i64 ((↑(UInt8.toNat (List.getD (List.getD (List.drop (Int.toNat b.i) (splitS t)) 0 []) (Int.toNat 1) 0)) : Int) - 48) = true ∧ List.length b.a = List.length b.a ∧
len' ((List.length b.a + 1) * 8) 140737488355328 = true ∧ ltb 0 (↑(List.length (List.getD (List.drop (Int.toNat b.i) (splitS t)) 0 [])) : Int) = true ∧ inR IntKind.i64 (1 + ixB [109, 118, 97]
(↑(UInt8.toNat (List.getD (List.getD (List.drop (Int.toNat b.i) (splitS t)) 0 []) (Int.toNat 0) 0)) : Int)) = true ∧ inR IntKind.u8 (1 + ixB [109, 118, 97] (↑(UInt8.toNat (List.getD (List.getD
(List.drop (Int.toNat b.i) (splitS t)) 0 []) (Int.toNat 0) 0)) : Int)) = true ∧ List.length b.k = List.length b.k ∧ len' ((List.length b.k + 1) * 1) 140737488355328 = true ∧ inR IntKind.i64 (b.i + 1)
= true ∧ 1 = 1 ∧ 1 = 1 ∧ List.length b.a + 1 = List.length (b.a ++ [(↑(UInt8.toNat (List.getD (List.getD (List.drop (Int.toNat b.i) (splitS t)) 0 []) (Int.toNat 1) 0)) : Int) - 48]) ∧ List.length b.k
+ 1 = List.length (b.k ++ [1 + ixB [109, 118, 97] (↑(UInt8.toNat (List.getD (List.getD (List.drop (Int.toNat b.i) (splitS t)) 0 []) (Int.toNat 0) 0)) : Int)]) ∧ List.length b.a + 1 = List.length (b.a
++ [(↑(UInt8.toNat (List.getD (List.getD (List.drop (Int.toNat b.i) (splitS t)) 0 []) (Int.toNat 1) 0)) : Int) - 48]) ∧ b.a ++ [(↑(UInt8.toNat (List.getD (List.getD (List.drop (Int.toNat b.i) (splitS
t)) 0 []) (Int.toNat 1) 0)) : Int) - 48] = b.a ++ [(↑(UInt8.toNat (List.getD (List.getD (List.drop (Int.toNat b.i) (splitS t)) 0 []) (Int.toNat 1) 0)) : Int) - 48] ∧ List.length b.k + 1 = List.length
(b.k ++ [1 + ixB [109, 118, 97] (↑(UInt8.toNat (List.getD (List.getD (List.drop (Int.toNat b.i) (splitS t)) 0 []) (Int.toNat 0) 0)) : Int)]) ∧ b.k ++ [1 + ixB [109, 118, 97] (↑(UInt8.toNat (List.getD
(List.getD (List.drop (Int.toNat b.i) (splitS t)) 0 []) (Int.toNat 0) 0)) : Int)] = b.k ++ [1 + ixB [109, 118, 97] (↑(UInt8.toNat (List.getD (List.getD (List.drop (Int.toNat b.i) (splitS t)) 0 [])
(Int.toNat 0) 0)) : Int)] ∧ 0 = 0 ∧ 0 = 0 ∧ Cont.strs (splitS t) = Cont.strs (splitS t) ∧ List.length (splitS t) = List.length (splitS t) ∧ (↑(List.length (splitS t)) : Int) = (↑(List.length (splitS
t)) : Int) ∧ b.i + 1 = b.i + 1 ∧ (∃ (n : Nat), b.i + 1 = (↑n : Int) ∧ n ≤ List.length (splitS t) ∧ List.all (List.take n (splitS t)) okP = true ∧ b.a ++ [(↑(UInt8.toNat (List.getD (List.getD
(List.drop (Int.toNat b.i) (splitS t)) 0 []) (Int.toNat 1) 0)) : Int) - 48] = pcA (List.take n (splitS t)) ∧ b.k ++ [1 + ixB [109, 118, 97] (↑(UInt8.toNat (List.getD (List.getD (List.drop (Int.toNat
b.i) (splitS t)) 0 []) (Int.toNat 0) 0)) : Int)] = pcK (List.take n (splitS t))) ∧ List.length (splitS t) - Int.toNat (b.i + 1) < List.length (splitS t) - Int.toNat b.i ∧ True)))) ∧ (ltb b.i
(↑(List.length (splitS t)) : Int) = false → List.length b.a = List.length b.a ∧ List.length b.k = List.length b.k ∧ (List.length b.a = List.length b.a ∧ List.length b.k = List.length b.k ∧ List.length
b.a < 1000000000000) ∧ ((chk b.a b.k != 0) = true → Cont.size (Cont.ints IntKind.i64 (prsA t)) = 0 ∧ List.length (prsA t) = 0 ∧ List.length (prsA t) = 0 ∧ Cont.size (Cont.ints IntKind.u8 (prsK t)) = 0
∧ List.length (prsK t) = 0 ∧ List.length (prsK t) = 0 ∧ 4 = prsE t ∧ True) ∧ ((chk b.a b.k != 0) = false → List.length b.a = List.length b.a ∧ List.length b.a = List.length b.a ∧ List.length b.k =
List.length b.k ∧ List.length b.k = List.length b.k ∧ Cont.ints IntKind.i64 b.a = Cont.ints IntKind.i64 (prsA t) ∧ List.length b.a = List.length (prsA t) ∧ List.length b.a = List.length (prsA t) ∧
Cont.ints IntKind.u8 b.k = Cont.ints IntKind.u8 (prsK t) ∧ List.length b.k = List.length (prsK t) ∧ List.length b.k = List.length (prsK t) ∧ 0 = prsE t ∧ True)))) := by kernel_rfl

theorem ob_o11 (c l : Int) (ks : List Int) (t : List UInt8) : fnP (ZL) G 10000 fe11 (.r [] 0 (.r [] 0 (.cnd (.r [] 1 .nil) (.r [] 5 (.r [] 0 (.r [] 0 (.lp (l11 (ofA c l ks) (ofK c ks)) [] [] (fun b => (.r [] 1 (.cnd (.r [] 513 (.r [] 0 (.cnd (.r [] 0 (.r [] 0 .nil)) (.r [] 0 (.r [] 0 .nil))))) (.r [] 14 (.r [yL 901, yL 902, yL 905, yL 906, yL 907, yL 908] 466657 (.ff (.r [] 14 (.r [] 0 (.cnd (.r [yL 1155, yL 1156, yL 1157, yL 1158, yL 1159, yL 1160, yL 1161, yL 1162, yL 1165] 122366 .nil) (.r [yL 1220, yL 1221, yL 1222, yL 1223, yL 1226] 15321 .nil))))))))))))))))) ([fV c l ks, .str t]) ([.bool true]) ([]) = (
(ltb 40 (↑(List.length t) : Int) = true → true = true ∧ True) ∧ (ltb 40 (↑(List.length t) : Int) = false → (List.length ks = List.length ks ∧ okK ks) ∧ 1 = 1 ∧ c = c ∧ l = l ∧ Cont.ints IntKind.u8 ks
= Cont.ints IntKind.u8 ks ∧ List.length ks = List.length ks ∧ List.length (ofA c l ks) = List.length (ofA c l ks) ∧ ofA c l ks = ofA c l ks ∧ List.length (ofK c ks) = List.length (ofK c ks) ∧ ofK c ks
= ofK c ks ∧ 1 = 1 ∧ List.length (ofA c l ks) = List.length (ofA c l ks) ∧ List.length (ofK c ks) = List.length (ofK c ks) ∧ t = t ∧ 0 = 0 ∧ uL [45] = [45] ∧ iI 0 = 0 ∧ (∃ (n : Nat), 0 = (↑n : Int) ∧
n ≤ List.length (ofA c l ks) ∧ [45] = txF (List.take n (ofA c l ks)) (List.take n (ofK c ks))) ∧ ∀ (b : L11), (∃ (n : Nat), b.i = (↑n : Int) ∧ n ≤ List.length (ofA c l ks) ∧ b.s = txF (List.take n
(ofA c l ks)) (List.take n (ofK c ks))) → List.length (ofA c l ks) = List.length (ofA c l ks) ∧ (ltb b.i (↑(List.length (ofA c l ks)) : Int) = true → leb 0 b.i = true ∧ ltb b.i (↑(List.length (ofK c
ks)) : Int) = true ∧ List.length (ofK c ks) = List.length (ofK c ks) ∧ List.length (ofK c ks) = List.length (ofK c ks) ∧ ltn (Int.toNat b.i) (Cont.size (Cont.ints IntKind.u8 (ofK c ks))) = true ∧ inR
IntKind.u8 (List.getD (ofK c ks) (Int.toNat b.i) 0 - 1) = true ∧ leb 0 (List.getD (ofK c ks) (Int.toNat b.i) 0 - 1) = true ∧ ltb (List.getD (ofK c ks) (Int.toNat b.i) 0 - 1) 3 = true ∧ leb 0 b.i =
true ∧ ltb b.i (↑(List.length (ofA c l ks)) : Int) = true ∧ List.length (ofA c l ks) = List.length (ofA c l ks) ∧ List.length (ofA c l ks) = List.length (ofA c l ks) ∧ ltn (Int.toNat b.i) (Cont.size
(Cont.ints IntKind.i64 (ofA c l ks))) = true ∧ (1 ≤ List.getD (ofA c l ks) (Int.toNat b.i) 0 ∧ List.getD (ofA c l ks) (Int.toNat b.i) 0 ≤ 8) ∧ len' (List.length (Utf8.encode (↑(UInt8.toNat (List.getD
[109, 118, 97] (Int.toNat (List.getD (ofK c ks) (Int.toNat b.i) 0 - 1)) 0)) : Int)).data.toList + 1) 9223372036854775807 = true ∧ ((b.i == 0) = true → inR IntKind.i64 (b.i + 1) = true ∧ 1 = 1 ∧ c = c
∧ l = l ∧ Cont.ints IntKind.u8 ks = Cont.ints IntKind.u8 ks ∧ List.length ks = List.length ks ∧ List.length (ofA c l ks) = List.length (ofA c l ks) ∧ ofA c l ks = ofA c l ks ∧ List.length (ofK c ks) =
List.length (ofK c ks) ∧ ofK c ks = ofK c ks ∧ 1 = 1 ∧ List.length (ofA c l ks) = List.length (ofA c l ks) ∧ List.length (ofK c ks) = List.length (ofK c ks) ∧ t = t ∧ 0 = 0 ∧ (Utf8.encode
(↑(UInt8.toNat (List.getD [109, 118, 97] (Int.toNat (List.getD (ofK c ks) (Int.toNat b.i) 0 - 1)) 0)) : Int)).data.toList ++ [UInt8.ofNat (48 + Int.toNat (List.getD (ofA c l ks) (Int.toNat b.i) 0))] =
(Utf8.encode (↑(UInt8.toNat (List.getD [109, 118, 97] (Int.toNat (List.getD (ofK c ks) (Int.toNat b.i) 0 - 1)) 0)) : Int)).data.toList ++ [UInt8.ofNat (48 + Int.toNat (List.getD (ofA c l ks)
(Int.toNat b.i) 0))] ∧ b.i + 1 = b.i + 1 ∧ (∃ (n : Nat), b.i + 1 = (↑n : Int) ∧ n ≤ List.length (ofA c l ks) ∧ (Utf8.encode (↑(UInt8.toNat (List.getD [109, 118, 97] (Int.toNat (List.getD (ofK c ks)
(Int.toNat b.i) 0 - 1)) 0)) : Int)).data.toList ++ [UInt8.ofNat (48 + Int.toNat (List.getD (ofA c l ks) (Int.toNat b.i) 0))] = txF (List.take n (ofA c l ks)) (List.take n (ofK c ks))) ∧ List.length
(ofA c l ks) - Int.toNat (b.i + 1) < List.length (ofA c l ks) - Int.toNat b.i ∧ True) ∧ ((b.i == 0) = false → len' (List.length b.s + 1) 9223372036854775807 = true ∧ len' (List.length (b.s ++ [32]) +
List.length ((Utf8.encode (↑(UInt8.toNat (List.getD [109, 118, 97] (Int.toNat (List.getD (ofK c ks) (Int.toNat b.i) 0 - 1)) 0)) : Int)).data.toList ++ [UInt8.ofNat (48 + Int.toNat (List.getD (ofA c l
ks) (Int.toNat b.i) 0))])) 9223372036854775807 = true ∧ inR IntKind.i64 (b.i + 1) = true ∧ 1 = 1 ∧ c = c ∧ l = l ∧ Cont.ints IntKind.u8 ks = Cont.ints IntKind.u8 ks ∧ List.length ks = List.length ks ∧
List.length (ofA c l ks) = List.length (ofA c l ks) ∧ ofA c l ks = ofA c l ks ∧ List.length (ofK c ks) = List.length (ofK c ks) ∧ ofK c ks = ofK c ks ∧ 1 = 1 ∧ List.length (ofA c l ks) = List.length
(ofA c l ks) ∧ List.length (ofK c ks) = List.length (ofK c ks) ∧ t = t ∧ 0 = 0 ∧ b.s ++ [32] ++ ((Utf8.encode (↑(UInt8.toNat (List.getD [109, 118, 97] (Int.toNat (List.getD (ofK c ks) (Int.toNat b.i)
0 - 1)) 0)) : Int)).data.toList ++ [UInt8.ofNat (48 + Int.toNat (List.getD (ofA c l ks) (Int.toNat b.i) 0))]) = b.s ++ [32] ++ ((Utf8.encode (↑(UInt8.toNat (List.getD [109, 118, 97] (Int.toNat
(List.getD (ofK c ks) (Int.toNat b.i) 0 - 1)) 0)) : Int)).data.toList ++ [UInt8.ofNat (48 + Int.toNat (List.getD (ofA c l ks) (Int.toNat b.i) 0))]) ∧ b.i + 1 = b.i + 1 ∧ (∃ (n : Nat), b.i + 1 = (↑n :
Int) ∧ n ≤ List.length (ofA c l ks) ∧ b.s ++ [32] ++ ((Utf8.encode (↑(UInt8.toNat (List.getD [109, 118, 97] (Int.toNat (List.getD (ofK c ks) (Int.toNat b.i) 0 - 1)) 0)) : Int)).data.toList ++
[UInt8.ofNat (48 + Int.toNat (List.getD (ofA c l ks) (Int.toNat b.i) 0))]) = txF (List.take n (ofA c l ks)) (List.take n (ofK c ks))) ∧ List.length (ofA c l ks) - Int.toNat (b.i + 1) < List.length
(ofA c l ks) - Int.toNat b.i ∧ True)) ∧ (ltb b.i (↑(List.length (ofA c l ks)) : Int) = false → List.length b.s < 1000000 ∧ List.length (ofA c l ks) = List.length (ofA c l ks) ∧ List.length (ofK c ks)
= List.length (ofK c ks) ∧ (List.length (ofA c l ks) = List.length (ofA c l ks) ∧ List.length (ofK c ks) = List.length (ofK c ks) ∧ chk (ofA c l ks) (ofK c ks) = 0) ∧ (!!txF (ofA c l ks) (ofK c ks) ==
b.s) = true ∧ (!prsE b.s != 0) = true ∧ List.length (ofA c l ks) = List.length (ofA c l ks) ∧ List.length (ofK c ks) = List.length (ofK c ks) ∧ (List.length (prsA b.s) = List.length (prsA b.s) ∧
List.length (prsK b.s) = List.length (prsK b.s) ∧ List.length (ofA c l ks) = List.length (ofA c l ks) ∧ List.length (ofK c ks) = List.length (ofK c ks) ∧ List.length (prsA b.s) = List.length (prsA
b.s) ∧ List.length (prsK b.s) = List.length (prsK b.s) ∧ List.length (prsA b.s) = List.length (ofA c l ks) ∧ List.length (prsK b.s) = List.length (ofK c ks) ∧ List.length (prsA b.s) < 1000000000000 ∧
List.length (prsK b.s) < 1000000000000) ∧ (!(eqB (prsA b.s) (ofA c l ks) && eqB (prsK b.s) (ofK c ks))) = false ∧ List.length t < 1000000 ∧ ((prsE t != 0) = true → (prsE t == 4) = true ∧ inR
IntKind.i64 ((↑(List.length (prsA t)) : Int) + (↑(List.length (prsK t)) : Int)) = true ∧ ((↑(List.length (prsA t)) : Int) + (↑(List.length (prsK t)) : Int) == 0) = true ∧ true = true ∧ True) ∧ ((prsE
t != 0) = false → (List.length (prsA t) = List.length (prsA t) ∧ List.length (prsK t) = List.length (prsK t) ∧ List.length (prsA t) < 1000000000000) ∧ (chk (prsA t) (prsK t) == 0) = true ∧
(List.length (prsA t) = List.length (prsA t) ∧ List.length (prsK t) = List.length (prsK t) ∧ chk (prsA t) (prsK t) = 0) ∧ (txF (prsA t) (prsK t) == t) = true ∧ true = true ∧ True)))) := by kernel_rfl

end Go.Proofs.YtfafinkgmhkdmaaDoor.X
