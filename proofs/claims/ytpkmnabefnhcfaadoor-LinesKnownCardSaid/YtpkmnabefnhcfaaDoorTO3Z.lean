/-
  What is to be shown of the functions (made by a program).
-/
import Derived.Test.YtpkmnabefnhcfaaDoorTD3Z
import Derived.KernelRfl
set_option maxRecDepth 1000000
set_option linter.unusedVariables false
namespace Go.Proofs.YtpkmnabefnhcfaaDoor.X
open Go Go.Ab

theorem ob_o27 (k c : Int) : fnP (TT) G 10000 fe27 (.r [] 0 (.r [] 89 .nil)) ([lnV k c]) ([.str (txt k c)]) ([]) = (
leb 0 k = true ∧ ltb k 5 = true ∧ ltn (Int.toNat k) 5 = true ∧ (-10000 < c ∧ c < 10000) ∧ len' (List.length (List.getD strs5 (Int.toNat k) []) + List.length (decI c)) 9223372036854775807 = true ∧
List.getD strs5 (Int.toNat k) [] ++ decI c = List.getD letters (Int.toNat k) 0 :: 32 :: decI c ∧ True) := by kernel_rfl

theorem ob_o29v (k c : Int) : fnP (TT) G 10000 fe29 (.r [] 0 (.r [] 3 (.ff (.r [] 131 .nil)))) ([lnV k c]) ([.str (txt k c)]) ([]) = (
(bI (vl k c) 0 1 != 0) = false ∧ inR IntKind.u8 (k + 1) = true ∧ leb 0 k = true ∧ leb k (k + 1) = true ∧ len' (Int.toNat (k + 1)) 5 = true ∧ len' (List.length (List.take (Int.toNat (k + 1) - Int.toNat
k) (List.drop (Int.toNat k) letters)) + 1) 9223372036854775807 = true ∧ (-10000 < c ∧ c < 10000) ∧ len' (List.length (List.take (Int.toNat (k + 1) - Int.toNat k) (List.drop (Int.toNat k) letters) ++
[32]) + List.length (decI c)) 9223372036854775807 = true ∧ List.take (Int.toNat (k + 1) - Int.toNat k) (List.drop (Int.toNat k) letters) ++ [32] ++ decI c = List.getD letters (Int.toNat k) 0 :: 32 ::
decI c ∧ True) := by kernel_rfl

theorem ob_o29n (k c : Int) : fnP (TT) G 10000 fe29 (.r [] 0 (.r [] 3 (.tt (.r [] 0 .nil)))) ([lnV k c]) ([.str []]) ([]) = (
(bI (vl k c) 0 1 != 0) = true ∧ uL [] = [] ∧ True) := by kernel_rfl

theorem ob_o55 (s : List UInt8) (b : Int) : fnP (T55) G 10000 fe55 (.r [] 0 (.r [] 1 .nil)) ([.str s, .int .u8 b]) ([.int .i64 (ixB s b)]) ([]) = (
ixB s b = ixB s b ∧ True) := by kernel_rfl

theorem ob_o49 (s : List UInt8) (b : Int) : fnP (T49) G 10000 fe49 (.r [] 0 (.r [] 1 .nil)) ([.str s, .int .u8 b]) ([.int .i64 (ixB s b)]) ([]) = (
ixB s b = ixB s b ∧ True) := by kernel_rfl

theorem ob_o50 (r : Int) : fnP (T33 0) G 10000 fe50 (.r [] 0 (.rs 3 [] 0 6 (.r [] 3 (.cnd (.r [] 0 .nil) (.rs 3 [] 0 13 (.r [] 3 (.cnd (.r [] 0 .nil) (.r [] 0 .nil))) (.r [] 3 (.lit (.r [] 0 .nil)))))) (.r [] 3 (.lit (.rs 3 [] 0 13 (.r [] 3 (.cnd (.r [] 0 .nil) (.r [] 0 .nil))) (.r [] 3 (.lit (.r [] 0 .nil)))))))) ([.int .i32 r]) ([.bool (vrB r)]) ([]) = (
(leb 0 r = true → (ltb r 55296 = true → true = vrB r ∧ True) ∧ (ltb r 55296 = false → (ltb 57343 r = true → (leb r 1114111 = true → true = vrB r ∧ True) ∧ (leb r 1114111 = false → false = vrB r ∧
True)) ∧ (ltb 57343 r = false → false = vrB r ∧ True))) ∧ (leb 0 r = false → (ltb 57343 r = true → (leb r 1114111 = true → true = vrB r ∧ True) ∧ (leb r 1114111 = false → false = vrB r ∧ True)) ∧ (ltb
57343 r = false → false = vrB r ∧ True))) := by kernel_rfl

theorem ob_o34a (r : Int) : fnP (T34) G 10000 fe34 (.r [] 0 (.r [yL 2243] 6 (.tt (.r [] 2 .nil)))) ([.str [32, 120, 121, 117, 100], .int .i32 r]) ([.int .i64 (ixB letters r)]) ([]) = (
leb 0 r = true ∧ ltb r 128 = true ∧ inR IntKind.u8 r = true ∧ ixB letters r = ixB letters r ∧ True) := by kernel_rfl

theorem ob_o34e  : fnP (T34) G 10000 fe34 (.r [] 0 (.r [] 3 (.lit (.r [] 0 (.lit (.r [] 0 (.lp (l34e) [] [] (fun b => (.br (ltn b.p 5) (.r [] 2 (.lit (.r [] 3 (.r [] 0 (.ff .nil))))) (.r [(2496, .auto, Dr.wrap)] 2 (.lit (.r [] 0 .nil)))))))))))) ([.str [32, 120, 121, 117, 100], .int .i32 65533]) ([.int .i64 (-1)]) ([]) = (
uL letters = letters ∧ 0 = 0 ∧ 0 = 0 ∧ 0 ≤ 5 ∧ ∀ (b : LIt), b.p ≤ 5 → (ltn b.p 5 = true → ltn b.p 5 = true ∧ ((↑(Utf8.decode (ByteArray.mk (Array.mk letters)) b.p).fst : Int) == 65533) = false ∧ uL
letters = letters ∧ nxtP letters b.p = nxtP letters b.p ∧ 0 = 0 ∧ nxtP letters b.p ≤ 5 ∧ 5 - nxtP letters b.p < 5 - b.p ∧ True) ∧ (ltn b.p 5 = false → (!ltn b.p 5) = true ∧ iI (-1) = -1 ∧ True)) := by kernel_rfl

theorem ob_o34i (r : Int) : fnP (T34) G 10000 fe34 (.r [] 0 (.r [yL 2243] 6 (.ff (.r [] 0 (.ff (.r [] 1 (.tt (.r [] 0 .nil)))))))) ([.str [32, 120, 121, 117, 100], .int .i32 r]) ([.int .i64 (-1)]) ([]) = (
leb 0 r = true ∧ ltb r 128 = false ∧ (r == 65533) = false ∧ (!vrB r) = true ∧ iI (-1) = -1 ∧ True) := by kernel_rfl

theorem ob_o34v (r : Int) : fnP (T34) G 10000 fe34 (.r [] 0 (.r [yL 2243] 6 (.ff (.r [] 0 (.ff (.r [] 1 (.ff (.r [] 0 (.r [] 0 (.r [] 0 (.r [] 0 (.un (.r [] 0 (.tt (.tt (.r [] 32 (.r [] 0 (.tt (.r [] 0 .nil))))))))))))))))))) ([.str [32, 120, 121, 117, 100], .int .i32 r]) ([.int .i64 (-1)]) ([]) = (
leb 0 r = true ∧ ltb r 128 = false ∧ (r == 65533) = false ∧ (!vrB r) = false ∧ inR IntKind.i64 ((↑(List.length (Array.toList (Utf8.encode r).data)) : Int) - 1) = true ∧ ltb ((↑(List.length
(Array.toList (Utf8.encode r).data)) : Int) - 1) 5 = true ∧ leb 0 ((↑(List.length (Array.toList (Utf8.encode r).data)) : Int) - 1) = true ∧ ltb ((↑(List.length (Array.toList (Utf8.encode r).data)) :
Int) - 1) 5 = true ∧ leb 0 ((↑(List.length (Array.toList (Utf8.encode r).data)) : Int) - 1) = true ∧ ltb ((↑(List.length (Array.toList (Utf8.encode r).data)) : Int) - 1) (↑(List.length (Array.toList
(Utf8.encode r).data)) : Int) = true ∧ ((↑(UInt8.toNat (List.getD letters (Int.toNat ((↑(List.length (Array.toList (Utf8.encode r).data)) : Int) - 1)) 0)) : Int) != (↑(UInt8.toNat (List.getD
(Array.toList (Utf8.encode r).data) (Int.toNat ((↑(List.length (Array.toList (Utf8.encode r).data)) : Int) - 1)) 0)) : Int)) = true ∧ inR IntKind.i64 ((↑(List.length (Array.toList (Utf8.encode
r).data)) : Int) - 1 + 1) = true ∧ leb 0 ((↑(List.length (Array.toList (Utf8.encode r).data)) : Int) - 1 + 1) = true ∧ len' (Int.toNat ((↑(List.length (Array.toList (Utf8.encode r).data)) : Int) - 1 +
1)) 5 = true ∧ leb 0 ((↑(List.length (Array.toList (Utf8.encode r).data)) : Int) - 1) = true ∧ ltb ((↑(List.length (Array.toList (Utf8.encode r).data)) : Int) - 1) (↑(List.length (Array.toList
(Utf8.encode r).data)) : Int) = true ∧ ltb (ixB (List.drop (Int.toNat ((↑(List.length (Array.toList (Utf8.encode r).data)) : Int) - 1 + 1)) letters) (↑(UInt8.toNat (List.getD (Array.toList
(Utf8.encode r).data) (Int.toNat ((↑(List.length (Array.toList (Utf8.encode r).data)) : Int) - 1)) 0)) : Int)) 0 = true ∧ iI (-1) = -1 ∧ True) := by kernel_rfl

theorem ob_o56 (s : List UInt8) : fnP (T49) G 10000 fe56 (.r [] 0 (.r [] 0 (.r [] 3 (.cnd (.r [] 0 .nil) (.r [] 0 (.lit (.r [] 7 .nil))))))) ([.str s, .str [45]]) ([.int .i64 (ixB s 45)]) ([]) = (
(([45] == s) = true → 0 = ixB s 45 ∧ True) ∧ (([45] == s) = false → ixB s 45 = ixB s 45 ∧ True)) := by kernel_rfl

theorem ob_o53 (s : List UInt8) : fnP (T53) G 10000 fe53 (.r [] 0 (.r [] 1 .nil)) ([.str s, .str [45]]) ([.int .i64 (ixB s 45)]) ([]) = (
ixB s 45 = ixB s 45 ∧ True) := by kernel_rfl

theorem ob_o35 (s : List UInt8) : fnP (T35) G 10000 fe35 (.r [] 0 (.r [] 1 .nil)) ([.str s, .str [45]]) ([.bool (hasM s)]) ([]) = (
leb 0 (ixB s 45) = hasM s ∧ True) := by kernel_rfl

end Go.Proofs.YtpkmnabefnhcfaaDoor.X
