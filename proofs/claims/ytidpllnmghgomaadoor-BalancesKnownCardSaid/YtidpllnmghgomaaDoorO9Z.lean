/-
  What is to be shown of the functions (made by a program).
-/
import Derived.Test.YtidpllnmghgomaaDoorD9Z
import Derived.KernelRfl
set_option maxRecDepth 1000000
set_option linter.unusedVariables false
namespace Go.Proofs.YtidpllnmghgomaaDoor.X
open Go Go.Ab
open List IntKind

theorem ob_o12 (a k : List Int) : fnP (T0) G 10000 fe12 (.r [] 0 (.r [] 0 (.r [] 0 (.ghc 129 0 9001 1 (Cont.ints i64 []) (.ghc 129 1 9003 1 (Cont.ints u8 []) (.frz 3 7 (.lp (lO a k) [] [] (fun b => (.r [] 1 (.cnd (.r [] 0 (.r [] 0 (.gho 5 9002 2 (Cont.vals []) (.lp (lN a k (Int.toNat b.i)) [] [] (fun b_1 => (.r [] 0 (.cnd (.r [] 0 (.lp (lKk a k (Int.toNat b.i) (Int.toNat b_1.i)) [] [] (fun b_2 => (.r [] 0 (.cnd (.rs 7 [] 1 33 (.r [] 3 (.lit (.r [(902, .auto, Dr.val [AV.imm (Cont.ints i64 (take (Int.toNat b.i) a)) (Int.toNat b.i) (capO (Int.toNat b.i))]), (916, .auto, Dr.val
  [AV.imm (Cont.ints u8 (Option.getD (decs k (Int.toNat b.i))[Int.toNat b_1.i]? [])) (Int.toNat b.i)
      (capO (Int.toNat b.i))])] 151535760 (.r [] 0 .nil)))) (.r [] 97 (.cnd (.r [(902, .auto, Dr.val [AV.imm (Cont.ints i64 (take (Int.toNat b.i) a)) (Int.toNat b.i) (capO (Int.toNat b.i))]), (916, .auto, Dr.val
  [AV.imm (Cont.ints u8 (Option.getD (decs k (Int.toNat b.i))[Int.toNat b_1.i]? [])) (Int.toNat b.i)
      (capO (Int.toNat b.i))])] 151535760 (.r [] 0 .nil)) (.r [] 0 .nil)))) (.r [] 0 .nil)))))) (.r [] 0 (.frz 3 0 (.r [] 0 .nil)))))))))) (.r [] 0 .nil))))))))))) ([fanV a k]) ([.imm (.vals (fansL a (decs k k.length))) (decs k k.length).length none]) ([]) = (
 1 = 1 ∧ Cont.ints i64 a = Cont.ints i64 a ∧ length a = length a ∧ Cont.ints u8 k = Cont.ints u8 k ∧ length k = length k ∧ 1 = 1 ∧ 1 = 1 ∧ 0 = 0 ∧ 0 = 0 ∧ 0 = 0 ∧ 0 = 0 ∧ iL [] = [] ∧ 0 = 0 ∧ 0 = 0 ∧
 iL [] = [] ∧ 0 = 0 ∧ Cont.vals [AV.imm (Cont.ints i64 []) 0 (some 0), AV.imm (Cont.ints u8 []) 0 (some 0)] = Cont.vals [AV.imm (Cont.ints i64 []) 0 (some 0), AV.imm (Cont.ints u8 []) 0 (some 0)] ∧ 1 =
 1 ∧ iI 0 = 0 ∧ (∃ (m : Nat), 0 = (↑m : Int) ∧ m ≤ length a ∧ [AV.imm (Cont.ints i64 []) 0 (some 0), AV.imm (Cont.ints u8 []) 0 (some 0)] = fansL (take m a) (decs k m) ∧ 1 = length (decs k m)) ∧ ∀ (b :
 LO), (∃ (m : Nat), b.i = (↑m : Int) ∧ m ≤ length a ∧ b.l = fansL (take m a) (decs k m) ∧ b.n = length (decs k m)) → (ltb b.i (↑(length a) : Int) = true → 1 = 1 ∧ Cont.ints i64 a = Cont.ints i64 a ∧
 length a = length a ∧ Cont.ints u8 k = Cont.ints u8 k ∧ length k = length k ∧ 1 = 1 ∧ 1 = 1 ∧ 0 = 0 ∧ 0 = 0 ∧ 0 = 0 ∧ 0 = 0 ∧ iL [] = [] ∧ 0 = 0 ∧ 0 = 0 ∧ iL [] = [] ∧ 0 = 0 ∧ ([] : List AV) = [] ∧ 0
 = 0 ∧ Cont.vals b.l = Cont.vals b.l ∧ b.n = b.n ∧ b.i = b.i ∧ 0 = 0 ∧ iI 0 = 0 ∧ (∃ (j : Nat), 0 = (↑j : Int) ∧ j ≤ length (decs k (Int.toNat b.i)) ∧ [] = fansL (take (Int.toNat b.i + 1) a) (flatMap
 (ext (Option.getD k[Int.toNat b.i]? 0)) (take j (decs k (Int.toNat b.i)))) ∧ 0 = length (flatMap (ext (Option.getD k[Int.toNat b.i]? 0)) (take j (decs k (Int.toNat b.i))))) ∧ ∀ (b_1 : LO), (∃ (j :
 Nat), b_1.i = (↑j : Int) ∧ j ≤ length (decs k (Int.toNat b.i)) ∧ b_1.l = fansL (take (Int.toNat b.i + 1) a) (flatMap (ext (Option.getD k[Int.toNat b.i]? 0)) (take j (decs k (Int.toNat b.i)))) ∧ b_1.n
 = length (flatMap (ext (Option.getD k[Int.toNat b.i]? 0)) (take j (decs k (Int.toNat b.i))))) → (ltb b_1.i (↑b.n : Int) = true → 1 = 1 ∧ Cont.ints i64 a = Cont.ints i64 a ∧ length a = length a ∧
 Cont.ints u8 k = Cont.ints u8 k ∧ length k = length k ∧ 1 = 1 ∧ 1 = 1 ∧ 0 = 0 ∧ 0 = 0 ∧ 0 = 0 ∧ 0 = 0 ∧ iL [] = [] ∧ 0 = 0 ∧ 0 = 0 ∧ iL [] = [] ∧ b_1.n = b_1.n ∧ b_1.l = b_1.l ∧ 0 = 0 ∧ Cont.vals b.l
 = Cont.vals b.l ∧ b.n = b.n ∧ b.i = b.i ∧ b_1.n = b_1.n ∧ b_1.i = b_1.i ∧ iI 1 = 1 ∧ (∃ (c : Nat), 1 = (↑c : Int) ∧ 1 ≤ c ∧ c ≤ 3 ∧ b_1.l = fansL (take (Int.toNat b.i + 1) a) (flatMap (ext
 (Option.getD k[Int.toNat b.i]? 0)) (take (Int.toNat b_1.i) (decs k (Int.toNat b.i))) ++ extN (Option.getD k[Int.toNat b.i]? 0) (Option.getD (decs k (Int.toNat b.i))[Int.toNat b_1.i]? []) c) ∧ b_1.n =
 length (flatMap (ext (Option.getD k[Int.toNat b.i]? 0)) (take (Int.toNat b_1.i) (decs k (Int.toNat b.i))) ++ extN (Option.getD k[Int.toNat b.i]? 0) (Option.getD (decs k (Int.toNat b.i))[Int.toNat
 b_1.i]? []) c)) ∧ ∀ (b_2 : LO), (∃ (c : Nat), b_2.i = (↑c : Int) ∧ 1 ≤ c ∧ c ≤ 3 ∧ b_2.l = fansL (take (Int.toNat b.i + 1) a) (flatMap (ext (Option.getD k[Int.toNat b.i]? 0)) (take (Int.toNat b_1.i)
 (decs k (Int.toNat b.i))) ++ extN (Option.getD k[Int.toNat b.i]? 0) (Option.getD (decs k (Int.toNat b.i))[Int.toNat b_1.i]? []) c) ∧ b_2.n = length (flatMap (ext (Option.getD k[Int.toNat b.i]? 0))
 (take (Int.toNat b_1.i) (decs k (Int.toNat b.i))) ++ extN (Option.getD k[Int.toNat b.i]? 0) (Option.getD (decs k (Int.toNat b.i))[Int.toNat b_1.i]? []) c)) → (leb b_2.i 2 = true → leb 0 b.i = true ∧
 ltb b.i (↑(length k) : Int) = true ∧ ltn 0 (Cont.size (Cont.ints u8 k)) = true ∧ ltn 0 (Cont.size (Cont.ints u8 (drop (Int.toNat b.i) k))) = true ∧ ((getD (drop (Int.toNat b.i) k) 0 0 == 3) = true →
 leb 0 b_1.i = true ∧ ltb b_1.i (↑b.n : Int) = true ∧ ltn 0 (Cont.size (Cont.vals b.l)) = true ∧ (drop 0 (drop (Int.toNat b_1.i * 2) b.l))[0]? = some (AV.imm (Cont.ints i64 (take (Int.toNat b.i) a))
 (Int.toNat b.i) (capO (Int.toNat b.i))) ∧ len' ((0 + Int.toNat b.i) * 8) 140737488355328 = true ∧ Cont.size (Cont.ints i64 (take (Int.toNat b.i) a)) = Int.toNat b.i ∧ leb 0 b.i = true ∧ ltb b.i
 (↑(length a) : Int) = true ∧ ltn 0 (Cont.size (Cont.ints i64 a)) = true ∧ ltn 0 (Cont.size (Cont.ints i64 (drop (Int.toNat b.i) a))) = true ∧ 0 + Int.toNat b.i = 0 + Int.toNat b.i ∧ len' ((0 +
 Int.toNat b.i + 1) * 8) 140737488355328 = true ∧ leb 0 b_1.i = true ∧ ltb b_1.i (↑b.n : Int) = true ∧ ltn 0 (Cont.size (Cont.vals b.l)) = true ∧ (drop 1 (drop (Int.toNat b_1.i * 2) b.l))[0]? = some
 (AV.imm (Cont.ints u8 (Option.getD (decs k (Int.toNat b.i))[Int.toNat b_1.i]? [])) (Int.toNat b.i) (capO (Int.toNat b.i))) ∧ len' ((0 + Int.toNat b.i) * 1) 140737488355328 = true ∧ Cont.size
 (Cont.ints u8 (Option.getD (decs k (Int.toNat b.i))[Int.toNat b_1.i]? [])) = Int.toNat b.i ∧ 0 + Int.toNat b.i = 0 + Int.toNat b.i ∧ len' ((0 + Int.toNat b.i + 1) * 1) 140737488355328 = true ∧ b_2.n =
 b_2.n ∧ len' ((b_2.n + 1) * 48) 140737488355328 = true ∧ 0 + Int.toNat b.i + 1 = 0 + Int.toNat b.i + 1 ∧ 0 + Int.toNat b.i + 1 = 0 + Int.toNat b.i + 1 ∧ inR u8 (b_2.i + 1) = true ∧ 1 = 1 ∧ Cont.ints
 i64 a = Cont.ints i64 a ∧ length a = length a ∧ Cont.ints u8 k = Cont.ints u8 k ∧ length k = length k ∧ 1 = 1 ∧ 1 = 1 ∧ 0 = 0 ∧ 0 = 0 ∧ 0 = 0 ∧ 0 = 0 ∧ iL [] = [] ∧ 0 = 0 ∧ 0 = 0 ∧ iL [] = [] ∧ b_2.n
 + 1 = b_2.n + 1 ∧ b_2.l ++ [AV.imm (Cont.ints i64 ([] ++ take (Int.toNat b.i) a ++ [getD (drop (Int.toNat b.i) a) 0 0])) (0 + Int.toNat b.i + 1) none, AV.imm (Cont.ints u8 ([] ++ Option.getD (decs k
 (Int.toNat b.i))[Int.toNat b_1.i]? [] ++ [b_2.i])) (0 + Int.toNat b.i + 1) none] = b_2.l ++ [AV.imm (Cont.ints i64 ([] ++ take (Int.toNat b.i) a ++ [getD (drop (Int.toNat b.i) a) 0 0])) (0 + Int.toNat
 b.i + 1) none, AV.imm (Cont.ints u8 ([] ++ Option.getD (decs k (Int.toNat b.i))[Int.toNat b_1.i]? [] ++ [b_2.i])) (0 + Int.toNat b.i + 1) none] ∧ 0 = 0 ∧ Cont.vals b.l = Cont.vals b.l ∧ b.n = b.n ∧
 b.i = b.i ∧ b_2.n + 1 = b_2.n + 1 ∧ b_1.i = b_1.i ∧ b_2.i + 1 = b_2.i + 1 ∧ (∃ (c : Nat), b_2.i + 1 = (↑c : Int) ∧ 1 ≤ c ∧ c ≤ 3 ∧ b_2.l ++ [AV.imm (Cont.ints i64 ([] ++ take (Int.toNat b.i) a ++
 [getD (drop (Int.toNat b.i) a) 0 0])) (0 + Int.toNat b.i + 1) none, AV.imm (Cont.ints u8 ([] ++ Option.getD (decs k (Int.toNat b.i))[Int.toNat b_1.i]? [] ++ [b_2.i])) (0 + Int.toNat b.i + 1) none] =
 fansL (take (Int.toNat b.i + 1) a) (flatMap (ext (Option.getD k[Int.toNat b.i]? 0)) (take (Int.toNat b_1.i) (decs k (Int.toNat b.i))) ++ extN (Option.getD k[Int.toNat b.i]? 0) (Option.getD (decs k
 (Int.toNat b.i))[Int.toNat b_1.i]? []) c) ∧ b_2.n + 1 = length (flatMap (ext (Option.getD k[Int.toNat b.i]? 0)) (take (Int.toNat b_1.i) (decs k (Int.toNat b.i))) ++ extN (Option.getD k[Int.toNat b.i]?
 0) (Option.getD (decs k (Int.toNat b.i))[Int.toNat b_1.i]? []) c)) ∧ 3 - Int.toNat (b_2.i + 1) < 3 - Int.toNat b_2.i ∧ True) ∧ ((getD (drop (Int.toNat b.i) k) 0 0 == 3) = false → leb 0 b.i = true ∧
 ltb b.i (↑(length k) : Int) = true ∧ ltn 0 (Cont.size (Cont.ints u8 k)) = true ∧ ltn 0 (Cont.size (Cont.ints u8 (drop (Int.toNat b.i) k))) = true ∧ ((getD (drop (Int.toNat b.i) k) 0 0 == b_2.i) = true
 → leb 0 b_1.i = true ∧ ltb b_1.i (↑b.n : Int) = true ∧ ltn 0 (Cont.size (Cont.vals b.l)) = true ∧ (drop 0 (drop (Int.toNat b_1.i * 2) b.l))[0]? = some (AV.imm (Cont.ints i64 (take (Int.toNat b.i) a))
 (Int.toNat b.i) (capO (Int.toNat b.i))) ∧ len' ((0 + Int.toNat b.i) * 8) 140737488355328 = true ∧ Cont.size (Cont.ints i64 (take (Int.toNat b.i) a)) = Int.toNat b.i ∧ leb 0 b.i = true ∧ ltb b.i
 (↑(length a) : Int) = true ∧ ltn 0 (Cont.size (Cont.ints i64 a)) = true ∧ ltn 0 (Cont.size (Cont.ints i64 (drop (Int.toNat b.i) a))) = true ∧ 0 + Int.toNat b.i = 0 + Int.toNat b.i ∧ len' ((0 +
 Int.toNat b.i + 1) * 8) 140737488355328 = true ∧ leb 0 b_1.i = true ∧ ltb b_1.i (↑b.n : Int) = true ∧ ltn 0 (Cont.size (Cont.vals b.l)) = true ∧ (drop 1 (drop (Int.toNat b_1.i * 2) b.l))[0]? = some
 (AV.imm (Cont.ints u8 (Option.getD (decs k (Int.toNat b.i))[Int.toNat b_1.i]? [])) (Int.toNat b.i) (capO (Int.toNat b.i))) ∧ len' ((0 + Int.toNat b.i) * 1) 140737488355328 = true ∧ Cont.size
 (Cont.ints u8 (Option.getD (decs k (Int.toNat b.i))[Int.toNat b_1.i]? [])) = Int.toNat b.i ∧ 0 + Int.toNat b.i = 0 + Int.toNat b.i ∧ len' ((0 + Int.toNat b.i + 1) * 1) 140737488355328 = true ∧ b_2.n =
 b_2.n ∧ len' ((b_2.n + 1) * 48) 140737488355328 = true ∧ 0 + Int.toNat b.i + 1 = 0 + Int.toNat b.i + 1 ∧ 0 + Int.toNat b.i + 1 = 0 + Int.toNat b.i + 1 ∧ inR u8 (b_2.i + 1) = true ∧ 1 = 1 ∧ Cont.ints
 i64 a = Cont.ints i64 a ∧ length a = length a ∧ Cont.ints u8 k = Cont.ints u8 k ∧ length k = length k ∧ 1 = 1 ∧ 1 = 1 ∧ 0 = 0 ∧ 0 = 0 ∧ 0 = 0 ∧ 0 = 0 ∧ iL [] = [] ∧ 0 = 0 ∧ 0 = 0 ∧ iL [] = [] ∧ b_2.n
 + 1 = b_2.n + 1 ∧ b_2.l ++ [AV.imm (Cont.ints i64 ([] ++ take (Int.toNat b.i) a ++ [getD (drop (Int.toNat b.i) a) 0 0])) (0 + Int.toNat b.i + 1) none, AV.imm (Cont.ints u8 ([] ++ Option.getD (decs k
 (Int.toNat b.i))[Int.toNat b_1.i]? [] ++ [b_2.i])) (0 + Int.toNat b.i + 1) none] = b_2.l ++ [AV.imm (Cont.ints i64 ([] ++ take (Int.toNat b.i) a ++ [getD (drop (Int.toNat b.i) a) 0 0])) (0 + Int.toNat
 b.i + 1) none, AV.imm (Cont.ints u8 ([] ++ Option.getD (decs k (Int.toNat b.i))[Int.toNat b_1.i]? [] ++ [b_2.i])) (0 + Int.toNat b.i + 1) none] ∧ 0 = 0 ∧ Cont.vals b.l = Cont.vals b.l ∧ b.n = b.n ∧
 b.i = b.i ∧ b_2.n + 1 = b_2.n + 1 ∧ b_1.i = b_1.i ∧ b_2.i + 1 = b_2.i + 1 ∧ (∃ (c : Nat), b_2.i + 1 = (↑c : Int) ∧ 1 ≤ c ∧ c ≤ 3 ∧ b_2.l ++ [AV.imm (Cont.ints i64 ([] ++ take (Int.toNat b.i) a ++
 [getD (drop (Int.toNat b.i) a) 0 0])) (0 + Int.toNat b.i + 1) none, AV.imm (Cont.ints u8 ([] ++ Option.getD (decs k (Int.toNat b.i))[Int.toNat b_1.i]? [] ++ [b_2.i])) (0 + Int.toNat b.i + 1) none] =
 fansL (take (Int.toNat b.i + 1) a) (flatMap (ext (Option.getD k[Int.toNat b.i]? 0)) (take (Int.toNat b_1.i) (decs k (Int.toNat b.i))) ++ extN (Option.getD k[Int.toNat b.i]? 0) (Option.getD (decs k
 (Int.toNat b.i))[Int.toNat b_1.i]? []) c) ∧ b_2.n + 1 = length (flatMap (ext (Option.getD k[Int.toNat b.i]? 0)) (take (Int.toNat b_1.i) (decs k (Int.toNat b.i))) ++ extN (Option.getD k[Int.toNat b.i]?
 0) (Option.getD (decs k (Int.toNat b.i))[Int.toNat b_1.i]? []) c)) ∧ 3 - Int.toNat (b_2.i + 1) < 3 - Int.toNat b_2.i ∧ True) ∧ ((getD (drop (Int.toNat b.i) k) 0 0 == b_2.i) = false → inR u8 (b_2.i +
 1) = true ∧ 1 = 1 ∧ Cont.ints i64 a = Cont.ints i64 a ∧ length a = length a ∧ Cont.ints u8 k = Cont.ints u8 k ∧ length k = length k ∧ 1 = 1 ∧ 1 = 1 ∧ 0 = 0 ∧ 0 = 0 ∧ 0 = 0 ∧ 0 = 0 ∧ iL [] = [] ∧ 0 = 0
 ∧ 0 = 0 ∧ iL [] = [] ∧ b_2.n = b_2.n ∧ b_2.l = b_2.l ∧ 0 = 0 ∧ Cont.vals b.l = Cont.vals b.l ∧ b.n = b.n ∧ b.i = b.i ∧ b_2.n = b_2.n ∧ b_1.i = b_1.i ∧ b_2.i + 1 = b_2.i + 1 ∧ (∃ (c : Nat), b_2.i + 1 =
 (↑c : Int) ∧ 1 ≤ c ∧ c ≤ 3 ∧ b_2.l = fansL (take (Int.toNat b.i + 1) a) (flatMap (ext (Option.getD k[Int.toNat b.i]? 0)) (take (Int.toNat b_1.i) (decs k (Int.toNat b.i))) ++ extN (Option.getD
 k[Int.toNat b.i]? 0) (Option.getD (decs k (Int.toNat b.i))[Int.toNat b_1.i]? []) c) ∧ b_2.n = length (flatMap (ext (Option.getD k[Int.toNat b.i]? 0)) (take (Int.toNat b_1.i) (decs k (Int.toNat b.i)))
 ++ extN (Option.getD k[Int.toNat b.i]? 0) (Option.getD (decs k (Int.toNat b.i))[Int.toNat b_1.i]? []) c)) ∧ 3 - Int.toNat (b_2.i + 1) < 3 - Int.toNat b_2.i ∧ True))) ∧ (leb b_2.i 2 = false → inR i64
 (b_1.i + 1) = true ∧ 1 = 1 ∧ Cont.ints i64 a = Cont.ints i64 a ∧ length a = length a ∧ Cont.ints u8 k = Cont.ints u8 k ∧ length k = length k ∧ 1 = 1 ∧ 1 = 1 ∧ 0 = 0 ∧ 0 = 0 ∧ 0 = 0 ∧ 0 = 0 ∧ iL [] =
 [] ∧ 0 = 0 ∧ 0 = 0 ∧ iL [] = [] ∧ b_2.n = b_2.n ∧ b_2.l = b_2.l ∧ 0 = 0 ∧ Cont.vals b.l = Cont.vals b.l ∧ b.n = b.n ∧ b.i = b.i ∧ b_2.n = b_2.n ∧ b_1.i + 1 = b_1.i + 1 ∧ (∃ (j : Nat), b_1.i + 1 = (↑j
 : Int) ∧ j ≤ length (decs k (Int.toNat b.i)) ∧ b_2.l = fansL (take (Int.toNat b.i + 1) a) (flatMap (ext (Option.getD k[Int.toNat b.i]? 0)) (take j (decs k (Int.toNat b.i)))) ∧ b_2.n = length (flatMap
 (ext (Option.getD k[Int.toNat b.i]? 0)) (take j (decs k (Int.toNat b.i))))) ∧ length (decs k (Int.toNat b.i)) - Int.toNat (b_1.i + 1) < length (decs k (Int.toNat b.i)) - Int.toNat b_1.i ∧ True)) ∧
 (ltb b_1.i (↑b.n : Int) = false → b_1.n = b_1.n ∧ inR i64 (b.i + 1) = true ∧ 1 = 1 ∧ Cont.ints i64 a = Cont.ints i64 a ∧ length a = length a ∧ Cont.ints u8 k = Cont.ints u8 k ∧ length k = length k ∧ 1
 = 1 ∧ 1 = 1 ∧ 0 = 0 ∧ 0 = 0 ∧ 0 = 0 ∧ 0 = 0 ∧ iL [] = [] ∧ 0 = 0 ∧ 0 = 0 ∧ iL [] = [] ∧ 0 = 0 ∧ Cont.vals b_1.l = Cont.vals b_1.l ∧ b_1.n = b_1.n ∧ b.i + 1 = b.i + 1 ∧ (∃ (m : Nat), b.i + 1 = (↑m :
 Int) ∧ m ≤ length a ∧ b_1.l = fansL (take m a) (decs k m) ∧ b_1.n = length (decs k m)) ∧ length a - Int.toNat (b.i + 1) < length a - Int.toNat b.i ∧ True)) ∧ (ltb b.i (↑(length a) : Int) = false →
 Cont.vals b.l = Cont.vals (fansL a (decs k (length k))) ∧ b.n = length (decs k (length k)) ∧ True)) := by kernel_rfl

end Go.Proofs.YtidpllnmghgomaaDoor.X
