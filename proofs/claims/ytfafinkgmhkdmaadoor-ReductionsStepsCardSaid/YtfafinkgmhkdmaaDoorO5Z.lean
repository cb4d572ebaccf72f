/-
  What is to be shown of the functions (made by a program).
-/
import Derived.Test.YtfafinkgmhkdmaaDoorD5Z
import Derived.KernelRfl
set_option maxRecDepth 1000000
set_option linter.unusedVariables false
namespace Go.Proofs.YtfafinkgmhkdmaaDoor.X
open Go Go.Ab

theorem ob_o3 (c l : Int) (ks ys : List Int) : fnP (UL) G 10000 fe3 (.r [] 0 (.r [] 0 (.cnd (.r [] 1 .nil) (.r [] 5 (.r [] 13 (.r [] 0 (.cnd (.r [] 0 .nil) (.r [] 0 (.lp (l3 (ofA c l ks) (vK (ofK c ks)) ys) [] [] (fun b => (.r [] 0 (.cnd (.r [] 13 (.r [] 0 (.cnd (.r [] 0 .nil) (.r [] 0 (.cnd (.r [] 1 .nil) (.r [] 28673 (.r [] 13 (.r [yL 1091, yL 1095] 54 (.cnd (.r [] 0 .nil) (.r [] 3 (.r [] 0 .nil))))))))))) (.r [] 1 .nil))))))))))))) ([fV c l ks, .imm (.ints .u8 ys) ys.length none]) ([.bool true]) ([]) = (
(ltb 6 (↑(List.length ys) : Int) = true → true = true ∧ True) ∧ (ltb 6 (↑(List.length ys) : Int) = false → (List.length ks = List.length ks ∧ okK ks) ∧ (List.length (ofA c l ks) = List.length (ofA c l
ks) ∧ List.length (vK (ofK c ks)) = List.length (vK (ofK c ks)) ∧ List.length (ofA c l ks) < 1000000000 ∧ List.length (vK (ofK c ks)) < 1000000000) ∧ ((dcd (ofA c l ks) (vK (ofK c ks)) != 0) = true →
false = true ∧ True) ∧ ((dcd (ofA c l ks) (vK (ofK c ks)) != 0) = false → 1 = 1 ∧ c = c ∧ l = l ∧ Cont.ints IntKind.u8 ks = Cont.ints IntKind.u8 ks ∧ List.length ks = List.length ks ∧ 1 = 1 ∧
Cont.ints IntKind.i64 (ofA c l ks) = Cont.ints IntKind.i64 (ofA c l ks) ∧ List.length (ofA c l ks) = List.length (ofA c l ks) ∧ Cont.ints IntKind.u8 (vK (ofK c ks)) = Cont.ints IntKind.u8 (vK (ofK c
ks)) ∧ List.length (vK (ofK c ks)) = List.length (vK (ofK c ks)) ∧ Cont.ints IntKind.u8 ys = Cont.ints IntKind.u8 ys ∧ List.length ys = List.length ys ∧ 0 = 0 ∧ (okD (ofA c l ks) (vK (ofK c ks)) &&
foldB (ofA c l ks) (vK (ofK c ks))) = (okD (ofA c l ks) (vK (ofK c ks)) && foldB (ofA c l ks) (vK (ofK c ks))) ∧ iI 0 = 0 ∧ (∃ (n : Nat), 0 = (↑n : Int) ∧ n ≤ List.length ys ∧ okF (ofA c l ks) (vK
(ofK c ks)) 8 = true ∧ foldB (ofA c l ks) (vK (ofK c ks)) = foldB (ofA c l ks) (vK (ofK c ks))) ∧ ∀ (b : L3), (∃ (n : Nat), b.i = (↑n : Int) ∧ n ≤ List.length ys ∧ okF b.a b.k 8 = true ∧ foldB b.a b.k
= foldB (ofA c l ks) (vK (ofK c ks))) → (ltb b.i (↑(List.length ys) : Int) = true → (List.length b.a = List.length b.a ∧ List.length b.k = List.length b.k ∧ List.length b.a < 1000000000 ∧ List.length
b.k < 1000000000) ∧ ((dcd b.a b.k != 0) = true → false = true ∧ True) ∧ ((dcd b.a b.k != 0) = false → (((↑(List.length (bLs (okD b.a b.k) (stI b.a b.k))) : Int) == 0) = true → true = true ∧ True) ∧
(((↑(List.length (bLs (okD b.a b.k) (stI b.a b.k))) : Int) == 0) = false → leb 0 b.i = true ∧ ltb b.i (↑(List.length ys) : Int) = true ∧ ltn 0 (Cont.size (Cont.ints IntKind.u8 ys)) = true ∧ ltn 0
(Cont.size (Cont.ints IntKind.u8 (List.drop (Int.toNat b.i) ys))) = true ∧ inR IntKind.i64 (List.getD (List.drop (Int.toNat b.i) ys) 0 0) = true ∧ (!(↑(List.length (bLs (okD b.a b.k) (stI b.a b.k))) :
Int) == 0) = true ∧ leb 0 (Int.tmod (List.getD (List.drop (Int.toNat b.i) ys) 0 0) (↑(List.length (bLs (okD b.a b.k) (stI b.a b.k))) : Int)) = true ∧ ltb (Int.tmod (List.getD (List.drop (Int.toNat
b.i) ys) 0 0) (↑(List.length (bLs (okD b.a b.k) (stI b.a b.k))) : Int)) (↑(List.length (bLs (okD b.a b.k) (stI b.a b.k))) : Int) = true ∧ ltn 0 (Cont.size (Cont.ints IntKind.i64 (bLs (okD b.a b.k)
(stI b.a b.k)))) = true ∧ ltn 0 (Cont.size (Cont.ints IntKind.i64 (List.drop (Int.toNat (Int.tmod (List.getD (List.drop (Int.toNat b.i) ys) 0 0) (↑(List.length (bLs (okD b.a b.k) (stI b.a b.k))) :
Int))) (bLs (okD b.a b.k) (stI b.a b.k))))) = true ∧ (List.length b.a = List.length b.a ∧ List.length b.k = List.length b.k ∧ List.length b.a < 1000000000 ∧ List.length b.k < 1000000000) ∧
(List.length (bLs (doB b.a b.k (List.getD (List.drop (Int.toNat (Int.tmod (List.getD (List.drop (Int.toNat b.i) ys) 0 0) (↑(List.length (bLs (okD b.a b.k) (stI b.a b.k))) : Int))) (bLs (okD b.a b.k)
(stI b.a b.k))) 0 0)) (doneA b.a (Int.toNat (List.getD (List.drop (Int.toNat (Int.tmod (List.getD (List.drop (Int.toNat b.i) ys) 0 0) (↑(List.length (bLs (okD b.a b.k) (stI b.a b.k))) : Int))) (bLs
(okD b.a b.k) (stI b.a b.k))) 0 0)))) = List.length (bLs (doB b.a b.k (List.getD (List.drop (Int.toNat (Int.tmod (List.getD (List.drop (Int.toNat b.i) ys) 0 0) (↑(List.length (bLs (okD b.a b.k) (stI
b.a b.k))) : Int))) (bLs (okD b.a b.k) (stI b.a b.k))) 0 0)) (doneA b.a (Int.toNat (List.getD (List.drop (Int.toNat (Int.tmod (List.getD (List.drop (Int.toNat b.i) ys) 0 0) (↑(List.length (bLs (okD
b.a b.k) (stI b.a b.k))) : Int))) (bLs (okD b.a b.k) (stI b.a b.k))) 0 0)))) ∧ List.length (bLs (doB b.a b.k (List.getD (List.drop (Int.toNat (Int.tmod (List.getD (List.drop (Int.toNat b.i) ys) 0 0)
(↑(List.length (bLs (okD b.a b.k) (stI b.a b.k))) : Int))) (bLs (okD b.a b.k) (stI b.a b.k))) 0 0)) (doneK b.k (Int.toNat (List.getD (List.drop (Int.toNat (Int.tmod (List.getD (List.drop (Int.toNat
b.i) ys) 0 0) (↑(List.length (bLs (okD b.a b.k) (stI b.a b.k))) : Int))) (bLs (okD b.a b.k) (stI b.a b.k))) 0 0)))) = List.length (bLs (doB b.a b.k (List.getD (List.drop (Int.toNat (Int.tmod
(List.getD (List.drop (Int.toNat b.i) ys) 0 0) (↑(List.length (bLs (okD b.a b.k) (stI b.a b.k))) : Int))) (bLs (okD b.a b.k) (stI b.a b.k))) 0 0)) (doneK b.k (Int.toNat (List.getD (List.drop
(Int.toNat (Int.tmod (List.getD (List.drop (Int.toNat b.i) ys) 0 0) (↑(List.length (bLs (okD b.a b.k) (stI b.a b.k))) : Int))) (bLs (okD b.a b.k) (stI b.a b.k))) 0 0)))) ∧ List.length (bLs (doB b.a
b.k (List.getD (List.drop (Int.toNat (Int.tmod (List.getD (List.drop (Int.toNat b.i) ys) 0 0) (↑(List.length (bLs (okD b.a b.k) (stI b.a b.k))) : Int))) (bLs (okD b.a b.k) (stI b.a b.k))) 0 0)) (doneA
b.a (Int.toNat (List.getD (List.drop (Int.toNat (Int.tmod (List.getD (List.drop (Int.toNat b.i) ys) 0 0) (↑(List.length (bLs (okD b.a b.k) (stI b.a b.k))) : Int))) (bLs (okD b.a b.k) (stI b.a b.k))) 0
0)))) < 1000000000 ∧ List.length (bLs (doB b.a b.k (List.getD (List.drop (Int.toNat (Int.tmod (List.getD (List.drop (Int.toNat b.i) ys) 0 0) (↑(List.length (bLs (okD b.a b.k) (stI b.a b.k))) : Int)))
(bLs (okD b.a b.k) (stI b.a b.k))) 0 0)) (doneK b.k (Int.toNat (List.getD (List.drop (Int.toNat (Int.tmod (List.getD (List.drop (Int.toNat b.i) ys) 0 0) (↑(List.length (bLs (okD b.a b.k) (stI b.a
b.k))) : Int))) (bLs (okD b.a b.k) (stI b.a b.k))) 0 0)))) < 1000000000) ∧ (!doE b.a b.k (List.getD (List.drop (Int.toNat (Int.tmod (List.getD (List.drop (Int.toNat b.i) ys) 0 0) (↑(List.length (bLs
(okD b.a b.k) (stI b.a b.k))) : Int))) (bLs (okD b.a b.k) (stI b.a b.k))) 0 0) != 0) = true ∧ (!dcd (bLs (doB b.a b.k (List.getD (List.drop (Int.toNat (Int.tmod (List.getD (List.drop (Int.toNat b.i)
ys) 0 0) (↑(List.length (bLs (okD b.a b.k) (stI b.a b.k))) : Int))) (bLs (okD b.a b.k) (stI b.a b.k))) 0 0)) (doneA b.a (Int.toNat (List.getD (List.drop (Int.toNat (Int.tmod (List.getD (List.drop
(Int.toNat b.i) ys) 0 0) (↑(List.length (bLs (okD b.a b.k) (stI b.a b.k))) : Int))) (bLs (okD b.a b.k) (stI b.a b.k))) 0 0)))) (bLs (doB b.a b.k (List.getD (List.drop (Int.toNat (Int.tmod (List.getD
(List.drop (Int.toNat b.i) ys) 0 0) (↑(List.length (bLs (okD b.a b.k) (stI b.a b.k))) : Int))) (bLs (okD b.a b.k) (stI b.a b.k))) 0 0)) (doneK b.k (Int.toNat (List.getD (List.drop (Int.toNat (Int.tmod
(List.getD (List.drop (Int.toNat b.i) ys) 0 0) (↑(List.length (bLs (okD b.a b.k) (stI b.a b.k))) : Int))) (bLs (okD b.a b.k) (stI b.a b.k))) 0 0)))) != 0) = true ∧ ((!(okD (bLs (doB b.a b.k (List.getD
(List.drop (Int.toNat (Int.tmod (List.getD (List.drop (Int.toNat b.i) ys) 0 0) (↑(List.length (bLs (okD b.a b.k) (stI b.a b.k))) : Int))) (bLs (okD b.a b.k) (stI b.a b.k))) 0 0)) (doneA b.a (Int.toNat
(List.getD (List.drop (Int.toNat (Int.tmod (List.getD (List.drop (Int.toNat b.i) ys) 0 0) (↑(List.length (bLs (okD b.a b.k) (stI b.a b.k))) : Int))) (bLs (okD b.a b.k) (stI b.a b.k))) 0 0)))) (bLs
(doB b.a b.k (List.getD (List.drop (Int.toNat (Int.tmod (List.getD (List.drop (Int.toNat b.i) ys) 0 0) (↑(List.length (bLs (okD b.a b.k) (stI b.a b.k))) : Int))) (bLs (okD b.a b.k) (stI b.a b.k))) 0
0)) (doneK b.k (Int.toNat (List.getD (List.drop (Int.toNat (Int.tmod (List.getD (List.drop (Int.toNat b.i) ys) 0 0) (↑(List.length (bLs (okD b.a b.k) (stI b.a b.k))) : Int))) (bLs (okD b.a b.k) (stI
b.a b.k))) 0 0)))) && foldB (bLs (doB b.a b.k (List.getD (List.drop (Int.toNat (Int.tmod (List.getD (List.drop (Int.toNat b.i) ys) 0 0) (↑(List.length (bLs (okD b.a b.k) (stI b.a b.k))) : Int))) (bLs
(okD b.a b.k) (stI b.a b.k))) 0 0)) (doneA b.a (Int.toNat (List.getD (List.drop (Int.toNat (Int.tmod (List.getD (List.drop (Int.toNat b.i) ys) 0 0) (↑(List.length (bLs (okD b.a b.k) (stI b.a b.k))) :
Int))) (bLs (okD b.a b.k) (stI b.a b.k))) 0 0)))) (bLs (doB b.a b.k (List.getD (List.drop (Int.toNat (Int.tmod (List.getD (List.drop (Int.toNat b.i) ys) 0 0) (↑(List.length (bLs (okD b.a b.k) (stI b.a
b.k))) : Int))) (bLs (okD b.a b.k) (stI b.a b.k))) 0 0)) (doneK b.k (Int.toNat (List.getD (List.drop (Int.toNat (Int.tmod (List.getD (List.drop (Int.toNat b.i) ys) 0 0) (↑(List.length (bLs (okD b.a
b.k) (stI b.a b.k))) : Int))) (bLs (okD b.a b.k) (stI b.a b.k))) 0 0))))) == (okD (ofA c l ks) (vK (ofK c ks)) && foldB (ofA c l ks) (vK (ofK c ks)))) = true → false = true ∧ True) ∧ ((!(okD (bLs (doB
b.a b.k (List.getD (List.drop (Int.toNat (Int.tmod (List.getD (List.drop (Int.toNat b.i) ys) 0 0) (↑(List.length (bLs (okD b.a b.k) (stI b.a b.k))) : Int))) (bLs (okD b.a b.k) (stI b.a b.k))) 0 0))
(doneA b.a (Int.toNat (List.getD (List.drop (Int.toNat (Int.tmod (List.getD (List.drop (Int.toNat b.i) ys) 0 0) (↑(List.length (bLs (okD b.a b.k) (stI b.a b.k))) : Int))) (bLs (okD b.a b.k) (stI b.a
b.k))) 0 0)))) (bLs (doB b.a b.k (List.getD (List.drop (Int.toNat (Int.tmod (List.getD (List.drop (Int.toNat b.i) ys) 0 0) (↑(List.length (bLs (okD b.a b.k) (stI b.a b.k))) : Int))) (bLs (okD b.a b.k)
(stI b.a b.k))) 0 0)) (doneK b.k (Int.toNat (List.getD (List.drop (Int.toNat (Int.tmod (List.getD (List.drop (Int.toNat b.i) ys) 0 0) (↑(List.length (bLs (okD b.a b.k) (stI b.a b.k))) : Int))) (bLs
(okD b.a b.k) (stI b.a b.k))) 0 0)))) && foldB (bLs (doB b.a b.k (List.getD (List.drop (Int.toNat (Int.tmod (List.getD (List.drop (Int.toNat b.i) ys) 0 0) (↑(List.length (bLs (okD b.a b.k) (stI b.a
b.k))) : Int))) (bLs (okD b.a b.k) (stI b.a b.k))) 0 0)) (doneA b.a (Int.toNat (List.getD (List.drop (Int.toNat (Int.tmod (List.getD (List.drop (Int.toNat b.i) ys) 0 0) (↑(List.length (bLs (okD b.a
b.k) (stI b.a b.k))) : Int))) (bLs (okD b.a b.k) (stI b.a b.k))) 0 0)))) (bLs (doB b.a b.k (List.getD (List.drop (Int.toNat (Int.tmod (List.getD (List.drop (Int.toNat b.i) ys) 0 0) (↑(List.length (bLs
(okD b.a b.k) (stI b.a b.k))) : Int))) (bLs (okD b.a b.k) (stI b.a b.k))) 0 0)) (doneK b.k (Int.toNat (List.getD (List.drop (Int.toNat (Int.tmod (List.getD (List.drop (Int.toNat b.i) ys) 0 0)
(↑(List.length (bLs (okD b.a b.k) (stI b.a b.k))) : Int))) (bLs (okD b.a b.k) (stI b.a b.k))) 0 0))))) == (okD (ofA c l ks) (vK (ofK c ks)) && foldB (ofA c l ks) (vK (ofK c ks)))) = false → inR
IntKind.i64 (b.i + 1) = true ∧ 1 = 1 ∧ c = c ∧ l = l ∧ Cont.ints IntKind.u8 ks = Cont.ints IntKind.u8 ks ∧ List.length ks = List.length ks ∧ 1 = 1 ∧ Cont.ints IntKind.i64 (bLs (doB b.a b.k (List.getD
(List.drop (Int.toNat (Int.tmod (List.getD (List.drop (Int.toNat b.i) ys) 0 0) (↑(List.length (bLs (okD b.a b.k) (stI b.a b.k))) : Int))) (bLs (okD b.a b.k) (stI b.a b.k))) 0 0)) (doneA b.a (Int.toNat
(List.getD (List.drop (Int.toNat (Int.tmod (List.getD (List.drop (Int.toNat b.i) ys) 0 0) (↑(List.length (bLs (okD b.a b.k) (stI b.a b.k))) : Int))) (bLs (okD b.a b.k) (stI b.a b.k))) 0 0)))) =
Cont.ints IntKind.i64 (bLs (doB b.a b.k (List.getD (List.drop (Int.toNat (Int.tmod (List.getD (List.drop (Int.toNat b.i) ys) 0 0) (↑(List.length (bLs (okD b.a b.k) (stI b.a b.k))) : Int))) (bLs (okD
b.a b.k) (stI b.a b.k))) 0 0)) (doneA b.a (Int.toNat (List.getD (List.drop (Int.toNat (Int.tmod (List.getD (List.drop (Int.toNat b.i) ys) 0 0) (↑(List.length (bLs (okD b.a b.k) (stI b.a b.k))) :
Int))) (bLs (okD b.a b.k) (stI b.a b.k))) 0 0)))) ∧ List.length (bLs (doB b.a b.k (List.getD (List.drop (Int.toNat (Int.tmod (List.getD (List.drop (Int.toNat b.i) ys) 0 0) (↑(List.length (bLs (okD b.a
b.k) (stI b.a b.k))) : Int))) (bLs (okD b.a b.k) (stI b.a b.k))) 0 0)) (doneA b.a (Int.toNat (List.getD (List.drop (Int.toNat (Int.tmod (List.getD (List.drop (Int.toNat b.i) ys) 0 0) (↑(List.length
(bLs (okD b.a b.k) (stI b.a b.k))) : Int))) (bLs (okD b.a b.k) (stI b.a b.k))) 0 0)))) = List.length (bLs (doB b.a b.k (List.getD (List.drop (Int.toNat (Int.tmod (List.getD (List.drop (Int.toNat b.i)
ys) 0 0) (↑(List.length (bLs (okD b.a b.k) (stI b.a b.k))) : Int))) (bLs (okD b.a b.k) (stI b.a b.k))) 0 0)) (doneA b.a (Int.toNat (List.getD (List.drop (Int.toNat (Int.tmod (List.getD (List.drop
(Int.toNat b.i) ys) 0 0) (↑(List.length (bLs (okD b.a b.k) (stI b.a b.k))) : Int))) (bLs (okD b.a b.k) (stI b.a b.k))) 0 0)))) ∧ Cont.ints IntKind.u8 (bLs (doB b.a b.k (List.getD (List.drop (Int.toNat
(Int.tmod (List.getD (List.drop (Int.toNat b.i) ys) 0 0) (↑(List.length (bLs (okD b.a b.k) (stI b.a b.k))) : Int))) (bLs (okD b.a b.k) (stI b.a b.k))) 0 0)) (doneK b.k (Int.toNat (List.getD (List.drop
(Int.toNat (Int.tmod (List.getD (List.drop (Int.toNat b.i) ys) 0 0) (↑(List.length (bLs (okD b.a b.k) (stI b.a b.k))) : Int))) (bLs (okD b.a b.k) (stI b.a b.k))) 0 0)))) = Cont.ints IntKind.u8 (bLs
(doB b.a b.k (List.getD (List.drop (Int.toNat (Int.tmod (List.getD (List.drop (Int.toNat b.i) ys) 0 0) (↑(List.length (bLs (okD b.a b.k) (stI b.a b.k))) : Int))) (bLs (okD b.a b.k) (stI b.a b.k))) 0
0)) (doneK b.k (Int.toNat (List.getD (List.drop (Int.toNat (Int.tmod (List.getD (List.drop (Int.toNat b.i) ys) 0 0) (↑(List.length (bLs (okD b.a b.k) (stI b.a b.k))) : Int))) (bLs (okD b.a b.k) (stI
b.a b.k))) 0 0)))) ∧ List.length (bLs (doB b.a b.k (List.getD (List.drop (Int.toNat (Int.tmod (List.getD (List.drop (Int.toNat b.i) ys) 0 0) (↑(List.length (bLs (okD b.a b.k) (stI b.a b.k))) : Int)))
(bLs (okD b.a b.k) (stI b.a b.k))) 0 0)) (doneK b.k (Int.toNat (List.getD (List.drop (Int.toNat (Int.tmod (List.getD (List.drop (Int.toNat b.i) ys) 0 0) (↑(List.length (bLs (okD b.a b.k) (stI b.a
b.k))) : Int))) (bLs (okD b.a b.k) (stI b.a b.k))) 0 0)))) = List.length (bLs (doB b.a b.k (List.getD (List.drop (Int.toNat (Int.tmod (List.getD (List.drop (Int.toNat b.i) ys) 0 0) (↑(List.length (bLs
(okD b.a b.k) (stI b.a b.k))) : Int))) (bLs (okD b.a b.k) (stI b.a b.k))) 0 0)) (doneK b.k (Int.toNat (List.getD (List.drop (Int.toNat (Int.tmod (List.getD (List.drop (Int.toNat b.i) ys) 0 0)
(↑(List.length (bLs (okD b.a b.k) (stI b.a b.k))) : Int))) (bLs (okD b.a b.k) (stI b.a b.k))) 0 0)))) ∧ Cont.ints IntKind.u8 ys = Cont.ints IntKind.u8 ys ∧ List.length ys = List.length ys ∧ 0 = 0 ∧
(okD (ofA c l ks) (vK (ofK c ks)) && foldB (ofA c l ks) (vK (ofK c ks))) = (okD (ofA c l ks) (vK (ofK c ks)) && foldB (ofA c l ks) (vK (ofK c ks))) ∧ b.i + 1 = b.i + 1 ∧ (∃ (n : Nat), b.i + 1 = (↑n :
Int) ∧ n ≤ List.length ys ∧ okF (bLs (doB b.a b.k (List.getD (List.drop (Int.toNat (Int.tmod (List.getD (List.drop (Int.toNat b.i) ys) 0 0) (↑(List.length (bLs (okD b.a b.k) (stI b.a b.k))) : Int)))
(bLs (okD b.a b.k) (stI b.a b.k))) 0 0)) (doneA b.a (Int.toNat (List.getD (List.drop (Int.toNat (Int.tmod (List.getD (List.drop (Int.toNat b.i) ys) 0 0) (↑(List.length (bLs (okD b.a b.k) (stI b.a
b.k))) : Int))) (bLs (okD b.a b.k) (stI b.a b.k))) 0 0)))) (bLs (doB b.a b.k (List.getD (List.drop (Int.toNat (Int.tmod (List.getD (List.drop (Int.toNat b.i) ys) 0 0) (↑(List.length (bLs (okD b.a b.k)
(stI b.a b.k))) : Int))) (bLs (okD b.a b.k) (stI b.a b.k))) 0 0)) (doneK b.k (Int.toNat (List.getD (List.drop (Int.toNat (Int.tmod (List.getD (List.drop (Int.toNat b.i) ys) 0 0) (↑(List.length (bLs
(okD b.a b.k) (stI b.a b.k))) : Int))) (bLs (okD b.a b.k) (stI b.a b.k))) 0 0)))) 8 = true ∧ foldB (bLs (doB b.a b.k (List.getD (List.drop (Int.toNat (Int.tmod (List.getD (List.drop (Int.toNat b.i)
ys) 0 0) (↑(List.length (bLs (okD b.a b.k) (stI b.a b.k))) : Int))) (bLs (okD b.a b.k) (stI b.a b.k))) 0 0)) (doneA b.a (Int.toNat (List.getD (List.drop (Int.toNat (Int.tmod (List.getD (List.drop
(Int.toNat b.i) ys) 0 0) (↑(List.length (bLs (okD b.a b.k) (stI b.a b.k))) : Int))) (bLs (okD b.a b.k) (stI b.a b.k))) 0 0)))) (bLs (doB b.a b.k (List.getD (List.drop (Int.toNat (Int.tmod (List.getD
(List.drop (Int.toNat b.i) ys) 0 0) (↑(List.length (bLs (okD b.a b.k) (stI b.a b.k))) : Int))) (bLs (okD b.a b.k) (stI b.a b.k))) 0 0)) (doneK b.k (Int.toNat (List.getD (List.drop (Int.toNat (Int.tmod
(List.getD (List.drop (Int.toNat b.i) ys) 0 0) (↑(List.length (bLs (okD b.a b.k) (stI b.a b.k))) : Int))) (bLs (okD b.a b.k) (stI b.a b.k))) 0 0)))) = foldB (ofA c l ks) (vK (ofK c ks))) ∧ List.length
ys - Int.toNat (b.i + 1) < List.length ys - Int.toNat b.i ∧ True)))) ∧ (ltb b.i (↑(List.length ys) : Int) = false → true = true ∧ True)))) := by kernel_rfl

theorem ob_o5p (c l : Int) (ks : List Int) (y : Int) : fnP (UT) G 10000 fe5 (.r [] 0 (.r [] 5 (.r [] 13 (.r [] 229 (.r [] 49 (.r [] 25 (.r [] 25 (.r [yL 515, yL 523, yL 527, yL 531, yL 536, yL 541, yL 546] 15578846 .nil)))))))) ([fV c l ks, .int .u8 y]) ([.bool true]) ([]) = (
(List.length ks = List.length ks ∧ okK ks) ∧ (List.length (ofA c l ks) = List.length (ofA c l ks) ∧ List.length (vK (ofK c ks)) = List.length (vK (ofK c ks)) ∧ List.length (ofA c l ks) < 1000000000 ∧
List.length (vK (ofK c ks)) < 1000000000) ∧ inR IntKind.i64 y = true ∧ (!(if 1 > (↑(List.length (ofA c l ks)) : Int) then 1 else (↑(List.length (ofA c l ks)) : Int)) == 0) = true ∧ (List.length (ofA c
l ks) = List.length (ofA c l ks) ∧ List.length (vK (ofK c ks)) = List.length (vK (ofK c ks)) ∧ List.length (ofA c l ks) < 100000000000 ∧ chk (ofA c l ks) (vK (ofK c ks)) = 0 ∧ 0 ≤ Int.tmod y (if 1 >
(↑(List.length (ofA c l ks)) : Int) then 1 else (↑(List.length (ofA c l ks)) : Int)) ∧ Int.tmod y (if 1 > (↑(List.length (ofA c l ks)) : Int) then 1 else (↑(List.length (ofA c l ks)) : Int)) <
(↑(List.length (ofA c l ks)) : Int)) ∧ List.length (rotL' (ofA c l ks) (Int.toNat (Int.tmod y (if 1 > (↑(List.length (ofA c l ks)) : Int) then 1 else (↑(List.length (ofA c l ks)) : Int))))) =
List.length (rotL' (ofA c l ks) (Int.toNat (Int.tmod y (if 1 > (↑(List.length (ofA c l ks)) : Int) then 1 else (↑(List.length (ofA c l ks)) : Int))))) ∧ List.length (rotL' (vK (ofK c ks)) (Int.toNat
(Int.tmod y (if 1 > (↑(List.length (ofA c l ks)) : Int) then 1 else (↑(List.length (ofA c l ks)) : Int))))) = List.length (rotL' (vK (ofK c ks)) (Int.toNat (Int.tmod y (if 1 > (↑(List.length (ofA c l
ks)) : Int) then 1 else (↑(List.length (ofA c l ks)) : Int))))) ∧ (List.length (rotL' (ofA c l ks) (Int.toNat (Int.tmod y (if 1 > (↑(List.length (ofA c l ks)) : Int) then 1 else (↑(List.length (ofA c
l ks)) : Int))))) = List.length (rotL' (ofA c l ks) (Int.toNat (Int.tmod y (if 1 > (↑(List.length (ofA c l ks)) : Int) then 1 else (↑(List.length (ofA c l ks)) : Int))))) ∧ List.length (rotL' (vK (ofK
c ks)) (Int.toNat (Int.tmod y (if 1 > (↑(List.length (ofA c l ks)) : Int) then 1 else (↑(List.length (ofA c l ks)) : Int))))) = List.length (rotL' (vK (ofK c ks)) (Int.toNat (Int.tmod y (if 1 >
(↑(List.length (ofA c l ks)) : Int) then 1 else (↑(List.length (ofA c l ks)) : Int))))) ∧ List.length (rotL' (ofA c l ks) (Int.toNat (Int.tmod y (if 1 > (↑(List.length (ofA c l ks)) : Int) then 1 else
(↑(List.length (ofA c l ks)) : Int))))) < 1000000000 ∧ List.length (rotL' (vK (ofK c ks)) (Int.toNat (Int.tmod y (if 1 > (↑(List.length (ofA c l ks)) : Int) then 1 else (↑(List.length (ofA c l ks)) :
Int))))) < 1000000000) ∧ (List.length (ofA c l ks) = List.length (ofA c l ks) ∧ List.length (vK (ofK c ks)) = List.length (vK (ofK c ks)) ∧ List.length (ofA c l ks) < 100000000000 ∧ List.length (vK
(ofK c ks)) < 100000000000) ∧ (List.length (List.reverse (ofA c l ks)) = List.length (List.reverse (ofA c l ks)) ∧ List.length (mirK' (vK (ofK c ks))) = List.length (mirK' (vK (ofK c ks))) ∧
List.length (List.reverse (ofA c l ks)) < 1000000000 ∧ List.length (mirK' (vK (ofK c ks))) < 1000000000) ∧ (List.length (ofA c l ks) = List.length (ofA c l ks) ∧ List.length (vK (ofK c ks)) =
List.length (vK (ofK c ks)) ∧ List.length (ofA c l ks) < 100000000000 ∧ List.length (vK (ofK c ks)) < 100000000000) ∧ (List.length (List.reverse (ofA c l ks)) = List.length (List.reverse (ofA c l ks))
∧ List.length (ovK' (mirK' (vK (ofK c ks)))) = List.length (ovK' (mirK' (vK (ofK c ks)))) ∧ List.length (List.reverse (ofA c l ks)) < 1000000000 ∧ List.length (ovK' (mirK' (vK (ofK c ks)))) <
1000000000) ∧ (dcd (ofA c l ks) (vK (ofK c ks)) == 0) = true ∧ (dcd (rotL' (ofA c l ks) (Int.toNat (Int.tmod y (if 1 > (↑(List.length (ofA c l ks)) : Int) then 1 else (↑(List.length (ofA c l ks)) :
Int))))) (rotL' (vK (ofK c ks)) (Int.toNat (Int.tmod y (if 1 > (↑(List.length (ofA c l ks)) : Int) then 1 else (↑(List.length (ofA c l ks)) : Int))))) == 0) = true ∧ (dcd (List.reverse (ofA c l ks))
(mirK' (vK (ofK c ks))) == 0) = true ∧ (dcd (List.reverse (ofA c l ks)) (ovK' (mirK' (vK (ofK c ks)))) == 0) = true ∧ ((okD (rotL' (ofA c l ks) (Int.toNat (Int.tmod y (if 1 > (↑(List.length (ofA c l
ks)) : Int) then 1 else (↑(List.length (ofA c l ks)) : Int))))) (rotL' (vK (ofK c ks)) (Int.toNat (Int.tmod y (if 1 > (↑(List.length (ofA c l ks)) : Int) then 1 else (↑(List.length (ofA c l ks)) :
Int))))) && foldB (rotL' (ofA c l ks) (Int.toNat (Int.tmod y (if 1 > (↑(List.length (ofA c l ks)) : Int) then 1 else (↑(List.length (ofA c l ks)) : Int))))) (rotL' (vK (ofK c ks)) (Int.toNat (Int.tmod
y (if 1 > (↑(List.length (ofA c l ks)) : Int) then 1 else (↑(List.length (ofA c l ks)) : Int)))))) == (okD (ofA c l ks) (vK (ofK c ks)) && foldB (ofA c l ks) (vK (ofK c ks)))) = true ∧ ((okD
(List.reverse (ofA c l ks)) (mirK' (vK (ofK c ks))) && foldB (List.reverse (ofA c l ks)) (mirK' (vK (ofK c ks)))) == (okD (ofA c l ks) (vK (ofK c ks)) && foldB (ofA c l ks) (vK (ofK c ks)))) = true ∧
((okD (List.reverse (ofA c l ks)) (ovK' (mirK' (vK (ofK c ks)))) && foldB (List.reverse (ofA c l ks)) (ovK' (mirK' (vK (ofK c ks))))) == (okD (ofA c l ks) (vK (ofK c ks)) && foldB (ofA c l ks) (vK
(ofK c ks)))) = true ∧ true = true ∧ True) := by kernel_rfl

theorem ob_o5z (c l : Int) (ks : List Int) (y : Int) : fnP (UTz) G 10000 fe5 (.r [] 0 (.r [] 5 (.r [] 13 (.r [] 229 (.r [] 13 (.r [] 25 (.r [] 25 (.r [yL 515, yL 527, yL 531, yL 536, yL 541, yL 546] 7789438 .nil)))))))) ([fV c l ks, .int .u8 y]) ([.bool true]) ([]) = (
(List.length ks = List.length ks ∧ okK ks) ∧ (List.length (ofA c l ks) = List.length (ofA c l ks) ∧ List.length (vK (ofK c ks)) = List.length (vK (ofK c ks)) ∧ List.length (ofA c l ks) < 1000000000 ∧
List.length (vK (ofK c ks)) < 1000000000) ∧ inR IntKind.i64 y = true ∧ (!(if 1 > (↑(List.length (ofA c l ks)) : Int) then 1 else (↑(List.length (ofA c l ks)) : Int)) == 0) = true ∧ (List.length (ofA c
l ks) = 0 ∧ List.length (vK (ofK c ks)) = 0 ∧ ofA c l ks = [] ∧ vK (ofK c ks) = [] ∧ Int.tmod y (if 1 > (↑(List.length (ofA c l ks)) : Int) then 1 else (↑(List.length (ofA c l ks)) : Int)) = 0) ∧ (0 =
0 ∧ 0 = 0 ∧ 0 < 1000000000 ∧ 0 < 1000000000) ∧ (List.length (ofA c l ks) = List.length (ofA c l ks) ∧ List.length (vK (ofK c ks)) = List.length (vK (ofK c ks)) ∧ List.length (ofA c l ks) <
100000000000 ∧ List.length (vK (ofK c ks)) < 100000000000) ∧ (List.length (List.reverse (ofA c l ks)) = List.length (List.reverse (ofA c l ks)) ∧ List.length (mirK' (vK (ofK c ks))) = List.length
(mirK' (vK (ofK c ks))) ∧ List.length (List.reverse (ofA c l ks)) < 1000000000 ∧ List.length (mirK' (vK (ofK c ks))) < 1000000000) ∧ (List.length (ofA c l ks) = List.length (ofA c l ks) ∧ List.length
(vK (ofK c ks)) = List.length (vK (ofK c ks)) ∧ List.length (ofA c l ks) < 100000000000 ∧ List.length (vK (ofK c ks)) < 100000000000) ∧ (List.length (List.reverse (ofA c l ks)) = List.length
(List.reverse (ofA c l ks)) ∧ List.length (ovK' (mirK' (vK (ofK c ks)))) = List.length (ovK' (mirK' (vK (ofK c ks)))) ∧ List.length (List.reverse (ofA c l ks)) < 1000000000 ∧ List.length (ovK' (mirK'
(vK (ofK c ks)))) < 1000000000) ∧ (dcd (ofA c l ks) (vK (ofK c ks)) == 0) = true ∧ (dcd (List.reverse (ofA c l ks)) (mirK' (vK (ofK c ks))) == 0) = true ∧ (dcd (List.reverse (ofA c l ks)) (ovK' (mirK'
(vK (ofK c ks)))) == 0) = true ∧ (true == (okD (ofA c l ks) (vK (ofK c ks)) && foldB (ofA c l ks) (vK (ofK c ks)))) = true ∧ ((okD (List.reverse (ofA c l ks)) (mirK' (vK (ofK c ks))) && foldB
(List.reverse (ofA c l ks)) (mirK' (vK (ofK c ks)))) == (okD (ofA c l ks) (vK (ofK c ks)) && foldB (ofA c l ks) (vK (ofK c ks)))) = true ∧ ((okD (List.reverse (ofA c l ks)) (ovK' (mirK' (vK (ofK c
ks)))) && foldB (List.reverse (ofA c l ks)) (ovK' (mirK' (vK (ofK c ks))))) == (okD (ofA c l ks) (vK (ofK c ks)) && foldB (ofA c l ks) (vK (ofK c ks)))) = true ∧ true = true ∧ True) := by kernel_rfl

theorem ob_o7 (c l : Int) (ks : List Int) (x : Int) : fnP (UL) G 10000 fe7 (.r [] 0 (.r [] 5 (.r [] 13 (.r [] 0 (.r [] 0 (.gho 8 9001 1 (Cont.ints IntKind.i64 []) (.lp (l7 (ofA c l ks) (vK (ofK c ks))) [] [] (fun b => (.r [] 1 (.cnd (.r [] 29 (.r [] 29 (.r [] 0 (.cnd (.r [yL 707] 14 (.ff (.r [] 0 .nil))) (.r [] 4 (.r [yL 899, yL 905] 1718 (.ff (.r [] 0 .nil)))))))) (.r [] 29 (.r [] 29 (.rs 21 [yL 1155, (1161, .auto, Dr.pk true), yL 1165, yL 1171] 27728 103 (.r [] 127 .nil) (.r [yL 1178] 239 .nil)))))))))))))) ([fV c l ks, .int .i64 x]) ([.bool true]) ([]) = (
(List.length ks = List.length ks ∧ okK ks) ∧ (List.length (ofA c l ks) = List.length (ofA c l ks) ∧ List.length (vK (ofK c ks)) = List.length (vK (ofK c ks)) ∧ List.length (ofA c l ks) < 1000000000 ∧
List.length (vK (ofK c ks)) < 1000000000) ∧ 1 = 1 ∧ c = c ∧ l = l ∧ Cont.ints IntKind.u8 ks = Cont.ints IntKind.u8 ks ∧ List.length ks = List.length ks ∧ 1 = 1 ∧ Cont.ints IntKind.i64 (ofA c l ks) =
Cont.ints IntKind.i64 (ofA c l ks) ∧ List.length (ofA c l ks) = List.length (ofA c l ks) ∧ Cont.ints IntKind.u8 (vK (ofK c ks)) = Cont.ints IntKind.u8 (vK (ofK c ks)) ∧ List.length (vK (ofK c ks)) =
List.length (vK (ofK c ks)) ∧ 0 = 0 ∧ iL [] = [] ∧ x = x ∧ 0 = 0 ∧ Cont.ints IntKind.i64 (bLs (okD (ofA c l ks) (vK (ofK c ks))) (stI (ofA c l ks) (vK (ofK c ks)))) = Cont.ints IntKind.i64 (bLs (okD
(ofA c l ks) (vK (ofK c ks))) (stI (ofA c l ks) (vK (ofK c ks)))) ∧ List.length (bLs (okD (ofA c l ks) (vK (ofK c ks))) (stI (ofA c l ks) (vK (ofK c ks)))) = List.length (bLs (okD (ofA c l ks) (vK
(ofK c ks))) (stI (ofA c l ks) (vK (ofK c ks)))) ∧ List.length (bLs (okD (ofA c l ks) (vK (ofK c ks))) (stI (ofA c l ks) (vK (ofK c ks)))) = List.length (bLs (okD (ofA c l ks) (vK (ofK c ks))) (stI
(ofA c l ks) (vK (ofK c ks)))) ∧ dcd (ofA c l ks) (vK (ofK c ks)) = dcd (ofA c l ks) (vK (ofK c ks)) ∧ 0 = 0 ∧ iI 0 = 0 ∧ (∃ (n : Nat), 0 = (↑n : Int) ∧ n ≤ List.length (ofA c l ks) ∧ [] = wL (ofA c l
ks) (vK (ofK c ks)) n) ∧ ∀ (b : L7), (∃ (n : Nat), b.i = (↑n : Int) ∧ n ≤ List.length (ofA c l ks) ∧ b.w = wL (ofA c l ks) (vK (ofK c ks)) n) → (ltb b.i (↑(List.length (ofA c l ks)) : Int) = true →
(List.length (ofA c l ks) = List.length (ofA c l ks) ∧ List.length (vK (ofK c ks)) = List.length (vK (ofK c ks)) ∧ okF (ofA c l ks) (vK (ofK c ks)) 8 = true) ∧ (List.length (ofA c l ks) = List.length
(ofA c l ks) ∧ List.length (vK (ofK c ks)) = List.length (vK (ofK c ks)) ∧ List.length (ofA c l ks) < 1000000000 ∧ List.length (vK (ofK c ks)) < 1000000000) ∧ ((!isS (ofA c l ks) (vK (ofK c ks)) b.i)
= true → (!doE (ofA c l ks) (vK (ofK c ks)) b.i != 6) = true ∧ ((↑(List.length (bLs (doB (ofA c l ks) (vK (ofK c ks)) b.i) (doneA (ofA c l ks) (Int.toNat b.i)))) : Int) != 0) = false ∧ inR IntKind.i64
(b.i + 1) = true ∧ 1 = 1 ∧ c = c ∧ l = l ∧ Cont.ints IntKind.u8 ks = Cont.ints IntKind.u8 ks ∧ List.length ks = List.length ks ∧ 1 = 1 ∧ Cont.ints IntKind.i64 (ofA c l ks) = Cont.ints IntKind.i64 (ofA
c l ks) ∧ List.length (ofA c l ks) = List.length (ofA c l ks) ∧ Cont.ints IntKind.u8 (vK (ofK c ks)) = Cont.ints IntKind.u8 (vK (ofK c ks)) ∧ List.length (vK (ofK c ks)) = List.length (vK (ofK c ks))
∧ List.length b.w = List.length b.w ∧ b.w = b.w ∧ x = x ∧ 0 = 0 ∧ Cont.ints IntKind.i64 (bLs (okD (ofA c l ks) (vK (ofK c ks))) (stI (ofA c l ks) (vK (ofK c ks)))) = Cont.ints IntKind.i64 (bLs (okD
(ofA c l ks) (vK (ofK c ks))) (stI (ofA c l ks) (vK (ofK c ks)))) ∧ List.length (bLs (okD (ofA c l ks) (vK (ofK c ks))) (stI (ofA c l ks) (vK (ofK c ks)))) = List.length (bLs (okD (ofA c l ks) (vK
(ofK c ks))) (stI (ofA c l ks) (vK (ofK c ks)))) ∧ List.length (bLs (okD (ofA c l ks) (vK (ofK c ks))) (stI (ofA c l ks) (vK (ofK c ks)))) = List.length (bLs (okD (ofA c l ks) (vK (ofK c ks))) (stI
(ofA c l ks) (vK (ofK c ks)))) ∧ dcd (ofA c l ks) (vK (ofK c ks)) = dcd (ofA c l ks) (vK (ofK c ks)) ∧ List.length b.w = List.length b.w ∧ b.i + 1 = b.i + 1 ∧ (∃ (n : Nat), b.i + 1 = (↑n : Int) ∧ n ≤
List.length (ofA c l ks) ∧ b.w = wL (ofA c l ks) (vK (ofK c ks)) n) ∧ List.length (ofA c l ks) - Int.toNat (b.i + 1) < List.length (ofA c l ks) - Int.toNat b.i ∧ True) ∧ ((!isS (ofA c l ks) (vK (ofK c
ks)) b.i) = false → List.length b.w = List.length b.w ∧ len' ((List.length b.w + 1) * 8) 140737488355328 = true ∧ (!doE (ofA c l ks) (vK (ofK c ks)) b.i != 0) = true ∧ (List.length (bLs (doB (ofA c l
ks) (vK (ofK c ks)) b.i) (doneA (ofA c l ks) (Int.toNat b.i))) = List.length (bLs (doB (ofA c l ks) (vK (ofK c ks)) b.i) (doneA (ofA c l ks) (Int.toNat b.i))) ∧ List.length (bLs (doB (ofA c l ks) (vK
(ofK c ks)) b.i) (doneK (vK (ofK c ks)) (Int.toNat b.i))) = List.length (bLs (doB (ofA c l ks) (vK (ofK c ks)) b.i) (doneK (vK (ofK c ks)) (Int.toNat b.i))) ∧ List.length (bLs (isS (ofA c l ks) (vK
(ofK c ks)) b.i) (doneA (ofA c l ks) (Int.toNat b.i))) = List.length (bLs (isS (ofA c l ks) (vK (ofK c ks)) b.i) (doneA (ofA c l ks) (Int.toNat b.i))) ∧ List.length (bLs (isS (ofA c l ks) (vK (ofK c
ks)) b.i) (doneK (vK (ofK c ks)) (Int.toNat b.i))) = List.length (bLs (isS (ofA c l ks) (vK (ofK c ks)) b.i) (doneK (vK (ofK c ks)) (Int.toNat b.i))) ∧ List.length (bLs (doB (ofA c l ks) (vK (ofK c
ks)) b.i) (doneA (ofA c l ks) (Int.toNat b.i))) = List.length (bLs (doB (ofA c l ks) (vK (ofK c ks)) b.i) (doneA (ofA c l ks) (Int.toNat b.i))) ∧ List.length (bLs (doB (ofA c l ks) (vK (ofK c ks))
b.i) (doneK (vK (ofK c ks)) (Int.toNat b.i))) = List.length (bLs (doB (ofA c l ks) (vK (ofK c ks)) b.i) (doneK (vK (ofK c ks)) (Int.toNat b.i))) ∧ List.length (bLs (doB (ofA c l ks) (vK (ofK c ks))
b.i) (doneA (ofA c l ks) (Int.toNat b.i))) < 1000000000000 ∧ List.length (bLs (doB (ofA c l ks) (vK (ofK c ks)) b.i) (doneK (vK (ofK c ks)) (Int.toNat b.i))) < 1000000000000) ∧ (!!(eqB (bLs (doB (ofA
c l ks) (vK (ofK c ks)) b.i) (doneA (ofA c l ks) (Int.toNat b.i))) (bLs (isS (ofA c l ks) (vK (ofK c ks)) b.i) (doneA (ofA c l ks) (Int.toNat b.i))) && eqB (bLs (doB (ofA c l ks) (vK (ofK c ks)) b.i)
(doneK (vK (ofK c ks)) (Int.toNat b.i))) (bLs (isS (ofA c l ks) (vK (ofK c ks)) b.i) (doneK (vK (ofK c ks)) (Int.toNat b.i))))) = true ∧ (List.length (bLs (doB (ofA c l ks) (vK (ofK c ks)) b.i) (doneA
(ofA c l ks) (Int.toNat b.i))) = List.length (bLs (doB (ofA c l ks) (vK (ofK c ks)) b.i) (doneA (ofA c l ks) (Int.toNat b.i))) ∧ List.length (bLs (doB (ofA c l ks) (vK (ofK c ks)) b.i) (doneK (vK (ofK
c ks)) (Int.toNat b.i))) = List.length (bLs (doB (ofA c l ks) (vK (ofK c ks)) b.i) (doneK (vK (ofK c ks)) (Int.toNat b.i))) ∧ List.length (bLs (doB (ofA c l ks) (vK (ofK c ks)) b.i) (doneA (ofA c l
ks) (Int.toNat b.i))) < 1000000000000) ∧ (chk (bLs (doB (ofA c l ks) (vK (ofK c ks)) b.i) (doneA (ofA c l ks) (Int.toNat b.i))) (bLs (doB (ofA c l ks) (vK (ofK c ks)) b.i) (doneK (vK (ofK c ks))
(Int.toNat b.i))) != 0) = false ∧ inR IntKind.i64 (b.i + 1) = true ∧ 1 = 1 ∧ c = c ∧ l = l ∧ Cont.ints IntKind.u8 ks = Cont.ints IntKind.u8 ks ∧ List.length ks = List.length ks ∧ 1 = 1 ∧ Cont.ints
IntKind.i64 (ofA c l ks) = Cont.ints IntKind.i64 (ofA c l ks) ∧ List.length (ofA c l ks) = List.length (ofA c l ks) ∧ Cont.ints IntKind.u8 (vK (ofK c ks)) = Cont.ints IntKind.u8 (vK (ofK c ks)) ∧
List.length (vK (ofK c ks)) = List.length (vK (ofK c ks)) ∧ List.length b.w + 1 = List.length (b.w ++ [b.i]) ∧ b.w ++ [b.i] = b.w ++ [b.i] ∧ x = x ∧ 0 = 0 ∧ Cont.ints IntKind.i64 (bLs (okD (ofA c l
ks) (vK (ofK c ks))) (stI (ofA c l ks) (vK (ofK c ks)))) = Cont.ints IntKind.i64 (bLs (okD (ofA c l ks) (vK (ofK c ks))) (stI (ofA c l ks) (vK (ofK c ks)))) ∧ List.length (bLs (okD (ofA c l ks) (vK
(ofK c ks))) (stI (ofA c l ks) (vK (ofK c ks)))) = List.length (bLs (okD (ofA c l ks) (vK (ofK c ks))) (stI (ofA c l ks) (vK (ofK c ks)))) ∧ List.length (bLs (okD (ofA c l ks) (vK (ofK c ks))) (stI
(ofA c l ks) (vK (ofK c ks)))) = List.length (bLs (okD (ofA c l ks) (vK (ofK c ks))) (stI (ofA c l ks) (vK (ofK c ks)))) ∧ dcd (ofA c l ks) (vK (ofK c ks)) = dcd (ofA c l ks) (vK (ofK c ks)) ∧
List.length b.w + 1 = List.length (b.w ++ [b.i]) ∧ b.i + 1 = b.i + 1 ∧ (∃ (n : Nat), b.i + 1 = (↑n : Int) ∧ n ≤ List.length (ofA c l ks) ∧ b.w ++ [b.i] = wL (ofA c l ks) (vK (ofK c ks)) n) ∧
List.length (ofA c l ks) - Int.toNat (b.i + 1) < List.length (ofA c l ks) - Int.toNat b.i ∧ True)) ∧ (ltb b.i (↑(List.length (ofA c l ks)) : Int) = false → (List.length (ofA c l ks) = List.length (ofA
c l ks) ∧ List.length (vK (ofK c ks)) = List.length (vK (ofK c ks)) ∧ okF (ofA c l ks) (vK (ofK c ks)) 8 = true) ∧ (List.length (ofA c l ks) = List.length (ofA c l ks) ∧ List.length (vK (ofK c ks)) =
List.length (vK (ofK c ks)) ∧ List.length (ofA c l ks) < 1000000000 ∧ List.length (vK (ofK c ks)) < 1000000000) ∧ (dcd (ofA c l ks) (vK (ofK c ks)) == 0) = true ∧ List.length b.w = List.length b.w ∧
List.length b.w = List.length b.w ∧ List.length b.w = List.length b.w ∧ Int.toNat (↑(List.length b.w) : Int) = List.length b.w ∧ Int.toNat (↑(List.length b.w) : Int) = List.length b.w ∧ List.length
b.w = List.length b.w ∧ (List.length (bLs (okD (ofA c l ks) (vK (ofK c ks))) (stI (ofA c l ks) (vK (ofK c ks)))) = List.length (bLs (okD (ofA c l ks) (vK (ofK c ks))) (stI (ofA c l ks) (vK (ofK c
ks)))) ∧ List.length b.w = List.length b.w ∧ List.length (bLs (okD (ofA c l ks) (vK (ofK c ks))) (stI (ofA c l ks) (vK (ofK c ks)))) = List.length (bLs (okD (ofA c l ks) (vK (ofK c ks))) (stI (ofA c l
ks) (vK (ofK c ks)))) ∧ List.length (bLs (okD (ofA c l ks) (vK (ofK c ks))) (stI (ofA c l ks) (vK (ofK c ks)))) < 1000000000000) ∧ eqB (bLs (okD (ofA c l ks) (vK (ofK c ks))) (stI (ofA c l ks) (vK
(ofK c ks)))) b.w = true ∧ ((doE (ofA c l ks) (vK (ofK c ks)) x == 0) == isS (ofA c l ks) (vK (ofK c ks)) x) = true ∧ (isS (ofA c l ks) (vK (ofK c ks)) x = true → true = true ∧ True) ∧ (isS (ofA c l
ks) (vK (ofK c ks)) x = false → (doE (ofA c l ks) (vK (ofK c ks)) x == 6) = true ∧ true = true ∧ True))) := by kernel_rfl

end Go.Proofs.YtfafinkgmhkdmaaDoor.X
