/-
  What the functions of the reductions compute: a fan reduced; folded; a fan behind an angle, by definition.
-/
import Derived.Test.YtfafinkgmhkdmaaDoorD3Z
set_option maxRecDepth 1000000
set_option linter.unusedVariables false
namespace Go.Proofs.YtfafinkgmhkdmaaDoor.X
open Go Go.Ab

/-- Kinds with valleys for any. -/
def vK (k : List Int) : List Int := k.map fun x => if x = 3 then 2 else x
structure L13 where (i : Int) (k : List Int)
def l13 (k : List Int) : LpS L13 where
  ov b := [(4, .int .i64 b.i)]
  bk b := [(8257, .blk (blkK b.k))]
  rd S := match aget S.t 4, aget S.h 8257 with
    | some (.int _ i), some (.blk ⟨.ints _ l, _, _, _, _, _, _⟩) => some ⟨i, l⟩
    | _, _ => none
  pre b := ∃ n : Nat, b.i = n ∧ n ≤ k.length ∧ b.k = (vK k).take n ++ k.drop n
  mu b := k.length - b.i.toNat
def e13 : CtE
  | [.agg [.int .u8 c, .int .u8 l, .imm (.ints .u8 ks) n _]] => some ⟨.agg [immN .i64 (ofA c l ks), immN .u8 (vK (ofK c ks))], [], some (n = ks.length ∧ okK ks)⟩
  | _ => none
structure L18 where (o a k : List Int)
def l18 (a k : List Int) : LpS L18 where
  ov b := [(2, .full 9001 b.o.length), (6, immL .i64 (stI b.a b.k))]
  bk b := [(9001, .blk (blkI b.o)), (66, .blk ⟨.cells [immL .i64 b.a, immL .u8 b.k], 2, 1, none, some false, true, true⟩)]
  rd S := match aget S.h 9001, aget S.h 66 with
    | some (.blk ⟨.ints _ o, _, _, _, _, _, _⟩), some (.blk ⟨.cells [.imm (.ints _ a) _ _, .imm (.ints _ k) _ _], _, _, _, _, _, _⟩) => some ⟨o, a, k⟩
    | _, _ => none
  pre b := okF b.a b.k 8 = true ∧ b.o ++ rdI b.a b.k = rdI a k ∧ rdA b.a b.k = rdA a k ∧ rdK b.a b.k = rdK a k ∧ b.o.length + b.a.length ≤ 8
  mu b := b.a.length
def e18 : CtE
  | [.agg [.imm (.ints .i64 a) n _, .imm (.ints .u8 k) m _]] => some ⟨.tup [immL .i64 (bLs (okD a k) (rdI a k)), .agg [immL .i64 (bLs (okD a k) (rdA a k)), immL .u8 (bLs (okD a k) (rdK a k))], .int .i64 (dcd a k)], [], some (n = a.length ∧ m = k.length ∧ a.length < 1000000000 ∧ k.length < 1000000000)⟩
  | _ => none
def e14 : CtE
  | [.agg [.imm (.ints .i64 a) n _, .imm (.ints .u8 k) m _]] => some ⟨.tup [.bool (okD a k && foldB a k), .int .i64 (dcd a k)], [], some (n = a.length ∧ m = k.length ∧ a.length < 1000000000 ∧ k.length < 1000000000)⟩
  | _ => none
/-- An angle that the law's text shuts out at once. -/
def badR (a : List Int) (i : Int) : Bool := decide ((a.length : Int) < 4 ∨ i < 0 ∨ (a.length : Int) ≤ i)
def jR (a : List Int) (i : Int) : LpS VB where
  ov b := [(29, .bool b.v)]
  bk b := []
  rd S := match aget S.t 29 with
    | some (.bool i) => some ⟨i⟩
    | _ => none
  pre b := b.v = false ∧ badR a i = false
  mu b := 0
def fsN (n i : Nat) : Nat → Nat
  | 0 => 0
  | m + 1 => if (i + (m + 2)) % n < (i + 2 + fsN n i m) % n then m else fsN n i m
def ixN (n i j : Nat) : Nat := (i + (j + 2)) % n
def pA (a : List Int) (i m : Nat) : List Int := (List.range m).map fun j => valF a i (ixN a.length i j)
def pK (k : List Int) (n i m : Nat) : List Int := (List.range m).map fun j => gt k (ixN n i j)
/-- The lists turned. -/
def qL (l : List Int) (n f m : Nat) : List Int := (List.range m).map fun t => gt l ((f + t) % n)
structure L22 where (f kk : Int) (a k : List Int)
def l22 (a k : List Int) (i : Int) : LpS L22 where
  ov b := [(10, .int .i64 b.f), (11, .int .i64 b.kk)]
  bk b := [(512, .blk ⟨.cells [.full 9001 b.a.length, .full 9002 b.k.length], 2, 1, none, some false, true, true⟩), (9001, .blk (blkI b.a)), (9002, .blk (blkK b.k))]
  rd S := match aget S.t 10, aget S.t 11, aget S.h 9001, aget S.h 9002 with
    | some (.int _ f), some (.int _ kk), some (.blk ⟨.ints _ a, _, _, _, _, _, _⟩), some (.blk ⟨.ints _ k, _, _, _, _, _, _⟩) => some ⟨f, kk, a, k⟩
    | _, _, _, _ => none
  pre b := ∃ m : Nat, b.kk = (m : Int) + 2 ∧ m + 2 ≤ a.length ∧ b.f = (fsN a.length i.toNat m : Int) ∧ b.a = pA a i.toNat m ∧ b.k = pK k a.length i.toNat m
  mu b := a.length - b.kk.toNat
/-- The lists behind the first loop. -/
def rA (a : List Int) (i : Int) : List Int := pA a i.toNat (a.length - 2)
def rK (a k : List Int) (i : Int) : List Int := pK k a.length i.toNat (a.length - 2)
def rF (a : List Int) (i : Int) : Int := (fsN a.length i.toNat (a.length - 2) : Int)
def fsV (a : List Int) (i f kk : Int) : Int := if (i + kk).tmod a.length < (i + 2 + f).tmod a.length then kk - 2 else f
def vlV (a : List Int) (i x : Int) : Int := if x = (i + a.length - 1).tmod a.length then gt a ((i + a.length - 1).tmod a.length).toNat + gt a ((i + 1).tmod a.length).toNat - gt a i.toNat else gt a x.toNat
structure M22 where (kk : Int) (a k : List Int)
def m22 (a k : List Int) (i : Int) : LpS M22 where
  ov b := [(15, .int .i64 b.kk)]
  bk b := [(1344, .blk ⟨.cells [.full 9003 b.a.length, .full 9004 b.k.length], 2, 1, none, some false, true, true⟩), (9003, .blk (blkI b.a)), (9004, .blk (blkK b.k))]
  rd S := match aget S.t 15, aget S.h 9003, aget S.h 9004 with
    | some (.int _ kk), some (.blk ⟨.ints _ a, _, _, _, _, _, _⟩), some (.blk ⟨.ints _ k, _, _, _, _, _, _⟩) => some ⟨kk, a, k⟩
    | _, _, _ => none
  pre b := ∃ m : Nat, b.kk = (m : Int) ∧ m + 2 ≤ a.length ∧ b.a = qL (rA a i) (a.length - 2) (fsN a.length i.toNat (a.length - 2)) m ∧ b.k = qL (rK a k i) (a.length - 2) (fsN a.length i.toNat (a.length - 2)) m
  mu b := a.length - b.kk.toNat
def e22 : CtE
  | [.agg [.imm (.ints .i64 a) n _, .imm (.ints .u8 k) m _], .int .i64 i] => some ⟨.tup [.agg [immN .i64 (bLs (isS a k i) (doneA a i.toNat)), immN .u8 (bLs (isS a k i) (doneK k i.toNat))], .bool (isS a k i)], [], some (n = a.length ∧ m = k.length ∧ okF a k 8 = true)⟩
  | _ => none
def uR : List (Nat × CtE) := (13, e13) :: (20, e20) :: uC
def UR : Tab := tabL uR noCh
def uF : List (Nat × CtE) := (18, e18) :: (21, e21) :: uR
def UF : Tab := tabL uF noCh
end Go.Proofs.YtfafinkgmhkdmaaDoor.X
