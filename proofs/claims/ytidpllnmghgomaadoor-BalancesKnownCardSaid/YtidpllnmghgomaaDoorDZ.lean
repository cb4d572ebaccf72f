/-
  What the functions of the balances compute.
-/
import Derived.Test.YtidpllnmghgomaaDoorXpZ
import Derived.Test.YtidpllnmghgomaaDoorAb5
import Derived.KernelRfl
import GoSem.PinnedTables
set_option maxRecDepth 1000000
set_option linter.unusedVariables false
namespace Go.Proofs.YtidpllnmghgomaaDoor.X
open Go Go.Ab

/-- Package-level tables. -/
def gl : Nat → Option Cont
  | 0 => some (.vals [.fn 82 [] [], .fn 30 [] [], .fn 31 [] [], .fn 83 [] [], .fn 84 [] []])
  | 2 => some (.ints .u8 (Pinned.utf8FirstZ.map Int.ofNat))
  | 3 => some (.ints .u8 [128, 191, 160, 191, 128, 159, 144, 191, 128, 143, 0, 0, 0, 0, 0, 0, 0, 0, 0, 0, 0, 0, 0, 0, 0, 0, 0, 0, 0, 0, 0, 0])
  | _ => none
noncomputable def G : GL := ⟨gl, cmOf Tryd.prog⟩
theorem hcm : G.cm = cmOf Tryd.prog := rfl
theorem hmx : Tryd.prog.follows .mixedOrders = true := by kernel_rfl

/-- A fan, by value. -/
def fanV (a k : List Int) : AV := .agg [.imm (.ints .i64 a) a.length none, .imm (.ints .u8 k) k.length none]
/-- What Check finds, from a place on. -/
def chkL : List Int → List Int → Int → Int
  | n :: a, x :: k, s => if n < 1 ∨ 8 - s < n ∨ x < 1 ∨ 3 < x then 1 else chkL a k (s + n)
  | _, _, _ => 0
def chk (a k : List Int) : Int := if a.length = k.length then chkL a k 0 else 5
structure L18 where (i s : Int)
def l18 (a k : List Int) : LpS L18 where
  ov b := [(16, .int .i64 b.i), (3, .int .i64 b.s)]
  bk b := []
  rd S := match aget S.t 16, aget S.t 3 with
    | some (.int .i64 i), some (.int .i64 s) => some ⟨i, s⟩
    | _, _ => none
  pre b := ∃ n : Nat, b.i = n ∧ n ≤ a.length ∧ 0 ≤ b.s ∧ b.s ≤ 8 ∧ chkL a k 0 = chkL (a.drop n) (k.drop n) b.s
  mu b := a.length - b.i.toNat
def e18 : CtE
  | [.agg [.imm (.ints .i64 a) n _, .imm (.ints .u8 k) m _]] => some ⟨.int .i64 (chk a k), [], some (n = a.length ∧ m = k.length ∧ a.length < 1000000000000)⟩
  | _ => none
def T0 : Tab := tabL [] noCh
theorem T0ok : TabOk Tryd.prog G T0 := tabL_ok noCh_ok trivial

/-- Sums of every second number. -/
def sumP : Bool → List Int → Int
  | _, [] => 0
  | p, a :: r => (bif p then a else 0) + sumP (!p) r
/-- Angles as they may be. -/
def okA (a : List Int) : Prop := (∀ x ∈ a, 1 ≤ x) ∧ a.sum ≤ 8
structure L29 where (i e o : Int)
def l29 (a : List Int) : LpS L29 where
  ov b := [(9, .int .i64 b.i), (2, .int .i64 b.e), (3, .int .i64 b.o)]
  bk b := []
  rd S := match aget S.t 9, aget S.t 2, aget S.t 3 with
    | some (.int _ i), some (.int _ e), some (.int _ o) => some ⟨i, e, o⟩
    | _, _, _ => none
  pre b := ∃ n : Nat, b.i = n ∧ n ≤ a.length ∧ 0 ≤ b.e ∧ 0 ≤ b.o ∧ b.e + b.o + (a.drop n).sum ≤ 8 ∧ b.e + sumP (n % 2 == 0) (a.drop n) = sumP true a ∧ b.o + sumP (n % 2 == 1) (a.drop n) = sumP false a
  mu b := a.length - b.i.toNat
def bI (b : Bool) (x y : Int) : Int := cond b x y
def isOk (a k : List Int) : Bool := chk a k == 0
def e29 : CtE
  | [.agg [.imm (.ints .i64 a) n _, .imm (.ints .u8 k) m _]] => some ⟨.tup [.int .i64 (sumP true a), .int .i64 (sumP false a)], [], some (n = a.length ∧ m = k.length ∧ okA a)⟩
  | _ => none
def e16 : CtE
  | [.agg [.imm (.ints .i64 a) n _, .imm (.ints .u8 k) m _]] => some ⟨.tup [.int .i64 (bI (isOk a k) (sumP true a) 0), .int .i64 (bI (isOk a k) (sumP false a) 0), .int .i64 (chk a k)], [], some (n = a.length ∧ m = k.length ∧ a.length < 1000000000000)⟩
  | _ => none
def oddB (a : List Int) : Bool := (a.length : Int).tmod 2 == 1
def e30 : CtE
  | [.agg [.imm (.ints .i64 a) n _, .imm (.ints .u8 k) m _]] => some ⟨.bool (oddB a), [], some (n = a.length ∧ m = k.length)⟩
  | _ => none
def unevB (a : List Int) : Bool := sumP true a != sumP false a
def e31 : CtE
  | [.agg [.imm (.ints .i64 a) n _, .imm (.ints .u8 k) m _]] => some ⟨.bool (unevB a), [], some (n = a.length ∧ m = k.length ∧ okA a)⟩
  | _ => none
def altB (a k : List Int) : Bool := isOk a k && (!oddB a && !unevB a)
def e17 : CtE
  | [.agg [.imm (.ints .i64 a) n _, .imm (.ints .u8 k) m _]] => some ⟨.tup [.bool (altB a k), .int .i64 (chk a k)], [], some (n = a.length ∧ m = k.length ∧ a.length < 1000000000000)⟩
  | _ => none
def e14 : CtE
  | [] => some ⟨.bool true, [], none⟩
  | _ => none
def tl1 : List (Nat × CtE) := [(18, e18), (29, e29)]
def T1 : Tab := tabL tl1 noCh
def tl2 : List (Nat × CtE) := (30, e30) :: (31, e31) :: tl1
def T2 : Tab := tabL tl2 noCh

/-- F.Of: what its first loop has found. -/
structure FS where (last first : Int) (a k : List Int)
def bitZ (c d : Int) : Bool := (c.fdiv (2 ^ min d.toNat IntKind.u8.bits)).tmod 2 == 0
def kdOf (ks : List Int) (n : Nat) : Int := if n < ks.length then 1 + (ks.getD n 0).tmod 3 else 1
def fstep (c : Int) (ks : List Int) (s : FS) (d : Nat) : FS :=
  if bitZ c d then s else if 0 ≤ s.last then ⟨d, s.first, s.a ++ [d - s.last], s.k ++ [kdOf ks s.k.length]⟩ else ⟨d, d, s.a, s.k ++ [kdOf ks s.k.length]⟩
def ffold (c : Int) (ks : List Int) (n : Nat) : FS := (List.range n).foldl (fstep c ks) ⟨-1, -1, [], []⟩
def fclose (s : FS) : List Int := if 0 ≤ s.first then s.a ++ [s.first + 8 - s.last] else s.a
def lessL (l : Int) : Nat → List Int → List Int
  | _, [] => []
  | i, x :: r => (if (l.fdiv (2 ^ min i IntKind.u8.bits)).tmod 2 = 1 ∧ 1 < x then x - 1 else x) :: lessL l (i + 1) r
def ofA (c l : Int) (ks : List Int) : List Int := lessL l 0 (fclose (ffold c ks 8))
def ofK (c : Int) (ks : List Int) : List Int := (ffold c ks 8).k
structure L9 where (d last first : Int) (a k : List Int)
def blkI (a : List Int) : Blk := blkOf .i64 a
def blkK (a : List Int) : Blk := blkOf .u8 a
/-- The variable f: two slices. -/
def box9 (k a : List Int) : List (Nat × HO) := [(128, .blk ⟨.cells [.full 9001 a.length, .full 9002 k.length], 2, 1, none, some false, true, true⟩)]
def l9 (c : Int) (ks : List Int) : LpS L9 where
  ov b := [(6, .int .i64 b.d), (4, .int .i64 b.last), (5, .int .i64 b.first)]
  bk b := [(128, .blk ⟨.cells [.full 9001 b.a.length, .full 9002 b.k.length], 2, 1, none, some false, true, true⟩), (9001, .blk (blkI b.a)), (9002, .blk (blkK b.k))]
  rd S := match aget S.t 6, aget S.t 4, aget S.t 5, aget S.h 9001, aget S.h 9002 with
    | some (.int _ d), some (.int _ la), some (.int _ fi), some (.blk ⟨.ints _ a, _, _, _, _, _, _⟩), some (.blk ⟨.ints _ k, _, _, _, _, _, _⟩) => some ⟨d, la, fi, a, k⟩
    | _, _, _, _, _ => none
  pre b := ∃ n : Nat, b.d = n ∧ n ≤ 8 ∧ FS.mk b.last b.first b.a b.k = ffold c ks n
  mu b := 8 - b.d.toNat
structure M9 where (i : Int) (a : List Int)
def m9 (l : Int) (a : List Int) (k : List Int) : LpS M9 where
  ov b := [(8, .int .i64 b.i)]
  bk b := [(128, .blk ⟨.cells [.full 9001 b.a.length, .full 9002 k.length], 2, 1, none, some false, true, true⟩), (9001, .blk (blkI b.a)), (9002, .blk (blkK k))]
  rd S := match aget S.t 8, aget S.h 9001 with
    | some (.int _ d), some (.blk ⟨.ints _ a, _, _, _, _, _, _⟩) => some ⟨d, a⟩
    | _, _ => none
  pre b := ∃ n : Nat, b.i = n ∧ n ≤ a.length ∧ b.a = (lessL l 0 a).take n ++ a.drop n
  mu b := a.length - b.i.toNat
def okK (ks : List Int) : Prop := ∀ x ∈ ks, 0 ≤ x ∧ x ≤ 255
def e9 : CtE
  | [.agg [.int .u8 c, .int .u8 l, .imm (.ints .u8 ks) n _]] => some ⟨.agg [.full 0 (ofA c l ks).length, .full 1 (ofK c ks).length], [blkI (ofA c l ks), blkK (ofK c ks)], some (n = ks.length ∧ okK ks)⟩
  | _ => none
def fV (c l : Int) (ks : List Int) : AV := .agg [.int .u8 c, .int .u8 l, .imm (.ints .u8 ks) ks.length none]
def tl3 : List (Nat × CtE) := (9, e9) :: (16, e16) :: (17, e17) :: (14, e14) :: tl2
def T3 : Tab := tabL tl3 noCh
/-- The law's own sums. -/
structure L5 where (i s : Int)
def l5 (a : List Int) (t u : Nat) (p : Bool) (s0 : Nat) : LpS L5 where
  ov b := [(t, .int .i64 b.i), (u, .int .i64 b.s)]
  bk b := []
  rd S := match aget S.t t, aget S.t u with
    | some (.int _ i), some (.int _ s) => some ⟨i, s⟩
    | _, _ => none
  pre b := ∃ n : Nat, b.i = n ∧ n % 2 = s0 ∧ n ≤ a.length + 1 ∧ 0 ≤ b.s ∧ b.s + (a.drop n).sum ≤ 8 ∧ b.s + sumP true (a.drop n) = sumP p a
  mu b := a.length + 1 - b.i.toNat
end Go.Proofs.YtidpllnmghgomaaDoor.X
