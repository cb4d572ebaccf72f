/-
  What the functions of the reductions compute.
-/
import Derived.Test.YtfafinkgmhkdmaaDoorDZ
set_option maxRecDepth 1000000
set_option linter.unusedVariables false
namespace Go.Proofs.YtfafinkgmhkdmaaDoor.X
open Go Go.Ab

/-- Element, 0 outside. -/
def gt (l : List Int) (i : Nat) : Int := l[i]?.getD 0
/-- An angle can be folded away. -/
def stB (a k : List Int) (i : Nat) : Bool :=
  !(gt k i == gt k ((i + 1) % a.length)) && (decide (gt a i ≤ gt a ((i + a.length - 1) % a.length)) && decide (gt a i ≤ gt a ((i + 1) % a.length)))
def stepsN (a k : List Int) : List Nat := if a.length < 4 then [] else (List.range a.length).filter (stB a k)
def keepB (n i j : Nat) : Bool := !(j == i || j == (i + 1) % n)
def valF (a : List Int) (i j : Nat) : Int := if j == (i + a.length - 1) % a.length then gt a j + (gt a ((i + 1) % a.length) - gt a i) else gt a j
def keepL (n i m : Nat) : List Nat := (List.range m).filter (keepB n i)
def doneA (a : List Int) (i : Nat) : List Int := (keepL a.length i a.length).map (valF a i)
def doneK (k : List Int) (i : Nat) : List Int := (keepL k.length i k.length).map (gt k)
def base (a k : List Int) : Bool := a.length == 0 || (a.length == 2 && (gt a 0 == gt a 1 && gt k 0 == gt k 1))
def redL : Nat → List Int → List Int → List Nat × (List Int × List Int)
  | 0, a, k => ([], a, k)
  | n + 1, a, k => match stepsN a k with
    | [] => ([], a, k)
    | i :: _ => (i :: (redL n (doneA a i) (doneK k i)).1, (redL n (doneA a i) (doneK k i)).2)
def foldB (a k : List Int) : Bool := base (redL a.length a k).2.1 (redL a.length a k).2.2
/-- The same as lists of integers. -/
def inL (l : List Nat) : List Int := l.map Int.ofNat
def stI (a k : List Int) : List Int := inL (stepsN a k)
def rdI (a k : List Int) : List Int := inL (redL a.length a k).1
def rdA (a k : List Int) : List Int := (redL a.length a k).2.1
def rdK (a k : List Int) : List Int := (redL a.length a k).2.2
/-- A valid fan, decided. -/
def okF : List Int → List Int → Int → Bool
  | x :: a, y :: k, s => decide (1 ≤ x) && (decide (x ≤ s) && ((y == 1 || y == 2) && okF a k (s - x)))
  | [], [], _ => true
  | _, _, _ => false
/-- A list, or none. -/
def bLs (b : Bool) (l : List Int) : List Int := cond b l []
def okD (a k : List Int) : Bool := dcd a k == 0
def isS (a k : List Int) (i : Int) : Bool := memB (stI a k) i
structure L38 where (i : Int) (l : List Int)
def l38 (a k : List Int) : LpS L38 where
  ov b := [(20, .int .i64 b.i), (5, .full 9001 b.l.length)]
  bk b := [(9001, .blk (blkI b.l))]
  rd S := match aget S.t 20, aget S.h 9001 with
    | some (.int _ i), some (.blk ⟨.ints _ l, _, _, _, _, _, _⟩) => some ⟨i, l⟩
    | _, _ => none
  pre b := ∃ n : Nat, b.i = n ∧ n ≤ a.length ∧ b.l = inL ((List.range n).filter (stB a k))
  mu b := a.length - b.i.toNat
def immL (k : IntKind) (l : List Int) : AV := .imm (.ints k l) l.length (some l.length)
def immN (k : IntKind) (l : List Int) : AV := .imm (.ints k l) l.length none
def e38 : CtE
  | [.agg [.imm (.ints .i64 a) n _, .imm (.ints .u8 k) m _]] => some ⟨immL .i64 (stI a k), [], some (n = a.length ∧ m = k.length ∧ k.length = a.length ∧ a.length < 1000000000)⟩
  | _ => none
structure L40 where (i : Int) (a k : List Int)
def l40 (a k : List Int) (at_ : Nat) : LpS L40 where
  ov b := [(16, .int .i64 b.i)]
  bk b := [(256, .blk ⟨.cells [.full 9001 b.a.length, .full 9002 b.k.length], 2, 1, none, some false, true, true⟩), (9001, .blk (blkI b.a)), (9002, .blk (blkK b.k))]
  rd S := match aget S.t 16, aget S.h 9001, aget S.h 9002 with
    | some (.int _ i), some (.blk ⟨.ints _ a, _, _, _, _, _, _⟩), some (.blk ⟨.ints _ k, _, _, _, _, _, _⟩) => some ⟨i, a, k⟩
    | _, _, _ => none
  pre b := ∃ n : Nat, b.i = n ∧ n ≤ a.length ∧ b.a = (keepL a.length at_ n).map (valF a at_) ∧ b.k = (keepL a.length at_ n).map (gt k)
  mu b := a.length - b.i.toNat
def e40 : CtE
  | [.agg [.imm (.ints .i64 a) n _, .imm (.ints .u8 k) m _], .int .i64 i] => some ⟨.agg [immL .i64 (doneA a i.toNat), immL .u8 (doneK k i.toNat)], [], some (n = a.length ∧ m = k.length ∧ okF a k 8 = true ∧ 2 ≤ a.length ∧ 0 ≤ i ∧ i < a.length)⟩
  | _ => none
def e15 : CtE
  | [.agg [.imm (.ints .i64 a) n _, .imm (.ints .u8 k) m _]] => some ⟨.tup [immL .i64 (bLs (okD a k) (stI a k)), .int .i64 (dcd a k)], [], some (n = a.length ∧ m = k.length ∧ a.length < 1000000000 ∧ k.length < 1000000000)⟩
  | _ => none
def doE (a k : List Int) (i : Int) : Int := if dcd a k = 0 then bI (isS a k i) 0 6 else dcd a k
def doB (a k : List Int) (i : Int) : Bool := okD a k && isS a k i
def e16 : CtE
  | [.agg [.imm (.ints .i64 a) n _, .imm (.ints .u8 k) m _], .int .i64 i] => some ⟨.tup [.agg [immL .i64 (bLs (doB a k i) (doneA a i.toNat)), immL .u8 (bLs (doB a k i) (doneK k i.toNat))], .int .i64 (doE a k i)], [], some (n = a.length ∧ m = k.length ∧ a.length < 1000000000 ∧ k.length < 1000000000)⟩
  | _ => none
def tlC : List (Nat × CtE) := (38, e38) :: (37, e37) :: (23, e23) :: tlB
def TC1 : Tab := tabL tlC noCh
def tlD : List (Nat × CtE) := (40, e40) :: tlC
def TD1 : Tab := tabL tlD noCh
end Go.Proofs.YtfafinkgmhkdmaaDoor.X
