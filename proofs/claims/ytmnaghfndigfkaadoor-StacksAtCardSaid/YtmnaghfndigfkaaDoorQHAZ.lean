/-
 Stacks: lists of a cell and its layers; what the functions on them compute.
-/
import Derived.Test.YtmnaghfndigfkaaDoorQDAZ
set_option maxRecDepth 1000000
set_option linter.unusedVariables false
namespace Go.Proofs.YtmnaghfndigfkaaDoor.X
open Go Go.Ab

abbrev Sk := Cl × List Int
def layV (ks : List Int) : AV := .imm (.ints .i64 ks) ks.length none
def skV (s : Sk) : List AV := [.int .i64 s.1.1, .int .i64 s.1.2.1, .int .u8 s.1.2.2, layV s.2]
def flatT (l : List Sk) : List AV := l.flatMap skV
def lsk (l : List Sk) : AV := .imm (.vals (flatT l)) l.length none
def unT : List AV → List Sk
 | .int _ x :: .int _ y :: .int _ q :: .imm (.ints _ ks) _ _ :: r => ((x, y, q), ks) :: unT r
 | _ => []
/-- At most 1000000 stacks, each with at most 1000000 layers. -/
def smK (ks : List Int) : Prop := ks.length < 1000000
def okT (a : List AV) (n : Nat) : Prop := a = flatT (unT a) ∧ n = (unT a).length ∧ (unT a).length < 1000000 ∧ ∀ s ∈ unT a, smK s.2
def gT (l : List Sk) (i : Int) : Sk := l[i.toNat]?.getD ((0, 0, 0), [])
def tX (l : List Sk) (i : Int) : Int := (gT l i).1.1
def tY (l : List Sk) (i : Int) : Int := (gT l i).1.2.1
def tQ (l : List Sk) (i : Int) : Int := (gT l i).1.2.2
def tK (l : List Sk) (i : Int) : List Int := (gT l i).2
def tV (l : List Sk) (i : Int) : List AV := [.int .i64 (tX l i), .int .i64 (tY l i), .int .u8 (tQ l i), layV (tK l i)]
def tC (l : List Sk) (i : Int) : List AV := [.int .i64 (tX l i), .int .i64 (tY l i), .int .u8 (tQ l i)]
/-! ### Lists of numbers -/
def eqK : List Int → List Int → Bool
 | [], [] => true
 | a :: r, b :: s => cond (a == b) (eqK r s) false
 | _, _ => false
def ixI : List Int → Int → Int → Int
 | [], _, _ => -1
 | a :: r, c, i => cond (c == a) i (ixI r c (i + 1))
def e64 : CtE
 | [.int .i64 x, .int .i64 y, .int .u8 q] => some ⟨.agg [.int .i64 x, .int .i64 y, .int .u8 q], [], none⟩
 | _ => none
def e65 : CtE
 | [.imm (.ints .i64 ks) n _, .int .i64 c] => some ⟨.int .i64 (ixI ks c 0), [], some (n = ks.length ∧ smK ks)⟩
 | _ => none
def l65 (ks : List Int) (c : Int) : LpS L1 where
 ov b := [(8, .int .i64 b.i)]
 bk b := []
 rd S := match aget S.t 8 with
  | some (.int _ i) => some ⟨i⟩
  | _ => none
 pre b := ∃ n : Nat, b.i = n ∧ n ≤ ks.length ∧ ixI (ks.drop n) c n = ixI ks c 0
 mu b := ks.length - b.i.toNat
def e70 : CtE
 | [.imm (.ints .i64 a) n _, .imm (.ints .i64 b) m _] => some ⟨.bool (eqK a b), [], some (n = a.length ∧ m = b.length ∧ smK a ∧ smK b)⟩
 | _ => none
def l70 (a b : List Int) : LpS L1 where
 ov c := [(13, .int .i64 c.i)]
 bk c := []
 rd S := match aget S.t 13 with
  | some (.int _ i) => some ⟨i⟩
  | _ => none
 pre c := ∃ n : Nat, c.i = n ∧ n ≤ a.length ∧ eqK (a.drop n) (b.drop n) = eqK a b
 mu c := a.length - c.i.toNat
/-- An own row of numbers, perhaps nil; its capacity. -/
def bkI (ks : List Int) (c : Option Nat) : Blk := ⟨.ints .i64 ks, 1, ks.length, c, none, true, false⟩
def e67p : CtE
 | [.imm (.ints .i64 ks) n _] => some ⟨.full 0 ks.length, [bkI ks none], some (n = ks.length ∧ smK ks ∧ 0 < ks.length)⟩
 | _ => none
def e67f : CtE
 | [.imm (.ints .i64 ks) n _] => some ⟨layV ks, [], some (n = ks.length ∧ smK ks)⟩
 | _ => none
def layC (ks : List Int) : AV := .imm (.ints .i64 ks) ks.length (some ks.length)
def e66f : CtE
 | [.imm (.ints .i64 ks) n _] => some ⟨layC ks, [], some (n = ks.length ∧ smK ks)⟩
 | _ => none
/-! ### Find, Height, At, Same -/
def fdS : List Sk → Int → Cl × Int × Int
 | [], _ => ((0, 0, 0), 0, 7)
 | s :: r, c => cond (leb 0 (ixI s.2 c 0)) (s.1, ixI s.2 c 0, 0) (fdS r c)
def e16 : CtE
 | [.imm (.vals a) n _, .int .i64 c] => some ⟨.tup [.agg [.int .i64 (fdS (unT a) c).1.1, .int .i64 (fdS (unT a) c).1.2.1, .int .u8 (fdS (unT a) c).1.2.2], .int .i64 (fdS (unT a) c).2.1, .int .i64 (fdS (unT a) c).2.2], [], some (okT a n)⟩
 | _ => none
def l16 (l : List Sk) (c : Int) : LpS L1 where
 ov b := [(12, .int .i64 b.i)]
 bk b := []
 rd S := match aget S.t 12 with
  | some (.int _ i) => some ⟨i⟩
  | _ => none
 pre b := ∃ n : Nat, b.i = n ∧ n ≤ l.length ∧ fdS (l.drop n) c = fdS l c
 mu b := l.length - b.i.toNat
def hgt : List Sk → Nat
 | [] => 0
 | s :: r => Nat.max s.2.length (hgt r)
def e17 : CtE
 | [.imm (.vals a) n _] => some ⟨.int .i64 (hgt (unT a) : Nat), [], some (okT a n)⟩
 | _ => none
structure L17 where (i m : Int)
def l17 (l : List Sk) : LpS L17 where
 ov b := [(8, .int .i64 b.i), (3, .int .i64 b.m)]
 bk b := []
 rd S := match aget S.t 8, aget S.t 3 with
  | some (.int _ i), some (.int _ m) => some ⟨i, m⟩
  | _, _ => none
 pre b := ∃ n : Nat, b.i = n ∧ n ≤ l.length ∧ b.m = (hgt (l.take n) : Nat)
 mu b := l.length - b.i.toNat
def atL : List Sk → Cl → List Int
 | [], _ => []
 | s :: r, c => cond (eqCl s.1 c) s.2 (atL r c)
def e18p : CtE
 | [.imm (.vals a) n _, .agg [.int .i64 x, .int .i64 y, .int .u8 q]] => some ⟨.fullc 0 (atL (unT a) (x, y, q)).length (atL (unT a) (x, y, q)).length, [bkI (atL (unT a) (x, y, q)) none], some (okT a n ∧ 0 < (atL (unT a) (x, y, q)).length)⟩
 | _ => none
def e18f : CtE
 | [.imm (.vals a) n _, .agg [.int .i64 x, .int .i64 y, .int .u8 q]] => some ⟨layC (atL (unT a) (x, y, q)), [], some (okT a n)⟩
 | _ => none
def l18 (l : List Sk) (c : Cl) : LpS L1 where
 ov b := [(9, .int .i64 b.i)]
 bk b := []
 rd S := match aget S.t 9 with
  | some (.int _ i) => some ⟨i⟩
  | _ => none
 pre b := ∃ n : Nat, b.i = n ∧ n ≤ l.length ∧ atL (l.drop n) c = atL l c
 mu b := l.length - b.i.toNat
/-- Clip, on the heap. -/
def ch18 (h : List (Nat × HO)) (cv : AV) (args : List AV) : Option Cx :=
 match cv, args, aget h 24704 with
 | .fn g [] [], [.full i n], some (.blk ⟨.ints _ l, _, _, _, _, _, _⟩) => cond (Nat.beq g 66 && Nat.beq i 24704) (some ⟨.fullc 24704 n n, [], some (h = [(24704, .blk (bkI l none))] ∧ n = l.length)⟩) none
 | _, _, _ => none
def tH18 : List (Nat × CtE) := [(67, e67p)]
def TH18 : Tab := tabL tH18 ch18
def tH18f : List (Nat × CtE) := [(67, e67f), (66, e66f)]
def TH18f : Tab := tabL tH18f noCh
def tH16 : List (Nat × CtE) := [(65, e65)]
def TH16 : Tab := tabL tH16 noCh
/-- same, of a list with the capacity c; of an own row. -/
def e19 : CtE
 | [.imm (.ints .i64 a) n (some c), .imm (.ints .i64 b) m _] => some ⟨.int .i64 (bI (Nat.beq c n && eqK a b) 1 0), [], some (n = a.length ∧ m = b.length ∧ smK a ∧ smK b)⟩
 | _ => none
def l19 (a b : List Int) : LpS L1 where
 ov c := [(5, .int .i64 c.i)]
 bk c := []
 rd S := match aget S.t 5 with
  | some (.int _ i) => some ⟨i⟩
  | _ => none
 pre c := ∃ n : Nat, c.i = n ∧ n ≤ a.length ∧ eqK (a.drop n) (b.drop n) = eqK a b
 mu c := a.length - c.i.toNat
def eqT : List Sk → List Sk → Bool
 | [], [] => true
 | a :: r, b :: s => cond (eqCl a.1 b.1 && eqK a.2 b.2) (eqT r s) false
 | _, _ => false
def e69 : CtE
 | [.agg [.int .i64 x, .int .i64 y, .int .u8 q, .imm (.ints .i64 a) n _], .agg [.int .i64 u, .int .i64 v, .int .u8 p, .imm (.ints .i64 b) m _]] => some ⟨.bool (eqCl (x, y, q) (u, v, p) && eqK a b), [], some (n = a.length ∧ m = b.length ∧ smK a ∧ smK b)⟩
 | _ => none
def tH69 : List (Nat × CtE) := [(70, e70)]
def TH69 : Tab := tabL tH69 noCh
def tH68 : List (Nat × CtE) := [(69, e69)]
def TH68 : Tab := tabL tH68 noCh
def e68 : CtE
 | [.imm (.vals a) n _, .imm (.vals b) m _, .fn f [] []] => cond (Nat.beq f 69) (some ⟨.bool (eqT (unT a) (unT b)), [], some (okT a n ∧ okT b m)⟩) none
 | _ => none
def l68 (a b : List Sk) : LpS L1 where
 ov c := [(17, .int .i64 c.i)]
 bk c := []
 rd S := match aget S.t 17 with
  | some (.int _ i) => some ⟨i⟩
  | _ => none
 pre c := ∃ n : Nat, c.i = n ∧ n ≤ a.length ∧ eqT (a.drop n) (b.drop n) = eqT a b
 mu c := a.length - c.i.toNat
def tH20 : List (Nat × CtE) := [(68, e68)]
def TH20 : Tab := tabL tH20 noCh
def e20 : CtE
 | [.imm (.vals a) n _, .imm (.vals b) m _] => some ⟨.bool (eqT (unT a) (unT b)), [], some (okT a n ∧ okT b m)⟩
 | _ => none
/-! ### The stacks of plain data -/
def ptV (s : Sk) : List AV := [.int .i8 s.1.1, .int .i8 s.1.2.1, .int .u8 s.1.2.2, .imm (.ints .u8 s.2) s.2.length none]
def flatR (l : List Sk) : List AV := l.flatMap ptV
def rawT (l : List Sk) : Prop := ∀ s ∈ l, (i8P s.1.1 ∧ i8P s.1.2.1 ∧ 0 ≤ s.1.2.2 ∧ s.1.2.2 ≤ 255) ∧ ∀ k ∈ s.2, 0 ≤ k ∧ k ≤ 255
def stk (s : Sk) : Sk := (cel s.1, s.2.take 8)
def stO (l : List Sk) : List Sk := (l.take 20).map stk
def e15 : CtE
 | [.imm (.vals a) n _] => some ⟨lsk (stO (unT a)), [], some (a = flatR (unT a) ∧ n = (unT a).length ∧ rawT (unT a))⟩
 | _ => none
def pV (l : List Sk) (i : Int) : AV := .imm (.ints .u8 (tK l i)) (tK l i).length none
structure L15 where (i : Int) (o : List AV) (n : Nat)
def l15 (l : List Sk) : LpS L15 where
 ov b := [(4, .int .i64 b.i), (3, .full 9001 b.n)]
 bk b := [(9001, .blk ⟨.vals b.o, 4, b.n, none, some true, true, false⟩)]
 rd S := match aget S.t 4, aget S.h 9001 with
  | some (.int _ i), some (.blk ⟨.vals o, _, n, _, _, _, _⟩) => some ⟨i, o, n⟩
  | _, _ => none
 pre b := ∃ n : Nat, b.i = n ∧ n ≤ l.length ∧ n ≤ 20 ∧ b.o = flatT ((l.take n).map stk) ∧ b.n = n
 mu b := l.length - b.i.toNat
structure M15 where (k : Int) (o : List Int) (n : Nat)
def bx15 (x y q : Int) (n : Nat) : HO := .blk ⟨.cells [.int .i64 x, .int .i64 y, .int .u8 q, .full 9002 n], 4, 1, none, some false, true, true⟩
def m15 (l : List Sk) (i : Int) : LpS M15 where
 ov b := [(6, .int .i64 b.k)]
 bk b := [(404, bx15 (tX l i) (tY l i) ((tQ l i).tmod 4) b.n), (9002, .blk ⟨.ints .i64 b.o, 1, b.n, none, some true, true, false⟩)]
 rd S := match aget S.t 6, aget S.h 9002 with
  | some (.int _ k), some (.blk ⟨.ints _ o, _, n, _, _, _, _⟩) => some ⟨k, o, n⟩
  | _, _ => none
 pre b := ∃ n : Nat, b.k = n ∧ n ≤ (tK l i).length ∧ n ≤ 8 ∧ b.o = (tK l i).take n ∧ b.n = n
 mu b := (tK l i).length - b.k.toNat
def tH15 : List (Nat × CtE) := [(64, e64)]
def TH15 : Tab := tabL tH15 noCh
end Go.Proofs.YtmnaghfndigfkaaDoor.X
