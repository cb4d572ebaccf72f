/-
 What the functions on whole patterns compute: equal, fits, counts, the reference's check, the opposite, the back side.
-/
import Derived.Test.YtfpcbimohikhmaaDoorD4Z
set_option maxRecDepth 1000000
set_option linter.unusedVariables false
namespace Go.Proofs.YtfpcbimohikhmaaDoor.X
open Go Go.Ab

def l67 (a b : List Cr) : LpS L1 where
 ov c := [(13, .int .i64 c.i)]
 bk c := []
 rd S := match aget S.t 13 with
  | some (.int _ i) => some ⟨i⟩
  | _ => none
 pre c := ∃ n : Nat, c.i = n ∧ n ≤ a.length ∧ eqC (a.drop n) (b.drop n) = eqC a b
 mu c := a.length - c.i.toNat
def e67 : CtE
 | [.imm (.vals a) n _, .imm (.vals b) m _] => some ⟨.bool (eqC (unC a) (unC b)), [], some (okA a n ∧ okA b m)⟩
 | _ => none
def fitB (x y : Cr) : Bool := (x.1 == y.1 && x.2.1 == y.2.1) && (x.2.2 == y.2.2 || y.2.2 == 3)
def e69 : CtE
 | [.agg [.int .i64 c, .int .u8 e, .int .u8 k], .agg [.int .i64 c', .int .u8 e', .int .u8 k']] => some ⟨.bool (fitB (c, e, k) (c', e', k')), [], none⟩
 | _ => none
def fitL : List Cr → List Cr → Bool
 | [], [] => true
 | x :: a, y :: b => fitB x y && fitL a b
 | _, _ => false
def l68 (a b : List Cr) : LpS L1 where
 ov c := [(17, .int .i64 c.i)]
 bk c := []
 rd S := match aget S.t 17 with
  | some (.int _ i) => some ⟨i⟩
  | _ => none
 pre c := ∃ n : Nat, c.i = n ∧ n ≤ a.length ∧ fitL (a.drop n) (b.drop n) = fitL a b
 mu c := a.length - c.i.toNat
def e68 : CtE
 | [.imm (.vals a) n _, .imm (.vals b) m _, .fn 69 [] []] => some ⟨.bool (fitL (unC a) (unC b)), [], some (okA a n ∧ okA b m)⟩
 | _ => none
def cQ1' : List (Nat × CtE) := (62, e62) :: []
def CQ1 : Tab := tabL cQ1' noCh
def cQ2' : List (Nat × CtE) := (69, e69) :: (67, e67) :: []
def CQ2 : Tab := tabL cQ2' noCh
def cQ3' : List (Nat × CtE) := (68, e68) :: cQ2'
def CQ3 : Tab := tabL cQ3' noCh
def shEq (w h w' h' : Int) : Bool := w == w' && h == h'
def e32 : CtE
 | [.agg [.int .i64 w, .int .i64 h, .imm (.vals a) n _], .agg [.int .i64 w', .int .i64 h', .imm (.vals b) m _]] => some ⟨.bool (shEq w h w' h' && eqC (unC a) (unC b)), [], some (okA a n ∧ okA b m)⟩
 | _ => none
def e33 : CtE
 | [.agg [.int .i64 w, .int .i64 h, .imm (.vals a) n _], .agg [.int .i64 w', .int .i64 h', .imm (.vals b) m _]] => some ⟨.bool (shEq w h w' h' && fitL (unC a) (unC b)), [], some (okA a n ∧ okA b m)⟩
 | _ => none
def cntN (l : List Cr) (k : Int) : Nat := l.countP fun x => x.2.2 == k
structure L2i where (i n : Int)
def l34 (l : List Cr) (k : Int) : LpS L2i where
 ov c := [(11, .int .i64 c.i), (5, .int .i64 c.n)]
 bk c := []
 rd S := match aget S.t 11, aget S.t 5 with
  | some (.int _ i), some (.int _ n) => some ⟨i, n⟩
  | _, _ => none
 pre c := ∃ n : Nat, c.i = n ∧ n ≤ l.length ∧ c.n = (cntN (l.take n) k : Int)
 mu c := l.length - c.i.toNat
def e34 : CtE
 | [.agg [.int .i64 w, .int .i64 h, .imm (.vals a) n _], .int .u8 k] => some ⟨.int .i64 (cntN (unC a) k), [], some (okA a n)⟩
 | _ => none
/-! ### The reference's check -/
def lkI (c e : Int) : Int → Int → List Int → Int
 | acc, _, [] => acc
 | acc, i, u :: r => lkI c e (cond (u / 3 == c && u % 3 == e) i acc) (i + 1) r
def rck (us : List Int) : Int → Int → List Cr → Int
 | _, o, [] => o
 | last, o, x :: r => cond (ltb (lkI x.1 x.2.1 (-1) 0 us) 0) 7 (rck us (lkI x.1 x.2.1 (-1) 0 us) (cond (leb (lkI x.1 x.2.1 (-1) 0 us) last) 6 o) r)
def rchI (w h : Int) (l : List Cr) : Int := cond (okS w h) (cond (badL l) 1 (rck (units w h) (-1) 0 l)) 1
def k30 (l : List Cr) : LpS L1 where
 ov c := [(3, .int .i64 c.i)]
 bk c := []
 rd S := match aget S.t 3 with
  | some (.int _ i) => some ⟨i⟩
  | _ => none
 pre c := ∃ n : Nat, c.i = n ∧ n ≤ l.length ∧ badL (l.drop n) = badL l
 mu c := l.length - c.i.toNat
structure L3i where (i p o : Int)
def l30 (us : List Int) (l : List Cr) : LpS L3i where
 ov c := [(7, .int .i64 c.i), (5, .int .i64 c.p), (6, .int .i64 c.o)]
 bk c := []
 rd S := match aget S.t 7, aget S.t 5, aget S.t 6 with
  | some (.int _ i), some (.int _ p), some (.int _ o) => some ⟨i, p, o⟩
  | _, _, _ => none
 pre c := ∃ n : Nat, c.i = n ∧ n ≤ l.length ∧ rck us c.p c.o (l.drop n) = rck us (-1) 0 l
 mu c := l.length - c.i.toNat
def m30 (us : List Int) (c e : Int) : LpS L2i where
 ov b := [(9, .int .i64 b.i), (8, .int .i64 b.n)]
 bk b := []
 rd S := match aget S.t 9, aget S.t 8 with
  | some (.int _ i), some (.int _ n) => some ⟨i, n⟩
  | _, _ => none
 pre b := ∃ n : Nat, b.i = n ∧ n ≤ us.length ∧ lkI c e b.n n (us.drop n) = lkI c e (-1) 0 us
 mu b := us.length - b.i.toNat
def cQ4' : List (Nat × CtE) := (29, e29) :: cW'
def CQ4 : Tab := tabL cQ4' noCh
def e19u : CtE
 | [.agg [.int .i64 w, .int .i64 h, .imm (.vals a) n _]] => some ⟨.full 0 (kindsL (units w h) (unC a)).length, [⟨.ints .u8 (kindsL (units w h) (unC a)), 1, (kindsL (units w h) (unC a)).length, none, none, true, false⟩], some (s5 w h ∧ okA a n)⟩
 | _ => none
/-! ### Opposite -/
def opC (x : Cr) : Cr := (x.1, x.2.1, otK x.2.2)
def opL (l : List Cr) : List Cr := l.map opC
structure L25 where (i : Int) (l : List AV)
def blkA (l : List AV) (n : Nat) : HO := .blk ⟨.vals l, 3, n, some n, some false, true, false⟩
def l25 (l : List Cr) : LpS L25 where
 ov c := [(23, .int .i64 c.i)]
 bk c := [(323, blkA c.l l.length)]
 rd S := match aget S.t 23, aget S.h 323 with
  | some (.int _ i), some (.blk ⟨.vals l, _, _, _, _, _, _⟩) => some ⟨i, l⟩
  | _, _ => none
 pre c := ∃ n : Nat, c.i = n ∧ n ≤ l.length ∧ c.l = flatC ((opL l).take n ++ l.drop n)
 mu c := l.length - c.i.toNat
def opR (w h : Int) (l : List Cr) : List Cr := cond (chkI w h l == 0) (opL l) []
def blkR (l : List Cr) : Blk := ⟨.vals (flatC l), 3, l.length, some l.length, none, true, false⟩
def patR (b : Bool) (w h : Int) (l : List Cr) : AV := .agg [.int .i64 (bI b w 0), .int .i64 (bI b h 0), .full 0 l.length]
def e25 : CtE
 | [.agg [.int .i64 w, .int .i64 h, .imm (.vals a) n _]] => some ⟨.tup [patR (chkI w h (unC a) == 0) w h (opR w h (unC a)), .int .i64 (chkI w h (unC a))], [blkR (opR w h (unC a))], some (okA a n ∧ (unC a).length < 1000000 ∧ edg (unC a))⟩
 | _ => none
/-! ### The pattern of plain data -/
def pkL (n : Int) (ks : List Int) : List Int := (ks.take n.toNat).map (fun k => k.tmod 4) ++ List.replicate (n.toNat - ks.length) 0
def l14 (n : Int) (ks : List Int) : LpS L19 where
 ov b := [(5, .int .i64 b.i)]
 bk b := [(198, .blk ⟨.ints .u8 b.l, 1, n.toNat, some n.toNat, some false, true, false⟩)]
 rd S := match aget S.t 5, aget S.h 198 with
  | some (.int _ i), some (.blk ⟨.ints _ l, _, _, _, _, _, _⟩) => some ⟨i, l⟩
  | _, _ => none
 pre b := ∃ m : Nat, b.i = m ∧ (m : Int) ≤ n ∧ m ≤ ks.length ∧ b.l = (ks.take m).map (fun k => k.tmod 4) ++ List.replicate (n.toNat - m) 0
 mu b := n.toNat - b.i.toNat
def dim (W : Int) : Int := 1 + W.tmod 4
def ofL (W H : Int) (ks : List Int) : List Cr := wthL (units (dim W) (dim H)) (pkL (6 * dim W * dim H) ks)
def u8s (l : List Int) : Prop := ∀ x ∈ l, 0 ≤ x ∧ x ≤ 255
def e14 : CtE
 | [.agg [.int .u8 W, .int .u8 H, .imm (.ints .u8 ks) n _]] => some ⟨.agg [.int .i64 (dim W), .int .i64 (dim H), .full 0 (ofL W H ks).length], [blkC (flatC (ofL W H ks)) (ofL W H ks).length], some (0 ≤ W ∧ W ≤ 255 ∧ 0 ≤ H ∧ H ≤ 255 ∧ n = ks.length ∧ u8s ks)⟩
 | _ => none
def cQ5' : List (Nat × CtE) := (23, e23) :: []
def CQ5 : Tab := tabL cQ5' noCh
def dim5 (W : Int) : Int := 1 + W.tmod 5
def e35 : CtE
 | [.agg [.int .u8 W, .int .u8 H]] => some ⟨.agg [.int .i64 (dim5 W), .int .i64 (dim5 H)], [], some (0 ≤ W ∧ W ≤ 255 ∧ 0 ≤ H ∧ H ≤ 255)⟩
 | _ => none
end Go.Proofs.YtfpcbimohikhmaaDoor.X
