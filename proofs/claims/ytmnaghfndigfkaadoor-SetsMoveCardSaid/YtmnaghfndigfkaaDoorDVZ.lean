/-
 What the reference's functions on cells compute: corners, lines, mirror images, the cell with three corners, neighbours.
-/
import Derived.Test.YtmnaghfndigfkaaDoorDNZ
set_option maxRecDepth 1000000
set_option linter.unusedVariables false
namespace Go.Proofs.YtmnaghfndigfkaaDoor.X
open Go Go.Ab

def acA (k : Int) : Int := if k = 1 then 1 else if k = 2 then 0 else if k = 3 then 1 else -1
def acB (k : Int) : Int := if k = 1 then 0 else 1
def e175 : CtE
 | [.int .u8 k] => some ⟨.tup [.int .i64 (acA k), .int .i64 (acB k)], [], none⟩
 | _ => none
def sml (x : Int) : Prop := -100000 ≤ x ∧ x ≤ 100000
def crS (q : Int) : Int := if q = 1 then 1 else if q = 2 then 1 else 0
def crX (q : Int) : Int := if q = 0 then 1 else if q = 1 then 1 else 0
def crY (q : Int) : Int := if q = 2 then 1 else if q = 3 then 1 else 0
def crL (x y q : Int) : List AV := [.int .i64 (2 * x + 1), .int .i64 (2 * y + 1), .int .i64 (2 * x + 2 * crS q), .int .i64 (2 * y + 2 * crS q), .int .i64 (2 * x + 2 * crX q), .int .i64 (2 * y + 2 * crY q)]
def e134 : CtE
 | [.agg [.int .i64 x, .int .i64 y, .int .u8 q]] => some ⟨.agg (crL x y q), [], some (sml x ∧ sml y ∧ 0 ≤ q ∧ q ≤ 3)⟩
 | _ => none
def smc (x y q : Int) : Prop := -40000 ≤ x ∧ x ≤ 40000 ∧ -40000 ≤ y ∧ y ≤ 40000 ∧ 0 ≤ q ∧ q ≤ 3
structure L137 where (k a b : Int)
def wQ (sx sy : Int) : Int := if sy = -2 then 0 else if sx = 2 then 1 else if sy = 2 then 2 else 3
def wOk (mx my ax ay bx b_ : Int) : Prop := ∃ x y q : Int, smc x y q ∧ mx = 2 * x + 1 ∧ my = 2 * y + 1 ∧
 ((ax = 2 * x + 2 * crS q ∧ ay = 2 * y + 2 * crS q ∧ bx = 2 * x + 2 * crX q ∧ b_ = 2 * y + 2 * crY q) ∨
  (bx = 2 * x + 2 * crS q ∧ b_ = 2 * y + 2 * crS q ∧ ax = 2 * x + 2 * crX q ∧ ay = 2 * y + 2 * crY q))
def e136 : CtE
 | [.agg [.int .i64 mx, .int .i64 my, .int .i64 ax, .int .i64 ay, .int .i64 bx, .int .i64 b_]] => some ⟨.agg [.int .i64 ((mx - 1) / 2), .int .i64 ((my - 1) / 2), .int .u8 (wQ (ax + bx - 2 * mx) (ay + b_ - 2 * my))], [], some (wOk mx my ax ay bx b_)⟩
 | _ => none
structure L136 where (i : Int)
def l136 (q : Int) : LpS L136 where
 ov v := [(7, .int .u8 v.i)]
 bk v := []
 rd S := match aget S.t 7 with
  | some (.int _ i) => some ⟨i⟩
  | _ => none
 pre v := 0 ≤ v.i ∧ v.i ≤ q
 mu v := 4 - v.i.toNat
/-- A condition, where paths join. -/
def jP (P : Prop) : LpS Unit where
 ov _ := []
 bk _ := []
 rd S := some ()
 pre _ := P
 mu _ := 0
def neI (a b : Int) : Prop := a ≠ b
def tQ137 : List (Nat × CtE) := [(175, e175), (134, e134)]
def TQ137 : Tab := tabL tQ137 noCh
end Go.Proofs.YtmnaghfndigfkaaDoor.X

/-
 What Connected computes.
-/
set_option maxRecDepth 1000000
set_option linter.unusedVariables false
namespace Go.Proofs.YtmnaghfndigfkaaDoor.X
open Go Go.Ab

/-- Closed under neighbours in a list. -/
def clo (l : List Cl) (S : Cl → Prop) : Prop := ∀ c ∈ l, S c → ∀ e : Int, 0 ≤ e → e < 3 → nbC c e ∈ l → S (nbC c e)
def conP (l : List Cl) : Prop := ∀ S : Cl → Prop, (∀ h t, l = h :: t → S h) → clo l S → ∀ x ∈ l, S x
noncomputable def conB (l : List Cl) : Bool := @decide (conP l) (Classical.propDecidable _)
noncomputable def cnX (l : List Cl) : Bool := cond (chkI l == 0) (conB l) false
noncomputable def e42 : CtE
 | [.imm (.vals a) n _] => some ⟨.tup [.bool (cnX (unK a)), .int .i64 (chkI (unK a))], [], some (okL a n ∧ okQ (unK a))⟩
 | _ => none
/-- The cells that are left (L), and those that wait (W). -/
def invC (l L W : List Cl) : Prop :=
 (∀ x ∈ L, x ∈ l) ∧ (∀ h t, l = h :: t → h ∉ L) ∧ (∀ x ∈ W, x ∈ l ∧ x ∉ L) ∧
 (∀ x ∈ l, x ∉ L → x ∉ W → ∀ e : Int, 0 ≤ e → e < 3 → nbC x e ∉ L) ∧
 (∀ S : Cl → Prop, (∀ h t, l = h :: t → S h) → clo l S → ∀ x ∈ l, x ∉ L → S x)
def invD (l L W : List Cl) (c : Cl) (k : Int) : Prop :=
 (c ∈ l ∧ c ∉ L) ∧ (∀ x ∈ L, x ∈ l) ∧ (∀ h t, l = h :: t → h ∉ L) ∧ (∀ x ∈ W, x ∈ l ∧ x ∉ L) ∧
 (∀ x ∈ l, x ∉ L → x ∉ W → x ≠ c → ∀ e : Int, 0 ≤ e → e < 3 → nbC x e ∉ L) ∧
 (∀ e : Int, 0 ≤ e → e < k → nbC c e ∉ L) ∧
 (∀ S : Cl → Prop, (∀ h t, l = h :: t → S h) → clo l S → ∀ x ∈ l, x ∉ L → S x)
def rwB (o : List AV) (n : Nat) : Blk := ⟨.vals o, 3, n, none, some false, true, false⟩
structure L42 where (es : ME) (k : Nat) (o : List AV) (n w : Nat)
def l42 (l : List Cl) : LpS L42 where
 ov b := [(6, .vw 579 b.n 3 0 b.w)]
 bk b := [(28736, .blk (mpB b.es b.k)), (579, .blk (rwB b.o b.n))]
 rd S := match aget S.t 6, aget S.h 28736, aget S.h 579 with
  | some (.vw _ n _ _ w), some (.blk ⟨.maps _ _ es k, _, _, _, _, _, _⟩), some (.blk ⟨.vals o, _, _, _, _, _, _⟩) => some ⟨es, k, o, n, w⟩
  | some (.full _ n), some (.blk ⟨.maps _ _ es k, _, _, _, _, _, _⟩), some (.blk ⟨.vals o, _, _, _, _, _, _⟩) => some ⟨es, k, o, n, n⟩
  | _, _, _ => none
 pre b := ∃ L R : List Cl, repM b.es L ∧ b.o = flatK R ∧ b.n = R.length ∧ b.w ≤ b.n ∧ b.n + L.length < 1000000 ∧ invC l L (R.take b.w)
 mu b := 2 * b.es.length + b.w
structure M42 where (e : Int) (es : ME) (k : Nat) (o : List AV) (n w : Nat)
def m42 (l : List Cl) (c : Cl) (B : Nat) : LpS M42 where
 ov b := [(43, .int .u8 b.e), (6, .vw 579 b.n 3 0 b.w)]
 bk b := [(28736, .blk (mpB b.es b.k)), (579, .blk (rwB b.o b.n))]
 rd S := match aget S.t 43, aget S.t 6, aget S.h 28736, aget S.h 579 with
  | some (.int _ e), some (.vw _ n _ _ w), some (.blk ⟨.maps _ _ es k, _, _, _, _, _, _⟩), some (.blk ⟨.vals o, _, _, _, _, _, _⟩) => some ⟨e, es, k, o, n, w⟩
  | _, _, _, _ => none
 pre b := ∃ L R : List Cl, ∃ j : Nat, b.e = j ∧ j ≤ 3 ∧ repM b.es L ∧ b.o = flatK R ∧ b.n = R.length ∧ b.w ≤ b.n ∧ b.n + L.length < 1000000 ∧ 2 * b.es.length + b.w < B ∧ invD l L (R.take b.w) c j
 mu b := 3 - b.e.toNat
def tI42 : List (Nat × CtE) := [(61, e61), (96, e96), (97, e97)]
def TI42 : Tab := tabL tI42 noCh
end Go.Proofs.YtmnaghfndigfkaaDoor.X
/-
 Moves: what the functions on moves compute.
-/
set_option maxRecDepth 1000000
set_option linter.unusedVariables false
namespace Go.Proofs.YtmnaghfndigfkaaDoor.X
open Go Go.Ab

/-- Turned coordinates. -/
def mtX (t x y : Int) : Int := if t = 0 then x else if t = 1 then -y else if t = 2 then -x else if t = 3 then y else if t = 4 then -x else if t = 5 then -y else if t = 6 then x else y
def mtY (t x y : Int) : Int := if t = 0 then y else if t = 1 then x else if t = 2 then -y else if t = 3 then -x else if t = 4 then y else if t = 5 then -x else if t = 6 then -y else x
/-- The side of a quarter; the quarter of a side. -/
def sdX (q : Int) : Int := if q = 1 then 1 else if q = 3 then -1 else 0
def sdY (q : Int) : Int := if q = 0 then -1 else if q = 2 then 1 else 0
def qOf (x y : Int) : Int := if y = -1 then 0 else if x = 1 then 1 else if y = 1 then 2 else 3
def mvQ (t q : Int) : Int := qOf (mtX t (sdX q) (sdY q)) (mtY t (sdX q) (sdY q))
def mvX' (t X x y : Int) : Int := (mtX t (2 * x + 1) (2 * y + 1) + 2 * X - 1) / 2
def mvY' (t Y x y : Int) : Int := (mtY t (2 * x + 1) (2 * y + 1) + 2 * Y - 1) / 2
def mvC (t X Y : Int) (c : Cl) : Cl := (mvX' t X c.1 c.2.1, mvY' t Y c.1 c.2.1, mvQ t c.2.2)
def beyB (n : Int) : Bool := decide (n < -16384 ∨ 16384 < n)
def mvV (t X Y : Int) : Bool := decide (t ≤ 7 ∧ -16384 ≤ X ∧ X ≤ 16384 ∧ -16384 ≤ Y ∧ Y ≤ 16384 ∧ (X + Y) % 2 = 0)
def e108 : CtE
 | [.int .i64 a] => some ⟨.bool (beyB a), [], none⟩
 | _ => none
def e55 : CtE
 | [.agg [.int .u8 t, .int .i64 a, .int .i64 b]] => some ⟨.int .i64 (bI (mvV t a b) 0 1), [], some (0 ≤ t ∧ t ≤ 255)⟩
 | _ => none
def e39 : CtE
 | [.agg [.int .u8 t, .int .i64 a, .int .i64 b]] => some ⟨.int .i64 (bI (mvV t a b) 1 0), [], some (0 ≤ t ∧ t ≤ 255)⟩
 | _ => none
def isT (t : Int) : Prop := 0 ≤ t ∧ t ≤ 7
def mvO (t X Y : Int) : Prop := isT t ∧ -16384 ≤ X ∧ X ≤ 16384 ∧ -16384 ≤ Y ∧ Y ≤ 16384 ∧ (X + Y) % 2 = 0
def e112 : CtE
 | [.agg [.int .i64 a, .int .i64 b, .int .i64 c, .int .i64 d], .int .i64 x, .int .i64 y] => some ⟨.tup [.int .i64 (a * x + b * y), .int .i64 (c * x + d * y)], [], some ((-1 ≤ a ∧ a ≤ 1) ∧ (-1 ≤ b ∧ b ≤ 1) ∧ (-1 ≤ c ∧ c ≤ 1) ∧ (-1 ≤ d ∧ d ≤ 1) ∧ smP x y)⟩
 | _ => none
def s10k (x y : Int) : Prop := -10000 ≤ x ∧ x ≤ 10000 ∧ -10000 ≤ y ∧ y ≤ 10000
def e166 : CtE
 | [.agg [.int .u8 t, .int .i64 a, .int .i64 b], .agg [.int .i64 x, .int .i64 y]] => some ⟨.tup [.agg [.int .i64 (mtX t x y + 2 * a), .int .i64 (mtY t x y + 2 * b)], .int .i64 0], [], some (mvO t a b ∧ s10k x y)⟩
 | _ => none
def vq (x y q : Int) : Prop := vldC (x, y, q) = true ∧ 0 ≤ q
def e132 : CtE
 | [.agg [.int .u8 t, .int .i64 a, .int .i64 b], .agg [.int .i64 x, .int .i64 y, .int .u8 q]] => some ⟨.agg [.int .i64 (mvX' t a x y), .int .i64 (mvY' t b x y), .int .u8 (mvQ t q)], [], some (mvO t a b ∧ vq x y q)⟩
 | _ => none
def mvB (t a b x y q : Int) : Bool := vldC (mvX' t a x y, mvY' t b x y, mvQ t q)
def e93 : CtE
 | [.agg [.int .u8 t, .int .i64 a, .int .i64 b], .agg [.int .i64 x, .int .i64 y, .int .u8 q]] => some ⟨.tup [.agg [.int .i64 (bI (mvB t a b x y q) (mvX' t a x y) 0), .int .i64 (bI (mvB t a b x y q) (mvY' t b x y) 0), .int .u8 (bI (mvB t a b x y q) (mvQ t q) 0)], .int .i64 (bI (mvB t a b x y q) 0 3)], [], some (mvO t a b ∧ vq x y q)⟩
 | _ => none
def hlf (p : Int) : Int := (p - bitI .and .i64 p 1).tdiv 2
def jD (x : Int) (c : Bool) : LpS Unit where
 ov _ := [(47, .int .i64 x), (48, .bool c)]
 bk _ := []
 rd S := some ()
 pre _ := True
 mu _ := 0
def tV55 : List (Nat × CtE) := [(108, e108)]
def TV55 : Tab := tabL tV55 noCh
def tV166 : List (Nat × CtE) := [(55, e55), (151, e151), (112, e112)]
def TV166 : Tab := tabL tV166 noCh
def tV132 : List (Nat × CtE) := [(165, e165), (166, e166)]
def TV132 : Tab := tabL tV132 noCh
def tV93 : List (Nat × CtE) := [(55, e55), (86, e86), (132, e132)]
def TV93 : Tab := tabL tV93 noCh
/-! ### A set that is moved -/
def mvL (t a b : Int) (l : List Cl) : List Cl := l.map (mvC t a b)
def mvOut (t a b : Int) (l : List Cl) : Bool := (mvL t a b l).all vldC
def mvE (t a b : Int) (l : List Cl) : Int := cond (mvV t a b) (cond (chkI l == 0) (bI (mvOut t a b l) 0 3) (chkI l)) 1
def mvR (t a b : Int) (l : List Cl) : List Cl := cond (mvE t a b l == 0) (srtQ (mvL t a b l)) []
def e38 : CtE
 | [.agg [.int .u8 t, .int .i64 a, .int .i64 b], .imm (.vals l) n _] => some ⟨.tup [.imm (.vals (flatK (mvR t a b (unK l)))) (mvR t a b (unK l)).length (some (mvR t a b (unK l)).length), .int .i64 (mvE t a b (unK l))], [], some ((0 ≤ t ∧ t ≤ 255) ∧ okL l n ∧ okQ (unK l))⟩
 | _ => none
def l38m (t a b_ : Int) (l : List Cl) : LpS L38 where
 ov b := [(25, .int .i64 b.i)]
 bk b := [(450, blk38 b.o l.length)]
 rd S := match aget S.t 25, aget S.h 450 with
  | some (.int _ i), some (.blk ⟨.vals o, _, _, _, _, _, _⟩) => some ⟨i, o⟩
  | _, _ => none
 pre b := ∃ R : List Cl, ∃ n : Nat, b.i = n ∧ n ≤ l.length ∧ b.o = flatK R ∧ R.length = l.length ∧ R.take n = mvL t a b_ (l.take n) ∧ mvOut t a b_ (l.take n) = true
 mu b := l.length - b.i.toNat
def tV38 : List (Nat × CtE) := [(55, e55), (61, e61), (93, e93)]
def TV38 (d : List Cl) : Tab := tabL tV38 (ch94 450 d)
/-! ### The reference -/
def e135 : CtE
 | [.agg [.int .u8 t, .int .i64 a, .int .i64 b], .agg [.int .i64 x, .int .i64 y]] => some ⟨.agg [.int .i64 (mtX t x y + 2 * a), .int .i64 (mtY t x y + 2 * b)], [], some (mvO t a b ∧ s10k x y)⟩
 | _ => none
def e95 : CtE
 | [.agg [.int .u8 t, .int .i64 a, .int .i64 b], .agg [.int .i64 x, .int .i64 y, .int .u8 q]] => some ⟨.agg [.int .i64 (mvX' t a x y), .int .i64 (mvY' t b x y), .int .u8 (mvQ t q)], [], some (mvO t a b ∧ vq x y q)⟩
 | _ => none
def tV95 : List (Nat × CtE) := [(134, e134), (135, e135), (136, e136)]
def TV95 : Tab := tabL tV95 noCh
def vlM (l : List Cl) : Prop := (∀ x ∈ l, vldC x = true ∧ 0 ≤ x.2.2) ∧ l.length ≤ 1024
def e40 : CtE
 | [.agg [.int .u8 t, .int .i64 a, .int .i64 b], .imm (.vals l) n _] => some ⟨cls (ofL (mvL t a b (unK l))), [], some (mvO t a b ∧ okL l n ∧ vlM (unK l))⟩
 | _ => none
def l40 (t a b_ : Int) (l : List Cl) : LpS L62 where
 ov b := [(6, .int .i64 b.i), (5, .imm (.vals b.o) b.n none)]
 bk b := []
 rd S := match aget S.t 6, aget S.t 5 with
  | some (.int _ i), some (.imm (.vals o) n _) => some ⟨i, o, n⟩
  | some (.int _ i), some .nils => some ⟨i, [], 0⟩
  | _, _ => none
 pre b := ∃ n : Nat, b.i = n ∧ n ≤ l.length ∧ b.o = flatK (ofL (mvL t a b_ (l.take n))) ∧ b.n = (ofL (mvL t a b_ (l.take n))).length
 mu b := l.length - b.i.toNat
def tV40 : List (Nat × CtE) := [(95, e95), (92, e92)]
def TV40 : Tab := tabL tV40 noCh
end Go.Proofs.YtmnaghfndigfkaaDoor.X
