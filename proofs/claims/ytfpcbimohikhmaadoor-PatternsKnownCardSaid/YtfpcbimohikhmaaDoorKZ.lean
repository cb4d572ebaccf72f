/-
 What the functions that turn a pattern over compute; the ends of a unit; the reference's back side.
-/
import Derived.Test.YtfpcbimohikhmaaDoorD5Z
import Derived.Test.YtfpcbimohikhmaaDoorPAZ
import Derived.KernelRfl

set_option maxRecDepth 1000000
set_option linter.unusedVariables false
namespace Go.Proofs.YtfpcbimohikhmaaDoor.X
open Go Go.Ab

/-! ### Sorting creases -/
noncomputable def Gs : GL := { g := fun _ => none, cm := cmOf Tryd.prog, strong := True }
def bndC (x : Cr) : Prop := -1000000 ≤ x.1 ∧ x.1 ≤ 1000000 ∧ 0 ≤ x.2.1 ∧ x.2.1 ≤ 2
instance (x : Cr) : Decidable (bndC x) := by unfold bndC; infer_instance
abbrev Cb : Type := { x : Cr // bndC x }
instance : Inhabited Cb := ⟨⟨(0, 0, 0), by decide⟩⟩
def RCb : RowS Cb where
 k := 3
 row x := [(.i64, x.1.1), (.u8, x.1.2.1), (.u8, x.1.2.2)]
 len _ := rfl
def cmpB (x y : Cb) : Int := ordI x.1.1 x.1.2.1 y.1.1 y.1.2.1
def toB (x : Cr) : Cb := if h : bndC x then ⟨x, h⟩ else default
noncomputable def srtC (l : List Cr) : List Cr := (sortL cmpB (l.map toB)).map (·.1)
def sT1' : List (Nat × CtE) := (61, e61) :: (62, e62) :: []
def ST1 : Tab := tabL sT1' noCh
/-! ### The back side -/
def mQ (q : Int) : Int := if q = 1 then 3 else if q = 3 then 1 else q
def mE (e : Int) : Int := if e = 1 then 2 else if e = 2 then 1 else e
def mId (w c : Int) : Int := 4 * (qY w c * w + (w - 1 - qX w c)) + mQ (qQ c)
def mrC (w h : Int) (x : Cr) : Cr := (min (mId w x.1) (nbI w h (mId w x.1) (mE x.2.1)), mE x.2.1, x.2.2)
def mrL (w h : Int) (l : List Cr) : List Cr := l.map (mrC w h)
def blkM (l : List AV) (n : Nat) : HO := .blk ⟨.vals l, 3, n, some n, none, true, false⟩
structure L24 where (i : Int) (l : List AV)
def l24 (w h : Int) (l : List Cr) : LpS L24 where
 ov c := [(26, .int .i64 c.i)]
 bk c := [(8256, blkM c.l l.length)]
 rd S := match aget S.t 26, aget S.h 8256 with
  | some (.int _ i), some (.blk ⟨.vals l, _, _, _, _, _, _⟩) => some ⟨i, l⟩
  | _, _ => none
 pre c := ∃ n : Nat, c.i = n ∧ n ≤ l.length ∧ c.l = flatC ((mrL w h l).take n ++ l.drop n)
 mu c := l.length - c.i.toNat
structure L2b where (c e : Int)
def j24 (c e : Int) : LpS L2b where
 ov b := [(12, .ptr 779 0)]
 bk b := [(779, .blk ⟨.cells [.int .i64 b.c, .int .u8 b.e], 2, 1, none, some false, true, true⟩)]
 rd S := match aget S.h 779 with
  | some (.blk ⟨.cells [.int _ c, .int _ e], _, _, _, _, _, _⟩) => some ⟨c, e⟩
  | _ => none
 pre b := b.c = c ∧ b.e = e
 mu b := 0
noncomputable def ch24 (w h : Int) (l : List Cr) (hp : List (Nat × HO)) (cv : AV) (args : List AV) : Option Cx :=
 match cv, args with
 | .fn g [] [], [.full id n, .fn g' [] []] => cond (Nat.beq g 59 && (Nat.beq g' 60 && Nat.beq id 8256)) (some ⟨.tup [], [(8256, blkM (flatC (srtC (mrL w h l))) n)], some (hp = [(8256, blkM (flatC (mrL w h l)) n)] ∧ n = (mrL w h l).length ∧ n < 1000000 ∧ ∀ x ∈ mrL w h l, bndC x)⟩) none
 | _, _ => none
def cR1' : List (Nat × CtE) := (25, e25) :: (56, e56) :: (57, e57) :: (58, e58) :: []
noncomputable def CR1 (w h : Int) (l : List Cr) : Tab := tabL cR1' (ch24 w h l)
noncomputable def trL (w h : Int) (l : List Cr) : List Cr := cond (chkI w h l == 0) (srtC (mrL w h (opL l))) []
/-! ### Ends of a unit -/
def shB (x y q e m : Int) : Bool := crX x q (m / 3) == crX (nbX x q e) (nbQ q e) (m % 3) && crY y q (m / 3) == crY (nbY y q e) (nbQ q e) (m % 3)
def shL (x y q e : Int) (n : Nat) : List Int := ((List.range n).map Int.ofNat).filter (shB x y q e)
def flatP (x y q : Int) (l : List Int) : List AV := l.flatMap fun m => [.int .i64 (crX x q (m / 3)), .int .i64 (crY y q (m / 3))]
structure L3b where (x y q : Int)
def j63 (x y q : Int) : LpS L3b where
 ov b := [(5, .ptr 145 0)]
 bk b := [(145, .blk ⟨.cells [.int .i64 b.x, .int .i64 b.y, .int .u8 b.q], 3, 1, none, some false, true, true⟩)]
 rd S := match aget S.h 145 with
  | some (.blk ⟨.cells [.int _ x, .int _ y, .int _ q], _, _, _, _, _, _⟩) => some ⟨x, y, q⟩
  | _ => none
 pre b := b.x = x ∧ b.y = y ∧ b.q = q
 mu b := 0
def l63 (x y q e : Int) : LpS L20 where
 ov b := [(9, .int .i64 b.i), (8, .full 9001 b.n)]
 bk b := [(9001, blkU b.l b.n)]
 rd S := match aget S.t 9, aget S.h 9001 with
  | some (.int _ i), some (.blk ⟨.vals l, _, n, _, _, _, _⟩) => some ⟨i, l, n⟩
  | _, _ => none
 pre b := ∃ k : Nat, b.i = k ∧ k ≤ 3 ∧ b.l = flatP x y q (shL x y q e (3 * k)) ∧ b.n = (shL x y q e (3 * k)).length
 mu b := 3 - b.i.toNat
def m63 (x y q e i : Int) : LpS L20 where
 ov b := [(10, .int .i64 b.i), (8, .full 9001 b.n)]
 bk b := [(9001, blkU b.l b.n)]
 rd S := match aget S.t 10, aget S.h 9001 with
  | some (.int _ i), some (.blk ⟨.vals l, _, n, _, _, _, _⟩) => some ⟨i, l, n⟩
  | _, _ => none
 pre b := ∃ k : Nat, b.i = k ∧ k ≤ 3 ∧ b.l = flatP x y q (shL x y q e (3 * i.toNat + k)) ∧ b.n = (shL x y q e (3 * i.toNat + k)).length
 mu b := 3 - b.i.toNat
/-- The shared corners. -/
def shX (x y q e : Int) (j : Nat) : Int := crX x q ((shL x y q e 9)[j]?.getD 0 / 3)
def shY (x y q e : Int) (j : Nat) : Int := crY y q ((shL x y q e 9)[j]?.getD 0 / 3)
def shS (x y q e : Int) : Bool := ltb (shX x y q e 1) (shX x y q e 0) || (shX x y q e 1 == shX x y q e 0 && ltb (shY x y q e 1) (shY x y q e 0))
def enV (w c e : Int) (j : Nat) : Int := match j with
 | 0 => bI (shS (qX w c) (qY w c) (qQ c) e) (shX (qX w c) (qY w c) (qQ c) e 1) (shX (qX w c) (qY w c) (qQ c) e 0)
 | 1 => bI (shS (qX w c) (qY w c) (qQ c) e) (shY (qX w c) (qY w c) (qQ c) e 1) (shY (qX w c) (qY w c) (qQ c) e 0)
 | 2 => bI (shS (qX w c) (qY w c) (qQ c) e) (shX (qX w c) (qY w c) (qQ c) e 0) (shX (qX w c) (qY w c) (qQ c) e 1)
 | _ => bI (shS (qX w c) (qY w c) (qQ c) e) (shY (qX w c) (qY w c) (qQ c) e 0) (shY (qX w c) (qY w c) (qQ c) e 1)
def e63 : CtE
 | [.agg [.int .i64 w, .int .i64 h], .agg [.int .i64 c, .int .u8 e]] => some ⟨.agg [.int .i64 (enV w c e 0), .int .i64 (enV w c e 1), .int .i64 (enV w c e 2), .int .i64 (enV w c e 3)], [], some (s5 w h ∧ 0 ≤ c ∧ c < 4 * w * h ∧ 0 ≤ e ∧ e ≤ 2)⟩
 | _ => none
def cE1' : List (Nat × CtE) := (55, e55) :: (76, e76) :: []
def CE1 : Tab := tabL cE1' noCh
/-! ### The reference's back side -/
def eU (w a : Int) (j : Nat) : Int := enV w (a / 3) (a % 3) j
def mt1 (w a b : Int) : Bool := (eU w b 0 == 2 * w - eU w a 0 && eU w b 1 == eU w a 1) && (eU w b 2 == 2 * w - eU w a 2 && eU w b 3 == eU w a 3)
def mt2 (w a b : Int) : Bool := (eU w b 2 == 2 * w - eU w a 0 && eU w b 3 == eU w a 1) && (eU w b 0 == 2 * w - eU w a 2 && eU w b 1 == eU w a 3)
def mtU (w a b : Int) : Bool := mt1 w a b || mt2 w a b
def stO (w : Int) (us : List Int) (a v : Int) (o : List Int) : List Int := List.zipWith (fun c x => bif mtU w a c then v else x) us o
def outO (w : Int) (us : List Int) : List (Int × Int) → List Int → List Int
 | [], o => o
 | (a, v) :: r, o => outO w us r (stO w us a v o)
def prO (us : List Int) (ks : List Int) : List (Int × Int) := us.zip (ks.map otK)
def l26 (w : Int) (us ks : List Int) : LpS L19 where
 ov b := [(6, .int .i64 b.i)]
 bk b := [(258, .blk ⟨.ints .u8 b.l, 1, us.length, some us.length, some false, true, false⟩)]
 rd S := match aget S.t 6, aget S.h 258 with
  | some (.int _ i), some (.blk ⟨.ints _ l, _, _, _, _, _, _⟩) => some ⟨i, l⟩
  | _, _ => none
 pre b := ∃ n : Nat, b.i = n ∧ n ≤ us.length ∧ b.l.length = us.length ∧ outO w us ((prO us ks).drop n) b.l = outO w us (prO us ks) (List.replicate us.length 0)
 mu b := us.length - b.i.toNat
def m26 (w : Int) (us ks o : List Int) (i : Int) : LpS L19 where
 ov b := [(8, .int .i64 b.i)]
 bk b := [(258, .blk ⟨.ints .u8 b.l, 1, us.length, some us.length, some false, true, false⟩)]
 rd S := match aget S.t 8, aget S.h 258 with
  | some (.int _ i), some (.blk ⟨.ints _ l, _, _, _, _, _, _⟩) => some ⟨i, l⟩
  | _, _ => none
 pre b := ∃ n : Nat, b.i = n ∧ n ≤ us.length ∧ b.l = (stO w us (us[i.toNat]?.getD 0) (otK (ks[i.toNat]?.getD 0)) o).take n ++ o.drop n
 mu b := us.length - b.i.toNat
def j26 (n : Nat) (x : List Int) : LpS VL where
 ov b := []
 bk b := [(258, .blk ⟨.ints .u8 b.v, 1, n, some n, some false, true, false⟩)]
 rd S := match aget S.h 258 with
  | some (.blk ⟨.ints _ l, _, _, _, _, _, _⟩) => some ⟨l⟩
  | _ => none
 pre b := b.v = x
 mu b := 0
def rtL (w h : Int) (l : List Cr) : List Cr := wthL (units w h) (outO w (units w h) (prO (units w h) (kindsL (units w h) l)) (List.replicate (units w h).length 0))
def e26 : CtE
 | [.agg [.int .i64 w, .int .i64 h, .imm (.vals a) n _]] => some ⟨.agg [.int .i64 w, .int .i64 h, .full 0 (rtL w h (unC a)).length], [blkC (flatC (rtL w h (unC a))) (rtL w h (unC a)).length], some (s5 w h ∧ okA a n)⟩
 | _ => none
def cE2' : List (Nat × CtE) := (63, e63) :: (28, e28) :: (23, e23) :: (19, e19u) :: (20, e20) :: []
def CE2 : Tab := tabL cE2' noCh
end Go.Proofs.YtfpcbimohikhmaaDoor.X

/-
 Mirror images of units of small sheets, by the kernel.
-/
set_option maxRecDepth 1000000
set_option linter.unusedVariables false
namespace Go.Proofs.YtfpcbimohikhmaaDoor.X
open Go Go.Ab

/-- The mirror image of a unit. -/
def mirU (w h c : Int) : Int := 3 * min (mId w (c / 3)) (nbI w h (mId w (c / 3)) (mE (c % 3))) + mE (c % 3)
def mir1 (w h a : Int) : Bool := (hasB w h (mirU w h a / 3) && ltb (mirU w h a / 3) (nbI w h (mirU w h a / 3) (mirU w h a % 3))) && (mirU w h (mirU w h a) == a)
def mir2 (w h : Int) (us : List Int) : Bool := us.all fun a => mir1 w h a && us.all fun b => cond (mtU w a b) (beqI b (mirU w h a)) (!beqI b (mirU w h a))
theorem k11 : mir2 1 1 (units 1 1) = true := by kernel_rfl
theorem k12 : mir2 1 2 (units 1 2) = true := by kernel_rfl
theorem k13 : mir2 1 3 (units 1 3) = true := by kernel_rfl
theorem k14 : mir2 1 4 (units 1 4) = true := by kernel_rfl
theorem k21 : mir2 2 1 (units 2 1) = true := by kernel_rfl
theorem k22 : mir2 2 2 (units 2 2) = true := by kernel_rfl
theorem k23 : mir2 2 3 (units 2 3) = true := by kernel_rfl
theorem k24 : mir2 2 4 (units 2 4) = true := by kernel_rfl
theorem k31 : mir2 3 1 (units 3 1) = true := by kernel_rfl
theorem k32 : mir2 3 2 (units 3 2) = true := by kernel_rfl
theorem k33 : mir2 3 3 (units 3 3) = true := by kernel_rfl
theorem k34 : mir2 3 4 (units 3 4) = true := by kernel_rfl
theorem k41 : mir2 4 1 (units 4 1) = true := by kernel_rfl
theorem k42 : mir2 4 2 (units 4 2) = true := by kernel_rfl
theorem k43 : mir2 4 3 (units 4 3) = true := by kernel_rfl
theorem k44 : mir2 4 4 (units 4 4) = true := by kernel_rfl
theorem k_all {w h : Int} (hw : 1 ≤ w ∧ w ≤ 4) (hh : 1 ≤ h ∧ h ≤ 4) : mir2 w h (units w h) = true := by
 obtain rfl | rfl | rfl | rfl : w = 1 ∨ w = 2 ∨ w = 3 ∨ w = 4 := by omega
 ·obtain rfl | rfl | rfl | rfl : h = 1 ∨ h = 2 ∨ h = 3 ∨ h = 4 := by omega
  ·exact k11
  ·exact k12
  ·exact k13
  ·exact k14
 ·obtain rfl | rfl | rfl | rfl : h = 1 ∨ h = 2 ∨ h = 3 ∨ h = 4 := by omega
  ·exact k21
  ·exact k22
  ·exact k23
  ·exact k24
 ·obtain rfl | rfl | rfl | rfl : h = 1 ∨ h = 2 ∨ h = 3 ∨ h = 4 := by omega
  ·exact k31
  ·exact k32
  ·exact k33
  ·exact k34
 ·obtain rfl | rfl | rfl | rfl : h = 1 ∨ h = 2 ∨ h = 3 ∨ h = 4 := by omega
  ·exact k41
  ·exact k42
  ·exact k43
  ·exact k44
end Go.Proofs.YtfpcbimohikhmaaDoor.X
