/-
 What the functions that turn a pattern over compute; the ends of a unit; the reference's back side.
-/
import Derived.Test.YtfpcbimohikhmaaDoorD5Z
set_option maxRecDepth 1000000
set_option linter.unusedVariables false
namespace Go.Proofs.YtfpcbimohikhmaaDoor.X
open Go Go.Ab

/-! ### Sorting creases -/
noncomputable def Gs : GL := { g := fun _ => none, cm := cmOf Tryd.prog, strong := True }
def bndC (x : Cr) : Prop := -1000000 ≤ x.1 ∧ x.1 ≤ 1000000 ∧ 0 ≤ x.2.1 ∧ x.2.1 ≤ 2
instance (x : Cr) : Decidable (bndC x) := by unfold bndC; infer_instance
abbrev Cb : Type := { x : Cr // bndC x }
instance : Inhabited Cb := ⟨⟨(0, 0, 0), by decide⟩⟩
def RCb : RowS Cb where
 k := 3
 row x := [(.i64, x.1.1), (.u8, x.1.2.1), (.u8, x.1.2.2)]
 len _ := rfl
def cmpB (x y : Cb) : Int := ordI x.1.1 x.1.2.1 y.1.1 y.1.2.1
def toB (x : Cr) : Cb := if h : bndC x then ⟨x, h⟩ else default
noncomputable def srtC (l : List Cr) : List Cr := (sortL cmpB (l.map toB)).map (·.1)
def sT1' : List (Nat × CtE) := (61, e61) :: (62, e62) :: []
def ST1 : Tab := tabL sT1' noCh
/-! ### The back side -/
def mQ (q : Int) : Int := if q = 1 then 3 else if q = 3 then 1 else q
def mE (e : Int) : Int := if e = 1 then 2 else if e = 2 then 1 else e
def mId (w c : Int) : Int := 4 * (qY w c * w + (w - 1 - qX w c)) + mQ (qQ c)
def mrC (w h : Int) (x : Cr) : Cr := (min (mId w x.1) (nbI w h (mId w x.1) (mE x.2.1)), mE x.2.1, x.2.2)
def mrL (w h : Int) (l : List Cr) : List Cr := l.map (mrC w h)
def blkM (l : List AV) (n : Nat) : HO := .blk ⟨.vals l, 3, n, some n, none, true, false⟩
structure L24 where (i : Int) (l : List AV)
def l24 (w h : Int) (l : List Cr) : LpS L24 where
 ov c := [(26, .int .i64 c.i)]
 bk c := [(8256, blkM c.l l.length)]
 rd S := match aget S.t 26, aget S.h 8256 with
  | some (.int _ i), some (.blk ⟨.vals l, _, _, _, _, _, _⟩) => some ⟨i, l⟩
  | _, _ => none
 pre c := ∃ n : Nat, c.i = n ∧ n ≤ l.length ∧ c.l = flatC ((mrL w h l).take n ++ l.drop n)
 mu c := l.length - c.i.toNat
structure L2b where (c e : Int)
def j24 (c e : Int) : LpS L2b where
 ov b := [(12, .ptr 779 0)]
 bk b := [(779, .blk ⟨.cells [.int .i64 b.c, .int .u8 b.e], 2, 1, none, some false, true, true⟩)]
 rd S := match aget S.h 779 with
  | some (.blk ⟨.cells [.int _ c, .int _ e], _, _, _, _, _, _⟩) => some ⟨c, e⟩
  | _ => none
 pre b := b.c = c ∧ b.e = e
 mu b := 0
noncomputable def ch24 (w h : Int) (l : List Cr) (hp : List (Nat × HO)) (cv : AV) (args : List AV) : Option Cx :=
 match cv, args with
 | .fn g [] [], [.full id n, .fn g' [] []] => cond (Nat.beq g 59 && (Nat.beq g' 60 && Nat.beq id 8256)) (some ⟨.tup [], [(8256, blkM (flatC (srtC (mrL w h l))) n)], some (hp = [(8256, blkM (flatC (mrL w h l)) n)] ∧ n = (mrL w h l).length ∧ n < 1000000 ∧ ∀ x ∈ mrL w h l, bndC x)⟩) none
 | _, _ => none
def cR1' : List (Nat × CtE) := (25, e25) :: (56, e56) :: (57, e57) :: (58, e58) :: []
noncomputable def CR1 (w h : Int) (l : List Cr) : Tab := tabL cR1' (ch24 w h l)
noncomputable def trL (w h : Int) (l : List Cr) : List Cr := cond (chkI w h l == 0) (srtC (mrL w h (opL l))) []
/-! ### Ends of a unit -/
def shB (x y q e m : Int) : Bool := crX x q (m / 3) == crX (nbX x q e) (nbQ q e) (m % 3) && crY y q (m / 3) == crY (nbY y q e) (nbQ q e) (m % 3)
structure L3b where (x y q : Int)
/-! ### The reference's back side -/
end Go.Proofs.YtfpcbimohikhmaaDoor.X
