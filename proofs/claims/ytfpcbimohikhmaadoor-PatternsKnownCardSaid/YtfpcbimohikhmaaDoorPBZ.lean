/-
 The plain law of patterns: the back side.
-/
import Derived.Test.YtfpcbimohikhmaaDoorPAZ
import Derived.Test.YtfpcbimohikhmaaDoorKZ
import Derived.Test.YtfpcbimohikhmaaDoorC12Z
set_option maxRecDepth 1000000
set_option linter.unusedVariables false
set_option linter.unusedSimpArgs false
namespace Go.Proofs.YtfpcbimohikhmaaDoor.X
open Go Go.Ab
/-! ### The back side -/
theorem k_un {w h a : Int} (hw : 1 ≤ w ∧ w ≤ 4) (hh : 1 ≤ h ∧ h ≤ 4) (ha : a ∈ units w h) : mirU w h a ∈ units w h ∧ mirU w h (mirU w h a) = a ∧ ∀ b ∈ units w h, mtU w a b = true ↔ b = mirU w h a := by
 have h1 := List.all_eq_true.1 (k_all hw hh) a ha
 rw [Bool.and_eq_true] at h1
 obtain ⟨h1, h2⟩ := h1
 unfold mir1 at h1
 simp only [Bool.and_eq_true, beq_iff_eq, ltb_iff] at h1
 refine ⟨units_of ⟨hw.1, by omega, hh.1, by omega⟩ h1.1.1 h1.1.2, h1.2, fun b hb => ?_⟩
 have h3 := List.all_eq_true.1 h2 b hb
 unfold beqI at h3
 cases hm : mtU w a b with
 | true =>
  rw [hm] at h3
  simp only [cond_true, beq_iff_eq] at h3
  exact ⟨fun _ => h3, fun _ => rfl⟩
 | false =>
  rw [hm] at h3
  simp only [cond_false, Bool.not_eq_true', beq_eq_false_iff_ne, ne_eq] at h3
  exact ⟨(fun e => by cases e), fun e => absurd e h3⟩
/-- A pattern by a function of kinds. -/
def patF (us : List Int) (f : Int → Int) : List Cr := (us.filter fun c => f c != 0).map fun c => (c / 3, c % 3, f c)
theorem wthL_map : ∀ (us : List Int) (f : Int → Int), wthL us (us.map f) = patF us f
 | [], f => rfl
 | c :: us, f => by
  have ih := wthL_map us f
  unfold patF at ih ⊢
  simp only [List.map_cons, wthL, List.filter_cons]
  by_cases hk : f c = 0
  ·rw [if_pos hk, if_neg (by simp [hk]), ih]
  ·rw [if_neg hk, if_pos (by simpa using hk), ih, List.map_cons]
theorem mr_patF (w h : Int) (us : List Int) (f : Int → Int) : mrL w h (patF us f) = (us.filter fun c => f c != 0).map fun c => (mirU w h c / 3, mirU w h c % 3, f c) := by
 unfold mrL patF
 rw [List.map_map]
 refine List.map_congr_left fun c _ => ?_
 have hm := mE_ok (e := c % 3) ⟨by omega, by omega⟩
 show (_, _, _) = (_, _, _)
 unfold mirU
 simp only [Prod.mk.injEq, and_true]
 omega
theorem mir_perm {w h : Int} (hw : 1 ≤ w ∧ w ≤ 4) (hh : 1 ≤ h ∧ h ≤ 4) : ((units w h).map (mirU w h)).Perm (units w h) := by
 have hnd : (units w h).Nodup := (units_asc w h).imp fun {a b} h => by omega
 rw [List.perm_ext_iff_of_nodup ?_ hnd]
 ·intro a
  rw [List.mem_map]
  constructor
  ·rintro ⟨b, hb, rfl⟩
   exact (k_un hw hh hb).1
  ·intro ha
   exact ⟨mirU w h a, (k_un hw hh ha).1, (k_un hw hh ha).2.1⟩
 ·rw [List.Nodup, List.pairwise_map]
  refine List.Pairwise.imp_of_mem ?_ hnd
  intro a b ha hb hne e
  exact hne ((k_un hw hh ha).2.1.symm.trans ((congrArg _ e).trans (k_un hw hh hb).2.1))
theorem mr_perm {w h : Int} (hw : 1 ≤ w ∧ w ≤ 4) (hh : 1 ≤ h ∧ h ≤ 4) (f : Int → Int) : (mrL w h (patF (units w h) f)).Perm (patF (units w h) fun c => f (mirU w h c)) := by
 have h1 := ((mir_perm hw hh).filter (fun c => f (mirU w h c) != 0)).map (fun c => (c / 3, c % 3, f (mirU w h c)))
 rw [List.filter_map, List.map_map] at h1
 rw [mr_patF]
 refine List.Perm.trans (List.Perm.of_eq ?_) h1
 have e1 : (units w h).filter ((fun c => f (mirU w h c) != 0) ∘ mirU w h) = (units w h).filter (fun c => f c != 0) := by
  refine List.filter_congr fun c hc => ?_
  simp only [Function.comp, (k_un hw hh hc).2.1]
 rw [e1]
 refine List.map_congr_left fun c hc => ?_
 have hc' := (List.mem_filter.1 hc).1
 simp only [Function.comp, (k_un hw hh hc').2.1]
theorem srt_eq {l m : List Cr} (hb : ∀ x ∈ l, bndC x) (hp : l.Perm m) (hm : m.Pairwise (fun x y => cdC x < cdC y)) : srtC l = m := by
 obtain ⟨h1, h2⟩ := srtC_ok hb
 have hpm := h1.trans hp
 refine List.Perm.eq_of_pairwise (le := fun x y => cdC x ≤ cdC y) ?_ (h2.imp fun {a b} h => by omega) (hm.imp fun {a b} h => by omega) hpm
 intro a b ha hb hab hba
 have ha' := hpm.mem_iff.1 ha
 have hcd : cdC a = cdC b := by omega
 -- codes are different
 obtain ⟨i, hi, rfl⟩ := List.mem_iff_getElem.1 ha'
 obtain ⟨j, hj, rfl⟩ := List.mem_iff_getElem.1 hb
 rcases Nat.lt_trichotomy i j with h | h | h
 ·have := List.pairwise_iff_getElem.1 hm i j hi hj h; omega
 ·subst h; rfl
 ·have := List.pairwise_iff_getElem.1 hm j i hj hi h; omega
/-- The kinds of the back side, by the reference. -/
theorem outO_eq {w : Int} {us : List Int} : ∀ {p : List (Int × Int)} {o : List Int}, o.length = us.length → outO w us p o = us.zipWith (fun c x => p.foldl (fun y q => bif mtU w q.1 c then q.2 else y) x) o
 | [], o, h => by
  show o = _
  simp only [List.foldl_nil]
  refine List.ext_getElem (by rw [List.length_zipWith]; omega) fun i h1 h2 => ?_
  rw [List.getElem_zipWith]
 | (a, v) :: r, o, h => by
  show outO w us r (stO w us a v o) = _
  rw [outO_eq (stO_len w us a v o h)]
  unfold stO
  refine List.ext_getElem (by simp only [List.length_zipWith]; omega) fun i h1 h2 => ?_
  simp only [List.getElem_zipWith, List.foldl_cons]
theorem fold_no {w c : Int} : ∀ {p : List (Int × Int)} {x : Int}, (∀ q ∈ p, mtU w q.1 c = false) → p.foldl (fun y q => bif mtU w q.1 c then q.2 else y) x = x
 | [], x, _ => rfl
 | q :: p, x, h => by
  rw [List.foldl_cons, h q (by simp), cond_false]
  exact fold_no fun q hq => h q (by simp [hq])
theorem fold_one {w c : Int} (f : Int → Int) {a0 : Int} : ∀ {us : List Int} {x : Int}, us.Nodup → (∀ a ∈ us, mtU w a c = true ↔ a = a0) → a0 ∈ us → (us.map fun a => (a, f a)).foldl (fun y q => bif mtU w q.1 c then q.2 else y) x = f a0
 | [], x, _, _, h => by simp at h
 | a :: us, x, hn, h, hm => by
  obtain ⟨h1, h2⟩ := List.nodup_cons.1 hn
  rw [List.map_cons, List.foldl_cons]
  by_cases ha : a = a0
  ·subst ha
   have : mtU w a c = true := (h a (by simp)).2 rfl
   simp only [this, cond_true]
   exact fold_no fun q hq => by
    obtain ⟨b, hb, rfl⟩ := List.mem_map.1 hq
    cases hbc : mtU w b c with
    | false => rfl
    | true =>
     have := (h b (by simp [hb])).1 hbc
     subst this
     exact absurd hb h1
  ·have : mtU w a c = false := by
    cases hbc : mtU w a c with
    | false => rfl
    | true => exact absurd ((h a (by simp)).1 hbc) ha
   simp only [this, cond_false]
   exact fold_one f h2 (fun b hb => h b (by simp [hb])) (by
    rcases List.mem_cons.1 hm with h | h
    ·exact absurd h.symm ha
    ·exact h)
theorem rt_eq {w h : Int} (hw : 1 ≤ w ∧ w ≤ 4) (hh : 1 ≤ h ∧ h ≤ 4) (l : List Cr) : rtL w h l = patF (units w h) fun c => otK (lookK (mirU w h c) 0 l) := by
 have hnd : (units w h).Nodup := (units_asc w h).imp fun {a b} h => by omega
 unfold rtL
 rw [outO_eq (by rw [List.length_replicate])]
 have hp : prO (units w h) (kindsL (units w h) l) = (units w h).map fun a => (a, otK (lookK a 0 l)) := by
  unfold prO kindsL
  rw [List.map_map]
  refine List.ext_getElem (by simp) fun k g1 g2 => ?_
  rw [List.getElem_map]
  exact (List.getElem_zip ..).trans (by rw [List.getElem_map]; rfl)
 rw [hp, ← wthL_map]
 congr 1
 refine List.ext_getElem (by rw [List.length_zipWith, List.length_replicate, List.length_map]; omega) fun i h1 h2 => ?_
 rw [List.getElem_zipWith, List.getElem_replicate, List.getElem_map]
 have hi : i < (units w h).length := by rw [List.length_map] at h2; exact h2
 have hm := List.getElem_mem hi
 refine fold_one (fun a => otK (lookK a 0 l)) hnd (fun a ha => ?_) (k_un hw hh hm).1
 rw [(k_un hw hh ha).2.2 _ hm]
 constructor
 ·intro e
  rw [e]; exact (k_un hw hh ha).2.1.symm
 ·intro e
  rw [e]; exact (k_un hw hh hm).2.1.symm
theorem pat_kinds {w h : Int} {l : List Cr} (hv : vP w h l) : l = patF (units w h) fun c => lookK c 0 l := by
 have := (vP_kinds hv).2
 unfold kindsL at this
 rw [wthL_map] at this
 exact this.symm
theorem patF_pw (w h : Int) (f : Int → Int) : (patF (units w h) f).Pairwise (fun x y => cdC x < cdC y) := by
 rw [← wthL_map]
 exact wthL_pw (units_asc w h)
theorem op_patF (us : List Int) (f : Int → Int) : opL (patF us f) = patF us fun c => otK (f c) := by
 rw [← wthL_map, opL_wthL, List.map_map]
 exact wthL_map us fun c => otK (f c)
/-- The back side is the reference's. -/
theorem tr_eq {w h : Int} {l : List Cr} (hw : 1 ≤ w ∧ w ≤ 4) (hh : 1 ≤ h ∧ h ≤ 4) (hv : vP w h l) : trL w h l = patF (units w h) (fun c => otK (lookK (mirU w h c) 0 l)) := by
 have hs : s5 w h := ⟨hw.1, by omega, hh.1, by omega⟩
 have hT : trL w h l = srtC (mrL w h (opL l)) := by unfold trL; rw [vP_chk hs hv]; rfl
 have hbd := mr_bnd (l := opL l) hs (fun x hx => op_unit (List.all_eq_true.2 fun x hx => vP_unit hs hv hx) hx) (op_edg (vP_edg hv))
 rw [hT]
 refine srt_eq hbd ?_ (patF_pw w h _)
 have h1 : opL l = patF (units w h) fun c => otK (lookK c 0 l) := by
  conv => lhs; rw [pat_kinds hv]
  rw [op_patF]
 rw [h1]
 exact mr_perm hw hh fun c => otK (lookK c 0 l)
theorem tr_rt {w h : Int} {l : List Cr} (hw : 1 ≤ w ∧ w ≤ 4) (hh : 1 ≤ h ∧ h ≤ 4) (hv : vP w h l) : trL w h l = rtL w h l := by rw [tr_eq hw hh hv, rt_eq hw hh]
theorem tr_vP {w h : Int} {l : List Cr} (hw : 1 ≤ w ∧ w ≤ 4) (hh : 1 ≤ h ∧ h ≤ 4) (hv : vP w h l) : vP w h (trL w h l) := by
 rw [tr_eq hw hh hv]
 obtain ⟨hk, -⟩ := vP_kinds hv
 refine ⟨(units w h).map fun c => otK (lookK (mirU w h c) 0 l), ⟨by rw [List.length_map], fun k hk' => ?_⟩, (wthL_map _ _).symm⟩
 obtain ⟨c, hc, rfl⟩ := List.mem_map.1 hk'
 refine ot3 (hk.2 _ ?_)
 unfold kindsL
 exact List.mem_map.2 ⟨_, (k_un hw hh hc).1, rfl⟩
theorem look_patF {w h c : Int} (f : Int → Int) (hc : c ∈ units w h) : lookK c 0 (patF (units w h) f) = f c := by
 have h1 := kinds_wthL (us := units w h) (ks := (units w h).map f) (units_asc w h) (by rw [List.length_map])
 rw [wthL_map] at h1
 unfold kindsL at h1
 obtain ⟨i, hi, rfl⟩ := List.mem_iff_getElem.1 hc
 have h2 : ((units w h).map fun c => lookK c 0 (patF (units w h) f))[i]'(by rw [List.length_map]; exact hi) = ((units w h).map f)[i]'(by rw [List.length_map]; exact hi) := by
  simp only [h1]
 rw [List.getElem_map, List.getElem_map] at h2
 exact h2
theorem patF_congr {us : List Int} {f g : Int → Int} (h : ∀ c ∈ us, f c = g c) : patF us f = patF us g := by
 unfold patF
 have e1 : us.filter (fun c => f c != 0) = us.filter (fun c => g c != 0) := List.filter_congr fun c hc => by rw [h c hc]
 rw [e1]
 refine List.map_congr_left fun c hc => ?_
 rw [h c (List.mem_filter.1 hc).1]
theorem tr_tr {w h : Int} {l : List Cr} (hw : 1 ≤ w ∧ w ≤ 4) (hh : 1 ≤ h ∧ h ≤ 4) (hv : vP w h l) : trL w h (trL w h l) = l := by
 rw [tr_eq hw hh (tr_vP hw hh hv), tr_eq hw hh hv]
 conv => rhs; rw [pat_kinds hv]
 refine patF_congr fun c hc => ?_
 rw [look_patF _ (k_un hw hh hc).1, otot, (k_un hw hh hc).2.1]
end Go.Proofs.YtfpcbimohikhmaaDoor.X
