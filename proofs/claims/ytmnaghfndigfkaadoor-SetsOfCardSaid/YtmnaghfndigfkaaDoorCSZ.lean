/-
 Sorting cells: the library's contract, laid (by the kit's own command), under the comparison's contract.
-/
import Derived.Test.YtmnaghfndigfkaaDoorOMZ
import Derived.Test.YtmnaghfndigfkaaDoorP3Z
import Derived.Test.YtmnaghfndigfkaaDoorDNZ
import Derived.Shelf.SlSortCmp.NoneTotal
set_option maxRecDepth 1000000
set_option linter.unusedVariables false
set_option linter.unusedSimpArgs false
namespace Go.Proofs.YtmnaghfndigfkaaDoor.X
open Go Go.Ab Go.Shelf Go.Proofs

theorem hcs : Gs.cm = cmOf Tryd.prog := rfl
theorem S0ok : TabOk Tryd.prog Gs T0 := tabL_ok (l := []) noCh_ok trivial
theorem sct202 : CtOk Tryd.prog Gs 202 e202 := by
 intro args r h hp
 unfold e202 at h
 split at h <;> cases h
 refine fnP_spec hcs hmx S0ok ok202 rfl (ob_os202 _) ?_
 simp
theorem sTB1ok : TabOk Tryd.prog Gs TB1 := tabL_ok noCh_ok ⟨sct202, trivial⟩
theorem sct163 : CtOk Tryd.prog Gs 163 e163 := by
 intro args r h hp
 unfold e163 at h
 split at h <;> cases h
 exact fnP_spec hcs hmx sTB1ok ok163 rfl (ob_os163 _ _) (cmp_ob _ _)
theorem sTB2ok : TabOk Tryd.prog Gs TB2 := tabL_ok noCh_ok ⟨sct163, sct202, trivial⟩
theorem sct127 : CtOk Tryd.prog Gs 127 e127 := by
 intro args r h hp
 unfold e127 at h
 split at h <;> cases h
 rename_i a b c d e f n _
 subst hp
 exact (fnP_spec hcs hmx sTB2ok ok127 rfl (ob_os127 a b c d e f) (ord_ob a b c d e f) : SpecP Tryd.prog Gs 127 _ _ []).caps
theorem sTB3ok : TabOk Tryd.prog Gs TB3 := tabL_ok noCh_ok ⟨sct127, sct163, sct202, trivial⟩
theorem sct79 : CtOk Tryd.prog Gs 79 e79 := by
 intro args r h hp
 unfold e79 at h
 split at h <;> cases h
 refine fnP_spec hcs hmx sTB3ok ok79 rfl (ob_os79 _ _ _ _ _ _) ?_
 obtain ⟨h0, h1, h2, h3⟩ := hp
 simp only [inR_i64, and_true, true_and]
 exact ⟨by omega, by omega, rfl⟩
def sortCl_ren : Go.Shelf.Ren := ⟨fun | 6 => 94 | 15 => 126 | 14 => 133 | 28 => 161 | 29 => 162 | 20 => 167 | 21 => 168 | 22 => 169 | 23 => 170 | 24 => 171 | 25 => 172 | 26 => 173 | 27 => 174 | 46 => 203 | 47 => 198 | 48 => 199 | 49 => 204 | 50 => 205 | 57 => 210 | n => n, fun | 22 => 59 | 24 => 25 | 25 => 124 | 3 => 3 | 39 => 139 | 0 => 0 | 53 => 227 | 55 => 229 | 4 => 4 | 46 => 221 | 45 => 220 | 50 => 122 | 5 => 5 | 9 => 9 | 66 => 251 | 70 => 255 | 76 => 262 | 77 => 160 | n => n, fun | n => n⟩
theorem sortCl : Go.Proofs.SlLaysF0.n6 Tryd.prog sortCl_ren := {
 mixed := by kernel_rfl
 f6 := ⟨Tryd.f94.name, by decide, Tryd.func94.trans (congrArg some (by kernel_rfl))⟩
 f14 := ⟨Tryd.f133.name, by decide, Tryd.func133.trans (congrArg some (by kernel_rfl))⟩
 f15 := Tryd.func126.trans (congrArg some (by kernel_rfl))
 f20 := ⟨Tryd.f167.name, by decide, Tryd.func167.trans (congrArg some (by kernel_rfl))⟩
 f21 := ⟨Tryd.f168.name, by decide, Tryd.func168.trans (congrArg some (by kernel_rfl))⟩
 f22 := ⟨Tryd.f169.name, by decide, Tryd.func169.trans (congrArg some (by kernel_rfl))⟩
 f23 := ⟨Tryd.f170.name, by decide, Tryd.func170.trans (congrArg some (by kernel_rfl))⟩
 f24 := ⟨Tryd.f171.name, by decide, Tryd.func171.trans (congrArg some (by kernel_rfl))⟩
 f25 := ⟨Tryd.f172.name, by decide, Tryd.func172.trans (congrArg some (by kernel_rfl))⟩
 f26 := ⟨Tryd.f173.name, by decide, Tryd.func173.trans (congrArg some (by kernel_rfl))⟩
 f27 := ⟨Tryd.f174.name, by decide, Tryd.func174.trans (congrArg some (by kernel_rfl))⟩
 f28 := Tryd.func161.trans (congrArg some (by kernel_rfl))
 f29 := Tryd.func162.trans (congrArg some (by kernel_rfl))
 f46 := ⟨Tryd.f203.name, by decide, Tryd.func203.trans (congrArg some (by kernel_rfl))⟩
 f47 := Tryd.func198.trans (congrArg some (by kernel_rfl))
 f48 := Tryd.func199.trans (congrArg some (by kernel_rfl))
 f49 := ⟨Tryd.f204.name, by decide, Tryd.func204.trans (congrArg some (by kernel_rfl))⟩
 f50 := ⟨Tryd.f205.name, by decide, Tryd.func205.trans (congrArg some (by kernel_rfl))⟩
 f57 := ⟨Tryd.f210.name, by decide, Tryd.func210.trans (congrArg some (by kernel_rfl))⟩
 t0 := Tryd.underlying0
 a0 := Tryd.isAgg0
 z0 := Tryd.sizeOf0
 v0 := Tryd.zeroValue0
 t3 := Tryd.underlying3
 a3 := Tryd.isAgg3
 z3 := Tryd.sizeOf3
 v3 := Tryd.zeroValue3
 t4 := Tryd.underlying4
 a4 := Tryd.isAgg4
 z4 := Tryd.sizeOf4
 v4 := Tryd.zeroValue4
 t5 := Tryd.underlying5
 a5 := Tryd.isAgg5
 z5 := Tryd.sizeOf5
 v5 := Tryd.zeroValue5
 t9 := Tryd.underlying9
 a9 := Tryd.isAgg9
 z9 := Tryd.sizeOf9
 v9 := Tryd.zeroValue9
 t22 := Tryd.underlying59
 a22 := Tryd.isAgg59
 z22 := Tryd.sizeOf59
 v22 := Tryd.zeroValue59
 t25 := Tryd.underlying124
 a25 := Tryd.isAgg124
 z25 := Tryd.sizeOf124
 v25 := Tryd.zeroValue124
 t39 := Tryd.underlying139
 a39 := Tryd.isAgg139
 z39 := Tryd.sizeOf139
 v39 := Tryd.zeroValue139
 t45 := Tryd.underlying220
 a45 := Tryd.isAgg220
 z45 := Tryd.sizeOf220
 v45 := Tryd.zeroValue220
 t46 := Tryd.underlying221
 a46 := Tryd.isAgg221
 z46 := Tryd.sizeOf221
 v46 := Tryd.zeroValue221
 t50 := Tryd.underlying122
 a50 := Tryd.isAgg122
 z50 := Tryd.sizeOf122
 v50 := Tryd.zeroValue122
 t53 := Tryd.underlying227
 a53 := Tryd.isAgg227
 z53 := Tryd.sizeOf227
 v53 := Tryd.zeroValue227
 t55 := Tryd.underlying229
 a55 := Tryd.isAgg229
 z55 := Tryd.sizeOf229
 v55 := Tryd.zeroValue229
 t66 := Tryd.underlying251
 a66 := Tryd.isAgg251
 z66 := Tryd.sizeOf251
 v66 := Tryd.zeroValue251
 t70 := Tryd.underlying255
 a70 := Tryd.isAgg255
 z70 := Tryd.sizeOf255
 v70 := Tryd.zeroValue255
 t76 := Tryd.underlying262
 a76 := Tryd.isAgg262
 z76 := Tryd.sizeOf262
 v76 := Tryd.zeroValue262
 t77 := Tryd.underlying160
 a77 := Tryd.isAgg160
 z77 := Tryd.sizeOf160
 v77 := Tryd.zeroValue160 }

theorem clq_q (c : Cl) : 0 ≤ (clq c).2.2 ∧ (clq c).2.2 ≤ 255 := by
 have h1 := Int.emod_nonneg c.2.2 (by decide : (256 : Int) ≠ 0)
 have h2 := Int.emod_lt_of_pos c.2.2 (by decide : (0 : Int) < 256)
 show 0 ≤ c.2.2 % 256 ∧ c.2.2 % 256 ≤ 255
 omega
theorem clq_ok {c : Cl} (h0 : 0 ≤ c.2.2) (h1 : c.2.2 ≤ 255) : clq c = c := by
 obtain ⟨x, y, q⟩ := c
 show (x, y, q % 256) = (x, y, q)
 simp only at h0 h1
 rw [Int.emod_eq_of_lt h0 (by omega)]
theorem s79 (x y : Cl) : SpecP Tryd.prog Gs 79 [.agg (RCq.av x), .agg (RCq.av y)] (.int .i64 (cmpQ x y)) [] :=
 sct79 [.agg (RCq.av x), .agg (RCq.av y)] _ rfl (by exact ⟨(clq_q x).1, (clq_q x).2, (clq_q y).1, (clq_q y).2⟩)
theorem c79 (W : World) (x y : Cl) : Calls Tryd.prog 79 #[.agg (RCq.vl x).toArray, .agg (RCq.vl y).toArray] W fun e w' => e = .returned (.int .i64 (cmpQ x y)) ∧ ∃ q os', w' = Go.Sort.grow (W.drewN q) os' :=
 calls_of_strong (G := Gs) trivial (fun _ => rfl) (s79 x y) Tryd.func79 (by kernel_rfl) rfl W
  (.cons _ _ _ _ (.agg _ _ (.cons _ _ _ _ (.int _ _) (.cons _ _ _ _ (.int _ _) (.cons _ _ _ _ (.int _ _) .nil)))) (.cons _ _ _ _ (.agg _ _ (.cons _ _ _ _ (.int _ _) (.cons _ _ _ _ (.int _ _) (.cons _ _ _ _ (.int _ _) .nil)))) .nil))
theorem swoQ : Go.Sort.SWO (ltOf cmpQ) where
 irrefl x := swoC.irrefl (clq x)
 trans x y z h1 h2 := swoC.trans (clq x) (clq y) (clq z) h1 h2
 ntrans x y z h1 h2 := swoC.ntrans (clq x) (clq y) (clq z) h1 h2
theorem flatQ : ∀ {d : List Cl}, okQ d → d.flatMap RCq.av = flatK d
 | [], _ => rfl
 | c :: r, h => by
  have hc := h c (List.mem_cons_self ..)
  have ih := flatQ (d := r) fun x hx => h x (List.mem_cons_of_mem _ hx)
  have e : RCq.av c = RCl.av c := by
   show [AV.int .i64 c.1, AV.int .i64 c.2.1, AV.int .u8 (c.2.2 % 256)] = [AV.int .i64 c.1, AV.int .i64 c.2.1, AV.int .u8 c.2.2]
   rw [Int.emod_eq_of_lt hc.1 (by omega)]
  unfold flatK at ih ⊢
  rw [List.flatMap_cons, List.flatMap_cons, ih, e]
theorem srtQ_perm (d : List Cl) : (srtQ d).Perm d := (sortL_perm swoQ d).1
theorem srtQ_q {d : List Cl} (h : okQ d) : okQ (srtQ d) := fun x hx => h x ((srtQ_perm d).mem_iff.1 hx)
theorem srtQ_len (d : List Cl) : (srtQ d).length = d.length := (srtQ_perm d).length_eq
theorem sp94 {id : Nat} {d : List Cl} {cap : Option Nat} {nl : Option Bool} {bx : Bool} (h : d.length < 1000000000) (hq : okQ d) :
  SpecD Tryd.prog G (.fn 94 [] []) [.full id d.length, .fn 79 [] []] [(id, .blk ⟨.vals (flatK d), 3, d.length, cap, nl, true, bx⟩)] (.tup [])
   [(id, .blk ⟨.vals (flatK (srtQ d)), 3, d.length, cap, nl, true, bx⟩)] [] := by
 have := sortF_spec (G := G) sortCl RCq (by decide) Tryd.isAgg25 Tryd.sizeOf25 cmpQ swoQ rfl Tryd.func94 (by kernel_rfl) rfl (fun args w => callFunc_enter Tryd.func79 (by kernel_rfl) rfl args w) c79 (id := id) (d := d) (cap := cap) (nl := nl) (bx := bx) h
 rw [flatQ hq] at this
 rw [show (sortL cmpQ d).flatMap RCq.av = flatK (srtQ d) from flatQ (srtQ_q hq)] at this
 exact this
/-- Sorted, and without what follows itself: the set. -/
theorem cptQ_of {d : List Cl} (hq : okQ d) : cptL (srtQ d) = ofL d := by
 obtain ⟨p1, p2⟩ := sortL_perm swoQ d
 obtain ⟨o1, o2⟩ := ofL_srt d
 have hs := srtQ_q hq
 have p2 : (srtQ d).Pairwise fun x y => ¬ cmpC y x < 0 := by
  refine List.Pairwise.imp_of_mem (fun {a b} ha hb h => ?_) p2
  have h1 := hs a ha
  have h2 := hs b hb
  unfold cmpQ at h
  rw [clq_ok h1.1 h1.2, clq_ok h2.1 h2.2] at h
  exact h
 refine srt_ext (cptL_srt p2) o1 fun x => ?_
 rw [cptL_mem, (srtQ_perm d).mem_iff, o2]
end Go.Proofs.YtmnaghfndigfkaaDoor.X
