/-
 Sorting creases: the library's contract, laid (by the kit's own command), under the closure's contract.
-/
import Derived.Test.YtfafinkgmhkdmaaGreatDoorVC8Z
set_option maxRecDepth 1000000
set_option linter.unusedVariables false
set_option linter.unusedSimpArgs false
namespace Go.Proofs.YtfafinkgmhkdmaaGreatDoor.X
open Go Go.Ab Go.Shelf Go.Proofs

def sortCr_ren:Go.Shelf.Ren:=⟨fun|6=>19|15=>50|14=>49|28=>82|29=>83|20=>74|21=>75|22=>76|23=>77|24=>78|25=>79|26=>80|27=>81|46=>113|47=>114|48=>115|49=>116|50=>117|57=>137|n=>n,fun|22=>32|24=>62|25=>67|3=>3|39=>101|0=>0|53=>138|55=>140|4=>4|46=>131|45=>130|50=>135|5=>5|9=>9|66=>180|70=>184|76=>199|77=>200|n=>n,fun|n=>n⟩
theorem sortCr:Go.Proofs.SlLaysF0.n6 Tryz.prog sortCr_ren:={
 mixed:=by kernel_rfl
 f6:=⟨Tryz.f19.name,by decide,Tryz.func19.trans (congrArg some (by kernel_rfl))⟩
 f14:=⟨Tryz.f49.name,by decide,Tryz.func49.trans (congrArg some (by kernel_rfl))⟩
 f15:=Tryz.func50.trans (congrArg some (by kernel_rfl))
 f20:=⟨Tryz.f74.name,by decide,Tryz.func74.trans (congrArg some (by kernel_rfl))⟩
 f21:=⟨Tryz.f75.name,by decide,Tryz.func75.trans (congrArg some (by kernel_rfl))⟩
 f22:=⟨Tryz.f76.name,by decide,Tryz.func76.trans (congrArg some (by kernel_rfl))⟩
 f23:=⟨Tryz.f77.name,by decide,Tryz.func77.trans (congrArg some (by kernel_rfl))⟩
 f24:=⟨Tryz.f78.name,by decide,Tryz.func78.trans (congrArg some (by kernel_rfl))⟩
 f25:=⟨Tryz.f79.name,by decide,Tryz.func79.trans (congrArg some (by kernel_rfl))⟩
 f26:=⟨Tryz.f80.name,by decide,Tryz.func80.trans (congrArg some (by kernel_rfl))⟩
 f27:=⟨Tryz.f81.name,by decide,Tryz.func81.trans (congrArg some (by kernel_rfl))⟩
 f28:=Tryz.func82.trans (congrArg some (by kernel_rfl))
 f29:=Tryz.func83.trans (congrArg some (by kernel_rfl))
 f46:=⟨Tryz.f113.name,by decide,Tryz.func113.trans (congrArg some (by kernel_rfl))⟩
 f47:=Tryz.func114.trans (congrArg some (by kernel_rfl))
 f48:=Tryz.func115.trans (congrArg some (by kernel_rfl))
 f49:=⟨Tryz.f116.name,by decide,Tryz.func116.trans (congrArg some (by kernel_rfl))⟩
 f50:=⟨Tryz.f117.name,by decide,Tryz.func117.trans (congrArg some (by kernel_rfl))⟩
 f57:=⟨Tryz.f137.name,by decide,Tryz.func137.trans (congrArg some (by kernel_rfl))⟩
 t0:=Tryz.underlying0
 a0:=Tryz.isAgg0
 z0:=Tryz.sizeOf0
 v0:=Tryz.zeroValue0
 t3:=Tryz.underlying3
 a3:=Tryz.isAgg3
 z3:=Tryz.sizeOf3
 v3:=Tryz.zeroValue3
 t4:=Tryz.underlying4
 a4:=Tryz.isAgg4
 z4:=Tryz.sizeOf4
 v4:=Tryz.zeroValue4
 t5:=Tryz.underlying5
 a5:=Tryz.isAgg5
 z5:=Tryz.sizeOf5
 v5:=Tryz.zeroValue5
 t9:=Tryz.underlying9
 a9:=Tryz.isAgg9
 z9:=Tryz.sizeOf9
 v9:=Tryz.zeroValue9
 t22:=Tryz.underlying32
 a22:=Tryz.isAgg32
 z22:=Tryz.sizeOf32
 v22:=Tryz.zeroValue32
 t25:=Tryz.underlying67
 a25:=Tryz.isAgg67
 z25:=Tryz.sizeOf67
 v25:=Tryz.zeroValue67
 t39:=Tryz.underlying101
 a39:=Tryz.isAgg101
 z39:=Tryz.sizeOf101
 v39:=Tryz.zeroValue101
 t45:=Tryz.underlying130
 a45:=Tryz.isAgg130
 z45:=Tryz.sizeOf130
 v45:=Tryz.zeroValue130
 t46:=Tryz.underlying131
 a46:=Tryz.isAgg131
 z46:=Tryz.sizeOf131
 v46:=Tryz.zeroValue131
 t50:=Tryz.underlying135
 a50:=Tryz.isAgg135
 z50:=Tryz.sizeOf135
 v50:=Tryz.zeroValue135
 t53:=Tryz.underlying138
 a53:=Tryz.isAgg138
 z53:=Tryz.sizeOf138
 v53:=Tryz.zeroValue138
 t55:=Tryz.underlying140
 a55:=Tryz.isAgg140
 z55:=Tryz.sizeOf140
 v55:=Tryz.zeroValue140
 t66:=Tryz.underlying180
 a66:=Tryz.isAgg180
 z66:=Tryz.sizeOf180
 v66:=Tryz.zeroValue180
 t70:=Tryz.underlying184
 a70:=Tryz.isAgg184
 z70:=Tryz.sizeOf184
 v70:=Tryz.zeroValue184
 t76:=Tryz.underlying199
 a76:=Tryz.isAgg199
 z76:=Tryz.sizeOf199
 v76:=Tryz.zeroValue199
 t77:=Tryz.underlying200
 a77:=Tryz.isAgg200
 z77:=Tryz.sizeOf200
 v77:=Tryz.zeroValue200}

theorem hcs:Gs.cm=cmOf Tryz.prog:=rfl
theorem S0ok:TabOk Tryz.prog Gs T0:=tabL_ok (l:=[]) noCh_ok trivial
theorem s75:CtOk Tryz.prog Gs 51 (eNaN .i64):=by
 intro args r h hp
 unfold eNaN at h
 split at h
 ·rw[cond_eq_ite]at h
  split at h
  ·rename_i hk
   cases beqK_ok hk
   cases h
   refine fnP_spec hcs hmx S0ok ok51 rfl (ob_os75 _) ?_
   simp
  ·cases h
 ·cases h
theorem s76:CtOk Tryz.prog Gs 52 (eNaN .u8):=by
 intro args r h hp
 unfold eNaN at h
 split at h
 ·rw[cond_eq_ite]at h
  split at h
  ·rename_i hk
   cases beqK_ok hk
   cases h
   refine fnP_spec hcs hmx S0ok ok52 rfl (ob_os76 _) ?_
   simp
  ·cases h
 ·cases h
theorem sAok:CtsOk Tryz.prog Gs sA':=⟨s75,s76,trivial⟩
theorem SAok:TabOk Tryz.prog Gs SA':=tabL_ok noCh_ok sAok
theorem s52:CtOk Tryz.prog Gs 22 (eCmpI .i64):=by
 intro args r h hp
 unfold eCmpI at h
 split at h
 ·rw[cond_eq_ite]at h
  split at h
  ·rename_i hk
   rw[Bool.and_eq_true]at hk
   cases beqK_ok hk.1;cases beqK_ok hk.2
   cases h
   exact fnP_spec hcs hmx SAok ok22 rfl (ob_os52 _ _) (cmp_ob _ _)
  ·cases h
 ·cases h
theorem s53:CtOk Tryz.prog Gs 23 (eCmpI .u8):=by
 intro args r h hp
 unfold eCmpI at h
 split at h
 ·rw[cond_eq_ite]at h
  split at h
  ·rename_i hk
   rw[Bool.and_eq_true]at hk
   cases beqK_ok hk.1;cases beqK_ok hk.2
   cases h
   exact fnP_spec hcs hmx SAok ok23 rfl (ob_os53 _ _) (cmp_ob _ _)
  ·cases h
 ·cases h
theorem s47:CtOk Tryz.prog Gs 21 e47:=by
 intro args r h hp
 unfold e47 at h
 split at h<;>cases h
 rename_i x y _
 have:SpecP Tryz.prog Gs 21 [.imm (.ints .i64 [x,y]) 2 none] (.int .i64 (orI x y)) []:=by
  refine fnP_spec hcs hmx S0ok ok21 rfl (ob_os47 x y) ?_
  by_cases hx:x=0
  ·by_cases hy:y=0<;>simp[orI,hx,hy]
  ·simp[orI,hx]
 exact this.caps
theorem SBok:TabOk Tryz.prog Gs SB':=tabL_ok noCh_ok ⟨s52,s53,s47,sAok⟩
theorem s51 (x y:Cr):SpecP Tryz.prog Gs 20 [crV x,crV y] (.int .i64 (cmpCr x y)) []:=by
 refine fnP_spec hcs hmx SBok ok20 rfl (ob_os51 x y) ?_
 simp
theorem c51 (W:World)(x y:Cr):Calls Tryz.prog 20 #[.agg (RCr.vl x).toArray,.agg (RCr.vl y).toArray] W fun e w'=>e=.returned (.int .i64 (cmpCr x y))∧∃q os',w'=Go.Sort.grow (W.drewN q) os':=
 calls_of_strong (G:=Gs) trivial (fun _=>rfl) (s51 x y) Tryz.func20 (by kernel_rfl) rfl W
  (.cons _ _ _ _ (.agg _ _ (.cons _ _ _ _ (.int _ _) (.cons _ _ _ _ (.int _ _) (.cons _ _ _ _ (.int _ _) .nil)))) (.cons _ _ _ _ (.agg _ _ (.cons _ _ _ _ (.int _ _) (.cons _ _ _ _ (.int _ _) (.cons _ _ _ _ (.int _ _) .nil)))) .nil))
theorem cmpCr_lt (x y:Cr):cmpCr x y<0↔x.1<y.1∨(x.1=y.1∧x.2.1<y.2.1):=by
 unfold cmpCr orI cmpI
 repeat' split
 all_goals omega
theorem swoCr:Go.Sort.SWO (ltOf cmpCr) where
 irrefl x:=by simp only[ltOf,decide_eq_false_iff_not,cmpCr_lt];omega
 trans x y z h1 h2:=by simp only[ltOf,decide_eq_true_eq,cmpCr_lt]at *; omega
 ntrans x y z h1 h2:=by simp only[ltOf,decide_eq_false_iff_not,cmpCr_lt]at *; omega
theorem sp50 {id:Nat}{d:List Cr}{cap:Option Nat}{nl:Option Bool}{bx:Bool}(h:d.length<1000000000):
  SpecD Tryz.prog G (.fn 19 [] []) [.full id d.length,.fn 20 [] []] [(id,.blk ⟨.vals (flatC d),3,d.length,cap,nl,true,bx⟩)] (.tup [])
   [(id,.blk ⟨.vals (flatC (sortL cmpCr d)),3,d.length,cap,nl,true,bx⟩)] []:=
 sortF_spec sortCr RCr (by decide) Tryz.isAgg62 Tryz.sizeOf62 cmpCr swoCr rfl Tryz.func19 (by kernel_rfl) rfl (fun args w=>callFunc_enter Tryz.func20 (by kernel_rfl) rfl args w) c51 h
theorem ch30ok (a k:List Int)(f:Int):ChOk Tryz.prog G (ch30 a k f):=by
 intro h cv args r hr hp
 unfold ch30 at hr
 split at hr
 ·rw[cond_eq_ite]at hr
  split at hr
  ·rename_i hc
   simp only[Bool.and_eq_true]at hc
   cases Nat.eq_of_beq_eq_true hc.1
   cases Nat.eq_of_beq_eq_true hc.2.1
   cases Nat.eq_of_beq_eq_true hc.2.2
   cases hr
   obtain⟨rfl,rfl,hz⟩:=hp
   exact sp50 hz
  ·cases hr
 ·cases hr
end Go.Proofs.YtfafinkgmhkdmaaGreatDoor.X
