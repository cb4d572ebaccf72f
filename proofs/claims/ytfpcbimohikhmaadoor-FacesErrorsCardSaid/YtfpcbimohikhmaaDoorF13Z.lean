/- The law 'FacesErrors' answers true for every pattern as it is, and leaves its arguments as they are; no condition is laid on them. The variables that it may read hold what the program's text lays (the tied card). -/
import Derived.Test.YtfpcbimohikhmaaDoorQR2Z
import Derived.Test.YtfpcbimohikhmaaDoorQYCcZ
set_option maxRecDepth 1000000
set_option linter.unusedVariables false
namespace Go.Proofs.YtfpcbimohikhmaaDoor.f13
open Go Go.Ab Go.ChangeShapes Go.WideShapes Go.ChangeAt Go.RowKit X

theorem contract (H:Type)(enc:TypeId×Value→H)(W:World)(base:Nat)(args:Array Value)(ds gs:List (DataW H))(before:List MemPlace)
  (hval:∀(j:Nat) t v,Tryd.f13.params[j]? =some t→args[j]? =some v→Value.okWide Tryd.prog W .any base t v)
  (hW:DataW.Whole enc Tryd.prog Tryd.f13.params.toList Rows.facesErrorsSpec.vars false W args.toList ds gs before) (hL:laidMetH Tryd.prog Rows.facesErrorsRow.laid W):
  Calls Tryd.prog 13 args W fun e W'=>∃v,e=.returned v∧Rows.facesErrorsSpec.post enc Tryd.prog Tryd.f13 false true false false W args v W':=by
 have hW':=hW
 have hlt:∀p∈before,p.block<W.heap.size:=fun p hp=>hW.lt p hp
 obtain⟨p,q,hA0,hV,rfl,hfz,hnd⟩:=hW
 have hA:DataW.TrodAll enc Tryd.prog W 0 (fun _=>true) true Tryd.f13.params.toList args.toList ds p:=hA0
 have hall:=hA
 rw[Tryd.params13]at hA hval
 obtain⟨v0,vs0,d0,ds0,p0,q0,hargs,rfl,rfl,h0,r0⟩:=trodAll_cons hA
 obtain⟨rfl,rfl,rfl⟩:=trodAll_nil r0
 obtain rfl:args= #[v0]:=by cases args;simp_all
 obtain⟨rfl,rfl⟩:=trodVars_none hV
 obtain⟨hr0,hc0⟩:=arg_rel shp30 (hval 0 30 v0 rfl rfl) h0
 obtain⟨c,h,l,e0,hg⟩:=conf_P5 hc0
 rw[e0]at hr0
 refine(calls_of_spec (sp13 c h l hg) Tryd.func13 (by kernel_rfl) rfl (globs hL) (.cons _ _ _ _ hr0 (.nil))).mono fun e W' ⟨he,hg⟩=>?_
 subst he
 exact⟨_,rfl,post_of_kept (pa:=p0++([])) (pv:=[]) hW' (fun _ _ _=>trodAll_cons_mk (shut_bool Tryd.underlying4 _) trodAll_mk0)
  (fun sp hs=>hg.trodAll laidOut (by kernel_rfl) hall (fun z hz=>hlt z (List.mem_append_left _ hz)) (fun z hz=>hs z (List.mem_append_left _ hz))) (fun _ _=>rfl) (by simp) hg
  (ok_one (by kernel_rfl) rfl (okWide_bool_mk Tryd.underlying4 _))⟩

/-- The witness. -/
def args0:Array Value:= #[.agg #[.int .i64 0,.int .i64 0,.slice none 0 0]]
theorem laid_met (os:Os):laidMetH Tryd.prog Rows.facesErrorsRow.laid ((laidWorld os).forCall (fun _ _=>0) ⟨#[],args0,[]⟩).memory:=laid_met0 os
theorem reads (os:Os){H:Type}(enc:TypeId×Value→H):∃places,DataW.whole enc Tryd.prog ((laidWorld os).forCall (fun _ _=>0) ⟨#[],args0,[]⟩).memory Tryd.f13.params.toList Rows.facesErrorsSpec.vars false args0.toList 8=some ([.agg [.agg [.lit (.int .i64 0),.lit (.int .i64 0)],.nil]],[],places):=
 ⟨[],by kernel_rfl⟩

theorem lifted (os:Os)(started:os.Started)(H:Type)(enc:TypeId×Value→H)(F:Stop.Interp):
  ReturnsInHanded {} Tryd.checked os 13 .any ((OpenSpec.ofChange Rows.facesErrorsSpec).preRow enc Tryd.prog Tryd.f13 Rows.facesErrorsRow.domain false Rows.facesErrorsRow.laid) (((OpenSpec.ofChange Rows.facesErrorsSpec).at F).post enc Tryd.prog Tryd.f13 false true false false):=by
 obtain⟨places,hx⟩:=reads os enc
 refine returnsInHanded_of_row (C:=Tryd.checked) (s:=OpenSpec.ofChange Rows.facesErrorsSpec) own started (by kernel_rfl) Tryd.func13
  (witness_row_atRef (enc:=enc) (C:=Tryd.checked) false (laidWorld os) args0 rfl (by kernel_rfl) (by kernel_rfl) (by kernel_rfl)
   (OpenSpec.preRow_of_cond 8 hx (by kernel_rfl) (fun k hk=>by cases hk) (by kernel_rfl) (laid_met os))) ?_
 intro W base args ds gs before hval hW _ _ _ hL _ _
 exact contract H enc W base args ds gs before hval hW hL

theorem said:Rows.FacesErrorsSaid:=
 OpenClaim.holds_of_cond 13 Tryd.f13 rfl rfl rfl rfl rfl rfl rfl ⟨rfl,rfl,rfl,rfl,rfl⟩ rfl rfl rfl rfl rfl (by kernel_rfl) Tryd.func13 (by kernel_rfl)
  (of_decide_eq_true (by kernel_rfl)) (by unfold Func.isWrapper;first|(rw[if_pos (by decide +kernel)];kernel_rfl)|(rw[if_neg (by decide +kernel)];exact⟨rfl,rfl⟩))
  (fun os started H enc _ F=>by rw[OpenClaim.pre_eq_preRow];exact lifted os started H enc F)

theorem plain (f:FuncId)(fn:Func)(hf:Tryd.pinned.checked.prog.funcNamed "crimp/crimplaw08.FacesErrors"=some f)(hfn:Tryd.pinned.checked.prog.funcs[f]? =some fn):
  false=Tryd.pinned.checked.prog.looks []∧∀(j:Nat) t,fn.params[j]? =some t→Tryd.pinned.checked.prog.wantsStandIn t=false:=by
 obtain rfl:f=13:=Option.some.inj ((show Tryd.prog.funcNamed "crimp/crimplaw08.FacesErrors"=some 13 by kernel_rfl).symm.trans hf) |>.symm
 obtain rfl:fn=Tryd.f13:=(Option.some.inj (Tryd.func13.symm.trans hfn)).symm
 refine⟨by kernel_rfl,fun j t ht=>?_⟩
 rw[Tryd.params13]at ht
 have:t=30:=by simpa using Array.mem_of_getElem? ht
 rcases this with rfl
 ·exact(show Tryd.prog.wantsStandIn 30=false by kernel_rfl)

/-- The card. -/
theorem card:Rows.FacesErrorsCardSaid:=
 Claim7.holds_tied_plain_at .later [] _ _ _ _ said (fun _ h=>by cases h) (by kernel_rfl) (fun _ h=>by cases h) facesErrors_row_tie rfl ⟨rfl,rfl⟩ (by kernel_rfl) rfl plain (by kernel_rfl)
end Go.Proofs.YtfpcbimohikhmaaDoor.f13
