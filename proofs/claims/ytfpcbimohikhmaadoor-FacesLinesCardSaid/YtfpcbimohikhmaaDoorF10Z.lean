/- The law 'FacesLines' answers true for every sheet and list of bytes, and leaves its arguments as they are; no condition is laid on them. The variables that it may read hold what the program's text lays (the tied card). -/
import Derived.Test.YtfpcbimohikhmaaDoorQR3Z
import Derived.Test.YtfpcbimohikhmaaDoorQYCbZ
set_option maxRecDepth 1000000
set_option linter.unusedVariables false
namespace Go.Proofs.YtfpcbimohikhmaaDoor.f10
open Go Go.Ab Go.ChangeShapes Go.WideShapes Go.ChangeAt Go.RowKit X

theorem contract (H:Type)(enc:TypeId×Value→H)(W:World)(base:Nat)(args:Array Value)(ds gs:List (DataW H))(before:List MemPlace)
  (hval:∀(j:Nat) t v,Tryd.f10.params[j]? =some t→args[j]? =some v→Value.okWide Tryd.prog W .any base t v)
  (hW:DataW.Whole enc Tryd.prog Tryd.f10.params.toList Rows.facesLinesSpec.vars false W args.toList ds gs before) (hL:laidMetH Tryd.prog Rows.facesLinesRow.laid W):
  Calls Tryd.prog 10 args W fun e W'=>∃v,e=.returned v∧Rows.facesLinesSpec.post enc Tryd.prog Tryd.f10 false true false false W args v W':=by
 have hW':=hW
 have hlt:∀p∈before,p.block<W.heap.size:=fun p hp=>hW.lt p hp
 obtain⟨p,q,hA0,hV,rfl,hfz,hnd⟩:=hW
 have hA:DataW.TrodAll enc Tryd.prog W 0 (fun _=>true) true Tryd.f10.params.toList args.toList ds p:=hA0
 have hall:=hA
 rw[Tryd.params10]at hA hval
 obtain⟨v0,vs0,d0,ds0,p0,q0,hargs,rfl,rfl,h0,r0⟩:=trodAll_cons hA
 obtain⟨v1,vs1,d1,ds1,p1,q1,rfl,rfl,rfl,h1,r1⟩:=trodAll_cons r0
 obtain⟨rfl,rfl,rfl⟩:=trodAll_nil r1
 obtain rfl:args= #[v0,v1]:=by cases args;simp_all
 obtain⟨rfl,rfl⟩:=trodVars_none hV
 obtain⟨hr0,hc0⟩:=arg_rel shp65 (hval 0 65 v0 rfl rfl) h0
 obtain⟨c,l,e0,hk⟩:=conf_W hc0
 rw[e0]at hr0
 obtain⟨hr1,hc1⟩:=arg_rel shp22 (hval 1 22 v1 rfl rfl) h1
 obtain⟨ys,e1,hy⟩:=conf_bs hc1
 rw[e1]at hr1
 refine(calls_of_spec (sp10 c l ys hk.1 hk.2 hy) Tryd.func10 (by kernel_rfl) rfl (globs hL) (.cons _ _ _ _ hr0 (.cons _ _ _ _ hr1 (.nil)))).mono fun e W' ⟨he,hg⟩=>?_
 subst he
 exact⟨_,rfl,post_of_kept (pa:=p0++(p1++([]))) (pv:=[]) hW' (fun _ _ _=>trodAll_cons_mk (shut_bool Tryd.underlying4 _) trodAll_mk0)
  (fun sp hs=>hg.trodAll laidOut (by kernel_rfl) hall (fun z hz=>hlt z (List.mem_append_left _ hz)) (fun z hz=>hs z (List.mem_append_left _ hz))) (fun _ _=>rfl) (by simp) hg
  (ok_one (by kernel_rfl) rfl (okWide_bool_mk Tryd.underlying4 _))⟩

/-- The witness. -/
def args0:Array Value:= #[.agg #[.int .u8 0,.int .u8 0],.slice none 0 0]
theorem laid_met (os:Os):laidMetH Tryd.prog Rows.facesLinesRow.laid ((laidWorld os).forCall (fun _ _=>0) ⟨#[],args0,[]⟩).memory:=laid_met0 os
theorem reads (os:Os){H:Type}(enc:TypeId×Value→H):∃places,DataW.whole enc Tryd.prog ((laidWorld os).forCall (fun _ _=>0) ⟨#[],args0,[]⟩).memory Tryd.f10.params.toList Rows.facesLinesSpec.vars false args0.toList 8=some ([.agg [.lit (.int .u8 0),.lit (.int .u8 0)],.nil],[],places):=
 ⟨[],by kernel_rfl⟩

theorem lifted (os:Os)(started:os.Started)(H:Type)(enc:TypeId×Value→H)(F:Stop.Interp):
  ReturnsInHanded {} Tryd.checked os 10 .any ((OpenSpec.ofChange Rows.facesLinesSpec).preRow enc Tryd.prog Tryd.f10 Rows.facesLinesRow.domain false Rows.facesLinesRow.laid) (((OpenSpec.ofChange Rows.facesLinesSpec).at F).post enc Tryd.prog Tryd.f10 false true false false):=by
 obtain⟨places,hx⟩:=reads os enc
 refine returnsInHanded_of_row (C:=Tryd.checked) (s:=OpenSpec.ofChange Rows.facesLinesSpec) own started (by kernel_rfl) Tryd.func10
  (witness_row_atRef (enc:=enc) (C:=Tryd.checked) false (laidWorld os) args0 rfl (by kernel_rfl) (by kernel_rfl) (by kernel_rfl)
   (OpenSpec.preRow_of_cond 8 hx (by kernel_rfl) (fun k hk=>by cases hk) (by kernel_rfl) (laid_met os))) ?_
 intro W base args ds gs before hval hW _ _ _ hL _ _
 exact contract H enc W base args ds gs before hval hW hL

theorem said:Rows.FacesLinesSaid:=
 OpenClaim.holds_of_cond 10 Tryd.f10 rfl rfl rfl rfl rfl rfl rfl ⟨rfl,rfl,rfl,rfl,rfl⟩ rfl rfl rfl rfl rfl (by kernel_rfl) Tryd.func10 (by kernel_rfl)
  (of_decide_eq_true (by kernel_rfl)) (by unfold Func.isWrapper;first|(rw[if_pos (by decide +kernel)];kernel_rfl)|(rw[if_neg (by decide +kernel)];exact⟨rfl,rfl⟩))
  (fun os started H enc _ F=>by rw[OpenClaim.pre_eq_preRow];exact lifted os started H enc F)

theorem plain (f:FuncId)(fn:Func)(hf:Tryd.pinned.checked.prog.funcNamed "crimp/crimplaw08.FacesLines"=some f)(hfn:Tryd.pinned.checked.prog.funcs[f]? =some fn):
  false=Tryd.pinned.checked.prog.looks []∧∀(j:Nat) t,fn.params[j]? =some t→Tryd.pinned.checked.prog.wantsStandIn t=false:=by
 obtain rfl:f=10:=Option.some.inj ((show Tryd.prog.funcNamed "crimp/crimplaw08.FacesLines"=some 10 by kernel_rfl).symm.trans hf) |>.symm
 obtain rfl:fn=Tryd.f10:=(Option.some.inj (Tryd.func10.symm.trans hfn)).symm
 refine⟨by kernel_rfl,fun j t ht=>?_⟩
 rw[Tryd.params10]at ht
 have:t=65∨t=22:=by simpa using Array.mem_of_getElem? ht
 rcases this with rfl|rfl
 ·exact(show Tryd.prog.wantsStandIn 65=false by kernel_rfl)
 ·exact(show Tryd.prog.wantsStandIn 22=false by kernel_rfl)

/-- The card. -/
theorem card:Rows.FacesLinesCardSaid:=
 Claim7.holds_tied_plain_at .later [] _ _ _ _ said (fun _ h=>by cases h) (by kernel_rfl) (fun _ h=>by cases h) facesLines_row_tie rfl ⟨rfl,rfl⟩ (by kernel_rfl) rfl plain (by kernel_rfl)
end Go.Proofs.YtfpcbimohikhmaaDoor.f10
