/- The law 'TopOpened' answers true for every ring given as plain data, and leaves its argument as it is; no condition is laid on it. -/
import Derived.Test.YthiammkiobbclaaRZ
import Derived.Test.YthiammkiobbclaaC37Z
set_option maxRecDepth 1000000
set_option linter.unusedVariables false
namespace Go.Proofs.Ythiammkiobbclaa.f3
open Go Go.Ab Go.ChangeShapes Go.WideShapes Go.ChangeAt Go.RowKit X

theorem contract (H:Type)(enc:TypeId×Value→H)(W:World)(base:Nat)(args:Array Value)(ds gs:List (DataW H))(before:List MemPlace)
  (hval:∀(j:Nat) t v,Try.f3.params[j]? =some t→args[j]? =some v→Value.okWide Try.prog W .any base t v)
  (hW:DataW.Whole enc Try.prog Try.f3.params.toList Rows.topOpenedSpec.vars false W args.toList ds gs before) (hL:laidMetH Try.prog Rows.topOpenedRow.laid W):
  Calls Try.prog 3 args W fun e W'=>∃v,e=.returned v∧Rows.topOpenedSpec.post enc Try.prog Try.f3 false true false false W args v W':=by
 have hW':=hW
 have hlt:∀p∈before,p.block<W.heap.size:=fun p hp=>hW.lt p hp
 obtain⟨p,q,hA0,hV,rfl,hfz,hnd⟩:=hW
 have hA:DataW.TrodAll enc Try.prog W 0 (fun _=>true) true Try.f3.params.toList args.toList ds p:=hA0
 have hall:=hA
 rw[Try.params3]at hA hval
 obtain⟨v0,vs0,d0,ds0,p0,q0,hargs,rfl,rfl,h0,r0⟩:=trodAll_cons hA
 obtain⟨rfl,rfl,rfl⟩:=trodAll_nil r0
 obtain rfl:args= #[v0]:=by cases args;simp_all
 obtain⟨rfl,rfl⟩:=trodVars_none hV
 obtain⟨hr0,hc0⟩:=arg_rel shp26 (hval 0 26 v0 rfl rfl) h0
 obtain⟨ls,ks,x,e0,hl,hk,x0,x1⟩:=conf_N hc0
 rw[e0]at hr0
 refine(calls_of_spec (sp3 ls ks x hl hk x0 x1) Try.func3 (by kernel_rfl) rfl globs (.cons _ _ _ _ hr0 (.nil))).mono fun e W' ⟨he,hg⟩=>?_
 subst he
 exact⟨_,rfl,post_of_kept (pa:=p0++([])) (pv:=[]) hW' (fun _ _ _=>trodAll_cons_mk (shut_bool Try.underlying4 _) trodAll_mk0)
  (fun sp hs=>hg.trodAll laidOut (by kernel_rfl) hall (fun z hz=>hlt z (List.mem_append_left _ hz)) (fun z hz=>hs z (List.mem_append_left _ hz))) (fun _ _=>rfl) (by simp) hg
  (ok_one (by kernel_rfl) rfl (okWide_bool_mk Try.underlying4 _))⟩

/-- The witness. -/
def args0:Array Value:= #[.agg #[.slice none 0 0,.slice none 0 0,.int .u8 0]]
theorem laid_met (os:Os):laidMetH Try.prog Rows.topOpenedRow.laid ((laidWorld os).forCall (fun _ _=>0) ⟨#[],args0,[]⟩).memory:=laid_met0 os
theorem reads (os:Os){H:Type}(enc:TypeId×Value→H):∃places,DataW.whole enc Try.prog ((laidWorld os).forCall (fun _ _=>0) ⟨#[],args0,[]⟩).memory Try.f3.params.toList Rows.topOpenedSpec.vars false args0.toList 8=some ([.agg [.agg [.nil,.nil],.lit (.int .u8 0)]],[],places):=
 ⟨[],by kernel_rfl⟩

theorem lifted (os:Os)(started:os.Started)(H:Type)(enc:TypeId×Value→H)(F:Stop.Interp):
  ReturnsInHanded {} Try.checked os 3 .any ((OpenSpec.ofChange Rows.topOpenedSpec).preRow enc Try.prog Try.f3 Rows.topOpenedRow.domain false Rows.topOpenedRow.laid) (((OpenSpec.ofChange Rows.topOpenedSpec).at F).post enc Try.prog Try.f3 false true false false):=by
 obtain⟨places,hx⟩:=reads os enc
 refine returnsInHanded_of_row (C:=Try.checked) (s:=OpenSpec.ofChange Rows.topOpenedSpec) own started (by kernel_rfl) Try.func3
  (witness_row_at (enc:=enc) (C:=Try.checked) false (laidWorld os) args0 rfl (by kernel_rfl) (by kernel_rfl) (by kernel_rfl)
   (OpenSpec.preRow_of_cond 8 hx (by kernel_rfl) (fun k hk=>by cases hk) (by kernel_rfl) (laid_met os))) ?_
 intro W base args ds gs before hval hW _ _ _ hL _ _
 exact contract H enc W base args ds gs before hval hW hL

theorem said:Rows.TopOpenedSaid:=
 OpenClaim.holds_of_cond 3 Try.f3 rfl rfl rfl rfl rfl rfl rfl ⟨rfl,rfl,rfl,rfl,rfl⟩ rfl rfl rfl rfl rfl (by kernel_rfl) Try.func3 (by kernel_rfl)
  (of_decide_eq_true (by kernel_rfl)) (by unfold Func.isWrapper;first|(rw[if_pos (by decide +kernel)];kernel_rfl)|(rw[if_neg (by decide +kernel)];exact⟨rfl,rfl⟩))
  (fun os started H enc _ F=>by rw[OpenClaim.pre_eq_preRow];exact lifted os started H enc F)

end Go.Proofs.Ythiammkiobbclaa.f3
