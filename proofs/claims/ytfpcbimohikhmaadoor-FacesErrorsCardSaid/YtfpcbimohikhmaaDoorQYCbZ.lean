/-
 The law on lines.
-/
import Derived.Test.YtfpcbimohikhmaaDoorQYO8Z
import Derived.Test.YtfpcbimohikhmaaDoorQYLZ
set_option maxRecDepth 1000000
set_option linter.unusedVariables false
set_option linter.unusedSimpArgs false
namespace Go.Proofs.YtfpcbimohikhmaaDoor.X
open Go Go.Ab

/-! ### Kinds by lines -/
theorem look_ne {c:Int}{x:Cr}:∀{l:List Cr} {acc:Int},x∈l→(x.1=c/3∧x.2.1=c%3)→(∀y∈l,y.2.2≠0)→lookK c acc l≠0:=by
 intro l
 have key:∀(l:List Cr) (acc:Int),(∀y∈l,y.2.2≠0)→acc≠0→lookK c acc l≠0:=by
  intro l
  induction l with
  |nil=>intro acc _ h;exact h
  |cons y r ih=>
   intro acc hy h
   simp only[lookK]
   refine ih _ (fun z hz=>hy z (by simp[hz])) ?_
   split
   ·exact hy y (by simp)
   ·exact h
 induction l with
 |nil=>intro acc hx;simp at hx
 |cons y r ih=>
  intro acc hx hc hy
  simp only[lookK]
  rcases List.mem_cons.1 hx with rfl|hx
  ·rw[if_pos hc]
   exact key r _ (fun z hz=>hy z (by simp[hz])) (hy _ (by simp))
  ·exact ih hx hc (fun z hz=>hy z (by simp[hz]))
theorem wthL_cr {us ks:List Int}(ha:asc us)(hl:ks.length=us.length){j:Nat}(hj:j<us.length):crB (wthL us ks) us[j]=(ks[j]'(by omega) !=0):=by
 have h1:=kinds_wthL ha hl
 have h2:(kindsL us (wthL us ks))[j]? =some (lookK us[j] 0 (wthL us ks)):=by
  unfold kindsL;rw[List.getElem?_map,List.getElem?_eq_getElem hj];rfl
 rw[h1,List.getElem?_eq_getElem (by omega)]at h2
 have h2:ks[j]'(by omega)=lookK us[j] 0 (wthL us ks):=Option.some.inj h2
 rw[h2]
 cases hc:crB (wthL us ks) us[j]
 ·rw[lookK_none (fun x hx=>?_)]
  ·rfl
  ·intro hq
   have:crB (wthL us ks) us[j]=true:=by
    unfold crB
    rw[List.any_eq_true]
    exact⟨x,hx,by rw[hq.1,hq.2];simp⟩
   rw[this]at hc;cases hc
 ·unfold crB at hc
  rw[List.any_eq_true]at hc
  obtain⟨x,hx,hxe⟩:=hc
  simp only[Bool.and_eq_true,beq_iff_eq]at hxe
  obtain⟨m1,m2,m3,m4,m5⟩:=wthL_mem hx
  have hcd:cdC x=us[j]:=by unfold cdC;omega
  symm
  rw[bne_iff_ne]
  intro h0
  -- the kind that stands at the unit is not 0
  have hn:lookK us[j] 0 (wthL us ks)≠0:=look_ne hx hxe (fun y hy=>(wthL_mem hy).2.2.2.2)
  exact hn h0
end Go.Proofs.YtfpcbimohikhmaaDoor.X
