/-
 The closed law on fans answers true.
-/
import Derived.Test.YtfafinkgmhkdmaaGreatDoorFC4Z
import Derived.Test.YtfafinkgmhkdmaaGreatDoorVC9Z
import Derived.Test.YtfafinkgmhkdmaaGreatDoorVC13Z
set_option maxRecDepth 1000000
set_option linter.unusedVariables false
set_option linter.unusedSimpArgs false
namespace Go.Proofs.YtfafinkgmhkdmaaGreatDoor.X
open Go Go.Ab
theorem D45:A06 Tryz.prog G 3 eK3:=by
 intro args r h hp;unfold eK3 at h;split at h<;>cases h;obtain⟨⟨h1,rfl,h2⟩,h3⟩:=hp;exact(sp3 _ _ _ _ h1 h3 h2).caps
theorem C9Z:A06 Tryz.prog G 13 C72:=by
 intro args r h hp;unfold C72 at h;split at h<;>cases h;obtain⟨h1,rfl,h2⟩:=hp;exact(D4R _ _ _ _ h2).caps
theorem C90:A06 Tryz.prog G 14 C73:=by
 intro args r h hp;unfold C73 at h;split at h<;>cases h;obtain⟨h1,rfl,h2⟩:=hp;exact(D4O _ _ _ h2).caps
theorem C5t {f:Nat}{c l:Int}{rest:List AV}{r:AV}{bs:List Blk}(h:SpecP Tryz.prog G f (fV c l []::rest) r bs):SpecP Tryz.prog G f (.agg [.int .u8 c,.int .u8 l,.nils]::rest) r bs:=by
 intro F w vs hm hv;refine h F w vs hm ?_;generalize vs.toList=xs at hv ⊢;cases hv with
 |cons _ _ x ys h1 h2=>
  refine .cons _ _ _ _ ?_ h2;cases h1 with
  |agg _ x h1=>
   refine .agg _ _ ?_;generalize x.toList=zs at h1 ⊢;cases h1 with
   |cons _ _ _ _ a1 b1=>cases b1 with
    |cons _ _ _ _ a2 b2=>cases b2 with
     |cons _ _ _ _ a3 b3=>
      cases a3;exact .cons _ _ _ _ a1 (.cons _ _ _ _ a2 (.cons _ _ _ _ (.imm0 _ _ _ rfl (fun _ e=>by cases e)) b3))
theorem C91:A06 Tryz.prog G 15 C74:=by
 intro args r h hp;unfold C74 at h;split at h
 ·cases h;obtain⟨h1,rfl,h2⟩:=hp;exact(C5s _ _ _ _ h2).caps
 ·cases h;exact C5t (C5s _ _ [] _ (fun x hx=>by cases hx))
 ·cases h
theorem C92:TabOk Tryz.prog G T4k:=A0m A0s ⟨D45,C9Z,C90,C91,ct27,trivial⟩
theorem sp4:SpecP Tryz.prog G 4 [] (.bool true) []:=by
 refine A0d hcm hmx C92 ok4 rfl C3s ?_;have hw:∀n:Int,0<=IntKind.u8.wrap n/\IntKind.u8.wrap n<=255:=fun n=>by rw[IntKind.wrap_u8];omega
 have hk:∀a b c d e:Int,okL (IntKind.u8.wrap a) [IntKind.u8.wrap b,IntKind.u8.wrap c,IntKind.u8.wrap d,IntKind.u8.wrap e,IntKind.u8.wrap a] 5:=fun a b c d e=>⟨hw a,rfl,fun x hx=>by
  simp only[List.mem_cons,List.mem_nil_iff,or_false]at hx;rcases hx with rfl|rfl|rfl|rfl|rfl<;>exact hw _⟩
 refine⟨rfl,rfl,⟨0,by decide,by decide,by decide,by decide⟩,?_⟩;rintro⟨k,n⟩ ⟨j,hn,hj,h0,h1⟩;simp only at hn h0 h1;subst hn;simp only[A0n,A0K,A0w];refine⟨fun hlt=>?_,fun hge=>⟨trivial,trivial⟩⟩;have d3:=Int.tdiv_nonneg h0 (by decide:(0:Int)<=3);have d7:=Int.tdiv_nonneg h0 (by decide:(0:Int)<=7);have d11:=Int.tdiv_nonneg h0 (by decide:(0:Int)<=11);have e3:=Int.tdiv_le_self 3 h0;have e7:=Int.tdiv_le_self 7 h0;have e11:=Int.tdiv_le_self 11 h0;have m0:=Int.tmod_nonneg 100003 (by omega:0<=k*31+11);have m1:=Int.tmod_lt_of_pos (k*31+11) (by decide:(0:Int)<100003)
 repeat' (with_reducible apply And.intro)
 all_goals first
  |omega
  |exact hk _ _ _ _ _
  |exact(hw k).1
  |exact(hw k).2
  |exact⟨j+1,by omega,by omega,m0,m1⟩
  |exact True.intro
  |rfl
end Go.Proofs.YtfafinkgmhkdmaaGreatDoor.X
