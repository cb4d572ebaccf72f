/-
 The laws on faces: Of, Sizes, Graph (but the chapter's examples).
-/
import Derived.Test.YtfpcbimohikhmaaDoorQYO7Z
import Derived.Test.YtfpcbimohikhmaaDoorQYC9Z
import Derived.Test.YtfpcbimohikhmaaDoorQYLZ
set_option maxRecDepth 1000000
set_option linter.unusedVariables false
set_option linter.unusedSimpArgs false
namespace Go.Proofs.YtfpcbimohikhmaaDoor.X
open Go Go.Ab

theorem _root_.Go.Ab.SpecP.res {P:Program}{G:GL}{f:Nat}{args:List AV}{v v':AV}{bs:List Blk}(h:SpecP P G f args v bs)(hr:∀w F ρ H x,RelV w F ρ H v x→RelV w F ρ H v' x):SpecP P G f args v' bs:=
 fun F w vs hm hv=>NextOk.mono (h F w vs hm hv) fun v w' ⟨F',ρ',a,b,c⟩=>⟨F',ρ',a,b,hr _ _ _ _ _ c⟩
theorem nil_tup {w:World}{F:Nat→Prop}{ρ:Nat→Option Nat}{H:Nat→Option HO}{e:AV}{c:Cont}{x:Value}(hc:c.size=0)(h:RelV w F ρ H (.tup [.nils,e]) x):RelV w F ρ H (.tup [.imm c 0 (some 0),e]) x:=by
 cases h with
 |imm _ _ hi=>
  cases hi with
  |tup l x hl=>
   generalize hz:x.toList=zs at hl
   cases hl with
   |cons _ _ _ _ h1 h2=>exact .imm _ _ (.tup _ _ (by rw[hz];exact .cons _ _ _ _ (RelI.nil_imm hc h1) h2))
 |tup l x hl=>
  generalize hz:x.toList=zs at hl
  cases hl with
  |cons _ _ _ _ h1 h2=>
   cases h1 with
   |imm _ _ hi=>exact .tup _ _ (by rw[hz];exact .cons _ _ _ _ (.imm _ _ (RelI.nil_imm hc hi)) h2)
theorem emB_true {F:List Int}{f:Int}(h:emB F f=true):celL F f=[]:=List.isEmpty_iff.1 h
theorem emB_false {F:List Int}{f:Int}(h:emB F f=false):celL F f≠[]:=fun e=>by unfold emB at h;rw[e]at h;cases h
theorem ct47c:CtOk Tryd.prog G 47 e47c:=by
 intro args r h hp
 unfold e47c at h
 split at h<;>cases h
 rename_i w h a n _ f
 obtain⟨hs,⟨h1,h2,h3⟩,hv⟩:=hp
 generalize unC a=l at*
 subst h1 h2
 cases he:emB (facL w h l) f
 ·exact(sp47v hs hv (emB_false he)).caps
 ·rw[emB_true he]
  exact((sp47n hs hv (emB_true he)).res fun _ _ _ _ _ h=>nil_tup rfl h).caps
theorem ct44c:CtOk Tryd.prog G 44 e44c:=by
 intro args r h hp
 unfold e44c at h
 split at h<;>cases h
 rename_i w h a n _ f
 obtain⟨hs,⟨h1,h2,h3⟩,hv⟩:=hp
 generalize unC a=l at*
 subst h1 h2
 cases he:emB (facL w h l) f
 ·exact(sp44 hs hv (emB_false he)).caps
 ·have h0:=ct44n [patV w h l,.int .i64 f] _ rfl ⟨hs,okV_of hs hv,by rw[unC_flat];exact emB_true he⟩
  exact SpecP.caps h0
theorem bEq {a b:Int}:(a==b)=true↔a=b:=beq_iff_eq
theorem T11ok:TabOk Tryd.prog G T11:=tabL_ok noCh_ok ⟨ct14,ct45,ct46v,ct47c,ct48t,ct44c,ct40,trivial⟩
theorem emB_no {w h:Int}{l:List Cr}(hs:s5 w h){j:Int}(h0:0≤j)(hj:j≤maxL (facL w h l)):emB (facL w h l) j=false:=by
 cases he:emB (facL w h l) j
 ·rfl
 ·exact absurd (emB_true he) (celL_ne l hs h0 hj)
theorem bne0 {b:Bool}:(bI b 7 0 !=0)=b:=by cases b<;>rfl
theorem bne7 {b:Bool}:(bI b 7 0 !=7)= !b:=by cases b<;>rfl
theorem bif_t (a b:Bool):(bif a then true else b)=(a||b):=by cases a<;>rfl
set_option maxHeartbeats 2000000 in
theorem sp11 (W H f:Int)(ks:List Int)(h1:0≤W∧W≤255)(h2:0≤H∧H≤255)(hu:u8s ks):SpecP Tryd.prog G 11 [patP W H ks,.int .i64 f] (.bool true) []:=by
 refine fnP_spec hcm hmx T11ok ok11 rfl (ob_o11 W H f ks) ?_
 dsimp -failIfUnchanged -proj -eta -iota -zeta only[rd,rdw,qs,ql,qx]
 have d1:=dim_ok h1
 have d2:=dim_ok h2
 have h4:s4 (dim W) (dim H):=⟨⟨d1.1,d1.2.1⟩,d2.1,d2.2.1⟩
 have hs:=s4_s5 h4
 have hv:=of_vP h1 h2 hu
 generalize ofL W H ks=l at*
 generalize dim W=w at*
 generalize dim H=h at*
 have kv:=okV_of hs hv
 simp only[unC_flat]
 obtain⟨n100,n4⟩:=nC_le hs
 have hl:=facL_len hs l
 have hle:=facL_le hs l
 have hmx:=fac_max l hs
 have hno:∀j:Int,j<0∨maxL (facL w h l)<j→celL (facL w h l) j=[]:=fun j hj=>celL_no l hs hj
 have hem:=fun j=>emB_no (l:=l) hs (j:=j)
 generalize facL w h l=F at*
 have hk2:maxL F+1=(kF F:Nat):=by unfold kF;omega
 have hst:=fun i=>celP_step F i
 have hcl:=fun i=>celP_len F i
 have hcc:=fun i=>celL_count F i
 have hbs:=fun i=>befL_step F i
 have hb0:=befL_zero (F:=F) (fun x hx=>(hle x hx).1)
 have hba:=befL_all (F:=F) (k:=(kF F:Nat)) (fun x hx=>by have:=hmx.2.2 x hx;omega)
 have hble:∀i:Int,befL F i≤F.length:=fun i=>List.countP_le_length
 simp only[gI_getD,ltb_iff,ltb_no,leb_iff,leb_no,inR_i64,and_true,true_and,ltn_iff,len'_iff,size_vals,size_ints,Cont.size,Int.toNat_natCast,bEq,beq_iff_eq,beq_eq_false_iff_ne,ne_eq,bne0,bne7,bif_t,bne_self_eq_false,szL_len,List.nil_append,Nat.zero_add]
 repeat' (with_reducible apply And.intro)
 any_goals first|omega|exact hs|exact kv.1|exact kv.2|exact kv|exact hu|exact⟨0,rfl,by omega,by rw[show((0:Nat):Int)=0 from rfl,hb0];rfl⟩|fail
 rintro⟨i,m⟩ ⟨n,hi,hn,hm⟩
 simp only at hi hm ⊢
 subst hi;subst hm
 simp only[Int.toNat_natCast]
 refine⟨fun hlt=>?_,fun hge=>?_⟩
 ·refine⟨⟨hs,kv⟩,⟨0,rfl,by omega,rfl,rfl⟩,?_⟩
  rintro⟨ik,lw,nw⟩ ⟨k,hi,hk,hlw,hnw⟩
  simp only at hi hlw hnw ⊢
  subst hi;subst hlw;subst hnw
  simp only[Int.toNat_natCast]
  have s1:=hst n k
  have s2:=hcl n k
  refine⟨fun hlt2=>?_,fun hge2=>?_⟩
  ·repeat' (with_reducible apply And.intro)
   any_goals omega
   ·intro he
    rw[if_pos he]at s1
    exact⟨by omega,by omega,⟨k+1,by omega,by omega,s1.symm,by rw[s1,List.length_append];rfl⟩,by omega⟩
   ·intro he
    rw[if_neg he,List.append_nil]at s1
    exact⟨by omega,⟨k+1,by omega,by omega,s1.symm,by rw[s1]⟩,by omega⟩
  ·have hkk:k=F.length:=by omega
   have hce:celP F n k=celL F n:=celL_nil hkk
   rw[hce]at*
   have s3:(celL F n).length≤100:=by have:=hcl n F.length;unfold celL;omega
   have e1:=hem n (by omega) (by omega)
   have e2:gI (szL F (kF F)) n=((F.count (n:Int):Nat):Int):=gI_szL (by omega)
   have e3:=hcc n
   have e4:=hbs n
   have e5:=hble n
   rw[e1,e2]
   repeat' (with_reducible apply And.intro)
   any_goals first|omega|rfl|exact trivial|(rw[e3];exact bne_self_eq_false _)|exact⟨n+1,by omega,by omega,by rw[show((n+1:Nat):Int)=(n:Int)+1 by omega,e4];omega⟩|fail
 ·have hnk:n=kF F:=by omega
  subst hnk
  rw[hba]
  by_cases hf:f<0∨(kF F:Int)≤f
  ·have he:=hno f (by omega)
   have he2:emB F f=true:=by unfold emB;rw[he];rfl
   have hb:(ltb f 0||leb (kF F:Int) f)=true:=by rw[Bool.or_eq_true,ltb_iff,leb_iff];exact hf
   simp[he,he2,hb,hs,kv,hl,h1.1,h1.2,h2.1,h2.2,hu]
  ·have hb:(ltb f 0||leb (kF F:Int) f)=false:=by
    cases hq:(ltb f 0||leb (kF F:Int) f)
    ·rfl
    ·rw[Bool.or_eq_true,ltb_iff,leb_iff]at hq;exact absurd hq hf
   simp[hb,hs,kv,hl,h1.1,h1.2,h2.1,h2.2,hu]
end Go.Proofs.YtfpcbimohikhmaaDoor.X
