/-
 Strips: the contract of their ends.
-/
import Derived.Test.YthiammkiobbclaaO30Z
import Derived.Test.YthiammkiobbclaaC31Z
import Derived.Test.YthiammkiobbclaaC24Z
import Derived.Test.YthiammkiobbclaaO35Z

set_option maxRecDepth 1000000
set_option linter.unusedVariables false
set_option linter.unusedSimpArgs false
namespace Go.Proofs.Ythiammkiobbclaa.X
open Go Go.Ab

theorem st90:CtOk Try.prog G 90 s90:=by
 intro args r h hp
 unfold s90 at h
 split at h<;>cases h
 rename_i a n _ k m _
 obtain⟨rfl,rfl⟩:=hp
 exact(fnP_spec hcm hmx T0ok ok90 rfl (ob_s90 a k) (by repeat (first|exact trivial|exact rfl|apply And.intro)):SpecP Try.prog G 90 [.agg [.imm (.ints .i64 a) a.length none,.imm (.ints .u8 k) k.length none]] _ []).caps
theorem sy86 {a k L:List Int}{x:Int}(h8:a.length≤8)(hL:L.length<a.length+1):SpecD Try.prog G (.yld 9004) [.int .i64 x] (hE a k L) (.bool true) (wsE (a.length+1) (L++[x])) []:=by
 refine fnY_spec hcm hmx T0ok (ob_y_86 a k L x) ?_
 dsimp -failIfUnchanged -proj -eta -iota -zeta only[rd,rdw,qs,ql,qx]
 simp only[len'_iff,List.length_append,List.length_cons,List.length_nil,and_true,true_and,eq_self_iff_true,Nat.zero_add]
 omega
theorem chEok {a k:List Int}:ChOk Try.prog G (chE a k):=by
 intro h cv args r hr hp
 unfold chE at hr
 split at hr
 ·rename_i id x L _ _ _ _ _ _ hL
  rw[cond_eq_ite]at hr
  split at hr
  ·rename_i hid
   cases hr
   obtain⟨rfl,u,v⟩:=hp
   obtain rfl:=Nat.eq_of_beq_eq_true hid
   exact sy86 v u
  ·cases hr
 ·cases hr
theorem rays_nxt {a:List Int}{m:Nat}(h:m<a.length):gR (raysL a) (m+1)=gR (raysL a) m+a[m]?.getD 0*(1-2*(m:Int).tmod 2):=by
 have hst:=congrArg (fun l=>l[m+1]?.getD 0) (rays_step h)
 have hl:=raysL_len a
 have htl:((raysL a).take (m+1)).length=m+1:=by rw[List.length_take];omega
 rw[List.getElem?_take_of_lt (by omega),List.getElem?_append_right (by omega),htl,Nat.sub_self,List.getElem?_take_of_lt (by omega)]at hst
 exact hst
theorem rays_in {a:List Int}(hA:∀x∈a,1≤x∧x≤64)(h8:a.length≤8){m:Nat}(h:m≤a.length): -512≤gR (raysL a) m∧gR (raysL a) m≤512:=by
 have hl:=raysL_len a
 have hm:m<(raysL a).length:=by omega
 show -512≤(raysL a)[m]?.getD 0∧(raysL a)[m]?.getD 0≤512
 rw[List.getElem?_eq_getElem hm]
 exact rays_bd2 hA h8 _ (List.getElem_mem hm)
theorem sp91 {a k:List Int}(hs:okStrip a k):SpecD Try.prog G (.fn 91 [] []) [.yld 9004,.iptr (stpF a k)] (hE a k []) (.tup []) (wsE (a.length+1) (raysL a)) []:=by
 refine fnD_spec hcm hmx (tabL_ok chEok trivial:TabOk Try.prog G (TE91 a k)) ok91 rfl (ob_d_91 a k) ?_
 dsimp -failIfUnchanged -proj -eta -iota -zeta only[rd,rdw,qs,ql,qx]
 obtain⟨hA,h8,hk,hkk⟩:=hs
 have hl:=raysL_len a
 simp only[inR_i64,and_true,true_and,leb_iff,ltb_iff,ltb_no,ltn_iff,len'_iff,iI,iL,size_ints,List.length_drop,eq_self_iff_true,List.getD_eq_getElem?_getD,List.getElem?_drop,Nat.add_zero]
 refine⟨⟨by omega,h8⟩,⟨0,rfl,by omega,by cases a<;>rfl,by cases a<;>rfl⟩,?_⟩
 rintro⟨i,x,L⟩ ⟨m,hi,hm,hL,hx⟩
 simp only at hi hL hx ⊢
 subst hi hL hx
 simp only[Int.toNat_natCast]
 have htl:((raysL a).take (m+1)).length=m+1:=by rw[List.length_take];omega
 refine⟨fun hlt=>?_,fun hge=>?_⟩
 ·have g:m<a.length:=by omega
  have hst:=rays_step g
  rw[List.getElem?_take_of_lt (by omega)]at hst
  have hn:=rays_nxt g
  have b1:=rays_in hA h8 (m:=m) (by omega)
  have b2:=rays_in hA h8 (m:=m+1) (by omega)
  rw[show(((m+1:Nat):Int))=(m:Int)+1 from rfl,hn]at b2
  have hg:(raysL a)[m]?.getD 0=gR (raysL a) m:=rfl
  rw[hg]at hst
  have ha:=ang_get hA g
  have ht:(m:Int).tmod 2=0∨(m:Int).tmod 2=1:=by rw[Int.tmod_eq_emod_of_nonneg (by omega)];omega
  rw[← hst,← hn]at*
  have hex:∃m_1:Nat,(m:Int)+1=m_1∧m_1≤a.length∧(raysL a).take (m+2)=(raysL a).take (m_1+1)∧gR (raysL a) (m+1)=gR (raysL a) m_1:=⟨m+1,by omega,by omega,rfl,rfl⟩
  rcases ht with ht|ht
  ·rw[ht]at*
   repeat' apply And.intro
   all_goals first|omega|exact hex
  ·rw[ht]at*
   repeat' apply And.intro
   all_goals first|omega|exact hex
 ·rw[List.take_of_length_le (by omega)]
  repeat' apply And.intro
  all_goals first|rfl|omega
theorem ch91ok {a k:List Int}:ChOk Try.prog G (ch91 a k):=by
 intro h cv args r hr hp
 unfold ch91 at hr
 split at hr
 ·rename_i f id a' n k' m
  rw[cond_eq_ite]at hr
  split at hr
  ·rename_i hc
   simp only[Bool.and_eq_true]at hc
   obtain⟨h1,h2⟩:=hc
   obtain rfl:=Nat.eq_of_beq_eq_true h1
   obtain rfl:=Nat.eq_of_beq_eq_true h2
   cases hr
   obtain⟨rfl,rfl,rfl,rfl,rfl,hs⟩:=hp
   exact sp91 hs
  ·cases hr
 ·cases hr
theorem st86:CtOk Try.prog G 86 s86:=by
 intro args r h hp
 unfold s86 at h
 split at h<;>cases h
 rename_i a n _ k m _
 obtain⟨rfl,rfl,hs⟩:=hp
 refine(fnP_spec hcm hmx (tabL_ok ch91ok ⟨st33,st90,trivial⟩:TabOk Try.prog G (TE86 a k)) ok86 rfl (ob_s86 a k) ?_:SpecP Try.prog G 86 [.agg [.imm (.ints .i64 a) a.length none,.imm (.ints .u8 k) k.length none]] _ []).caps
 dsimp -failIfUnchanged -proj -eta -iota -zeta only[rd,rdw,qs,ql,qx]
 have h8:=hs.2.1
 simp only[inR_i64,leb_iff,iI,and_true,true_and,eq_self_iff_true]
 exact⟨hs,by omega,by omega,rfl,hs⟩
end Go.Proofs.Ythiammkiobbclaa.X

/-
 Strips on their line: the contract.
-/
set_option maxRecDepth 1000000
set_option linter.unusedVariables false
set_option linter.unusedSimpArgs false
namespace Go.Proofs.Ythiammkiobbclaa.X
open Go Go.Ab

theorem st72:CtOk Try.prog G 72 s72:=by
 intro args r h hp
 unfold s72 at h
 split at h<;>cases h
 rename_i a n _ k m _
 obtain⟨rfl,rfl,hs⟩:=hp
 refine(fnP_spec hcm hmx (tabL_ok noCh_ok ⟨st86,trivial⟩:TabOk Try.prog G U72) ok72 rfl (ob_s72 a k) ?_:SpecP Try.prog G 72 [.agg [.imm (.ints .i64 a) a.length none,.imm (.ints .u8 k) k.length none]] _ []).caps
 dsimp -failIfUnchanged -proj -eta -iota -zeta only[rd,rdw,qs,ql,qx]
 simp only[iI,and_true,true_and,eq_self_iff_true]
 exact hs
end Go.Proofs.Ythiammkiobbclaa.X
/-
 Strips: the contracts of what is listed, of what crosses.
-/
set_option maxRecDepth 1000000
set_option linter.unusedVariables false
set_option linter.unusedSimpArgs false
namespace Go.Proofs.Ythiammkiobbclaa.X
open Go Go.Ab

theorem strip_caps {f:Nat}{a k:List Int}{l:List AV}{c1 c2:Option Nat}{v:AV}{bs:List Blk}(h:SpecP Try.prog G f (.agg [.imm (.ints .i64 a) a.length none,.imm (.ints .u8 k) k.length none]::capsL l) v bs):
  SpecP Try.prog G f (.agg [.imm (.ints .i64 a) a.length c1,.imm (.ints .u8 k) k.length c2]::l) v bs:=
 (h:SpecP Try.prog G f (capsL (.agg [.imm (.ints .i64 a) a.length c1,.imm (.ints .u8 k) k.length c2]::l)) v bs).caps
theorem U53ok:TabOk Try.prog G U53:=tabL_ok noCh_ok ⟨st72,ct39,trivial⟩
theorem st53:CtOk Try.prog G 53 s53:=by
 intro args r h hp
 unfold s53 at h
 split at h<;>cases h
 rename_i a n _ k m _ o q _
 obtain⟨rfl,rfl,rfl,hs,ho⟩:=hp
 refine strip_caps (fnP_spec hcm hmx U53ok ok53 rfl (ob_s53 a k o) ?_)
 dsimp -failIfUnchanged -proj -eta -iota -zeta only[rd,rdw,qs,ql,qx]
 have hl:=perm_len ho
 have h8:=hs.2.1
 simp only[hl,inR_i64,and_true,true_and,leb_iff,ltb_iff,ltb_no,ltn_iff,iI,eq_self_iff_true,implies_true,bne_self_eq_false]
 refine⟨hs,⟨0,rfl,by omega⟩,?_⟩
 rintro⟨i⟩ ⟨m,hi,hm⟩
 simp only at hi ⊢
 subst hi
 intro hlt
 have hmem:memB o (m:Int)=true:=memB_true.2 (ho.mem_iff.2 (idO_mem.2 (by omega)))
 rw[hmem]
 exact⟨by omega,rfl,by omega,⟨m+1,by omega,by omega⟩,by omega⟩
/-! ### Rounds -/
theorem U70ok:TabOk Try.prog G U70:=tabL_ok noCh_ok ⟨st74,st75,st84,st85,trivial⟩
theorem sy70a {a k r:List Int}{x0 x1 x2 x3 x4 x5 x6 x7 i t x:Int}{b:Bool}(h8:k.length≤7)(i0:0≤i)(i1:i<k.length)(u:0≤x)(v:x<k.length)(h:s2B [x0,x1,x2,x3,x4,x5,x6,x7] i x=false):
  SpecD Try.prog G (.yld 9002) [.int .i64 x] (sH70 9002 a k r x0 x1 x2 x3 x4 x5 x6 x7 i t b) (.bool true) [] []:=by
 refine fnY_spec hcm hmx U70ok (ob_y_70a a k r x0 x1 x2 x3 x4 x5 x6 x7 i t x b) ?_
 dsimp -failIfUnchanged -proj -eta -iota -zeta only[rd,rdw,qs,ql,qx]
 have g1:=z32get (x0:=x0) (x1:=x1) (x2:=x2) (x3:=x3) (x4:=x4) (x5:=x5) (x6:=x6) (x7:=x7) u (by omega)
 have g2:=z32get (x0:=x0) (x1:=x1) (x2:=x2) (x3:=x3) (x4:=x4) (x5:=x5) (x6:=x6) (x7:=x7) (c:=x+1) (by omega) (by omega)
 unfold s2B at h
 generalize hX:[x0,x1,x2,x3,x4,x5,x6,x7]=X at*
 simp only[g1,g2,gR0,inR_i64,and_true,true_and,leb_iff,ltb_iff,ltb_no,ltn_iff,iI,size_ints,List.length_drop,imp_self,implies_true,eq_self_iff_true]
 generalize btS X i (gR X x)=p at*
 generalize btS X i (gR X (x+1))=q at*
 generalize hc:(x !=i)=c at*
 cases c<;>cases p<;>cases q<;>simp at h ⊢<;>omega
theorem sy70b {a k r:List Int}{x0 x1 x2 x3 x4 x5 x6 x7 i t x:Int}{b:Bool}(h8:k.length≤7)(i0:0≤i)(i1:i<k.length)(u:0≤x)(v:x<k.length)(h:s2B [x0,x1,x2,x3,x4,x5,x6,x7] i x=false):
  SpecD Try.prog G (.yld 9003) [.int .i64 x] (sH70 9003 a k r x0 x1 x2 x3 x4 x5 x6 x7 i t b) (.bool true) (wsZ a k r x0 x1 x2 x3 x4 x5 x6 x7 i t b false) []:=by
 refine fnY_spec hcm hmx U70ok (ob_y_70b a k r x0 x1 x2 x3 x4 x5 x6 x7 i t x b) ?_
 dsimp -failIfUnchanged -proj -eta -iota -zeta only[rd,rdw,qs,ql,qx]
 have g1:=z32get (x0:=x0) (x1:=x1) (x2:=x2) (x3:=x3) (x4:=x4) (x5:=x5) (x6:=x6) (x7:=x7) u (by omega)
 have g2:=z32get (x0:=x0) (x1:=x1) (x2:=x2) (x3:=x3) (x4:=x4) (x5:=x5) (x6:=x6) (x7:=x7) (c:=x+1) (by omega) (by omega)
 unfold s2B at h
 generalize hX:[x0,x1,x2,x3,x4,x5,x6,x7]=X at*
 simp only[g1,g2,gR0,inR_i64,and_true,true_and,leb_iff,ltb_iff,ltb_no,ltn_iff,iI,size_ints,List.length_drop,imp_self,implies_true,eq_self_iff_true]
 generalize btS X i (gR X x)=p at*
 generalize btS X i (gR X (x+1))=q at*
 generalize hc:(x !=i)=c at*
 cases c<;>cases p<;>cases q<;>simp at h ⊢<;>omega
theorem sy70c {a k r:List Int}{x0 x1 x2 x3 x4 x5 x6 x7 i t x:Int}{b:Bool}(h8:k.length≤7)(i0:0≤i)(i1:i<k.length)(u:0≤x)(v:x<k.length)(h:s2B [x0,x1,x2,x3,x4,x5,x6,x7] i x=true):
  SpecD Try.prog G (.yld 9003) [.int .i64 x] (sH70 9003 a k r x0 x1 x2 x3 x4 x5 x6 x7 i t b) (.bool false) (wsZ a k r x0 x1 x2 x3 x4 x5 x6 x7 i t b true) []:=by
 refine fnY_spec hcm hmx U70ok (ob_y_70c a k r x0 x1 x2 x3 x4 x5 x6 x7 i t x b) ?_
 dsimp -failIfUnchanged -proj -eta -iota -zeta only[rd,rdw,qs,ql,qx]
 have g1:=z32get (x0:=x0) (x1:=x1) (x2:=x2) (x3:=x3) (x4:=x4) (x5:=x5) (x6:=x6) (x7:=x7) u (by omega)
 have g2:=z32get (x0:=x0) (x1:=x1) (x2:=x2) (x3:=x3) (x4:=x4) (x5:=x5) (x6:=x6) (x7:=x7) (c:=x+1) (by omega) (by omega)
 unfold s2B at h
 generalize hX:[x0,x1,x2,x3,x4,x5,x6,x7]=X at*
 simp only[g1,g2,gR0,inR_i64,and_true,true_and,leb_iff,ltb_iff,ltb_no,ltn_iff,iI,size_ints,List.length_drop,imp_self,implies_true,eq_self_iff_true]
 generalize btS X i (gR X x)=p at*
 generalize btS X i (gR X (x+1))=q at*
 generalize hc:(x !=i)=c at*
 cases c<;>cases p<;>cases q<;>simp at h ⊢<;>omega
theorem chSnok {a k r:List Int}{x0 x1 x2 x3 x4 x5 x6 x7 i t:Int}{b:Bool}(h8:k.length≤7)(i0:0≤i)(i1:i<k.length):ChOk Try.prog G (chSn a k r x0 x1 x2 x3 x4 x5 x6 x7 i t b):=by
 intro h cv args r hr hp
 unfold chSn at hr
 split at hr
 ·rename_i id x
  rw[cond_eq_ite]at hr
  split at hr
  ·rename_i hid
   cases hr
   obtain⟨rfl,u,v,hc⟩:=hp
   obtain rfl:=Nat.eq_of_beq_eq_true hid
   exact sy70a h8 i0 i1 u v hc
  ·cases hr
 ·cases hr
theorem chSyok {a k r:List Int}{x0 x1 x2 x3 x4 x5 x6 x7 i t:Int}{b:Bool}(h8:k.length≤7)(i0:0≤i)(i1:i<k.length):ChOk Try.prog G (chSy a k r x0 x1 x2 x3 x4 x5 x6 x7 i t b):=by
 intro h cv args r hr hp
 unfold chSy at hr
 split at hr
 ·rename_i id x
  rw[cond_eq_ite]at hr
  split at hr
  ·rename_i hid
   cases hr
   obtain⟨rfl,u,v⟩:=hp
   obtain rfl:=Nat.eq_of_beq_eq_true hid
   cases hc:s2B [x0,x1,x2,x3,x4,x5,x6,x7] i x with
   |false=>exact sy70b h8 i0 i1 u v hc
   |true=>exact sy70c h8 i0 i1 u v hc
  ·cases hr
 ·cases hr
theorem lop_get {r:List Int}{t x:Int}{b:Bool}:lopB r t b x=((gR r (x+1)==t)&&(ltb t (gR r x)==b)):=rfl
theorem sp89n {a k r:List Int}{x0 x1 x2 x3 x4 x5 x6 x7 i t:Int}{b:Bool}(h8:k.length≤7)(hr:r.length=k.length+2)(i0:0≤i)(i1:i<k.length)(ht:t=gR r (i+1))(hb:b=ltb (gR r (i+1)) (gR r i))(h:cs2 k.length r [x0,x1,x2,x3,x4,x5,x6,x7] i=false):
  SpecD Try.prog G (.fn 89 [] []) [.yld 9002,.iptr (conF a k r),.iptr (.vals [.int .i64 t]),.iptr (.vals [.bool b])] (sH70 9002 a k r x0 x1 x2 x3 x4 x5 x6 x7 i t b) (.tup []) [] []:=by
 refine fnD_spec hcm hmx (tabL_ok (chSnok h8 i0 i1) trivial:TabOk Try.prog G (USn a k r x0 x1 x2 x3 x4 x5 x6 x7 i t b)) ok89 rfl (ob_d_89n a k r x0 x1 x2 x3 x4 x5 x6 x7 i t b) ?_
 dsimp -failIfUnchanged -proj -eta -iota -zeta only[rd,rdw,qs,ql,qx]
 have hno:∀x:Int,0≤x→x<k.length→(lopB r t b x&&s2B [x0,x1,x2,x3,x4,x5,x6,x7] i x)=false:=fun x u v=>by
  have:=anyN_noI.1 h x.toNat (by omega)
  rw[← hb,← ht]at this
  rwa [show((x.toNat:Nat):Int)=x by omega]at this
 clear ht hb
 generalize hX:[x0,x1,x2,x3,x4,x5,x6,x7]=X at*
 simp only[gR0,and_true,true_and,leb_iff,ltb_iff,ltb_no,ltn_iff,iI,size_ints,inR_i64,List.length_drop,imp_self,implies_true,eq_self_iff_true]
 refine⟨⟨0,rfl,by omega⟩,?_⟩
 rintro⟨x⟩ ⟨m,hx,hm⟩
 simp only at hx ⊢
 subst hx
 simp only[Int.toNat_natCast]
 intro hlt
 have hnm:=hno m (by omega) hlt
 rw[lop_get]at hnm
 have hex:∃m_1:Nat,(m:Int)+1=m_1∧m_1≤k.length:=⟨m+1,by omega,by omega⟩
 generalize (gR r ((m:Int)+1)==t)=c2 at*
 generalize (ltb t (gR r (m:Int))==b)=c3 at*
 refine⟨fun e2=>⟨fun e3=>?_,fun e3=>?_⟩,fun e2=>?_⟩
 ·rw[e2,e3]at hnm
  have hz:s2B X i m=false:=hnm
  repeat' apply And.intro
  all_goals first|omega|exact e2|exact e3|exact hz|exact hex
 ·repeat' apply And.intro
  all_goals first|omega|exact e2|exact beqF e3|exact hex
 ·repeat' apply And.intro
  all_goals first|omega|exact beqF e2|exact hex
theorem sp89y {a k r:List Int}{x0 x1 x2 x3 x4 x5 x6 x7 i t:Int}{b:Bool}(h8:k.length≤7)(hr:r.length=k.length+2)(i0:0≤i)(i1:i<k.length)(ht:t=gR r (i+1))(hb:b=ltb (gR r (i+1)) (gR r i))(h:cs2 k.length r [x0,x1,x2,x3,x4,x5,x6,x7] i=true):
  SpecD Try.prog G (.fn 89 [] []) [.yld 9003,.iptr (conF a k r),.iptr (.vals [.int .i64 t]),.iptr (.vals [.bool b])] (sH70 9003 a k r x0 x1 x2 x3 x4 x5 x6 x7 i t b) (.tup []) (wsZ a k r x0 x1 x2 x3 x4 x5 x6 x7 i t b true) []:=by
 refine fnD_spec hcm hmx (tabL_ok (chSyok h8 i0 i1) trivial:TabOk Try.prog G (USy a k r x0 x1 x2 x3 x4 x5 x6 x7 i t b)) ok89 rfl (ob_d_89y a k r x0 x1 x2 x3 x4 x5 x6 x7 i t b) ?_
 dsimp -failIfUnchanged -proj -eta -iota -zeta only[rd,rdw,qs,ql,qx]
 obtain⟨q,hq,hqq⟩:=anyN_ex h
 rw[← hb,← ht,Bool.and_eq_true]at hqq
 clear ht hb
 generalize hX:[x0,x1,x2,x3,x4,x5,x6,x7]=X at*
 simp only[gR0,and_true,true_and,leb_iff,ltb_iff,ltb_no,ltn_iff,iI,size_ints,inR_i64,List.length_drop,imp_self,implies_true,eq_self_iff_true,Bool.not_not,Bool.not_eq_true',Bool.not_eq_false']
 refine⟨⟨0,rfl,by omega,q,by omega,hq,hqq.1,hqq.2⟩,?_⟩
 rintro⟨x⟩ ⟨m,hx,hm,q',h1,h2,h3,h4⟩
 simp only at hx ⊢
 subst hx
 simp only[Int.toNat_natCast]
 have hne:m≠q'→∃m_1:Nat,(m:Int)+1=m_1∧m_1≤k.length∧∃q:Nat,m_1≤q∧q<k.length∧lopB r t b q=true∧s2B X i q=true:=fun hh=>⟨m+1,by omega,by omega,q',by omega,h2,h3,h4⟩
 refine⟨fun hlt=>?_,fun hge=>by omega⟩
 have hbm:lopB r t b m=((gR r ((m:Int)+1)==t)&&(ltb t (gR r (m:Int))==b)):=rfl
 generalize (gR r ((m:Int)+1)==t)=c2 at*
 generalize (ltb t (gR r (m:Int))==b)=c3 at*
 refine⟨fun e2=>⟨fun e3=>?_,fun e3=>?_⟩,fun e2=>?_⟩
 ·repeat' apply And.intro
  all_goals first|omega|exact e2|exact e3|(intro hz;rw[hz];exact⟨rfl,rfl,rfl⟩)|skip
  intro hz
  have hex:=hne fun e=>by subst e;rw[hz]at h4;cases h4
  rw[hz]
  exact⟨by omega,rfl,rfl,rfl,hex,by omega⟩
 ·have hex:=hne fun e=>by subst e;rw[hbm,e2,e3]at h3;cases h3
  repeat' apply And.intro
  all_goals first|omega|exact e2|exact e3|exact beqF e3|exact hex
 ·have hex:=hne fun e=>by subst e;rw[hbm,e2]at h3;cases h3
  repeat' apply And.intro
  all_goals first|omega|exact e2|exact beqF e2|exact hex
theorem ch89ok {a k r:List Int}{x0 x1 x2 x3 x4 x5 x6 x7:Int}(h8:k.length≤7)(hr:r.length=k.length+2):ChOk Try.prog G (ch89 a k r x0 x1 x2 x3 x4 x5 x6 x7):=by
 intro h cv args rr hr' hp
 unfold ch89 at hr'
 split at hr'
 ·rename_i f id a' n k' m r' p t b i _ _ _ _ _ _ hh
  rw[cond_eq_ite]at hr'
  split at hr'
  ·rename_i hid
   rw[Bool.and_eq_true]at hid
   cases hr'
   obtain⟨rfl,rfl,rfl,rfl,rfl,rfl,rfl,i0,i1,ht,hb,hc⟩:=hp
   obtain rfl:=Nat.eq_of_beq_eq_true hid.1
   obtain rfl:=Nat.eq_of_beq_eq_true hid.2
   exact sp89y h8 hr i0 i1 ht hb hc
  ·rw[cond_eq_ite]at hr'
   split at hr'
   ·rename_i hid
    rw[Bool.and_eq_true]at hid
    cases hr'
    obtain⟨rfl,rfl,rfl,rfl,rfl,rfl,rfl,i0,i1,ht,hb,hc⟩:=hp
    obtain rfl:=Nat.eq_of_beq_eq_true hid.1
    obtain rfl:=Nat.eq_of_beq_eq_true hid.2
    exact sp89n h8 hr i0 i1 ht hb hc
   ·cases hr'
 ·cases hr'
theorem s1B_eq {r rk:List Int}{c x:Int}:s1B r rk c x=((ltb (mnI (gR r x) (gR r (x+1))) (gR r (c+1))&&ltb (gR r (c+1)) (mxI (gR r x) (gR r (x+1))))&&btS rk c (gR rk x)):=rfl
theorem st70:CtOk Try.prog G 70 s70:=by
 intro args r h hp
 unfold s70 at h
 split at h
 ·rename_i a n _ k m _ r p _ x0 x1 x2 x3 x4 x5 x6 x7 tl
  cases hM:isZ 24 tl with
  |false=>rw[hM,cond_false]at h;cases h
  |true=>
  rw[hM,cond_true]at h
  cases h
  obtain rfl:=isZ_24 hM
  obtain⟨⟨rfl,rfl,rfl⟩,hn,h8,hr⟩:=hp
  refine con_caps (fnP_spec hcm hmx (tabL_ok (ch89ok (by omega) (by omega)) ⟨st74,st75,st84,st85,trivial⟩:TabOk Try.prog G (T70 a k r x0 x1 x2 x3 x4 x5 x6 x7)) ok70 rfl (ob_s70 a k r x0 x1 x2 x3 x4 x5 x6 x7) ?_)
  dsimp -failIfUnchanged -proj -eta -iota -zeta only[rd,rdw,qs,ql,qx]
  have hc:=cok_self a k r
  have G8:=fun(c:Int) (u:0≤c) (v:c<8)=>z32get (x0:=x0) (x1:=x1) (x2:=x2) (x3:=x3) (x4:=x4) (x5:=x5) (x6:=x6) (x7:=x7) u v
  generalize hX:[x0,x1,x2,x3,x4,x5,x6,x7]=X at*
  simp only[gR0,and_true,true_and,leb_iff,ltb_iff,ltb_no,ltn_iff,iI,size_ints,inR_i64,List.length_drop,imp_self,implies_true,eq_self_iff_true,Bool.not_eq_true']
  refine⟨⟨0,rfl,by omega,fun j hj=>by omega⟩,?_⟩
  rintro⟨i⟩ ⟨m,hi,hm,hf⟩
  simp only at hi hf ⊢
  subst hi
  simp only[Int.toNat_natCast]
  refine⟨fun hlt=>⟨by omega,by omega,by omega,by omega,by omega,⟨0,rfl,by omega,fun j hj=>by omega⟩,?_⟩,fun hge=>(anyN_noI.2 fun j hj=>hf j (by omega)).symm⟩
  rintro⟨x⟩ ⟨q,hx,hq,hg⟩
  simp only at hx hg ⊢
  subst hx
  simp only[Int.toNat_natCast]
  have hcy:(∃j:Nat,j<k.length∧(cs1 a.length r X j||cs2 k.length r X j)=true)→true=crS k.length a.length r X:=fun⟨j,hj,h⟩=>(anyN_yes hj h).symm
  have hst:q<a.length→s1B r X m q=false→(∃m_1:Nat,(q:Int)+1=m_1∧m_1≤a.length∧∀(j:Nat),j<m_1→s1B r X m j=false):=fun hq2 h=>⟨q+1,by omega,by omega,fun j hj=>by
     by_cases hj':j<q
     ·exact hg j hj'
     ·rw[show j=q by omega];exact h⟩
  refine⟨fun hlt2=>?_,fun hge2=>?_⟩
  ·have hst:=hst (by omega)
   have gg:=G8 q (by omega) (by omega)
   rw[Int.toNat_natCast]at gg
   refine⟨fun e1=>⟨fun e2=>?_,fun e2=>?_⟩,fun e1=>?_⟩
   ·have hy:btS X m (gR X q)=true→true=crS k.length a.length r X:=fun e3=>hcy ⟨m,by omega,by
     have:cs1 a.length r X m=true:=anyN_yes (j:=q) (by omega) (by rw[s1B_eq,ltb_iff.2 e1,ltb_iff.2 e2,e3];rfl)
     rw[this];rfl⟩
    have hz:btS X m (gR X q)=false→∃m_1:Nat,(q:Int)+1=m_1∧m_1≤a.length∧∀(j:Nat),j<m_1→s1B r X m j=false:=fun e3=>hst (by rw[s1B_eq,e3,Bool.and_false])
    have hw:btS X m (gR X q)=false→((-9223372036854775808:Int)≤(q:Int)+1∧(q:Int)+1≤9223372036854775807)∧(∃m_1:Nat,(q:Int)+1=m_1∧m_1≤a.length∧∀(j:Nat),j<m_1→s1B r X m j=false)∧a.length-((q:Int)+1).toNat<a.length-q:=fun e3=>⟨by omega,hz e3,by omega⟩
    repeat' apply And.intro
    all_goals first|omega|exact hc|exact e1|exact e2|exact gg|exact hy|exact hw
   ·have hz:=hst (by rw[s1B_eq,ltb_no.2 e2,Bool.and_false,Bool.false_and])
    repeat' apply And.intro
    all_goals first|omega|exact hc|exact e1|exact e2|exact ltb_no.2 e2|exact hz
   ·have hz:=hst (by rw[s1B_eq,ltb_no.2 e1,Bool.false_and,Bool.false_and])
    repeat' apply And.intro
    all_goals first|omega|exact hc|exact e1|exact ltb_no.2 e1|exact hz
  ·rw[ltb_no.2 hge2]
   have hz:cs1 a.length r X m=false:=anyN_noI.2 fun j hj=>hg j (by omega)
   simp only[eq_self_iff_true,true_and,and_true]
   refine⟨fun h2=>?_,fun h2=>?_⟩
   ·have hy:=hcy ⟨m,by omega,by rw[h2,Bool.or_true]⟩
    repeat' apply And.intro
    all_goals first|omega|exact hc|exact h2|exact hy|rfl
   ·have hy:∃q:Nat,(m:Int)+1=q∧q≤k.length∧∀(j:Nat),j<q→(cs1 a.length r X j||cs2 k.length r X j)=false:=⟨m+1,by omega,by omega,fun j hj=>by
     by_cases hj':j<m
     ·exact hf j hj'
     ·rw[show j=m by omega,hz,h2];rfl⟩
    repeat' apply And.intro
    all_goals first|omega|exact hc|exact h2|exact hy|rfl
 ·cases h
end Go.Proofs.Ythiammkiobbclaa.X
