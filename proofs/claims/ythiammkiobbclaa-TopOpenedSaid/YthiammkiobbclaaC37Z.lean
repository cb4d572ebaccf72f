/-
 Rings as plain data: what is made closes.
-/
import Derived.Test.YthiammkiobbclaaD37Z
import Derived.Test.YthiammkiobbclaaP36Z
import Derived.Test.YthiammkiobbclaaO36Z
import Derived.Test.YthiammkiobbclaaC38Z
set_option maxRecDepth 1000000
set_option linter.unusedVariables false
set_option linter.unusedSimpArgs false
namespace Go.Proofs.Ythiammkiobbclaa.X
open Go Go.Ab

theorem take_snoc {l:List Int}{m:Nat}(h:m<l.length):l.take (m+1)=l.take m++[l[m]?.getD 0]:=by
 rw[List.take_add_one,List.getElem?_eq_getElem h];rfl
theorem kS_len (ks:List Int)(n:Nat):(kS ks n).length=n:=by unfold kS;rw[List.length_map,List.length_range]
theorem kS_succ (ks:List Int)(n:Nat):kS ks (n+1)=kS ks n++[gk ks n]:=by
 unfold kS;rw[List.range_succ,List.map_append];rfl
theorem tmod_rng {x:Int}{n:Int}(h:0≤x)(hn:0<n):0≤x.tmod n∧x.tmod n<n:=by
 rw[Int.tmod_eq_emod_of_nonneg h];exact⟨Int.emod_nonneg _ (by omega),Int.emod_lt_of_pos _ hn⟩
theorem getD_memP {l:List Int}{P:Int→Prop}(h:∀x∈l,P x){m:Nat}(hm:m<l.length):P (l[m]?.getD 0):=by
 rw[List.getElem?_eq_getElem hm];exact h _ (List.getElem_mem hm)
theorem gk_rng {ks:List Int}(hk:okK ks)(n:Nat):1≤gk ks n∧gk ks n≤3:=by
 unfold gk
 split
 ·rename_i h
  rw[List.getD_eq_getElem?_getD]
  have:=getD_memP hk h
  have:=tmod_rng (x:=ks[n]?.getD 0) (n:=3) (by omega) (by omega)
  omega
 ·omega
theorem kS_rng {ks:List Int}(hk:okK ks){n:Nat}:∀x∈kS ks n,1≤x∧x≤3:=fun x hx=>by
 unfold kS at hx
 obtain⟨i,_,rfl⟩:=List.mem_map.1 hx
 exact gk_rng hk i
theorem aS_rng {ls:List Int}(hk:okK ls):∀x∈aS ls,1≤x∧x≤8:=fun x hx=>by
 unfold aS at hx
 split at hx
 ·have:=List.mem_singleton.1 hx;omega
 ·obtain⟨y,hy,rfl⟩:=List.mem_map.1 hx
  have h1:=hk y (List.mem_of_mem_take hy)
  have:=tmod_rng (x:=y) (n:=8) (by omega) (by omega)
  omega
theorem aS_len {ls:List Int}(h5:ls.length≤5):1≤(aS ls).length∧(aS ls).length≤5:=by
 unfold aS
 split
 ·exact⟨by simp,by simp⟩
 ·rename_i h
  have:=List.length_pos_iff.2 h
  rw[List.length_map,List.length_take];omega
/-- What is added or put longer, so that it closes. -/
def rS (s:List Int):List Int:=
 if s.length%2=0 then(if 0<smA s then s.set (s.length-1) (s.getD (s.length-1) 0+smA s)else s.set 0 (s.getD 0 0-smA s))
 else if smA s<1 then s.set 0 (s.getD 0 0+1-smA s)++[1]else s++[smA s]
def closed (A:List Int):Prop:=(∀x∈A,1≤x∧x≤64)∧A.length≤6∧0<A.length∧A.length%2=0∧gR (raysL A) A.length=0
theorem cl2 {a b:Int}(h1:1≤a∧a≤64)(h2:1≤b∧b≤64)(h:a=b):closed [a,b]:=
 ⟨by simp;omega,by simp,by simp,by simp,by show(0:Int)+a-b=0;omega⟩
theorem cl4 {a b c d:Int}(h1:1≤a∧a≤64)(h2:1≤b∧b≤64)(h3:1≤c∧c≤64)(h4:1≤d∧d≤64)(h:a+c=b+d):closed [a,b,c,d]:=
 ⟨by simp;omega,by simp,by simp,by simp,by show(0:Int)+a-b+c-d=0;omega⟩
theorem cl6 {a b c d e f:Int}(h1:1≤a∧a≤64)(h2:1≤b∧b≤64)(h3:1≤c∧c≤64)(h4:1≤d∧d≤64)(h5:1≤e∧e≤64)(h6:1≤f∧f≤64)(h:a+c+e=b+d+f):closed [a,b,c,d,e,f]:=
 ⟨by simp;omega,by simp,by simp,by simp,by show(0:Int)+a-b+c-d+e-f=0;omega⟩
theorem rS_ok:∀(s:List Int),1≤s.length→s.length≤5→(∀x∈s,1≤x∧x≤8)→closed (rS s)∧(rS s).length=s.length+s.length%2
 |[],h,_,_=>by simp at h
 |[a],_,_,h=>by
  have ha:=h a (by simp)
  have e:smA [a]=0+a:=rfl
  unfold rS
  rw[e,if_neg (show ¬ [a].length%2=0 by simp)]
  split
  ·omega
  ·exact⟨cl2 (by omega) (by omega) (by omega),by simp⟩
 |[a,b],_,_,h=>by
  have ha:=h a (by simp)
  have hb:=h b (by simp)
  have e:smA [a,b]=0+a-b:=rfl
  unfold rS
  rw[e,if_pos (show[a,b].length%2=0 by simp)]
  split
  ·exact⟨(cl2 (by omega) (by omega) (by omega):closed [a,b+(0+a-b)]),by simp⟩
  ·exact⟨(cl2 (by omega) (by omega) (by omega):closed [a-(0+a-b),b]),by simp⟩
 |[a,b,c],_,_,h=>by
  have ha:=h a (by simp)
  have hb:=h b (by simp)
  have hc:=h c (by simp)
  have e:smA [a,b,c]=0+a-b+c:=rfl
  unfold rS
  rw[e,if_neg (show ¬ [a,b,c].length%2=0 by simp)]
  split
  ·exact⟨(cl4 (by omega) (by omega) (by omega) (by omega) (by omega):closed [a+1-(0+a-b+c),b,c,1]),by simp⟩
  ·exact⟨(cl4 (by omega) (by omega) (by omega) (by omega) (by omega):closed [a,b,c,0+a-b+c]),by simp⟩
 |[a,b,c,d],_,_,h=>by
  have ha:=h a (by simp)
  have hb:=h b (by simp)
  have hc:=h c (by simp)
  have hd:=h d (by simp)
  have e:smA [a,b,c,d]=0+a-b+c-d:=rfl
  unfold rS
  rw[e,if_pos (show[a,b,c,d].length%2=0 by simp)]
  split
  ·exact⟨(cl4 (by omega) (by omega) (by omega) (by omega) (by omega):closed [a,b,c,d+(0+a-b+c-d)]),by simp⟩
  ·exact⟨(cl4 (by omega) (by omega) (by omega) (by omega) (by omega):closed [a-(0+a-b+c-d),b,c,d]),by simp⟩
 |[a,b,c,d,f],_,_,h=>by
  have ha:=h a (by simp)
  have hb:=h b (by simp)
  have hc:=h c (by simp)
  have hd:=h d (by simp)
  have hf:=h f (by simp)
  have e:smA [a,b,c,d,f]=0+a-b+c-d+f:=rfl
  unfold rS
  rw[e,if_neg (show ¬ [a,b,c,d,f].length%2=0 by simp)]
  split
  ·exact⟨(cl6 (by omega) (by omega) (by omega) (by omega) (by omega) (by omega) (by omega):closed [a+1-(0+a-b+c-d+f),b,c,d,f,1]),by simp⟩
  ·exact⟨(cl6 (by omega) (by omega) (by omega) (by omega) (by omega) (by omega) (by omega):closed [a,b,c,d,f,0+a-b+c-d+f]),by simp⟩
 |_::_::_::_::_::_::_,_,h,_=>by simp at h
theorem rK_rng {ls ks:List Int}{x:Int}(hk:okK ks)(h0:0≤x)(h1:x≤255):∀y∈rK ls ks x,1≤y∧y≤3:=fun y hy=>by
 have a1:=tmod_rng (x:=x) (n:=3) (by omega) (by omega)
 have a2:=tmod_rng (x:=x.tdiv 3) (n:=3) (Int.tdiv_nonneg h0 (by omega)) (by omega)
 unfold rK at hy
 split at hy
 ·rcases List.mem_append.1 hy with h|h
  ·exact kS_rng hk y h
  ·have:=List.mem_singleton.1 h;omega
 ·rcases List.mem_append.1 hy with h|h
  ·rcases List.mem_append.1 h with h|h
   ·exact kS_rng hk y h
   ·have:=List.mem_singleton.1 h;omega
  ·have:=List.mem_singleton.1 h;omega
theorem rK_len {ls ks:List Int}{x:Int}(h:1≤(aS ls).length):(rK ls ks x).length=(aS ls).length+(aS ls).length%2:=by
 unfold rK
 split
 ·rw[List.length_append,kS_len,List.length_singleton];omega
 ·rw[List.length_append,List.length_append,kS_len,List.length_singleton,List.length_singleton];omega
theorem ring_data {ls ks:List Int}{x:Int}(hl:okK ls)(hk:okK ks)(h5:ls.length≤5)(h0:0≤x)(h1:x≤255):okRing (rA ls) (rK ls ks x):=by
 obtain⟨u1,u2⟩:=aS_len h5
 obtain⟨⟨c1,c2,c3,c4,c5⟩,c6⟩:=rS_ok (aS ls) u1 u2 (aS_rng hl)
 have e:rA ls=rS (aS ls):=rfl
 rw[e]
 exact⟨c1,by omega,c3,by rw[rK_len u1,c6],c4,rK_rng hk h0 h1,c5⟩
theorem ring_strip {a k:List Int}(h:okRing a k):okStrip a (k.take (k.length-1)):=by
 obtain⟨h1,h2,h3,h4,h5,h6,h7⟩:=h
 refine⟨h1,h2,?_,fun x hx=>h6 x (List.mem_of_mem_take hx)⟩
 rw[List.length_take];omega
theorem ring_count {a k:List Int}(h:okRing a k):(rwL a k).length≤(swL a (k.take (k.length-1))).length:=by
 have hR:=ring_ok h
 have e:=swL_kinds (a:=a) (k:=k)
 rw[h.2.2.2.1]
 rw[e]
 exact ring_le hR.1 h.2.1 h.2.2.2.1
end Go.Proofs.Ythiammkiobbclaa.X

/-
 Rings that are opened, as plain data: the contracts; the law.
-/
set_option maxRecDepth 1000000
set_option linter.unusedVariables false
set_option linter.unusedSimpArgs false
namespace Go.Proofs.Ythiammkiobbclaa.X
open Go Go.Ab

theorem bsp38 (n:Int)(h0:0<n)(h1:n<1000000000000):SpecP Try.prog G 38 [.nils,.int .i64 n] (.full 0 0) [blkN .i64 []]:=by
 refine fnP_spec hcm hmx T0ok ok38 rfl (ob_b38 n) ?_
 simp
 omega
theorem bct38:CtOk Try.prog G 38 (eGrow .i64 8):=by
 intro args r h hp
 unfold eGrow at h
 split at h<;>cases h
 obtain⟨h0,h1⟩:=hp
 exact bsp38 _ h0 h1
theorem bsp39 (n:Int)(h0:0<n)(h1:n<1000000000000):SpecP Try.prog G 39 [.nils,.int .i64 n] (.full 0 0) [blkN .u8 []]:=by
 refine fnP_spec hcm hmx T0ok ok39 rfl (ob_b39 n) ?_
 simp
 omega
theorem bct39:CtOk Try.prog G 39 (eGrow .u8 1):=by
 intro args r h hp
 unfold eGrow at h
 split at h<;>cases h
 obtain⟨h0,h1⟩:=hp
 exact bsp39 _ h0 h1
theorem V1ok:TabOk Try.prog G V1:=tabL_ok noCh_ok ⟨bct38,bct39,trivial⟩
theorem bsp22 (x y:List Int)(h0:0<x.length+y.length)(h1:x.length+y.length<100000000000):SpecP Try.prog G 22 [.imm (.vals [.imm (.ints .i64 x) x.length none,.imm (.ints .i64 y) y.length none]) 2 none] (.full 0 (x++y).length) [blkN .i64 (x++y)]:=by
 refine fnP_spec hcm hmx V1ok ok22 rfl (ob_b22 x y) ?_
 simp
 omega
theorem bct22:CtOk Try.prog G 22 (eCat .i64):=by
 intro args r h hp
 unfold eCat at h
 split at h
 ·rw[cond_eq_ite]at h
  split at h
  ·rename_i hk
   rw[Bool.and_eq_true]at hk
   cases h
   obtain⟨rfl,rfl,h0,h1⟩:=hp
   cases beqK_ok hk.1;cases beqK_ok hk.2
   exact(bsp22 _ _ h0 h1).caps
  ·cases h
 ·cases h
theorem bsp23 (x y:List Int)(h0:0<x.length+y.length)(h1:x.length+y.length<100000000000):SpecP Try.prog G 23 [.imm (.vals [.imm (.ints .u8 x) x.length none,.imm (.ints .u8 y) y.length none]) 2 none] (.full 0 (x++y).length) [blkN .u8 (x++y)]:=by
 refine fnP_spec hcm hmx V1ok ok23 rfl (ob_b23 x y) ?_
 simp
 omega
theorem bct23:CtOk Try.prog G 23 (eCat .u8):=by
 intro args r h hp
 unfold eCat at h
 split at h
 ·rw[cond_eq_ite]at h
  split at h
  ·rename_i hk
   rw[Bool.and_eq_true]at hk
   cases h
   obtain⟨rfl,rfl,h0,h1⟩:=hp
   cases beqK_ok hk.1;cases beqK_ok hk.2
   exact(bsp23 _ _ h0 h1).caps
  ·cases h
 ·cases h
theorem bspc21 (a:List Int):SpecD Try.prog G (.fn 21 [] []) [.full 8640 a.length] [(8640,.blk (blkN .i64 a))] (.fullc 8640 a.length a.length) [] []:=by
 refine fnD_spec hcm hmx T0ok ok21 rfl (ob_d_c21 a) ?_
 simp
theorem bspc14 (a:List Int):SpecD Try.prog G (.fn 14 [] []) [.full 8640 a.length] [(8640,.blk (blkN .u8 a))] (.fullc 8640 a.length a.length) [] []:=by
 refine fnD_spec hcm hmx T0ok ok14 rfl (ob_d_c14 a) ?_
 simp
theorem chT1ok {k:IntKind}{id f1:Nat}(h1:∀a,SpecD Try.prog G (.fn f1 [] []) [.full id a.length] [(id,.blk (blkN k a))] (.fullc id a.length a.length) [] []):ChOk Try.prog G (chT1 k id f1):=by
 intro h cv args r hr hp
 unfold chT1 at hr
 split at hr
 ·simp only[cond_eq_ite]at hr
  split at hr
  ·rename_i hi
   rw[Bool.and_eq_true]at hi
   have e1:=Nat.eq_of_beq_eq_true hi.1;have e2:=Nat.eq_of_beq_eq_true hi.2;subst e1;subst e2
   cases hr
   obtain⟨rfl,rfl⟩:=hp
   exact h1 _
  ·cases hr
 ·cases hr
theorem bsp13 (a:List Int)(i:Int)(h0:0<a.length)(hl:a.length<100000000000)(h1:0≤i)(h2:i≤a.length):SpecP Try.prog G 13 [.imm (.ints .i64 a) a.length none,.int .i64 i] (.fullc 0 (rotT a i.toNat).length (rotT a i.toNat).length) [blkN .i64 (rotT a i.toNat)]:=by
 refine fnP_spec hcm hmx (tabL_ok (chT1ok bspc21) ⟨bct22,bct23,trivial⟩:TabOk Try.prog G V13) ok13 rfl (ob_b13 a i) ?_
 simp[rotT,h1]
 omega
theorem bct13:CtOk Try.prog G 13 (eBegun .i64):=by
 intro args r h hp
 unfold eBegun at h
 split at h
 ·rw[cond_eq_ite]at h
  split at h
  ·rename_i hk
   cases h
   cases beqK_ok hk
   obtain⟨rfl,h0,hl,h1,h2⟩:=hp
   exact(bsp13 _ _ h0 hl h1 h2).caps
  ·cases h
 ·cases h
theorem bsp15 (a:List Int)(i:Int)(h0:0<a.length)(hl:a.length<100000000000)(h1:0≤i)(h2:i≤a.length):SpecP Try.prog G 15 [.imm (.ints .u8 a) a.length none,.int .i64 i] (.fullc 0 (rotT a i.toNat).length (rotT a i.toNat).length) [blkN .u8 (rotT a i.toNat)]:=by
 refine fnP_spec hcm hmx (tabL_ok (chT1ok bspc14) ⟨bct22,bct23,trivial⟩:TabOk Try.prog G V15) ok15 rfl (ob_b15 a i) ?_
 simp[rotT,h1]
 omega
theorem bct15:CtOk Try.prog G 15 (eBegun .u8):=by
 intro args r h hp
 unfold eBegun at h
 split at h
 ·rw[cond_eq_ite]at h
  split at h
  ·rename_i hk
   cases h
   cases beqK_ok hk
   obtain⟨rfl,h0,hl,h1,h2⟩:=hp
   exact(bsp15 _ _ h0 hl h1 h2).caps
  ·cases h
 ·cases h
/-! ### Open -/
theorem rotT_0 (a:List Int):rotT a 0=a:=by unfold rotT;simp
theorem st5:CtOk Try.prog G 5 s5:=by
 intro args r h hp
 unfold s5 at h
 split at h<;>cases h
 rename_i a n _ k m _ c
 obtain⟨rfl,rfl,hr,rfl⟩:=hp
 refine strip_caps (fnP_spec hcm hmx (tabL_ok noCh_ok ⟨rgt36,rgt37,rgt63,bct13,bct15,ct61,trivial⟩:TabOk Try.prog G V5) ok5 rfl (ob_s5 a k _) ?_)
 dsimp -failIfUnchanged -proj -eta -iota -zeta only[rd,rdw,qs,ql,qx]
 obtain⟨h1,h2,h3,h4,h5,h6,h7⟩:=id hr
 have hl:=raysL_len a
 have et:Int.tmod ((k.length:Int)-1+1) a.length=0:=by
  rw[show(k.length:Int)-1+1=a.length by omega,Int.tmod_self]
 have ek:((k.length:Int)-1).toNat=k.length-1:=by omega
 simp only[et,ek,Int.toNat_zero,rotT_0,inR_i64,and_true,true_and,leb_iff,leb_no,ltb_iff,ltb_no,ltn_iff,len'_iff,iI,size_ints,eq_self_iff_true,Bool.not_eq_true',List.length_take]
 have hc:=cok_self a k (raysL a)
 repeat' first|exact hr|exact hc|omega|apply And.intro
/-! ### Strips and rings as plain data -/
theorem st9:CtOk Try.prog G 9 s9:=by
 intro args r h hp
 unfold s9 at h
 split at h<;>cases h
 rename_i ls n _ ks m _
 obtain⟨rfl,rfl,hl,hk,h12⟩:=hp
 refine(fnP_spec hcm hmx T0ok ok9 rfl (ob_s9 ls ks) ?_:SpecP Try.prog G 9 [.agg [.imm (.ints .u8 ls) ls.length none,.imm (.ints .u8 ks) ks.length none]] _ _).caps
 dsimp -failIfUnchanged -proj -eta -iota -zeta only[rd,rdw,qs,ql,qx]
 simp only[gR0,inR_i64,inR_u8,and_true,true_and,leb_iff,leb_no,ltb_iff,ltb_no,ltn_iff,len'_iff,iI,iL,size_ints,eq_self_iff_true,List.length_append,List.length_cons,List.length_nil,Nat.zero_add,List.length_drop,beq_iff_eq,beq_eq_false_iff_ne,ne_eq]
 refine⟨⟨0,rfl,by omega,by omega,rfl,rfl⟩,?_⟩
 rintro⟨i,a,k⟩ ⟨m,hi,hm,h12',ha,hkk⟩
 simp only at hi ha hkk ⊢
 subst hi
 simp only[Int.toNat_natCast]
 have hal:a.length=m:=by rw[ha,List.length_map,List.length_take];omega
 have hkl:k.length=m-1:=by rw[hkk,kS_len]
 have hend:m=ls.length→a.length≠0→a=aS ls∧k=kS ks ((aS ls).length-1):=fun e e2=>by
  have hne:ls≠[]:=fun e3=>by subst e3;simp at e;omega
  have ea:a=aS ls:=by
   unfold aS
   rw[if_neg hne,ha,e,List.take_of_length_le (Nat.le_refl _),List.take_of_length_le h12]
  rw[← ea,hal]
  exact⟨rfl,hkk⟩
 have hz:m=ls.length→¬ ¬ (a.length:Int)=0→aS ls=[1]∧k=kS ks 0:=fun e e2=>by
  have h0:ls.length=0:=by omega
  have hne:ls=[]:=List.eq_nil_of_length_eq_zero h0
  subst hne
  exact⟨rfl,by rw[hkk,e];rfl⟩
 have fin:m=ls.length→((a.length:Int)=0→1=(aS ls).length∧[1]=aS ls∧k.length=(kS ks ((aS ls).length-1)).length∧k=kS ks ((aS ls).length-1)∧1=(aS ls).length∧k.length=(kS ks ((aS ls).length-1)).length)∧
   (¬ (a.length:Int)=0→a.length=(aS ls).length∧a=aS ls∧k.length=(kS ks ((aS ls).length-1)).length∧k=kS ks ((aS ls).length-1)∧a.length=(aS ls).length∧k.length=(kS ks ((aS ls).length-1)).length):=fun e=>⟨fun e2=>by
   obtain⟨q1,q2⟩:=hz e (fun h=>h e2)
   rw[q1]
   exact⟨rfl,rfl,by rw[q2];rfl,q2,rfl,by rw[q2];rfl⟩,fun e2=>by
   obtain⟨q1,q2⟩:=hend e (by omega)
   rw[← q1]
   rw[← q1]at q2
   exact⟨rfl,rfl,by rw[← q2],q2,rfl,by rw[← q2]⟩⟩
 refine⟨fun hlt=>⟨fun hlt2=>?_,fun hge2=>fin (by omega)⟩,fun hge=>fin (by omega)⟩
 have g:m<ls.length:=by omega
 have hx:=getD_memP hl g
 have ht:=tmod_rng (x:=ls[m]?.getD 0) (n:=8) (by omega) (by omega)
 have eg:gR ls m=ls[m]?.getD 0:=rfl
 have ea:a++[1+(gR ls m).tmod 8]=(ls.take (m+1)).map fun x=>1+x.tmod 8:=by
  rw[take_snoc g,List.map_append,← ha];rfl
 have hexy:∀K:List Int,K=kS ks m→∃n:Nat,(m:Int)+1=n∧n≤ls.length∧n≤12∧a++[1+(gR ls m).tmod 8]=(ls.take n).map (fun x=>1+x.tmod 8)∧K=kS ks (n-1):=fun K e=>⟨m+1,by omega,by omega,by omega,ea,e⟩
 rw[eg]at hexy ⊢
 refine⟨by omega,by omega,by omega,by omega,by omega,by omega,by omega,fun h0=>⟨fun h1=>?_,fun h1=>?_⟩,fun h0=>?_⟩
 ·obtain⟨q,rfl⟩:∃q,m=q+1:=⟨m-1,by omega⟩
  have hq:q<ks.length:=by omega
  have hy:=getD_memP hk hq
  have e3:gR ks (((q+1:Nat):Int)-1)=ks[q]?.getD 0:=by
   unfold gR;rw[show(((q+1:Nat):Int)-1).toNat=q by omega]
  have ht3:=tmod_rng (x:=ks[q]?.getD 0) (n:=3) (by omega) (by omega)
  have hex:=hexy (k++[1+(ks[q]?.getD 0).tmod 3]) (by
   rw[kS_succ,hkk,Nat.add_sub_cancel]
   congr 2
   unfold gk
   rw[if_pos hq,List.getD_eq_getElem?_getD])
  rw[e3]
  repeat' apply And.intro
  all_goals first|omega|exact hex
 ·obtain⟨q,rfl⟩:∃q,m=q+1:=⟨m-1,by omega⟩
  have hex:=hexy (k++[1]) (by
   rw[kS_succ,hkk,Nat.add_sub_cancel]
   congr 2
   unfold gk
   rw[if_neg (by omega)])
  repeat' apply And.intro
  all_goals first|omega|exact hex
 ·have e0:m=0:=by omega
  subst e0
  have hex:=hexy k hkk
  repeat' apply And.intro
  all_goals first|omega|exact hex
theorem rays_bd8 {A:List Int}(h:∀x∈A,1≤x∧x≤8)(h5:A.length≤5){m:Nat}(hm:m≤A.length): -512≤gR (raysL A) m∧gR (raysL A) m≤512:=
 rays_in (fun x hx=>⟨(h x hx).1,by have:=h x hx;omega⟩) (by omega) hm
theorem st4:CtOk Try.prog G 4 s4:=by
 intro args r h hp
 unfold s4 at h
 split at h<;>cases h
 rename_i ls n _ ks m _ x
 obtain⟨rfl,rfl,hl,hk,h5,x0,x1⟩:=hp
 refine(fnP_spec hcm hmx (tabL_ok noCh_ok ⟨st9,trivial⟩:TabOk Try.prog G V4) ok4 rfl (ob_s4 ls ks x) ?_:SpecP Try.prog G 4 [.agg [.imm (.ints .u8 ls) ls.length none,.imm (.ints .u8 ks) ks.length none,.int .u8 x]] _ _).caps
 dsimp -failIfUnchanged -proj -eta -iota -zeta only[rd,rdw,qs,ql,qx]
 have e7:(if(7:Int)<(ls.length:Int)then(7:Int)else(ls.length:Int))=(ls.length:Int):=if_neg (by omega)
 obtain⟨u1,u2⟩:=aS_len h5
 have hA:=aS_rng hl
 have hkl:=kS_len ks ((aS ls).length-1)
 have hkr:=kS_rng hk (n:=(aS ls).length-1)
 have d1:rA ls=rS (aS ls):=rfl
 have d2:rK ls ks x=if(aS ls).length%2=0 then kS ks ((aS ls).length-1)++[1+x.tmod 3]else(kS ks ((aS ls).length-1)++[1+(x.tdiv 3).tmod 3])++[1+x.tmod 3]:=rfl
 have hr6:=rS_ok (aS ls) u1 u2 hA
 rw[d1,d2]
 simp only[e7,Int.toNat_natCast,List.take_length]
 have et:(ls.take ls.length)=ls:=List.take_of_length_le (Nat.le_refl _)
 generalize aS ls=A at*
 generalize kS ks (A.length-1)=K at*
 have b1:=tmod_rng (x:=x) (n:=3) (by omega) (by omega)
 have b0:0≤x.tdiv 3∧x.tdiv 3≤255:=by
  rw[Int.tdiv_eq_ediv_of_nonneg x0];omega
 have b2:=tmod_rng (x:=x.tdiv 3) (n:=3) (by omega) (by omega)
 simp only[inR_i64,inR_u8,and_true,true_and,leb_iff,leb_no,ltb_iff,ltb_no,ltn_iff,len'_iff,iI,iL,size_ints,eq_self_iff_true,List.length_append,List.length_cons,List.length_nil,Nat.zero_add,List.length_drop,beq_iff_eq,beq_eq_false_iff_ne,ne_eq,List.getD_eq_getElem?_getD]
 refine⟨by omega,by omega,⟨hl,hk,by omega⟩,⟨0,rfl,by omega,by cases A<;>rfl,rfl,rfl⟩,?_⟩
 rintro⟨i,s,a,k⟩ ⟨m,hi,hm,hs,ha,hkk⟩
 simp only at hi hs ha hkk ⊢
 subst hi
 simp only[Int.toNat_natCast]
 have hal:a.length=m:=by rw[ha,List.length_take];omega
 have hkl2:k.length=min m K.length:=by rw[hkk,List.length_take]
 have hsb:=rays_bd8 hA u2 (m:=m) (by omega)
 refine⟨fun hlt=>?_,fun hge=>?_⟩
 ·have g:m<A.length:=by omega
  have hx:=getD_memP hA g
  have hn:=rays_nxt (a:=A) (m:=m) g
  have ea:a++[A[m]?.getD 0]=A.take (m+1):=by rw[take_snoc g,ha]
  have ht:(m:Int).tmod 2=0∨(m:Int).tmod 2=1:=by rw[Int.tmod_eq_emod_of_nonneg (by omega)];omega
  have key:∀s':Int,s'=gR (raysL A) ((m:Int)+1)→ -600≤s'∧s'≤600→((-9223372036854775808≤s'∧s'≤9223372036854775807)∧(m<K.length→∃n:Nat,(m:Int)+1=n∧n≤A.length∧s'=gR (raysL A) n∧a++[A[m]?.getD 0]=A.take n∧k++[K[m]?.getD 0]=K.take n)∧(¬ m<K.length→∃n:Nat,(m:Int)+1=n∧n≤A.length∧s'=gR (raysL A) n∧a++[A[m]?.getD 0]=A.take n∧k=K.take n)):=fun s' e hb=>
   ⟨by omega,fun h=>⟨m+1,by omega,by omega,by rw[e];rfl,ea,by rw[take_snoc h,hkk]⟩,fun h=>⟨m+1,by omega,by omega,by rw[e];rfl,ea,by rw[hkk,List.take_of_length_le (by omega),List.take_of_length_le (by omega)]⟩⟩
  refine⟨by omega,by omega,by omega,by omega,fun e=>?_,fun e=>?_⟩
  ·rw[e]at hn
   obtain⟨k1,k2,k3⟩:=key (s+A[m]?.getD 0) (by rw[hs,hn];omega) (by omega)
   refine⟨by omega,by omega,by omega,k1,fun h=>?_,fun h=>?_⟩
   ·have hex:=k2 (by omega)
    repeat' apply And.intro
    all_goals first|omega|exact hex
   ·have hex:=k3 (by omega)
    repeat' apply And.intro
    all_goals first|omega|exact hex
  ·have e1:(m:Int).tmod 2=1:=ht.resolve_left e
   rw[e1]at hn
   obtain⟨k1,k2,k3⟩:=key (s-A[m]?.getD 0) (by rw[hs,hn];omega) (by omega)
   refine⟨by omega,by omega,by omega,k1,fun h=>?_,fun h=>?_⟩
   ·have hex:=k2 (by omega)
    repeat' apply And.intro
    all_goals first|omega|exact hex
   ·have hex:=k3 (by omega)
    repeat' apply And.intro
    all_goals first|omega|exact hex
 ·have em:m=A.length:=by omega
  subst em
  have ea:a=A:=by rw[ha,List.take_of_length_le (Nat.le_refl _)]
  have ek:k=K:=by rw[hkk,List.take_of_length_le (by omega)]
  have es:s=smA A:=hs
  subst ea ek es
  have et2:((a.length:Nat):Int).tmod 2=((a.length%2:Nat):Int):=by
   rw[Int.tmod_eq_emod_of_nonneg (by omega)];omega
  rw[et2]
  have h0:=getD_memP hA (m:=0) (by omega)
  have h9:=getD_memP hA (m:=a.length-1) (by omega)
  have hsb': -512≤smA a∧smA a≤512:=hsb
  have en:((a.length:Int)-1).toNat=a.length-1:=by omega
  rw[en]
  unfold rS
  simp only[List.getD_eq_getElem?_getD]at*
  refine⟨fun e=>?_,fun e=>?_⟩
  ·have e2:a.length%2=0:=by omega
   rw[if_pos e2,if_pos e2]
   refine⟨fun h=>?_,fun h=>?_⟩
   ·rw[if_pos h]
    repeat' apply And.intro
    all_goals first|rfl|omega|simp
   ·rw[if_neg (by omega)]
    repeat' apply And.intro
    all_goals first|rfl|omega|simp
  ·have e2:¬ a.length%2=0:=by omega
   rw[if_neg e2,if_neg e2]
   refine⟨by omega,by omega,by omega,fun h=>?_,fun h=>?_⟩
   ·rw[if_pos h]
    repeat' apply And.intro
    all_goals first|rfl|omega|simp
   ·rw[if_neg (by omega)]
    repeat' apply And.intro
    all_goals first|rfl|omega|simp
/-! ### The law -/
theorem sp3 (ls ks:List Int)(x:Int)(hl:okK ls)(hk:okK ks)(x0:0≤x)(x1:x≤255):SpecP Try.prog G 3 [.agg [.imm (.ints .u8 ls) ls.length none,.imm (.ints .u8 ks) ks.length none,.int .u8 x]] (.bool true) []:=by
 refine fnP_spec hcm hmx (tabL_ok noCh_ok ⟨st4,st5,rgt8,st7,ct8,trivial⟩:TabOk Try.prog G V3) ok3 rfl (ob_s3 ls ks x) ?_
 dsimp -failIfUnchanged -proj -eta -iota -zeta only[rd,rdw,qs,ql,qx]
 have e5:(if(5:Int)<(ls.length:Int)then(5:Int)else(ls.length:Int)).toNat=min 5 ls.length:=by split<;>omega
 have hmn:0≤(if(5:Int)<(ls.length:Int)then(5:Int)else(ls.length:Int)):=by split<;>omega
 have hL:okK (ls.take (min 5 ls.length)):=fun y hy=>hl y (List.mem_of_mem_take hy)
 have hlen:(ls.take (min 5 ls.length)).length=min 5 ls.length:=by rw[List.length_take];omega
 have hr:=ring_data hL hk (x:=x) (by omega) x0 x1
 have hst:=ring_strip hr
 have hc:=ring_count hr
 have hrk:=hr.2.2.2.1
 have h8:=hr.2.1
 have h0:=hr.2.2.1
 simp only[e5,hlen,inR_i64,and_true,true_and,leb_iff,len'_iff,iI,size_ints,eq_self_iff_true]
 generalize rA (ls.take (min 5 ls.length))=a at*
 generalize rK (ls.take (min 5 ls.length)) ks x=k at*
 have ek:k.length-1=(k.take (k.length-1)).length:=by rw[List.length_take];omega
 repeat' first|exact hmn|exact hL|exact hk|exact hr|exact hst|exact ek|omega|apply And.intro
end Go.Proofs.Ythiammkiobbclaa.X
