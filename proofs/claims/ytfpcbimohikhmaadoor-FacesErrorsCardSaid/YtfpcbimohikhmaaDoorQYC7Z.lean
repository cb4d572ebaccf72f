/-
 Contracts: which faces meet; the library's sort of joints, laid (by the kit's own command).
-/
import Derived.Shelf.SlSortCmp.NoneTotal
import Derived.Ground.SlsfProg
import Derived.Test.YtfpcbimohikhmaaDoorQYO5Z
import Derived.Test.YtfpcbimohikhmaaDoorQYO5sZ
import Derived.Test.YtfpcbimohikhmaaDoorQPHZ
set_option maxRecDepth 1000000
set_option linter.unusedVariables false
set_option linter.unusedSimpArgs false
namespace Go.Proofs.YtfpcbimohikhmaaDoor.X
open Go Go.Ab Go.Shelf Go.Proofs

def sortJt_ren:Go.Shelf.Ren:=⟨fun|6=>71|15=>94|14=>97|28=>111|29=>112|20=>113|21=>114|22=>115|23=>116|24=>117|25=>118|26=>119|27=>120|46=>128|47=>124|48=>125|49=>129|50=>130|57=>132|n=>n,fun|22=>68|24=>75|25=>129|3=>3|39=>163|0=>0|53=>189|55=>191|4=>4|46=>183|45=>182|50=>154|5=>5|9=>9|66=>201|70=>205|76=>209|77=>138|n=>n,fun|n=>n⟩
theorem sortJt:Go.Proofs.SlLaysF0.n6 Tryd.prog sortJt_ren:={
 mixed:=by kernel_rfl
 f6:=⟨Tryd.f71.name,by decide,Tryd.func71.trans (congrArg some (by kernel_rfl))⟩
 f14:=⟨Tryd.f97.name,by decide,Tryd.func97.trans (congrArg some (by kernel_rfl))⟩
 f15:=Tryd.func94.trans (congrArg some (by kernel_rfl))
 f20:=⟨Tryd.f113.name,by decide,Tryd.func113.trans (congrArg some (by kernel_rfl))⟩
 f21:=⟨Tryd.f114.name,by decide,Tryd.func114.trans (congrArg some (by kernel_rfl))⟩
 f22:=⟨Tryd.f115.name,by decide,Tryd.func115.trans (congrArg some (by kernel_rfl))⟩
 f23:=⟨Tryd.f116.name,by decide,Tryd.func116.trans (congrArg some (by kernel_rfl))⟩
 f24:=⟨Tryd.f117.name,by decide,Tryd.func117.trans (congrArg some (by kernel_rfl))⟩
 f25:=⟨Tryd.f118.name,by decide,Tryd.func118.trans (congrArg some (by kernel_rfl))⟩
 f26:=⟨Tryd.f119.name,by decide,Tryd.func119.trans (congrArg some (by kernel_rfl))⟩
 f27:=⟨Tryd.f120.name,by decide,Tryd.func120.trans (congrArg some (by kernel_rfl))⟩
 f28:=Tryd.func111.trans (congrArg some (by kernel_rfl))
 f29:=Tryd.func112.trans (congrArg some (by kernel_rfl))
 f46:=⟨Tryd.f128.name,by decide,Tryd.func128.trans (congrArg some (by kernel_rfl))⟩
 f47:=Tryd.func124.trans (congrArg some (by kernel_rfl))
 f48:=Tryd.func125.trans (congrArg some (by kernel_rfl))
 f49:=⟨Tryd.f129.name,by decide,Tryd.func129.trans (congrArg some (by kernel_rfl))⟩
 f50:=⟨Tryd.f130.name,by decide,Tryd.func130.trans (congrArg some (by kernel_rfl))⟩
 f57:=⟨Tryd.f132.name,by decide,Tryd.func132.trans (congrArg some (by kernel_rfl))⟩
 t0:=Tryd.underlying0
 a0:=Tryd.isAgg0
 z0:=Tryd.sizeOf0
 v0:=Tryd.zeroValue0
 t3:=Tryd.underlying3
 a3:=Tryd.isAgg3
 z3:=Tryd.sizeOf3
 v3:=Tryd.zeroValue3
 t4:=Tryd.underlying4
 a4:=Tryd.isAgg4
 z4:=Tryd.sizeOf4
 v4:=Tryd.zeroValue4
 t5:=Tryd.underlying5
 a5:=Tryd.isAgg5
 z5:=Tryd.sizeOf5
 v5:=Tryd.zeroValue5
 t9:=Tryd.underlying9
 a9:=Tryd.isAgg9
 z9:=Tryd.sizeOf9
 v9:=Tryd.zeroValue9
 t22:=Tryd.underlying68
 a22:=Tryd.isAgg68
 z22:=Tryd.sizeOf68
 v22:=Tryd.zeroValue68
 t25:=Tryd.underlying129
 a25:=Tryd.isAgg129
 z25:=Tryd.sizeOf129
 v25:=Tryd.zeroValue129
 t39:=Tryd.underlying163
 a39:=Tryd.isAgg163
 z39:=Tryd.sizeOf163
 v39:=Tryd.zeroValue163
 t45:=Tryd.underlying182
 a45:=Tryd.isAgg182
 z45:=Tryd.sizeOf182
 v45:=Tryd.zeroValue182
 t46:=Tryd.underlying183
 a46:=Tryd.isAgg183
 z46:=Tryd.sizeOf183
 v46:=Tryd.zeroValue183
 t50:=Tryd.underlying154
 a50:=Tryd.isAgg154
 z50:=Tryd.sizeOf154
 v50:=Tryd.zeroValue154
 t53:=Tryd.underlying189
 a53:=Tryd.isAgg189
 z53:=Tryd.sizeOf189
 v53:=Tryd.zeroValue189
 t55:=Tryd.underlying191
 a55:=Tryd.isAgg191
 z55:=Tryd.sizeOf191
 v55:=Tryd.zeroValue191
 t66:=Tryd.underlying201
 a66:=Tryd.isAgg201
 z66:=Tryd.sizeOf201
 v66:=Tryd.zeroValue201
 t70:=Tryd.underlying205
 a70:=Tryd.isAgg205
 z70:=Tryd.sizeOf205
 v70:=Tryd.zeroValue205
 t76:=Tryd.underlying209
 a76:=Tryd.isAgg209
 z76:=Tryd.sizeOf209
 v76:=Tryd.zeroValue209
 t77:=Tryd.underlying138
 a77:=Tryd.isAgg138
 z77:=Tryd.sizeOf138
 v77:=Tryd.zeroValue138}

theorem hcj:Gj.cm=cmOf Tryd.prog:=rfl
theorem J0ok:TabOk Tryd.prog Gj T0:=tabL_ok (l:=[]) noCh_ok trivial
theorem s72 (x y:Jb):SpecP Tryd.prog Gj 72 [.agg (RJb.av x),.agg (RJb.av y)] (.int .i64 (cmpJ x y)) []:=by
 obtain⟨⟨a,b,u⟩,hx⟩:=x
 obtain⟨⟨c,d,v⟩,hy⟩:=y
 refine fnP_spec hcj hmx J0ok ok72 rfl (ob_os72 a b u c d v) ?_
 unfold bndJ at hx hy
 simp only at hx hy
 unfold cmI
 simp only[bne_iff_ne,ne_eq,bne_eq_false_iff_eq,inR_i64,and_true]
 refine⟨fun h=>⟨by omega,?_⟩,fun h=>⟨by omega,?_⟩⟩
 ·have:(a !=c)=true:=by simpa using h
  rw[this];rfl
 ·have:(a !=c)=false:=by simpa using h
  rw[this];rfl
theorem c72 (W:World)(x y:Jb):Calls Tryd.prog 72 #[.agg (RJb.vl x).toArray,.agg (RJb.vl y).toArray] W fun e w'=>e=.returned (.int .i64 (cmpJ x y))∧∃q os',w'=Go.Sort.grow (W.drewN q) os':=
 calls_of_strong (G:=Gj) trivial (fun _=>rfl) (s72 x y) Tryd.func72 (by kernel_rfl) rfl W
  (.cons _ _ _ _ (.agg _ _ (.cons _ _ _ _ (.int _ _) (.cons _ _ _ _ (.int _ _) (.cons _ _ _ _ (.int _ _) .nil)))) (.cons _ _ _ _ (.agg _ _ (.cons _ _ _ _ (.int _ _) (.cons _ _ _ _ (.int _ _) (.cons _ _ _ _ (.int _ _) .nil)))) .nil))
theorem cmpJ_lt (x y:Jb):cmpJ x y<0↔ltJ x.1 y.1:=cmI_lt x.1 y.1
theorem swoJ:Go.Sort.SWO (ltOf cmpJ) where
 irrefl x:=by simp only[ltOf,decide_eq_false_iff_not,cmpJ_lt];unfold ltJ;omega
 trans x y z h1 h2:=by simp only[ltOf,decide_eq_true_eq,cmpJ_lt]at *; unfold ltJ at *; omega
 ntrans x y z h1 h2:=by simp only[ltOf,decide_eq_false_iff_not,cmpJ_lt]at *; unfold ltJ at *; omega
theorem toJ_val {x:Jt}(h:bndJ x):(toJ x).1=x:=by unfold toJ;rw[dif_pos h]
theorem flat_toJ:∀{l:List Jt},(∀x∈l,bndJ x)→(l.map toJ).flatMap RJb.av=flJ l
 |[],_=>rfl
 |x::l,h=>by
  have ih:=flat_toJ (l:=l) fun y hy=>h y (by simp[hy])
  rw[List.map_cons,List.flatMap_cons,ih]
  have:RJb.av (toJ x)=[.int .i64 x.1,.int .i64 x.2.1,.int .i64 x.2.2]:=by
   have:=toJ_val (h x (by simp))
   show([(IntKind.i64,(toJ x).1.1),(.i64,(toJ x).1.2.1),(.i64,(toJ x).1.2.2)].map fun p=>AV.int p.1 p.2)=_
   rw[this];rfl
  rw[this]
  unfold flJ
  rw[List.flatMap_cons]
theorem flatJ_val:∀(l:List Jb),l.flatMap RJb.av=flJ (l.map (·.1))
 |[]=>rfl
 |x::l=>by
  rw[List.flatMap_cons,flatJ_val l]
  unfold flJ
  rw[List.map_cons,List.flatMap_cons];rfl
def srtJ (l:List Jt):List Jt:=(sortL cmpJ (l.map toJ)).map (·.1)
theorem srtJ_ok {l:List Jt}(h:∀x∈l,bndJ x):(srtJ l).Perm l∧(srtJ l).Pairwise (fun x y=>¬ ltJ y x):=by
 obtain⟨h1,h2⟩:=sortL_perm swoJ (l.map toJ)
 unfold srtJ
 constructor
 ·have h3:=h1.map (·.1)
  rw[List.map_map]at h3
  have h4:l.map ((fun x:Jb=>x.1)∘toJ)=l:=by
   have:∀x∈l,((fun x:Jb=>x.1)∘toJ) x=id x:=fun x hx=>toJ_val (h x hx)
   rw[List.map_congr_left this,List.map_id]
  rw[h4]at h3
  exact h3
 ·rw[List.pairwise_map]
  exact h2.imp fun{x y} h=>by rw[← cmpJ_lt];exact h
theorem sp71 {id:Nat}{l:List Jt}{cap:Option Nat}{nl:Option Bool}{bx:Bool}(h:l.length<1000000000)(hb:∀x∈l,bndJ x):
  SpecD Tryd.prog G (.fn 71 [] []) [.full id l.length,.fn 72 [] []] [(id,.blk ⟨.vals (flJ l),3,l.length,cap,nl,true,bx⟩)] (.tup [])
   [(id,.blk ⟨.vals (flJ (srtJ l)),3,l.length,cap,nl,true,bx⟩)] []:=by
 have h:=sortF_spec sortJt RJb (by decide) Tryd.isAgg75 Tryd.sizeOf75 cmpJ swoJ rfl Tryd.func71 (by kernel_rfl) rfl (fun args w=>callFunc_enter Tryd.func72 (by kernel_rfl) rfl args w) c72 (id:=id) (d:=l.map toJ) (cap:=cap) (nl:=nl) (bx:=bx) (G:=G) (by rw[List.length_map];exact h)
 rw[List.length_map,flat_toJ hb,flatJ_val]at h
 exact h
theorem grF_bnd {w h:Int}{F:List Int}{l:List Cr}(hs:s5 w h)(hv:vP w h l)(hF:okF w h F):∀x∈(grF w h F l).1.map entJ,bndJ x:=by
 intro x hx
 have n100:=(nC_le hs).1
 obtain⟨e,he,rfl⟩:=List.mem_map.1 hx
 obtain⟨c,hc,h1,_⟩:=grF_ent he
 obtain⟨f1,f2,f3,_⟩:=fa_ok hs hv hF hc
 rw[h1]
 unfold bndJ
 simp only
 omega
theorem put_len {k v:List Int}{c:Nat}:∀(es:List Ent3),(mput es k v c).length≤es.length+1
 |[]=>by simp[mput]
 |e::r=>by
  have:=put_len (k:=k) (v:=v) (c:=c) r
  simp only[mput,cond_eq_ite]
  split
  ·simp
  ·simp;omega
theorem grF_len (w h:Int)(F:List Int)(l:List Cr):(grF w h F l).1.length≤l.length:=by
 refine snoc_ind (P:=fun l=>(grF w h F l).1.length≤l.length) (by simp[grF]) (fun l c ih=>?_) l
 rw[grF_snoc,List.length_append]
 have:=put_len (k:=grK w h F c) (v:=[grV (grF w h F l).1 (grK w h F c)+1]) (c:=(grF w h F l).2) (grF w h F l).1
 unfold grS
 simp only[List.length_cons,List.length_nil]
 omega
/-- The list of a permutation of the map. -/
theorem jn_perm {w h:Int}{F:List Int}{l:List Cr}(hs:s5 w h)(hv:vP w h l)(hF:okF w h F){L:List Jt}(hp:L.Perm ((grF w h F l).1.map entJ)):srtJ L=jnL w h F l∧L.length=(grF w h F l).1.length∧(jnL w h F l).length=L.length∧∀x∈L,bndJ x:=by
 have hb:∀x∈L,bndJ x:=fun x hx=>grF_bnd hs hv hF x (hp.mem_iff.1 hx)
 obtain⟨h1,h2⟩:=srtJ_ok hb
 have h3:=srt_jnL hs hv hF (h1.trans hp) h2
 refine⟨h3,by rw[hp.length_eq,List.length_map],by rw[← h3,h1.length_eq],hb⟩
theorem ch71ok {w h:Int}{F:List Int}{l:List Cr}(hs:s5 w h)(hv:vP w h l)(hF:okF w h F)(hz:l.length<1000000000):ChOk Tryd.prog G (ch71 w h F l):=by
 intro hp cv args r hr hq
 unfold ch71 at hr
 split at hr
 ·rw[cond_eq_ite]at hr
  split at hr
  ·rename_i hc
   simp only[Bool.and_eq_true]at hc
   cases Nat.eq_of_beq_eq_true hc.1
   cases Nat.eq_of_beq_eq_true hc.2.1
   cases Nat.eq_of_beq_eq_true hc.2.2
   cases hr
   obtain⟨rfl,L,rfl,rfl,hperm⟩:=hq
   obtain⟨p1,p2,p3,p4⟩:=jn_perm hs hv hF hperm
   have:=grF_len w h F l
   rw[← p1]
   exact sp71 (by omega) p4
  ·cases hr
 ·cases hr
theorem ct70v:CtOk Tryd.prog G 70 e70v:=by
 intro args r h hp
 unfold e70v at h
 split at h<;>cases h
 rename_i w h i e
 obtain⟨h1,h2⟩:=hp
 have h3:=ct70 [.agg [.int .i64 w,.int .i64 h],.int .i64 i,.int .u8 e] _ rfl h2
 have e1:neE w h i e=0:=by
  unfold okN at h1
  simp only[Bool.and_eq_true,decide_eq_true_eq]at h1
  unfold neE
  rw[h1.1,decide_eq_true h1.2.1,h1.2.2];rfl
 rw[h1,e1]at h3
 exact h3
theorem YGrok {w h:Int}{F:List Int}{l:List Cr}(hs:s5 w h)(hv:vP w h l)(hF:okF w h F)(hz:l.length<1000000000):TabOk Tryd.prog G (YGr w h F l):=tabL_ok (ch71ok hs hv hF hz) ⟨ct49v,ct70v,trivial⟩
set_option maxHeartbeats 2000000 in
theorem sp37 {w h:Int}{l:List Cr}(hs:s5 w h)(hv:vP w h l):SpecP Tryd.prog G 37 [patV w h l] (.tup [.full 0 (jnC w h l).length,.int .i64 0]) [blkJn (jnC w h l)]:=by
 have hz:=(okV_of hs hv).1.2.2
 rw[unC_flat]at hz
 refine fnP_spec hcm hmx (YGrok hs hv (okF_facL hs l) hz) ok37 rfl (ob_o37 w h l) ?_
 dsimp -failIfUnchanged -proj -eta -iota -zeta only[rd,rdw,qs,ql,qx]
 obtain⟨n100,n4⟩:=nC_le hs
 have hF:=okF_facL hs l
 have hFl:=hF.1
 have hlc:=vP_len hs hv
 have hn2:4*w*h=(nC w h:Nat):=by
  have:=s5_len hs
  unfold nC;omega
 unfold jnC
 simp only[unC_flat]
 generalize facL w h l=F at*
 have hd:∀n,(F.drop n).getD 0 0=gI F n:=fun n=>by rw[gI_getD,drop_gI]
 simp only[hd,ltb_iff,ltb_no,leb_iff,leb_no,len'_iff,ltn_iff,inR_i64,and_true,true_and,size_vals,Cont.size,List.length_drop,Int.toNat_natCast]
 refine⟨⟨hs,okV_of hs hv⟩,⟨0,rfl,by omega,rfl,rfl⟩,?_⟩
 rintro⟨i,es,ck⟩ ⟨n,hi,hnn,he,hc⟩
 simp only at hi he hc ⊢
 subst hi;subst he;subst hc
 simp only[Int.toNat_natCast]
 refine⟨fun hlt=>?_,fun hge=>?_⟩
 ·have g1:n<l.length:=by omega
  obtain⟨c1,c2,c3⟩:=cget g1
  have hx:l[n]∈l:=List.getElem_mem g1
  have hcr:=vP_cr hs hv hx
  have hat:=cAt g1
  have hK:grK w h F l[n]=[if gI F (nbI w h (cC l n) (cE l n)).toNat<gI F (cC l n).toNat then gI F (nbI w h (cC l n) (cE l n)).toNat else gI F (cC l n).toNat,if gI F (nbI w h (cC l n) (cE l n)).toNat>gI F (cC l n).toNat then gI F (nbI w h (cC l n) (cE l n)).toNat else gI F (cC l n).toNat]:=by rw[hat];rfl
  rw[← hK]
  have hsn:grF w h F (l.take (n+1))=grS w h F (grF w h F (l.take n)) l[n]:=by rw[take_at g1,grF_snoc]
  have hW:=grF_wf w h F (l.take n)
  have hg:=grF_get w h F (l.take n) (loA w h F l[n]) (hiA w h F l[n])
  have hcl:cntJ w h F (l.take n) (loA w h F l[n]) (hiA w h F l[n])≤n:=by
   have:=List.countP_le_length (p:=fun c=>prJ w h F c==(loA w h F l[n],hiA w h F l[n])) (l:=l.take n)
   rw[List.length_take]at this
   unfold cntJ;omega
  have hgv:0≤grV (grF w h F (l.take n)).1 (grK w h F l[n])∧grV (grF w h F (l.take n)).1 (grK w h F l[n])≤n:=by
   unfold grV grK
   rw[hg]
   split
   ·simp;omega
   ·simp
  rw[hat]at hcr
  simp only at hcr
  obtain⟨a1,a2,a3,a4,a5,a6⟩:=hcr
  have hb:=hasB_iff.1 a1
  have hm:=hW.mset (k:=grK w h F l[n]) (z:=(mget (grF w h F (l.take n)).1 (grK w h F l[n])).getD []) (v:=[grV (grF w h F (l.take n)).1 (grK w h F l[n])+1])
  have hfl:=flatC_len l
  unfold grS at hsn
  unfold grV at hm hgv hsn
  have hsn1:=congrArg Prod.fst hsn
  have hsn2:=congrArg Prod.snd hsn
  simp only at hsn1 hsn2
  repeat' (with_reducible apply And.intro)
  any_goals first|omega|exact c1|exact c2|exact c3|exact a6|exact a2|exact hm.1
  refine⟨n+1,by omega,by omega,?_,hsn2.symm⟩
  rw[hm.2]
  exact hsn1.symm
 ·have:n=l.length:=by omega
  subst this
  simp only[List.take_length,true_and]
  have hW:=grF_wf w h F l
  have hel:=grF_len w h F l
  refine⟨by omega,⟨[],rfl,rfl,by rw[left0];exact .refl _⟩,?_⟩
  rintro⟨v,m,seen⟩ ⟨L,hv1,hm,hp⟩
  simp only at hv1 hm hp ⊢
  subst hv1;subst hm
  refine⟨hW.old,fun hnil=>?_,fun e he=>?_⟩
  ·rw[hnil,List.map_nil,List.append_nil]at hp
   obtain⟨p1,p2,p3,p4⟩:=jn_perm hs hv hF hp
   exact⟨⟨L,rfl,rfl,hp⟩,by omega,by omega,by omega⟩
  ·have hlen:=hp.length_eq
   rw[List.length_append,List.length_map,List.length_map]at hlen
   have hpos:0<(leftE (grF w h F l).1 seen).length:=List.length_pos_of_mem he
   have hlp:=left_perm hW he
   refine⟨ent_get hW he,by omega,by omega,⟨L++[entJ e],?_,by simp,?_⟩,left_len he⟩
   ·rw[flJ_app];rfl
   ·refine List.Perm.trans ?_ hp
    rw[List.append_assoc]
    exact List.Perm.append_left _ (by
     have:=(hlp.map entJ).symm
     rw[List.map_cons]at this
     exact this)
end Go.Proofs.YtfpcbimohikhmaaDoor.X
