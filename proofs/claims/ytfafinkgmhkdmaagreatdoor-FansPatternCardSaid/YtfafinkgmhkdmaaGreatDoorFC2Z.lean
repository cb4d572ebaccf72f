/-
 The contracts of walking around a corner, sorting rays, creases at a corner, the fan of a corner.
-/
import Derived.Test.YtfafinkgmhkdmaaGreatDoorFC1Z
import Derived.Test.YtfafinkgmhkdmaaGreatDoorVC8Z
import Derived.Test.YtfafinkgmhkdmaaGreatDoorVC14Z
set_option maxRecDepth 1000000
set_option linter.unusedVariables false
set_option linter.unusedSimpArgs false
namespace Go.Proofs.YtfafinkgmhkdmaaGreatDoor.X
open Go Go.Ab

theorem addR_lt {L:List Ry}{d k:Int}(m n:Nat)(h:L.length+(m+1)<n):(addR L d k).length+m<n:=by
 have:=addR_len L d k
 omega
theorem addR_lt0 {L:List Ry}{d k:Int}(n:Nat)(h:L.length+1<n):(addR L d k).length<n:=by
 have:=addR_len L d k
 omega
theorem sp55a (l:List P.Cr)(hz:l.length<1000000000)(hg:P.edg l):SpecD Tryz.prog G (.fn 55 [] []) [.yld 9002,.ptr 37056 0,.ptr 37057 0] (H8 l [] 2 2 (some 0)) (.tup []) [(37057,.blk (ptB 2 2)),(37056,.blk (ptB 2 2)),(9001,rowR (walkR l 2 2)),(512,bxO (.full 9001 (walkR l 2 2).length))] []:=by
 refine fnD_spec hcm hmx (TY8ok l 2 2) ok55 rfl (ob_d_55a l) ?_
 simp only[unR_flR]
 repeat' (with_reducible apply And.intro)
 all_goals first
  |exact hz
  |exact hg
  |exact True.intro
  |with_reducible rfl
  |(unfold inZ;decide)
  |decide
  |(refine addR_lt0 _ ?_;(repeat' (refine addR_lt _ _ ?_));decide)
  |rfl
theorem sp55b (l:List P.Cr)(hz:l.length<1000000000)(hg:P.edg l):SpecD Tryz.prog G (.fn 55 [] []) [.yld 9002,.ptr 37056 0,.ptr 37057 0] (H8 l [] 1 1 (some 0)) (.tup []) [(37057,.blk (ptB 2 2)),(37056,.blk (ptB 1 1)),(9001,rowR (walkR l 1 1)),(512,bxO (.full 9001 (walkR l 1 1).length))] []:=by
 refine fnD_spec hcm hmx (TY8ok l 1 1) ok55 rfl (ob_d_55b l) ?_
 simp only[unR_flR]
 repeat' (with_reducible apply And.intro)
 all_goals first
  |exact hz
  |exact hg
  |exact True.intro
  |with_reducible rfl
  |(unfold inZ;decide)
  |decide
  |(refine addR_lt0 _ ?_;(repeat' (refine addR_lt _ _ ?_));decide)
  |rfl
theorem sp55c (l:List P.Cr)(hz:l.length<1000000000)(hg:P.edg l):SpecD Tryz.prog G (.fn 55 [] []) [.yld 9002,.ptr 37056 0,.ptr 37057 0] (H8 l [] 3 1 (some 0)) (.tup []) [(37057,.blk (ptB 2 2)),(37056,.blk (ptB 3 1)),(9001,rowR (walkR l 3 1)),(512,bxO (.full 9001 (walkR l 3 1).length))] []:=by
 refine fnD_spec hcm hmx (TY8ok l 3 1) ok55 rfl (ob_d_55c l) ?_
 simp only[unR_flR]
 repeat' (with_reducible apply And.intro)
 all_goals first
  |exact hz
  |exact hg
  |exact True.intro
  |with_reducible rfl
  |(unfold inZ;decide)
  |decide
  |(refine addR_lt0 _ ?_;(repeat' (refine addR_lt _ _ ?_));decide)
  |rfl
theorem sp55d (l:List P.Cr)(hz:l.length<1000000000)(hg:P.edg l):SpecD Tryz.prog G (.fn 55 [] []) [.yld 9002,.ptr 37056 0,.ptr 37057 0] (H8 l [] 1 3 (some 0)) (.tup []) [(37057,.blk (ptB 2 2)),(37056,.blk (ptB 1 3)),(9001,rowR (walkR l 1 3)),(512,bxO (.full 9001 (walkR l 1 3).length))] []:=by
 refine fnD_spec hcm hmx (TY8ok l 1 3) ok55 rfl (ob_d_55d l) ?_
 simp only[unR_flR]
 repeat' (with_reducible apply And.intro)
 all_goals first
  |exact hz
  |exact hg
  |exact True.intro
  |with_reducible rfl
  |(unfold inZ;decide)
  |decide
  |(refine addR_lt0 _ ?_;(repeat' (refine addR_lt _ _ ?_));decide)
  |rfl
theorem sp55e (l:List P.Cr)(hz:l.length<1000000000)(hg:P.edg l):SpecD Tryz.prog G (.fn 55 [] []) [.yld 9002,.ptr 37056 0,.ptr 37057 0] (H8 l [] 3 3 (some 0)) (.tup []) [(37057,.blk (ptB 2 2)),(37056,.blk (ptB 3 3)),(9001,rowR (walkR l 3 3)),(512,bxO (.full 9001 (walkR l 3 3).length))] []:=by
 refine fnD_spec hcm hmx (TY8ok l 3 3) ok55 rfl (ob_d_55e l) ?_
 simp only[unR_flR]
 repeat' (with_reducible apply And.intro)
 all_goals first
  |exact hz
  |exact hg
  |exact True.intro
  |with_reducible rfl
  |(unfold inZ;decide)
  |decide
  |(refine addR_lt0 _ ?_;(repeat' (refine addR_lt _ _ ?_));decide)
  |rfl
/-! ### Sorting -/
open Go.Shelf Go.Proofs
def sortRy_ren:Go.Shelf.Ren:=⟨fun|6=>35|15=>50|14=>62|28=>82|29=>83|20=>91|21=>92|22=>93|23=>94|24=>95|25=>96|26=>97|27=>98|46=>123|47=>114|48=>115|49=>124|50=>125|57=>138|n=>n,fun|22=>41|24=>47|25=>88|3=>3|39=>101|0=>0|53=>138|55=>140|4=>4|46=>131|45=>130|50=>135|5=>5|9=>9|66=>180|70=>184|76=>199|77=>200|n=>n,fun|n=>n⟩
theorem sortRy:Go.Proofs.SlLaysF0.n6 Tryz.prog sortRy_ren:={
 mixed:=by kernel_rfl
 f6:=⟨Tryz.f35.name,by decide,Tryz.func35.trans (congrArg some (by kernel_rfl))⟩
 f14:=⟨Tryz.f62.name,by decide,Tryz.func62.trans (congrArg some (by kernel_rfl))⟩
 f15:=Tryz.func50.trans (congrArg some (by kernel_rfl))
 f20:=⟨Tryz.f91.name,by decide,Tryz.func91.trans (congrArg some (by kernel_rfl))⟩
 f21:=⟨Tryz.f92.name,by decide,Tryz.func92.trans (congrArg some (by kernel_rfl))⟩
 f22:=⟨Tryz.f93.name,by decide,Tryz.func93.trans (congrArg some (by kernel_rfl))⟩
 f23:=⟨Tryz.f94.name,by decide,Tryz.func94.trans (congrArg some (by kernel_rfl))⟩
 f24:=⟨Tryz.f95.name,by decide,Tryz.func95.trans (congrArg some (by kernel_rfl))⟩
 f25:=⟨Tryz.f96.name,by decide,Tryz.func96.trans (congrArg some (by kernel_rfl))⟩
 f26:=⟨Tryz.f97.name,by decide,Tryz.func97.trans (congrArg some (by kernel_rfl))⟩
 f27:=⟨Tryz.f98.name,by decide,Tryz.func98.trans (congrArg some (by kernel_rfl))⟩
 f28:=Tryz.func82.trans (congrArg some (by kernel_rfl))
 f29:=Tryz.func83.trans (congrArg some (by kernel_rfl))
 f46:=⟨Tryz.f123.name,by decide,Tryz.func123.trans (congrArg some (by kernel_rfl))⟩
 f47:=Tryz.func114.trans (congrArg some (by kernel_rfl))
 f48:=Tryz.func115.trans (congrArg some (by kernel_rfl))
 f49:=⟨Tryz.f124.name,by decide,Tryz.func124.trans (congrArg some (by kernel_rfl))⟩
 f50:=⟨Tryz.f125.name,by decide,Tryz.func125.trans (congrArg some (by kernel_rfl))⟩
 f57:=⟨Tryz.f138.name,by decide,Tryz.func138.trans (congrArg some (by kernel_rfl))⟩
 t0:=Tryz.underlying0
 a0:=Tryz.isAgg0
 z0:=Tryz.sizeOf0
 v0:=Tryz.zeroValue0
 t3:=Tryz.underlying3
 a3:=Tryz.isAgg3
 z3:=Tryz.sizeOf3
 v3:=Tryz.zeroValue3
 t4:=Tryz.underlying4
 a4:=Tryz.isAgg4
 z4:=Tryz.sizeOf4
 v4:=Tryz.zeroValue4
 t5:=Tryz.underlying5
 a5:=Tryz.isAgg5
 z5:=Tryz.sizeOf5
 v5:=Tryz.zeroValue5
 t9:=Tryz.underlying9
 a9:=Tryz.isAgg9
 z9:=Tryz.sizeOf9
 v9:=Tryz.zeroValue9
 t22:=Tryz.underlying41
 a22:=Tryz.isAgg41
 z22:=Tryz.sizeOf41
 v22:=Tryz.zeroValue41
 t25:=Tryz.underlying88
 a25:=Tryz.isAgg88
 z25:=Tryz.sizeOf88
 v25:=Tryz.zeroValue88
 t39:=Tryz.underlying101
 a39:=Tryz.isAgg101
 z39:=Tryz.sizeOf101
 v39:=Tryz.zeroValue101
 t45:=Tryz.underlying130
 a45:=Tryz.isAgg130
 z45:=Tryz.sizeOf130
 v45:=Tryz.zeroValue130
 t46:=Tryz.underlying131
 a46:=Tryz.isAgg131
 z46:=Tryz.sizeOf131
 v46:=Tryz.zeroValue131
 t50:=Tryz.underlying135
 a50:=Tryz.isAgg135
 z50:=Tryz.sizeOf135
 v50:=Tryz.zeroValue135
 t53:=Tryz.underlying138
 a53:=Tryz.isAgg138
 z53:=Tryz.sizeOf138
 v53:=Tryz.zeroValue138
 t55:=Tryz.underlying140
 a55:=Tryz.isAgg140
 z55:=Tryz.sizeOf140
 v55:=Tryz.zeroValue140
 t66:=Tryz.underlying180
 a66:=Tryz.isAgg180
 z66:=Tryz.sizeOf180
 v66:=Tryz.zeroValue180
 t70:=Tryz.underlying184
 a70:=Tryz.isAgg184
 z70:=Tryz.sizeOf184
 v70:=Tryz.zeroValue184
 t76:=Tryz.underlying199
 a76:=Tryz.isAgg199
 z76:=Tryz.sizeOf199
 v76:=Tryz.zeroValue199
 t77:=Tryz.underlying200
 a77:=Tryz.isAgg200
 z77:=Tryz.sizeOf200
 v77:=Tryz.zeroValue200}

theorem s36 (x y:Rb):SpecP Tryz.prog Gs 36 [.agg (RRb.av x),.agg (RRb.av y)] (.int .i64 (cmpR x y)) []:=by
 obtain⟨⟨d,k⟩,hx⟩:=x
 obtain⟨⟨d',k'⟩,hy⟩:=y
 refine fnP_spec hcs hmx S0ok ok36 rfl (ob_os36 d k d' k') ?_
 unfold bndR at hx hy
 simp only at hx hy
 simp only[inR_i64,cmpR,and_true]
 omega
theorem c36 (W:World)(x y:Rb):Calls Tryz.prog 36 #[.agg (RRb.vl x).toArray,.agg (RRb.vl y).toArray] W fun e w'=>e=.returned (.int .i64 (cmpR x y))∧∃q os',w'=Go.Sort.grow (W.drewN q) os':=
 calls_of_strong (G:=Gs) trivial (fun _=>rfl) (s36 x y) Tryz.func36 (by kernel_rfl) rfl W
  (.cons _ _ _ _ (.agg _ _ (.cons _ _ _ _ (.int _ _) (.cons _ _ _ _ (.int _ _) .nil))) (.cons _ _ _ _ (.agg _ _ (.cons _ _ _ _ (.int _ _) (.cons _ _ _ _ (.int _ _) .nil))) .nil))
theorem cmpR_lt (x y:Rb):cmpR x y<0↔x.1.1<y.1.1:=by unfold cmpR;omega
theorem swoR:Go.Sort.SWO (ltOf cmpR) where
 irrefl x:=by simp only[ltOf,decide_eq_false_iff_not,cmpR_lt];omega
 trans x y z h1 h2:=by simp only[ltOf,decide_eq_true_eq,cmpR_lt]at *; omega
 ntrans x y z h1 h2:=by simp only[ltOf,decide_eq_false_iff_not,cmpR_lt]at *; omega
theorem toRb_val {x:Ry}(h:bndR x):(toRb x).1=x:=by unfold toRb;rw[dif_pos h]
theorem flat_toRb:∀{l:List Ry},(∀x∈l,bndR x)→(l.map toRb).flatMap RRb.av=flR l
 |[],_=>rfl
 |x::l,h=>by
  have ih:=flat_toRb (l:=l) fun y hy=>h y (by simp[hy])
  rw[List.map_cons,List.flatMap_cons,ih]
  have:RRb.av (toRb x)=RRy.av x:=by
   have:=toRb_val (h x (by simp))
   show([(IntKind.i64,(toRb x).1.1),(.u8,(toRb x).1.2)].map fun p=>AV.int p.1 p.2)=_
   rw[this];rfl
  rw[this]
  unfold flR
  rw[List.flatMap_cons]
theorem flat_valR:∀(l:List Rb),l.flatMap RRb.av=flR (l.map (·.1))
 |[]=>rfl
 |x::l=>by
  rw[List.flatMap_cons,flat_valR l]
  unfold flR
  rw[List.map_cons,List.flatMap_cons];rfl
theorem srtR_ok {l:List Ry}(h:∀x∈l,bndR x):(srtR l).Perm l∧(srtR l).Pairwise (fun x y=>¬ y.1<x.1):=by
 obtain⟨h1,h2⟩:=sortL_perm swoR (l.map toRb)
 unfold srtR
 constructor
 ·have h3:=h1.map (·.1)
  rw[List.map_map]at h3
  have h4:l.map ((fun x:Rb=>x.1)∘toRb)=l:=by
   have:∀x∈l,((fun x:Rb=>x.1)∘toRb) x=id x:=fun x hx=>toRb_val (h x hx)
   rw[List.map_congr_left this,List.map_id]
  rw[h4]at h3
  exact h3
 ·rw[List.pairwise_map]
  exact h2.imp fun{x y} h=>by rw[← cmpR_lt];exact h
theorem sp35 {id:Nat}{l:List Ry}{cap:Option Nat}{nl:Option Bool}{bx:Bool}(h:l.length<1000000000)(hb:∀x∈l,bndR x):
  SpecD Tryz.prog G (.fn 35 [] []) [.full id l.length,.fn 36 [] []] [(id,.blk ⟨.vals (flR l),2,l.length,cap,nl,true,bx⟩)] (.tup [])
   [(id,.blk ⟨.vals (flR (srtR l)),2,l.length,cap,nl,true,bx⟩)] []:=by
 have h:=sortF_spec sortRy RRb (by decide) Tryz.isAgg47 Tryz.sizeOf47 cmpR swoR rfl Tryz.func35 (by kernel_rfl) rfl (fun args w=>callFunc_enter Tryz.func36 (by kernel_rfl) rfl args w) c36 (id:=id) (d:=l.map toRb) (cap:=cap) (nl:=nl) (bx:=bx) (G:=G) (by rw[List.length_map];exact h)
 rw[List.length_map,flat_toRb hb,flat_valR]at h
 exact h
theorem foldA_len (l:List P.Cr):∀(s:List (Int×Int×Int)) (L:List Ry),(s.foldl (fun L s=>addR L s.1 (knZ l s.2.1 s.2.2)) L).length≤L.length+s.length
 |[],L=>by simp
 |x::s,L=>by
  have h1:=foldA_len l s (addR L x.1 (knZ l x.2.1 x.2.2))
  have h2:=addR_len L x.1 (knZ l x.2.1 x.2.2)
  simp only[List.foldl_cons,List.length_cons]
  omega
theorem tabW_len (x y:Int):(tabW x y).length≤8:=by
 unfold tabW
 repeat' split
 all_goals decide
theorem walkR_len (l:List P.Cr)(x y:Int):(walkR l x y).length≤8:=by
 have h1:=foldA_len l (tabW x y) []
 have h2:=tabW_len x y
 unfold walkR
 simp only[List.length_nil]at h1
 omega
theorem raysL_len (l:List P.Cr)(x y:Int):(raysL l x y).length=(walkR l x y).length:=by
 unfold raysL srtR
 rw[List.length_map,(sortL_perm swoR _).1.length_eq,List.length_map]
theorem foldA_mem (l:List P.Cr):∀(s:List (Int×Int×Int)) (L:List Ry) {z:Ry},z∈s.foldl (fun L s=>addR L s.1 (knZ l s.2.1 s.2.2)) L→z∈L∨∃x∈s,z.1=x.1
 |[],L,z,h=>.inl h
 |x::s,L,z,h=>by
  simp only[List.foldl_cons]at h
  rcases foldA_mem l s _ h with h|⟨w,hw,e⟩
  ·unfold addR at h
   rw[cond_eq_ite]at h
   split at h
   ·exact .inl h
   ·rcases List.mem_append.1 h with h|h
    ·exact .inl h
    ·rw[List.mem_singleton]at h;subst h;exact .inr ⟨x,by simp,rfl⟩
  ·exact .inr ⟨w,by simp[hw],e⟩
theorem tabW_bnd {x y:Int}:∀s∈tabW x y,0≤s.1∧s.1≤7:=by
 unfold tabW
 repeat' split
 all_goals decide
theorem walkR_bnd (l:List P.Cr)(x y:Int):∀z∈walkR l x y,bndR z:=fun z hz=>by
 rcases foldA_mem l _ _ hz with h|⟨s,hs,e⟩
 ·cases h
 ·have:=tabW_bnd s hs
  unfold bndR
  rw[e];exact this
theorem s22:P.s5 2 2:=by unfold P.s5;decide
theorem okZ_len {l:List P.Cr}(h:okZ l):l.length<1000000000:=by
 have:=P.vP_len s22 h
 omega
theorem okZ_edg {l:List P.Cr}(h:okZ l):P.edg l:=P.vP_edg h
theorem sp55 (l:List P.Cr)(x y:Int)(hl:okZ l)(hp:ptZ x y):SpecD Tryz.prog G (.fn 55 [] []) [.yld 9002,.ptr 37056 0,.ptr 37057 0] (H8 l [] x y (some 0)) (.tup []) [(37057,.blk (ptB 2 2)),(37056,.blk (ptB x y)),(9001,rowR (walkR l x y)),(512,bxO (.full 9001 (walkR l x y).length))] []:=by
 have hz:=okZ_len hl
 have hg:=okZ_edg hl
 rcases hp with⟨rfl,rfl⟩|⟨rfl,rfl⟩|⟨rfl,rfl⟩|⟨rfl,rfl⟩|⟨rfl,rfl⟩
 ·exact sp55a l hz hg
 ·exact sp55b l hz hg
 ·exact sp55c l hz hg
 ·exact sp55d l hz hg
 ·exact sp55e l hz hg
theorem ch8sok (l:List P.Cr)(x y:Int):ChOk Tryz.prog G (ch8s l x y):=by
 intro h cv args r hr hp
 unfold ch8s at hr
 split at hr
 ·rw[cond_eq_ite]at hr
  split at hr
  ·rename_i hc
   simp only[Bool.and_eq_true]at hc
   cases Nat.eq_of_beq_eq_true hc.1
   cases Nat.eq_of_beq_eq_true hc.2.1
   cases Nat.eq_of_beq_eq_true hc.2.2.1
   cases Nat.eq_of_beq_eq_true hc.2.2.2
   cases hr
   obtain⟨rfl,h1,h2⟩:=hp
   exact sp55 l x y h1 h2
  ·cases hr
 ·rw[cond_eq_ite]at hr
  split at hr
  ·rename_i hc
   simp only[Bool.and_eq_true]at hc
   cases Nat.eq_of_beq_eq_true hc.1
   cases Nat.eq_of_beq_eq_true hc.2.1
   cases Nat.eq_of_beq_eq_true hc.2.2
   cases hr
   obtain⟨rfl,rfl,hb⟩:=hp
   have:=walkR_len l x y
   exact sp35 (by omega) hb
  ·cases hr
 ·cases hr
/-! ### Creases, Of -/
theorem T32ok:TabOk Tryz.prog G T32:=tabL_ok noCh_ok ⟨P.ct64,trivial⟩
theorem ct32z:CtOk Tryz.prog G 32 e32:=by
 intro args r h hp
 unfold e32 at h
 split at h<;>cases h
 rename_i x y
 refine(fnP_spec hcm hmx T32ok ok32 rfl (ob_o32 x y) ?_:SpecP Tryz.prog G 32 [_,_] _ _)
 rcases hp with⟨rfl,rfl⟩|⟨rfl,rfl⟩|⟨rfl,rfl⟩|⟨rfl,rfl⟩|⟨rfl,rfl⟩<;>decide
theorem ct37z:CtOk Tryz.prog G 37 e37:=by
 intro args r h hp
 unfold e37 at h
 split at h<;>cases h
 rename_i l n c
 have hp:l.length=2*n:=hp
 refine(fnP_spec hcm hmx T0ok ok37 rfl (ob_o37 l n) ?_:SpecP Tryz.prog G 37 [.imm (.vals l) n none] _ _).caps
 simp[Cont.size]
 omega
theorem T8zok (l:List P.Cr)(x y:Int):TabOk Tryz.prog G (T8z l x y):=tabL_ok (ch8sok l x y) ⟨P.ct27,ct32z,ct33z,ct37z,trivial⟩
theorem sp8 (l:List P.Cr)(x y:Int)(hl:okZ l)(hp:ptZ x y):SpecP Tryz.prog G 8 [patZ l,.agg [.int .i64 x,.int .i64 y]] (.tup [.imm (.vals (flR (raysL l x y))) (raysL l x y).length (some (raysL l x y).length),.int .i64 0]) []:=by
 refine fnP_spec hcm hmx (T8zok l x y) ok8 rfl (ob_o8 l x y) ?_
 have hr:=raysL_len l x y
 rw[unC_flC]
 have hc:=P.vP_chk s22 hl
 have h0:(P.chkI 2 2 l !=0)=false:=by rw[hc];rfl
 have hf:=flR_len (raysL l x y)
 repeat' (with_reducible apply And.intro)
 all_goals first
  |exact hl
  |exact hp
  |exact h0
  |exact okZ_len hl
  |exact okZ_edg hl
  |exact walkR_bnd l x y
  |exact True.intro
  |with_reducible rfl
  |exact hr.symm
  |(simp only[Cont.size];omega)
  |omega
  |rfl
theorem ct8z:CtOk Tryz.prog G 8 e8z:=by
 intro args r h hp
 unfold e8z at h
 split at h<;>cases h
 rename_i a n c x y
 obtain⟨⟨⟨h1,h2,h3⟩,h4⟩,h5⟩:=hp
 generalize P.unC a=l at*
 subst h1 h2
 exact(sp8 l x y h4 h5).caps
end Go.Proofs.YtfafinkgmhkdmaaGreatDoor.X
