/-
 The contracts of walking around a corner, sorting rays, creases at a corner, the fan of a corner.
-/
import Derived.Test.YtfafinkgmhkdmaaGreatDoorFC1Z
import Derived.Test.YtfafinkgmhkdmaaGreatDoorVC14Z
set_option maxRecDepth 1000000
set_option linter.unusedVariables false
set_option linter.unusedSimpArgs false
namespace Go.Proofs.YtfafinkgmhkdmaaGreatDoor.X
open Go Go.Ab
theorem A6G {L:List Ry}{d k:Int}(m n:Nat)(h:L.length+(m+1)<n):(A0h L d k).length+m<n:=by
 have:=A82 L d k;omega
theorem A4j {L:List Ry}{d k:Int}(n:Nat)(h:L.length+1<n):(A0h L d k).length<n:=by
 have:=A82 L d k;omega
theorem C9l (l:List P.Cr)(hz:l.length<1000000000)(hg:P.edg l):SpecD Tryz.prog G (.fn 55 [] []) [.yld 9002,.ptr 37056 0,.ptr 37057 0] (H8 l [] 2 2 (some 0)) (.tup []) [(37057,.blk (ptB 2 2)),(37056,.blk (ptB 2 2)),(9001,B0P (A0Z l 2 2)),(512,bxO (.full 9001 (A0Z l 2 2).length))] []:=by
 refine A1I hcm hmx (B6a l 2 2) C1G rfl (B7Z l) ?_;dsimp -failIfUnchanged -proj -eta -iota -zeta only[rd,rdw,qs,ql,qx];simp only[A4H]
 repeat' (with_reducible apply And.intro)
 all_goals first
  |exact hz
  |exact hg
  |exact True.intro
  |with_reducible rfl
  |(unfold inZ;decide)
  |decide
  |(refine A4j _ ?_;(repeat' (refine A6G _ _ ?_));decide)
  |rfl
theorem C9m (l:List P.Cr)(hz:l.length<1000000000)(hg:P.edg l):SpecD Tryz.prog G (.fn 55 [] []) [.yld 9002,.ptr 37056 0,.ptr 37057 0] (H8 l [] 1 1 (some 0)) (.tup []) [(37057,.blk (ptB 2 2)),(37056,.blk (ptB 1 1)),(9001,B0P (A0Z l 1 1)),(512,bxO (.full 9001 (A0Z l 1 1).length))] []:=by
 refine A1I hcm hmx (B6a l 1 1) C1G rfl (B70 l) ?_;dsimp -failIfUnchanged -proj -eta -iota -zeta only[rd,rdw,qs,ql,qx];simp only[A4H]
 repeat' (with_reducible apply And.intro)
 all_goals first
  |exact hz
  |exact hg
  |exact True.intro
  |with_reducible rfl
  |(unfold inZ;decide)
  |decide
  |(refine A4j _ ?_;(repeat' (refine A6G _ _ ?_));decide)
  |rfl
theorem C9n (l:List P.Cr)(hz:l.length<1000000000)(hg:P.edg l):SpecD Tryz.prog G (.fn 55 [] []) [.yld 9002,.ptr 37056 0,.ptr 37057 0] (H8 l [] 3 1 (some 0)) (.tup []) [(37057,.blk (ptB 2 2)),(37056,.blk (ptB 3 1)),(9001,B0P (A0Z l 3 1)),(512,bxO (.full 9001 (A0Z l 3 1).length))] []:=by
 refine A1I hcm hmx (B6a l 3 1) C1G rfl (B71 l) ?_;dsimp -failIfUnchanged -proj -eta -iota -zeta only[rd,rdw,qs,ql,qx];simp only[A4H]
 repeat' (with_reducible apply And.intro)
 all_goals first
  |exact hz
  |exact hg
  |exact True.intro
  |with_reducible rfl
  |(unfold inZ;decide)
  |decide
  |(refine A4j _ ?_;(repeat' (refine A6G _ _ ?_));decide)
  |rfl
theorem C9o (l:List P.Cr)(hz:l.length<1000000000)(hg:P.edg l):SpecD Tryz.prog G (.fn 55 [] []) [.yld 9002,.ptr 37056 0,.ptr 37057 0] (H8 l [] 1 3 (some 0)) (.tup []) [(37057,.blk (ptB 2 2)),(37056,.blk (ptB 1 3)),(9001,B0P (A0Z l 1 3)),(512,bxO (.full 9001 (A0Z l 1 3).length))] []:=by
 refine A1I hcm hmx (B6a l 1 3) C1G rfl (B72 l) ?_;dsimp -failIfUnchanged -proj -eta -iota -zeta only[rd,rdw,qs,ql,qx];simp only[A4H]
 repeat' (with_reducible apply And.intro)
 all_goals first
  |exact hz
  |exact hg
  |exact True.intro
  |with_reducible rfl
  |(unfold inZ;decide)
  |decide
  |(refine A4j _ ?_;(repeat' (refine A6G _ _ ?_));decide)
  |rfl
theorem C9p (l:List P.Cr)(hz:l.length<1000000000)(hg:P.edg l):SpecD Tryz.prog G (.fn 55 [] []) [.yld 9002,.ptr 37056 0,.ptr 37057 0] (H8 l [] 3 3 (some 0)) (.tup []) [(37057,.blk (ptB 2 2)),(37056,.blk (ptB 3 3)),(9001,B0P (A0Z l 3 3)),(512,bxO (.full 9001 (A0Z l 3 3).length))] []:=by
 refine A1I hcm hmx (B6a l 3 3) C1G rfl (B73 l) ?_;dsimp -failIfUnchanged -proj -eta -iota -zeta only[rd,rdw,qs,ql,qx];simp only[A4H]
 repeat' (with_reducible apply And.intro)
 all_goals first
  |exact hz
  |exact hg
  |exact True.intro
  |with_reducible rfl
  |(unfold inZ;decide)
  |decide
  |(refine A4j _ ?_;(repeat' (refine A6G _ _ ?_));decide)
  |rfl
open Go.Shelf Go.Proofs
def B3V:Go.Shelf.Ren:=⟨fun|6=>35|15=>50|14=>62|28=>82|29=>83|20=>91|21=>92|22=>93|23=>94|24=>95|25=>96|26=>97|27=>98|46=>123|47=>114|48=>115|49=>124|50=>125|57=>138|n=>n,fun|22=>41|24=>47|25=>88|3=>3|39=>101|0=>0|53=>138|55=>140|4=>4|46=>131|45=>130|50=>135|5=>5|9=>9|66=>180|70=>184|76=>199|77=>200|n=>n,fun|n=>n⟩
theorem C4R:Go.Proofs.SlLaysF0.n6 Tryz.prog B3V:={
 mixed:=by kernel_rfl
 f6:=⟨Tryz.f35.name,by decide,Tryz.func35.trans (congrArg some (by kernel_rfl))⟩
 f14:=⟨Tryz.f62.name,by decide,Tryz.func62.trans (congrArg some (by kernel_rfl))⟩
 f15:=Tryz.func50.trans (congrArg some (by kernel_rfl))
 f20:=⟨Tryz.f91.name,by decide,Tryz.func91.trans (congrArg some (by kernel_rfl))⟩
 f21:=⟨Tryz.f92.name,by decide,Tryz.func92.trans (congrArg some (by kernel_rfl))⟩
 f22:=⟨Tryz.f93.name,by decide,Tryz.func93.trans (congrArg some (by kernel_rfl))⟩
 f23:=⟨Tryz.f94.name,by decide,Tryz.func94.trans (congrArg some (by kernel_rfl))⟩
 f24:=⟨Tryz.f95.name,by decide,Tryz.func95.trans (congrArg some (by kernel_rfl))⟩
 f25:=⟨Tryz.f96.name,by decide,Tryz.func96.trans (congrArg some (by kernel_rfl))⟩
 f26:=⟨Tryz.f97.name,by decide,Tryz.func97.trans (congrArg some (by kernel_rfl))⟩
 f27:=⟨Tryz.f98.name,by decide,Tryz.func98.trans (congrArg some (by kernel_rfl))⟩
 f28:=Tryz.func82.trans (congrArg some (by kernel_rfl))
 f29:=Tryz.func83.trans (congrArg some (by kernel_rfl))
 f46:=⟨Tryz.f123.name,by decide,Tryz.func123.trans (congrArg some (by kernel_rfl))⟩
 f47:=Tryz.func114.trans (congrArg some (by kernel_rfl))
 f48:=Tryz.func115.trans (congrArg some (by kernel_rfl))
 f49:=⟨Tryz.f124.name,by decide,Tryz.func124.trans (congrArg some (by kernel_rfl))⟩
 f50:=⟨Tryz.f125.name,by decide,Tryz.func125.trans (congrArg some (by kernel_rfl))⟩
 f57:=⟨Tryz.f138.name,by decide,Tryz.func138.trans (congrArg some (by kernel_rfl))⟩
 t0:=Tryz.underlying0
 a0:=Tryz.isAgg0
 z0:=Tryz.sizeOf0
 v0:=Tryz.zeroValue0
 t3:=Tryz.underlying3
 a3:=Tryz.isAgg3
 z3:=Tryz.sizeOf3
 v3:=Tryz.zeroValue3
 t4:=Tryz.underlying4
 a4:=Tryz.isAgg4
 z4:=Tryz.sizeOf4
 v4:=Tryz.zeroValue4
 t5:=Tryz.underlying5
 a5:=Tryz.isAgg5
 z5:=Tryz.sizeOf5
 v5:=Tryz.zeroValue5
 t9:=Tryz.underlying9
 a9:=Tryz.isAgg9
 z9:=Tryz.sizeOf9
 v9:=Tryz.zeroValue9
 t22:=Tryz.underlying41
 a22:=Tryz.isAgg41
 z22:=Tryz.sizeOf41
 v22:=Tryz.zeroValue41
 t25:=Tryz.underlying88
 a25:=Tryz.isAgg88
 z25:=Tryz.sizeOf88
 v25:=Tryz.zeroValue88
 t39:=Tryz.underlying101
 a39:=Tryz.isAgg101
 z39:=Tryz.sizeOf101
 v39:=Tryz.zeroValue101
 t45:=Tryz.underlying130
 a45:=Tryz.isAgg130
 z45:=Tryz.sizeOf130
 v45:=Tryz.zeroValue130
 t46:=Tryz.underlying131
 a46:=Tryz.isAgg131
 z46:=Tryz.sizeOf131
 v46:=Tryz.zeroValue131
 t50:=Tryz.underlying135
 a50:=Tryz.isAgg135
 z50:=Tryz.sizeOf135
 v50:=Tryz.zeroValue135
 t53:=Tryz.underlying138
 a53:=Tryz.isAgg138
 z53:=Tryz.sizeOf138
 v53:=Tryz.zeroValue138
 t55:=Tryz.underlying140
 a55:=Tryz.isAgg140
 z55:=Tryz.sizeOf140
 v55:=Tryz.zeroValue140
 t66:=Tryz.underlying180
 a66:=Tryz.isAgg180
 z66:=Tryz.sizeOf180
 v66:=Tryz.zeroValue180
 t70:=Tryz.underlying184
 a70:=Tryz.isAgg184
 z70:=Tryz.sizeOf184
 v70:=Tryz.zeroValue184
 t76:=Tryz.underlying199
 a76:=Tryz.isAgg199
 z76:=Tryz.sizeOf199
 v76:=Tryz.zeroValue199
 t77:=Tryz.underlying200
 a77:=Tryz.isAgg200
 z77:=Tryz.sizeOf200
 v77:=Tryz.zeroValue200}
theorem s36 (x y:Rb):SpecP Tryz.prog Gs 36 [.agg (RRb.av x),.agg (RRb.av y)] (.int .i64 (B8W x y)) []:=by
 obtain⟨⟨d,k⟩,hx⟩:=x;obtain⟨⟨d',k'⟩,hy⟩:=y;refine A0d hcs hmx C6A D0Y rfl (C00 d k d' k') ?_;unfold B1z at hx hy;simp only at hx hy;simp only[A0w,B8W,and_true];omega
theorem c36 (W:World)(x y:Rb):Calls Tryz.prog 36 #[.agg (RRb.vl x).toArray,.agg (RRb.vl y).toArray] W fun e w'=>e=.returned (.int .i64 (B8W x y))/\∃q os',w'=Go.Sort.grow (W.drewN q) os':=
 A3q (G:=Gs) trivial (fun _=>rfl) (s36 x y) Tryz.func36 (by kernel_rfl) rfl W
  (.cons _ _ _ _ (.agg _ _ (.cons _ _ _ _ (.int _ _) (.cons _ _ _ _ (.int _ _) .nil))) (.cons _ _ _ _ (.agg _ _ (.cons _ _ _ _ (.int _ _) (.cons _ _ _ _ (.int _ _) .nil))) .nil))
theorem A83 (x y:Rb):B8W x y<0↔x.1.1<y.1.1:=by unfold B8W;omega
theorem C9q:Go.Sort.SWO (ltOf B8W) where
 irrefl x:=by simp only[ltOf,decide_eq_false_iff_not,A83];omega
 trans x y z h1 h2:=by simp only[ltOf,decide_eq_true_eq,A83]at *; omega
 ntrans x y z h1 h2:=by simp only[ltOf,decide_eq_false_iff_not,A83]at *; omega
theorem B23 {x:Ry}(h:B1z x):(B5Y x).1=x:=by unfold B5Y;rw[dif_pos h]
theorem B0z:∀{l:List Ry},(∀x∈l,B1z x)->(l.map B5Y).flatMap RRb.av=flR l
 |[],_=>rfl
 |x::l,h=>by
  have ih:=B0z (l:=l) fun y hy=>h y (by simp[hy]);rw[List.map_cons,List.flatMap_cons,ih];have:RRb.av (B5Y x)=RRy.av x:=by
   have:=B23 (h x (by simp));show([(IntKind.i64,(B5Y x).1.1),(.u8,(B5Y x).1.2)].map fun p=>AV.int p.1 p.2)=_;rw[this];rfl
  rw[this];unfold flR;rw[List.flatMap_cons]
theorem B0A:∀(l:List Rb),l.flatMap RRb.av=flR (l.map (·.1))
 |[]=>rfl
 |x::l=>by
  rw[List.flatMap_cons,B0A l];unfold flR;rw[List.map_cons,List.flatMap_cons];rfl
theorem A4I {l:List Ry}(h:∀x∈l,B1z x):(C1P l).Perm l/\(C1P l).Pairwise (fun x y=>¬ y.1<x.1):=by
 obtain⟨h1,h2⟩:=A2N C9q (l.map B5Y);unfold C1P;constructor
 ·have h3:=h1.map (·.1);rw[List.map_map]at h3;have h4:l.map ((fun x:Rb=>x.1)∘B5Y)=l:=by
   have:∀x∈l,((fun x:Rb=>x.1)∘B5Y) x=id x:=fun x hx=>B23 (h x hx);rw[List.map_congr_left this,List.map_id]
  rw[h4]at h3;exact h3
 ·rw[List.pairwise_map];exact h2.imp fun{x y} h=>by rw[<- A83];exact h
theorem C9r {id:Nat}{l:List Ry}{cap:Option Nat}{nl:Option Bool}{bx:Bool}(h:l.length<1000000000)(hb:∀x∈l,B1z x):
  SpecD Tryz.prog G (.fn 35 [] []) [.full id l.length,.fn 36 [] []] [(id,.blk ⟨.vals (flR l),2,l.length,cap,nl,true,bx⟩)] (.tup [])
   [(id,.blk ⟨.vals (flR (C1P l)),2,l.length,cap,nl,true,bx⟩)] []:=by
 have h:=A7E C4R RRb (by decide) Tryz.isAgg47 Tryz.sizeOf47 B8W C9q rfl Tryz.func35 (by kernel_rfl) rfl (fun args w=>A1h Tryz.func36 (by kernel_rfl) rfl args w) c36 (id:=id) (d:=l.map B5Y) (cap:=cap) (nl:=nl) (bx:=bx) (G:=G) (by rw[List.length_map];exact h);rw[List.length_map,B0z hb,B0A]at h;exact h
theorem B0B (l:List P.Cr):∀(s:List (Int×Int×Int)) (L:List Ry),(s.foldl (fun L s=>A0h L s.1 (knZ l s.2.1 s.2.2)) L).length<=L.length+s.length
 |[],L=>by simp
 |x::s,L=>by
  have h1:=B0B l s (A0h L x.1 (knZ l x.2.1 x.2.2));have h2:=A82 L x.1 (knZ l x.2.1 x.2.2);simp only[List.foldl_cons,List.length_cons];omega
theorem B8c (x y:Int):(B5X x y).length<=8:=by
 unfold B5X
 repeat' split
 all_goals decide
theorem A6H (l:List P.Cr)(x y:Int):(A0Z l x y).length<=8:=by
 have h1:=B0B l (B5X x y) [];have h2:=B8c x y;unfold A0Z;simp only[List.length_nil]at h1;omega
theorem A6I (l:List P.Cr)(x y:Int):(raysL l x y).length=(A0Z l x y).length:=by
 unfold raysL C1P;rw[List.length_map,(A2N C9q _).1.length_eq,List.length_map]
theorem B0C (l:List P.Cr):∀(s:List (Int×Int×Int)) (L:List Ry) {z:Ry},z∈s.foldl (fun L s=>A0h L s.1 (knZ l s.2.1 s.2.2)) L->z∈L\/∃x∈s,z.1=x.1
 |[],L,z,h=>.inl h
 |x::s,L,z,h=>by
  simp only[List.foldl_cons]at h;rcases B0C l s _ h with h|⟨w,hw,e⟩
  ·unfold A0h at h;rw[cond_eq_ite]at h;split at h
   ·exact .inl h
   ·rcases List.mem_append.1 h with h|h
    ·exact .inl h
    ·rw[List.mem_singleton]at h;subst h;exact .inr ⟨x,by simp,rfl⟩
  ·exact .inr ⟨w,by simp[hw],e⟩
theorem B8d {x y:Int}:∀s∈B5X x y,0<=s.1/\s.1<=7:=by
 unfold B5X
 repeat' split
 all_goals decide
theorem A16 (l:List P.Cr)(x y:Int):∀z∈A0Z l x y,B1z z:=fun z hz=>by
 rcases B0C l _ _ hz with h|⟨s,hs,e⟩
 ·cases h
 ·have:=B8d s hs;unfold B1z;rw[e];exact this
theorem s22:P.s5 2 2:=by unfold P.s5;decide
theorem B1F {l:List P.Cr}(h:okZ l):l.length<1000000000:=by
 have:=P.vP_len s22 h;omega
theorem B1G {l:List P.Cr}(h:okZ l):P.edg l:=P.vP_edg h
theorem D4w (l:List P.Cr)(x y:Int)(hl:okZ l)(hp:ptZ x y):SpecD Tryz.prog G (.fn 55 [] []) [.yld 9002,.ptr 37056 0,.ptr 37057 0] (H8 l [] x y (some 0)) (.tup []) [(37057,.blk (ptB 2 2)),(37056,.blk (ptB x y)),(9001,B0P (A0Z l x y)),(512,bxO (.full 9001 (A0Z l x y).length))] []:=by
 have hz:=B1F hl;have hg:=B1G hl;rcases hp with⟨rfl,rfl⟩|⟨rfl,rfl⟩|⟨rfl,rfl⟩|⟨rfl,rfl⟩|⟨rfl,rfl⟩
 ·exact C9l l hz hg
 ·exact C9m l hz hg
 ·exact C9n l hz hg
 ·exact C9o l hz hg
 ·exact C9p l hz hg
theorem C4S (l:List P.Cr)(x y:Int):B7i Tryz.prog G (C8P l x y):=by
 intro h cv args r hr hp;unfold C8P at hr;split at hr
 ·rw[cond_eq_ite]at hr;split at hr
  ·rename_i hc;simp only[Bool.and_eq_true]at hc;cases Nat.eq_of_beq_eq_true hc.1;cases Nat.eq_of_beq_eq_true hc.2.1;cases Nat.eq_of_beq_eq_true hc.2.2.1;cases Nat.eq_of_beq_eq_true hc.2.2.2;cases hr;obtain⟨rfl,h1,h2⟩:=hp;exact D4w l x y h1 h2
  ·cases hr
 ·rw[cond_eq_ite]at hr;split at hr
  ·rename_i hc;simp only[Bool.and_eq_true]at hc;cases Nat.eq_of_beq_eq_true hc.1;cases Nat.eq_of_beq_eq_true hc.2.1;cases Nat.eq_of_beq_eq_true hc.2.2;cases hr;obtain⟨rfl,rfl,hb⟩:=hp;have:=A6H l x y;exact C9r (by omega) hb
  ·cases hr
 ·cases hr
theorem C9s:TabOk Tryz.prog G T32:=A0m A0s ⟨P.ct64,trivial⟩
theorem C9t:A06 Tryz.prog G 32 e32:=by
 intro args r h hp;unfold e32 at h;split at h<;>cases h;rename_i x y;refine(A0d hcm hmx C9s D0R rfl (C39 x y) ?_:SpecP Tryz.prog G 32 [_,_] _ _);rcases hp with⟨rfl,rfl⟩|⟨rfl,rfl⟩|⟨rfl,rfl⟩|⟨rfl,rfl⟩|⟨rfl,rfl⟩<;>decide
theorem C9u:A06 Tryz.prog G 37 e37:=by
 intro args r h hp;unfold e37 at h;split at h<;>cases h;rename_i l n c;have hp:l.length=2*n:=hp;refine(A0d hcm hmx A26 D00 rfl (C4a l n) ?_:SpecP Tryz.prog G 37 [.imm (.vals l) n none] _ _).caps;simp[Cont.size];omega
theorem C9v (l:List P.Cr)(x y:Int):TabOk Tryz.prog G (T8z l x y):=A0m (C4S l x y) ⟨P.ct27,C9t,C9d,C9u,trivial⟩
theorem sp8 (l:List P.Cr)(x y:Int)(hl:okZ l)(hp:ptZ x y):SpecP Tryz.prog G 8 [C6w l,.agg [.int .i64 x,.int .i64 y]] (.tup [.imm (.vals (flR (raysL l x y))) (raysL l x y).length (some (raysL l x y).length),.int .i64 0]) []:=by
 refine A0d hcm hmx (C9v l x y) ok8 rfl (C4d l x y) ?_;have hr:=A6I l x y;rw[B1E];have hc:=P.vP_chk s22 hl;have h0:(P.chkI 2 2 l !=0)=false:=by rw[hc];rfl
 have hf:=B1D (raysL l x y)
 repeat' (with_reducible apply And.intro)
 all_goals first
  |exact hl
  |exact hp
  |exact h0
  |exact B1F hl
  |exact B1G hl
  |exact A16 l x y
  |exact True.intro
  |with_reducible rfl
  |exact hr.symm
  |(simp only[Cont.size];omega)
  |omega
  |rfl
theorem D4x:A06 Tryz.prog G 8 e8z:=by
 intro args r h hp;unfold e8z at h;split at h<;>cases h;rename_i a n c x y;obtain⟨⟨⟨h1,h2,h3⟩,h4⟩,h5⟩:=hp;generalize P.unC a=l at*;subst h1 h2;exact(sp8 l x y h4 h5).caps
end Go.Proofs.YtfafinkgmhkdmaaGreatDoor.X
