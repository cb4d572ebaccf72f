/-
 Cones: Insert of the library, laid (by the kit's own command).
-/
import Derived.Shelf.Lays2
import Derived.Ground.Names2Prog
import Derived.Ground.SlsfProg
import Derived.Test.YthiammkiobbclaaGreatDoorP3Z
set_option maxRecDepth 1000000
set_option linter.unusedVariables false
namespace Go.Proofs.YthiammkiobbclaaGreatDoor.X
open Go Go.Shelf Go.Proofs
def B5h:Go.Shelf.Ren:=⟨fun|21=>59|27=>80|28=>81|35=>93|39=>69|n=>n,fun|22=>25|3=>3|4=>4|0=>0|n=>n,fun|n=>n⟩
theorem C0H:Go.Proofs.Lays2.n21 Tryz.prog B5h:={
 mixed:=by kernel_rfl
 f21:=Tryz.func59.trans (congrArg some (by kernel_rfl))
 f27:=Tryz.func80.trans (congrArg some (by kernel_rfl))
 f28:=Tryz.func81.trans (congrArg some (by kernel_rfl))
 f35:=Tryz.func93.trans (congrArg some (by kernel_rfl))
 f39:=Tryz.func69.trans (congrArg some (by kernel_rfl))
 t0:=Tryz.underlying0
 a0:=Tryz.isAgg0
 z0:=Tryz.sizeOf0
 v0:=Tryz.zeroValue0
 t3:=Tryz.underlying3
 a3:=Tryz.isAgg3
 z3:=Tryz.sizeOf3
 v3:=Tryz.zeroValue3
 t4:=Tryz.underlying4
 a4:=Tryz.isAgg4
 z4:=Tryz.sizeOf4
 v4:=Tryz.zeroValue4
 t22:=Tryz.underlying25
 a22:=Tryz.isAgg25
 z22:=Tryz.sizeOf25
 v22:=Tryz.zeroValue25
 i3:=by kernel_rfl}
def B2I:Go.Shelf.Ren:=⟨fun|6=>61|15=>84|14=>83|28=>102|29=>103|20=>94|21=>95|22=>96|23=>97|24=>98|25=>99|26=>100|27=>101|46=>111|47=>112|48=>113|49=>114|50=>115|57=>120|n=>n,fun|22=>31|24=>25|25=>90|3=>3|39=>107|0=>0|53=>125|55=>127|4=>4|46=>118|45=>117|50=>122|5=>5|9=>9|66=>131|70=>135|76=>140|77=>96|n=>n,fun|n=>n⟩
theorem C2T:Go.Proofs.SlLaysF.n6 Tryz.prog B2I:={
 mixed:=by kernel_rfl
 f6:=⟨Tryz.f61.name,by decide,Tryz.func61.trans (congrArg some (by kernel_rfl))⟩
 f14:=⟨Tryz.f83.name,by decide,Tryz.func83.trans (congrArg some (by kernel_rfl))⟩
 f15:=Tryz.func84.trans (congrArg some (by kernel_rfl))
 f20:=⟨Tryz.f94.name,by decide,Tryz.func94.trans (congrArg some (by kernel_rfl))⟩
 f21:=⟨Tryz.f95.name,by decide,Tryz.func95.trans (congrArg some (by kernel_rfl))⟩
 f22:=⟨Tryz.f96.name,by decide,Tryz.func96.trans (congrArg some (by kernel_rfl))⟩
 f23:=⟨Tryz.f97.name,by decide,Tryz.func97.trans (congrArg some (by kernel_rfl))⟩
 f24:=⟨Tryz.f98.name,by decide,Tryz.func98.trans (congrArg some (by kernel_rfl))⟩
 f25:=⟨Tryz.f99.name,by decide,Tryz.func99.trans (congrArg some (by kernel_rfl))⟩
 f26:=⟨Tryz.f100.name,by decide,Tryz.func100.trans (congrArg some (by kernel_rfl))⟩
 f27:=⟨Tryz.f101.name,by decide,Tryz.func101.trans (congrArg some (by kernel_rfl))⟩
 f28:=Tryz.func102.trans (congrArg some (by kernel_rfl))
 f29:=Tryz.func103.trans (congrArg some (by kernel_rfl))
 f46:=⟨Tryz.f111.name,by decide,Tryz.func111.trans (congrArg some (by kernel_rfl))⟩
 f47:=Tryz.func112.trans (congrArg some (by kernel_rfl))
 f48:=Tryz.func113.trans (congrArg some (by kernel_rfl))
 f49:=⟨Tryz.f114.name,by decide,Tryz.func114.trans (congrArg some (by kernel_rfl))⟩
 f50:=⟨Tryz.f115.name,by decide,Tryz.func115.trans (congrArg some (by kernel_rfl))⟩
 f57:=⟨Tryz.f120.name,by decide,Tryz.func120.trans (congrArg some (by kernel_rfl))⟩
 t0:=Tryz.underlying0
 a0:=Tryz.isAgg0
 z0:=Tryz.sizeOf0
 v0:=Tryz.zeroValue0
 t3:=Tryz.underlying3
 a3:=Tryz.isAgg3
 z3:=Tryz.sizeOf3
 v3:=Tryz.zeroValue3
 t4:=Tryz.underlying4
 a4:=Tryz.isAgg4
 z4:=Tryz.sizeOf4
 v4:=Tryz.zeroValue4
 t5:=Tryz.underlying5
 a5:=Tryz.isAgg5
 z5:=Tryz.sizeOf5
 v5:=Tryz.zeroValue5
 t9:=Tryz.underlying9
 a9:=Tryz.isAgg9
 z9:=Tryz.sizeOf9
 v9:=Tryz.zeroValue9
 t22:=Tryz.underlying31
 a22:=Tryz.isAgg31
 z22:=Tryz.sizeOf31
 v22:=Tryz.zeroValue31
 a24:=Tryz.isAgg25
 z24:=Tryz.sizeOf25
 t25:=Tryz.underlying90
 a25:=Tryz.isAgg90
 z25:=Tryz.sizeOf90
 v25:=Tryz.zeroValue90
 t39:=Tryz.underlying107
 a39:=Tryz.isAgg107
 z39:=Tryz.sizeOf107
 v39:=Tryz.zeroValue107
 t45:=Tryz.underlying117
 a45:=Tryz.isAgg117
 z45:=Tryz.sizeOf117
 v45:=Tryz.zeroValue117
 t46:=Tryz.underlying118
 a46:=Tryz.isAgg118
 z46:=Tryz.sizeOf118
 v46:=Tryz.zeroValue118
 t50:=Tryz.underlying122
 a50:=Tryz.isAgg122
 z50:=Tryz.sizeOf122
 v50:=Tryz.zeroValue122
 t53:=Tryz.underlying125
 a53:=Tryz.isAgg125
 z53:=Tryz.sizeOf125
 v53:=Tryz.zeroValue125
 t55:=Tryz.underlying127
 a55:=Tryz.isAgg127
 z55:=Tryz.sizeOf127
 v55:=Tryz.zeroValue127
 t66:=Tryz.underlying131
 a66:=Tryz.isAgg131
 z66:=Tryz.sizeOf131
 v66:=Tryz.zeroValue131
 t70:=Tryz.underlying135
 a70:=Tryz.isAgg135
 z70:=Tryz.sizeOf135
 v70:=Tryz.zeroValue135
 t76:=Tryz.underlying140
 a76:=Tryz.isAgg140
 z76:=Tryz.sizeOf140
 v76:=Tryz.zeroValue140
 t77:=Tryz.underlying96
 a77:=Tryz.isAgg96
 z77:=Tryz.sizeOf96
 v77:=Tryz.zeroValue96}
def B2J:Go.Shelf.Ren:=⟨fun|6=>61|15=>84|14=>83|28=>102|29=>103|20=>94|21=>95|22=>96|23=>97|24=>98|25=>99|26=>100|27=>101|46=>111|47=>112|48=>113|49=>114|50=>115|57=>120|n=>n,fun|22=>31|24=>25|25=>90|3=>3|39=>107|0=>0|53=>125|55=>127|4=>4|46=>118|45=>117|50=>122|5=>5|9=>9|66=>131|70=>135|76=>140|77=>96|n=>n,fun|n=>n⟩
theorem C2U:Go.Proofs.SlLaysF0.n6 Tryz.prog B2J:={
 mixed:=by kernel_rfl
 f6:=⟨Tryz.f61.name,by decide,Tryz.func61.trans (congrArg some (by kernel_rfl))⟩
 f14:=⟨Tryz.f83.name,by decide,Tryz.func83.trans (congrArg some (by kernel_rfl))⟩
 f15:=Tryz.func84.trans (congrArg some (by kernel_rfl))
 f20:=⟨Tryz.f94.name,by decide,Tryz.func94.trans (congrArg some (by kernel_rfl))⟩
 f21:=⟨Tryz.f95.name,by decide,Tryz.func95.trans (congrArg some (by kernel_rfl))⟩
 f22:=⟨Tryz.f96.name,by decide,Tryz.func96.trans (congrArg some (by kernel_rfl))⟩
 f23:=⟨Tryz.f97.name,by decide,Tryz.func97.trans (congrArg some (by kernel_rfl))⟩
 f24:=⟨Tryz.f98.name,by decide,Tryz.func98.trans (congrArg some (by kernel_rfl))⟩
 f25:=⟨Tryz.f99.name,by decide,Tryz.func99.trans (congrArg some (by kernel_rfl))⟩
 f26:=⟨Tryz.f100.name,by decide,Tryz.func100.trans (congrArg some (by kernel_rfl))⟩
 f27:=⟨Tryz.f101.name,by decide,Tryz.func101.trans (congrArg some (by kernel_rfl))⟩
 f28:=Tryz.func102.trans (congrArg some (by kernel_rfl))
 f29:=Tryz.func103.trans (congrArg some (by kernel_rfl))
 f46:=⟨Tryz.f111.name,by decide,Tryz.func111.trans (congrArg some (by kernel_rfl))⟩
 f47:=Tryz.func112.trans (congrArg some (by kernel_rfl))
 f48:=Tryz.func113.trans (congrArg some (by kernel_rfl))
 f49:=⟨Tryz.f114.name,by decide,Tryz.func114.trans (congrArg some (by kernel_rfl))⟩
 f50:=⟨Tryz.f115.name,by decide,Tryz.func115.trans (congrArg some (by kernel_rfl))⟩
 f57:=⟨Tryz.f120.name,by decide,Tryz.func120.trans (congrArg some (by kernel_rfl))⟩
 t0:=Tryz.underlying0
 a0:=Tryz.isAgg0
 z0:=Tryz.sizeOf0
 v0:=Tryz.zeroValue0
 t3:=Tryz.underlying3
 a3:=Tryz.isAgg3
 z3:=Tryz.sizeOf3
 v3:=Tryz.zeroValue3
 t4:=Tryz.underlying4
 a4:=Tryz.isAgg4
 z4:=Tryz.sizeOf4
 v4:=Tryz.zeroValue4
 t5:=Tryz.underlying5
 a5:=Tryz.isAgg5
 z5:=Tryz.sizeOf5
 v5:=Tryz.zeroValue5
 t9:=Tryz.underlying9
 a9:=Tryz.isAgg9
 z9:=Tryz.sizeOf9
 v9:=Tryz.zeroValue9
 t22:=Tryz.underlying31
 a22:=Tryz.isAgg31
 z22:=Tryz.sizeOf31
 v22:=Tryz.zeroValue31
 t25:=Tryz.underlying90
 a25:=Tryz.isAgg90
 z25:=Tryz.sizeOf90
 v25:=Tryz.zeroValue90
 t39:=Tryz.underlying107
 a39:=Tryz.isAgg107
 z39:=Tryz.sizeOf107
 v39:=Tryz.zeroValue107
 t45:=Tryz.underlying117
 a45:=Tryz.isAgg117
 z45:=Tryz.sizeOf117
 v45:=Tryz.zeroValue117
 t46:=Tryz.underlying118
 a46:=Tryz.isAgg118
 z46:=Tryz.sizeOf118
 v46:=Tryz.zeroValue118
 t50:=Tryz.underlying122
 a50:=Tryz.isAgg122
 z50:=Tryz.sizeOf122
 v50:=Tryz.zeroValue122
 t53:=Tryz.underlying125
 a53:=Tryz.isAgg125
 z53:=Tryz.sizeOf125
 v53:=Tryz.zeroValue125
 t55:=Tryz.underlying127
 a55:=Tryz.isAgg127
 z55:=Tryz.sizeOf127
 v55:=Tryz.zeroValue127
 t66:=Tryz.underlying131
 a66:=Tryz.isAgg131
 z66:=Tryz.sizeOf131
 v66:=Tryz.zeroValue131
 t70:=Tryz.underlying135
 a70:=Tryz.isAgg135
 z70:=Tryz.sizeOf135
 v70:=Tryz.zeroValue135
 t76:=Tryz.underlying140
 a76:=Tryz.isAgg140
 z76:=Tryz.sizeOf140
 v76:=Tryz.zeroValue140
 t77:=Tryz.underlying96
 a77:=Tryz.isAgg96
 z77:=Tryz.sizeOf96
 v77:=Tryz.zeroValue96}
set_option linter.unusedSimpArgs false
open Go Go.Ab
theorem D6Y {o:List Int}{i:Nat}{x:Int}{cv:Option Nat}(hi:i<=o.length)(h0:0<o.length)(hz:o.length<1000000):
  SpecD Tryz.prog G (.fn 59 [] []) [.full 32896 o.length,.int .i64 (i:Int),.full 517 1] [(517,.blk ⟨.ints .i64 [x],1,1,cv,some false,true,false⟩),(32896,.blk ⟨.ints .i64 o,1,o.length,none,some false,true,false⟩)]
   (.imm (.ints .i64 (A2u o i x)) (A2u o i x).length none) [(32896,.blk ⟨.ints .i64 (A2u o i x),1,(A2u o i x).length,none,some false,false,false⟩)] []:=
 B9b C0H rfl Tryz.func59 (by kernel_rfl) rfl (by decide) hi h0 hz
theorem D0J {x:Int}{cv:Option Nat}:
  SpecD Tryz.prog G (.fn 59 [] []) [.nils,.int .i64 0,.full 517 1] [(517,.blk ⟨.ints .i64 [x],1,1,cv,some false,true,false⟩)] (.imm (.ints .i64 [x]) 1 none) [] []:=
 C1u C0H rfl Tryz.func59 (by kernel_rfl) rfl
theorem D0K:A1j Tryz.prog G 41 B2u:=by
 intro args r h hp;unfold B2u at h;split at h<;>cases h;exact A0e hcm hmx A3w C4w rfl C10 trivial
theorem C6a:A1j Tryz.prog G 51 C8u:=by
 intro args r h hp;unfold C8u at h;split at h
 ·exact C95 _ r h hp
 ·exact C5F _ r h hp
theorem D4U:A3W Tryz.prog G tG:=⟨C5F,C93,C94,D6W,D4P,trivial⟩
def S58 (a k r o:List Int)(L:List (List Int)):Prop:=
 SpecD Tryz.prog G (.fn 58 [] []) [A3X .i64 o,.ptr 64 0,.ptr 256 0,.ptr 129 0,.ptr 192 0] (hpG a k r L) (.tup []) (wsG (A05 a.length r k L o)) []
theorem B7z {a k r:List Int}{q:Nat}(hS:q<=a.length->0<q->∀o L,o.length=q->okG o->okL a L->S58 a k r o L):
  ∀h cv args e,chG a k r q h cv args=some e->optP e.p->SpecD Tryz.prog G cv args h e.v e.ws []:=by
 intro h cv args e he hp;unfold chG at he;split at he
 ·split at he
  ·rename_i f i n p j m _ _ _ o _ _ _ _ _ _ _ x _ _ _ _ _ _ h1 h2;rw[cond_eq_ite]at he;split at he
   ·rename_i hk;cases he;simp only[Bool.and_eq_true]at hk;have e1:=Nat.eq_of_beq_eq_true hk.1;have e2:=Nat.eq_of_beq_eq_true hk.2.1;have e3:=Nat.eq_of_beq_eq_true hk.2.2;subst e1 e2 e3;obtain⟨rfl,rfl,rfl,h0,hz,hp0,hp1⟩:=hp;have:=D6Y (x:=x) (cv:=some 1) (i:=p.toNat) (o:=o) (by omega) h0 hz
    rwa [show((p.toNat:Nat):Int)=p by omega]at this
   ·cases he
  ·cases he
 ·split at he
  ·rename_i f p j m _ x _ _ _ _ _ _ h1;rw[cond_eq_ite]at he;split at he
   ·rename_i hk;cases he;simp only[Bool.and_eq_true]at hk;have e1:=Nat.eq_of_beq_eq_true hk.1;have e2:=Nat.eq_of_beq_eq_true hk.2;subst e1 e2;obtain⟨rfl,rfl,rfl⟩:=hp;exact D0J
   ·cases he
  ·cases he
 ·split at he
  ·rename_i f o m _ c g u v _ vs _ _ _ _ _ _ h1;rw[cond_eq_ite]at he;split at he
   ·rename_i hk;cases he;simp only[Bool.and_eq_true]at hk;have e1:=Nat.eq_of_beq_eq_true hk.1;have e2:=Nat.eq_of_beq_eq_true hk.2.1;have e3:=Nat.eq_of_beq_eq_true hk.2.2.1;have e4:=Nat.eq_of_beq_eq_true hk.2.2.2.1;have e5:=Nat.eq_of_beq_eq_true hk.2.2.2.2;subst e1 e2 e3 e4 e5;obtain⟨rfl,rfl,hq,hq1,hq2,hg,hl⟩:=hp;have:=hS hq1 hq2 o (unO vs) hq hg hl;unfold S58 at this;intro F ρ w xs hm hv;obtain⟨vl⟩:=xs;refine this F ρ w ⟨vl⟩ hm ?_;cases hv with
    |cons _ _ x1 r1 hx1 hv=>
     cases hx1 with
     |imm _ _ hi=>exact .cons _ _ _ _ (.imm _ _ hi.caps) hv
   ·cases he
  ·cases he
 ·cases he
theorem B1y {n:Nat}{r k o:List Int}:cwB n r k o=true↔A4y n r (rkL o)=true\/A7h k (rkL o)=true:=by
 unfold cwB;rw[Bool.or_eq_true]
theorem B4c {n:Nat}{r k o:List Int}(h1:A4y n r (rkL o)=false)(h2:A7h k (rkL o)=false):cwB n r k o=false:=by
 unfold cwB;rw[h1,h2];rfl
theorem B1z {a k r o:List Int}{L:List (List Int)}(hN:okN a k r)(hT:TabOk Tryz.prog G (TG a k r (o.length+1)))(h0:0<o.length)(hq:o.length<=a.length)(ho:okG o)(hL:okL a L):S58 a k r o L:=by
 obtain⟨n1,n2,n3⟩:=hN;unfold S58;refine A2b hcm hmx hT C8X rfl (C1Y a k r o L) ?_;dsimp -failIfUnchanged -proj -eta -iota -zeta only[rd,rdw,qs,ql,qx];have hc:=A2e a k r;have hO:=A2m ho (by omega:o.length<=8);have hlp:=A3x r o;have hlO:=A2m hlp (by omega:o.length<=8);have hLl:=B7x hL n1;simp only[B2G,A0p,and_true,true_and,A0k,A0M,A0h,A0x,A0u,A0t,iI,A3i,Int.toNat_natCast,forall_const,true_imp_iff];refine⟨hO,⟨hc,n1,n3⟩,fun h1=>?_,fun h1=>⟨⟨hc,n1,n2⟩,fun h2=>?_,fun h2=>⟨fun h3=>⟨by omega,⟨0,by omega,by omega,?_,hL⟩,?_⟩,fun h3=>⟨⟨hc,hO,by omega,by omega⟩,hlO,fun h4=>?_,fun h4=>?_⟩⟩⟩⟩
 ·rw[A4Z (B1y.2 (.inl h1))];exact⟨rfl,rfl,rfl,rfl,rfl⟩
 ·rw[A4Z (B1y.2 (.inr h2))];exact⟨rfl,rfl,rfl,rfl,rfl⟩
 ·rfl
 ·rintro⟨i,M⟩ ⟨m,hi,hm,hM,hok⟩;simp only at hi hM hok ⊢;subst hi;subst hM;simp only[Int.toNat_natCast];have hcn:=B4c h1 h2;refine⟨fun h5=>⟨⟨h0,by omega⟩,⟨h0,by omega,by omega,by omega⟩,⟨by omega,by omega,B1t ho,hok⟩,by omega,⟨m+1,by omega,by omega,B1w.symm,B7u hok (by rw[A3i];omega)⟩,by omega⟩,fun h5=>?_⟩;have:m=o.length+1:=by omega
  subst this;rw[B1v hcn (by omega)];exact⟨rfl,rfl,rfl,rfl,rfl⟩
 all_goals
  have hlen:o.length=a.length:=by omega
  have hcn:=B4c h1 h2;rw[B1u hcn (by omega)];rw[hlen]at hlp;rw[C2R n1 hlp L hL.2]at h4;unfold B5f
 ·have hm:A0I r o∉L:=fun hm=>by rw[if_pos hm]at h4;cases h4
  have hcb:L.contains (A0I r o)=false:=by
   rw[<- Bool.not_eq_true];exact fun h=>hm (List.contains_iff_mem.1 h)
  rw[hcb,cond_false,B39,B9z,List.length_append];refine⟨hlO,by omega,rfl,?_,rfl,rfl,rfl⟩;unfold A1w;rw[List.map_append];rfl
 ·have hm:A0I r o∈L:=Classical.byContradiction fun hm=>by rw[if_neg hm]at h4;cases h4
  rw[List.contains_iff_mem.2 hm];exact⟨rfl,rfl,rfl,rfl,rfl⟩
theorem D4V {a k r:List Int}(hN:okN a k r):∀(d q:Nat),q+d=a.length->0<q->∀o L,o.length=q->okG o->okL a L->S58 a k r o L
 |0,q,hd,h0,o,L,hl,ho,hL=>by
  subst hl;exact B1z hN (A0q (B7z fun h _=>by omega) D4U) h0 (by omega) ho hL
 |d+1,q,hd,h0,o,L,hl,ho,hL=>by
  subst hl;exact B1z hN (A0q (B7z fun h h'=>D4V hN d (o.length+1) (by omega) h') D4U) h0 (by omega) ho hL
theorem D6Z {a k r:List Int}(hN:okN a k r)(q:Nat):∀h cv args e,chG a k r q h cv args=some e->optP e.p->SpecD Tryz.prog G cv args h e.v e.ws []:=
 B7z fun h h0=>D4V hN (a.length-q) q (by omega) h0
theorem C6b:TabOk Tryz.prog G D4H:=A0q A0C ⟨C6a,trivial⟩
theorem D0L:A1j Tryz.prog G 60 C9X:=by
 intro args r h hp;unfold C9X at h;split at h<;>cases h;rename_i a n _ k m _ r p _;obtain⟨rfl,rfl,rfl⟩:=hp;refine A2d (A0e hcm hmx C6b C8Z rfl (C1Z a k r) ?_);simp
theorem D0M:A3W Tryz.prog G tGn:=⟨C6a,C93,C94,D0L,D0K,trivial⟩
theorem D0N {a k r:List Int}(hN:okN a k r):SpecD Tryz.prog G (.fn 58 [] []) [.nils,.ptr 64 0,.ptr 256 0,.ptr 129 0,.ptr 192 0] (hpG a k r []) (.tup []) (wsG (A05 a.length r k [] [])) []:=by
 refine A2b hcm hmx (A0q (D6Z hN 1) D0M) C8X rfl (B9k a k r) ?_;dsimp -failIfUnchanged -proj -eta -iota -zeta only[rd,rdw,qs,ql,qx];obtain⟨n1,n2,n3⟩:=hN;have hc:=A2e a k r;have hrk:rkL []=[-1,-1,-1,-1,-1,-1,-1,-1]:=rfl;simp only[B2G,A0p,and_true,true_and,A0k,A0M,A0h,A0x,A0u,A0t,iI,A3i,Int.toNat_natCast,forall_const,true_imp_iff,<- hrk];refine⟨⟨hc,n1,n3⟩,fun h1=>?_,fun h1=>⟨⟨hc,n1,n2⟩,fun h2=>?_,fun h2=>⟨fun h3=>⟨⟨by omega,by omega,List.Perm.refl _,List.nodup_nil,fun l hl=>by cases hl⟩,?_⟩,fun h3=>⟨hc,⟨by simp,by simp⟩,⟨by simp,by simp⟩,?_⟩⟩⟩⟩
 ·rw[A4Z (B1y.2 (.inl h1))];exact⟨rfl,rfl,rfl,rfl,rfl⟩
 ·rw[A4Z (B1y.2 (.inr h2))];exact⟨rfl,rfl,rfl,rfl,rfl⟩
 ·have e:A05 a.length r k [] []=A05 a.length r k [] [0]:=by
   rw[B1v (B4c h1 h2) (by simpa using h3)];exact B1w
  rw[e];exact⟨rfl,rfl,rfl,rfl,rfl⟩
 ·rw[B1u (B4c h1 h2) (by rw[List.length_nil];omega)];exact⟨rfl,rfl,rfl,rfl,rfl⟩
theorem D0O {a:List Int}{L:List (List Int)}(hL:okL a L)(ha:a.length<=8):SpecD Tryz.prog G (.fn 61 [] []) [.full 9700 L.length,.fn 62 [] []] [(9700,.blk (bkO L))] (.tup []) [(9700,.blk ⟨.vals (A1w (B8j L)),1,L.length,none,some true,true,false⟩)] []:=by
 have hz:=B7x hL ha;exact B5c (G:=G) (Gs:=Gs) C2T C2U (A10 .i64) A2l D6X rfl Tryz.func61 (by kernel_rfl) rfl Tryz.func62 (by kernel_rfl) rfl trivial (fun _=>rfl) (id:=9700) (d:=L) (res:=B8j L)
  (fun x hx y hy=>by
   have e1:=A0K (hL.2 x hx);have e2:=A0K (hL.2 y hy);exact(D0D x y (by omega) (by omega):SpecP Tryz.prog Gs 62 (B6P [A10 .i64 x,A10 .i64 y]) _ []).caps)
  (by omega) (A3l L) (A9T hL.1)
theorem C6c {a k r:List Int}(hN:okN a k r):∀h cv args e,chW a k r h cv args=some e->optP e.p->SpecD Tryz.prog G cv args h e.v e.ws []:=by
 intro h cv args e he hp;unfold chW at he;split at he
 ·rename_i f c g u v vs _ _ _ _ _ _ h1;rw[cond_eq_ite]at he;split at he
  ·rename_i hk;cases he;simp only[Bool.and_eq_true]at hk;have e1:=Nat.eq_of_beq_eq_true hk.1;have e2:=Nat.eq_of_beq_eq_true hk.2.1;have e3:=Nat.eq_of_beq_eq_true hk.2.2.1;have e4:=Nat.eq_of_beq_eq_true hk.2.2.2.1;have e5:=Nat.eq_of_beq_eq_true hk.2.2.2.2;subst e1 e2 e3 e4 e5;obtain⟨rfl,_⟩:=hp;exact D0N hN
  ·cases he
 ·rename_i f i n g vs _ _ _ _ _ _ h1;rw[cond_eq_ite]at he;split at he
  ·rename_i hk;cases he;simp only[Bool.and_eq_true]at hk;have e1:=Nat.eq_of_beq_eq_true hk.1;have e2:=Nat.eq_of_beq_eq_true hk.2.1;have e3:=Nat.eq_of_beq_eq_true hk.2.2;subst e1 e2 e3;obtain⟨rfl,rfl,hl⟩:=hp;exact D0O hl hN.1
  ·cases he
 ·cases he
theorem C2V (a:List Int):okL a []:=⟨List.nodup_nil,fun l hl=>by cases hl⟩
theorem C2W {a k r:List Int}:okL a (A05 a.length r k [] []):=B7u (C2V a) (Nat.zero_le _)
theorem D0P:A1j Tryz.prog G 38 C9Z:=by
 intro args r h hp;unfold C9Z at h;split at h<;>cases h;rename_i a n _ k m _ r p _;obtain⟨⟨rfl,rfl,rfl⟩,hN⟩:=hp;refine A2d (A0e hcm hmx (A0q (l:=[]) (C6c hN) trivial) D25 rfl (C11 a k r) ?_);dsimp -failIfUnchanged -proj -eta -iota -zeta only[rd,rdw,qs,ql,qx];simp only[B2G,and_true,true_and,forall_const,true_imp_iff];have hp:=(A3l (A05 a.length r k [] [])).length_eq;exact⟨hN,C2W,rfl,hp.symm⟩
theorem D4W:TabOk Tryz.prog G TC:=A0q A0C ⟨B9x,D0P,trivial⟩
theorem C6d {b:Bool}(h:b=true)(l:List Int):bLs b l=l:=by rw[h];rfl
theorem B7A {a k:List Int}(h:A0l a k=true):okN a k (A0b a):=by
 obtain⟨h1,h2,_⟩:=A1C h;exact⟨h2,h1.symm,A1W a⟩
theorem B7B:A1j Tryz.prog G 16 C1X:=by
 intro args r h hp;unfold C1X at h;split at h<;>cases h;rename_i a n _ k m _;obtain⟨rfl,rfl,hz⟩:=hp;refine A1O (A0e hcm hmx D4W D2q rfl (C12 a k) ?_);unfold A39 cwL;simp only[A9Q,and_true,true_and,beq_iff_eq,beq_eq_false_iff_ne,ne_eq];refine⟨hz,fun h1=>?_,fun h1=>⟨fun h2=>?_,fun h2=>?_⟩⟩
 ·simp only[h1,C6d,cond_true,B2D h1];exact⟨⟨A2e ..,B7A h1⟩,trivial,by decide⟩
 ·rw[h1,if_pos h2];exact⟨rfl,rfl⟩
 ·rw[h1,if_neg h2];exact⟨rfl,rfl⟩
theorem B9D {L:List (List Int)}(h:0<L.length):(A1w L)[0]? =some (A10 .i64 (L[0]?.getD [])):=by
 cases L with
 |nil=>simp at h
 |cons x r=>rfl
theorem C6e:A1j Tryz.prog G 17 C8v:=by
 intro args r h hp;unfold C8v at h;split at h<;>cases h;rename_i a n _ k m _;obtain⟨rfl,rfl,hz⟩:=hp;refine A1O (A0e hcm hmx D4W D2s rfl (C13 a k) ?_);dsimp -failIfUnchanged -proj -eta -iota -zeta only[rd,rdw,qs,ql,qx];unfold B3V A4e;simp only[A9Q,bne,Bool.not_eq_true',Bool.not_eq_false',and_true,true_and,beq_iff_eq,beq_eq_false_iff_ne,ne_eq,A0h,A0x,A0u,A0y,A0i,List.drop_zero,B9A];have e0:A0l a k=false->cwL a k=[]:=fun h=>by unfold cwL;rw[h];rfl
 refine⟨hz,fun h1=>⟨fun h2=>?_,fun h2=>⟨fun h3=>(by rw[h1]at h3;cases h3),fun _=>?_⟩⟩,fun h1=>⟨fun _=>?_,fun h3=>(by rw[h1]at h3;cases h3)⟩⟩
 ·have h0:=B7o h1;rw[e0 h1,if_neg (by omega)];exact⟨rfl,rfl,rfl,rfl⟩
 ·rw[e0 h1,if_pos (.inr h2),if_pos rfl];exact⟨rfl,rfl,rfl,rfl⟩
 ·have e1:cwL a k=A2s a.length (A0b a) k:=by unfold cwL;rw[h1];rfl
  simp only[C6d h1,B2D h1,<- e1,true_or,if_true];refine⟨⟨A2e ..,B7A h1⟩,fun h2=>⟨h2,by omega,B9D (by omega),?_⟩,fun h2=>?_⟩
  ·rw[if_neg];intro h;rw[h]at h2;simp at h2
  ·have:cwL a k=[]:=List.length_eq_zero_iff.1 (by omega);rw[this];exact⟨rfl,rfl,rfl,rfl⟩
end Go.Proofs.YthiammkiobbclaaGreatDoor.X
