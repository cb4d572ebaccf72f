/-
 Sorting creases: the library's contract, laid (by the kit's own command), under the closure's contract.
-/
import Derived.Test.YtfafinkgmhkdmaaGreatDoorVC8Z
set_option maxRecDepth 1000000
set_option linter.unusedVariables false
set_option linter.unusedSimpArgs false
namespace Go.Proofs.YtfafinkgmhkdmaaGreatDoor.X
open Go Go.Ab Go.Shelf Go.Proofs
def B3U:Go.Shelf.Ren:=⟨fun|6=>19|15=>50|14=>49|28=>82|29=>83|20=>74|21=>75|22=>76|23=>77|24=>78|25=>79|26=>80|27=>81|46=>113|47=>114|48=>115|49=>116|50=>117|57=>137|n=>n,fun|22=>32|24=>62|25=>67|3=>3|39=>101|0=>0|53=>138|55=>140|4=>4|46=>131|45=>130|50=>135|5=>5|9=>9|66=>180|70=>184|76=>199|77=>200|n=>n,fun|n=>n⟩
theorem C4P:Go.Proofs.SlLaysF0.n6 Tryz.prog B3U:={
 mixed:=by kernel_rfl
 f6:=⟨Tryz.f19.name,by decide,Tryz.func19.trans (congrArg some (by kernel_rfl))⟩
 f14:=⟨Tryz.f49.name,by decide,Tryz.func49.trans (congrArg some (by kernel_rfl))⟩
 f15:=Tryz.func50.trans (congrArg some (by kernel_rfl))
 f20:=⟨Tryz.f74.name,by decide,Tryz.func74.trans (congrArg some (by kernel_rfl))⟩
 f21:=⟨Tryz.f75.name,by decide,Tryz.func75.trans (congrArg some (by kernel_rfl))⟩
 f22:=⟨Tryz.f76.name,by decide,Tryz.func76.trans (congrArg some (by kernel_rfl))⟩
 f23:=⟨Tryz.f77.name,by decide,Tryz.func77.trans (congrArg some (by kernel_rfl))⟩
 f24:=⟨Tryz.f78.name,by decide,Tryz.func78.trans (congrArg some (by kernel_rfl))⟩
 f25:=⟨Tryz.f79.name,by decide,Tryz.func79.trans (congrArg some (by kernel_rfl))⟩
 f26:=⟨Tryz.f80.name,by decide,Tryz.func80.trans (congrArg some (by kernel_rfl))⟩
 f27:=⟨Tryz.f81.name,by decide,Tryz.func81.trans (congrArg some (by kernel_rfl))⟩
 f28:=Tryz.func82.trans (congrArg some (by kernel_rfl))
 f29:=Tryz.func83.trans (congrArg some (by kernel_rfl))
 f46:=⟨Tryz.f113.name,by decide,Tryz.func113.trans (congrArg some (by kernel_rfl))⟩
 f47:=Tryz.func114.trans (congrArg some (by kernel_rfl))
 f48:=Tryz.func115.trans (congrArg some (by kernel_rfl))
 f49:=⟨Tryz.f116.name,by decide,Tryz.func116.trans (congrArg some (by kernel_rfl))⟩
 f50:=⟨Tryz.f117.name,by decide,Tryz.func117.trans (congrArg some (by kernel_rfl))⟩
 f57:=⟨Tryz.f137.name,by decide,Tryz.func137.trans (congrArg some (by kernel_rfl))⟩
 t0:=Tryz.underlying0
 a0:=Tryz.isAgg0
 z0:=Tryz.sizeOf0
 v0:=Tryz.zeroValue0
 t3:=Tryz.underlying3
 a3:=Tryz.isAgg3
 z3:=Tryz.sizeOf3
 v3:=Tryz.zeroValue3
 t4:=Tryz.underlying4
 a4:=Tryz.isAgg4
 z4:=Tryz.sizeOf4
 v4:=Tryz.zeroValue4
 t5:=Tryz.underlying5
 a5:=Tryz.isAgg5
 z5:=Tryz.sizeOf5
 v5:=Tryz.zeroValue5
 t9:=Tryz.underlying9
 a9:=Tryz.isAgg9
 z9:=Tryz.sizeOf9
 v9:=Tryz.zeroValue9
 t22:=Tryz.underlying32
 a22:=Tryz.isAgg32
 z22:=Tryz.sizeOf32
 v22:=Tryz.zeroValue32
 t25:=Tryz.underlying67
 a25:=Tryz.isAgg67
 z25:=Tryz.sizeOf67
 v25:=Tryz.zeroValue67
 t39:=Tryz.underlying101
 a39:=Tryz.isAgg101
 z39:=Tryz.sizeOf101
 v39:=Tryz.zeroValue101
 t45:=Tryz.underlying130
 a45:=Tryz.isAgg130
 z45:=Tryz.sizeOf130
 v45:=Tryz.zeroValue130
 t46:=Tryz.underlying131
 a46:=Tryz.isAgg131
 z46:=Tryz.sizeOf131
 v46:=Tryz.zeroValue131
 t50:=Tryz.underlying135
 a50:=Tryz.isAgg135
 z50:=Tryz.sizeOf135
 v50:=Tryz.zeroValue135
 t53:=Tryz.underlying138
 a53:=Tryz.isAgg138
 z53:=Tryz.sizeOf138
 v53:=Tryz.zeroValue138
 t55:=Tryz.underlying140
 a55:=Tryz.isAgg140
 z55:=Tryz.sizeOf140
 v55:=Tryz.zeroValue140
 t66:=Tryz.underlying180
 a66:=Tryz.isAgg180
 z66:=Tryz.sizeOf180
 v66:=Tryz.zeroValue180
 t70:=Tryz.underlying184
 a70:=Tryz.isAgg184
 z70:=Tryz.sizeOf184
 v70:=Tryz.zeroValue184
 t76:=Tryz.underlying199
 a76:=Tryz.isAgg199
 z76:=Tryz.sizeOf199
 v76:=Tryz.zeroValue199
 t77:=Tryz.underlying200
 a77:=Tryz.isAgg200
 z77:=Tryz.sizeOf200
 v77:=Tryz.zeroValue200}
theorem hcs:Gs.cm=A2x Tryz.prog:=rfl
theorem C6A:TabOk Tryz.prog Gs T0:=A0m (l:=[]) A0s trivial
theorem s75:A06 Tryz.prog Gs 51 (B2O .i64):=by
 intro args r h hp;unfold B2O at h;split at h
 ·rw[cond_eq_ite]at h;split at h
  ·rename_i hk;cases A0u hk;cases h;refine A0d hcs hmx C6A C6X rfl (C01 _) ?_;simp
  ·cases h
 ·cases h
theorem s76:A06 Tryz.prog Gs 52 (B2O .u8):=by
 intro args r h hp;unfold B2O at h;split at h
 ·rw[cond_eq_ite]at h;split at h
  ·rename_i hk;cases A0u hk;cases h;refine A0d hcs hmx C6A D1k rfl (C02 _) ?_;simp
  ·cases h
 ·cases h
theorem D2G:A1Z Tryz.prog Gs sA':=⟨s75,s76,trivial⟩
theorem D2H:TabOk Tryz.prog Gs SA':=A0m A0s D2G
theorem s52:A06 Tryz.prog Gs 22 (A46 .i64):=by
 intro args r h hp;unfold A46 at h;split at h
 ·rw[cond_eq_ite]at h;split at h
  ·rename_i hk;rw[Bool.and_eq_true]at hk;cases A0u hk.1;cases A0u hk.2;cases h;exact A0d hcs hmx D2H C6P rfl (C03 _ _) (B22 _ _)
  ·cases h
 ·cases h
theorem s53:A06 Tryz.prog Gs 23 (A46 .u8):=by
 intro args r h hp;unfold A46 at h;split at h
 ·rw[cond_eq_ite]at h;split at h
  ·rename_i hk;rw[Bool.and_eq_true]at hk;cases A0u hk.1;cases A0u hk.2;cases h;exact A0d hcs hmx D2H D0z rfl (C04 _ _) (B22 _ _)
  ·cases h
 ·cases h
theorem s47:A06 Tryz.prog Gs 21 e47:=by
 intro args r h hp;unfold e47 at h;split at h<;>cases h;rename_i x y _;have:SpecP Tryz.prog Gs 21 [.imm (.ints .i64 [x,y]) 2 none] (.int .i64 (orI x y)) []:=by
  refine A0d hcs hmx C6A C6O rfl (C05 x y) ?_
  by_cases hx:x=0
  ·by_cases hy:y=0<;>simp[orI,hx,hy]
  ·simp[orI,hx]
 exact this.caps
theorem D4v:TabOk Tryz.prog Gs SB':=A0m A0s ⟨s52,s53,s47,D2G⟩
theorem s51 (x y:Cr):SpecP Tryz.prog Gs 20 [crV x,crV y] (.int .i64 (A3S x y)) []:=by
 refine A0d hcs hmx D4v D0v rfl (C06 x y) ?_;simp
theorem c51 (W:World)(x y:Cr):Calls Tryz.prog 20 #[.agg (RCr.vl x).toArray,.agg (RCr.vl y).toArray] W fun e w'=>e=.returned (.int .i64 (A3S x y))/\∃q os',w'=Go.Sort.grow (W.drewN q) os':=
 A3q (G:=Gs) trivial (fun _=>rfl) (s51 x y) Tryz.func20 (by kernel_rfl) rfl W
  (.cons _ _ _ _ (.agg _ _ (.cons _ _ _ _ (.int _ _) (.cons _ _ _ _ (.int _ _) (.cons _ _ _ _ (.int _ _) .nil)))) (.cons _ _ _ _ (.agg _ _ (.cons _ _ _ _ (.int _ _) (.cons _ _ _ _ (.int _ _) (.cons _ _ _ _ (.int _ _) .nil)))) .nil))
theorem A5s (x y:Cr):A3S x y<0↔x.1<y.1\/(x.1=y.1/\x.2.1<y.2.1):=by
 unfold A3S orI A28
 repeat' split
 all_goals omega
theorem C1a:Go.Sort.SWO (ltOf A3S) where
 irrefl x:=by simp only[ltOf,decide_eq_false_iff_not,A5s];omega
 trans x y z h1 h2:=by simp only[ltOf,decide_eq_true_eq,A5s]at *; omega
 ntrans x y z h1 h2:=by simp only[ltOf,decide_eq_false_iff_not,A5s]at *; omega
theorem C8G {id:Nat}{d:List Cr}{cap:Option Nat}{nl:Option Bool}{bx:Bool}(h:d.length<1000000000):
  SpecD Tryz.prog G (.fn 19 [] []) [.full id d.length,.fn 20 [] []] [(id,.blk ⟨.vals (flatC d),3,d.length,cap,nl,true,bx⟩)] (.tup [])
   [(id,.blk ⟨.vals (flatC (A14 A3S d)),3,d.length,cap,nl,true,bx⟩)] []:=
 A7E C4P RCr (by decide) Tryz.isAgg62 Tryz.sizeOf62 A3S C1a rfl Tryz.func19 (by kernel_rfl) rfl (fun args w=>A1h Tryz.func20 (by kernel_rfl) rfl args w) c51 h
theorem C4Q (a k:List Int)(f:Int):B7i Tryz.prog G (C8c a k f):=by
 intro h cv args r hr hp;unfold C8c at hr;split at hr
 ·rw[cond_eq_ite]at hr;split at hr
  ·rename_i hc;simp only[Bool.and_eq_true]at hc;cases Nat.eq_of_beq_eq_true hc.1;cases Nat.eq_of_beq_eq_true hc.2.1;cases Nat.eq_of_beq_eq_true hc.2.2;cases hr;obtain⟨rfl,rfl,hz⟩:=hp;exact C8G hz
  ·cases hr
 ·cases hr
end Go.Proofs.YtfafinkgmhkdmaaGreatDoor.X
