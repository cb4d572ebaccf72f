/-
 Cones: Insert of the library, laid (by the kit's own command).
-/
import Derived.Test.YthiammkiobbclaaProg
import Derived.Shelf.Lays2
import Derived.Ground.Names2Prog
import Derived.Shelf.SlSortCmp.NoneTotal
import Derived.Ground.SlsfProg
import Derived.Test.YthiammkiobbclaaMZ
import Derived.Test.YthiammkiobbclaaP3Z
set_option maxRecDepth 1000000
set_option linter.unusedVariables false
namespace Go.Proofs.Ythiammkiobbclaa.X
open Go Go.Shelf Go.Proofs

def lays59_ren:Go.Shelf.Ren:=⟨fun|21=>28|27=>45|28=>46|35=>58|39=>78|n=>n,fun|22=>27|3=>3|4=>4|0=>0|n=>n,fun|n=>n⟩
theorem lays59:Go.Proofs.Lays2.n21 Try.prog lays59_ren:={
 mixed:=by kernel_rfl
 f21:=Try.func28.trans (congrArg some (by kernel_rfl))
 f27:=Try.func45.trans (congrArg some (by kernel_rfl))
 f28:=Try.func46.trans (congrArg some (by kernel_rfl))
 f35:=Try.func58.trans (congrArg some (by kernel_rfl))
 f39:=Try.func78.trans (congrArg some (by kernel_rfl))
 t0:=Try.underlying0
 a0:=Try.isAgg0
 z0:=Try.sizeOf0
 v0:=Try.zeroValue0
 t3:=Try.underlying3
 a3:=Try.isAgg3
 z3:=Try.sizeOf3
 v3:=Try.zeroValue3
 t4:=Try.underlying4
 a4:=Try.isAgg4
 z4:=Try.sizeOf4
 v4:=Try.zeroValue4
 t22:=Try.underlying27
 a22:=Try.isAgg27
 z22:=Try.sizeOf27
 v22:=Try.zeroValue27
 i3:=by kernel_rfl}
end Go.Proofs.Ythiammkiobbclaa.X

/-
 Cones: SortFunc of the library, laid (by the kit's own command).
-/
set_option maxRecDepth 1000000
set_option linter.unusedVariables false
namespace Go.Proofs.Ythiammkiobbclaa.X
open Go Go.Shelf Go.Proofs

def sort611_ren:Go.Shelf.Ren:=⟨fun|6=>31|15=>48|14=>47|28=>67|29=>68|20=>59|21=>60|22=>61|23=>62|24=>63|25=>64|26=>65|27=>66|46=>79|47=>80|48=>81|49=>82|50=>83|57=>88|n=>n,fun|22=>51|24=>27|25=>68|3=>3|39=>85|0=>0|53=>107|55=>109|4=>4|46=>100|45=>99|50=>104|5=>5|9=>9|66=>118|70=>122|76=>128|77=>129|n=>n,fun|n=>n⟩
theorem sort611:Go.Proofs.SlLaysF.n6 Try.prog sort611_ren:={
 mixed:=by kernel_rfl
 f6:=⟨Try.f31.name,by decide,Try.func31.trans (congrArg some (by kernel_rfl))⟩
 f14:=⟨Try.f47.name,by decide,Try.func47.trans (congrArg some (by kernel_rfl))⟩
 f15:=Try.func48.trans (congrArg some (by kernel_rfl))
 f20:=⟨Try.f59.name,by decide,Try.func59.trans (congrArg some (by kernel_rfl))⟩
 f21:=⟨Try.f60.name,by decide,Try.func60.trans (congrArg some (by kernel_rfl))⟩
 f22:=⟨Try.f61.name,by decide,Try.func61.trans (congrArg some (by kernel_rfl))⟩
 f23:=⟨Try.f62.name,by decide,Try.func62.trans (congrArg some (by kernel_rfl))⟩
 f24:=⟨Try.f63.name,by decide,Try.func63.trans (congrArg some (by kernel_rfl))⟩
 f25:=⟨Try.f64.name,by decide,Try.func64.trans (congrArg some (by kernel_rfl))⟩
 f26:=⟨Try.f65.name,by decide,Try.func65.trans (congrArg some (by kernel_rfl))⟩
 f27:=⟨Try.f66.name,by decide,Try.func66.trans (congrArg some (by kernel_rfl))⟩
 f28:=Try.func67.trans (congrArg some (by kernel_rfl))
 f29:=Try.func68.trans (congrArg some (by kernel_rfl))
 f46:=⟨Try.f79.name,by decide,Try.func79.trans (congrArg some (by kernel_rfl))⟩
 f47:=Try.func80.trans (congrArg some (by kernel_rfl))
 f48:=Try.func81.trans (congrArg some (by kernel_rfl))
 f49:=⟨Try.f82.name,by decide,Try.func82.trans (congrArg some (by kernel_rfl))⟩
 f50:=⟨Try.f83.name,by decide,Try.func83.trans (congrArg some (by kernel_rfl))⟩
 f57:=⟨Try.f88.name,by decide,Try.func88.trans (congrArg some (by kernel_rfl))⟩
 t0:=Try.underlying0
 a0:=Try.isAgg0
 z0:=Try.sizeOf0
 v0:=Try.zeroValue0
 t3:=Try.underlying3
 a3:=Try.isAgg3
 z3:=Try.sizeOf3
 v3:=Try.zeroValue3
 t4:=Try.underlying4
 a4:=Try.isAgg4
 z4:=Try.sizeOf4
 v4:=Try.zeroValue4
 t5:=Try.underlying5
 a5:=Try.isAgg5
 z5:=Try.sizeOf5
 v5:=Try.zeroValue5
 t9:=Try.underlying9
 a9:=Try.isAgg9
 z9:=Try.sizeOf9
 v9:=Try.zeroValue9
 t22:=Try.underlying51
 a22:=Try.isAgg51
 z22:=Try.sizeOf51
 v22:=Try.zeroValue51
 a24:=Try.isAgg27
 z24:=Try.sizeOf27
 t25:=Try.underlying68
 a25:=Try.isAgg68
 z25:=Try.sizeOf68
 v25:=Try.zeroValue68
 t39:=Try.underlying85
 a39:=Try.isAgg85
 z39:=Try.sizeOf85
 v39:=Try.zeroValue85
 t45:=Try.underlying99
 a45:=Try.isAgg99
 z45:=Try.sizeOf99
 v45:=Try.zeroValue99
 t46:=Try.underlying100
 a46:=Try.isAgg100
 z46:=Try.sizeOf100
 v46:=Try.zeroValue100
 t50:=Try.underlying104
 a50:=Try.isAgg104
 z50:=Try.sizeOf104
 v50:=Try.zeroValue104
 t53:=Try.underlying107
 a53:=Try.isAgg107
 z53:=Try.sizeOf107
 v53:=Try.zeroValue107
 t55:=Try.underlying109
 a55:=Try.isAgg109
 z55:=Try.sizeOf109
 v55:=Try.zeroValue109
 t66:=Try.underlying118
 a66:=Try.isAgg118
 z66:=Try.sizeOf118
 v66:=Try.zeroValue118
 t70:=Try.underlying122
 a70:=Try.isAgg122
 z70:=Try.sizeOf122
 v70:=Try.zeroValue122
 t76:=Try.underlying128
 a76:=Try.isAgg128
 z76:=Try.sizeOf128
 v76:=Try.zeroValue128
 t77:=Try.underlying129
 a77:=Try.isAgg129
 z77:=Try.sizeOf129
 v77:=Try.zeroValue129}
def sort610_ren:Go.Shelf.Ren:=⟨fun|6=>31|15=>48|14=>47|28=>67|29=>68|20=>59|21=>60|22=>61|23=>62|24=>63|25=>64|26=>65|27=>66|46=>79|47=>80|48=>81|49=>82|50=>83|57=>88|n=>n,fun|22=>51|24=>27|25=>68|3=>3|39=>85|0=>0|53=>107|55=>109|4=>4|46=>100|45=>99|50=>104|5=>5|9=>9|66=>118|70=>122|76=>128|77=>129|n=>n,fun|n=>n⟩
theorem sort610:Go.Proofs.SlLaysF0.n6 Try.prog sort610_ren:={
 mixed:=by kernel_rfl
 f6:=⟨Try.f31.name,by decide,Try.func31.trans (congrArg some (by kernel_rfl))⟩
 f14:=⟨Try.f47.name,by decide,Try.func47.trans (congrArg some (by kernel_rfl))⟩
 f15:=Try.func48.trans (congrArg some (by kernel_rfl))
 f20:=⟨Try.f59.name,by decide,Try.func59.trans (congrArg some (by kernel_rfl))⟩
 f21:=⟨Try.f60.name,by decide,Try.func60.trans (congrArg some (by kernel_rfl))⟩
 f22:=⟨Try.f61.name,by decide,Try.func61.trans (congrArg some (by kernel_rfl))⟩
 f23:=⟨Try.f62.name,by decide,Try.func62.trans (congrArg some (by kernel_rfl))⟩
 f24:=⟨Try.f63.name,by decide,Try.func63.trans (congrArg some (by kernel_rfl))⟩
 f25:=⟨Try.f64.name,by decide,Try.func64.trans (congrArg some (by kernel_rfl))⟩
 f26:=⟨Try.f65.name,by decide,Try.func65.trans (congrArg some (by kernel_rfl))⟩
 f27:=⟨Try.f66.name,by decide,Try.func66.trans (congrArg some (by kernel_rfl))⟩
 f28:=Try.func67.trans (congrArg some (by kernel_rfl))
 f29:=Try.func68.trans (congrArg some (by kernel_rfl))
 f46:=⟨Try.f79.name,by decide,Try.func79.trans (congrArg some (by kernel_rfl))⟩
 f47:=Try.func80.trans (congrArg some (by kernel_rfl))
 f48:=Try.func81.trans (congrArg some (by kernel_rfl))
 f49:=⟨Try.f82.name,by decide,Try.func82.trans (congrArg some (by kernel_rfl))⟩
 f50:=⟨Try.f83.name,by decide,Try.func83.trans (congrArg some (by kernel_rfl))⟩
 f57:=⟨Try.f88.name,by decide,Try.func88.trans (congrArg some (by kernel_rfl))⟩
 t0:=Try.underlying0
 a0:=Try.isAgg0
 z0:=Try.sizeOf0
 v0:=Try.zeroValue0
 t3:=Try.underlying3
 a3:=Try.isAgg3
 z3:=Try.sizeOf3
 v3:=Try.zeroValue3
 t4:=Try.underlying4
 a4:=Try.isAgg4
 z4:=Try.sizeOf4
 v4:=Try.zeroValue4
 t5:=Try.underlying5
 a5:=Try.isAgg5
 z5:=Try.sizeOf5
 v5:=Try.zeroValue5
 t9:=Try.underlying9
 a9:=Try.isAgg9
 z9:=Try.sizeOf9
 v9:=Try.zeroValue9
 t22:=Try.underlying51
 a22:=Try.isAgg51
 z22:=Try.sizeOf51
 v22:=Try.zeroValue51
 t25:=Try.underlying68
 a25:=Try.isAgg68
 z25:=Try.sizeOf68
 v25:=Try.zeroValue68
 t39:=Try.underlying85
 a39:=Try.isAgg85
 z39:=Try.sizeOf85
 v39:=Try.zeroValue85
 t45:=Try.underlying99
 a45:=Try.isAgg99
 z45:=Try.sizeOf99
 v45:=Try.zeroValue99
 t46:=Try.underlying100
 a46:=Try.isAgg100
 z46:=Try.sizeOf100
 v46:=Try.zeroValue100
 t50:=Try.underlying104
 a50:=Try.isAgg104
 z50:=Try.sizeOf104
 v50:=Try.zeroValue104
 t53:=Try.underlying107
 a53:=Try.isAgg107
 z53:=Try.sizeOf107
 v53:=Try.zeroValue107
 t55:=Try.underlying109
 a55:=Try.isAgg109
 z55:=Try.sizeOf109
 v55:=Try.zeroValue109
 t66:=Try.underlying118
 a66:=Try.isAgg118
 z66:=Try.sizeOf118
 v66:=Try.zeroValue118
 t70:=Try.underlying122
 a70:=Try.isAgg122
 z70:=Try.sizeOf122
 v70:=Try.zeroValue122
 t76:=Try.underlying128
 a76:=Try.isAgg128
 z76:=Try.sizeOf128
 v76:=Try.zeroValue128
 t77:=Try.underlying129
 a77:=Try.isAgg129
 z77:=Try.sizeOf129
 v77:=Try.zeroValue129}
end Go.Proofs.Ythiammkiobbclaa.X
/-
 Cones: the contracts of growing, of all ways, Count and First.
-/
set_option maxRecDepth 1000000
set_option linter.unusedVariables false
set_option linter.unusedSimpArgs false
namespace Go.Proofs.Ythiammkiobbclaa.X
open Go Go.Ab

/-! ### The library -/
theorem sp59 {o:List Int}{i:Nat}{x:Int}{cv:Option Nat}(hi:i≤o.length)(h0:0<o.length)(hz:o.length<1000000):
  SpecD Try.prog G (.fn 28 [] []) [.full 32896 o.length,.int .i64 (i:Int),.full 517 1] [(517,.blk ⟨.ints .i64 [x],1,1,cv,some false,true,false⟩),(32896,.blk ⟨.ints .i64 o,1,o.length,none,some false,true,false⟩)]
   (.imm (.ints .i64 (insA o i x)) (insA o i x).length none) [(32896,.blk ⟨.ints .i64 (insA o i x),1,(insA o i x).length,none,some false,false,false⟩)] []:=
 ins_spec lays59 rfl Try.func28 (by kernel_rfl) rfl (by decide) hi h0 hz
theorem sp59n {x:Int}{cv:Option Nat}:
  SpecD Try.prog G (.fn 28 [] []) [.nils,.int .i64 0,.full 517 1] [(517,.blk ⟨.ints .i64 [x],1,1,cv,some false,true,false⟩)] (.imm (.ints .i64 [x]) 1 none) [] []:=
 ins_nil lays59 rfl Try.func28 (by kernel_rfl) rfl
theorem ct41n:CtOk Try.prog G 29 eCloneN:=by
 intro args r h hp
 unfold eCloneN at h
 split at h<;>cases h
 exact fnP_spec hcm hmx T0ok ok29 rfl ob_o41n trivial
/-! ### Growing -/
theorem cwB_or {n:Nat}{r k o:List Int}:cwB n r k o=true↔crsB n r (rkL o)=true∨wrgB k (rkL o)=true:=by
 unfold cwB;rw[Bool.or_eq_true]
theorem cwB_no {n:Nat}{r k o:List Int}(h1:crsB n r (rkL o)=false)(h2:wrgB k (rkL o)=false):cwB n r k o=false:=by
 unfold cwB;rw[h1,h2];rfl
/-! ### All ways -/
theorem sp61c {a:List Int}{L:List (List Int)}(hL:okL a L)(ha:a.length≤8):SpecD Try.prog G (.fn 31 [] []) [.full 9700 L.length,.fn 32 [] []] [(9700,.blk (bkO L))] (.tup []) [(9700,.blk ⟨.vals (outV (srtL L)),1,L.length,none,some true,true,false⟩)] []:=by
 have hz:=okL_len hL ha
 exact sort1_spec (G:=G) (Gs:=Gs) sort611 sort610 (immL .i64) cmpL swoL rfl Try.func31 (by kernel_rfl) rfl Try.func32 (by kernel_rfl) rfl trivial (fun _=>rfl) (id:=9700) (d:=L) (res:=srtL L)
  (fun x hx y hy=>by
   have e1:=perm_len (hL.2 x hx)
   have e2:=perm_len (hL.2 y hy)
   exact(sp62s x y (by omega) (by omega):SpecP Try.prog Gs 32 (capsL [immL .i64 x,immL .i64 y]) _ []).caps)
  (by omega) (srtL_perm L) (srtL_srt hL.1)
theorem okL_nil (a:List Int):okL a []:=⟨List.nodup_nil,fun l hl=>by cases hl⟩
theorem grw_okL {a k r:List Int}:okL a (grwO a.length r k [] []):=grwO_ok (okL_nil a) (Nat.zero_le _)
end Go.Proofs.Ythiammkiobbclaa.X
