/-
 The plain law of patterns of fans: a flat fan is told by the set of its directions; 256 sets, 8 turns are looked at.
-/
import Derived.Test.YtfafinkgmhkdmaaGreatDoorFGZ
import Derived.Test.YtfafinkgmhkdmaaGreatDoorVMZ
set_option maxRecDepth 1000000
set_option linter.unusedVariables false
set_option linter.unusedSimpArgs false
namespace Go.Proofs.YtfafinkgmhkdmaaGreatDoor.X
open Go Go.Ab

/-! ### Flat fans, by the set of their directions -/
def fdC (c:Int):FS:=ffold c [] 8
def aC (c:Int):List Int:=fclose (fdC c)
def nC (c:Int):Nat:=(fdC c).k.length
def kI (n:Nat):List Int:=(List.range n).map fun(i:Nat)=>(i:Int)+1
def gK (ks:List Int)(j:Int):Int:=if j=0 then 0 else kdOf ks (j.toNat-1)
theorem ff_ks (c:Int)(ks:List Int):∀n,(ffold c ks n).last=(ffold c [] n).last∧(ffold c ks n).first=(ffold c [] n).first∧(ffold c ks n).a=(ffold c [] n).a∧
  (ffold c ks n).k.length=(ffold c [] n).k.length∧(ffold c ks n).k=(List.range (ffold c ks n).k.length).map (kdOf ks)
 |0=>⟨rfl,rfl,rfl,rfl,rfl⟩
 |n+1=>by
  obtain⟨h1,h2,h3,h4,h5⟩:=ff_ks c ks n
  have key:((ffold c ks n).k++[kdOf ks (ffold c ks n).k.length])=(List.range ((ffold c ks n).k++[kdOf ks (ffold c ks n).k.length]).length).map (kdOf ks):=by
   rw[List.length_append,List.length_singleton,List.range_succ,List.map_append,← h5];rfl
  rw[ffold_succ,ffold_succ]
  unfold fstep
  by_cases hb:bitZ c (n:Int)=true
  ·rw[if_pos hb,if_pos hb];exact⟨h1,h2,h3,h4,h5⟩
  ·rw[if_neg hb,if_neg hb,h1]
   by_cases hl:0≤(ffold c [] n).last
   ·rw[if_pos hl,if_pos hl]
    exact⟨rfl,h2,by rw[h3],by simp[h4],key⟩
   ·rw[if_neg hl,if_neg hl]
    exact⟨rfl,rfl,h3,by simp[h4],key⟩
theorem less0:∀(a:List Int) (i:Nat),lessL 0 i a=a
 |[],_=>rfl
 |x::a,i=>by
  have:¬ (((0:Int).fdiv (2 ^ min i IntKind.u8.bits)).tmod 2=1∧1<x):=by
   rintro⟨h,_⟩
   rw[Int.zero_fdiv]at h
   exact absurd h (by decide)
  simp only[lessL,if_neg this,less0 a]
theorem ofA_C (c:Int)(ks:List Int):ofA c 0 ks=aC c:=by
 obtain⟨h1,h2,h3,h4,h5⟩:=ff_ks c ks 8
 unfold ofA aC fclose fdC
 rw[less0,h1,h2,h3]
theorem gK_map (ks:List Int)(n:Nat):(kI n).map (gK ks)=(List.range n).map (kdOf ks):=by
 unfold kI
 rw[List.map_map]
 refine List.map_congr_left fun i _=>?_
 show gK ks ((i:Int)+1)=_
 unfold gK
 rw[if_neg (by omega),show((i:Int)+1).toNat-1=i by omega]
theorem ofK_C (c:Int)(ks:List Int):ofK c ks=(kI (nC c)).map (gK ks):=by
 obtain⟨h1,h2,h3,h4,h5⟩:=ff_ks c ks 8
 rw[gK_map]
 unfold ofK nC fdC
 rw[← h4];exact h5
theorem gK0 (ks:List Int):gK ks 0=0:=rfl
theorem gK_ok {ks:List Int}(h:okK ks)(j:Int):0≤gK ks j∧gK ks j≤3∧(gK ks j=0↔j=0):=by
 unfold gK
 split
 ·rename_i e;subst e;decide
 ·rename_i e
  have:=kdOf_ok h (j.toNat-1)
  refine⟨by omega,by omega,by omega⟩
/-! ### Kinds renamed -/
section
variable {g:Int→Int}
theorem getD_map (g0:g 0=0)(k:List Int)(n:Nat):(k.map g)[n]?.getD 0=g (k[n]?.getD 0):=by
 rw[List.getElem?_map]
 cases k[n]? with
 |none=>exact g0.symm
 |some x=>rfl
theorem kdN_map (g0:g 0=0)(a k:List Int)(d:Int):∀n,kdN a (k.map g) d n=(kdN a k d n).map g
 |0=>by simp[kdN,g0]
 |n+1=>by
  simp only[kdN]
  rw[kdN_map g0 a k d n,getD_map g0,List.map_set]
theorem ksOf_map (g0:g 0=0)(kd:List Int):ksOf (kd.map g)=(ksOf kd).map g:=by
 unfold ksOf
 rw[List.map_map]
 refine List.map_congr_left fun r _=>?_
 exact getD_map g0 kd r
def reK (g:Int→Int)(x:Int×Int×Int):Int×Int×Int:=(x.1,x.2.1,g x.2.2)
theorem wthL_map (g0:∀j,g j=0↔j=0):∀(us ks:List Int),P.wthL us (ks.map g)=(P.wthL us ks).map (reK g)
 |[],ks=>by cases ks<;>rfl
 |u::us,[]=>rfl
 |u::us,k::ks=>by
  simp only[List.map_cons,P.wthL]
  by_cases h:k=0
  ·rw[if_pos h,if_pos ((g0 k).2 h),wthL_map g0 us ks]
  ·rw[if_neg h,if_neg (fun e=>h ((g0 k).1 e)),wthL_map g0 us ks];rfl
theorem rayK_map (r x:Int):rayK r (g x)=(rayK r x).map (reK g):=by
 unfold rayK
 rw[List.map_map];rfl
theorem rawF_map:∀(a k:List Int) (f:Int),rawF a (k.map g) f=(rawF a k f).map (reK g)
 |[],k,f=>by simp[rawF]
 |n::a,[],f=>by simp[rawF]
 |n::a,x::k,f=>by
  simp only[List.map_cons,rawF,List.map_append,rayK_map,rawF_map a k (f+n)]
def nzB (z:Int×Int):Bool:= !(z.2==0)
/-- The rays in the middle, by directions. -/
def RI (kd:List Int):List Ry:=((List.range 8).map fun(r:Nat)=>((r:Int),kd[r]?.getD 0)).filter nzB
def re2 (g:Int→Int)(z:Int×Int):Int×Int:=(z.1,g z.2)
theorem RI_map (g0:∀j,g j=0↔j=0)(kd:List Int):RI (kd.map g)=(RI kd).map (re2 g):=by
 unfold RI
 rw[List.filter_map,List.filter_map,List.map_map]
 have e:∀r:Nat,(nzB∘fun(r:Nat)=>((r:Int),(kd.map g)[r]?.getD 0)) r=(nzB∘fun(r:Nat)=>((r:Int),kd[r]?.getD 0)) r:=fun r=>by
  simp only[Function.comp,nzB,getD_map ((g0 0).2 rfl)]
  congr 1
  rw[Bool.eq_iff_iff,beq_iff_eq,beq_iff_eq]
  exact g0 _
 rw[List.filter_congr fun r _=>e r]
 refine List.map_congr_left fun r _=>?_
 simp only[Function.comp,re2,getD_map ((g0 0).2 rfl)]
theorem dR_map (R:List Ry)(i:Int):dR (R.map (re2 g)) i=dR R i:=by
 unfold dR
 rw[List.getElem?_map]
 cases R[i.toNat]? <;>rfl
theorem angR_map (R:List Ry)(n:Nat):angR (R.map (re2 g)) n=angR R n:=by
 unfold angR nxR
 simp only[dR_map,List.length_map]
theorem kndR_map (R:List Ry):kndR (R.map (re2 g))=(kndR R).map g:=by
 unfold kndR
 rw[List.map_map,List.map_map];rfl
theorem unN_map (g0:∀j,g j=0↔j=0)(kd:List Int):∀n,unN (kd.map g) n=unN kd n
 |0=>rfl
 |n+1=>by
  simp only[unN,getD_map ((g0 0).2 rfl),unN_map g0 kd n]
  congr 1
  rw[Bool.eq_iff_iff,bne_iff_ne,bne_iff_ne,ne_eq,ne_eq,g0]
theorem rotL_map (k:List Int)(n:Nat):rotL' (k.map g) n=(rotL' k n).map g:=by
 unfold rotL'
 rw[List.map_append,List.map_drop,List.map_take]
end
/-! ### All sets of directions -/
def uL:List Int:=[1,2,3,5,6,7,13,14,17,18,19,25,26,27,29,31,37,38,41,43]
theorem units22:P.units 2 2=uL:=by decide +kernel
def chk1 (a k kd:List Int)(R:List Ry)(d m:Int)(n:Nat)(cr:List P.Cr):Bool:=
 (rawF a k d).isPerm cr&&((R.length==n)&&((a.length==n)&&((unN kd 8==cr.length)&&(((n==0)&&(angR R R.length==[]&&kndR R==[]))||
  ((decide (0<n)&&(tOk a m&&(angR R n==rotL' a m.toNat&&kndR R==rotL' k m.toNat)))&&(dR R 0==lsN a d n))))))
def chkC (a k:List Int)(n:Nat)(d:Int):Bool:=chk1 a k (kdN a k d n) (RI (kdN a k d n)) d (mnN a d n) n (P.wthL uL (ksOf (kdN a k d n)))
def chkD (c:Int):Bool:=(wsum (aC c)==8||nC c==0)&&((aC c).length==nC c)&&(List.range 8).all fun(d:Nat)=>chkC (aC c) (kI (nC c)) (nC c) d
theorem chkAll:((List.range 256).all fun(c:Nat)=>chkD c)=true:=by decide +kernel
end Go.Proofs.YtfafinkgmhkdmaaGreatDoor.X
