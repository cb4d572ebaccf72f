/-
 The contracts of the functions on cells and sheets: cells by corners, neighbours, ids.
-/
import Derived.Test.YtfpcbimohikhmaaDoorQO2Z
import Derived.Test.YtfpcbimohikhmaaDoorQC1Z
set_option maxRecDepth 1000000
set_option linter.unusedVariables false
set_option linter.unusedSimpArgs false
namespace Go.Proofs.YtfpcbimohikhmaaDoor.X
open Go Go.Ab

theorem get6 (x0 y0 x1 y1 x2 y2 j:Int)(h0:0≤j)(h3:j<3):([AV.int .i64 x0,AV.int .i64 y0,AV.int .i64 x1,AV.int .i64 y1,AV.int .i64 x2,AV.int .i64 y2]:List AV)[j.toNat*2]? =some (AV.int .i64 (p3 x0 x1 x2 j))∧
  ([AV.int .i64 x0,AV.int .i64 y0,AV.int .i64 x1,AV.int .i64 y1,AV.int .i64 x2,AV.int .i64 y2]:List AV)[j.toNat*2+1]? =some (AV.int .i64 (p3 y0 y1 y2 j)):=by
 obtain rfl|rfl|rfl:j=0∨j=1∨j=2:=by omega
 ·exact⟨rfl,rfl⟩
 ·exact⟨rfl,rfl⟩
 ·exact⟨rfl,rfl⟩
theorem tm3 {n:Int}(h:0≤n):0≤n.tmod 3∧n.tmod 3<3:=⟨Int.tmod_nonneg _ h,Int.tmod_lt_of_pos _ (by decide)⟩
section
variable {x0 y0 x1 y1 x2 y2:Int}{n:Nat}
theorem wth_even (hn:n<3)(h:evB (p3 x0 x1 x2 n) (p3 y0 y1 y2 n)=true):wth x0 y0 x1 y1 x2 y2 (3-n) n=wth x0 y0 x1 y1 x2 y2 (3-(n+1)) ((n+1:Nat):Int):=by
 rw[show 3-n=(3-(n+1))+1 by omega]
 simp only[wth,h,cond_true]
 rfl
theorem wth_miss (hn:n<3)(h:evB (p3 x0 x1 x2 n) (p3 y0 y1 y2 n)=false)(hf:¬ fndQ (wthM x0 y0 x1 y1 x2 y2 n) 4 0<4):wth x0 y0 x1 y1 x2 y2 (3-n) n=wth x0 y0 x1 y1 x2 y2 (3-(n+1)) ((n+1:Nat):Int):=by
 rw[show 3-n=(3-(n+1))+1 by omega]
 simp only[wth,h,cond_false,decide_eq_false hf]
 rfl
theorem wth_hit (hn:n<3)(h:evB (p3 x0 x1 x2 n) (p3 y0 y1 y2 n)=false)(hf':fndQ (wthM x0 y0 x1 y1 x2 y2 n) 4 0<4):wth x0 y0 x1 y1 x2 y2 (3-n) n=(hf (p3 x0 x1 x2 n),hf (p3 y0 y1 y2 n),fndQ (wthM x0 y0 x1 y1 x2 y2 n) 4 0):=by
 rw[show 3-n=(3-(n+1))+1 by omega]
 simp only[wth,h,cond_false,decide_eq_true hf',cond_true]
end
theorem fnd_on {f:Int→Bool}{m:Nat}(hm:m<4)(h:f m=true):fndQ f (4-m) m=m:=by
 rw[show 4-m=(4-(m+1))+1 by omega]
 simp only[fndQ,h,cond_true]
theorem fnd_off {f:Int→Bool}{m:Nat}(hm:m<4)(h:f m=false):fndQ f (4-m) m=fndQ f (4-(m+1)) ((m+1:Nat):Int):=by
 rw[show 4-m=(4-(m+1))+1 by omega]
 simp only[fndQ,h,cond_false]
 rfl
theorem sp89 (x0 y0 x1 y1 x2 y2:Int)(h1:sml2 x0)(h2:sml2 y0)(h3:sml2 x1)(h4:sml2 y1)(h5:sml2 x2)(h6:sml2 y2):
  SpecP Tryd.prog G 89 [.agg [.int .i64 x0,.int .i64 y0,.int .i64 x1,.int .i64 y1,.int .i64 x2,.int .i64 y2]] (.agg [.int .i64 (wX x0 y0 x1 y1 x2 y2),.int .i64 (wY x0 y0 x1 y1 x2 y2),.int .u8 (wQ x0 y0 x1 y1 x2 y2)]) []:=by
 refine fnP_spec hcm hmx CBok ok89 rfl (ob_o89 x0 y0 x1 y1 x2 y2) ?_
 dsimp -failIfUnchanged -proj -eta -iota -zeta only[rd,rdw,qs,ql,qx]
 simp only[ltb_iff,ltb_no,leb_iff,leb_no,inR_i64,inR_u8,and_true,true_and,beq_iff_eq,beq_eq_false_iff_ne,ne_eq,iI]
 refine⟨⟨0,rfl,by omega,rfl⟩,?_⟩
 rintro⟨i⟩ ⟨n,rfl,hn,hw⟩
 simp only
 have hp:∀(a b c j:Int),sml2 a→sml2 b→sml2 c→sml2 (p3 a b c j):=fun a b c j ha hb hc=>by
  unfold p3;split
  ·exact ha
  ·split
   ·exact hb
   ·exact hc
 refine⟨fun hlt=>?_,fun hge=>?_⟩
 ·have g0:=get6 x0 y0 x1 y1 x2 y2 n (by omega) hlt
  have t1:=tm3 (n:=(n:Int)+1) (by omega)
  have t2:=tm3 (n:=(n:Int)+2) (by omega)
  have g1:=get6 x0 y0 x1 y1 x2 y2 _ t1.1 t1.2
  have g2:=get6 x0 y0 x1 y1 x2 y2 _ t2.1 t2.2
  have b1:=hp x0 x1 x2 n h1 h3 h5
  have b2:=hp y0 y1 y2 n h2 h4 h6
  unfold sml2 at b1 b2
  have d1:=td2 (p3 x0 x1 x2 n-1)
  have d2:=td2 (p3 y0 y1 y2 n-1)
  refine⟨by omega,hlt,g0.1,g0.2,by omega,by omega,by omega,g1.1,g1.2,by omega,by omega,by omega,g2.1,g2.2,fun he=>?_,fun he=>?_⟩
  ·have hev:evB (p3 x0 x1 x2 n) (p3 y0 y1 y2 n)=true:=by simp[evB,he]
   exact⟨by omega,⟨n+1,by omega,by omega,hw.trans (wth_even (by omega) hev)⟩,by omega⟩
  ·refine⟨fun hy0=>?_,fun hy0=>?_⟩
   ·have hev:evB (p3 x0 x1 x2 n) (p3 y0 y1 y2 n)=true:=by simp[evB,hy0]
    exact⟨by omega,⟨n+1,by omega,by omega,hw.trans (wth_even (by omega) hev)⟩,by omega⟩
   ·have hev:evB (p3 x0 x1 x2 n) (p3 y0 y1 y2 n)=false:=by simp[evB,he,hy0]
    refine⟨⟨0,rfl,by omega,rfl⟩,?_⟩
    rintro⟨q⟩ ⟨m,rfl,hm,hq⟩
    simp only
    have b1:=hp x0 x1 x2 n h1 h3 h5
    have hwq:∀q:Int,fndQ (wthM x0 y0 x1 y1 x2 y2 n) 4 0=q→q<4→(p3 x0 x1 x2 n-1).tdiv 2=wX x0 y0 x1 y1 x2 y2∧(p3 y0 y1 y2 n-1).tdiv 2=wY x0 y0 x1 y1 x2 y2∧q=wQ x0 y0 x1 y1 x2 y2:=by
     intro q e hlt4
     unfold wX wY wQ
     rw[hw,wth_hit (by omega) hev (by omega),e]
     exact⟨rfl,rfl,rfl⟩
    refine⟨fun hlt2=>?_,fun hge2=>?_⟩
    ·have hit:wthM x0 y0 x1 y1 x2 y2 n m=true→(p3 x0 x1 x2 n-1).tdiv 2=wX x0 y0 x1 y1 x2 y2∧(p3 y0 y1 y2 n-1).tdiv 2=wY x0 y0 x1 y1 x2 y2∧(m:Int)=wQ x0 y0 x1 y1 x2 y2:=fun h=>hwq m (hq.trans (fnd_on (by omega) h)) (by omega)
     have miss:wthM x0 y0 x1 y1 x2 y2 n m=false→(0≤(m:Int)+1∧(m:Int)+1≤255)∧(∃n_1:Nat,(m:Int)+1=n_1∧n_1≤4∧fndQ (wthM x0 y0 x1 y1 x2 y2 n) 4 0=fndQ (wthM x0 y0 x1 y1 x2 y2 n) (4-n_1) n_1)∧4-((m:Int)+1).toNat<4-((m:Int)).toNat:=
      fun h=>⟨by omega,⟨m+1,by omega,by omega,hq.trans (fnd_off (by omega) h)⟩,by omega⟩
     unfold sml2 at b1
     refine⟨by omega,by omega,by omega,by omega,by omega,fun a1=>⟨fun a2=>hit ?_,fun a2=>⟨fun a3=>⟨fun a4=>hit ?_,fun a4=>miss ?_⟩,fun a3=>miss ?_⟩⟩,fun a1=>⟨fun a3=>⟨fun a4=>hit ?_,fun a4=>miss ?_⟩,fun a3=>miss ?_⟩⟩<;>
      simp only[wthM,mtB,hf]<;>simp only[*,Bool.and_true,Bool.true_and,Bool.and_false,Bool.false_and,Bool.or_true,Bool.true_or,Bool.or_false,Bool.false_or]
    ·have hm4:m=4:=by omega
     subst hm4
     have hq':fndQ (wthM x0 y0 x1 y1 x2 y2 n) 4 0=4:=hq
     exact⟨by omega,⟨n+1,by omega,by omega,hw.trans (wth_miss (by omega) hev (by omega))⟩,by omega⟩
 ·have:n=3:=by omega
  subst this
  unfold wX wY wQ
  rw[hw]
  exact⟨rfl,rfl,rfl⟩
theorem ct89:CtOk Tryd.prog G 89 e89:=by
 intro args r h hp
 unfold e89 at h
 split at h<;>cases h
 obtain⟨h1,h2,h3,h4,h5,h6⟩:=hp
 exact(sp89 _ _ _ _ _ _ h1 h2 h3 h4 h5 h6).caps
theorem cCok:CtsOk Tryd.prog G cC':=⟨ct88,ct42,cBok⟩
theorem cDok:CtsOk Tryd.prog G cD':=⟨ct89,cCok⟩
theorem CDok:TabOk Tryd.prog G CD:=tabL_ok noCh_ok cDok
/-- The neighbour, by corners: by trying all. -/
def rflP (x y q e:Int):List Int:=
 let k:=liK x y q e;let c:=liC x y q e
 [rfX k c (2*x+1) (2*y+1),rfY k c (2*x+1) (2*y+1),rfX k c (2*x+hQ q) (2*y+hQ q),rfY k c (2*x+hQ q) (2*y+hQ q),rfX k c (2*x+gQ q) (2*y+(2-gQ q)),rfY k c (2*x+gQ q) (2*y+(2-gQ q))]
def smlB (x:Int):Bool:=decide (-900≤x)&&decide (x≤900)
def tryB (x y q e:Int):Bool:=smlB (liC x y q e)&&(match rflP x y q e with
 |[a,b,c,d,f,g]=>(smlB a&&smlB b&&smlB c&&smlB d&&smlB f&&smlB g)&&(decide (wth a b c d f g 3 0=(nbX x q e,nbY y q e,nbQ q e)))
 |_=>false)
theorem tryAll:((List.range 5).all fun x=>(List.range 5).all fun y=>(List.range 4).all fun q=>(List.range 3).all fun e=>tryB x y q e)=true:=by decide +kernel
theorem try_ok {x y q e:Int}(hx:0≤x∧x≤4)(hy:0≤y∧y≤4)(hq:0≤q∧q≤3)(he:0≤e∧e≤2):tryB x y q e=true:=by
 have h:=tryAll
 simp only[List.all_eq_true,List.mem_range]at h
 have:=h x.toNat (by omega) y.toNat (by omega) q.toNat (by omega) e.toNat (by omega)
 rwa [Int.toNat_of_nonneg hx.1,Int.toNat_of_nonneg hy.1,Int.toNat_of_nonneg hq.1,Int.toNat_of_nonneg he.1]at this
theorem smlB_ok {x:Int}(h:smlB x=true): -900≤x∧x≤900:=by simpa[smlB]using h
theorem sp55 (x y q e:Int)(hx:0≤x∧x≤4)(hy:0≤y∧y≤4)(hq:0≤q∧q≤3)(he:0≤e∧e≤2):SpecP Tryd.prog G 55 [.agg [.int .i64 x,.int .i64 y,.int .u8 q],.int .i64 e] (.agg [.int .i64 (nbX x q e),.int .i64 (nbY y q e),.int .u8 (nbQ q e)]) []:=by
 have ht:=try_ok hx hy hq he
 simp only[tryB,rflP,Bool.and_eq_true,decide_eq_true_eq]at ht
 obtain⟨t0,⟨⟨⟨⟨⟨t1,t2⟩,t3⟩,t4⟩,t5⟩,t6⟩,t7⟩:=ht
 replace t0:=smlB_ok t0
 replace t1:=smlB_ok t1
 replace t2:=smlB_ok t2
 replace t3:=smlB_ok t3
 replace t4:=smlB_ok t4
 replace t5:=smlB_ok t5
 replace t6:=smlB_ok t6
 have hg:=hg_ok q
 have w1:wX _ _ _ _ _ _=nbX x q e:=congrArg (·.1) t7
 have w2:wY _ _ _ _ _ _=nbY y q e:=congrArg (·.2.1) t7
 have w3:wQ _ _ _ _ _ _=nbQ q e:=congrArg (·.2.2) t7
 simp only[rfX,rfY]at t1 t2 t3 t4 t5 t6 w1 w2 w3
 clear t7
 rcases e3 he.1 he.2 with rfl|rfl|rfl
 ·refine fnP_spec hcm hmx CDok ok55 rfl (ob_o55a x y q) ?_
  simp only[iI,and_true]
  exact⟨by omega,by omega,by omega,by omega,by omega,by omega,w1,w2,w3⟩
 ·refine fnP_spec hcm hmx CDok ok55 rfl (ob_o55b x y q) ?_
  simp only[iI,and_true]
  exact⟨by omega,by omega,by omega,by omega,by omega,by omega,w1,w2,w3⟩
 ·refine fnP_spec hcm hmx CDok ok55 rfl (ob_o55c x y q) ?_
  simp only[iI,and_true]
  exact⟨by omega,by omega,by omega,by omega,by omega,by omega,w1,w2,w3⟩
theorem ct55:CtOk Tryd.prog G 55 e55:=by
 intro args r h hp
 unfold e55 at h
 split at h<;>cases h
 obtain⟨h1,h2,h3,h4,h5,h6,h7,h8⟩:=hp
 exact(sp55 _ _ _ _ ⟨h1,h2⟩ ⟨h3,h4⟩ ⟨h5,h6⟩ ⟨h7,h8⟩).caps
end Go.Proofs.YtfpcbimohikhmaaDoor.X
