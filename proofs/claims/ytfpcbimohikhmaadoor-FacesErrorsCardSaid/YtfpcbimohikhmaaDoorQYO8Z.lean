/-
 Lines, plainly: where the creases are lines each face is convex, no crease ends within one.
-/
import Derived.Test.YtfpcbimohikhmaaDoorQPJZ
import Derived.Test.YtfpcbimohikhmaaDoorQYC9Z
import Derived.Test.YtfpcbimohikhmaaDoorQD7Z
import Derived.Test.YtfpcbimohikhmaaDoorQPIZ
import Derived.KernelRfl

set_option maxRecDepth 1000000
set_option linter.unusedVariables false
set_option linter.unusedSimpArgs false
namespace Go.Proofs.YtfpcbimohikhmaaDoor.X
open Go Go.Ab

theorem q_of {w x y q:Int}(hw:1≤w∧w≤5)(hx:0≤x∧x<w)(hy:0≤y∧y≤4)(hq:0≤q∧q≤3):qX w (4*(y*w+x)+q)=x∧qY w (4*(y*w+x)+q)=y∧qQ (4*(y*w+x)+q)=q:=by
 have h0:0≤y*w:=Int.mul_nonneg hy.1 (by omega)
 have e1:(4*(y*w+x)+q).tdiv 4=y*w+x:=by
  rw[Int.tdiv_eq_ediv_of_nonneg (by omega)];omega
 unfold qX qY qQ
 rw[e1,Int.tmod_eq_emod_of_nonneg (by omega),Int.tdiv_eq_ediv_of_nonneg (by omega),Int.tmod_eq_emod_of_nonneg (by omega)]
 refine⟨?_,?_,by omega⟩
 ·rw[Int.add_comm,Int.add_mul_emod_self_right];exact Int.emod_eq_of_lt hx.1 hx.2
 ·rw[Int.add_comm,Int.add_mul_ediv_right _ _ (by omega),Int.ediv_eq_zero_of_lt hx.1 hx.2];omega
theorem cell5 {w h i:Int}(hs:s5 w h)(hb:hasB w h i=true):(0≤qX w i∧qX w i<w)∧(0≤qY w i∧qY w i<h)∧(0≤qQ i∧qQ i≤3)∧i=4*(qY w i*w+qX w i)+qQ i:=by
 obtain⟨a,b,c,d,_⟩:=cell_ok (okS_of hs) hb
 exact⟨a,b,c,d⟩
theorem nb_cell {w h i e:Int}(hs:s5 w h)(hb:hasB w h i=true)(he:0≤e∧e≤2)(hn:0≤nbI w h i e):qX w (nbI w h i e)=nbX (qX w i) (qQ i) e∧qY w (nbI w h i e)=nbY (qY w i) (qQ i) e∧qQ (nbI w h i e)=nbQ (qQ i) e:=by
 obtain⟨c1,c2,c3,c4⟩:=cell5 hs hb
 obtain⟨s1,s2,s3,s4⟩:=hs
 unfold nbI at hn ⊢
 cases hin:inB w h (nbX (qX w i) (qQ i) e) (nbY (qY w i) (qQ i) e)
 ·rw[hin,cond_false]at hn;omega
 ·rw[cond_true]
  have:=inB_iff.1 hin
  have hq:0≤nbQ (qQ i) e∧nbQ (qQ i) e≤3:=by
   generalize qQ i=q at*
   obtain rfl|rfl|rfl|rfl:q=0∨q=1∨q=2∨q=3:=by omega
   all_goals obtain rfl|rfl|rfl:e=0∨e=1∨e=2:=by omega
   all_goals decide
  exact q_of ⟨s1,s2⟩ ⟨this.1,this.2.1⟩ ⟨by omega,by omega⟩ hq
/-- The line of an edge of a cell. -/
def leK (w i e:Int):Int:=liK (qX w i) (qY w i) (qQ i) e
def leC (w i e:Int):Int:=liC (qX w i) (qY w i) (qQ i) e
def sdI (k c w i:Int):Bool:=sdB k c (qX w i) (qY w i) (qQ i)
theorem le_ok {w h i e:Int}(hs:s5 w h)(hb:hasB w h i=true)(he:0≤e∧e≤2):okLn (leK w i e) (leC w i e)∧(0≤nbI w h i e→leK w (nbI w h i e) e=leK w i e∧leC w (nbI w h i e) e=leC w i e):=by
 obtain⟨c1,c2,c3,c4⟩:=cell5 hs hb
 have hs':=hs
 obtain⟨s1,s2,s3,s4⟩:=hs'
 obtain⟨r1,r2,r3,r4⟩:=ckR_ok (x:=qX w i) (y:=qY w i) (q:=qQ i) (e:=e) ⟨by omega,by omega⟩ ⟨by omega,by omega⟩ c3 he
 refine⟨⟨r1,r2⟩,fun hn=>?_⟩
 obtain⟨n1,n2,n3⟩:=nb_cell hs hb he hn
 unfold leK leC
 rw[n1,n2,n3]
 exact⟨r3,r4⟩
theorem side_nb {w h i e k c:Int}(hs:s5 w h)(hb:hasB w h i=true)(he:0≤e∧e≤2)(hn:0≤nbI w h i e)(hl:okLn k c):sdI k c w i=sdI k c w (nbI w h i e)↔¬ (leK w i e=k∧leC w i e=c):=by
 obtain⟨c1,c2,c3,c4⟩:=cell5 hs hb
 obtain⟨n1,n2,n3⟩:=nb_cell hs hb he hn
 obtain⟨s1,s2,s3,s4⟩:=hs
 unfold sdI leK leC
 rw[n1,n2,n3]
 exact ckS_ok ⟨by omega,by omega⟩ ⟨by omega,by omega⟩ c3 he hl
/-- The creases are the units of some lines. -/
def OnL (w h:Int)(l:List Cr)(S:Int→Int→Bool):Prop:=∀c∈units w h,crB l c=S (leK w (c/3) (c%3)) (leC w (c/3) (c%3))
theorem OnL.cr {w h:Int}{l:List Cr}{S:Int→Int→Bool}(hO:OnL w h l S)(hs:s5 w h){i e:Int}(hb:hasB w h i=true)(he:0≤e∧e≤2)(hn:0≤nbI w h i e):crB l (cod w h i e)=S (leK w i e) (leC w i e):=by
 rw[hO _ (cod_mem hs hb he hn)]
 obtain⟨d1,d2⟩:=cod_div (w:=w) (h:=h) (i:=i) he
 rw[d1,d2]
 rcases Int.le_total i (nbI w h i e)with q|q
 ·rw[show min i (nbI w h i e)=i by omega]
 ·obtain⟨e1,e2⟩:=(le_ok hs hb he).2 hn
  rw[show min i (nbI w h i e)=nbI w h i e by omega,e1,e2]
theorem rP_of {w h:Int}{l:List Cr}(hs:s5 w h){i j:Nat}(hi:i<nC w h)(hj:j<nC w h)(he:gI (facL w h l) i=gI (facL w h l) j):rP w h l i=rP w h l j:=by
 rw[gI_facL hs hi,gI_facL hs hj]at he
 have hR:=rep_P hs l
 have r1:=(kP_at (l:=l) hs hi).2
 have r2:=(kP_at (l:=l) hs hj).2
 unfold kP at he
 have he:rk (repP w h l) (rP w h l i)=rk (repP w h l) (rP w h l j):=by omega
 rcases Nat.lt_trichotomy (rP w h l i) (rP w h l j)with q|q|q
 ·have:=rk_lt (l:=repP w h l) r1 q;omega
 ·exact q
 ·have:=rk_lt (l:=repP w h l) r2 q;omega
theorem OnL.same {w h:Int}{l:List Cr}{S:Int→Int→Bool}(hO:OnL w h l S)(hs:s5 w h){i j:Nat}(hi:i<nC w h)(hj:j<nC w h)(he:gI (facL w h l) i=gI (facL w h l) j){k c:Int}(hl:okLn k c)(hS:S k c=true):sdI k c w i=sdI k c w j:=by
 have hR:=rep_P hs l
 have hr:=rP_of hs hi hj he
 have hc:clo (prs w h l) (fun n=>sdI k c w n=sdI k c w i):=clo_of hs fun a e hb he hn hcr hd=>by
  obtain⟨b1,b2⟩:=has_nC hb
  obtain⟨_,_,i3⟩:=inv_ok hs hb he hn
  obtain⟨b3,b4⟩:=has_nC i3
  rw[hO.cr hs hb he hn]at hcr
  rw[b2]at hd
  show sdI k c w ((nbI w h a e).toNat:Nat)=_
  rw[b4,← (side_nb hs hb he hn hl).2 (fun q=>by rw[q.1,q.2,hS]at hcr;cases hcr)]
  exact hd
 exact(hR.all hc hi hj hr rfl).symm
theorem OnL.apart {w h:Int}{l:List Cr}{S:Int→Int→Bool}(hO:OnL w h l S)(hs:s5 w h){i e:Int}(hb:hasB w h i=true)(he:0≤e∧e≤2)(hn:0≤nbI w h i e)(hS:S (leK w i e) (leC w i e)=true):gI (facL w h l) i.toNat≠gI (facL w h l) (nbI w h i e).toNat:=by
 intro heq
 obtain⟨_,_,i3⟩:=inv_ok hs hb he hn
 obtain⟨b1,b2⟩:=has_nC hb
 obtain⟨b3,b4⟩:=has_nC i3
 have h1:=hO.same hs b1 b3 heq (le_ok hs hb he).1 hS
 rw[b2,b4]at h1
 exact(side_nb hs hb he hn (le_ok hs hb he).1).1 h1 ⟨rfl,rfl⟩
/-! ### What the map holds -/
theorem b8_u8I (v:List Bool){j:Nat}(h:j<8):b8 (u8I v) j=v.getD j false:=by
 obtain rfl|rfl|rfl|rfl|rfl|rfl|rfl|rfl:j=0∨j=1∨j=2∨j=3∨j=4∨j=5∨j=6∨j=7:=by omega
 all_goals (unfold b8 u8I;simp only[List.getD_cons_zero,List.getD_cons_succ])
 all_goals (generalize List.getD v _ false=b;cases b<;>rfl)
theorem getD_set_b {v:List Bool}{m j:Nat}(hm:m<v.length):(v.set m true).getD j false=(v.getD j false||m==j):=by
 rw[List.getD_eq_getElem?_getD,List.getD_eq_getElem?_getD,List.getElem?_set]
 by_cases h:m=j
 ·subst h;simp[hm]
 ·simp[h]
theorem fulK_get {q i:Int}(hq:0≤q∧q≤3)(hi:0≤i∧i≤2){v:List Bool}(hv:v.length=8)(j:Nat):∀n:Nat,(fulK q i n v).getD j false=(v.getD j false||(List.range n).any fun(k:Nat)=>((secI q i+k).tmod 8).toNat==j)
 |0=>by simp[fulK]
 |n+1=>by
  have ih:=fulK_get hq hi hv j n
  obtain⟨s1,s2⟩:=sec_ok hq hi
  have:((secI q i+n).tmod 8).toNat<(fulK q i n v).length:=by
   rw[fulK_len,hv,Int.tmod_eq_emod_of_nonneg (by omega)];omega
  rw[fulK_step,getD_set_b this,ih,List.range_succ,List.any_append,Bool.or_assoc];simp
theorem v8_b (v:List Int){j:Nat}(h:j<8):(v8 v).getD j false=b8 v j:=by
 rw[List.getD_eq_getElem?_getD,v8_get v h];rfl
def CovOk (s:List Ent3×Nat)(c:List Int→Nat→Bool):Prop:=∀K j,j<8→b8 ((mget s.1 K).getD []) j=c K j
theorem CovOk.st {w id:Int}{s:List Ent3×Nat}{c:List Int→Nat→Bool}(h:CovOk s c){n:Nat}(hn:n<3)(hq:0≤qQ id∧qQ id≤3):CovOk (st1 w id s n) (fun K j=>c K j||(decide (K=keyP w id n)&&inSec (qQ id) n j)):=by
 intro K j hj
 unfold st1
 simp only
 rw[mget_put]
 by_cases hK:K=keyP w id n
 ·rw[if_pos hK,Option.getD_some,b8_u8I _ hj]
  unfold vsP
  rw[v8o_eq,fulK_get hq (by omega) (by rfl) j,v8_b _ hj,hK,h _ j hj]
  simp[inSec]
 ·rw[if_neg hK,h K j hj]
  simp[hK]
theorem CovOk.cell {w id:Int}{s:List Ent3×Nat}{c:List Int→Nat→Bool}(h:CovOk s c)(hq:0≤qQ id∧qQ id≤3):∀n,n≤3→CovOk (cvI w id s n) (fun K j=>c K j||(List.range n).any fun(i:Nat)=>decide (K=keyP w id i)&&inSec (qQ id) i j)
 |0,_=>by simpa[cvI]using h
 |n+1,hn=>by
  have ih:=(CovOk.cell (w:=w) h hq n (by omega)).st (w:=w) (id:=id) (n:=n) (by omega) hq
  rw[cvI_step]
  intro K j hj
  rw[ih K j hj,List.range_succ]
  simp only[List.any_append,List.any_cons,List.any_nil,Bool.or_false,Bool.or_assoc]
/-! ### Convex -/
/-! ### A sheet without creases -/
def hop (w h i:Int):Bool:=[0,1,2].any fun e=>decide (0≤nbI w h i e)&&(decide (nbI w h i e<i)||[0,1,2].any fun e'=>decide (0≤nbI w h (nbI w h i e) e')&&decide (nbI w h (nbI w h i e) e'<i))
theorem hop_all:((List.range 5).all fun w=>(List.range 5).all fun h=>(List.range (4*(w+1)*(h+1))).all fun i=>i==0||hop ((w:Int)+1) ((h:Int)+1) i)=true:=by decide +kernel
theorem rP_none {w h:Int}(hs:s5 w h):∀i:Nat,i<nC w h→rP w h [] i=0:=by
 have hs':=hs
 obtain⟨s1,s2,s3,s4⟩:=hs'
 have hc0:∀c,crB [] c=false:=fun c=>rfl
 intro i
 induction i using Nat.strongRecOn with
 |_ i ih=>
  intro hi
  by_cases h0:i=0
  ·subst h0
   have:=(rep_P hs []).inv.le 0 hi
   unfold rP repP at*
   omega
  ·have hA:=hop_all
   simp only[List.all_eq_true,List.mem_range]at hA
   have hn:4*((w-1).toNat+1)*((h-1).toNat+1)=nC w h:=by
    unfold nC
    have e1:((w-1).toNat:Int)=w-1:=by omega
    have e2:((h-1).toNat:Int)=h-1:=by omega
    have:((4*((w-1).toNat+1)*((h-1).toNat+1):Nat):Int)=4*w*h:=by
     simp only[Int.natCast_mul,Int.natCast_add,e1,e2]
     rw[show((1:Nat):Int)=1 from rfl,show w-1+1=w by omega,show h-1+1=h by omega];rfl
    omega
   have h1:=hA (w-1).toNat (by omega) (h-1).toNat (by omega) i (by rw[hn];exact hi)
   rw[beq_eq_false_iff_ne.2 h0,Bool.false_or,show(((w-1).toNat:Nat):Int)+1=w by omega,show(((h-1).toNat:Nat):Int)+1=h by omega]at h1
   unfold hop at h1
   simp only[List.any_cons,List.any_nil,Bool.or_false,Bool.or_eq_true,Bool.and_eq_true,decide_eq_true_eq]at h1
   have hb:=nC_has hs hi
   have step:∀(a:Int) (e:Int),hasB w h a=true→0≤e∧e≤2→0≤nbI w h a e→rP w h [] a.toNat=rP w h [] (nbI w h a e).toNat∧hasB w h (nbI w h a e)=true:=fun a e ha he hn=>⟨adj_rep hs ha he hn (hc0 _),(inv_ok hs ha he hn).2.2⟩
   have fin:∀a:Int,hasB w h a=true→a<i→rP w h [] a.toNat=0:=fun a ha hlt=>ih a.toNat (by have:=(hasB_iff.1 ha).1;omega) (has_nC ha).1
   have one:∀e:Int,0≤e∧e≤2→(0≤nbI w h i e∧(nbI w h i e<i∨∃e':Int,(0≤e'∧e'≤2)∧0≤nbI w h (nbI w h i e) e'∧nbI w h (nbI w h i e) e'<i))→rP w h [] i=0:=by
    rintro e he ⟨h2,h3⟩
    obtain⟨p1,p2⟩:=step i e hb he h2
    rw[Int.toNat_natCast]at p1
    rcases h3 with h3|⟨e',he',h3,h4⟩
    ·rw[p1];exact fin _ p2 h3
    ·obtain⟨p3,p4⟩:=step _ e' p2 he' h3
     rw[p1,p3];exact fin _ p4 h4
   rcases h1 with⟨h2,h3|⟨h3,h4⟩|⟨h3,h4⟩|⟨h3,h4⟩⟩|⟨h2,h3|⟨h3,h4⟩|⟨h3,h4⟩|⟨h3,h4⟩⟩|⟨h2,h3|⟨h3,h4⟩|⟨h3,h4⟩|⟨h3,h4⟩⟩
   ·exact one 0 (by omega) ⟨h2,.inl h3⟩
   ·exact one 0 (by omega) ⟨h2,.inr ⟨0,by omega,h3,h4⟩⟩
   ·exact one 0 (by omega) ⟨h2,.inr ⟨1,by omega,h3,h4⟩⟩
   ·exact one 0 (by omega) ⟨h2,.inr ⟨2,by omega,h3,h4⟩⟩
   ·exact one 1 (by omega) ⟨h2,.inl h3⟩
   ·exact one 1 (by omega) ⟨h2,.inr ⟨0,by omega,h3,h4⟩⟩
   ·exact one 1 (by omega) ⟨h2,.inr ⟨1,by omega,h3,h4⟩⟩
   ·exact one 1 (by omega) ⟨h2,.inr ⟨2,by omega,h3,h4⟩⟩
   ·exact one 2 (by omega) ⟨h2,.inl h3⟩
   ·exact one 2 (by omega) ⟨h2,.inr ⟨0,by omega,h3,h4⟩⟩
   ·exact one 2 (by omega) ⟨h2,.inr ⟨1,by omega,h3,h4⟩⟩
   ·exact one 2 (by omega) ⟨h2,.inr ⟨2,by omega,h3,h4⟩⟩
theorem fac_none {w h:Int}(hs:s5 w h):maxL (facL w h [])+1=1:=by
 obtain⟨m0,m1,_⟩:=fac_max [] hs
 have hl:=facL_len hs []
 obtain⟨n100,n4⟩:=nC_le hs
 have hm:=maxL_mem (l:=facL w h []) (fun e=>by rw[e]at hl;simp at hl;omega)
 obtain⟨i,hi,he⟩:=List.getElem_of_mem hm
 have hi':i<nC w h:=by omega
 have:maxL (facL w h [])=kP w h [] (rP w h [] i):=by rw[← gI_facL hs hi',gI_at hi,he]
 rw[rP_none hs i hi']at this
 have:kP w h [] 0=0:=rfl
 omega
end Go.Proofs.YtfpcbimohikhmaaDoor.X

/-
 The law on the back side: contracts of valid patterns, the loop.
-/
set_option maxRecDepth 1000000
set_option linter.unusedVariables false
set_option linter.unusedSimpArgs false
namespace Go.Proofs.YtfpcbimohikhmaaDoor.X
open Go Go.Ab
end Go.Proofs.YtfpcbimohikhmaaDoor.X
/-
 The laws on faces: contracts, loops.
-/
set_option maxRecDepth 1000000
set_option linter.unusedVariables false
namespace Go.Proofs.YtfpcbimohikhmaaDoor.X
open Go Go.Ab

def e40:CtE
 |[]=>some ⟨.bool true,[],none⟩
 |_=>none
/-! ### Sizes -/
/-! ### Graph -/
structure L9 where (i s:Int)(b:Bool)
end Go.Proofs.YtfpcbimohikhmaaDoor.X
/-
 The law on lines: all cells, kinds by lines.
-/
set_option maxRecDepth 1000000
set_option linter.unusedVariables false
namespace Go.Proofs.YtfpcbimohikhmaaDoor.X
open Go Go.Ab

/-! ### All cells -/
/-! ### Kinds by lines -/
def rowK (l:List Int)(n:Nat):HO:=.blk ⟨.ints .u8 l,1,n,some n,some false,true,false⟩
end Go.Proofs.YtfpcbimohikhmaaDoor.X
/-
 What is to be shown of the functions (made by a program).
-/
set_option maxRecDepth 1000000
set_option linter.unusedVariables false
namespace Go.Proofs.YtfpcbimohikhmaaDoor.X
open Go Go.Ab

end Go.Proofs.YtfpcbimohikhmaaDoor.X
