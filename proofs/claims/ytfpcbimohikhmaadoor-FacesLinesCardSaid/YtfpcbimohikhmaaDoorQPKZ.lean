/-
 Lines, plainly: where the creases are lines each face is convex, no crease ends within one.
-/
import Derived.Test.YtfpcbimohikhmaaDoorQPJZ
import Derived.Test.YtfpcbimohikhmaaDoorQYC9Z
set_option maxRecDepth 1000000
set_option linter.unusedVariables false
set_option linter.unusedSimpArgs false
namespace Go.Proofs.YtfpcbimohikhmaaDoor.X
open Go Go.Ab

theorem q_of {w x y q:Int}(hw:1≤w∧w≤5)(hx:0≤x∧x<w)(hy:0≤y∧y≤4)(hq:0≤q∧q≤3):qX w (4*(y*w+x)+q)=x∧qY w (4*(y*w+x)+q)=y∧qQ (4*(y*w+x)+q)=q:=by
 have h0:0≤y*w:=Int.mul_nonneg hy.1 (by omega)
 have e1:(4*(y*w+x)+q).tdiv 4=y*w+x:=by
  rw[Int.tdiv_eq_ediv_of_nonneg (by omega)];omega
 unfold qX qY qQ
 rw[e1,Int.tmod_eq_emod_of_nonneg (by omega),Int.tdiv_eq_ediv_of_nonneg (by omega),Int.tmod_eq_emod_of_nonneg (by omega)]
 refine⟨?_,?_,by omega⟩
 ·rw[Int.add_comm,Int.add_mul_emod_self_right];exact Int.emod_eq_of_lt hx.1 hx.2
 ·rw[Int.add_comm,Int.add_mul_ediv_right _ _ (by omega),Int.ediv_eq_zero_of_lt hx.1 hx.2];omega
theorem cell5 {w h i:Int}(hs:s5 w h)(hb:hasB w h i=true):(0≤qX w i∧qX w i<w)∧(0≤qY w i∧qY w i<h)∧(0≤qQ i∧qQ i≤3)∧i=4*(qY w i*w+qX w i)+qQ i:=by
 obtain⟨a,b,c,d,_⟩:=cell_ok (okS_of hs) hb
 exact⟨a,b,c,d⟩
theorem nb_cell {w h i e:Int}(hs:s5 w h)(hb:hasB w h i=true)(he:0≤e∧e≤2)(hn:0≤nbI w h i e):qX w (nbI w h i e)=nbX (qX w i) (qQ i) e∧qY w (nbI w h i e)=nbY (qY w i) (qQ i) e∧qQ (nbI w h i e)=nbQ (qQ i) e:=by
 obtain⟨c1,c2,c3,c4⟩:=cell5 hs hb
 obtain⟨s1,s2,s3,s4⟩:=hs
 unfold nbI at hn ⊢
 cases hin:inB w h (nbX (qX w i) (qQ i) e) (nbY (qY w i) (qQ i) e)
 ·rw[hin,cond_false]at hn;omega
 ·rw[cond_true]
  have:=inB_iff.1 hin
  have hq:0≤nbQ (qQ i) e∧nbQ (qQ i) e≤3:=by
   generalize qQ i=q at*
   obtain rfl|rfl|rfl|rfl:q=0∨q=1∨q=2∨q=3:=by omega
   all_goals obtain rfl|rfl|rfl:e=0∨e=1∨e=2:=by omega
   all_goals decide
  exact q_of ⟨s1,s2⟩ ⟨this.1,this.2.1⟩ ⟨by omega,by omega⟩ hq
/-- The line of an edge of a cell. -/
def leK (w i e:Int):Int:=liK (qX w i) (qY w i) (qQ i) e
def leC (w i e:Int):Int:=liC (qX w i) (qY w i) (qQ i) e
def sdI (k c w i:Int):Bool:=sdB k c (qX w i) (qY w i) (qQ i)
theorem le_ok {w h i e:Int}(hs:s5 w h)(hb:hasB w h i=true)(he:0≤e∧e≤2):okLn (leK w i e) (leC w i e)∧(0≤nbI w h i e→leK w (nbI w h i e) e=leK w i e∧leC w (nbI w h i e) e=leC w i e):=by
 obtain⟨c1,c2,c3,c4⟩:=cell5 hs hb
 have hs':=hs
 obtain⟨s1,s2,s3,s4⟩:=hs'
 obtain⟨r1,r2,r3,r4⟩:=ckR_ok (x:=qX w i) (y:=qY w i) (q:=qQ i) (e:=e) ⟨by omega,by omega⟩ ⟨by omega,by omega⟩ c3 he
 refine⟨⟨r1,r2⟩,fun hn=>?_⟩
 obtain⟨n1,n2,n3⟩:=nb_cell hs hb he hn
 unfold leK leC
 rw[n1,n2,n3]
 exact⟨r3,r4⟩
theorem side_nb {w h i e k c:Int}(hs:s5 w h)(hb:hasB w h i=true)(he:0≤e∧e≤2)(hn:0≤nbI w h i e)(hl:okLn k c):sdI k c w i=sdI k c w (nbI w h i e)↔¬ (leK w i e=k∧leC w i e=c):=by
 obtain⟨c1,c2,c3,c4⟩:=cell5 hs hb
 obtain⟨n1,n2,n3⟩:=nb_cell hs hb he hn
 obtain⟨s1,s2,s3,s4⟩:=hs
 unfold sdI leK leC
 rw[n1,n2,n3]
 exact ckS_ok ⟨by omega,by omega⟩ ⟨by omega,by omega⟩ c3 he hl
/-- The creases are the units of some lines. -/
def OnL (w h:Int)(l:List Cr)(S:Int→Int→Bool):Prop:=∀c∈units w h,crB l c=S (leK w (c/3) (c%3)) (leC w (c/3) (c%3))
theorem OnL.cr {w h:Int}{l:List Cr}{S:Int→Int→Bool}(hO:OnL w h l S)(hs:s5 w h){i e:Int}(hb:hasB w h i=true)(he:0≤e∧e≤2)(hn:0≤nbI w h i e):crB l (cod w h i e)=S (leK w i e) (leC w i e):=by
 rw[hO _ (cod_mem hs hb he hn)]
 obtain⟨d1,d2⟩:=cod_div (w:=w) (h:=h) (i:=i) he
 rw[d1,d2]
 rcases Int.le_total i (nbI w h i e)with q|q
 ·rw[show min i (nbI w h i e)=i by omega]
 ·obtain⟨e1,e2⟩:=(le_ok hs hb he).2 hn
  rw[show min i (nbI w h i e)=nbI w h i e by omega,e1,e2]
theorem rP_of {w h:Int}{l:List Cr}(hs:s5 w h){i j:Nat}(hi:i<nC w h)(hj:j<nC w h)(he:gI (facL w h l) i=gI (facL w h l) j):rP w h l i=rP w h l j:=by
 rw[gI_facL hs hi,gI_facL hs hj]at he
 have hR:=rep_P hs l
 have r1:=(kP_at (l:=l) hs hi).2
 have r2:=(kP_at (l:=l) hs hj).2
 unfold kP at he
 have he:rk (repP w h l) (rP w h l i)=rk (repP w h l) (rP w h l j):=by omega
 rcases Nat.lt_trichotomy (rP w h l i) (rP w h l j)with q|q|q
 ·have:=rk_lt (l:=repP w h l) r1 q;omega
 ·exact q
 ·have:=rk_lt (l:=repP w h l) r2 q;omega
theorem OnL.same {w h:Int}{l:List Cr}{S:Int→Int→Bool}(hO:OnL w h l S)(hs:s5 w h){i j:Nat}(hi:i<nC w h)(hj:j<nC w h)(he:gI (facL w h l) i=gI (facL w h l) j){k c:Int}(hl:okLn k c)(hS:S k c=true):sdI k c w i=sdI k c w j:=by
 have hR:=rep_P hs l
 have hr:=rP_of hs hi hj he
 have hc:clo (prs w h l) (fun n=>sdI k c w n=sdI k c w i):=clo_of hs fun a e hb he hn hcr hd=>by
  obtain⟨b1,b2⟩:=has_nC hb
  obtain⟨_,_,i3⟩:=inv_ok hs hb he hn
  obtain⟨b3,b4⟩:=has_nC i3
  rw[hO.cr hs hb he hn]at hcr
  rw[b2]at hd
  show sdI k c w ((nbI w h a e).toNat:Nat)=_
  rw[b4,← (side_nb hs hb he hn hl).2 (fun q=>by rw[q.1,q.2,hS]at hcr;cases hcr)]
  exact hd
 exact(hR.all hc hi hj hr rfl).symm
theorem OnL.opn {w h:Int}{l:List Cr}{S:Int→Int→Bool}(hO:OnL w h l S)(hs:s5 w h){i e:Int}(hb:hasB w h i=true)(he:0≤e∧e≤2)(hn:0≤nbI w h i e)(hS:S (leK w i e) (leC w i e)=false):gI (facL w h l) i.toNat=gI (facL w h l) (nbI w h i e).toNat:=by
 obtain⟨_,_,i3⟩:=inv_ok hs hb he hn
 rw[gI_facL hs (has_nC hb).1,gI_facL hs (has_nC i3).1,adj_rep hs hb he hn (by rw[hO.cr hs hb he hn];exact hS)]
theorem OnL.apart {w h:Int}{l:List Cr}{S:Int→Int→Bool}(hO:OnL w h l S)(hs:s5 w h){i e:Int}(hb:hasB w h i=true)(he:0≤e∧e≤2)(hn:0≤nbI w h i e)(hS:S (leK w i e) (leC w i e)=true):gI (facL w h l) i.toNat≠gI (facL w h l) (nbI w h i e).toNat:=by
 intro heq
 obtain⟨_,_,i3⟩:=inv_ok hs hb he hn
 obtain⟨b1,b2⟩:=has_nC hb
 obtain⟨b3,b4⟩:=has_nC i3
 have h1:=hO.same hs b1 b3 heq (le_ok hs hb he).1 hS
 rw[b2,b4]at h1
 exact(side_nb hs hb he hn (le_ok hs hb he).1).1 h1 ⟨rfl,rfl⟩
/-! ### What the map holds -/
def covB (w:Int)(C:List Int)(K:List Int)(j:Nat):Bool:=C.any fun id=>(List.range 3).any fun(i:Nat)=>decide (K=keyP w id i)&&inSec (qQ id) i j
theorem b8_u8I (v:List Bool){j:Nat}(h:j<8):b8 (u8I v) j=v.getD j false:=by
 obtain rfl|rfl|rfl|rfl|rfl|rfl|rfl|rfl:j=0∨j=1∨j=2∨j=3∨j=4∨j=5∨j=6∨j=7:=by omega
 all_goals (unfold b8 u8I;simp only[List.getD_cons_zero,List.getD_cons_succ])
 all_goals (generalize List.getD v _ false=b;cases b<;>rfl)
theorem getD_set_b {v:List Bool}{m j:Nat}(hm:m<v.length):(v.set m true).getD j false=(v.getD j false||m==j):=by
 rw[List.getD_eq_getElem?_getD,List.getD_eq_getElem?_getD,List.getElem?_set]
 by_cases h:m=j
 ·subst h;simp[hm]
 ·simp[h]
theorem fulK_get {q i:Int}(hq:0≤q∧q≤3)(hi:0≤i∧i≤2){v:List Bool}(hv:v.length=8)(j:Nat):∀n:Nat,(fulK q i n v).getD j false=(v.getD j false||(List.range n).any fun(k:Nat)=>((secI q i+k).tmod 8).toNat==j)
 |0=>by simp[fulK]
 |n+1=>by
  have ih:=fulK_get hq hi hv j n
  obtain⟨s1,s2⟩:=sec_ok hq hi
  have:((secI q i+n).tmod 8).toNat<(fulK q i n v).length:=by
   rw[fulK_len,hv,Int.tmod_eq_emod_of_nonneg (by omega)];omega
  rw[fulK_step,getD_set_b this,ih,List.range_succ,List.any_append,Bool.or_assoc];simp
theorem v8_b (v:List Int){j:Nat}(h:j<8):(v8 v).getD j false=b8 v j:=by
 rw[List.getD_eq_getElem?_getD,v8_get v h];rfl
def CovOk (s:List Ent3×Nat)(c:List Int→Nat→Bool):Prop:=∀K j,j<8→b8 ((mget s.1 K).getD []) j=c K j
theorem CovOk.st {w id:Int}{s:List Ent3×Nat}{c:List Int→Nat→Bool}(h:CovOk s c){n:Nat}(hn:n<3)(hq:0≤qQ id∧qQ id≤3):CovOk (st1 w id s n) (fun K j=>c K j||(decide (K=keyP w id n)&&inSec (qQ id) n j)):=by
 intro K j hj
 unfold st1
 simp only
 rw[mget_put]
 by_cases hK:K=keyP w id n
 ·rw[if_pos hK,Option.getD_some,b8_u8I _ hj]
  unfold vsP
  rw[v8o_eq,fulK_get hq (by omega) (by rfl) j,v8_b _ hj,hK,h _ j hj]
  simp[inSec]
 ·rw[if_neg hK,h K j hj]
  simp[hK]
theorem CovOk.cell {w id:Int}{s:List Ent3×Nat}{c:List Int→Nat→Bool}(h:CovOk s c)(hq:0≤qQ id∧qQ id≤3):∀n,n≤3→CovOk (cvI w id s n) (fun K j=>c K j||(List.range n).any fun(i:Nat)=>decide (K=keyP w id i)&&inSec (qQ id) i j)
 |0,_=>by simpa[cvI]using h
 |n+1,hn=>by
  have ih:=(CovOk.cell (w:=w) h hq n (by omega)).st (w:=w) (id:=id) (n:=n) (by omega) hq
  rw[cvI_step]
  intro K j hj
  rw[ih K j hj,List.range_succ]
  simp only[List.any_append,List.any_cons,List.any_nil,Bool.or_false,Bool.or_assoc]
theorem cvF_cov {w:Int}{C:List Int}(hC:∀id∈C,0≤qQ id∧qQ id≤3):CovOk (cvF w C) (covB w C):=by
 refine snoc_ind (P:=fun C=>(∀id∈C,0≤qQ id∧qQ id≤3)→CovOk (cvF w C) (covB w C)) (fun _ K j hj=>rfl) (fun C c ih hC=>?_) C hC
 rw[cvF_snoc]
 have h1:=(ih fun id hid=>hC id (by simp[hid])).cell (w:=w) (id:=c) (hC c (by simp)) 3 (by omega)
 intro K j hj
 rw[h1 K j hj]
 unfold covB
 rw[List.any_append];simp
theorem cvF_key {w:Int}{C:List Int}:∀e∈(cvF w C).1,∃id∈C,∃i:Nat,i<3∧e.1=keyP w id i:=by
 refine snoc_ind (P:=fun C=>∀e∈(cvF w C).1,∃id∈C,∃i:Nat,i<3∧e.1=keyP w id i) (fun e he=>by simp[cvF]at he) (fun C c ih e he=>?_) C
 rw[cvF_snoc]at he
 have:∀n,n≤3→∀e∈(cvI w c (cvF w C) n).1,∃id∈C++[c],∃i:Nat,i<3∧e.1=keyP w id i:=by
  intro n
  induction n with
  |zero=>intro _ e he;obtain⟨id,h1,h2⟩:=ih e he;exact⟨id,by simp[h1],h2⟩
  |succ n ihn=>
   intro hn e he
   rw[cvI_step]at he
   rcases put_key he with h1|⟨e0,h1,h2⟩
   ·exact⟨c,by simp,n,by omega,h1⟩
   ·obtain⟨id,h3,i,h4,h5⟩:=ihn (by omega) e0 h1
    exact⟨id,h3,i,h4,h2▸h5⟩
 exact this 3 (by omega) e he
/-! ### Convex -/
theorem corner_oct {x y q:Int}{i:Nat}(hx:0≤x∧x≤4)(hy:0≤y∧y≤4)(hq:0≤q∧q≤3)(hi:i<3):(crX x q i%2=crY y q i%2∧(0≤crX x q i∧crX x q i≤10)∧0≤crY y q i∧crY y q i≤10)∧∀j,inSec q i j=true→j<8∧ocX (crX x q i) j=x∧ocY (crY y q i) j=y∧ocQ (crX x q i) j=q:=by
 have h:=ckF_all
 simp only[List.all_eq_true,List.mem_range]at h
 have hk:=h x.toNat (by omega) y.toNat (by omega) q.toNat (by omega) i hi
 have g:∀k:Nat,(k:Int)<wdI i→ckF x.toNat y.toNat q.toNat i k=true:=fun k hk2=>hk k (by have:=wd_ok (i:Int);omega)
 have e:∀k:Nat,(k:Int)<wdI i→_:=fun k hk2=>by
  have h1:=g k hk2
  unfold ckF at h1
  rw[decide_eq_true hk2,Bool.not_true,Bool.false_or]at h1
  rw[Int.toNat_of_nonneg hx.1,Int.toNat_of_nonneg hy.1,Int.toNat_of_nonneg hq.1]at h1
  simp only[Bool.and_eq_true,beq_iff_eq,decide_eq_true_eq]at h1
  exact h1
 have w0:=wd_ok (i:Int)
 have h0:=e 0 (by omega)
 refine⟨⟨h0.2.2.1,h0.2.2.2.1,h0.2.2.2.2⟩,fun j hj=>?_⟩
 unfold inSec at hj
 rw[List.any_eq_true]at hj
 obtain⟨k,k1,k2⟩:=hj
 have k2:((secI q i+k).tmod 8).toNat=j:=by simpa using k2
 have hk:=e k (by have:=List.mem_range.1 k1;omega)
 rw[k2]at hk
 exact⟨hk.1,hk.2.1.1.1,hk.2.1.1.2,hk.2.1.2⟩
theorem oct_corner {px py:Int}{j:Nat}(hx:0≤px∧px≤10)(hy:0≤py∧py≤10)(hp:px%2=py%2)(hj:j<8):(0≤ocQ px j∧ocQ px j≤3)∧∃i:Nat,i<3∧crX (ocX px j) (ocQ px j) i=px∧crY (ocY py j) (ocQ px j) i=py∧inSec (ocQ px j) i j=true:=by
 have h:=ckB_all
 simp only[List.all_eq_true,List.mem_range]at h
 have h1:=h px.toNat (by omega) py.toNat (by omega) j hj
 unfold ckB at h1
 rw[Int.toNat_of_nonneg hx.1,Int.toNat_of_nonneg hy.1]at h1
 rw[hp,beq_self_eq_true,Bool.not_true,Bool.false_or]at h1
 simp only[Bool.and_eq_true,decide_eq_true_eq,List.any_eq_true,List.mem_range,beq_iff_eq]at h1
 obtain⟨q1,q2,i,i1,i2,i3,i4⟩:=h1
 exact⟨⟨q1,q2⟩,i,i1,i2,i3,i4⟩
theorem oct_next {px py:Int}{j:Nat}(hx:0≤px∧px≤10)(hy:0≤py∧py≤10)(hp:px%2=py%2)(hj:j<8):
  (ocX px j=ocX px ((j+1)%8)∧ocY py j=ocY py ((j+1)%8)∧ocQ px j=ocQ px ((j+1)%8))∨((px%2=0∨((j+1)%4)%2=1)∧∃e:Nat,e<3∧(nbX (ocX px j) (ocQ px j) e=ocX px ((j+1)%8)∧nbY (ocY py j) (ocQ px j) e=ocY py ((j+1)%8)∧nbQ (ocQ px j) e=ocQ px ((j+1)%8))∧liK (ocX px j) (ocY py j) (ocQ px j) e=dK ((j+1)%4)∧liC (ocX px j) (ocY py j) (ocQ px j) e=dC px py ((j+1)%4)):=by
 have h:=ckA_all
 simp only[List.all_eq_true,List.mem_range]at h
 have h1:=h px.toNat (by omega) py.toNat (by omega) j hj
 unfold ckA at h1
 rw[Int.toNat_of_nonneg hx.1,Int.toNat_of_nonneg hy.1]at h1
 rw[hp,beq_self_eq_true,Bool.not_true,Bool.false_or]at h1
 simp only[Bool.and_eq_true,Bool.or_eq_true,decide_eq_true_eq,List.any_eq_true,List.mem_range,beq_iff_eq]at h1
 rcases h1 with h1|⟨h1,e,e1,e2,e3⟩
 ·exact .inl h1
 ·exact .inr ⟨by rw[hp];exact h1,e,e1,e2,e3⟩
theorem oct_side {px py:Int}{d j:Nat}(hx:0≤px∧px≤10)(hy:0≤py∧py≤10)(hp:px%2=py%2)(hd:d<4)(hj:j<8)(ho:px%2=0∨d%2=1):sdB (dK d) (dC px py d) (ocX px j) (ocY py j) (ocQ px j)=(sid d j==decide (d<2)):=by
 have h:=ckD_all
 simp only[List.all_eq_true,List.mem_range]at h
 have h1:=h px.toNat (by omega) py.toNat (by omega) d hd j hj
 unfold ckD at h1
 rw[Int.toNat_of_nonneg hx.1,Int.toNat_of_nonneg hy.1]at h1
 have ho':(decide (px%2=0)||decide (d%2=1))=true:=by simpa using ho
 rw[ho',hp,beq_self_eq_true,Bool.not_true,Bool.false_or,Bool.false_or,beq_iff_eq]at h1
 exact h1
theorem dLn {px py:Int}{d:Nat}(hx:0≤px∧px≤10)(hy:0≤py∧py≤10)(hd:d<4):okLn (dK d) (dC px py d):=by
 unfold okLn dK dC
 obtain rfl|rfl|rfl|rfl:d=0∨d=1∨d=2∨d=3:=by omega
 all_goals (simp only[List.getD_cons_zero,List.getD_cons_succ];omega)
theorem bl8 (f:Nat→Bool){j:Nat}(h:j<8):bl [f 0,f 1,f 2,f 3,f 4,f 5,f 6,f 7] j=f j:=by
 obtain rfl|rfl|rfl|rfl|rfl|rfl|rfl|rfl:j=0∨j=1∨j=2∨j=3∨j=4∨j=5∨j=6∨j=7:=by omega
 all_goals rfl
theorem bl4 (f:Nat→Bool){j:Nat}(h:j<4):bl [f 0,f 1,f 2,f 3] j=f j:=by
 obtain rfl|rfl|rfl|rfl:j=0∨j=1∨j=2∨j=3:=by omega
 all_goals rfl
theorem okB_congr {f g:Nat→Bool}(h:∀j,j<8→f j=g j):okB f=okB g:=by
 have h1:(List.range 8).countP (fun j=>f j)=(List.range 8).countP (fun j=>g j):=List.countP_congr fun j hj=>by rw[h j (List.mem_range.1 hj)]
 have h2:(List.range 8).countP (fun j=>f j&& !f ((j+7)%8))=(List.range 8).countP (fun j=>g j&& !g ((j+7)%8)):=List.countP_congr fun j hj=>by rw[h j (List.mem_range.1 hj),h ((j+7)%8) (by omega)]
 unfold okB
 rw[h1,h2]
/-- Eight marks around a point. -/
theorem okB_of {p t v:Nat→Bool}{R L U D:Bool}(hp:∀j,j<8→p j=gp R L U D j)(h1:∀j,j<8→v j=true→p j=true)
  (h2:∀j,j<8→p j=true→p ((j+1)%8)=true→t ((j+1)%4)=false→v j=v ((j+1)%8))
  (h3:∀d i j,d<4→i<8→j<8→t d=true→v i=true→v j=true→sid d i=sid d j):okB v=true:=by
 have h8:=eight R L U D (t 0) (t 1) (t 2) (t 3) (v 0) (v 1) (v 2) (v 3) (v 4) (v 5) (v 6) (v 7)
 rw[← okB_congr (f:=v) (fun j hj=>(bl8 v hj).symm)]at h8
 rw[Bool.or_eq_true]at h8
 rcases h8 with h8|h8
 ·exfalso
  rw[Bool.not_eq_true']at h8
  have:hyB (gp R L U D) (bl [t 0,t 1,t 2,t 3]) (bl [v 0,v 1,v 2,v 3,v 4,v 5,v 6,v 7])=true:=by
   unfold hyB
   simp only[Bool.and_eq_true,List.all_eq_true,List.mem_range]
   refine⟨fun j hj=>?_,fun d hd=>?_⟩
   ·rw[bl8 v hj,bl8 v (show(j+1)%8<8 by omega),bl4 t (show(j+1)%4<4 by omega),← hp j hj,← hp _ (show(j+1)%8<8 by omega)]
    have a1:=h1 j hj
    have a2:=h2 j hj
    revert a1 a2
    generalize v j=x;generalize v ((j+1)%8)=y;generalize p j=z;generalize p ((j+1)%8)=u;generalize t ((j+1)%4)=s
    cases x<;>cases y<;>cases z<;>cases u<;>cases s<;>simp
   ·rw[bl4 t hd,Bool.or_eq_true]
    cases htd:t d
    ·exact .inl rfl
    ·refine .inr ?_
     rw[Bool.not_eq_true',Bool.and_eq_false_iff]
     by_cases ha:((List.range 8).any fun j=>bl [v 0,v 1,v 2,v 3,v 4,v 5,v 6,v 7] j&&sid d j)=true
     ·refine .inr ?_
      rw[List.any_eq_true]at ha
      obtain⟨i,i1,i2⟩:=ha
      have hi:=List.mem_range.1 i1
      rw[bl8 v hi,Bool.and_eq_true]at i2
      rw[List.any_eq_false]
      intro j hj
      have hj:=List.mem_range.1 hj
      rw[bl8 v hj]
      intro hq
      rw[Bool.and_eq_true,Bool.not_eq_true']at hq
      have:=h3 d i j hd hi hj htd i2.1 hq.1
      rw[i2.2,hq.2]at this
      cases this
     ·exact .inl (by simpa using ha)
  rw[this]at h8;cases h8
 ·exact h8
/-- The cell of an octant. -/
def cnO (w px py:Int)(j:Nat):Int:=4*(ocY py j*w+ocX px j)+ocQ px j
theorem cn_ok {w h px py:Int}{j:Nat}(hs:s5 w h)(hx:0≤px∧px≤10)(hy:0≤py∧py≤10)(hp:px%2=py%2)(hj:j<8)(hi:inB w h (ocX px j) (ocY py j)=true):qX w (cnO w px py j)=ocX px j∧qY w (cnO w px py j)=ocY py j∧qQ (cnO w px py j)=ocQ px j∧hasB w h (cnO w px py j)=true:=by
 obtain⟨hq,_⟩:=oct_corner hx hy hp hj
 have b:=inB_iff.1 hi
 have hs':=hs
 obtain⟨s1,s2,s3,s4⟩:=hs'
 obtain⟨q1,q2,q3⟩:=q_of ⟨s1,s2⟩ ⟨b.1,b.2.1⟩ ⟨b.2.2.1,by omega⟩ hq
 refine⟨q1,q2,q3,?_⟩
 have h0:0≤ocY py j*w:=Int.mul_nonneg b.2.2.1 (by omega)
 have h1:(ocY py j+1)*w≤h*w:=Int.mul_le_mul_of_nonneg_right (by omega) (by omega)
 rw[Int.add_mul,Int.one_mul]at h1
 have h2:4*w*h=4*(h*w):=by rw[Int.mul_assoc,Int.mul_comm w h]
 unfold cnO
 exact hasB_iff.2 ⟨by omega,by omega⟩
theorem gp_of {w h px py:Int}(hp:px%2=py%2){j:Nat}(hj:j<8):inB w h (ocX px j) (ocY py j)=gp (decide (0≤ocX px 0∧ocX px 0<w)) (decide (0≤ocX px 2∧ocX px 2<w)) (decide (0≤ocY py 0∧ocY py 0<h)) (decide (0≤ocY py 4∧ocY py 4<h)) j:=by
 have hX:ocX px j=if 2≤j∧j≤5 then ocX px 2 else ocX px 0:=by
  unfold ocX
  obtain rfl|rfl|rfl|rfl|rfl|rfl|rfl|rfl:j=0∨j=1∨j=2∨j=3∨j=4∨j=5∨j=6∨j=7:=by omega
  all_goals rfl
 have hY:ocY py j=if 4≤j then ocY py 4 else ocY py 0:=by
  unfold ocY
  obtain rfl|rfl|rfl|rfl|rfl|rfl|rfl|rfl:j=0∨j=1∨j=2∨j=3∨j=4∨j=5∨j=6∨j=7:=by omega
  all_goals rfl
 have hi:∀a b:Int,inB w h a b=(decide (0≤a∧a<w)&&decide (0≤b∧b<h)):=fun a b=>by
  unfold inB
  rw[← Bool.decide_and]
  exact decide_eq_decide.2 (by omega)
 rw[hi,hX,hY]
 obtain rfl|rfl|rfl|rfl|rfl|rfl|rfl|rfl:j=0∨j=1∨j=2∨j=3∨j=4∨j=5∨j=6∨j=7:=by omega
 all_goals rfl
theorem cel_q {w h f:Int}{l:List Cr}(hs:s5 w h):∀id∈celL (facL w h l) f,∃n:Nat,id=n∧n<nC w h∧gI (facL w h l) n=f∧hasB w h id=true:=by
 intro id hid
 obtain⟨i,h1,h2,h3⟩:=mem_celL.1 hid
 rw[facL_len hs]at h1
 exact⟨i,h3,h1,h2,by rw[h3];exact nC_has hs h1⟩
/-- Each face is convex. -/
theorem OnL.convex {w h:Int}{l:List Cr}{S:Int→Int→Bool}(hO:OnL w h l S)(hs:s5 w h)(f:Int):cvB w (celL (facL w h l) f)=true:=by
 have hs':=hs
 obtain⟨s1,s2,s3,s4⟩:=hs'
 unfold cvB
 rw[List.all_eq_true]
 intro e he
 obtain⟨id0,hid0,i0,hi0,hk0⟩:=cvF_key e he
 obtain⟨n0,_,_,_,hb0⟩:=cel_q hs id0 hid0
 obtain⟨c1,c2,c3,c4⟩:=cell5 hs hb0
 obtain⟨⟨pp,px,py⟩,-⟩:=corner_oct (x:=qX w id0) (y:=qY w id0) (q:=qQ id0) ⟨by omega,by omega⟩ ⟨by omega,by omega⟩ c3 hi0
 have hcov:=cvF_cov (w:=w) (C:=celL (facL w h l) f) (fun id hid=>by obtain⟨_,_,_,_,hb⟩:=cel_q hs id hid;exact(cell5 hs hb).2.2.1)
 have hget:=(cvF_wf w (celL (facL w h l) f)).get he
 have hv:∀j,j<8→b8 e.2.1 j=covB w (celL (facL w h l) f) e.1 j:=fun j hj=>by
  have:=hcov e.1 j hj
  rw[hget]at this
  exact this
 rw[okV8_B]
 have hke:e.1=[crX (qX w id0) (qQ id0) i0,crY (qY w id0) (qQ id0) i0]:=hk0
 generalize crX (qX w id0) (qQ id0) i0=a at*
 generalize crY (qY w id0) (qQ id0) i0=b at*
 clear hk0
 have hcn:=fun j hj=>cn_ok (w:=w) (h:=h) (px:=a) (py:=b) (j:=j) hs px py pp hj
 -- what a mark says
 have hm:∀j,j<8→(b8 e.2.1 j=true↔inB w h (ocX a j) (ocY b j)=true∧gI (facL w h l) (cnO w a b j).toNat=f):=by
  intro j hj
  rw[hv j hj]
  unfold covB
  simp only[List.any_eq_true,List.mem_range,Bool.and_eq_true,decide_eq_true_eq]
  constructor
  ·rintro⟨id,hid,i,hi,hk,hsec⟩
   obtain⟨n,hn,hn2,hn3,hb⟩:=cel_q hs id hid
   obtain⟨d1,d2,d3,d4⟩:=cell5 hs hb
   obtain⟨-,ho⟩:=corner_oct (x:=qX w id) (y:=qY w id) (q:=qQ id) ⟨by omega,by omega⟩ ⟨by omega,by omega⟩ d3 hi
   rw[hke]at hk
   have hk:[a,b]=[crX (qX w id) (qQ id) i,crY (qY w id) (qQ id) i]:=hk
   simp only[List.cons.injEq,and_true]at hk
   rw[← hk.1,← hk.2]at ho
   obtain⟨_,o1,o2,o3⟩:=ho j hsec
   have hc:cnO w a b j=id:=by unfold cnO;rw[o1,o2,o3];exact d4.symm
   refine⟨?_,?_⟩
   ·rw[o1,o2];exact inB_iff.2 ⟨d1.1,d1.2,d2.1,d2.2⟩
   ·rw[hc,hn,Int.toNat_natCast];exact hn3
  ·rintro⟨hi,hf⟩
   obtain⟨q1,q2,q3,q4⟩:=hcn j hj hi
   obtain⟨hq,i,i1,i2,i3,i4⟩:=oct_corner px py pp hj
   obtain⟨b1,b2⟩:=has_nC q4
   refine⟨cnO w a b j,mem_celL.2 ⟨(cnO w a b j).toNat,by rw[facL_len hs];exact b1,hf,b2.symm⟩,i,i1,?_,by rw[q3];exact i4⟩
   rw[hke]
   unfold keyP
   rw[q1,q2,q3,i2,i3]
 refine okB_of (p:=fun j=>inB w h (ocX a j) (ocY b j)) (t:=fun d=>S (dK d) (dC a b d)&&(decide (a%2=0)||decide (d%2=1))) (fun j hj=>gp_of pp hj) (fun j hj h1=>((hm j hj).1 h1).1) (fun j hj p1 p2 ht=>?_) (fun d i j hd hi hj ht h1 h2=>?_)
 ·have hj2:(j+1)%8<8:=by omega
  have key:gI (facL w h l) (cnO w a b j).toNat=gI (facL w h l) (cnO w a b ((j+1)%8)).toNat:=by
   rcases oct_next px py pp hj with⟨e1,e2,e3⟩|⟨hpar,e,e1,⟨e2,e3,e4⟩,e5,e6⟩
   ·unfold cnO;rw[e1,e2,e3]
   ·obtain⟨q1,q2,q3,q4⟩:=hcn j hj p1
    have hnb:nbI w h (cnO w a b j) e=cnO w a b ((j+1)%8):=by
     unfold nbI
     rw[q1,q2,q3,e2,e3,e4,p2];rfl
    obtain⟨_,_,_,r4⟩:=hcn _ hj2 p2
    have hn:0≤nbI w h (cnO w a b j) e:=by rw[hnb];exact(hasB_iff.1 r4).1
    have hS:S (leK w (cnO w a b j) e) (leC w (cnO w a b j) e)=false:=by
     unfold leK leC
     rw[q1,q2,q3,e5,e6]
     simp only[Bool.and_eq_false_iff,Bool.or_eq_false_iff,decide_eq_false_iff_not]at ht
     rcases ht with ht|ht
     ·exact ht
     ·omega
    rw[hO.opn hs q4 ⟨by omega,by omega⟩ hn hS,hnb]
  have a1:=hm j hj
  have a2:=hm _ hj2
  rw[key]at a1
  have p1:inB w h (ocX a j) (ocY b j)=true:=p1
  have p2:inB w h (ocX a ((j+1)%8)) (ocY b ((j+1)%8))=true:=p2
  rw[p1]at a1
  rw[p2]at a2
  rw[Bool.eq_iff_iff,a1,a2]
 ·obtain⟨p1,f1⟩:=(hm i hi).1 h1
  obtain⟨p2,f2⟩:=(hm j hj).1 h2
  obtain⟨q1,q2,q3,q4⟩:=hcn i hi p1
  obtain⟨r1,r2,r3,r4⟩:=hcn j hj p2
  have ht:(S (dK d) (dC a b d)&&(decide (a%2=0)||decide (d%2=1)))=true:=ht
  rw[Bool.and_eq_true]at ht
  have ho:a%2=0∨d%2=1:=by simpa using ht.2
  obtain⟨b1,b2⟩:=has_nC q4
  obtain⟨b3,b4⟩:=has_nC r4
  have hsd:=hO.same hs b1 b3 (f1.trans f2.symm) (dLn px py hd) ht.1
  rw[b2,b4]at hsd
  unfold sdI at hsd
  rw[q1,q2,q3,r1,r2,r3,oct_side px py pp hd hi ho,oct_side px py pp hd hj ho]at hsd
  revert hsd
  generalize sid d i=x;generalize sid d j=y;generalize decide (d<2)=z
  cases x<;>cases y<;>cases z<;>simp
/-- No crease ends within a face. -/
theorem OnL.loose {w h:Int}{l:List Cr}{S:Int→Int→Bool}(hO:OnL w h l S)(hs:s5 w h)(hv:vP w h l):lseJ (jnC w h l)=false:=by
 unfold lseJ
 rw[List.any_eq_false]
 intro x hx hxe
 have hF:=okF_facL hs l
 obtain⟨h1,h2⟩:=(mem_jnL hs hv hF).1 hx
 obtain⟨c,hc,e1,e2⟩:=cntJ_pos h1
 have hxe:x.1=x.2.1:=by simpa using hxe
 obtain⟨a1,a2,a3,a4,a5,a6⟩:=vP_cr hs hv hc
 have hu:=vP_mem hv hc
 have hcr:crB l (cdC c)=true:=by
  unfold crB
  rw[List.any_eq_true]
  exact⟨c,hc,by rw[← hu.2.1,← hu.2.2.1];simp⟩
 rw[hO _ hu.1,← hu.2.1,← hu.2.2.1]at hcr
 have hne:=hO.apart hs a1 ⟨a2,a3⟩ a4 hcr
 apply hne
 have:loA w h (facL w h l) c=hiA w h (facL w h l) c:=by rw[e1,e2,hxe]
 unfold loA hiA faA faB at this
 split at this<;>split at this<;>omega
/-- Lines part the sheet. -/
theorem OnL.many {w h:Int}{l:List Cr}{S:Int→Int→Bool}(hO:OnL w h l S)(hs:s5 w h){c:Int}(hc:c∈units w h)(hS:S (leK w (c/3) (c%3)) (leC w (c/3) (c%3))=true):maxL (facL w h l)+1≠1:=by
 obtain⟨u1,u2,u3⟩:=units_mem hs hc
 have hn:0≤nbI w h (c/3) (c%3):=by have:=(hasB_iff.1 u1).1;omega
 have hne:=hO.apart hs u1 ⟨by omega,by omega⟩ hn hS
 obtain⟨_,_,i3⟩:=inv_ok hs u1 ⟨by omega,by omega⟩ hn
 have b1:=(has_nC u1).1
 have b2:=(has_nC i3).1
 have hF:=okF_facL hs l
 have f1:=okF_gI hF b1
 have f2:=okF_gI hF b2
 have hm:=(fac_max l hs).2.2
 have m1:=hm _ (show gI (facL w h l) (c/3).toNat∈facL w h l by rw[gI_at (by rw[facL_len hs];exact b1)];exact List.getElem_mem _)
 have m2:=hm _ (show gI (facL w h l) (nbI w h (c/3) (c%3)).toNat∈facL w h l by rw[gI_at (by rw[facL_len hs];exact b2)];exact List.getElem_mem _)
 omega
/-! ### A sheet without creases -/
def hop (w h i:Int):Bool:=[0,1,2].any fun e=>decide (0≤nbI w h i e)&&(decide (nbI w h i e<i)||[0,1,2].any fun e'=>decide (0≤nbI w h (nbI w h i e) e')&&decide (nbI w h (nbI w h i e) e'<i))
theorem hop_all:((List.range 5).all fun w=>(List.range 5).all fun h=>(List.range (4*(w+1)*(h+1))).all fun i=>i==0||hop ((w:Int)+1) ((h:Int)+1) i)=true:=by decide +kernel
theorem rP_none {w h:Int}(hs:s5 w h):∀i:Nat,i<nC w h→rP w h [] i=0:=by
 have hs':=hs
 obtain⟨s1,s2,s3,s4⟩:=hs'
 have hc0:∀c,crB [] c=false:=fun c=>rfl
 intro i
 induction i using Nat.strongRecOn with
 |_ i ih=>
  intro hi
  by_cases h0:i=0
  ·subst h0
   have:=(rep_P hs []).inv.le 0 hi
   unfold rP repP at*
   omega
  ·have hA:=hop_all
   simp only[List.all_eq_true,List.mem_range]at hA
   have hn:4*((w-1).toNat+1)*((h-1).toNat+1)=nC w h:=by
    unfold nC
    have e1:((w-1).toNat:Int)=w-1:=by omega
    have e2:((h-1).toNat:Int)=h-1:=by omega
    have:((4*((w-1).toNat+1)*((h-1).toNat+1):Nat):Int)=4*w*h:=by
     simp only[Int.natCast_mul,Int.natCast_add,e1,e2]
     rw[show((1:Nat):Int)=1 from rfl,show w-1+1=w by omega,show h-1+1=h by omega];rfl
    omega
   have h1:=hA (w-1).toNat (by omega) (h-1).toNat (by omega) i (by rw[hn];exact hi)
   rw[beq_eq_false_iff_ne.2 h0,Bool.false_or,show(((w-1).toNat:Nat):Int)+1=w by omega,show(((h-1).toNat:Nat):Int)+1=h by omega]at h1
   unfold hop at h1
   simp only[List.any_cons,List.any_nil,Bool.or_false,Bool.or_eq_true,Bool.and_eq_true,decide_eq_true_eq]at h1
   have hb:=nC_has hs hi
   have step:∀(a:Int) (e:Int),hasB w h a=true→0≤e∧e≤2→0≤nbI w h a e→rP w h [] a.toNat=rP w h [] (nbI w h a e).toNat∧hasB w h (nbI w h a e)=true:=fun a e ha he hn=>⟨adj_rep hs ha he hn (hc0 _),(inv_ok hs ha he hn).2.2⟩
   have fin:∀a:Int,hasB w h a=true→a<i→rP w h [] a.toNat=0:=fun a ha hlt=>ih a.toNat (by have:=(hasB_iff.1 ha).1;omega) (has_nC ha).1
   have one:∀e:Int,0≤e∧e≤2→(0≤nbI w h i e∧(nbI w h i e<i∨∃e':Int,(0≤e'∧e'≤2)∧0≤nbI w h (nbI w h i e) e'∧nbI w h (nbI w h i e) e'<i))→rP w h [] i=0:=by
    rintro e he ⟨h2,h3⟩
    obtain⟨p1,p2⟩:=step i e hb he h2
    rw[Int.toNat_natCast]at p1
    rcases h3 with h3|⟨e',he',h3,h4⟩
    ·rw[p1];exact fin _ p2 h3
    ·obtain⟨p3,p4⟩:=step _ e' p2 he' h3
     rw[p1,p3];exact fin _ p4 h4
   rcases h1 with⟨h2,h3|⟨h3,h4⟩|⟨h3,h4⟩|⟨h3,h4⟩⟩|⟨h2,h3|⟨h3,h4⟩|⟨h3,h4⟩|⟨h3,h4⟩⟩|⟨h2,h3|⟨h3,h4⟩|⟨h3,h4⟩|⟨h3,h4⟩⟩
   ·exact one 0 (by omega) ⟨h2,.inl h3⟩
   ·exact one 0 (by omega) ⟨h2,.inr ⟨0,by omega,h3,h4⟩⟩
   ·exact one 0 (by omega) ⟨h2,.inr ⟨1,by omega,h3,h4⟩⟩
   ·exact one 0 (by omega) ⟨h2,.inr ⟨2,by omega,h3,h4⟩⟩
   ·exact one 1 (by omega) ⟨h2,.inl h3⟩
   ·exact one 1 (by omega) ⟨h2,.inr ⟨0,by omega,h3,h4⟩⟩
   ·exact one 1 (by omega) ⟨h2,.inr ⟨1,by omega,h3,h4⟩⟩
   ·exact one 1 (by omega) ⟨h2,.inr ⟨2,by omega,h3,h4⟩⟩
   ·exact one 2 (by omega) ⟨h2,.inl h3⟩
   ·exact one 2 (by omega) ⟨h2,.inr ⟨0,by omega,h3,h4⟩⟩
   ·exact one 2 (by omega) ⟨h2,.inr ⟨1,by omega,h3,h4⟩⟩
   ·exact one 2 (by omega) ⟨h2,.inr ⟨2,by omega,h3,h4⟩⟩
theorem fac_none {w h:Int}(hs:s5 w h):maxL (facL w h [])+1=1:=by
 obtain⟨m0,m1,_⟩:=fac_max [] hs
 have hl:=facL_len hs []
 obtain⟨n100,n4⟩:=nC_le hs
 have hm:=maxL_mem (l:=facL w h []) (fun e=>by rw[e]at hl;simp at hl;omega)
 obtain⟨i,hi,he⟩:=List.getElem_of_mem hm
 have hi':i<nC w h:=by omega
 have:maxL (facL w h [])=kP w h [] (rP w h [] i):=by rw[← gI_facL hs hi',gI_at hi,he]
 rw[rP_none hs i hi']at this
 have:kP w h [] 0=0:=rfl
 omega
end Go.Proofs.YtfpcbimohikhmaaDoor.X
