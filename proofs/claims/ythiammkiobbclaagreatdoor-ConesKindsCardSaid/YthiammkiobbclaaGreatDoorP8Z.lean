/-
 Cones, plain: the ways of a fan are those of its angles whose kinds fit; a fan has one exactly if it folds.
-/
import Derived.Test.YthiammkiobbclaaGreatDoorP7Z
import Derived.Test.YthiammkiobbclaaGreatDoorP9Z
import Derived.Test.YthiammkiobbclaaGreatDoorD4Z
set_option maxRecDepth 1000000
set_option linter.unusedVariables false
namespace Go.Proofs.YthiammkiobbclaaGreatDoor.X
open Go Go.Ab

theorem ks_all:∀p∈ksT,ksW p.1=p.2:=by
 unfold ksT
 simp only[List.forall_mem_cons]
 exact⟨ks0_ok,ks1_ok,ks2_ok,ks3_ok,ks4_ok,ks5_ok,ks6_ok,ks7_ok,ks8_ok,ks9_ok,ks10_ok,ks11_ok,ks12_ok,ks13_ok,ks14_ok,ks15_ok,ks16_ok,ks17_ok,ks18_ok,ks19_ok,ks20_ok,ks21_ok,ks22_ok,ks23_ok,ks24_ok,ks25_ok,ks26_ok,ks27_ok,ks28_ok,fun p h=>by cases h⟩
def ksOf (a:List Int):List (List Int):=bif a==ones then ksO else((ksT.find? fun p=>p.1==a).map (·.2)).getD []
def inT (a:List Int):Bool:=ksT.any fun p=>p.1==a
def chkA (a k:List Int):Bool:= !altB a||(a==ones||inT a)
theorem allA:allC chkA 9 [] [] 8=true:=by decide +kernel
theorem okF_ones:∀(a:List Int) (s:Int),(∀x∈a,1≤x)→a.sum≤s→okF a (List.replicate a.length 1) s=true
 |[],s,_,_=>rfl
 |x::a,s,h1,h2=>by
  have hx:=h1 x (List.mem_cons_self ..)
  have hr:0≤a.sum:=sum_nonneg fun y hy=>by have:=h1 y (List.mem_cons_of_mem _ hy);omega
  rw[List.sum_cons]at h2
  rw[List.length_cons,List.replicate_succ]
  simp only[okF,Bool.and_eq_true,decide_eq_true_eq,Bool.or_eq_true,beq_iff_eq]
  exact⟨hx,by omega,.inl trivial,okF_ones a _ (fun y hy=>h1 y (List.mem_cons_of_mem _ hy)) (by omega)⟩
theorem okA_F {a:List Int}(h:okA a):okF a (List.replicate a.length 1) 8=true:=okF_ones a 8 h.1 h.2
theorem alt_in {a k:List Int}(h:altS a k=true):a=ones∨(a≠ones∧inT a=true):=by
 have hA:=(alt_facts h).2.2.1
 have hl:=okA_len hA
 have:=allC_ok a _ 9 8 [] [] (by omega) allA (okA_F hA)
 simp only[List.nil_append,chkA,(altS_iff.1 h).2,Bool.not_true,Bool.false_or,Bool.or_eq_true,beq_iff_eq]at this
 by_cases e:a=ones
 ·exact .inl e
 ·exact .inr ⟨e,this.resolve_left e⟩
theorem inT_of {a:List Int}(h:inT a=true)(hne:a≠ones):∃p∈ksT,p.1=a∧ksOf a=p.2:=by
 unfold inT at h
 cases hf:ksT.find? fun p=>p.1==a with
 |none=>
  obtain⟨p,hp,hp2⟩:=List.any_eq_true.1 h
  exact absurd hp2 (by simpa using List.find?_eq_none.1 hf p hp)
 |some p=>
  refine⟨p,List.mem_of_find?_eq_some hf,?_,by unfold ksOf;rw[beq_false_of_ne hne,hf];rfl⟩
  have:=List.find?_some hf
  exact beq_iff_eq.1 this
theorem ks_eq {a k:List Int}(h:altS a k=true)(hne:a≠ones):ksW a=ksOf a:=by
 obtain⟨p,hp,rfl,e⟩:=inT_of ((alt_in h).resolve_left hne).2 hne
 rw[e,ks_all p hp]
theorem wrg_any {n:Nat}{rk:List Int}:wrgB (List.replicate n 3) rk=false:=by
 unfold wrgB
 refine anyN_noI.2 fun i hi=>?_
 rw[List.length_replicate]at hi
 have:gR (List.replicate n 3) (i:Int)=3:=by
  unfold gR
  rw[Int.toNat_natCast,List.getElem?_replicate,if_pos hi];rfl
 unfold wrg1
 rw[this];rfl
theorem wy_iff {n:Nat}{r k x:List Int}:x∈waysL n r k↔x∈grwL n r k n []:=by
 unfold waysL grwO
 rw[(srtL_perm _).mem_iff,addU_mem]
 simp
theorem ones_mem (x:List Int):x∈ksW ones↔x∈ksO:=by
 unfold ksW
 rw[List.mem_map]
 constructor
 ·rintro⟨l,hl,rfl⟩
  exact gO_all l (wy_iff.1 hl)
 ·intro hx
  rw[← wsO_ks,List.mem_map]at hx
  obtain⟨w,hw,rfl⟩:=hx
  have h:=List.all_eq_true.1 wsO_ok w hw
  simp only[Bool.and_eq_true,Bool.not_eq_true',beq_iff_eq]at h
  have hp:=List.isPerm_iff.1 h.1
  have hs:altS ones k8=true:=by decide +kernel
  have A:=alt_of hs
  refine⟨w,(ways_mem A (by decide) (by rfl)).2 ⟨hp,?_,h.2.2⟩,rfl⟩
  unfold cwB
  rw[show crsB ones.length (raysL ones) (rkL w)=crsB 8 r8 (rkL w)from rfl,h.2.1,wrg_any];rfl
/-- The kinds that the ways ask for are those of the table. -/
theorem ks_mem {a k:List Int}(h:altS a k=true)(x:List Int):x∈ksW a↔x∈ksOf a:=by
 by_cases hne:a=ones
 ·subst hne;exact ones_mem x
 ·rw[ks_eq h hne]
/-! ### Mountains and valleys -/
def dsum (h:List Int):Int:=(h.map fun x=>3-2*x).sum
def twoK (a h:List Int):Bool:=(a.length==0||(dsum h==2||dsum h== -2))&&(h.length==a.length&&h.all fun x=>x==1||x==2)
theorem ks_twoT:ksT.all (fun p=>p.2.all (twoK p.1))=true:=by decide +kernel
theorem ks_twoO:ksO.all (twoK ones)=true:=by decide +kernel
theorem ks_two {a k:List Int}(h:altS a k=true):∀x∈ksOf a,(a.length=0∨dsum x=2∨dsum x= -2)∧x.length=a.length∧∀y∈x,y=1∨y=2:=by
 intro x hx
 have:twoK a x=true:=by
  by_cases hne:a=ones
  ·subst hne;exact List.all_eq_true.1 ks_twoO x hx
  ·obtain⟨p,hp,rfl,e⟩:=inT_of ((alt_in h).resolve_left hne).2 hne
   rw[e]at hx
   exact List.all_eq_true.1 (List.all_eq_true.1 ks_twoT p hp) x hx
 unfold twoK at this
 simp only[Bool.and_eq_true,Bool.or_eq_true,beq_iff_eq,List.all_eq_true]at this
 exact⟨this.1,this.2.1,this.2.2⟩
/-! ### Ways by their kinds -/
/-- Do kinds fit? -/
def fitB (k h:List Int):Bool:=anyN k.length (fun i=>(gR k i !=3)&&(gR k i !=gR h i))==false
theorem kdL_get {a o:List Int}{i:Nat}(h:i<a.length):gR (kdL a o) i=kdI a.length (rkL o) i:=by
 unfold gR kdL
 rw[Int.toNat_natCast,List.getElem?_map,List.getElem?_range h];rfl
theorem wrg_fit {a k o:List Int}(A:Alt a.length (raysL a))(hn:a.length≤8)(hk:k.length=a.length)(ho:o.Perm (idO a.length)):wrgB k (rkL o)= !fitB k (kdL a o):=by
 unfold wrgB fitB
 have:anyN k.length (fun i=>wrg1 k (rkL o) i)=anyN k.length (fun i=>(gR k i !=3)&&(gR k i !=gR (kdL a o) i)):=by
  rw[Bool.eq_iff_iff,anyN_iff,anyN_iff]
  have one:∀i:Nat,i<k.length→wrg1 k (rkL o) i=((gR k i !=3)&&(gR k i !=gR (kdL a o) i)):=fun i hi=>by
   have h0:(0:Int)≤i:=by omega
   have h1:(i:Int)<a.length:=by omega
   obtain⟨b1,b2,_⟩:=A.bf h0 h1
   unfold wrg1
   rw[kdL_get (by omega),hk,leb_iff.2 (mn_0.2 ⟨rk_nn hn ho b1 b2,rk_nn hn ho h0 h1⟩),Bool.true_and]
  constructor
  ·rintro⟨i,hi,h⟩;exact⟨i,hi,by rw[← one i hi];exact h⟩
  ·rintro⟨i,hi,h⟩;exact⟨i,hi,by rw[one i hi];exact h⟩
 rw[this]
 cases anyN k.length (fun i=>(gR k i !=3)&&(gR k i !=gR (kdL a o) i))<;>rfl
theorem ways_filt {a k:List Int}(h:altS a k=true):waysL a.length (raysL a) k=(waysL a.length (raysL a) (List.replicate a.length 3)).filter fun w=>fitB k (kdL a w):=by
 obtain⟨h1,h2,h3,h4⟩:=alt_facts h
 have A:=alt_of h
 refine srt_unique ways_srt (ways_srt.filter _) fun l=>?_
 rw[List.mem_filter,ways_mem A h2 h1.symm,ways_mem A h2 (List.length_replicate ..)]
 have e1:∀k':List Int,cwB a.length (raysL a) k' l=false↔crsB a.length (raysL a) (rkL l)=false∧wrgB k' (rkL l)=false:=fun k'=>by
  unfold cwB;rw[Bool.or_eq_false_iff]
 rw[e1,e1]
 constructor
 ·rintro⟨p,⟨c1,c2⟩,c3⟩
  rw[wrg_fit A h2 h1.symm p]at c2
  exact⟨⟨p,⟨c1,wrg_any⟩,c3⟩,by simpa using c2⟩
 ·rintro⟨⟨p,⟨c1,_⟩,c3⟩,c4⟩
  refine⟨p,⟨c1,?_⟩,c3⟩
  rw[wrg_fit A h2 h1.symm p,c4];rfl
/-- How many ways there are. -/
theorem cw_len {a k:List Int}(h:altS a k=true)(hne:a≠ones):(cwL a k).length=((ksOf a).filter (fitB k)).length:=by
 unfold cwL
 rw[h,cond_true,ways_filt h,← ks_eq h hne]
 unfold ksW
 rw[List.filter_map,List.length_map]
 rfl
theorem cw_pos {a k:List Int}(h:altS a k=true):cwL a k≠[]↔∃x∈ksOf a,fitB k x=true:=by
 unfold cwL
 rw[h,cond_true,ways_filt h]
 rw[show ∀l:List (List Int),l≠[]↔∃w,w∈l from fun l=>⟨fun hn=>List.exists_mem_of_ne_nil _ hn,fun⟨w,hw⟩ e=>by rw[e]at hw;cases hw⟩]
 constructor
 ·rintro⟨w,hw⟩
  obtain⟨h1,h2⟩:=List.mem_filter.1 hw
  exact⟨kdL a w,(ks_mem h _).1 (List.mem_map_of_mem h1),h2⟩
 ·rintro⟨x,hx,hf⟩
  obtain⟨w,hw,rfl⟩:=List.mem_map.1 ((ks_mem h x).2 hx)
  exact⟨w,List.mem_filter.2 ⟨hw,hf⟩⟩
theorem cw_no {a k:List Int}(h:altS a k=false):cwL a k=[]:=by unfold cwL;rw[h];rfl
/-! ### A decided fan folds exactly if one of the ways asks for its kinds -/
def chkF (a k:List Int):Bool:=look a k==(altB a&&(ksOf a).contains k)
theorem allF:allC chkF 9 [] [] 8=true:=by decide +kernel
theorem fold_ks {a k:List Int}(h:okF a k 8=true):foldB a k=(altB a&&(ksOf a).contains k):=by
 have:=(okF_len h).2 (by omega)
 have:=allC_ok a k 9 8 [] [] (by omega) allF h
 simp only[List.nil_append,chkF,beq_iff_eq]at this
 rw[fold_look h,this]
end Go.Proofs.YthiammkiobbclaaGreatDoor.X
