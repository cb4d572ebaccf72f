/-
 Patterns that are valid, plainly; all units creased.
-/
import Derived.Test.YtfpcbimohikhmaaDoorQYO8Z
import Derived.Test.YtfpcbimohikhmaaDoorQYCbZ
import Derived.Test.YtfpcbimohikhmaaDoorQPIZ
set_option maxRecDepth 1000000
set_option linter.unusedVariables false
set_option linter.unusedSimpArgs false
namespace Go.Proofs.YtfpcbimohikhmaaDoor.X
open Go Go.Ab

theorem look_mem {c:Int}:∀{l:List Cr} {acc:Int},lookK c acc l=acc∨∃x∈l,(x.1=c/3∧x.2.1=c%3)∧lookK c acc l=x.2.2
 |[],acc=>.inl rfl
 |x::r,acc=>by
  simp only[lookK]
  by_cases h:x.1=c/3∧x.2.1=c%3
  ·rw[if_pos h]
   rcases look_mem (c:=c) (l:=r) (acc:=x.2.2)with h1|⟨y,h1,h2,h3⟩
   ·exact .inr ⟨x,by simp,h,h1⟩
   ·exact .inr ⟨y,by simp[h1],h2,h3⟩
  ·rw[if_neg h]
   rcases look_mem (c:=c) (l:=r) (acc:=acc)with h1|⟨y,h1,h2,h3⟩
   ·exact .inl h1
   ·exact .inr ⟨y,by simp[h1],h2,h3⟩
theorem pw_inj {l:List Cr}(h:l.Pairwise fun x y=>cdC x<cdC y){x y:Cr}(hx:x∈l)(hy:y∈l)(e:cdC x=cdC y):x=y:=by
 induction l with
 |nil=>simp at hx
 |cons z r ih=>
  obtain⟨h1,h2⟩:=List.pairwise_cons.1 h
  rcases List.mem_cons.1 hx with rfl|hx
  ·rcases List.mem_cons.1 hy with rfl|hy
   ·rfl
   ·have:=h1 y hy;omega
  ·rcases List.mem_cons.1 hy with hyz|hy
   ·rw[hyz]at e;have:=h1 x hx;omega
   ·exact ih h2 hx hy
/-- A pattern that is found valid. -/
theorem vP_of {w h:Int}{l:List Cr}(hs:s5 w h)(hg:edg l)(hc:chkI w h l=0):vP w h l:=by
 obtain⟨h1,h2,h3,h4,h5⟩:=chk_ok hg hc
 have hpw:l.Pairwise fun x y=>cdC x<cdC y:=h1.1
 have hk:∀x∈l,1≤x.2.2∧x.2.2≤3:=fun x hx=>by
  unfold badL at h3
  rw[List.any_eq_false]at h3
  have:=h3 x hx
  rw[← kdB_iff];simpa using this
 have hu:∀x∈l,cdC x∈units w h∧x.1=cdC x/3∧x.2.1=cdC x%3:=fun x hx=>by
  rw[List.all_eq_true]at h4
  have:=h4 x hx
  unfold unitB okN okI at this
  simp only[Bool.and_eq_true,decide_eq_true_eq,leb_iff]at this
  obtain⟨⟨⟨_,hb⟩,he,hn⟩,hle⟩:=this
  have he0:=(hg x hx).1
  have hne:=(inv_ok hs hb ⟨he0,he⟩ hn).2.1
  have d1:cdC x/3=x.1:=by unfold cdC;omega
  have d2:cdC x%3=x.2.1:=by unfold cdC;omega
  refine⟨units_of hs ?_ ?_,d1.symm,d2.symm⟩
  ·rw[d1];exact hb
  ·rw[d1,d2];omega
 refine⟨kindsL (units w h) l,⟨kindsL_len _ _,fun k hk2=>?_⟩,?_⟩
 ·unfold kindsL at hk2
  obtain⟨c,_,rfl⟩:=List.mem_map.1 hk2
  rcases look_mem (c:=c) (l:=l) (acc:=0)with e|⟨x,hx,_,e⟩
  ·rw[e];omega
  ·rw[e];have:=hk x hx;omega
 ·have hf:∀x∈l,lookK (cdC x) 0 l=x.2.2:=fun x hx=>by
   obtain⟨u1,u2,u3⟩:=hu x hx
   have hne:=look_ne (l:=l) (acc:=0) hx ⟨u2,u3⟩ (fun y hy=>by have:=hk y hy;omega)
   rcases look_mem (c:=cdC x) (l:=l) (acc:=0)with e|⟨y,hy,hm,e⟩
   ·exact absurd e hne
   ·have:cdC y=cdC x:=by unfold cdC at *; omega
    rw[e,pw_inj hpw hy hx this]
  unfold kindsL
  refine ext_lt (r:=fun x y=>cdC x<cdC y) (fun a b h1 h2=>by omega) hpw (wthL_pw (units_asc w h)) (fun x=>?_)
  rw[wthL_map]
  unfold patF
  rw[List.mem_map]
  constructor
  ·intro hx
   obtain⟨u1,u2,u3⟩:=hu x hx
   refine⟨cdC x,List.mem_filter.2 ⟨u1,?_⟩,?_⟩
   ·show(lookK (cdC x) 0 l !=0)=true
    rw[hf x hx];have:=hk x hx;rw[bne_iff_ne];omega
   ·show(cdC x/3,cdC x%3,lookK (cdC x) 0 l)=x
    rw[hf x hx,← u2,← u3]
  ·rintro⟨c,hc,rfl⟩
   obtain⟨hc,h0⟩:=List.mem_filter.1 hc
   rw[bne_iff_ne]at h0
   rcases look_mem (c:=c) (l:=l) (acc:=0)with e|⟨y,hy,hm,e⟩
   ·exact absurd e h0
   ·show(c/3,c%3,lookK c 0 l)∈l
    rw[e,← hm.1,← hm.2];exact hy
/-! ### No crease, all creases -/
theorem wthL_zero (us:List Int):wthL us (List.replicate us.length 0)=[]:=by
 induction us with
 |nil=>rfl
 |cons c r ih=>rw[List.length_cons,List.replicate_succ];simp only[wthL,if_pos];exact ih
theorem rk_range:∀{n m:Nat},m≤n→rk (List.range n) m=m
 |n,0,_=>rfl
 |n,m+1,h=>by
  have ih:=rk_range (n:=n) (m:=m) (by omega)
  simp only[rk]
  rw[ih,if_pos (by simp[List.getD,show m<n by omega])]
theorem fac_every {w h:Int}{l:List Cr}(hs:s5 w h)(hc:∀c∈units w h,crB l c=true):maxL (facL w h l)+1=4*w*h:=by
 have hn2:4*w*h=(nC w h:Nat):=by
  have:=s5_len hs
  unfold nC;omega
 have h0:opnU w h l=[]:=by
  unfold opnU
  rw[List.filter_eq_nil_iff]
  intro c hcu
  rw[hc c hcu];simp
 have hr:repP w h l=List.range (nC w h):=by
  unfold repP prs
  rw[h0];rfl
 obtain⟨n100,n4⟩:=nC_le hs
 obtain⟨m0,m1,m2⟩:=fac_max l hs
 have hi:nC w h-1<nC w h:=by omega
 have hg:=gI_facL (l:=l) hs hi
 have hrr:rP w h l (nC w h-1)=nC w h-1:=by
  unfold rP;rw[hr];simp[List.getD,hi]
 rw[hrr]at hg
 unfold kP at hg
 rw[hr,rk_range (by omega)]at hg
 have:=m2 _ (show gI (facL w h l) (nC w h-1)∈facL w h l by rw[gI_at (by rw[facL_len hs];exact hi)];exact List.getElem_mem _)
 omega
/-- Kinds that are set one by one. -/
def onesK (us:List Int)(n:Nat):List Int:=(List.range us.length).map fun j=>if j<n then 1 else 0
theorem onesK_len (us:List Int)(n:Nat):(onesK us n).length=us.length:=by simp[onesK]
theorem onesK_zero (us:List Int):List.replicate us.length (0:Int)=onesK us 0:=by
 refine List.ext_getElem (by simp[onesK]) (fun j h1 h2=>?_)
 simp[onesK]
theorem onesK_get {us:List Int}{n j:Nat}(h:j<us.length):(onesK us n)[j]'(by rw[onesK_len];exact h)=if j<n then 1 else 0:=by
 unfold onesK
 rw[List.getElem_map,List.getElem_range]
theorem onesK_step {us:List Int}{n:Nat}(h:n<us.length):(onesK us n).set n 1=onesK us (n+1):=by
 refine List.ext_getElem (by simp[onesK]) (fun j h1 h2=>?_)
 have hj:j<us.length:=by rw[onesK_len]at h2;exact h2
 rw[List.getElem_set,onesK_get (n:=n+1) hj]
 by_cases e:n=j
 ·subst e;rw[if_pos rfl,if_pos (by omega)]
 ·rw[if_neg e,onesK_get hj]
  by_cases h3:j<n
  ·rw[if_pos h3,if_pos (by omega)]
  ·rw[if_neg h3,if_neg (by omega)]
theorem onesK_kds (w h:Int)(n:Nat):kds w h (onesK (units w h) n):=by
 refine⟨onesK_len ..,fun x hx=>?_⟩
 unfold onesK at hx
 obtain⟨j,_,rfl⟩:=List.mem_map.1 hx
 split<;>omega
theorem ones_cr {w h:Int}:∀c∈units w h,crB (wthL (units w h) (onesK (units w h) (units w h).length)) c=true:=by
 intro c hc
 obtain⟨j,hj,rfl⟩:=List.getElem_of_mem hc
 rw[wthL_cr (units_asc w h) (onesK_len ..) hj,onesK_get hj,if_pos hj];rfl
end Go.Proofs.YtfpcbimohikhmaaDoor.X

/-
 The law on errors: contracts, the loop.
-/
set_option maxRecDepth 1000000
set_option linter.unusedVariables false
namespace Go.Proofs.YtfpcbimohikhmaaDoor.X
open Go Go.Ab

def e30c:CtE
 |[.agg [.int .i64 w,.int .i64 h,.imm (.vals a) n _]]=>some ⟨.int .i64 (chkI w h (unC a)),[],some (okA a n∧edg (unC a)∧(okS w h=true→s5 w h))⟩
 |_=>none
def e30z:CtE
 |[.agg [.int .i64 w,.int .i64 h,.imm (.vals a) n _]]=>some ⟨.int .i64 0,[],some (s5 w h∧okV w h a n)⟩
 |_=>none
/-- Early ends. -/
def erP (w h:Int)(l:List Cr):Prop:=l.length≤20∧(okS w h=true→w≤5∧h≤5)
def T13x:Tab:=tabL [(29,e29),(30,e30c),(49,e49x),(43,e43x),(46,e46x),(47,e47x),(37,e37x),(38,e38x),(44,e44x),(40,e40)] noCh
def patW (w h:Int)(l:List Cr):AV:=.agg [.int .i64 w,.int .i64 h,.imm (.vals (flatC l)) l.length none]
/-- A pattern of kinds that are still being written. -/
def ch23 (hp:List (Nat×HO))(cv:AV)(args:List AV):Option Cx:=
 match cv,args,aget hp 1090 with
 |.fn g [] [],[.agg [.int .i64 w,.int .i64 h],.full id n],some (.blk ⟨.ints .u8 ks,_,_,_,_,_,_⟩)=>cond (Nat.beq g 23&&Nat.beq id 1090) (some ⟨patW w h (wthL (units w h) ks),[],some (hp=[(1090,rowK ks ks.length)]∧n=ks.length∧s5 w h)⟩) none
 |_,_,_=>none
noncomputable def T13v:Tab:=tabL [(29,e29),(30,e30z),(49,e49v),(43,e43v),(46,e46v),(47,e47v),(37,e37v),(38,e38v),(44,e44v),(20,e20),(40,e40)] ch23
def l13 (us:List Int):LpS LI1 where
 ov b:=[(22,.int .i64 b.i)]
 bk b:=[(1090,rowK b.m us.length)]
 rd S:=match aget S.t 22,aget S.h 1090 with
  |some (.int _ i),some (.blk ⟨.ints _ o,_,_,_,_,_,_⟩)=>some ⟨i,o⟩
  |_,_=>none
 pre b:=∃n:Nat,b.i=n∧n≤us.length∧b.m=onesK us n
 mu b:=us.length-b.i.toNat
end Go.Proofs.YtfpcbimohikhmaaDoor.X
