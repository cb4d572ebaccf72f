/-
 Cones: what the laws of turning and of folding compute.
-/
import Derived.Test.YthiammkiobbclaaGreatDoorC14Z
set_option maxRecDepth 1000000
set_option linter.unusedVariables false
namespace Go.Proofs.YthiammkiobbclaaGreatDoor.X
open Go Go.Ab
def D1M:CtE
 |[.agg [.imm (.ints .i64 a) n _,.imm (.ints .u8 k) m _],.int .i64 i]=>some ⟨.tup [.agg [.fullc 1 0 0,.fullc 0 0 0],.int .i64 0],[⟨.ints .u8 [],1,0,none,some true,true,false⟩,⟨.ints .i64 [],1,0,none,some true,true,false⟩],some (n=0/\m=0/\a=[]/\k=[]/\i=0)⟩
 |_=>none
def t5:List (Nat×CtE):=[(10,e25),(16,C1X),(23,e20),(24,e21),(11,e11)]
def T5:Tab:=A2t ((22,C9J)::t5) A3E
def T5z:Tab:=A2t ((22,D1M)::t5) A3E
open List IntKind
theorem C6N (c l:Int)(ks:List Int)(y:Int):fnP (T5) G 10000 fe5 (.r [] 0 (.r [] 5 (.r [] 1 (.cnd (.r [] 1 .nil) (.r [] 1797 (.r [] 49 (.r [] 49 (.r [] 97 (.r [] 97 (.r [yL 647,yL 651,yL 655,yL 659,yL 664,yL 669,yL 674] 15578843 .nil)))))))))) ([fV c l ks,.int .u8 y]) ([.bool true]) ([])=(
 (fun(A K:List Int)=>(fun(zz1:Int)=>(fun(zz0:Nat)=>(length ks=length ks/\okK ks)/\length A=length A/\(ltb 6 (↑(length A):Int)=true->true=true/\True)/\(ltb 6
 (↑(length A):Int)=false->inR i64 y=true/\length A=length A/\(!zz1==0)=true/\length A=length A/\length K=length K/\(length A=length A/\length K=length K/\length A
 <100000000000/\chk A K=0/\0<=Int.tmod y zz1/\Int.tmod y zz1<(↑(length A):Int))/\length A=length A/\length K=length K/\(length A=length A/\length K=length K/\length A
 <1000000)/\length (A0r A zz0)=length (A0r A zz0)/\length (A0r K zz0)=length (A0r K zz0)/\(length (A0r A zz0)=length (A0r A zz0)/\length (A0r K zz0)=length (A0r K
 zz0)/\length (A0r A zz0)<1000000)/\length A=length A/\length K=length K/\(length A=length A/\length K=length K/\length A<100000000000/\length K<100000000000)/\(length
 (reverse A)=length (reverse A)/\length (A0j K)=length (A0j K)/\length (reverse A)<1000000)/\length A=length A/\length K=length K/\(length A=length A/\length K=length
 K/\length A<100000000000/\length K<100000000000)/\(length (reverse A)=length (reverse A)/\length (A29 (A0j K))=length (A29 (A0j K))/\length (reverse A)<1000000)/\(A39
 A K==0)=true/\(A39 (A0r A zz0) (A0r K zz0)==0)=true/\(A39 (reverse A) (A0j K)==0)=true/\(A39 (reverse A) (A29 (A0j K))==0)=true/\((↑(length (cwL A K)):Int)
 ==(↑(length (cwL (A0r A zz0) (A0r K zz0))):Int))=true/\((↑(length (cwL A K)):Int)==(↑(length (cwL (reverse A) (A0j K))):Int))=true/\((↑(length (cwL A K)):Int)==
 (↑(length (cwL (reverse A) (A29 (A0j K)))):Int))=true/\true=true/\True)) (Int.toNat (Int.tmod y zz1))) (if 1>(↑(length A):Int)then 1 else(↑(length A):Int))) (ofA c l ks)
 (ofK c ks)):=by kernel_rfl
theorem C6O (c l:Int)(ks:List Int)(y:Int):fnP (T5z) G 10000 fe5 (.r [] 0 (.r [] 5 (.r [] 1 (.cnd (.r [] 1 .nil) (.r [] 1797 (.r [] 49 (.r [] 55 (.r [] 97 (.r [] 97 (.r [yL 647,yL 655,yL 659,yL 664,yL 669,yL 674] 7789435 .nil)))))))))) ([fV c l ks,.int .u8 y]) ([.bool true]) ([])=((fun(A K:List Int)=>
 (length ks=length ks/\okK ks)/\length A=length A/\(ltb 6 (↑(length A):Int)=true->true=true/\True)/\(ltb 6 (↑(length A):Int)=false->inR i64 y=true/\length A=length A/\(!(if 1
 >(↑(length A):Int)then 1 else(↑(length A):Int))==0)=true/\length A=length A/\length K=length K/\(length A=0/\length K=0/\ofA c l ks=[]/\ofK c ks=[]/\Int.tmod y (if 1>
 (↑(length A):Int)then 1 else(↑(length A):Int))=0)/\length A=length A/\length K=length K/\(length A=length A/\length K=length K/\length A<1000000)/\(0=0/\0=0/\0<1000000)
 /\length A=length A/\length K=length K/\(length A=length A/\length K=length K/\length A<100000000000/\length K<100000000000)/\(length (reverse A)=length (reverse A)/\length (A0j
 K)=length (A0j K)/\length (reverse A)<1000000)/\length A=length A/\length K=length K/\(length A=length A/\length K=length K/\length A<100000000000/\length K<100000000000)/\
 (length (reverse A)=length (reverse A)/\length (A29 (A0j K))=length (A29 (A0j K))/\length (reverse A)<1000000)/\(A39 A K==0)=true/\(A39 (reverse A) (A0j K)==0)=true/\(A39
 (reverse A) (A29 (A0j K))==0)=true/\((↑(length (cwL A K)):Int)==1)=true/\((↑(length (cwL A K)):Int)==(↑(length (cwL (reverse A) (A0j K))):Int))=true/\((↑(length (cwL A K)):
 Int)==(↑(length (cwL (reverse A) (A29 (A0j K)))):Int))=true/\true=true/\True)) (ofA c l ks) (ofK c ks)):=by kernel_rfl
theorem B4n:∀(a k:List Int) (s:Int),a.length=k.length->(∀x∈a,1<=x)->s+a.sum<=8->(∀x∈k,1<=x/\x<=3)->A4s a k s=0
 |[],k,s,_,_,_,_=>by cases k<;>rfl
 |x::a,[],s,h,_,_,_=>by simp at h
 |x::a,y::k,s,h1,h2,h3,h4=>by
  have hx:=h2 x (List.mem_cons_self ..);have hy:=h4 y (List.mem_cons_self ..);have hr:0<=a.sum:=A1o fun z hz=>by have:=h2 z (List.mem_cons_of_mem _ hz);omega
  rw[List.sum_cons]at h3;simp only[A4s];rw[if_neg (by omega)];exact B4n a k _ (by simpa using h1) (fun z hz=>h2 z (List.mem_cons_of_mem _ hz)) (by omega) fun z hz=>h4 z (List.mem_cons_of_mem _ hz)
theorem B7Q {a k:List Int}(h1:a.length=k.length)(h2:okA a)(h3:∀x∈k,1<=x/\x<=3):chk a k=0:=by
 unfold chk;rw[if_pos h1];exact B4n a k 0 h1 h2.1 (by have:=h2.2;omega) h3
theorem B9T {a b:List Int}(h:a.Perm b):a.sum=b.sum:=by
 induction h with
 |nil=>rfl
 |cons x _ ih=>simp[ih]
 |swap x y l=>simp;omega
 |trans _ _ h1 h2=>rw[h1,h2]
theorem B4o {a b:List Int}(h:a.Perm b)(ha:okA a):okA b:=⟨fun x hx=>ha.1 x (h.mem_iff.2 hx),by rw[<- B9T h];exact ha.2⟩
theorem A2o (l:List Int)(n:Nat):(A0r l n).Perm l:=by
 unfold A0r;refine List.perm_append_comm.trans ?_;rw[List.take_append_drop]
theorem A20 (l:List Int):(A0j l).Perm l:=(A2o _ _).trans (List.reverse_perm l)
theorem A90 {a k b m:List Int}(h:chk a k=0)(ha:b.Perm a)(hk:m.Perm k):chk b m=0:=by
 obtain⟨h1,h2,h3⟩:=A1V h;exact B7Q (by rw[ha.length_eq,hk.length_eq,h1]) (B4o ha.symm h2) fun x hx=>h3 x (hk.mem_iff.1 hx)
def D5n (a k:List Int):Bool:=A8p (A0r a 1)==A8p a&&A8p a.reverse==A8p a
theorem D7D:B9f D5n 9 [] [] 8=true:=by decide +kernel
theorem A7v {a:List Int}(h:okA a):A8p (A0r a 1)=A8p a/\A8p a.reverse=A8p a:=by
 have hl:=A2k h;have:=A5l a _ 9 8 [] [] (by omega) D7D (C6J h);simp only[List.nil_append,D5n,Bool.and_eq_true,beq_iff_eq]at this;exact this
def A6f (k h:List Int):Bool:=(k.zip h).all fun p=>p.1==3||p.1==p.2
theorem A2M (x y:Int)(k h:List Int):A6f (x::k) (y::h)=((x==3||x==y)&&A6f k h):=rfl
theorem A91 {k h:List Int}:B5l k h=true↔∀i:Nat,i<k.length->gR k i=3\/gR k i=gR h i:=by
 unfold B5l;rw[beq_iff_eq,A2f];refine forall_congr' fun i=>imp_congr_right fun _=>?_;rw[Bool.and_eq_false_iff];simp only[bne_eq_false_iff_eq]
theorem A7w:∀(k h:List Int),h.length=k.length->B5l k h=A6f k h
 |[],[],_=>rfl
 |x::k,y::h,hl=>by
  have ih:=A7w k h (by simpa using hl);rw[A2M,<- ih,Bool.eq_iff_iff,Bool.and_eq_true,Bool.or_eq_true,beq_iff_eq,beq_iff_eq,A91,A91];constructor
  ·intro hf;refine⟨by simpa[gR]using hf 0 (by simp),fun i hi=>?_⟩;have:=hf (i+1) (by simpa using hi);unfold gR at this ⊢;rw[show((i+1:Nat):Int).toNat=i+1 by omega]at this;simpa using this
  ·rintro⟨h0,hf⟩ i hi;cases i with
   |zero=>simpa[gR]using h0
   |succ i=>
    have:=hf i (by simpa using hi);unfold gR at this ⊢;rw[show((i+1:Nat):Int).toNat=i+1 by omega];simpa using this
 |[],y::h,hl=>by simp at hl
 |x::k,[],hl=>by simp at hl
theorem A92 {k1 k2 h1 h2:List Int}(h:k1.length=h1.length):A6f (k1++k2) (h1++h2)=(A6f k1 h1&&A6f k2 h2):=by
 unfold A6f;rw[List.zip_append h,List.all_append]
theorem B4p {k h:List Int}(n:Nat)(hl:h.length=k.length):A6f (A0r k n) (A0r h n)=A6f k h:=by
 unfold A0r;rw[A92 (by rw[List.length_drop,List.length_drop,hl]),Bool.and_comm,<- A92 (by rw[List.length_take,List.length_take,hl]),List.take_append_drop,List.take_append_drop]
theorem B4q:∀{k h:List Int},h.length=k.length->A6f k.reverse h.reverse=A6f k h
 |[],[],_=>rfl
 |x::k,y::h,hl=>by
  have hl':h.length=k.length:=by simpa using hl
  rw[List.reverse_cons,List.reverse_cons,A92 (by rw[List.length_reverse,List.length_reverse,hl']),B4q hl',A2M,Bool.and_comm]
  congr 1
  unfold A6f;simp
 |[],y::h,hl=>by simp at hl
 |x::k,[],hl=>by simp at hl
theorem B4r {k h:List Int}(hl:h.length=k.length):A6f (A0j k) (A0j h)=A6f k h:=by
 unfold A0j;rw[hl,B4p _ (by rw[List.length_reverse,List.length_reverse,hl]),B4q hl]
theorem B7R:∀{k h:List Int},(∀x∈k,1<=x/\x<=3)->(∀x∈h,x=1\/x=2)->A6f (A29 k) (A29 h)=A6f k h
 |[],h,_,_=>rfl
 |x::k,[],_,_=>rfl
 |x::k,y::h,h1,h2=>by
  have hx:=h1 x (List.mem_cons_self ..);have hy:=h2 y (List.mem_cons_self ..);have ih:=B7R (k:=k) (h:=h) (fun z hz=>h1 z (List.mem_cons_of_mem _ hz)) fun z hz=>h2 z (List.mem_cons_of_mem _ hz);unfold A29 at ih ⊢;rw[List.map_cons,List.map_cons,A2M,A2M,ih]
  congr 1
  have hx3:x=1\/x=2\/x=3:=by omega
  rcases hx3 with rfl|rfl|rfl<;>rcases hy with rfl|rfl<;>rfl
def D5o (p:List Int×List (List Int)):Bool:=(A5S (A0r p.1 1)).isPerm (p.2.map fun h=>A0r h 1)&&((A5S p.1.reverse).isPerm (p.2.map A0j)&&(A5S p.1.reverse).isPerm (p.2.map fun h=>A29 (A0j h)))
theorem D7E:ksT.all D5o=true:=by decide +kernel
theorem A93 {a:List Int}(h:a.length<=6):a≠ones:=fun e=>by rw[e]at h;revert h;decide
theorem B7S {a k:List Int}(h:A0l a k=true)(hl:a.length<=6):
  (A5S (A0r a 1)).Perm ((A5S a).map fun h=>A0r h 1)/\(A5S a.reverse).Perm ((A5S a).map A0j)/\(A5S a.reverse).Perm ((A5S a).map fun h=>A29 (A0j h)):=by
 obtain⟨p,hp,rfl,e⟩:=B4m ((B4l h).resolve_left (A93 hl)).2 (A93 hl);have:=List.all_eq_true.1 D7E p hp;unfold D5o at this;simp only[Bool.and_eq_true,List.isPerm_iff]at this;rw[e];exact this
theorem B7T {a k b m:List Int}{f:List Int->List Int}(h:A0l a k=true)(hb:A0l b m=true)(hl:a.length<=6)(hbl:b.length<=6)(hp:(A5S b).Perm ((A5S a).map f))(hf:∀x∈A5S a,B5l m (f x)=B5l k x):(cwL b m).length=(cwL a k).length:=by
 rw[B1K h (A93 hl),B1K hb (A93 hbl),(hp.filter _).length_eq,List.filter_map,List.length_map]
 congr 1
 exact List.filter_congr fun x hx=>hf x hx
theorem A7x {a k:List Int}(hc:chk a k=0):A0l a k=A8p a:=by
 unfold A0l;rw[hc];rfl
theorem A8z {a k:List Int}(h:A0l a k=false):(cwL a k).length=0:=by rw[C3D h];rfl
theorem B9U {a k:List Int}(hc:chk a k=0)(hl:a.length<=6):(cwL (A0r a 1) (A0r k 1)).length=(cwL a k).length:=by
 have hc2:=A90 hc (A2o a 1) (A2o k 1);obtain⟨h1,h2,h3⟩:=A1V hc;have hb:=(A7v h2).1;have e:A0l (A0r a 1) (A0r k 1)=A0l a k:=by rw[A7x hc,A7x hc2,hb]
 cases hs:A0l a k with
 |false=>rw[A8z hs,A8z (e.trans hs)]
 |true=>
  have hbl:(A0r a 1).length<=6:=by rw[(A2o a 1).length_eq];exact hl
  refine B7T hs (e.trans hs) hl hbl (B7S hs hl).1 fun x hx=>?_;have hx2:=(A8x hs x hx).2.1;rw[A7w _ _ (by rw[(A2o x 1).length_eq,(A2o k 1).length_eq];omega),A7w _ _ (by omega),B4p _ (by omega)]
theorem B7U {a k:List Int}(hc:chk a k=0)(hl:a.length<=6):∀n,n<=a.length->chk (A0r a n) (A0r k n)=0/\(cwL (A0r a n) (A0r k n)).length=(cwL a k).length
 |0,_=>by simpa[A0r]using hc
 |n+1,hn=>by
  obtain⟨h1,h2⟩:=B7U hc hl n (by omega);have hk:=(A1V hc).1;rw[B1i (l:=a) (by omega),B1i (l:=k) (by omega),<- h2];exact⟨A90 h1 (A2o _ _) (A2o _ _),B9U h1 (by rw[(A2o a n).length_eq];exact hl)⟩
theorem C3G {a k:List Int}(hc:chk a k=0)(hl:a.length<=6):chk a.reverse (A0j k)=0/\(cwL a.reverse (A0j k)).length=(cwL a k).length:=by
 have hc2:=A90 hc (List.reverse_perm a) (A20 k);obtain⟨h1,h2,h3⟩:=A1V hc;have e:A0l a.reverse (A0j k)=A0l a k:=by rw[A7x hc,A7x hc2,(A7v h2).2]
 refine⟨hc2,?_⟩;cases hs:A0l a k with
 |false=>rw[A8z hs,A8z (e.trans hs)]
 |true=>
  refine B7T hs (e.trans hs) hl (by rw[List.length_reverse];exact hl) (B7S hs hl).2.1 fun x hx=>?_;have hx2:=(A8x hs x hx).2.1;rw[A7w _ _ (by rw[(A20 x).length_eq,(A20 k).length_eq];omega),A7w _ _ (by omega),B4r (by omega)]
theorem B7V (k:List Int):(A29 k).length=k.length:=by unfold A29;rw[List.length_map]
theorem C6P {a k:List Int}(hc:chk a k=0)(hl:a.length<=6):chk a.reverse (A29 (A0j k))=0/\(cwL a.reverse (A29 (A0j k))).length=(cwL a k).length:=by
 obtain⟨h1,h2,h3⟩:=A1V hc;have hm3:∀x∈A0j k,1<=x/\x<=3:=fun x hx=>h3 x ((A20 k).mem_iff.1 hx);have hc2:chk a.reverse (A29 (A0j k))=0:=by
  refine B7Q (by rw[List.length_reverse,B7V,(A20 k).length_eq,h1]) (B4o (List.reverse_perm a).symm h2) fun x hx=>?_;unfold A29 at hx;obtain⟨y,hy,rfl⟩:=List.mem_map.1 hx;have:=hm3 y hy;split<;>omega
 have e:A0l a.reverse (A29 (A0j k))=A0l a k:=by rw[A7x hc,A7x hc2,(A7v h2).2]
 refine⟨hc2,?_⟩;cases hs:A0l a k with
 |false=>rw[A8z hs,A8z (e.trans hs)]
 |true=>
  refine B7T hs (e.trans hs) hl (by rw[List.length_reverse];exact hl) (B7S hs hl).2.2 fun x hx=>?_;obtain⟨_,hx2,hx3⟩:=A8x hs x hx;rw[A7w _ _ (by rw[B7V,B7V,(A20 x).length_eq,(A20 k).length_eq];omega),A7w _ _ (by omega),B7R hm3 fun y hy=>hx3 y ((A20 x).mem_iff.1 hy),B4r (by omega)]
set_option linter.unusedSimpArgs false
theorem B7W {a k:List Int}(hc:chk a k=0):A39 a k=0:=by
 unfold A39 ofE;rw[if_pos hc];split<;>simp
theorem C6Q:evM G (aget xpl) B5i (fun _ _ _ _=>none) 100000 1000 1 [] (.fn 22 [] []) ([AV.agg [AV.imm (Cont.ints IntKind.i64 []) 0 none,AV.imm (Cont.ints IntKind.u8 []) 0 none],.int .i64 0])=some ⟨AV.tup [AV.agg [AV.fullc 4 0 0,AV.fullc 6 0 0],AV.int IntKind.i64 0],[(6,HO.blk {c:=Cont.ints IntKind.u8 [],sz:=1,n:=0,cap:=none,nil:=some true,mu:=true,bx:=false}),(4,HO.blk {c:=Cont.ints IntKind.i64 [],sz:=1,n:=0,cap:=none,nil:=some true,mu:=true,bx:=false})],[6,4],[]⟩:=by kernel_rfl
theorem C6R:SpecP Tryz.prog G 22 ([AV.agg [AV.imm (Cont.ints IntKind.i64 []) 0 none,AV.imm (Cont.ints IntKind.u8 []) 0 none],.int .i64 0]) (AV.tup [AV.agg [AV.fullc 1 0 0,AV.fullc 0 0 0],AV.int IntKind.i64 0]) ([⟨Cont.ints IntKind.u8 [],1,0,none,some true,true,false⟩,⟨Cont.ints IntKind.i64 [],1,0,none,some true,true,false⟩]):=
 A03 hcm hmx B5t A3G B7D C6Q [(0,6),(1,4)] (by repeat (first|exact True.intro|refine And.intro rfl ?_))
theorem D1N:A1j Tryz.prog G 22 D1M:=by
 intro args r h hp;unfold D1M at h;split at h<;>cases h;obtain⟨rfl,rfl,rfl,rfl,rfl⟩:=hp;exact C6R.caps
theorem D5p:A3W Tryz.prog G t5:=⟨C2l,B7B,D0m,D4R,B2M,trivial⟩
theorem D7F:TabOk Tryz.prog G T5:=A0q A0C ⟨D6N,D5p⟩
theorem D1O:TabOk Tryz.prog G T5z:=A0q A0C ⟨D1N,D5p⟩
theorem sp5 (c l:Int)(ks:List Int)(y:Int)(hk:okK ks)(hy:0<=y/\y<=255):SpecP Tryz.prog G 5 [fV c l ks,.int .u8 y] (.bool true) []:=by
 obtain⟨h1,h2,h3,h4⟩:=B2v (c:=c) (l:=l) hk;have hc:=A8s (c:=c) (l:=l) hk
 by_cases hA:(ofA c l ks).length=0
 ·refine A0e hcm hmx D1O ok5 rfl (C6O c l ks y) ?_;generalize ofA c l ks=a at*;generalize ofK c ks=k at*;obtain rfl:a=[]:=List.length_eq_zero_iff.1 hA;obtain rfl:k=[]:=List.length_eq_zero_iff.1 (by simpa using h1.symm);have e1:A0j []=[]:=rfl;have e2:A29 []=[]:=rfl;have e3:(if(1:Int)>((0:Nat):Int)then(1:Int)else((0:Nat):Int))=1:=rfl;have h0:=B7W hc;simp only[List.length_nil,e3,Int.tmod_one,e1,e2,List.reverse_nil,h0,A0h,A0x,A0p,beq_iff_eq,and_true,true_and,beq_self_eq_true];have hcw:(cwL [] []).length=1:=by decide +kernel
  refine⟨hk,fun _=>trivial,fun _=>⟨by omega,rfl,by omega,by omega,by omega,by omega,by omega,by omega,by rw[hcw];rfl⟩⟩
 ·refine A0e hcm hmx D7F ok5 rfl (C6N c l ks y) ?_;generalize ofA c l ks=a at*;generalize ofK c ks=k at*;have e:(if(1:Int)>(a.length:Int)then(1:Int)else(a.length:Int))=a.length:=by split<;>omega
  have i0:0<=y.tmod a.length:=Int.tmod_nonneg _ hy.1;have i1:y.tmod a.length<a.length:=Int.tmod_lt_of_pos _ (by omega);simp only[e];generalize y.tmod a.length=t at*;obtain⟨j,rfl⟩:∃j:Nat,t=j:=⟨t.toNat,by omega⟩;simp only[Int.toNat_natCast,A0h,A0x,A0p,beq_iff_eq,and_true,true_and,Int.natCast_inj,Bool.not_eq_true',beq_eq_false_iff_ne,ne_eq];refine⟨hk,fun _=>trivial,fun h6=>?_⟩;obtain⟨r1,r2⟩:=B7U hc (by omega) j (by omega);obtain⟨m1,m2⟩:=C3G hc (by omega);obtain⟨o1,o2⟩:=C6P hc (by omega);have lr:=(A2o a j).length_eq;exact⟨by omega,by omega,⟨by omega,hc,by omega,by omega⟩,by omega,by omega,⟨by omega,by omega⟩,by rw[List.length_reverse];omega,⟨by omega,by omega⟩,by rw[List.length_reverse];omega,B7W hc,B7W r1,B7W m1,B7W o1,r2.symm,m2.symm,o2.symm⟩
end Go.Proofs.YthiammkiobbclaaGreatDoor.X
