/-
 Cones, plain: turned, mirrored, turned over, a fan has as many ways.
-/
import Derived.Test.YthiammkiobbclaaGreatDoorP8Z
import Derived.Test.YthiammkiobbclaaGreatDoorD4Z
set_option maxRecDepth 1000000
set_option linter.unusedVariables false
namespace Go.Proofs.YthiammkiobbclaaGreatDoor.X
open Go Go.Ab

theorem chkL_ofT:∀(a k:List Int) (s:Int),a.length=k.length→(∀x∈a,1≤x)→s+a.sum≤8→(∀x∈k,1≤x∧x≤3)→chkL a k s=0
 |[],k,s,_,_,_,_=>by cases k<;>rfl
 |x::a,[],s,h,_,_,_=>by simp at h
 |x::a,y::k,s,h1,h2,h3,h4=>by
  have hx:=h2 x (List.mem_cons_self ..)
  have hy:=h4 y (List.mem_cons_self ..)
  have hr:0≤a.sum:=sum_nonneg fun z hz=>by have:=h2 z (List.mem_cons_of_mem _ hz);omega
  rw[List.sum_cons]at h3
  simp only[chkL]
  rw[if_neg (by omega)]
  exact chkL_ofT a k _ (by simpa using h1) (fun z hz=>h2 z (List.mem_cons_of_mem _ hz)) (by omega) fun z hz=>h4 z (List.mem_cons_of_mem _ hz)
theorem chk_ofT {a k:List Int}(h1:a.length=k.length)(h2:okA a)(h3:∀x∈k,1≤x∧x≤3):chk a k=0:=by
 unfold chk
 rw[if_pos h1]
 exact chkL_ofT a k 0 h1 h2.1 (by have:=h2.2;omega) h3
theorem sum_perm {a b:List Int}(h:a.Perm b):a.sum=b.sum:=by
 induction h with
 |nil=>rfl
 |cons x _ ih=>simp[ih]
 |swap x y l=>simp;omega
 |trans _ _ h1 h2=>rw[h1,h2]
theorem okA_perm {a b:List Int}(h:a.Perm b)(ha:okA a):okA b:=⟨fun x hx=>ha.1 x (h.mem_iff.2 hx),by rw[← sum_perm h];exact ha.2⟩
theorem rot_perm (l:List Int)(n:Nat):(rotL' l n).Perm l:=by
 unfold rotL'
 refine List.perm_append_comm.trans ?_
 rw[List.take_append_drop]
theorem mir_perm (l:List Int):(mirK' l).Perm l:=(rot_perm _ _).trans (List.reverse_perm l)
theorem chk_perm {a k b m:List Int}(h:chk a k=0)(ha:b.Perm a)(hk:m.Perm k):chk b m=0:=by
 obtain⟨h1,h2,h3⟩:=chk_ok h
 exact chk_ofT (by rw[ha.length_eq,hk.length_eq,h1]) (okA_perm ha.symm h2) fun x hx=>h3 x (hk.mem_iff.1 hx)
/-! ### Alternating -/
def chkR (a k:List Int):Bool:=altB (rotL' a 1)==altB a&&altB a.reverse==altB a
theorem allR:allC chkR 9 [] [] 8=true:=by decide +kernel
theorem altB_turn {a:List Int}(h:okA a):altB (rotL' a 1)=altB a∧altB a.reverse=altB a:=by
 have hl:=okA_len h
 have:=allC_ok a _ 9 8 [] [] (by omega) allR (okA_F h)
 simp only[List.nil_append,chkR,Bool.and_eq_true,beq_iff_eq]at this
 exact this
/-! ### Kinds that fit -/
def fitZ (k h:List Int):Bool:=(k.zip h).all fun p=>p.1==3||p.1==p.2
theorem fitZ_cons (x y:Int)(k h:List Int):fitZ (x::k) (y::h)=((x==3||x==y)&&fitZ k h):=rfl
theorem fit_get {k h:List Int}:fitB k h=true↔∀i:Nat,i<k.length→gR k i=3∨gR k i=gR h i:=by
 unfold fitB
 rw[beq_iff_eq,anyN_noI]
 refine forall_congr' fun i=>imp_congr_right fun _=>?_
 rw[Bool.and_eq_false_iff]
 simp only[bne_eq_false_iff_eq]
theorem fit_z:∀(k h:List Int),h.length=k.length→fitB k h=fitZ k h
 |[],[],_=>rfl
 |x::k,y::h,hl=>by
  have ih:=fit_z k h (by simpa using hl)
  rw[fitZ_cons,← ih,Bool.eq_iff_iff,Bool.and_eq_true,Bool.or_eq_true,beq_iff_eq,beq_iff_eq,fit_get,fit_get]
  constructor
  ·intro hf
   refine⟨by simpa[gR]using hf 0 (by simp),fun i hi=>?_⟩
   have:=hf (i+1) (by simpa using hi)
   unfold gR at this ⊢
   rw[show((i+1:Nat):Int).toNat=i+1 by omega]at this
   simpa using this
  ·rintro⟨h0,hf⟩ i hi
   cases i with
   |zero=>simpa[gR]using h0
   |succ i=>
    have:=hf i (by simpa using hi)
    unfold gR at this ⊢
    rw[show((i+1:Nat):Int).toNat=i+1 by omega]
    simpa using this
 |[],y::h,hl=>by simp at hl
 |x::k,[],hl=>by simp at hl
theorem fitZ_app {k1 k2 h1 h2:List Int}(h:k1.length=h1.length):fitZ (k1++k2) (h1++h2)=(fitZ k1 h1&&fitZ k2 h2):=by
 unfold fitZ
 rw[List.zip_append h,List.all_append]
theorem fitZ_rot {k h:List Int}(n:Nat)(hl:h.length=k.length):fitZ (rotL' k n) (rotL' h n)=fitZ k h:=by
 unfold rotL'
 rw[fitZ_app (by rw[List.length_drop,List.length_drop,hl]),Bool.and_comm,← fitZ_app (by rw[List.length_take,List.length_take,hl]),List.take_append_drop,List.take_append_drop]
theorem fitZ_rev:∀{k h:List Int},h.length=k.length→fitZ k.reverse h.reverse=fitZ k h
 |[],[],_=>rfl
 |x::k,y::h,hl=>by
  have hl':h.length=k.length:=by simpa using hl
  rw[List.reverse_cons,List.reverse_cons,fitZ_app (by rw[List.length_reverse,List.length_reverse,hl']),fitZ_rev hl',fitZ_cons,Bool.and_comm]
  congr 1
  unfold fitZ
  simp
 |[],y::h,hl=>by simp at hl
 |x::k,[],hl=>by simp at hl
theorem fitZ_mir {k h:List Int}(hl:h.length=k.length):fitZ (mirK' k) (mirK' h)=fitZ k h:=by
 unfold mirK'
 rw[hl,fitZ_rot _ (by rw[List.length_reverse,List.length_reverse,hl]),fitZ_rev hl]
theorem fitZ_ov:∀{k h:List Int},(∀x∈k,1≤x∧x≤3)→(∀x∈h,x=1∨x=2)→fitZ (ovK' k) (ovK' h)=fitZ k h
 |[],h,_,_=>rfl
 |x::k,[],_,_=>rfl
 |x::k,y::h,h1,h2=>by
  have hx:=h1 x (List.mem_cons_self ..)
  have hy:=h2 y (List.mem_cons_self ..)
  have ih:=fitZ_ov (k:=k) (h:=h) (fun z hz=>h1 z (List.mem_cons_of_mem _ hz)) fun z hz=>h2 z (List.mem_cons_of_mem _ hz)
  unfold ovK' at ih ⊢
  rw[List.map_cons,List.map_cons,fitZ_cons,fitZ_cons,ih]
  congr 1
  have hx3:x=1∨x=2∨x=3:=by omega
  rcases hx3 with rfl|rfl|rfl<;>rcases hy with rfl|rfl<;>rfl
/-! ### The tables -/
def tblR (p:List Int×List (List Int)):Bool:=(ksOf (rotL' p.1 1)).isPerm (p.2.map fun h=>rotL' h 1)&&((ksOf p.1.reverse).isPerm (p.2.map mirK')&&(ksOf p.1.reverse).isPerm (p.2.map fun h=>ovK' (mirK' h)))
theorem allT:ksT.all tblR=true:=by decide +kernel
theorem len_one {a:List Int}(h:a.length≤6):a≠ones:=fun e=>by rw[e]at h;revert h;decide
theorem tbl_ok {a k:List Int}(h:altS a k=true)(hl:a.length≤6):
  (ksOf (rotL' a 1)).Perm ((ksOf a).map fun h=>rotL' h 1)∧(ksOf a.reverse).Perm ((ksOf a).map mirK')∧(ksOf a.reverse).Perm ((ksOf a).map fun h=>ovK' (mirK' h)):=by
 obtain⟨p,hp,rfl,e⟩:=inT_of ((alt_in h).resolve_left (len_one hl)).2 (len_one hl)
 have:=List.all_eq_true.1 allT p hp
 unfold tblR at this
 simp only[Bool.and_eq_true,List.isPerm_iff]at this
 rw[e]
 exact this
theorem cnt_of {a k b m:List Int}{f:List Int→List Int}(h:altS a k=true)(hb:altS b m=true)(hl:a.length≤6)(hbl:b.length≤6)(hp:(ksOf b).Perm ((ksOf a).map f))(hf:∀x∈ksOf a,fitB m (f x)=fitB k x):(cwL b m).length=(cwL a k).length:=by
 rw[cw_len h (len_one hl),cw_len hb (len_one hbl),(hp.filter _).length_eq,List.filter_map,List.length_map]
 congr 1
 exact List.filter_congr fun x hx=>hf x hx
theorem altS_b {a k:List Int}(hc:chk a k=0):altS a k=altB a:=by
 unfold altS;rw[hc];rfl
theorem cnt_no {a k:List Int}(h:altS a k=false):(cwL a k).length=0:=by rw[cw_no h];rfl
theorem cnt_rot1 {a k:List Int}(hc:chk a k=0)(hl:a.length≤6):(cwL (rotL' a 1) (rotL' k 1)).length=(cwL a k).length:=by
 have hc2:=chk_perm hc (rot_perm a 1) (rot_perm k 1)
 obtain⟨h1,h2,h3⟩:=chk_ok hc
 have hb:=(altB_turn h2).1
 have e:altS (rotL' a 1) (rotL' k 1)=altS a k:=by rw[altS_b hc,altS_b hc2,hb]
 cases hs:altS a k with
 |false=>rw[cnt_no hs,cnt_no (e.trans hs)]
 |true=>
  have hbl:(rotL' a 1).length≤6:=by rw[(rot_perm a 1).length_eq];exact hl
  refine cnt_of hs (e.trans hs) hl hbl (tbl_ok hs hl).1 fun x hx=>?_
  have hx2:=(ks_two hs x hx).2.1
  rw[fit_z _ _ (by rw[(rot_perm x 1).length_eq,(rot_perm k 1).length_eq];omega),fit_z _ _ (by omega),fitZ_rot _ (by omega)]
theorem cnt_rot {a k:List Int}(hc:chk a k=0)(hl:a.length≤6):∀n,n≤a.length→chk (rotL' a n) (rotL' k n)=0∧(cwL (rotL' a n) (rotL' k n)).length=(cwL a k).length
 |0,_=>by simpa[rotL']using hc
 |n+1,hn=>by
  obtain⟨h1,h2⟩:=cnt_rot hc hl n (by omega)
  have hk:=(chk_ok hc).1
  rw[rotL_succ (l:=a) (by omega),rotL_succ (l:=k) (by omega),← h2]
  exact⟨chk_perm h1 (rot_perm _ _) (rot_perm _ _),cnt_rot1 h1 (by rw[(rot_perm a n).length_eq];exact hl)⟩
theorem cnt_mir {a k:List Int}(hc:chk a k=0)(hl:a.length≤6):chk a.reverse (mirK' k)=0∧(cwL a.reverse (mirK' k)).length=(cwL a k).length:=by
 have hc2:=chk_perm hc (List.reverse_perm a) (mir_perm k)
 obtain⟨h1,h2,h3⟩:=chk_ok hc
 have e:altS a.reverse (mirK' k)=altS a k:=by rw[altS_b hc,altS_b hc2,(altB_turn h2).2]
 refine⟨hc2,?_⟩
 cases hs:altS a k with
 |false=>rw[cnt_no hs,cnt_no (e.trans hs)]
 |true=>
  refine cnt_of hs (e.trans hs) hl (by rw[List.length_reverse];exact hl) (tbl_ok hs hl).2.1 fun x hx=>?_
  have hx2:=(ks_two hs x hx).2.1
  rw[fit_z _ _ (by rw[(mir_perm x).length_eq,(mir_perm k).length_eq];omega),fit_z _ _ (by omega),fitZ_mir (by omega)]
theorem ov_len (k:List Int):(ovK' k).length=k.length:=by unfold ovK';rw[List.length_map]
theorem cnt_ov {a k:List Int}(hc:chk a k=0)(hl:a.length≤6):chk a.reverse (ovK' (mirK' k))=0∧(cwL a.reverse (ovK' (mirK' k))).length=(cwL a k).length:=by
 obtain⟨h1,h2,h3⟩:=chk_ok hc
 have hm3:∀x∈mirK' k,1≤x∧x≤3:=fun x hx=>h3 x ((mir_perm k).mem_iff.1 hx)
 have hc2:chk a.reverse (ovK' (mirK' k))=0:=by
  refine chk_ofT (by rw[List.length_reverse,ov_len,(mir_perm k).length_eq,h1]) (okA_perm (List.reverse_perm a).symm h2) fun x hx=>?_
  unfold ovK' at hx
  obtain⟨y,hy,rfl⟩:=List.mem_map.1 hx
  have:=hm3 y hy
  split<;>omega
 have e:altS a.reverse (ovK' (mirK' k))=altS a k:=by rw[altS_b hc,altS_b hc2,(altB_turn h2).2]
 refine⟨hc2,?_⟩
 cases hs:altS a k with
 |false=>rw[cnt_no hs,cnt_no (e.trans hs)]
 |true=>
  refine cnt_of hs (e.trans hs) hl (by rw[List.length_reverse];exact hl) (tbl_ok hs hl).2.2 fun x hx=>?_
  obtain⟨_,hx2,hx3⟩:=ks_two hs x hx
  rw[fit_z _ _ (by rw[ov_len,ov_len,(mir_perm x).length_eq,(mir_perm k).length_eq];omega),fit_z _ _ (by omega),fitZ_ov hm3 fun y hy=>hx3 y ((mir_perm x).mem_iff.1 hy),fitZ_mir (by omega)]
end Go.Proofs.YthiammkiobbclaaGreatDoor.X
