/-
 Plain facts about fans and their sums.
-/
import Derived.Test.YtfafinkgmhkdmaaGreatDoorVDZ
set_option linter.unusedVariables false
set_option linter.unusedSimpArgs false
namespace Go.Proofs.YtfafinkgmhkdmaaGreatDoor.X
open Go Go.Ab

theorem drop_step {l:List Int}{n:Nat}(h:n<l.length):l.drop n=l[n]?.getD 0::l.drop (n+1):=by
 rw[List.drop_eq_getElem_cons h];simp[h]
theorem sum_step {l:List Int}{n:Nat}(h:n<l.length):(l.drop n).sum=l[n]?.getD 0+(l.drop (n+1)).sum:=by
 rw[drop_step h,List.sum_cons]
theorem sum_nonneg:∀{l:List Int},(∀x∈l,1≤x)→0≤l.sum
 |[],_=>by simp
 |a::r,h=>by
  have h1:=h a (by simp)
  have h2:=sum_nonneg (l:=r) fun x hx=>h x (by simp[hx])
  rw[List.sum_cons];omega
theorem getD_mem {l:List Int}{n:Nat}(h:n<l.length):l[n]?.getD 0∈l:=by simp[h]
/-- A valid fan's angles. -/
theorem chkL_ok:∀{a k:List Int} {s:Int},a.length=k.length→chkL a k s=0→s≤8→(∀x∈a,1≤x)∧s+a.sum≤8∧∀x∈k,1≤x∧x≤3
 |[],k,s,hl,h,hs=>by
  have:k=[]:=List.eq_nil_of_length_eq_zero (by simpa using hl.symm)
  subst this;simp;exact hs
 |n::a,[],s,hl,h,hs=>by simp at hl
 |n::a,x::k,s,hl,h,hs=>by
  simp only[chkL]at h
  split at h
  ·cases h
  ·rename_i hc
   obtain⟨h1,h2,h3⟩:=chkL_ok (a:=a) (k:=k) (by simpa using hl) h (by omega)
   refine⟨fun y hy=>?_,by rw[List.sum_cons];omega,fun y hy=>?_⟩
   ·rcases List.mem_cons.1 hy with rfl|hy
    ·omega
    ·exact h1 y hy
   ·rcases List.mem_cons.1 hy with rfl|hy
    ·omega
    ·exact h3 y hy
theorem chk_ok {a k:List Int}(h:chk a k=0):a.length=k.length∧okA a∧∀x∈k,1≤x∧x≤3:=by
 unfold chk at h
 split at h
 ·rename_i hl
  obtain⟨h1,h2,h3⟩:=chkL_ok hl h (by decide)
  exact⟨hl,⟨h1,by omega⟩,h3⟩
 ·cases h
/-! F.Of gives a valid fan. -/
structure FOk (n:Nat)(s:FS):Prop where
 no:s.last<0→s.last= -1∧s.first= -1∧s.a=[]∧s.k=[]
 yes:0≤s.last→0≤s.first∧s.first≤s.last∧s.last<n∧s.a.sum=s.last-s.first∧s.k.length=s.a.length+1
 pos:∀x∈s.a,1≤x
 kd:∀x∈s.k,1≤x∧x≤3
 len:s.k.length≤n
theorem kdOf_ok {ks:List Int}(h:okK ks)(n:Nat):1≤kdOf ks n∧kdOf ks n≤3:=by
 unfold kdOf
 split
 ·rename_i hn
  have h1:=h _ (getD_mem hn)
  simp only[List.getD_eq_getElem?_getD]
  have:=Int.tmod_nonneg 3 h1.1
  have:=Int.tmod_lt_of_pos (ks[n]?.getD 0) (b:=3) (by decide)
  omega
 ·decide
theorem ffold_succ (c:Int)(ks:List Int)(n:Nat):ffold c ks (n+1)=fstep c ks (ffold c ks n) n:=by
 simp[ffold,List.range_succ]
theorem ffold_ok {c:Int}{ks:List Int}(h:okK ks):∀n,FOk n (ffold c ks n)
 |0=>⟨fun _=>⟨rfl,rfl,rfl,rfl⟩,fun h=>by simp[ffold]at h,by simp[ffold],by simp[ffold],by simp[ffold]⟩
 |n+1=>by
  rw[ffold_succ]
  have ih:=ffold_ok (c:=c) h n
  obtain⟨i1,i2,i3,i4,i5⟩:=ih
  generalize ffold c ks n=s at*
  have hk:=kdOf_ok h s.k.length
  unfold fstep
  split
  ·exact⟨i1,fun h=>by have:=i2 h;omega,i3,i4,by omega⟩
  ·split
   ·rename_i hl
    have:=i2 hl
    refine⟨fun h=>?_,fun _=>?_,fun x hx=>?_,fun x hx=>?_,?_⟩
    ·simp at h;omega
    ·simp;omega
    ·simp at hx
     rcases hx with hx|rfl
     ·exact i3 x hx
     ·omega
    ·simp at hx
     rcases hx with hx|rfl
     ·exact i4 x hx
     ·exact hk
    ·simp;omega
   ·rename_i hl
    obtain⟨e1,e2,e3,e4⟩:=i1 (by omega)
    refine⟨fun h=>?_,fun _=>?_,fun x hx=>?_,fun x hx=>?_,?_⟩
    ·simp at h;omega
    ·simp[e3,e4];omega
    ·simp[e3]at hx
    ·simp[e4]at hx;subst hx;rw[e4]at hk;exact hk
    ·simp[e4]
theorem fclose_ok {n:Nat}{s:FS}(h:FOk n s)(hn:n≤8):(∀x∈fclose s,1≤x)∧(fclose s).sum≤8∧(fclose s).length=s.k.length∧(fclose s).length≤8:=by
 obtain⟨i1,i2,i3,i4,i5⟩:=h
 unfold fclose
 by_cases hl:0≤s.last
 ·have:=i2 hl
  rw[if_pos (by omega)]
  refine⟨fun x hx=>?_,by simp;omega,by simp;omega,by simp;omega⟩
  simp at hx
  rcases hx with hx|rfl
  ·exact i3 x hx
  ·omega
 ·obtain⟨e1,e2,e3,e4⟩:=i1 (by omega)
  rw[if_neg (by omega),e3,e4];simp
theorem lessL_len (l:Int):∀(i:Nat) (a:List Int),(lessL l i a).length=a.length
 |i,[]=>rfl
 |i,x::r=>by simp[lessL,lessL_len l (i+1) r]
theorem lessL_get (l:Int):∀(i n:Nat) (a:List Int),n<a.length→(lessL l i a)[n]? =some (if(l.fdiv (2 ^ min (i+n) IntKind.u8.bits)).tmod 2=1∧1<a[n]?.getD 0 then a[n]?.getD 0-1 else a[n]?.getD 0)
 |i,n,[],h=>by simp at h
 |i,0,x::r,h=>by simp[lessL]
 |i,n+1,x::r,h=>by
  have:=lessL_get l (i+1) n r (by simpa using h)
  simp only[lessL,List.getElem?_cons_succ]
  rw[this,show i+1+n=i+(n+1)by omega]
/-- One step of the second loop. -/
theorem less_step {l:Int}{a:List Int}{n:Nat}(h:n<a.length):((lessL l 0 a).take n++a.drop n).set n (if(l.fdiv (2 ^ min n IntKind.u8.bits)).tmod 2=1∧1<a[n]?.getD 0 then a[n]?.getD 0-1 else a[n]?.getD 0)=(lessL l 0 a).take (n+1)++a.drop (n+1):=by
 have hg:=lessL_get l 0 n a h
 simp only[Nat.zero_add]at hg
 have hl:=lessL_len l 0 a
 have hlt:(List.take n (lessL l 0 a)).length=n:=by simp;omega
 rw[List.take_add_one,hg,List.set_append_right _ _ (by omega),hlt,Nat.sub_self,drop_step h]
 simp
theorem less_get {l:Int}{a:List Int}{n:Nat}(h:n<a.length):((lessL l 0 a).take n++a.drop n)[n]?.getD 0=a[n]?.getD 0:=by
 have hl:=lessL_len l 0 a
 rw[List.getElem?_append_right (by simp;omega)]
 simp[hl,Nat.min_eq_left (Nat.le_of_lt h)]
theorem less_same {l:Int}{a:List Int}{n:Nat}(h:n<a.length)(hc:¬ ((l.fdiv (2 ^ min n IntKind.u8.bits)).tmod 2=1∧1<a[n]?.getD 0)):(lessL l 0 a).take n++a.drop n=(lessL l 0 a).take (n+1)++a.drop (n+1):=by
 rw[← less_step h,if_neg hc]
 apply List.ext_getElem?
 intro i
 by_cases hi:n=i
 ·subst hi
  have hl:=lessL_len l 0 a
  have hlt:n<((lessL l 0 a).take n++a.drop n).length:=by simp;omega
  rw[List.getElem?_set_self hlt]
  have:=less_get (l:=l) h
  rw[List.getElem?_eq_getElem hlt]at this ⊢
  simpa using this
 ·rw[List.getElem?_set_ne hi]
end Go.Proofs.YtfafinkgmhkdmaaGreatDoor.X
