/-
 The contracts of the functions on units and kinds.
-/
import Derived.Test.YtfafinkgmhkdmaaGreatDoorPO3Z
set_option maxRecDepth 1000000
set_option linter.unusedVariables false
set_option linter.unusedSimpArgs false
namespace Go.Proofs.YtfafinkgmhkdmaaGreatDoor.P
open Go Go.Ab Go.Proofs.YtfafinkgmhkdmaaGreatDoor.X
theorem B7H (w h:Int)(n:Nat):unL w h (n+1)=unL w h n++(if unB w h (n:Int)=true then[(n:Int)]else[]):=by
 unfold unL;rw[List.range_succ,List.map_append,List.filter_append]
 congr 1
 simp only[List.map_cons,List.map_nil,List.filter_cons,List.filter_nil];rfl
theorem C0o (w h:Int)(n:Nat):(unL w h n).length<=n:=by
 unfold unL;refine Nat.le_trans (List.length_filter_le _ _) ?_;simp
theorem B8Q {w h:Int}(hs:s5 w h):(4*w*h).toNat<=100/\4*w*h<=100/\4<=4*w*h:=by
 obtain⟨h1,h2,h3,h4⟩:=hs;have e4:4*w*h=4*(w*h):=Int.mul_assoc _ _ _;have a:=A6A (a:=w) (b:=h) (c:=5) (d:=5) (by omega) (by omega) (by omega) (by omega);have b:=A6A (a:=1) (b:=1) (c:=w) (d:=h) (by omega) (by omega) (by omega) (by omega);omega
theorem B5M {w h:Int}(hs:s5 w h):(units w h).length<=300:=by
 have:=C0o w h (3*(4*w*h).toNat);have:=(B8Q hs).1;unfold units;omega
theorem B7I {cs:List Cr}{n:Nat}(h:n<cs.length):(List.drop (n*3) (flatC cs))[0]? =some (.int .i64 (cC cs n))/\(List.drop (n*3) (flatC cs))[1]? =some (.int .u8 (cE cs n))/\(List.drop (n*3) (flatC cs))[2]? =some (.int .u8 (cK cs n)):=by
 unfold flatC cC cE cK;simp only[List.getElem?_drop,Int.toNat_natCast];rw[A1M (k:=3) (by decide) RCr.av_len,A1M (k:=3) (by decide) RCr.av_len,A1M (k:=3) (by decide) RCr.av_len];rw[show(n*3+0)/3=n by omega,show(n*3+1)/3=n by omega,show(n*3+2)/3=n by omega,show(n*3+0)%3=0 by omega,show(n*3+1)%3=1 by omega,show(n*3+2)%3=2 by omega,List.getElem?_eq_getElem h];exact⟨rfl,rfl,rfl⟩
theorem C8l {cs:List Cr}{n:Nat}(h:n<cs.length):(List.drop 0 (List.drop (n*3) (flatC cs)))[0]? =some (.int .i64 (cC cs n))/\(List.drop 1 (List.drop (n*3) (flatC cs)))[0]? =some (.int .u8 (cE cs n))/\(List.drop 2 (List.drop (n*3) (flatC cs)))[0]? =some (.int .u8 (cK cs n)):=by
 obtain⟨h1,h2,h3⟩:=B7I h;exact⟨(List.getElem?_drop ..).trans h1,(List.getElem?_drop ..).trans h2,(List.getElem?_drop ..).trans h3⟩
theorem A1S (l:List Cr):(flatC l).length=l.length*3:=RCr.flat_len l
theorem cAt {cs:List Cr}{n:Nat}(h:n<cs.length):cs[n]=(cC cs n,cE cs n,cK cs n):=by
 unfold cC cE cK;rw[Int.toNat_natCast,List.getElem?_eq_getElem h];rfl
theorem A8W {α:Type}{l:List α}{n:Nat}(h:n<l.length):l.drop n=l[n]::l.drop (n+1):=List.drop_eq_getElem_cons h
theorem C0p {α:Type}{l:List α}{n:Nat}(h:n<l.length):l.take (n+1)=l.take n++[l[n]]:=by rw[List.take_add_one,List.getElem?_eq_getElem h];rfl
theorem B2P:∀(us ks:List Int),(wthL us ks).length<=us.length
 |[],_=>by simp[wthL]
 |c::us,[]=>by simp[wthL]
 |c::us,x::ks=>by
  have:=B2P us ks;simp only[wthL];split
  ·simp;omega
  ·simp;omega
theorem B5N {w h:Int}{n:Nat}{x:Int}(hx:x∈unL w h n):0<=x/\x<n/\unB w h x=true:=by
 unfold unL at hx;rw[List.mem_filter,List.mem_map]at hx;obtain⟨⟨k,hk,rfl⟩,hb⟩:=hx;rw[List.mem_range]at hk;refine⟨by simp,?_,hb⟩;show(k:Int)<n;omega
end Go.Proofs.YtfafinkgmhkdmaaGreatDoor.P
