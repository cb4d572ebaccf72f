/-
 Cones: the closed law.
-/
import Derived.Test.YthiammkiobbclaaGreatDoorC19Z
set_option maxRecDepth 1000000
set_option linter.unusedVariables false
set_option linter.unusedSimpArgs false
namespace Go.Proofs.YthiammkiobbclaaGreatDoor.X
open Go Go.Ab
theorem C3T {f:Nat}(h:∀c l ks,okK ks->SpecP Tryz.prog G f [fV c l ks] (.bool true) []):A1j Tryz.prog G f C5a:=by
 intro args r hr hp;unfold C5a at hr;split at hr<;>cases hr;obtain⟨rfl,hk⟩:=hp;exact(h _ _ _ hk).caps
theorem C0Y {f:Nat}(h:∀c l ks ys,okK ks->(∀y∈ys,0<=y/\y<256)->SpecP Tryz.prog G f [fV c l ks,.imm (.ints .u8 ys) ys.length none] (.bool true) []):A1j Tryz.prog G f B9i:=by
 intro args r hr hp;unfold B9i at hr;split at hr<;>cases hr;obtain⟨rfl,hk,rfl,hy⟩:=hp;exact(h _ _ _ _ hk hy).caps
theorem C7d:A1j Tryz.prog G 5 C1V:=by
 intro args r hr hp;unfold C1V at hr;split at hr<;>cases hr;obtain⟨rfl,hk,h0,h1⟩:=hp;exact(sp5 _ _ _ _ hk ⟨h0,h1⟩).caps
theorem D15:A1j Tryz.prog G 32 C9R:=by
 intro args r hr hp;unfold C9R at hr;split at hr
 ·rename_i s;cases h:Nat.beq s.length 23 with
  |true=>
   rw[h,cond_true]at hr;cases hr;obtain rfl:s=tx8:=hp;exact D07
  |false=>
   rw[h,cond_false]at hr;cases hr;obtain rfl:s=tx6:=hp;exact D09
 ·cases hr
theorem D16:A1j Tryz.prog G 16 C9S:=by
 intro args r hr hp;unfold C9S at hr;split at hr
 ·rename_i a n c1 k m c2;cases h:Nat.beq n 8 with
  |true=>
   rw[h,cond_true]at hr;cases hr;obtain⟨rfl,rfl,rfl,rfl⟩:=hp;refine B9E [1,1,1,1,1,1,1,1] [3,3,3,3,3,3,3,3] _ _ _ _ rfl rfl (by decide) (by decide) ?_;have e:(cwL [1,1,1,1,1,1,1,1] [3,3,3,3,3,3,3,3]).length=336:=cw8;have e2:A39 [1,1,1,1,1,1,1,1] [3,3,3,3,3,3,3,3]=0:=cE8;show some (AV.tup [.int .i64 ((cwL _ _).length:Nat),.int .i64 (A39 _ _)])=_;rw[e,e2];rfl
  |false=>
   rw[h,cond_false]at hr;cases hr;obtain⟨rfl,rfl,rfl,rfl⟩:=hp;refine B9E [1,1,1,1,1,1] [3,3,3,3,3,3] _ _ _ _ rfl rfl (by decide) (by decide) ?_;show some (AV.tup [.int .i64 ((cwL _ _).length:Nat),.int .i64 (A39 _ _)])=_;rw[cw6,cE6];rfl
 ·cases hr
theorem D7L:TabOk Tryz.prog G T9:=A0q A0C ⟨D15,D16,C0Y sp6,C3T sp3,C3T D7G,C3T sp4,C0Y sp7,C7d,B2M,trivial⟩
theorem B94 (n:Int):0<=IntKind.u8.wrap n/\IntKind.u8.wrap n<=255:=by
 have:IntKind.u8.wrap n=n%256:=rfl;rw[this];omega
theorem sp9:SpecP Tryz.prog G 9 [] (.bool true) []:=by
 refine A0e hcm hmx D7L ok9 rfl C9T ?_;refine⟨rfl,⟨rfl,rfl,rfl,rfl⟩,rfl,⟨rfl,rfl,rfl,rfl⟩,rfl,rfl,rfl,rfl,rfl,rfl,rfl,rfl,rfl,rfl,⟨0,rfl,by omega,by decide,by decide⟩,?_⟩;rintro⟨k,n⟩ ⟨m,hm,h1,h2,h3⟩;simp only at hm h2 h3 ⊢;subst hm;have w1:=B94 k;have d (c:Int) (hc:0<c):inR .i64 (k.tdiv c)=true:=by
  have e:k.tdiv c=k/c:=Int.tdiv_eq_ediv_of_nonneg h2;rw[A0p,e];have:=Int.ediv_nonneg h2 (by omega:(0:Int)<=c);have:=Int.ediv_le_self c h2;omega
 have hK:okK [IntKind.u8.wrap k,IntKind.u8.wrap (k.tdiv 3),IntKind.u8.wrap (k.tdiv 7),IntKind.u8.wrap (k.tdiv 11),IntKind.u8.wrap m,0,1,IntKind.u8.wrap (k.tdiv 13)]:=by
  intro x hx;simp only[List.mem_cons,List.not_mem_nil,or_false]at hx;rcases hx with rfl|rfl|rfl|rfl|rfl|rfl|rfl|rfl<;>first|exact B94 _|decide
 have hY:okY [IntKind.u8.wrap k,IntKind.u8.wrap (k.tdiv 5),IntKind.u8.wrap m,IntKind.u8.wrap (k.tdiv 17)]:=by
  intro x hx;simp only[List.mem_cons,List.not_mem_nil,or_false]at hx;have w (y:Int):0<=IntKind.u8.wrap y/\IntKind.u8.wrap y<256:=by have:=B94 y;omega
  rcases hx with rfl|rfl|rfl|rfl<;>exact w _
 have dm:(k*31+11).tmod 100003=(k*31+11)%100003:=Int.tmod_eq_emod_of_nonneg (by omega);refine⟨fun hlt=>?_,fun _=>by simp⟩;have hlt:=A0h.1 hlt;refine⟨A0p.2 (by omega),d 2 (by omega),d 3 (by omega),d 7 (by omega),d 11 (by omega),d 13 (by omega),d 5 (by omega),d 17 (by omega),⟨trivial,hK,trivial,hY⟩,⟨trivial,hK⟩,⟨trivial,hK⟩,⟨trivial,hK⟩,⟨trivial,hK,trivial,hY⟩,⟨trivial,hK,B94 _⟩,
  A0p.2 (by omega),A0p.2 (by omega),A0p.2 (by omega),trivial,trivial,trivial,trivial,trivial,trivial,trivial,trivial,trivial,trivial,⟨m+1,by omega,by omega,by omega,by omega⟩,by omega,trivial⟩
end Go.Proofs.YthiammkiobbclaaGreatDoor.X
