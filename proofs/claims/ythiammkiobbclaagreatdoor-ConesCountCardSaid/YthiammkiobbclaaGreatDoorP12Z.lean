/-
 Cones, plain: the ways are those among all orders.
-/
import Derived.Test.YthiammkiobbclaaGreatDoorP6Z
import Derived.Test.YthiammkiobbclaaGreatDoorD18Z
set_option maxRecDepth 1000000
set_option linter.unusedVariables false
namespace Go.Proofs.YthiammkiobbclaaGreatDoor.X
open Go Go.Ab

theorem fst_least {n:Nat}{r o:List Int}(A:Alt n r)(hn:n≤8)(ho:o.Perm (idO n)):fstB r o=true↔leastL r o=o:=by
 have hl:=perm_len ho
 rw[← fst_iff A hn ho]
 unfold fstB okAt
 rw[List.all_eq_true]
 constructor
 ·intro h m hm i hi
  have:=List.all_eq_true.1 (h m (List.mem_range.2 (by omega))) i (List.mem_range.2 (by omega))
  unfold okI at this
  rw[Bool.or_eq_true,Bool.not_eq_true']at this
  exact this
 ·intro h m hm
  have hm:=List.mem_range.1 hm
  rw[List.all_eq_true]
  intro i hi
  have hi:=List.mem_range.1 hi
  unfold okI
  rw[Bool.or_eq_true,Bool.not_eq_true']
  exact h m (by omega) i (by omega)
theorem chk_0 {a k o:List Int}(h:altS a k=true)(ho:o.Perm (idO a.length)):chkE a k o=0↔cwB a.length (raysL a) k o=false:=by
 obtain⟨h1,h2,h3,h4⟩:=alt_facts h
 have A:=alt_of h
 unfold chkE cwB
 rw[← bad_iff A h2 ho,← wr_iff A h2 h1.symm h4 ho]
 cases crsB a.length (raysL a) (rkL o)<;>cases wrgB k (rkL o)<;>simp
/-- The ways are those among all orders. -/
theorem ways_ord {a k:List Int}(h:altS a k=true):waysL a.length (raysL a) k=(ordL a.length).filter fun o=>wayB a k o:=by
 obtain⟨h1,h2,h3,h4⟩:=alt_facts h
 have A:=alt_of h
 refine srt_unique ways_srt ((ordL_srt _).filter _) fun l=>?_
 rw[List.mem_filter,ways_mem A h2 h1.symm,ordL_mem]
 refine and_congr_right fun hp=>?_
 unfold wayB
 rw[Bool.and_eq_true,beq_iff_eq,chk_0 h hp,fst_least A h2 hp]
theorem cw_wys (a k:List Int):cwL a k=wysA a k:=by
 unfold cwL wysA
 cases h:altS a k with
 |false=>rfl
 |true=>rw[cond_true,cond_true,ways_ord h]
end Go.Proofs.YthiammkiobbclaaGreatDoor.X
