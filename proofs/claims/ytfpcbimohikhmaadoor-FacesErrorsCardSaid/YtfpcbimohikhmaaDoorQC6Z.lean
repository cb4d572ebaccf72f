/-
 The contracts of look up and set of a pattern.
-/
import Derived.Test.YtfpcbimohikhmaaDoorQC5Z
set_option maxRecDepth 1000000
set_option linter.unusedVariables false
set_option linter.unusedSimpArgs false
namespace Go.Proofs.YtfpcbimohikhmaaDoor.X
open Go Go.Ab

theorem asc_pw:∀(l:List Cr),(∀x∈l,0≤x.2.1∧x.2.1≤2)→ascB l=true→l.Pairwise (fun x y=>cdC x<cdC y)
 |[],_,_=>.nil
 |[x],_,_=>by simp
 |x::y::r,he,h=>by
  simp only[ascB,Bool.and_eq_true]at h
  have ih:=asc_pw (y::r) (fun z hz=>he z (by simp at hz ⊢; exact .inr hz)) (by simp only[ascB,Bool.and_eq_true];exact h.2)
  have hxy:cdC x<cdC y:=by
   have h1:=h.1
   rw[ltb_iff]at h1
   exact(ord_cd (he x (by simp)) (he y (by simp))).1.1 h1
  refine List.pairwise_cons.2 ⟨fun z hz=>?_,ih⟩
  rcases List.mem_cons.1 hz with rfl|hz
  ·exact hxy
  ·have:=(List.pairwise_cons.1 ih).1 z hz
   omega
theorem chk_ok {w h:Int}{l:List Cr}(hg:edg l)(hc:chkI w h l=0):srt l∧okS w h=true∧badL l=false∧l.all (unitB w h)=true∧ascB l=true:=by
 unfold chkI at hc
 rcases bool_or (okS w h)with h1|h1<;>rw[h1]at hc
 ·rcases bool_or (badL l)with h2|h2<;>rw[h2]at hc
  ·simp at hc
  ·rcases bool_or (l.all (unitB w h))with h3|h3<;>rw[h3]at hc
   ·rcases bool_or (ascB l)with h4|h4<;>rw[h4]at hc
    ·have hu:∀x∈l,sml x.1∧0≤x.1∧x.2.1≤2∧x.1<1024:=fun x hx=>unit_sml (List.all_eq_true.1 h3 x hx) (hg x hx).1
     exact⟨⟨asc_pw l (fun x hx=>⟨(hg x hx).1,(hu x hx).2.2.1⟩) h4,fun x hx=>⟨(hu x hx).1,(hg x hx).1,(hu x hx).2.2.1⟩⟩,h1,h2,h3,h4⟩
    ·simp at hc
   ·simp at hc
 ·simp at hc
end Go.Proofs.YtfpcbimohikhmaaDoor.X
