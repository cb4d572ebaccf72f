/-
 The contracts of the opposite, of patterns from plain data.
-/
import Derived.Test.YtfpcbimohikhmaaDoorQC6Z
import Derived.Test.YtfpcbimohikhmaaDoorQO5Z
set_option maxRecDepth 1000000
set_option linter.unusedVariables false
set_option linter.unusedSimpArgs false
namespace Go.Proofs.YtfpcbimohikhmaaDoor.X
open Go Go.Ab

/-! ### Patterns of plain data -/
/-! ### Checks over all sheets of at most 5 by 5 squares -/
def overS (m:Nat)(f:Int→Int→Int→Int→Bool):Bool:=(List.range m).all fun a=>(List.range m).all fun b=>(List.range (4*(a+1)*(b+1))).all fun i=>(List.range 3).all fun e=>f ((a:Int)+1) ((b:Int)+1) i e
theorem overS_ok {m:Nat}{f:Int→Int→Int→Int→Bool}(h:overS m f=true){w h' i e:Int}(hw:1≤w∧w≤m)(hh:1≤h'∧h'≤m)(hi:0≤i∧i<4*w*h')(he:0≤e∧e≤2):f w h' i e=true:=by
 unfold overS at h
 obtain⟨a,ha⟩:=Int.eq_ofNat_of_zero_le (show 0≤w-1 by omega)
 obtain⟨b,hb⟩:=Int.eq_ofNat_of_zero_le (show 0≤h'-1 by omega)
 obtain⟨i,rfl⟩:=Int.eq_ofNat_of_zero_le hi.1
 obtain⟨e,rfl⟩:=Int.eq_ofNat_of_zero_le he.1
 obtain rfl:w=(a:Int)+1:=by omega
 obtain rfl:h'=(b:Int)+1:=by omega
 have h1:=List.all_eq_true.1 h a (List.mem_range.2 (by omega))
 have h2:=List.all_eq_true.1 h1 b (List.mem_range.2 (by omega))
 have hlt:i<4*(a+1)*(b+1):=by
  have:(i:Int)<((4*(a+1)*(b+1):Nat):Int):=by push_cast;exact hi.2
  exact Int.ofNat_lt.1 this
 have h3:=List.all_eq_true.1 h2 i (List.mem_range.2 hlt)
 exact List.all_eq_true.1 h3 e (List.mem_range.2 (by omega))
end Go.Proofs.YtfpcbimohikhmaaDoor.X
