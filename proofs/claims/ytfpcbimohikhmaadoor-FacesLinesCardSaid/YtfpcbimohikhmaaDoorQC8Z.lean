/-
 The contracts of the opposite, of patterns from plain data.
-/
import Derived.Test.YtfpcbimohikhmaaDoorQC6Z
import Derived.Test.YtfpcbimohikhmaaDoorQO5Z
set_option maxRecDepth 1000000
set_option linter.unusedVariables false
set_option linter.unusedSimpArgs false
namespace Go.Proofs.YtfpcbimohikhmaaDoor.X
open Go Go.Ab

/-! ### Patterns of plain data -/
theorem ct35:CtOk Tryd.prog G 35 e35:=by
 intro args r h hp
 unfold e35 at h
 split at h<;>cases h
 rename_i W H
 obtain⟨h1,h2,h3,h4⟩:=hp
 refine(fnP_spec hcm hmx T0ok ok35 rfl (ob_o35 W H) ?_:SpecP Tryd.prog G 35 [_] (.agg [_,_]) []).caps
 unfold dim5
 rw[Int.tmod_eq_emod_of_nonneg h1,Int.tmod_eq_emod_of_nonneg h3]
 simp only[inR_i64,and_true]
 exact⟨by omega,by omega,by omega,by omega⟩
/-- A unit of a sheet. -/
theorem un_ok {w h:Int}{n:Nat}(hn:n<(units w h).length)(hs:s5 w h):0≤uC (units w h) n∧uC (units w h) n<4*w*h∧0≤uE (units w h) n∧uE (units w h) n≤2:=by
 have hm:=unL_mem (List.getElem_mem hn)
 obtain⟨u1,u2,u3⟩:=uAt hn
 have:=s5_len hs
 rw[u2,u3]
 have h3:((3*(4*w*h).toNat:Nat):Int)=3*(4*w*h):=by omega
 omega
/-! ### Checks over all sheets of at most 5 by 5 squares -/
def overS (m:Nat)(f:Int→Int→Int→Int→Bool):Bool:=(List.range m).all fun a=>(List.range m).all fun b=>(List.range (4*(a+1)*(b+1))).all fun i=>(List.range 3).all fun e=>f ((a:Int)+1) ((b:Int)+1) i e
theorem overS_ok {m:Nat}{f:Int→Int→Int→Int→Bool}(h:overS m f=true){w h' i e:Int}(hw:1≤w∧w≤m)(hh:1≤h'∧h'≤m)(hi:0≤i∧i<4*w*h')(he:0≤e∧e≤2):f w h' i e=true:=by
 unfold overS at h
 obtain⟨a,ha⟩:=Int.eq_ofNat_of_zero_le (show 0≤w-1 by omega)
 obtain⟨b,hb⟩:=Int.eq_ofNat_of_zero_le (show 0≤h'-1 by omega)
 obtain⟨i,rfl⟩:=Int.eq_ofNat_of_zero_le hi.1
 obtain⟨e,rfl⟩:=Int.eq_ofNat_of_zero_le he.1
 obtain rfl:w=(a:Int)+1:=by omega
 obtain rfl:h'=(b:Int)+1:=by omega
 have h1:=List.all_eq_true.1 h a (List.mem_range.2 (by omega))
 have h2:=List.all_eq_true.1 h1 b (List.mem_range.2 (by omega))
 have hlt:i<4*(a+1)*(b+1):=by
  have:(i:Int)<((4*(a+1)*(b+1):Nat):Int):=by push_cast;exact hi.2
  exact Int.ofNat_lt.1 this
 have h3:=List.all_eq_true.1 h2 i (List.mem_range.2 hlt)
 exact List.all_eq_true.1 h3 e (List.mem_range.2 (by omega))
end Go.Proofs.YtfpcbimohikhmaaDoor.X
