/-
 The contracts of valid patterns.
-/
import Derived.Test.YtfpcbimohikhmaaDoorQD7Z
import Derived.Test.YtfpcbimohikhmaaDoorQC8Z
set_option maxRecDepth 1000000
set_option linter.unusedVariables false
set_option linter.unusedSimpArgs false
namespace Go.Proofs.YtfpcbimohikhmaaDoor.X
open Go Go.Ab

theorem ct27v:CtOk Tryd.prog G 27 e27v:=by
 intro args r h hp
 unfold e27v at h
 split at h<;>cases h
 rename_i w h a n _
 obtain⟨hs,⟨h1,h2,h3⟩,hv⟩:=hp
 generalize unC a=l at*
 subst h1 h2
 have:=sp27 w h l h3 (vP_edg hv)
 rw[vP_chk hs hv]at this
 exact this.caps
theorem okV_of {w h:Int}{l:List Cr}(hs:s5 w h)(hv:vP w h l):okV w h (flatC l) l.length:=by
 have:=vP_len hs hv
 exact⟨okA_flat (by omega),by rw[unC_flat];exact hv⟩
end Go.Proofs.YtfpcbimohikhmaaDoor.X
