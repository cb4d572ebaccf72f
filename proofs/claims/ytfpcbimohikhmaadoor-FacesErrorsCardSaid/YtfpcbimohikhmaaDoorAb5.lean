/- An abstract reading of the program: what its operations do to what is known of memory. Part 5 of 6. -/
import Derived.Test.YtfpcbimohikhmaaDoorAb4
import Derived.Test.YtfpcbimohikhmaaDoorAb3
import Derived.Below
import Derived.ChangeSame
import Derived.Carry
import Derived.WideKeyArgs
import Derived.Lib.LaidTab
import Derived.ChangeSlices
import Derived.LaidHandle

/-
 Contracts by a table: what a call's condition names comes from the table.
-/
set_option linter.unusedVariables false
set_option linter.unusedSimpArgs false
namespace Go.Ab
open Go

structure Ct where
 v:AV
 bs:List Blk
 p:Option Prop
structure Cx where
 v:AV
 ws:List (Nat×HO)
 p:Option Prop
structure Tab where
 ct:Nat→List AV→Option Ct
 ch:List (Nat×HO)→AV→List AV→Option Cx
def optP:Option Prop→Prop
 |some p=>p
 |none=>True
structure TabOk (P:Program)(G:GL)(T:Tab):Prop where
 ct:∀f args r,T.ct f args=some r→optP r.p→SpecP P G f args r.v r.bs
 ch:∀h cv args r,T.ch h cv args=some r→optP r.p→SpecD P G cv args h r.v r.ws []

def Tab.ctP (T:Tab)(f:Nat)(args:List AV):Option (AV×List Blk):=
 match T.ct f args with
 |some r=>some (r.v,r.bs)
 |none=>none
def Tab.chP (T:Tab)(_:Nat)(h:List (Nat×HO))(cv:AV)(args:List AV):Option Delta:=
 match T.ch h cv args with
 |some r=>some {v:=r.v,ws:=r.ws,al:=[],cs:=[]}
 |none=>none

inductive Dr where
 |plain
 |wrap
 |val (l:List AV)
 |pk (b:Bool)
 |heap
def drD (T:Tab):Dr→Dir
 |.plain=>.ctr T.ctP
 |.wrap=>.wrap
 |.val l=>.val l
 |.pk b=>.pk b
 |.heap=>.tab false T.chP
def drsD (T:Tab):List (Nat×(GDir×Dr))→Dirs
 |[]=>[(0,(.auto,.ctr T.ctP))]
 |(s,(g,d))::r=>(s,(g,drD T d))::drsD T r

theorem drs_of (T:Tab)(s:Nat):∀(l:List (Nat×(GDir×Dr))),∃d,(dirOf (drsD T l) s).2=drD T d:=by
 have key:∀(k:Nat) (l:List (Nat×(GDir×Dr))) (x:GDir×Dir),aget (drsD T l) k=some x→∃d,x.2=drD T d:=by
  intro k l
  induction l with
  |nil=>
   intro x h
   simp only[drsD,aget,cond_eq_ite]at h
   split at h
   ·cases h;exact⟨.plain,rfl⟩
   ·cases h
  |cons p r ih=>
   obtain⟨s',g,d⟩:=p
   intro x h
   simp only[drsD,aget,cond_eq_ite]at h
   split at h
   ·cases h;exact⟨d,rfl⟩
   ·exact ih x h
 intro l
 unfold dirOf
 split
 ·rename_i x hx;exact key _ _ _ hx
 ·cases h:aget (drsD T l) 0 with
  |none=>
   exfalso
   induction l with
   |nil=>simp[drsD,aget,cond_eq_ite]at h
   |cons p r ih=>
    obtain⟨s',g,d⟩:=p
    simp only[drsD,aget,cond_eq_ite]at h
    split at h
    ·cases h
    ·refine ih ?_ h
     rename_i hs _
     simp only[drsD,aget,cond_eq_ite]at hs
     split at hs
     ·cases hs
     ·exact hs
  |some x=>exact key _ _ _ h

def CF (T:Tab):Cd→Prop
 |.call f args v bs=>∃r,T.ct f args=some r∧v=r.v∧bs=r.bs
 |.callD cv args h v ws al=>∃r,T.ch h cv args=some r∧v=r.v∧ws=r.ws∧al=[]
 |.ge _ _ c=>CF T c
 |_=>True

section
variable {T:Tab}

theorem cf_nil:∀c∈([]:List Cd),CF T c:=fun c h=>by simp at h
theorem cf_app {a b:List Cd}(h:∀c∈a,CF T c)(k:∀c∈b,CF T c):∀c∈a++b,CF T c:=fun c hc=>by
 rcases List.mem_append.1 hc with h'|h'
 ·exact h c h'
 ·exact k c h'
theorem cf_cons {a:Cd}{b:List Cd}(h:CF T a)(k:∀c∈b,CF T c):∀c∈a::b,CF T c:=fun c hc=>by
 rcases List.mem_cons.1 hc with rfl|h'
 ·exact h
 ·exact k c h'

theorem frz_cf {look:Nat→Option HO}:∀n,(∀v r,frzV look n v=some r→∀c∈r.2.2,CF T c)∧(∀l r,frzL look n l=some r→∀c∈r.2.2,CF T c)∧(∀k r,frzC look n k=some r→∀c∈r.2.2,CF T c):=by
 intro n
 induction n with
 |zero=>exact⟨fun v r h=>(by cases h),fun v r h=>(by cases h),fun v r h=>(by cases h)⟩
 |succ n ih=>
  obtain⟨i1,i2,i3⟩:=ih
  refine⟨fun v r h=>?_,fun l r h=>?_,fun k r h=>?_⟩
  ·cases v with
   |ptr id off=>
    simp only[frzV]at h
    split at h
    ·split at h
     ·rename_i hc;cases h;exact i3 _ _ hc
     ·cases h
    ·cases h
   |ep id m off=>
    simp only[frzV]at h
    split at h
    ·split at h
     ·rename_i hc;cases h;exact cf_cons trivial (i3 _ _ hc)
     ·cases h
    ·cases h
   |full id len=>
    simp only[frzV]at h
    split at h
    ·split at h
     ·rename_i hc;cases h;exact cf_cons trivial (i3 _ _ hc)
     ·cases h
    ·cases h
   |sl id off len cap=>
    simp only[frzV]at h
    split at h
    ·split at h
     ·rename_i hc;cases h;exact cf_cons trivial (i3 _ _ hc)
     ·cases h
    ·cases h
   |fullc id len cap=>
    simp only[frzV]at h
    split at h
    ·split at h
     ·rename_i hc;cases h;exact cf_cons trivial (i3 _ _ hc)
     ·cases h
    ·cases h
   |fn f a b=>
    simp only[frzV]at h
    split at h
    ·rename_i h1 h2;cases h;exact cf_app (i2 _ _ h1) (i2 _ _ h2)
    ·cases h
   |agg l=>
    simp only[frzV]at h
    split at h
    ·rename_i h1;cases h;exact i2 _ _ h1
    ·cases h
   |tup l=>
    simp only[frzV]at h
    split at h
    ·rename_i h1;cases h;exact i2 _ _ h1
    ·cases h
   |iface t x=>
    simp only[frzV]at h
    split at h
    ·rename_i h1;cases h;exact fun c hc=>i1 _ _ h1 c hc
    ·cases h
   |vw id m sz off len=>
    simp only[frzV]at h
    split at h
    ·split at h
     ·rename_i hc
      rw[cond_eq_ite]at h
      split at h
      ·cases h;exact cf_cons trivial (i3 _ _ hc)
      ·cases h
     ·cases h
    ·cases h
   |may _ _=>cases h
   |yld _=>cases h
   |spare _=>cases h
   |mp _=>cases h
   |qu _ _ _=>cases h
   |qe _ _ _=>cases h
   |undef=>cases h
   |_=>cases h;exact cf_nil
  ·cases l with
   |nil=>cases h;exact cf_nil
   |cons v t=>
    simp only[frzL]at h
    split at h
    ·rename_i h1 h2;cases h;exact cf_app (i1 _ _ h1) (i2 _ _ h2)
    ·cases h
  ·cases k with
   |cells l=>
    simp only[frzC]at h
    split at h
    ·rename_i h1;cases h;exact i2 _ _ h1
    ·cases h
   |_=>cases h;exact cf_nil

theorem frzV_cf {look:Nat→Option HO}{n:Nat}{v:AV}{x ids cs}(h:frzV look n v=some (x,ids,cs)):∀c∈cs,CF T c:=(frz_cf n).1 _ _ h
theorem frzL_cf {look:Nat→Option HO}{n:Nat}{v:List AV}{x ids cs}(h:frzL look n v=some (x,ids,cs)):∀c∈cs,CF T c:=(frz_cf n).2.1 _ _ h
theorem frzC_cf {look:Nat→Option HO}{n:Nat}{v:Cont}{x ids cs}(h:frzC look n v=some (x,ids,cs)):∀c∈cs,CF T c:=(frz_cf n).2.2 _ _ h

theorem srcOf_cf {look:Nat→Option HO}{sz:Nat}{v:AV}{x m cs}(h:srcOf look sz v=some (x,m,cs)):∀c∈cs,CF T c:=by
 unfold srcOf at h
 split at h
 ·cases h;exact cf_cons trivial cf_nil
 ·split at h
  ·rw[cond_eq_ite]at h
   split at h
   ·cases h;exact cf_cons trivial cf_nil
   ·cases h
  ·cases h
 ·split at h
  ·rw[cond_eq_ite]at h
   split at h
   ·cases h;exact cf_cons trivial cf_nil
   ·cases h
  ·cases h
 ·split at h
  ·rw[cond_eq_ite]at h
   split at h
   ·cases h;exact cf_cons trivial cf_nil
   ·cases h
  ·cases h
 ·cases h

theorem getAll_cf {l:List AV}:∀{vs:List AV} {i:Nat},∀c∈getAll l i vs,CF T c
 |[],i=>cf_nil
 |v::r,i=>cf_cons trivial getAll_cf

theorem intRes_cf {d:Dir}{k:IntKind}{n:Int}{cs:List Cd}{D:Delta}(h:intRes d k n cs=some D)(hc:∀c∈cs,CF T c):∀c∈D.cs,CF T c:=by
 unfold intRes at h
 split at h
 ·cases h;exact hc
 ·cases h;exact hc
 ·cases h;exact cf_cons trivial hc

theorem bin_cf {d:Dir}{op:BinOp}{x y:AV}{D:Delta}(h:opBin d op x y=some D):∀c∈D.cs,CF T c:=by
 unfold opBin at h
 split at h
 ·split at h
  ·exact intRes_cf h (cf_cons trivial cf_nil)
  ·cases h;exact cf_cons trivial cf_nil
  ·rw[cond_eq_ite]at h
   split at h
   ·unfold binI at h
    split at h<;>first
     |(exact intRes_cf h cf_nil)
     |(exact intRes_cf h (cf_cons trivial cf_nil))
     |(cases h;done)
     |(cases h;first|exact cf_nil|exact cf_cons trivial cf_nil)
   ·cases h
 ·unfold binS at h
  split at h<;>first|(cases h;done)|(cases h;first|exact cf_nil|exact cf_cons trivial cf_nil)
 ·cases h

theorem slice_cf {look:Nat→Option HO}{d:Dir}{sz:Nat}{lo hi mx:Bool}{x:AV}{bs:List AV}{D:Delta}(h:opSlice look d sz lo hi mx x bs=some D):∀c∈D.cs,CF T c:=by
 have win:∀{id off len cap sz:Nat} {lo hi mx:Bool} {bs:List AV} {D:Delta},opWin id off len cap sz lo hi mx bs=some D→∀c∈D.cs,CF T c:=by
  intro id off len cap sz lo hi mx bs D h
  unfold opWin at h
  repeat' split at h
  all_goals first|(cases h;done)|(cases h;first|exact cf_nil|(repeat' (first|exact cf_nil|exact trivial|apply cf_cons)))
 unfold opSlice at h
 split at h
 ·exact win h
 ·split at h
  ·rename_i hz
   have hc:=frzV_cf (T:=T) hz
   repeat' split at h
   all_goals first|(cases h;done)|(cases h;apply cf_app hc;(repeat' (first|exact cf_nil|exact trivial|apply cf_cons)))
  ·rename_i hz
   have hc:=frzV_cf (T:=T) hz
   repeat' split at h
   all_goals first|(cases h;done)|(cases h;apply cf_app hc;(repeat' (first|exact cf_nil|exact trivial|apply cf_cons)))
  ·cases h

theorem sliceS_cf {look:Nat→Option HO}{d:Dir}{sz:Nat}{lo hi mx:Bool}{x:AV}{bs:List AV}{D:Delta}(h:opSliceS look d sz lo hi mx x bs=some D):∀c∈D.cs,CF T c:=by
 have vw1:∀{id n:Nat} {D:Delta},opView look sz id n lo hi mx bs=some D→∀c∈D.cs,CF T c:=by
  intro id n D h
  unfold opView at h
  simp only[cond_eq_ite]at h
  repeat' split at h
  all_goals first|(cases h;done)|(cases h;(repeat' (first|exact cf_nil|exact trivial|apply cf_cons)))
 have vw2:∀{id n s off len:Nat} {D:Delta},opView2 look sz id n s off len lo hi mx bs=some D→∀c∈D.cs,CF T c:=by
  intro id n s off len D h
  unfold opView2 at h
  simp only[cond_eq_ite]at h
  repeat' split at h
  all_goals first|(cases h;done)|(cases h;(repeat' (first|exact cf_nil|exact trivial|apply cf_cons)))
 have vwT:∀{id n:Nat} {D:Delta},opViewT look sz id n lo hi mx bs=some D→∀c∈D.cs,CF T c:=by
  intro id n D h
  unfold opViewT at h
  simp only[cond_eq_ite]at h
  repeat' split at h
  all_goals first|(cases h;done)|(cases h;(repeat' (first|exact cf_nil|exact trivial|apply cf_cons)))
 have kp:∀{id len:Nat} {D:Delta},opKeep look id len lo hi mx bs=some D→∀c∈D.cs,CF T c:=by
  intro id len D h
  unfold opKeep at h
  simp only[cond_eq_ite]at h
  repeat' split at h
  all_goals first|(cases h;done)|(cases h;(repeat' (first|exact cf_nil|exact trivial|apply cf_cons)))
 have vwQ:∀{id v d:Nat} {D:Delta},opSliceQ look sz lo hi mx id v d bs=some D→∀c∈D.cs,CF T c:=by
  intro id v d D h
  unfold opSliceQ at h
  simp only[cond_eq_ite]at h
  repeat' split at h
  all_goals first|(cases h;done)|(cases h;(repeat' (first|exact cf_nil|exact trivial|apply cf_cons)))
 unfold opSliceS at h
 repeat' split at h
 all_goals first
  |exact vwQ h
  |(cases h;done)
  |exact slice_cf h
  |exact vw1 h
  |(rename_i hv;cases h;first|exact vw1 hv|exact vw2 hv|exact vwT hv|exact kp hv)
  |(cases h;(repeat' (first|exact cf_nil|exact trivial|apply cf_cons)))

theorem apCs_cf {d:Dir}{cap:Option Nat}{n:Nat}:∀c∈apCs d cap n,CF T c:=by
 unfold apCs
 split
 ·split
  ·exact cf_cons trivial cf_nil
  ·exact cf_nil
 ·exact cf_nil
theorem append_cf {site:Nat}{look:Nat→Option HO}{d:Dir}{sz b_ ty:Nat}{x y:AV}{D:Delta}(h:opAppend site look d sz b_ ty x y=some D):∀c∈D.cs,CF T c:=by
 unfold opAppend at h
 split at h
 ·rename_i hs
  have h1:=srcOf_cf (T:=T) hs
  split at h
  ·rename_i hz
   have h2:=frzC_cf (T:=T) hz
   simp only[cond_eq_ite]at h
   repeat' split at h
   all_goals first
    |(cases h;done)
    |(cases h;(repeat' (first|exact cf_app h1 h2|exact cf_app apCs_cf (cf_app h1 h2)|exact trivial|apply cf_cons)))
  ·cases h
 ·cases h

theorem call_cf {site:Nat}{look:Nat→Option HO}{dr:Dr}{f:Nat}{vs:List AV}{D:Delta}(h:opCall site look (drD T dr) f vs=some D):∀c∈D.cs,CF T c:=by
 unfold opCall at h
 split at h
 ·rename_i ct hd
  have hct:ct=T.ctP:=by cases dr<;>first|(cases hd;rfl)|cases hd
  subst hct
  split at h
  ·rename_i hz
   have h1:=frzL_cf (T:=T) hz
   split at h
   ·rename_i v hs hv
    cases h
    refine cf_app h1 (cf_cons ?_ cf_nil)
    unfold Tab.ctP at hv
    split at hv
    ·rename_i r hr
     cases hv
     exact⟨r,hr,rfl,rfl⟩
    ·cases hv
   ·cases h
  ·cases h
 ·rename_i hd
  cases dr<;>cases hd
 ·rename_i tb hd
  have htb:tb=T.chP:=by cases dr<;>first|(cases hd;rfl)|cases hd
  subst htb
  unfold opCallD at h
  simp only[cond_eq_ite]at h
  repeat' split at h
  all_goals first
   |(cases h;done)
   |skip
  rename_i D' hD' _
  cases h
  unfold Tab.chP at hD'
  split at hD'
  ·rename_i r hr
   cases hD'
   exact cf_cons ⟨r,hr,rfl,rfl,rfl⟩ cf_nil
  ·cases hD'
 ·cases h

theorem callD_cf {site:Nat}{look:Nat→Option HO}{cv:AV}{vs:List AV}{D:Delta}(h:opCallD site look T.chP cv vs=some D):∀c∈D.cs,CF T c:=by
 unfold opCallD at h
 simp only[cond_eq_ite]at h
 repeat' split at h
 all_goals first
  |(cases h;done)
  |skip
 rename_i D' hD' _
 cases h
 unfold Tab.chP at hD'
 split at hD'
 ·rename_i r hr
  cases hD'
  exact cf_cons ⟨r,hr,rfl,rfl,rfl⟩ cf_nil
 ·cases hD'

theorem execD_cf {site:Nat}{look:Nat→Option HO}{op:XOp}{dr:Dr}{vs:List AV}{D:Delta}(h:execD site look op (drD T dr) vs=some D):∀c∈D.cs,CF T c:=by
 have key:∀{look:Nat→Option HO} {d:Dir} {c:Cont} {off:Nat} {agg:Option Nat} {D:Delta},loadC d c off agg=some D→∀c∈D.cs,CF T c:=by
  intro look d c off agg D h
  unfold loadC at h
  split at h
  ·unfold loadV at h
   simp only[cond_eq_ite]at h
   repeat' split at h
   all_goals first
    |(cases h;done)
    |(cases h;first|exact cf_cons trivial cf_nil|exact getAll_cf)
  ·split at h<;>(cases h;exact cf_cons trivial cf_nil)
 cases op with
 |bin op x y=>exact bin_cf h
 |slice sz x lo hi mx=>exact sliceS_cf h
 |append sz b_ ty x y=>
  have h:opAppendT site look (drD T dr) sz b_ ty (unc (x1 vs)) (unc (x2 vs))=some D:=h
  unfold opAppendT at h
  split at h
  ·unfold opAppendQ at h
   split at h
   ·rename_i hs _
    rw[cond_eq_ite]at h
    split at h
    ·cases h;exact cf_cons trivial (cf_cons trivial (srcOf_cf hs))
    ·cases h
   ·cases h
  ·exact append_cf h
 |call f as=>exact call_cf h
 |callv x as=>
  simp only[execD,opCallv]at h
  split at h
  ·exact call_cf h
  ·split at h
   ·rename_i tb hd
    have htb:tb=T.chP:=by cases dr<;>first|(cases hd;rfl)|cases hd
    subst htb
    exact callD_cf h
   ·cases h
  ·cases h
 |inv tab x as=>
  simp only[execD,opInv]at h
  split at h
  ·split at h
   ·exact call_cf h
   ·split at h
    ·rename_i D0 h0
     split at h
     ·rename_i D1 h1
      cases h
      refine cf_app ?_ (call_cf h1)
      simp only[opLoad]at h0
      repeat' split at h0
      all_goals first
       |(cases h0;done)
       |exact key (look:=look) h0
       |(cases h0;exact cf_cons trivial (cf_cons trivial cf_nil))
       |skip
      rename_i r hr
      cases h0
      exact cf_cons trivial (key (look:=look) hr)
     ·cases h
    ·cases h
   ·cases h
  ·cases h
 |load agg a=>
  simp only[execD,opLoad]at h
  repeat' split at h
  all_goals first
   |(cases h;done)
   |exact key (look:=look) h
   |(cases h;exact cf_cons trivial (cf_cons trivial cf_nil))
   |skip
  rename_i r hr
  cases h
  exact cf_cons trivial (key (look:=look) hr)
 |un op x=>
  simp only[execD,opUn]at h
  split at h
  ·exact intRes_cf h cf_nil
  ·cases h;exact cf_nil
  ·cases h
 |conv k x=>
  simp only[execD,opConv]at h
  split at h
  ·exact intRes_cf h cf_nil
  ·cases h
 |slicea n sz x lo hi mx=>
  simp only[execD,opSlicea,opWin]at h
  simp only[cond_eq_ite]at h
  repeat' split at h
  all_goals first|(cases h;done)|(cases h;first|exact cf_nil|(repeat' (first|exact cf_nil|exact trivial|apply cf_cons)))
 |bstr x=>
  simp only[execD,opBstr]at h
  split at h
  ·cases h;exact cf_nil
  ·split at h
   ·rename_i hs
    rw[cond_eq_ite]at h
    split at h
    ·cases h;exact srcOf_cf hs
    ·cases h
   ·cases h
 |rstr x=>
  simp only[execD,opRstr]at h
  split at h
  ·cases h;exact cf_nil
  ·cases h
 |copy sz x y=>
  have cp1:∀{D:Delta},opCopy look sz (unc (x1 vs)) (unc (x2 vs))=some D→∀c∈D.cs,CF T c:=by
   intro D h
   unfold opCopy at h
   split at h
   ·rename_i hs
    split at h
    ·rename_i hz
     split at h
     ·split at h
      ·rw[cond_eq_ite]at h
       split at h
       ·split at h
        ·cases h
         exact cf_cons trivial (cf_cons trivial (cf_app (srcOf_cf hs) (frzC_cf hz)))
        ·cases h
       ·cases h
      ·cases h
     ·cases h
    ·cases h
   ·cases h
  have cp2:∀{D:Delta},opCopy2 look sz (unc (x1 vs)) (unc (x2 vs))=some D→∀c∈D.cs,CF T c:=by
   intro D h
   unfold opCopy2 at h
   split at h
   ·rename_i D hS
    cases h
    unfold opCopyS at hS
    split at hS
    ·split at hS
     ·rename_i hs hk
      split at hS
      ·rw[cond_eq_ite]at hS
       split at hS
       ·cases hS
        exact cf_cons trivial (cf_cons trivial (cf_cons trivial (srcOf_cf hs)))
       ·cases hS
      ·cases hS
     ·cases hS
    ·cases hS
   ·exact cp1 h
  simp only[execD]at h
  unfold opCopy3 at h
  split at h
  ·unfold opCopyL at h
   split at h
   ·split at h
    ·rename_i hs hk
     split at h
     ·rw[cond_eq_ite]at h
      split at h
      ·cases h
       exact cf_cons trivial (cf_cons trivial (cf_cons trivial (srcOf_cf hs)))
      ·cases h
     ·cases h
    ·cases h
   ·cases h
  ·exact cp1 h
  ·rw[cond_eq_ite]at h
   split at h
   ·exact cp2 h
   ·exact cp1 h
 |store sz x y=>
  have k1:∀{a v:AV} {D:Delta},opStore look sz a v=some D→∀c∈D.cs,CF T c:=by
   intro a v D h
   simp only[opStore,cond_eq_ite]at h
   repeat' split at h
   all_goals first
    |(cases h;done)
    |(cases h;first|exact cf_nil|(repeat' (first|exact cf_nil|exact trivial|apply cf_cons)))
  simp only[execD,opStoreS]at h
  split at h
  ·rename_i D0 h0
   cases h;exact k1 h0
  ·unfold opStoreF at h
   split at h
   ·split at h
    ·split at h
     ·rename_i hz
      rw[cond_eq_ite]at h
      split at h
      ·split at h
       ·cases h;exact cf_cons trivial (cf_cons trivial (frzV_cf hz))
       ·cases h
      ·cases h
     ·cases h
    ·cases h
   ·cases h
 |buildS sz len ty z ps=>
  simp only[execD,opBuildQ]at h
  split at h
  ·rename_i D0 h0
   have h1:D0.cs=[]:=by
    simp only[opBuildS,cond_eq_ite]at h0
    repeat' split at h0
    all_goals first|(cases h0;done)|(cases h0;rfl)
   unfold queD at h
   split at h
   ·split at h
    ·unfold queC at h
     simp only[cond_eq_ite]at h
     repeat' split at h
     all_goals first|(cases h;done)|(cases h;exact cf_nil)
    ·cases h
   ·cases h;rw[h1];exact cf_nil
  ·cases h
 |eqa neq n ls x y=>
  simp only[execD,opEqa,cond_eq_ite]at h
  repeat' split at h
  all_goals first|(cases h;done)|(cases h;exact cf_nil)
 |_=>
  simp only[execD,opPickD,opPick,opNew,opStore,opEqb,opIsnil,opFieldA,opField,opIdxA,opIdxD,opIdx,opIdxs,opSlices,opLens,opLen,opCap,opBuild,opBuildS,opMks,opExt,opNilck,opRng,opRngm,opTas,opNxt,opGrowz,opMkmap,opMlook,opMput,opMent,opMst,opEnt,opMdel,opMlen,opSbyt,opClear,Delta.val,cond_eq_ite]at h
  repeat' split at h
  all_goals first
   |(cases h;done)
   |(cases h;first|exact cf_nil|(repeat' (first|exact cf_nil|exact trivial|apply cf_cons)))

theorem stripC_cf:∀{rt:List (Nat×AV)} {cs:List Cd},(∀c∈cs,CF T c)→∀c∈stripC rt cs,CF T c
 |[],cs,h=>h
 |(_,v)::r,cs,h=>by
  simp only[stripC]
  unfold stripB
  split
  ·exact cf_cons trivial (stripC_cf h)
  ·exact stripC_cf h
theorem geC_cf {b want:Bool}:∀{cs:List Cd},(∀c∈cs,CF T c)→∀c∈geC b want cs,CF T c
 |[],h=>cf_nil
 |x::r,h=>cf_cons (h x (by simp)) (geC_cf fun c hc=>h c (by simp[hc]))

theorem runU_cf {G:GL}{site:Nat}{look:Nat→Option HO}{op:XOp}{dr:Dr}{rt:List (Nat×AV)}{D:Delta}(h:runU G site look op (drD T dr) rt=some D):∀c∈D.cs,CF T c:=by
 unfold runU at h
 split at h
 ·exact execD_cf h
 ·split at h
  ·rename_i D' hD'
   cases h
   exact stripC_cf (execD_cf hD')
  ·cases h
theorem runG_cf {G:GL}{site:Nat}{look:Nat→Option HO}{x:XO}{g:GDir}{dr:Dr}{gv:Option AV}{rt:List (Nat×AV)}{D:Delta}(h:runG G site look x g (drD T dr) gv rt=some D):∀c∈D.cs,CF T c:=by
 unfold runG at h
 split at h
 ·exact runU_cf h
 ·split at h
  ·split at h
   ·rw[cond_eq_ite]at h
    split at h
    ·exact runU_cf h
    ·cases h;exact cf_nil
   ·split at h
    ·rename_i hD;cases h;exact cf_cons trivial (runU_cf hD)
    ·cases h
   ·split at h
    ·rename_i hD;cases h;exact cf_cons trivial (runU_cf hD)
    ·cases h
   ·cases h;exact cf_cons trivial cf_nil
   ·split at h
    ·rename_i hD
     split at h
     ·cases h;exact geC_cf (runU_cf hD)
     ·cases h
    ·cases h
  ·cases h

theorem exOps_cf {G:GL}{ds:List (Nat×(GDir×Dr))}:∀{xs:List XO} {s:Nat} {S S':St} {cs:List Cd},exOps G (drsD T ds) xs s S=some (S',cs)→∀c∈cs,CF T c
 |[],s,S,S',cs,h=>by cases h;exact cf_nil
 |x::r,s,S,S',cs,h=>by
  simp only[exOps]at h
  split at h
  ·rename_i D hD
   rw[cond_eq_ite]at h
   split at h
   ·split at h
    ·rename_i hr
     cases h
     obtain⟨d,hd⟩:=drs_of T s ds
     rw[hd]at hD
     exact cf_app (runG_cf hD) (exOps_cf hr)
    ·cases h
   ·cases h
  ·cases h
theorem exEnts_cf {G:GL}{ds:List (Nat×(GDir×Dr))}{xs:List XO}{s:Nat}:∀{ord:List Nat} {S S':St} {es:List (Nat×Ent)} {cs:List Cd},exEnts G (drsD T ds) xs s ord S=some (S',es,cs)→∀c∈cs,CF T c
 |[],S,S',es,cs,h=>by cases h;exact cf_nil
 |i::r,S,S',es,cs,h=>by
  simp only[exEnts]at h
  split at h
  ·rename_i x hx
   split at h
   ·rename_i e he
    split at h
    ·rename_i hr
     cases h
     refine cf_app ?_ (exEnts_cf hr)
     simp only[mkEnt]at he
     split at he
     ·rename_i D hD
      rw[cond_eq_ite]at he
      split at he
      ·cases he
       obtain⟨d,hd⟩:=drs_of T (s+i) ds
       rw[hd]at hD
       exact runG_cf hD
      ·cases he
     ·cases he
    ·cases h
   ·cases h
  ·cases h
end
end Go.Ab

/-
 Code, executed abstractly along a plan: a tree of outcomes. Loops by an invariant over a family of states, joins, ranges over functions; contracts by a table.
-/
set_option linter.unusedVariables false
set_option linter.unusedSimpArgs false
namespace Go.Ab
open Go

structure LpS (β:Type) where
 ov:β→List (Nat×AV)
 bk:β→List (Nat×HO)
 rd:St→Option β
 pre:β→Prop
 mu:β→Nat

inductive Pn:Type 1 where
 |nil
 |r (ds:List (Nat×(GDir×Dr))) (m:Nat) (p:Pn)
 |rs (i:Nat) (ds:List (Nat×(GDir×Dr))) (m t:Nat) (p q:Pn)
 |nl (i:Nat) (ds:List (Nat×(GDir×Dr))) (m t:Nat) (p q:Pn)
 |mn (i:Nat) (ds:List (Nat×(GDir×Dr))) (m:Nat) (p:Pn) (q:List Int×List Int×Nat→Pn)
 |frz (t m:Nat) (p:Pn)
 |gc (i:Nat) (p:Pn)
 |cap (t:Nat) (p:Nat→Pn)
 |gho (t id sz:Nat) (c:Cont) (p:Pn)
 |ghc (b off id sz:Nat) (c:Cont) (p:Pn)
 |ren (σ:List (Nat×Nat)) (S:St) (p:Pn)
 |br (b:Bool) (p q:Pn)
 |ass (f:Prop) (p:Pn)
 |tt (p:Pn)
 |ff (p:Pn)
 |cnd (p q:Pn)
 |lit (p:Pn)
 |un (p:Pn)
 |lp {β:Type} (L:LpS β) (dl db:List Nat) (body:β→Pn)
 |jn {β:Type} (L:LpS β) (dl db:List Nat) (p:Pn) (q:β→Pn)
 |rf (id m:Nat) (p:Pn)

inductive Tr:Type 1 where
 |leaf (e:Ex) (S:St) (p:Pn)
 |ob (p:Prop) (t:Tr)
 |br (b:Bool) (t u:Tr)
 |all {β:Type} (pre:β→Prop) (t:β→Tr)
 |imp (p:Prop) (t:Tr)
 |both (t u:Tr)
 |done
 |bad

def Tr.ok (Q:Ex→St→Pn→Prop):Tr→Prop
 |.leaf e S p=>Q e S p
 |.ob p t=>p∧t.ok Q
 |.br b t u=>(b=true→t.ok Q)∧(b=false→u.ok Q)
 |.all pre t=>∀b,pre b→(t b).ok Q
 |.imp p t=>p→t.ok Q
 |.both t u=>t.ok Q∧u.ok Q
 |.done=>True
 |.bad=>False
def Tr.bindN (f:St→Pn→Tr):Tr→Tr
 |.leaf e S p=>match e with
  |.normal=>f S p
  |e=>.leaf e S p
 |.ob p t=>.ob p (t.bindN f)
 |.br b t u=>.br b (t.bindN f) (u.bindN f)
 |.all pre t=>.all pre (fun b=>(t b).bindN f)
 |.imp p t=>.imp p (t.bindN f)
 |.both t u=>.both (t.bindN f) (u.bindN f)
 |.done=>.done
 |.bad=>.bad
def Tr.catch (id:Nat):Tr→Tr
 |.leaf e S p=>match e with
  |.exit i=>.leaf (cond (Nat.beq i id) .normal (.exit i)) S p
  |e=>.leaf e S p
 |.ob p t=>.ob p (t.catch id)
 |.br b t u=>.br b (t.catch id) (u.catch id)
 |.all pre t=>.all pre (fun b=>(t b).catch id)
 |.imp p t=>.imp p (t.catch id)
 |.both t u=>.both (t.catch id) (u.catch id)
 |.done=>.done
 |.bad=>.bad

def cdO (T:Tab):Cd→Prop
 |.b x=>x=true
 |.ge g want c=>(negIf (!want) g=true→cdO T c)
 |.eqn x y=>x=y
 |.get l i v=>l[i]? =some v
 |.call f args _ _=>match T.ct f args with
  |some r=>optP r.p
  |none=>False
 |.callD cv args h _ _ _=>match T.ch h cv args with
  |some r=>optP r.p
  |none=>False
def isNo {α:Type}:Option α→Bool
 |none=>true
 |some _=>false
def cdX (T:Tab):Cd→Bool
 |.b x=>x
 |.ge _ _ c=>cdX T c
 |.eqn x y=>Nat.beq x y
 |.get _ _ _=>false
 |.call f args _ _=>match T.ct f args with
  |some r=>isNo r.p
  |none=>false
 |.callD cv args h _ _ _=>match T.ch h cv args with
  |some r=>isNo r.p
  |none=>false
def obM (T:Tab):Nat→List Cd→Tr→Tr
 |_,[],t=>t
 |m,c::r,t=>cond (Nat.beq (m%2) 1) (cond (cdX T c) (obM T (m/2) r t) .bad) (.ob (cdO T c) (obM T (m/2) r t))
def obL:List Prop→Tr→Tr
 |[],t=>t
 |p::r,t=>.ob p (obL r t)

mutual
def sgV:AV→AV→List (Nat×Nat)
 |.full i _,.full j _=>[(j,i)]
 |.fullc i _ _,.full j _=>[(j,i)]
 |.fullc i _ _,.fullc j _ _=>[(j,i)]
 |.ptr i _,.ptr j _=>[(j,i)]
 |.mp i,.mp j=>[(j,i)]
 |.sl i _ _ _,.sl j _ _ _=>[(j,i)]
 |.agg l,.agg l'=>sgL l l'
 |.tup l,.tup l'=>sgL l l'
 |.fn _ a b,.fn _ a' b'=>sgL a a'++sgL b b'
 |.iface _ v,.iface _ v'=>sgV v v'
 |_,_=>[]
def sgL:List AV→List AV→List (Nat×Nat)
 |v::r,v'::r'=>sgV v v'++sgL r r'
 |_,_=>[]
end
def dedK (seen:List Nat):List (Nat×Nat)→List (Nat×Nat)
 |[]=>[]
 |(k,v)::r=>cond (memN k seen) (dedK seen r) ((k,v)::dedK (k::seen) r)
def sgT (T:List (Nat×AV)):List (Nat×AV)→List (Nat×Nat)
 |[]=>[]
 |(t,v)::r=>(match aget T t with|some u=>sgV u v|none=>[])++sgT T r
def sgB (h h':List (Nat×HO)):List (Nat×Nat)→List (Nat×Nat)
 |[]=>[]
 |(j,i)::r=>(match aget h i,aget h' j with
  |some (.blk b),some (.blk b')=>match b.c,b'.c with
   |.cells l,.cells l'=>sgL l l'
   |_,_=>[]
  |_,_=>[])++sgB h h' r
def idL:List Nat→List (Nat×Nat)
 |[]=>[]
 |k::r=>(k,k)::idL r
def sgS (S S':St):List (Nat×Nat):=
 let s1:=dedK [] (sgT S.t S'.t)
 let s2:=dedK [] (s1++sgB S.h S'.h s1)
 let s3:=dedK [] (s2++sgB S.h S'.h s2)
 dedK [] (s3++idL (keys S'.h))
def havS {β:Type}(L:LpS β)(dl db:List Nat)(S:St)(b:β):St:={t:=asets (delL S.t dl) (L.ov b),h:=asets (delL S.h db) (L.bk b),n:=S.n}
def toS (md:Md)(S S':St):Option (List Prop):=
 match renS (sgS S S') S S' with
 |some ps=>cond (keepB (sgS S S') S S' md.ks) (some ps) none
 |none=>none
def arrive {β:Type}(md:Md)(L:LpS β)(dl db:List Nat)(S0:St)(S:St)(k:β→Tr):Tr:=
 match L.rd S with
 |some b=>match toS md S (havS L dl db S0 b)with
  |some ps=>obL ps (.ob (L.pre b) (k b))
  |none=>.bad
 |none=>.bad

def pnR:Pn→List (Nat×(GDir×Dr))×Nat×Pn
 |.r ds m p=>(ds,m,p)
 |p=>([],0,p)
def mitOf (look:Nat→Option HO)(v:AV):Option (Nat×Nat×Nat×List Nat×MV×MV×List (List Int×List Int×Nat)×Nat):=
 match v with
 |.ptr id 0=>match look id with
  |some (.mit mid ck seen)=>match look mid with
   |some (.blk b)=>match b.c with
    |.maps kk vk es ck'=>some (id,mid,ck,seen,kk,vk,es,ck')
    |_=>none
   |_=>none
  |_=>none
 |_=>none
def syReg (T:Tab)(G:GL)(s:Nat)(dead:List Nat):Pn→List XO→Nat→St→Tr
 |.rs i ds m t p q,xs,k,S=>match exOps G (drsD T ds) (xs.take i) (s+k) S with
  |some (S',cs)=>obM T m cs (match aget S'.t t with
   |some (.bool v)=>.br v (syReg T G s dead p (xs.drop i) (k+i) {S' with t:=aset S'.t t (.bool true)}) (syReg T G s dead q (xs.drop i) (k+i) {S' with t:=aset S'.t t (.bool false)})
   |_=>.bad)
  |none=>.bad
 |.nl i ds m t p q,xs,k,S=>match exOps G (drsD T ds) (xs.take i) (s+k) S with
  |some (S',cs)=>obM T m cs (match aget S'.t t with
   |some (.imm c len _)=>.both (.imp (len=0∧c.size=0) (syReg T G s dead p (xs.drop i) (k+i) {S' with t:=aset S'.t t .nils})) (syReg T G s dead q (xs.drop i) (k+i) {S' with t:=aset S'.t t .nn})
   |_=>.bad)
  |none=>.bad
 |.mn i ds m p q,xs,k,S=>match exOps G (drsD T ds) (xs.take i) (s+k) S with
  |some (S',cs)=>obM T m cs (match xs.drop i with
   |{dst:=some t,op:=.nxtm o,guard:=none}::r=>match mitOf (aget S'.h) (o.ev G S'.t)with
    |some (id,mid,ck,seen,kk,vk,es,ck')=>cond (Nat.blt t S'.n) (.ob (ck'=ck∧bornP es ck) (.both
     (.imp (leftE es seen=[]) (syReg T G s dead p r (k+i+1) {S' with t:=aset S'.t t (.tup [.bool false])}))
     (.all (fun e=>e∈leftE es seen) (fun e=>syReg T G s dead (q e) r (k+i+1) {S' with t:=aset S'.t t (.tup [.bool true,kk.av e.1,vk.av e.2.1]),h:=aset S'.h id (.mit mid ck (seen++[e.2.2]))})))) .bad
    |none=>.bad
   |_=>.bad)
  |none=>.bad
 |pl,xs,k,S=>match exOps G (drsD T (pnR pl).1) xs (s+k) S with
  |some (S',cs)=>obM T (pnR pl).2.1 cs (.leaf .normal (delS S' dead) (pnR pl).2.2)
  |none=>.bad
def syDraw (T:Tab)(G:GL)(s:Nat)(xs:List XO)(dep:List (List Nat))(ord dead:List Nat)(dp:List (Nat×(GDir×Dr))×Nat×Pn)(S:St):Tr:=
 match exEnts G (drsD T dp.1) xs s ord S with
 |some (S',es,cs)=>cond (drawB dep ord xs.length es) (obM T dp.2.1 cs (.leaf .normal (delS S' dead) dp.2.2)) .bad
 |none=>.bad
def syCond (f g:Pn→Tr)(v:Bool)(pl:Pn):Tr:=
 match pl with
 |.tt p=>.ob (v=true) (f p)
 |.ff p=>.ob (v=false) (g p)
 |.cnd p p'=>.br v (f p) (g p')
 |.lit p=>cond v (f p) (g p)
 |pl=>cond v (f pl) (g pl)
def syRange (md:Md)(T:Tab)(id m:Nat)(ps:List Nat)(as bd:XC)(gv:AV)(S:St)(p:Pn):Tr:=
 match gv with
 |.fn f a cp=>cond (ridB S.h md.rid&&freshA S.h [id]) (match opCallD 0 (aget (aset S.h id (.loop ⟨0,none,S.t,S.n,ps,as,bd⟩))) T.chP (.fn f [] []) (a++[.yld id]++cp)with
  |some D=>match D.al with
   |[]=>match aget (asets (aset S.h id (.loop ⟨0,none,S.t,S.n,ps,as,bd⟩)) D.ws) id with
    |some (.loop l2)=>match pendX l2.pend with
     |some e=>cond (Nat.beq l2.st 1) .bad (obM T m D.cs (.leaf e {S with h:=aset (asets (aset S.h id (.loop ⟨0,none,S.t,S.n,ps,as,bd⟩)) D.ws) id (.loop {l2 with st:=3})} p))
     |none=>.bad
    |_=>.bad
   |_=>.bad
  |none=>.bad) .bad
 |_=>.bad

def syC (md:Md)(T:Tab)(G:GL)(rec:XC→Pn→St→Tr)(xc:XC)(pl:Pn)(S:St):Tr:=
 match xc with
 |.skip=>.leaf .normal S pl
 |.exit id=>.leaf (.exit id) S pl
 |.ret=>.leaf .ret S pl
 |.reg s xs dead=>syReg T G s dead pl xs 0 S
 |.draw s xs dep ord dead=>syDraw T G s xs dep ord dead (pnR pl) S
 |.seq a b=>(rec a pl S).bindN (fun S' p=>rec b p S')
 |.cond c a b=>match c.ev G S.t with
  |.bool v=>syCond (fun p=>rec a p S) (fun p=>rec b p S) v pl
  |_=>.bad
 |.block id a=>(rec a pl S).catch id
 |.loop a=>match pl with
  |.lp L dl db body=>arrive md L dl db S S (fun _=>.all L.pre (fun b=>(rec a (body b) (havS L dl db S b)).bindN (fun S' p=>(rec .skip p S').bindN (fun S'' _=>arrive md L dl db S S'' (fun b'=>.ob (L.mu b'<L.mu b) .done)))))
  |.un p=>(rec a p S).bindN (fun S' p=>rec (.loop a) p S')
  |_=>.bad
 |.rangeF g ps as bd=>match pl with
  |.rf id m p=>syRange md T id m ps as bd (g.ev G S.t) S p
  |_=>.bad
 |.bad=>.bad
 |.scope a=>rec a pl S
def ghcS (S:St)(b off id sz:Nat)(c:Cont):Option St:=
 match aget S.h b with
 |some (.blk k)=>match k.c with
  |.cells l=>match nth? l off with
   |some .nils=>cond (freshA S.h [id]&&Nat.beq c.size 0) (some {S with h:=aset (aset S.h id (.blk {c,sz,n:=0,cap:=some 0,nil:=some true,mu:=true,bx:=false})) b (.blk {k with c:=.cells (l.set off (.full id 0))})}) none
   |_=>none
  |_=>none
 |_=>none
def joinAt:XC→Bool
 |.seq a b=>match a,b with
  |.reg _ _ _,.cond _ _ _=>true
  |.draw _ _ _ _ _,.cond _ _ _=>true
  |_,_=>false
 |.scope _=>false
 |.skip=>false
 |_=>true
def sy (md:Md)(T:Tab)(G:GL):Nat→XC→Pn→St→Tr
 |0,_,_,_=>.bad
 |n+1,xc,pl,S=>
  match pl with
  |.frz t m p=>match frzS S t with
   |some (S',cs)=>obM T m cs (sy md T G n xc p S')
   |none=>.bad
  |.cap t p=>match aget S.t t with
   |some (.imm c len _)=>.all (fun _:Nat=>True) (fun k=>sy md T G n xc (p k) {S with t:=aset S.t t (.imm c len (some k))})
   |_=>.bad
  |.gc i p=>match gcS md.ks S i with
   |some S'=>sy md T G n xc p S'
   |none=>.bad
  |.gho t id sz c p=>match ghoS S t id sz c with
   |some S'=>sy md T G n xc p S'
   |none=>.bad
  |.ghc b off id sz c p=>match ghcS S b off id sz c with
   |some S'=>sy md T G n xc p S'
   |none=>.bad
  |.ren σ S' p=>match renS σ S S' with
   |some ps=>cond (keepB σ S S' md.ks) (obL ps (sy md T G n xc p S')) .bad
   |none=>.bad
  |.br b p p'=>.br b (sy md T G n xc p S) (sy md T G n xc p' S)
  |.ass f p=>.both (.ob f .done) (.imp f (sy md T G n xc p S))
  |.jn L dl db p q=>cond (joinAt xc) (.both ((sy md T G n xc p S).bindN (fun S' p'=>(sy md T G n .skip p' S').bindN (fun S'' _=>arrive md L dl db S S'' (fun _=>.done)))) (.all L.pre (fun b=>.leaf .normal (havS L dl db S b) (q b)))) (syC md T G (sy md T G n) xc (.jn L dl db p q) S)
  |pl=>syC md T G (sy md T G n) xc pl S

section
variable {P:Program}{G:GL}{md:Md}{T:Tab}{F:Nat→Prop}{ρ:Nat→Option Nat}{a:Act}{w:World}

theorem Tr.bindN_ok {f:St→Pn→Tr}{Q:Ex→St→Pn→Prop}:∀{t:Tr},(t.bindN f).ok Q→t.ok (fun e S p=>(e=.normal∧(f S p).ok Q)∨(e≠ .normal∧Q e S p))
 |.leaf e S p,h=>by
  simp only[Tr.bindN]at h
  split at h
  ·exact .inl ⟨rfl,h⟩
  ·rename_i hn;exact .inr ⟨fun e=>hn e,h⟩
 |.ob p t,h=>⟨h.1,Tr.bindN_ok h.2⟩
 |.br b t u,h=>⟨fun hb=>Tr.bindN_ok (h.1 hb),fun hb=>Tr.bindN_ok (h.2 hb)⟩
 |.all pre t,h=>fun b hb=>Tr.bindN_ok (h b hb)
 |.imp p t,h=>fun hp=>Tr.bindN_ok (h hp)
 |.both t u,h=>⟨Tr.bindN_ok h.1,Tr.bindN_ok h.2⟩
 |.done,h=>trivial
 |.bad,h=>h
theorem Tr.catch_ok {id:Nat}{Q:Ex→St→Pn→Prop}:∀{t:Tr},(t.catch id).ok Q→t.ok (fun e S p=>(e=.exit id∧Q .normal S p)∨(e≠ .exit id∧Q e S p))
 |.leaf e S p,h=>by
  simp only[Tr.catch]at h
  cases e with
  |exit i=>
   simp only[Tr.ok]at h ⊢
   by_cases e:i=id
   ·subst e;rw[beq_self,cond_true]at h;exact .inl ⟨rfl,h⟩
   ·rw[beq_ne e,cond_false]at h
    exact .inr ⟨fun e'=>e (by cases e';rfl),h⟩
  |normal=>exact .inr ⟨(fun e=>by cases e),h⟩
  |ret=>exact .inr ⟨(fun e=>by cases e),h⟩
 |.ob p t,h=>⟨h.1,Tr.catch_ok h.2⟩
 |.br b t u,h=>⟨fun hb=>Tr.catch_ok (h.1 hb),fun hb=>Tr.catch_ok (h.2 hb)⟩
 |.all pre t,h=>fun b hb=>Tr.catch_ok (h b hb)
 |.imp p t,h=>fun hp=>Tr.catch_ok (h hp)
 |.both t u,h=>⟨Tr.catch_ok h.1,Tr.catch_ok h.2⟩
 |.done,h=>trivial
 |.bad,h=>h

theorem isNo_ok {p:Option Prop}(h:isNo p=true):optP p:=by
 cases p with
 |none=>trivial
 |some _=>cases h
theorem cdO_ok (hT:TabOk P G T):∀{c:Cd},CF T c→cdO T c→c.holds (SpecQ P G)
 |.b x,hf,h=>h
 |.ge g want c,hf,h=>fun hg=>cdO_ok hT (c:=c) hf (h hg)
 |.eqn x y,hf,h=>h
 |.get _ _ _,hf,h=>h
 |.call f args v bs,hf,h=>by
  obtain⟨r,h1,rfl,rfl⟩:=hf
  simp only[cdO,h1]at h
  exact hT.ct f args r h1 h
 |.callD cv args hh v ws al,hf,h=>by
  obtain⟨r,h1,rfl,rfl,rfl⟩:=hf
  simp only[cdO,h1]at h
  exact hT.ch hh cv args r h1 h
theorem cdX_ok:∀{c:Cd},cdX T c=true→cdO T c
 |.b x,h=>h
 |.ge g want c,h=>fun _=>cdX_ok (c:=c) h
 |.eqn x y,h=>Nat.eq_of_beq_eq_true h
 |.get _ _ _,h=>by cases h
 |.call f args v bs,h=>by
  simp only[cdX]at h
  simp only[cdO]
  split at h
  ·exact isNo_ok h
  ·cases h
 |.callD cv args hh v ws al,h=>by
  simp only[cdX]at h
  simp only[cdO]
  split at h
  ·exact isNo_ok h
  ·cases h
theorem obM_ok (hT:TabOk P G T){Q:Ex→St→Pn→Prop}:∀{cs:List Cd} {m:Nat} {t:Tr},(∀c∈cs,CF T c)→(obM T m cs t).ok Q→AllC (SpecQ P G) cs∧t.ok Q
 |[],m,t,hf,h=>⟨trivial,h⟩
 |c::r,m,t,hf,h=>by
  simp only[obM,cond_eq_ite]at h
  split at h
  ·split at h
   ·rename_i hx
    obtain⟨h1,h2⟩:=obM_ok hT (fun c hc=>hf c (by simp[hc])) h
    exact⟨⟨cdO_ok hT (hf c (by simp)) (cdX_ok hx),h1⟩,h2⟩
   ·exact h.elim
  ·obtain⟨h1,h2⟩:=obM_ok hT (fun c hc=>hf c (by simp[hc])) h.2
   exact⟨⟨cdO_ok hT (hf c (by simp)) h.1,h1⟩,h2⟩
theorem obL_ok {Q:Ex→St→Pn→Prop}:∀{ps:List Prop} {t:Tr},(obL ps t).ok Q→PAll ps∧t.ok Q
 |[],t,h=>⟨trivial,h⟩
 |p::r,t,h=>by
  obtain⟨h1,h2⟩:=obL_ok h.2
  exact⟨⟨h.1,h1⟩,h2⟩

theorem toS_ok {S S':St}{ps:List Prop}(h:toS md S S'=some ps)(hp:PAll ps)(hr:RS G F ρ S a w):∃ρ',RS G F ρ' S' a w∧Ext G F ρ w F ρ' w∧HKp md.ks w ρ (aget S.h) w ρ' (aget S'.h):=by
 unfold toS at h
 split at h
 ·rename_i qs hz
  rw[cond_eq_ite]at h
  split at h
  ·rename_i hk
   cases h
   obtain⟨ρ',q1,q2,q3⟩:=ren_sound hz hp hr
   exact⟨ρ',q1,q2,q3 _ hk⟩
  ·cases h
 ·cases h

theorem arrive_ok {β:Type}{L:LpS β}{dl db:List Nat}{S0 S:St}{k:β→Tr}{Q:Ex→St→Pn→Prop}(h:(arrive md L dl db S0 S k).ok Q):∃b ps,L.rd S=some b∧toS md S (havS L dl db S0 b)=some ps∧PAll ps∧L.pre b∧(k b).ok Q:=by
 unfold arrive at h
 split at h
 ·rename_i b hb
  split at h
  ·rename_i ps hps
   obtain⟨h1,h2⟩:=obL_ok h
   exact⟨b,ps,hb,hps,h1,h2.1,h2.2⟩
  ·exact h.elim
 ·exact h.elim

theorem WpX.via {xc:XC}{S:St}{Q:Ex→St→Prop}(h:∀F ρ a w,RS G F ρ S a w→∃S',WpX P G md xc S' Q∧Aft G md F ρ (aget S.h) w a.defers S' a w):WpX P G md xc S Q:=by
 intro c hc F ρ a w ro hr hro
 obtain⟨S',hW,F',ρ',q1,q2,q3,q4⟩:=h F ρ a w hr
 exact(hW c hc F' ρ' a w ro q1 (hro.next q3)).mono fun e a' w' ⟨S'',r1,r2⟩=>⟨S'',r1,r2.on q2 q3 q4⟩
theorem WpX.post {xc:XC}{S:St}{Q Q':Ex→St→Prop}(h:WpX P G md xc S Q)(hp:∀e S',Q e S'→∀F ρ a w,RS G F ρ S' a w→∃S'',Q' e S''∧Aft G md F ρ (aget S'.h) w a.defers S'' a w):WpX P G md xc S Q':=by
 intro c hc F ρ a w ro hr hro
 refine(h c hc F ρ a w ro hr hro).mono ?_
 rintro e a' w' ⟨S',q1,F',ρ',r1,r2,r3,r4⟩
 obtain⟨S'',s1,s2⟩:=hp e S' q1 F' ρ' a' w' r1
 exact⟨S'',s1,s2.on r2 r3 r4⟩
theorem Aft.of_toS {S S':St}{ps:List Prop}(h:toS md S S'=some ps)(hp:PAll ps)(hr:RS G F ρ S a w):Aft G md F ρ (aget S.h) w a.defers S' a w:=by
 obtain⟨ρ',q1,q2,q3⟩:=toS_ok h hp hr
 exact⟨F,ρ',q1,q2,q3,DX.refl _ _⟩
theorem Aft.trans {S S' S'':St}(h:Aft G md F ρ (aget S.h) w a.defers S' a w)(k:∀F' ρ',RS G F' ρ' S' a w→Aft G md F' ρ' (aget S'.h) w a.defers S'' a w):Aft G md F ρ (aget S.h) w a.defers S'' a w:=by
 obtain⟨F',ρ',q1,q2,q3,q4⟩:=h
 exact(k F' ρ' q1).on q2 q3 q4

theorem frzS_cf {S S':St}{t:Nat}{cs:List Cd}(h:frzS S t=some (S',cs)):∀c∈cs,CF T c:=by
 unfold frzS at h
 split at h
 ·split at h
  ·rename_i hz
   rw[cond_eq_ite]at h
   split at h
   ·cases h;exact frzV_cf hz
   ·cases h
  ·cases h
 ·cases h

theorem ghcS_ok {S S':St}{b off id sz:Nat}{c:Cont}(h:ghcS S b off id sz c=some S')(hr:RS G F ρ S a w):RS G F ρ S' a w∧HKeep w ρ (aget S.h) w ρ (aget S'.h):=by
 unfold ghcS at h
 split at h
 ·rename_i k hk
  split at h
  ·rename_i l hl
   split at h
   ·rename_i hoff
    rw[cond_eq_ite]at h
    split at h
    ·rename_i hc
     rw[Bool.and_eq_true]at hc
     cases h
     have hf:=freshA_ok hc.1 id (by simp)
     have hz:=Nat.eq_of_beq_eq_true hc.2
     obtain⟨m1,m2,m3⟩:=hr.mem.ghost (site:=id) (k:={c,sz,n:=0,cap:=some 0,nil:=some true,mu:=true,bx:=false}) hf rfl hz
     have hbid:b≠id:=fun e=>by rw[e,hf]at hk;cases hk
     let H1:=upd (aget S.h) id (some (.blk {c,sz,n:=0,cap:=some 0,nil:=some true,mu:=true,bx:=false}))
     let k':Blk:={k with c:=.cells (l.set off (.full id 0))}
     have hk1:H1 b=some (.blk k):=by show upd _ _ _ _=_;rw[upd_other _ _ hbid];exact hk
     have m4:HKeep w ρ H1 w ρ (upd H1 b (some (.blk k'))):=by
      refine⟨fun i o' h1 h2=>?_,fun i k1 h1=>?_,fun b cs ty fz hb=>⟨cs,ty,fz,hb,rfl⟩,fun i q l1 v h1=>?_⟩
      ·by_cases e:i=b
       ·subst e;rw[hk1]at h1;cases h1;exact⟨_,upd_same _ _ _,h2,rfl⟩
       ·exact⟨o',by rw[upd_other _ _ e];exact h1,h2,rfl⟩
      ·by_cases e:i=b
       ·subst e;rw[hk1]at h1;cases h1;exact⟨_,upd_same _ _ _,rfl,Nat.le_refl _,fun _=>⟨rfl,rfl,.inl rfl,rfl⟩⟩
       ·exact⟨k1,by rw[upd_other _ _ e];exact h1,rfl,Nat.le_refl _,fun _=>⟨rfl,rfl,.inl rfl,rfl⟩⟩
      ·by_cases e:i=b
       ·subst e;rw[hk1]at h1;cases h1
       ·exact⟨q,l1,v,by rw[upd_other _ _ e];exact h1,Nat.le_refl _,fun _=>⟨rfl,rfl,rfl,fun _ _=>rfl⟩⟩
     have hrel:∀i x,RelE w F ρ (upd H1 b (some (.blk k'))) (.cells l) i x→RelE w F ρ (upd H1 b (some (.blk k'))) (.cells (l.set off (.full id 0))) i x:=by
      rintro i x ⟨h1,h2⟩
      refine⟨?_,h2⟩
      simp only at h1 ⊢
      by_cases e:i=off
      ·subst e
       have hlt:i<l.length:=by
        rw[nth?_eq]at hoff
        exact(List.getElem?_eq_some_iff.1 hoff).1
       have hv:l.getD i .undef=.nils:=by
        rw[nth?_eq]at hoff
        rw[List.getD_eq_getElem?_getD,hoff];rfl
       rw[hv]at h1
       have hv':(l.set i (.full id 0)).getD i .undef=.full id 0:=by
        rw[List.getD_eq_getElem?_getD,List.getElem?_set_self hlt];rfl
       rw[hv']
       cases h1 with
       |imm _ _ hi=>
        generalize he:x=z at hi
        cases hi
        subst he
        exact .full id 0 _ _ (by rw[upd_other _ _ (Ne.symm hbid)];exact upd_same _ _ _) (Nat.le_refl _) ⟨_,_,_,rfl⟩ (fun _=>.inl ⟨rfl,(fun e=>by cases e),(fun n e=>by cases e;rfl),rfl⟩)
      ·have hv':(l.set off (.full id 0)).getD i .undef=l.getD i .undef:=by
        rw[List.getD_eq_getElem?_getD,List.getElem?_set_ne (Ne.symm e),List.getD_eq_getElem?_getD]
       rw[hv'];exact h1
     have hkeep:HKeep w ρ (aget S.h) w ρ (upd H1 b (some (.blk k'))):=m3.trans m4
     have hmem:MRel G F ρ (upd H1 b (some (.blk k'))) w:=by
      refine⟨fun i o h1=>?_,fun i b' hb=>?_,m1.inj,m1.lt,m1.frz,m1.glob⟩
      ·by_cases e:i=b
       ·subst e
        rw[upd_same]at h1;cases h1
        have ho:=(m1.heap i _ hk1).mono (h':=upd H1 i (some (.blk k'))) (fun _ _=>rfl) (fun _ h=>h) m4 rfl (fun b hb=>⟨rfl,fun h=>h⟩)
        obtain⟨h1,h2⟩:=ho
        refine⟨by simpa[hl,k',Cont.size]using h1,?_⟩
        rcases h2 with h2|⟨bb,g1,g2,_,g3,g4⟩
        ·exact .inl h2
        ·obtain⟨cs,ty,fz,q1,q2,q3,q4⟩:=g2 (by rw[hl];rfl)
         refine .inr ⟨bb,g1,RelB.ofCells rfl ⟨cs,ty,fz,q1,q2,by simpa[hl,k',Cont.size]using q3,fun j hj=>?_⟩ g3 g4⟩
         obtain⟨x,x1,x2⟩:=q4 j (by simpa[hl,k',Cont.size]using hj)
         rw[hl]at x2
         exact⟨x,x1,hrel j x x2⟩
       ·rw[upd_other _ _ e]at h1
        exact(m1.heap i o h1).mono (fun _ _=>rfl) (fun _ h=>h) m4 rfl (fun b hb=>⟨rfl,fun h=>h⟩)
      ·obtain⟨o',ho'⟩:=m1.dom i b' hb
       by_cases e:i=b
       ·subst e;exact⟨_,upd_same _ _ _⟩
       ·exact⟨o',by rw[upd_other _ _ e];exact ho'⟩
     refine⟨⟨hr.size,fun u y hu=>?_,?_,hr.defs⟩,?_⟩
     ·simp only[aget_aset]
      exact(hr.tmps u y hu).mono (fun _ _=>rfl) (fun _ h=>h) hkeep
     ·simp only[aget_aset];exact hmem
     ·simp only[aget_aset];exact hkeep
    ·cases h
   ·cases h
  ·cases h
 ·cases h

theorem capS_ok {S:St}{t:Nat}{c:Cont}{len:Nat}{k:Option Nat}(hv:aget S.t t=some (.imm c len k))(hr:RS G F ρ S a w):∃k,RS G F ρ {S with t:=aset S.t t (.imm c len (some k))} a w:=by
 have hput:∀(v':AV),RelV w F ρ (aget S.h) v' (a.tmps.getD t undef)→RS G F ρ {S with t:=aset S.t t v'} a w:=fun v' hv'=>by
  refine⟨hr.size,fun u y hu=>?_,hr.mem,hr.defs⟩
  simp only[aget_aset]at hu
  by_cases e':u=t
  ·subst e'
   rw[upd_same]at hu
   cases hu
   exact hv'
  ·rw[upd_other _ _ e']at hu;exact hr.tmps u y hu
 have h:=hr.tmps t _ hv
 generalize hy:a.tmps.getD t undef=y at h
 cases h with
 |imm _ _ hi=>
  cases hi with
  |imm _ _ _ b o cap' xs hF hc hr ho hl hcap=>exact⟨cap',hput _ (by rw[hy];exact .imm _ _ (.imm _ _ _ b o cap' xs hF hc hr ho hl (fun n h=>by cases h;rfl)))⟩
  |imm0 _ _ x hc hcap=>exact⟨0,hput _ (by rw[hy];exact .imm _ _ (.imm0 _ _ x hc (fun n h=>by cases h;rfl)))⟩

theorem sy_skip (hT:TabOk P G T):∀(n:Nat) (pl:Pn) (S:St) (Q:Ex→St→Pn→Prop),(sy md T G n .skip pl S).ok Q→∀F ρ a w,RS G F ρ S a w→
  ∃S',(∃p,Q .normal S' p)∧Aft G md F ρ (aget S.h) w a.defers S' a w:=by
 intro n
 induction n with
 |zero=>intro pl S Q h;exact h.elim
 |succ n ih=>
  intro pl S Q h F ρ a w hr
  simp only[sy]at h
  split at h
  ·split at h
   ·rename_i S' cs hz
    obtain⟨h1,h2⟩:=obM_ok hT (frzS_cf hz) h
    obtain⟨F',q1,q2,q3⟩:=frzS_ok hz h1 hr
    obtain⟨S'',r1,r2⟩:=ih _ _ Q h2 F' ρ a w q1
    exact⟨S'',r1,r2.on q2 q3.kp (DX.refl _ _)⟩
   ·exact h.elim
  ·split at h
   ·rename_i c len k hz
    obtain⟨k',q⟩:=capS_ok hz hr
    exact ih _ _ Q (h k' trivial) F ρ a w q
   ·exact h.elim
  ·split at h
   ·rename_i S' hz
    obtain⟨ρ',q1,q2,q3⟩:=gcS_ok hz hr
    obtain⟨S'',r1,r2⟩:=ih _ _ Q h F ρ' a w q1
    exact⟨S'',r1,r2.on q2 q3 (DX.refl _ _)⟩
   ·exact h.elim
  ·split at h
   ·rename_i S' hz
    obtain⟨S'',r1,r2⟩:=ih _ _ Q h F ρ a w (ghoS_ok hz hr).1
    exact⟨S'',r1,r2.on (Ext.refl _ _ _) (ghoS_ok hz hr).2.kp (DX.refl _ _)⟩
   ·exact h.elim
  ·split at h
   ·rename_i S' hz
    obtain⟨S'',r1,r2⟩:=ih _ _ Q h F ρ a w (ghcS_ok hz hr).1
    exact⟨S'',r1,r2.on (Ext.refl _ _ _) (ghcS_ok hz hr).2.kp (DX.refl _ _)⟩
   ·exact h.elim
  ·split at h
   ·rename_i ps hz
    rw[cond_eq_ite]at h
    split at h
    ·rename_i hk
     obtain⟨h1,h2⟩:=obL_ok h
     obtain⟨ρ',q1,q2,q3⟩:=ren_sound hz h1 hr
     obtain⟨S'',r1,r2⟩:=ih _ _ Q h2 F ρ' a w q1
     exact⟨S'',r1,r2.on q2 (q3 _ hk) (DX.refl _ _)⟩
    ·exact h.elim
   ·exact h.elim
  ·rename_i b p p'
   cases hb:b with
   |true=>exact ih _ _ Q (h.1 hb) F ρ a w hr
   |false=>exact ih _ _ Q (h.2 hb) F ρ a w hr
  ·exact ih _ _ Q (h.2 h.1.1) F ρ a w hr
  ·rw[show joinAt .skip=false from rfl,cond_false]at h
   exact⟨S,⟨_,h⟩,.here hr⟩
  ·exact⟨S,⟨_,h⟩,.here hr⟩

theorem syRange_ok (hcm:G.cm=cmOf P)(hT:TabOk P G T){g:Opd}{ps:List Nat}{as bd:XC}{S:St}{id m:Nat}{p:Pn}{Q:Ex→St→Pn→Prop}(h:(syRange md T id m ps as bd (g.ev G S.t) S p).ok Q):WpX P G md (.rangeF g ps as bd) S (fun e S'=>∃p,Q e S' p):=by
 unfold syRange at h
 split at h
 ·rename_i f a0 cp hg
  simp only[cond_eq_ite]at h
  split at h
  ·rename_i hc
   rw[Bool.and_eq_true]at hc
   split at h
   ·rename_i D hD
    split at h
    ·rename_i hal
     split at h
     ·rename_i l2 hl2
      split at h
      ·rename_i e2 hp
       split at h
       ·exact h.elim
       ·rename_i hst
        obtain⟨h1,h2⟩:=obM_ok hT (callD_cf hD) h
        refine wpX_rangeF hcm hg (fun l0 e0=>?_) (freshA_ok hc.2 _ (by simp)) (D:=D) (fun i hi=>by rw[hal]at hi;cases hi) ?_ hl2 hp (fun e1=>hst (by rw[e1];rfl)) ⟨p,h2⟩
        ·have hrid:=hc.1
         rw[e0]at hrid
         simp only[ridB]at hrid
         split at hrid
         ·rename_i L hL;exact⟨L,hL⟩
         ·cases hrid
        ·intro F ρ w xs hm hv
         exact callD_sound hm (fun _ _ h=>h) hD h1 (fun i hi=>by rw[hal]at hi;cases hi) hv
      ·exact h.elim
     ·exact h.elim
    ·exact h.elim
   ·exact h.elim
  ·exact h.elim
 ·exact h.elim

theorem wpOpsR_app {ops:Array Oper}{R:Act→World→Prop}:∀(l1 l2:List Nat) (a:Act) (w:World),wpOpsR P ops (wpOpsR P ops R l2) l1 a w→wpOpsR P ops R (l1++l2) a w
 |[],l2,a,w,h=>h
 |i::r,l2,a,w,h=>wpOpR_mono (fun a w h=>wpOpsR_app r l2 a w h) h
theorem compXOs_split {ops:Array Oper}:∀(i:Nat) (l:List Oper) (xs:List XO),compXOs P ops l=some xs→compXOs P ops (l.take i)=some (xs.take i)∧compXOs P ops (l.drop i)=some (xs.drop i)
 |0,l,xs,h=>⟨by simp[compXOs],by simpa using h⟩
 |i+1,[],xs,h=>by cases h;exact⟨by simp[compXOs],by simp[compXOs]⟩
 |i+1,o::l,xs,h=>by
  simp only[compXOs]at h
  split at h
  ·rename_i x xl hx hl
   cases h
   obtain⟨h1,h2⟩:=compXOs_split i l xl hl
   refine⟨?_,by simpa using h2⟩
   simp only[List.take_succ_cons,compXOs,hx,h1]
  ·cases h

theorem mitOf_ok {look:Nat→Option HO}{v:AV}{id mid ck ck':Nat}{seen:List Nat}{kk vk:MV}{es:List (List Int×List Int×Nat)}(h:mitOf look v=some (id,mid,ck,seen,kk,vk,es,ck')):
  v=.ptr id 0∧look id=some (.mit mid ck seen)∧∃b,look mid=some (.blk b)∧b.c=.maps kk vk es ck':=by
 unfold mitOf at h
 split at h
 ·split at h
  ·rename_i h1
   split at h
   ·rename_i h2
    split at h
    ·rename_i h3
     cases h
     exact⟨rfl,h1,_,h2,h3⟩
    ·cases h
   ·cases h
  ·cases h
 ·cases h

theorem syReg_ops (hT:TabOk P G T){ops:Array Oper}{s:Nat}{dead:List Nat}{Q:Ex→St→Pn→Prop}{F0:Nat→Prop}{ρ0:Nat→Option Nat}{H0:Nat→Option HO}{w0:World}{ds0:List Deferred}:∀(pl:Pn) (xs:List XO) (k:Nat) (S:St) (l:List Oper) (F:Nat→Prop) (ρ:Nat→Option Nat) (a:Act) (w:World),
  (∀j,j<l.length→l[j]? =ops[k+j]?)→compXOs P ops l=some xs→(syReg T G s dead pl xs k S).ok Q→RS G F ρ S a w→Ext G F0 ρ0 w0 F ρ w→HKeep w0 ρ0 H0 w ρ (aget S.h)→a.defers=ds0→
  wpOpsR P ops (fun a' w'=>∃S',(∃p,Q .normal S' p)∧Aft G md F0 ρ0 H0 w0 ds0 S' a' w') (List.range' k l.length) a w:=by
 have fin:∀(pl:Pn) (xs:List XO) (k:Nat) (S:St) (l:List Oper) (F:Nat→Prop) (ρ:Nat→Option Nat) (a:Act) (w:World),
   (∀j,j<l.length→l[j]? =ops[k+j]?)→compXOs P ops l=some xs→(match exOps G (drsD T (pnR pl).1) xs (s+k) S with
    |some (S',cs)=>obM T (pnR pl).2.1 cs (.leaf .normal (delS S' dead) (pnR pl).2.2)
    |none=>.bad).ok Q→RS G F ρ S a w→Ext G F0 ρ0 w0 F ρ w→HKeep w0 ρ0 H0 w ρ (aget S.h)→a.defers=ds0→
   wpOpsR P ops (fun a' w'=>∃S',(∃p,Q .normal S' p)∧Aft G md F0 ρ0 H0 w0 ds0 S' a' w') (List.range' k l.length) a w:=by
  intro pl xs k S l F ρ a w hl hx h hr hE hK hd
  split at h
  ·rename_i S' cs he
   obtain⟨h1,h2⟩:=obM_ok hT (exOps_cf he) h
   refine exOps_sound l k xs (s+k) S S' cs F ρ a w hl hx he h1 hr fun a' w' F' ρ' q1 q2 q3 q4=>?_
   exact⟨_,⟨_,h2⟩,F',ρ',delS_rs q1,hE.trans q2,(hK.trans q3).kp,DX.of_eq (q4.trans hd)⟩
  ·exact h.elim
 intro pl
 induction pl with
 |rs i ds m t p q ihp ihq=>
  intro xs k S l F ρ a w hl hx h hr hE hK hd
  simp only[syReg]at h
  split at h
  ·rename_i S' cs he
   obtain⟨h1,h2⟩:=obM_ok hT (exOps_cf he) h
   split at h2
   ·rename_i v hv
    obtain⟨hx1,hx2⟩:=compXOs_split i l xs hx
    by_cases hi:i≤l.length
    ·have hlen:(l.take i).length=i:=by simp;omega
     have hsz:List.range' k l.length=List.range' k (l.take i).length++List.range' (k+i) (l.drop i).length:=by
      rw[hlen,List.range'_append_1]
      congr 1
      simp
      omega
     rw[hsz]
     refine wpOpsR_app _ _ a w ?_
     refine exOps_sound (l.take i) k (xs.take i) (s+k) S S' cs F ρ a w (fun j hj=>?_) hx1 he h1 hr fun a' w' F' ρ' q1 q2 q3 q4=>?_
     ·rw[hlen]at hj
      rw[List.getElem?_take_of_lt hj];exact hl j (by omega)
     ·have hdr:∀j,j<(l.drop i).length→(l.drop i)[j]? =ops[k+i+j]? :=fun j hj=>by
       rw[List.getElem?_drop,hl (i+j) (by simp at hj;omega),Nat.add_assoc]
      have hset:∀b,v=b→RS G F' ρ' {S' with t:=aset S'.t t (.bool b)} a' w':=fun b e=>by
       refine⟨q1.size,fun u y hu=>?_,q1.mem,q1.defs⟩
       simp only[aget_aset]at hu
       by_cases e':u=t
       ·subst e'
        rw[upd_same]at hu
        cases hu
        subst e
        exact q1.tmps u _ hv
       ·rw[upd_other _ _ e']at hu;exact q1.tmps u y hu
      cases hv':v with
      |true=>exact ihp _ _ _ _ F' ρ' a' w' hdr hx2 (h2.1 hv') (hset true hv') (hE.trans q2) (hK.trans q3) (q4.trans hd)
      |false=>exact ihq _ _ _ _ F' ρ' a' w' hdr hx2 (h2.2 hv') (hset false hv') (hE.trans q2) (hK.trans q3) (q4.trans hd)
    ·have hlt:l.take i=l:=List.take_of_length_le (by omega)
     have hd0:l.drop i=[]:=List.drop_of_length_le (by omega)
     rw[hlt]at hx1
     rw[hd0]at hx2
     have hsz:List.range' k l.length=List.range' k l.length++List.range' (k+i) 0:=by simp
     rw[hsz]
     refine wpOpsR_app _ _ a w ?_
     refine exOps_sound l k (xs.take i) (s+k) S S' cs F ρ a w hl hx1 he h1 hr fun a' w' F' ρ' q1 q2 q3 q4=>?_
     have hset:∀b,v=b→RS G F' ρ' {S' with t:=aset S'.t t (.bool b)} a' w':=fun b e=>by
      refine⟨q1.size,fun u y hu=>?_,q1.mem,q1.defs⟩
      simp only[aget_aset]at hu
      by_cases e':u=t
      ·subst e'
       rw[upd_same]at hu
       cases hu
       subst e
       exact q1.tmps u _ hv
      ·rw[upd_other _ _ e']at hu;exact q1.tmps u y hu
     cases hv':v with
     |true=>exact ihp _ _ _ [] F' ρ' a' w' (fun j hj=>by simp at hj) hx2 (h2.1 hv') (hset true hv') (hE.trans q2) (hK.trans q3) (q4.trans hd)
     |false=>exact ihq _ _ _ [] F' ρ' a' w' (fun j hj=>by simp at hj) hx2 (h2.2 hv') (hset false hv') (hE.trans q2) (hK.trans q3) (q4.trans hd)
   ·exact h2.elim
  ·exact h.elim
 |nl i ds m t p q ihp ihq=>
  intro xs k S l F ρ a w hl hx h hr hE hK hd
  simp only[syReg]at h
  split at h
  ·rename_i S' cs he
   obtain⟨h1,h2⟩:=obM_ok hT (exOps_cf he) h
   split at h2
   ·rename_i c len cap hv
    obtain⟨hx1,hx2⟩:=compXOs_split i l xs hx
    have hput:∀{F':Nat→Prop} {ρ':Nat→Option Nat} {a':Act} {w':World} (v':AV),RS G F' ρ' S' a' w'→RelV w' F' ρ' (aget S'.h) v' (a'.tmps.getD t undef)→RS G F' ρ' {S' with t:=aset S'.t t v'} a' w':=fun v' q1 hv'=>by
     refine⟨q1.size,fun u y hu=>?_,q1.mem,q1.defs⟩
     simp only[aget_aset]at hu
     by_cases e':u=t
     ·subst e'
      rw[upd_same]at hu
      cases hu
      exact hv'
     ·rw[upd_other _ _ e']at hu;exact q1.tmps u y hu
    have two:∀{F':Nat→Prop} {ρ':Nat→Option Nat} {a':Act} {w':World},RS G F' ρ' S' a' w'→((len=0∧c.size=0)∧RS G F' ρ' {S' with t:=aset S'.t t .nils} a' w')∨RS G F' ρ' {S' with t:=aset S'.t t .nn} a' w':=fun{F' ρ' a' w'} q1=>by
     have hr:=q1.tmps t _ hv
     generalize hy:a'.tmps.getD t undef=y at hr
     cases hr with
     |imm _ _ hi=>
      cases hi with
      |imm _ _ _ b o cap' xs hF hc hr ho hl hcap=>exact .inr (hput .nn q1 (by rw[hy];exact .imm _ _ (.nn _ _ _)))
      |imm0 _ _ x hc hcap=>
       cases x with
       |none=>exact .inl ⟨⟨rfl,hc⟩,hput .nils q1 (by rw[hy];exact .imm _ _ .nils)⟩
       |some x=>exact .inr (hput .nn q1 (by rw[hy];exact .imm _ _ (.nn _ _ _)))
    by_cases hi:i≤l.length
    ·have hlen:(l.take i).length=i:=by simp;omega
     have hsz:List.range' k l.length=List.range' k (l.take i).length++List.range' (k+i) (l.drop i).length:=by
      rw[hlen,List.range'_append_1]
      congr 1
      simp
      omega
     rw[hsz]
     refine wpOpsR_app _ _ a w ?_
     refine exOps_sound (l.take i) k (xs.take i) (s+k) S S' cs F ρ a w (fun j hj=>?_) hx1 he h1 hr fun a' w' F' ρ' q1 q2 q3 q4=>?_
     ·rw[hlen]at hj
      rw[List.getElem?_take_of_lt hj];exact hl j (by omega)
     ·have hdr:∀j,j<(l.drop i).length→(l.drop i)[j]? =ops[k+i+j]? :=fun j hj=>by
       rw[List.getElem?_drop,hl (i+j) (by simp at hj;omega),Nat.add_assoc]
      rcases two q1 with⟨hz,q1'⟩|q1'
      ·exact ihp _ _ _ _ F' ρ' a' w' hdr hx2 (h2.1 hz) q1' (hE.trans q2) (hK.trans q3) (q4.trans hd)
      ·exact ihq _ _ _ _ F' ρ' a' w' hdr hx2 h2.2 q1' (hE.trans q2) (hK.trans q3) (q4.trans hd)
    ·have hlt:l.take i=l:=List.take_of_length_le (by omega)
     have hd0:l.drop i=[]:=List.drop_of_length_le (by omega)
     rw[hlt]at hx1
     rw[hd0]at hx2
     have hsz:List.range' k l.length=List.range' k l.length++List.range' (k+i) 0:=by simp
     rw[hsz]
     refine wpOpsR_app _ _ a w ?_
     refine exOps_sound l k (xs.take i) (s+k) S S' cs F ρ a w hl hx1 he h1 hr fun a' w' F' ρ' q1 q2 q3 q4=>?_
     rcases two q1 with⟨hz,q1'⟩|q1'
     ·exact ihp _ _ _ [] F' ρ' a' w' (fun j hj=>by simp at hj) hx2 (h2.1 hz) q1' (hE.trans q2) (hK.trans q3) (q4.trans hd)
     ·exact ihq _ _ _ [] F' ρ' a' w' (fun j hj=>by simp at hj) hx2 h2.2 q1' (hE.trans q2) (hK.trans q3) (q4.trans hd)
   ·exact h2.elim
  ·exact h.elim
 |mn i ds m p q ihp ihq=>
  intro xs k S l F ρ a w hl hx h hr hE hK hd
  simp only[syReg]at h
  split at h
  ·rename_i S' cs he
   obtain⟨h1,h2⟩:=obM_ok hT (exOps_cf he) h
   split at h2
   ·rename_i t o r hdrop
    split at h2
    ·rename_i id mid ck seen kk vk es ck' hmit
     rw[cond_eq_ite]at h2
     split at h2
     ·rename_i htn
      have htn:t<S'.n:=Nat.le_of_ble_eq_true htn
      obtain⟨⟨rfl,hborn⟩,h2,h3⟩:=h2
      obtain⟨ev1,ev2,blk,ev3,ev4⟩:=mitOf_ok hmit
      obtain⟨hx1,hx2⟩:=compXOs_split i l xs hx
      rw[hdrop]at hx2
      cases hld:l.drop i with
      |nil=>rw[hld]at hx2;cases hx2
      |cons oo l2=>
       rw[hld]at hx2
       simp only[compXOs]at hx2
       split at hx2
       ·rename_i x1 xl hxo hxl
        cases hx2
        have hil:i<l.length:=by
         have:=congrArg List.length hld
         simp at this;omega
        have hl2:l2.length=l.length-i-1:=by
         have:=congrArg List.length hld
         simp at this;omega
        have hlen:(l.take i).length=i:=by simp;omega
        have hsz:List.range' k l.length=List.range' k (l.take i).length++((k+i)::List.range' (k+i+1) l2.length):=by
         have e1:(k+i)::List.range' (k+i+1) l2.length=List.range' (k+i) (l2.length+1):=(List.range'_succ ..).symm
         rw[hlen,e1,List.range'_append_1]
         congr 1
         omega
        rw[hsz]
        refine wpOpsR_app _ _ a w ?_
        refine exOps_sound (l.take i) k (xs.take i) (s+k) S S' cs F ρ a w (fun j hj=>?_) hx1 he h1 hr fun a' w' F' ρ' q1 q2 q3 q4=>?_
        ·rw[hlen]at hj
         rw[List.getElem?_take_of_lt hj];exact hl j (by omega)
        ·have hdr:∀j,j<(oo::l2).length→(oo::l2)[j]? =ops[k+i+j]? :=fun j hj=>by
          rw[← hld,List.getElem?_drop,hl (i+j) (by simp at hj;omega),Nat.add_assoc]
         have h0:ops[k+i]? =some oo:=by have:=hdr 0 (by simp);simpa using this.symm
         unfold compXO at hxo
         split at hxo
         ·rename_i op gd hop hg
          have hxo:=Option.some.inj hxo
          injection hxo with e1 e2 e3
          subst e2;subst e3
          have hw:=wanted_of (x:={dst:=oo.dst,op:=.nxtm o,guard:=none}) hg
          simp only at hw
          show wpOpR P ops (k+i) _ a' w'
          unfold wpOpR
          rw[h0]
          simp only
          rw[if_pos (hw a'),e1]
          have hcomp:compOp P oo.op=some (.nxtm o):=by
           rcases compOpB_ok hop with h|h
           ·exact h
           ·cases h
          obtain⟨X,hX1,hX2⟩:=compOp_nxtm hcomp
          have hev:EvOk G F' ρ' (aget S'.h) w' S'.t a'.eval:=evOk_of q1.mem q1.tmps
          refine(step_nxtm hX1 hX2 q1.mem hev ev1 ev2 ev3 ev4 hborn).mono ?_
          have hdr2:∀j,j<l2.length→l2[j]? =ops[k+i+1+j]? :=fun j hj=>by
           have:=hdr (j+1) (by simpa using hj)
           rw[show k+i+1+j=k+i+(j+1)by omega,← this];simp
          rintro y w2 (⟨hnil,F2,ρ2,m1,x1,k1,v1⟩|⟨e,hmem,F2,ρ2,m1,x1,k1,v1⟩)
          ·refine ihp _ _ _ l2 F2 ρ2 _ w2 hdr2 hxl (h2 hnil) ?_ (hE.trans (q2.trans x1)) (hK.trans (q3.trans k1)) ((put_defers' _ _ _).trans (q4.trans hd))
           have:=put_rsf (dst:=some t) q1 m1 x1 k1 (fun t' e=>by cases e;exact htn) v1
           unfold RS
           rw[aget_aset]
           exact this
          ·refine ihq e _ _ _ l2 F2 ρ2 _ w2 hdr2 hxl (h3 e hmem) ?_ (hE.trans (q2.trans x1)) (hK.trans (q3.trans (by rw[aget_aset];exact k1))) ((put_defers' _ _ _).trans (q4.trans hd))
           have:=put_rsf (dst:=some t) q1 m1 x1 k1 (fun t' e=>by cases e;exact htn) v1
           unfold RS
           rw[aget_aset,aget_aset]
           exact this
         ·cases hxo
       ·cases hx2
     ·exact h2.elim
    ·exact h2.elim
   ·exact h2.elim
  ·exact h.elim
 |_=>
  intro xs k S l F ρ a w hl hx h hr hE hK hd
  exact fin _ xs k S l F ρ a w hl hx h hr hE hK hd

theorem syC_sound (hcm:G.cm=cmOf P)(hm:P.follows .mixedOrders=true)(hT:TabOk P G T){n:Nat}(hrec:∀xc pl S Q,(sy md T G n xc pl S).ok Q→WpX P G md xc S (fun e S'=>∃p,Q e S' p))
  {xc:XC} {pl:Pn} {S:St} {Q:Ex→St→Pn→Prop} (h:(syC md T G (sy md T G n) xc pl S).ok Q):WpX P G md xc S (fun e S'=>∃p,Q e S' p):=by
 cases xc with
 |skip=>exact wpX_skip hcm ⟨pl,h⟩
 |exit id=>exact wpX_exit hcm ⟨pl,h⟩
 |ret=>exact wpX_ret hcm ⟨pl,h⟩
 |reg s xs dead=>
  simp only[syC]at h
  intro c hcc F ρ a w ro hr hro
  obtain⟨id,ops,rfl,hx⟩:=cm_reg hcm hcc
  have h1:=syReg_ops (md:=md) hT pl xs 0 S ops.toList F ρ a w (fun j _=>by simp) hx h hr (Ext.refl _ _ _) (HKeep.refl _ _ _) rfl
  refine(wpR_region (R:=fun a' w'=>∃S',(∃p,Q .normal S' p)∧Aft G md F ρ (aget S.h) w a.defers S' a' w') (compXOs_defer hx) (by rw[List.range_eq_range'];simpa using h1)).mono ?_
  rintro e a' w' ⟨rfl,h⟩
  exact h
 |draw s xs dep ord dead=>
  simp only[syC,syDraw]at h
  split at h
  ·rename_i S' es cs he
   rw[cond_eq_ite]at h
   split at h
   ·rename_i hB
    obtain⟨h1,h2⟩:=obM_ok hT (exEnts_cf he) h
    exact wpX_draw hcm hm he hB h1 ⟨_,h2⟩
   ·exact h.elim
  ·exact h.elim
 |seq x y=>
  simp only[syC]at h
  refine wpX_seq hcm ((hrec x pl S _ (Tr.bindN_ok h)).mono ?_)
  rintro e S' ⟨p,⟨rfl,hU⟩|⟨hn,hQ⟩⟩
  ·exact .inl ⟨rfl,hrec y p S' Q hU⟩
  ·exact .inr ⟨hn,p,hQ⟩
 |cond o x y=>
  simp only[syC]at h
  split at h
  ·rename_i v hv
   unfold syCond at h
   split at h
   ·have hvt:v=true:=h.1
    exact wpX_cond hcm hv (fun _=>hrec _ _ _ Q h.2) (fun e=>by rw[hvt]at e;cases e)
   ·have hvt:v=false:=h.1
    exact wpX_cond hcm hv (fun e=>by rw[hvt]at e;cases e) (fun _=>hrec _ _ _ Q h.2)
   ·exact wpX_cond hcm hv (fun e=>hrec _ _ _ Q (h.1 e)) (fun e=>hrec _ _ _ Q (h.2 e))
   ·exact wpX_cond hcm hv (fun e=>by rw[e,cond_true]at h;exact hrec _ _ _ Q h) (fun e=>by rw[e,cond_false]at h;exact hrec _ _ _ Q h)
   ·exact wpX_cond hcm hv (fun e=>by rw[e,cond_true]at h;exact hrec _ _ _ Q h) (fun e=>by rw[e,cond_false]at h;exact hrec _ _ _ Q h)
  ·exact h.elim
 |block id x=>
  simp only[syC]at h
  refine wpX_block hcm ((hrec x pl S _ (Tr.catch_ok h)).mono ?_)
  rintro e S' ⟨p,⟨rfl,hQ⟩|⟨hn,hQ⟩⟩
  ·exact .inl ⟨rfl,p,hQ⟩
  ·exact .inr ⟨hn,p,hQ⟩
 |loop x=>
  simp only[syC]at h
  split at h
  ·rename_i β L dl db body
   obtain⟨b0,ps0,_,g2,g3,g4,hall⟩:=arrive_ok h
   have key:∀(N:Nat) (b:β),L.mu b=N→L.pre b→WpX P G md (.loop x) (havS L dl db S b) (fun e S'=>∃p,Q e S' p):=by
    intro N
    induction N using Nat.strongRecOn with
    |_ N ih=>
     intro b hN hb
     refine wpX_loop1 hcm ((hrec x (body b) _ _ (Tr.bindN_ok (hall b hb))).mono ?_)
     rintro e S' ⟨p,⟨rfl,hU⟩|⟨hn,hQ⟩⟩
     ·refine .inl ⟨rfl,WpX.via fun F ρ a w hr=>?_⟩
      obtain⟨S2,⟨p2,h2⟩,r2⟩:=sy_skip hT n p S' _ (Tr.bindN_ok hU) F ρ a w hr
      rcases h2 with⟨_,h2⟩|⟨hn,_⟩
      ·obtain⟨b',ps,_,k2,k3,k4,k5⟩:=arrive_ok h2
       exact⟨_,ih _ (hN▸k5.1) b' rfl k4,Aft.trans r2 fun F' ρ' hr'=>Aft.of_toS k2 k3 hr'⟩
      ·exact absurd rfl hn
     ·exact .inr ⟨hn,p,hQ⟩
   exact WpX.via fun F ρ a w hr=>⟨_,key _ b0 rfl g4,Aft.of_toS g2 g3 hr⟩
  ·refine wpX_loop1 hcm ((hrec x _ S _ (Tr.bindN_ok h)).mono ?_)
   rintro e S' ⟨p,⟨rfl,hU⟩|⟨hn,hQ⟩⟩
   ·exact .inl ⟨rfl,hrec _ p S' Q hU⟩
   ·exact .inr ⟨hn,p,hQ⟩
  ·exact h.elim
 |rangeF g ps as bd=>
  simp only[syC]at h
  split at h
  ·exact syRange_ok hcm hT h
  ·exact h.elim
 |bad=>exact h.elim
 |scope x=>exact wpX_scope hcm (hrec x pl S Q h)

theorem sy_sound (hcm:G.cm=cmOf P)(hm:P.follows .mixedOrders=true)(hT:TabOk P G T):∀(n:Nat) (xc:XC) (pl:Pn) (S:St) (Q:Ex→St→Pn→Prop),(sy md T G n xc pl S).ok Q→WpX P G md xc S (fun e S'=>∃p,Q e S' p):=by
 intro n
 induction n with
 |zero=>intro xc pl S Q h;exact h.elim
 |succ n ih=>
  intro xc pl S Q h
  simp only[sy]at h
  split at h
  ·split at h
   ·rename_i S' cs hz
    obtain⟨h1,h2⟩:=obM_ok hT (frzS_cf hz) h
    exact WpX.pre (fun F ρ a w hr=>by obtain⟨F',q1,q2,q3⟩:=frzS_ok hz h1 hr;exact⟨F',ρ,q1,q2,q3.kp⟩) (ih _ _ _ Q h2)
   ·exact h.elim
  ·split at h
   ·rename_i c len k hz
    intro cc hc F ρ a w ro hr hro
    obtain⟨k',q⟩:=capS_ok hz hr
    exact ih _ _ _ Q (h k' trivial) cc hc F ρ a w ro q hro
   ·exact h.elim
  ·split at h
   ·rename_i S' hz
    exact WpX.pre (fun F ρ a w hr=>by obtain⟨ρ',q1,q2,q3⟩:=gcS_ok hz hr;exact⟨F,ρ',q1,q2,q3⟩) (ih _ _ _ Q h)
   ·exact h.elim
  ·split at h
   ·rename_i S' hz
    exact WpX.pre (fun F ρ a w hr=>⟨F,ρ,(ghoS_ok hz hr).1,Ext.refl _ _ _,(ghoS_ok hz hr).2.kp⟩) (ih _ _ _ Q h)
   ·exact h.elim
  ·split at h
   ·rename_i S' hz
    exact WpX.pre (fun F ρ a w hr=>⟨F,ρ,(ghcS_ok hz hr).1,Ext.refl _ _ _,(ghcS_ok hz hr).2.kp⟩) (ih _ _ _ Q h)
   ·exact h.elim
  ·split at h
   ·rename_i ps hz
    rw[cond_eq_ite]at h
    split at h
    ·rename_i hk
     obtain⟨h1,h2⟩:=obL_ok h
     exact WpX.pre (fun F ρ a w hr=>by obtain⟨ρ',q1,q2,q3⟩:=ren_sound hz h1 hr;exact⟨F,ρ',q1,q2,q3 _ hk⟩) (ih _ _ _ Q h2)
    ·exact h.elim
   ·exact h.elim
  ·rename_i b p p'
   intro c hc
   cases hb:b with
   |true=>exact ih _ _ _ Q (h.1 hb) c hc
   |false=>exact ih _ _ _ Q (h.2 hb) c hc
  ·exact ih _ _ _ Q (h.2 h.1.1)
  ·rename_i β L dl db p q
   rw[cond_eq_ite]at h
   split at h
   case isFalse=>exact syC_sound hcm hm hT ih h
   obtain⟨hA,hB⟩:=h
   refine(ih _ _ _ _ (Tr.bindN_ok hA)).post ?_
   rintro e S' ⟨p',⟨rfl,hU⟩|⟨hn,hQ⟩⟩ F ρ a w hr
   ·obtain⟨S2,⟨p2,h2⟩,r2⟩:=sy_skip hT n p' S' _ (Tr.bindN_ok hU) F ρ a w hr
    rcases h2 with⟨_,h2⟩|⟨hn,_⟩
    ·obtain⟨b',ps,_,k2,k3,k4,_⟩:=arrive_ok h2
     exact⟨_,⟨_,hB b' k4⟩,Aft.trans r2 fun F' ρ' hr'=>Aft.of_toS k2 k3 hr'⟩
    ·exact absurd rfl hn
   ·exact⟨S',⟨p',hQ⟩,.here hr⟩
  ·exact syC_sound hcm hm hT ih h

end

abbrev yM (s:Nat):Nat×(GDir×Dr):=(s,(.may,.plain))
abbrev yL (s:Nat):Nat×(GDir×Dr):=(s,(.onl,.plain))
abbrev iL (l:List Int):List Int:=l
abbrev iI (n:Int):Int:=n
def endP (rts:List RT)(vals:List AV)(blks:List Blk)(e:Ex)(S:St):Prop:=
 match e with
 |.exit _=>False
 |_=>match resV S rts with
  |some vs=>match renS (sgS (resS S vs) (retS vals blks)) (resS S vs) (retS vals blks)with
   |some ps=>PAll ps
   |none=>False
  |none=>False
def fnP (T:Tab)(G:GL)(n:Nat)(fe:FnE)(pl:Pn)(args vals:List AV)(blks:List Blk):Prop:=
 (sy ⟨none,[]⟩ T G n fe.xc pl (entryS args fe.n)).ok (fun e S _=>endP fe.rts vals blks e S)
theorem fnP_spec {P:Program}{G:GL}{T:Tab}{n:Nat}{f:Nat}{fe:FnE}{pl:Pn}{args vals:List AV}{blks:List Blk}{p:Prop}(hcm:G.cm=cmOf P)(hmx:P.follows .mixedOrders=true)(hT:TabOk P G T)(hf:FnOk P f fe)(hle:Nat.ble args.length fe.n=true)
  (h:fnP T G n fe pl args vals blks=p) (hp:p):SpecP P G f args (retV vals) blks:=by
 obtain⟨fn,c,g1,g2,g3,g4,g5,g6⟩:=hf
 have h0:fnP T G n fe pl args vals blks:=by rw[h];exact hp
 have h1:=sy_sound hcm hmx hT n fe.xc pl _ _ h0
 rw[← g6]at h1 hle
 refine spec_of_body (rts:=fe.rts) (vals:=vals) (blks:=blks) hcm g1 g2 g3 g4 g5 hle (h1.mono ?_)
 rintro e S' ⟨_,hq⟩
 unfold endP at hq
 split at hq
 ·exact hq.elim
 ·rename_i hne
  refine⟨?_,?_⟩
  ·cases e with
   |normal=>exact .inr rfl
   |ret=>exact .inl rfl
   |exit i=>exact absurd rfl (hne i)
  ·split at hq
   ·rename_i vs hvs
    split at hq
    ·rename_i ps hps
     exact⟨vs,_,ps,hvs,hps,hq⟩
    ·exact hq.elim
   ·exact hq.elim

def endD (rts:List RT)(vals:List AV)(h ws:List (Nat×HO))(e:Ex)(S:St):Prop:=
 match e with
 |.exit _=>False
 |_=>match resV S rts with
  |some vs=>match renS (sgS (resS S vs) (retH vals h ws)) (resS S vs) (retH vals h ws)with
   |some ps=>cond (keepB (sgS (resS S vs) (retH vals h ws)) (resS S vs) (retH vals h ws) (keys h)) (PAll ps) False
   |none=>False
  |none=>False
def fnD (T:Tab)(G:GL)(n:Nat)(fe:FnE)(pl:Pn)(args:List AV)(h:List (Nat×HO))(vals:List AV)(ws:List (Nat×HO)):Prop:=
 (sy ⟨none,keys h⟩ T G n fe.xc pl (entryH args h fe.n)).ok (fun e S _=>endD fe.rts vals h ws e S)
theorem fnD_spec {P:Program}{G:GL}{T:Tab}{n:Nat}{f:Nat}{fe:FnE}{pl:Pn}{args vals:List AV}{h ws:List (Nat×HO)}{p:Prop}(hcm:G.cm=cmOf P)(hmx:P.follows .mixedOrders=true)(hT:TabOk P G T)(hf:FnOk P f fe)(hle:Nat.ble args.length fe.n=true)
  (he:fnD T G n fe pl args h vals ws=p) (hp:p):SpecD P G (.fn f [] []) args h (retV vals) ws []:=by
 obtain⟨fn,c,g1,g2,g3,g4,g5,g6⟩:=hf
 have h0:fnD T G n fe pl args h vals ws:=by rw[he];exact hp
 have h1:=sy_sound hcm hmx hT n fe.xc pl _ _ h0
 rw[← g6]at h1 hle
 refine specD_of_body (rts:=fe.rts) (vals:=vals) hcm g1 g2 g3 g4 g5 hle (h1.mono ?_)
 rintro e S' ⟨_,hq⟩
 unfold endD at hq
 split at hq
 ·exact hq.elim
 ·rename_i hne
  refine⟨?_,?_⟩
  ·cases e with
   |normal=>exact .inr rfl
   |ret=>exact .inl rfl
   |exit i=>exact absurd rfl (hne i)
  ·split at hq
   ·rename_i vs hvs
    split at hq
    ·rename_i ps hps
     rw[cond_eq_ite]at hq
     split at hq
     ·rename_i hk
      exact⟨vs,_,ps,hvs,hps,hq,hk⟩
     ·exact hq.elim
    ·exact hq.elim
   ·exact hq.elim

abbrev CtE:=List AV→Option Ct
def tabL (l:List (Nat×CtE))(ch:List (Nat×HO)→AV→List AV→Option Cx):Tab:=
 ⟨fun f args=>match aget l f with
  |some e=>e args
  |none=>none,ch⟩
def noCh:List (Nat×HO)→AV→List AV→Option Cx:=fun _ _ _=>none
def CtOk (P:Program)(G:GL)(f:Nat)(e:CtE):Prop:=∀args r,e args=some r→optP r.p→SpecP P G f args r.v r.bs
def ChOk (P:Program)(G:GL)(ch:List (Nat×HO)→AV→List AV→Option Cx):Prop:=∀h cv args r,ch h cv args=some r→optP r.p→SpecD P G cv args h r.v r.ws []
theorem noCh_ok {P:Program}{G:GL}:ChOk P G noCh:=fun h cv args r e=>by cases e
def CtsOk (P:Program)(G:GL):List (Nat×CtE)→Prop
 |[]=>True
 |(f,e)::r=>CtOk P G f e∧CtsOk P G r
theorem tabL_ok {P:Program}{G:GL}{ch:List (Nat×HO)→AV→List AV→Option Cx}(hch:ChOk P G ch):∀{l:List (Nat×CtE)},CtsOk P G l→TabOk P G (tabL l ch):=fun{l} hl=>by
 refine⟨?_,hch⟩
 induction l with
 |nil=>intro f args r h;simp[tabL,aget]at h
 |cons p r ih=>
  obtain⟨g,e⟩:=p
  intro f args x h hp
  simp only[tabL,aget]at h
  by_cases hg:g=f
  ·subst hg
   rw[beq_self,cond_true]at h
   exact hl.1 args x h hp
  ·rw[beq_ne hg,cond_false]at h
   exact ih hl.2 f args x (by simpa[tabL]using h) hp

/-! ### For what is asked -/
@[simp] theorem ltb_iff {x y:Int}:ltb x y=true↔x<y:=by simp[ltb]
@[simp] theorem ltb_no {x y:Int}:ltb x y=false↔y≤x:=by simp[ltb]
@[simp] theorem leb_iff {x y:Int}:leb x y=true↔x≤y:=by simp[leb]
@[simp] theorem leb_no {x y:Int}:leb x y=false↔y<x:=by simp[leb]
@[simp] theorem ltn_iff {x y:Nat}:ltn x y=true↔x<y:=by simp[ltn]
@[simp] theorem ltn_no {x y:Nat}:ltn x y=false↔y≤x:=by simp[ltn]
@[simp] theorem len'_iff {x y:Nat}:len' x y=true↔x≤y:=by simp[len']
@[simp] theorem len'_no {x y:Nat}:len' x y=false↔y<x:=by simp[len']
@[simp] theorem inR_i64 {n:Int}:inR .i64 n=true↔ -9223372036854775808≤n∧n≤9223372036854775807:=by
 simp[inR,IntKind.min,IntKind.max,IntKind.signed,IntKind.bits]
@[simp] theorem inR_u8 {n:Int}:inR .u8 n=true↔0≤n∧n≤255:=by
 simp[inR,IntKind.min,IntKind.max,IntKind.signed,IntKind.bits]
@[simp] theorem inR_i32 {n:Int}:inR .i32 n=true↔ -2147483648≤n∧n≤2147483647:=by
 simp[inR,IntKind.min,IntKind.max,IntKind.signed,IntKind.bits]
@[simp] theorem size_ints {k:IntKind}{l:List Int}:(Cont.ints k l).size=l.length:=rfl
@[simp] theorem size_bools {l:List Bool}:(Cont.bools l).size=l.length:=rfl
@[simp] theorem size_vals {l:List AV}:(Cont.vals l).size=l.length:=rfl
@[simp] theorem size_cells {l:List AV}:(Cont.cells l).size=l.length:=rfl
@[simp] theorem getD_drop {α:Type}(l:List α)(n i:Nat)(d:α):(l.drop n).getD i d=l.getD (n+i) d:=by
 simp[List.getD_eq_getElem?_getD]

/-! ### Arguments said with less -/
theorem SpecP.args {P:Program}{G:GL}{f:Nat}{args args':List AV}{v:AV}{bs:List Blk}(h:SpecP P G f args' v bs)(hr:∀w F xs,RelIs w F args xs→RelIs w F args' xs):SpecP P G f args v bs:=
 fun F w vs hm hv=>h F w vs hm (hr w F vs.toList hv)
mutual
def capsV:AV→AV
 |.imm c l _=>.imm c l none
 |.agg l=>.agg (capsL l)
 |v=>v
def capsL:List AV→List AV
 |[]=>[]
 |v::r=>capsV v::capsL r
end
mutual
theorem RelI.caps {w:World}{F:Nat→Prop}:∀{v:AV} {x:Value},RelI w F v x→RelI w F (capsV v) x
 |_,_,.undef x=>.undef x
 |_,_,.bool b=>.bool b
 |_,_,.int k n=>.int k n
 |_,_,.str l s h=>.str l s h
 |_,_,.nilp=>.nilp
 |_,_,.nils=>.nils
 |_,_,.nilf=>.nilf
 |_,_,.nili=>.nili
 |_,_,.nn a l c=>.nn a l c
 |_,_,.iptr c b o xs hb hc hr ho=>.iptr c b o xs hb hc hr ho
 |_,_,.imm c len cap b o cap' xs hb hc hr ho hl hcap=>.imm c len none b o cap' xs hb hc hr ho hl (fun n e=>by cases e)
 |_,_,.imm0 c cap x hc hcap=>.imm0 c none x hc (fun n e=>by cases e)
 |_,_,.fn f l1 l2 x1 x2 h1 h2=>.fn f l1 l2 x1 x2 h1 h2
 |_,_,.agg l x h=>.agg _ x h.caps
 |_,_,.tup l x h=>.tup l x h
 |_,_,.may b v x h hn=>.may b v x h hn
 |_,_,.iface t v x h=>.iface t v x h
theorem RelIs.caps {w:World}{F:Nat→Prop}:∀{l:List AV} {xs:List Value},RelIs w F l xs→RelIs w F (capsL l) xs
 |_,_,.nil=>.nil
 |_,_,.cons v l x xs h hs=>.cons _ _ x xs h.caps hs.caps
end
theorem SpecP.caps {P:Program}{G:GL}{f:Nat}{args:List AV}{v:AV}{bs:List Blk}(h:SpecP P G f (capsL args) v bs):SpecP P G f args v bs:=h.args fun _ _ _ h=>h.caps
theorem RelI.nil_imm {w:World}{F:Nat→Prop}{x:Value}{c:Cont}(hc:c.size=0)(h:RelI w F .nils x):RelI w F (.imm c 0 (some 0)) x:=by
 cases h;exact .imm0 c _ _ hc (fun n e=>by cases e;rfl)

/-! ### Joins -/
structure VI where v:Int
structure VB where v:Bool
structure VL where v:List Int
end Go.Ab

/-
 Ranges over functions: the contract of a round (a call of yield), from the round's code.
-/
set_option linter.unusedVariables false
set_option linter.unusedSimpArgs false
namespace Go.Ab
open Go

section
variable {P:Program}{G:GL}{md:Md}{T:Tab}{F:Nat→Prop}{ρ:Nat→Option Nat}{a:Act}{w:World}
def Tr.only (f:St→Pn→Tr):Tr→Tr
 |.leaf e S p=>match e with
  |.normal=>f S p
  |_=>.bad
 |.ob p t=>.ob p (t.only f)
 |.br b t u=>.br b (t.only f) (u.only f)
 |.all pre t=>.all pre (fun b=>(t b).only f)
 |.imp p t=>.imp p (t.only f)
 |.both t u=>.both (t.only f) (u.only f)
 |.done=>.done
 |.bad=>.bad
end

def XC.rf:XC→Option (List Nat×XC×XC)
 |.rangeF _ ps as bd=>some (ps,as,bd)
 |.seq a b=>match a.rf with
  |some r=>some r
  |none=>b.rf
 |.cond _ a b=>match a.rf with
  |some r=>some r
  |none=>b.rf
 |.block _ a=>a.rf
 |.loop a=>a.rf
 |.scope a=>a.rf
 |_=>none
end Go.Ab

/-
 Functions run on closed arguments, with what is proved of other functions at hand.
-/
set_option linter.unusedVariables false
set_option linter.unusedSimpArgs false
namespace Go.Ab
open Go

def evM (G:GL)(xp:Nat→Option FnE)(nat:Nat→List AV→Option AV)(me:TB)(fuel:Nat):Nat→TB
 |0,_,_,_,_=>none
 |n+1,c,h,cv,args=>match cv with
  |.fn f _ _=>match nat f args with
   |some v=>some {v:=v,ws:=[],al:=[],cs:=[]}
   |none=>match me c h cv args with
   |some D=>some D
   |none=>match xp f with
    |some fe=>cond (Nat.ble args.length fe.n) (match evC G (evM G xp nat me fuel n) none c fuel fe.xc ⟨entryH args h fe.n,c,[]⟩with
     |some (e,s)=>match e with
      |.exit _=>none
      |_=>match resV s.S fe.rts with
       |some vals=>finE (keys h) c s vals
       |none=>none
     |none=>none) none
    |none=>none
  |.yld id=>match aget h id with
   |some (.loop l)=>cond (Nat.beq l.st 0&&(Nat.beq args.length l.ps.length&&allLtP l.n l.ps)) (match evC G (evM G xp nat me fuel n) (some id) c fuel l.as ⟨⟨setPs l.t l.ps args,h,l.n⟩,c,[]⟩with
    |some (e1,s1)=>match e1 with
     |.normal=>match aget s1.S.h id with
      |some (.loop l1)=>cond (Nat.beq l1.st 0) (match evC G (evM G xp nat me fuel n) (some id) c fuel l.bd ⟨{s1.S with h:=aset s1.S.h id (.loop {l1 with st:=1})},s1.c,addW c s1.wr [(id,.loop l1)]⟩with
       |some (e,s2)=>match aget s2.S.h id with
        |some (.loop l2)=>finE (keys h) c ⟨{s2.S with h:=aset s2.S.h id (.loop {l2 with st:=cond e.isN 0 2,pend:=cond e.isN none (some e)})},s2.c,s2.wr⟩ [.bool e.isN]
        |_=>none
       |none=>none) none
      |_=>none
     |_=>none
    |none=>none) none
   |_=>none
  |_=>none

section
variable {P:Program}{G:GL}{md:Md}{F:Nat→Prop}{ρ:Nat→Option Nat}{H:Nat→Option HO}{w:World}{a:Act}{tb:TB}
theorem allC_app {Sp:SpT}:∀{a b:List Cd},AllC Sp a→AllC Sp b→AllC Sp (a++b)
 |[],_,_,h=>h
 |_::_,_,h,k=>⟨h.1,allC_app h.2 k⟩
theorem evM_sound (hcm:G.cm=cmOf P)(hmx:P.follows .mixedOrders=true){xp:Nat→Option FnE}(hxp:XpOk P xp){nat:Nat→List AV→Option AV}(hnat:NatOk P nat){me:TB}(hme:TBok P G me)(fuel:Nat):∀n,TBok P G (evM G xp nat me fuel n):=by
 intro n
 induction n with
 |zero=>intro c h cv args D hD;simp[evM]at hD
 |succ n ih=>
  intro c h cv args D hD
  simp only[evM]at hD
  split at hD
  ·rename_i f x1 x2
   split at hD
   ·rename_i v hv
    cases hD
    refine⟨rfl,fun F ρ w xs hm hvs=>?_⟩
    obtain⟨y,h1,h2⟩:=hnat f args v hv F ρ (aget h) w xs hvs
    exact .inl ⟨_,y,w,h1,.inl rfl,F,ρ,hm,Ext.refl _ _ _,HKeep.refl _ _ _,h2⟩
   ·split at hD
    ·rename_i D0 hD0
     cases hD
     exact hme _ _ _ _ _ hD0
    split at hD
    ·rename_i fe hfe
     obtain⟨fn,cd,g1,g2,g3,g4,g5,g6⟩:=hxp f fe hfe
     rw[cond_eq_ite]at hD
     split at hD
     ·rename_i hc
      split at hD
      ·rename_i e s he
       obtain⟨hw,hW⟩:=evC_sound hcm hmx ih _ _ _ _ _ he
       have hW':=hW ⟨none,keys h⟩ rfl
       simp only at hw hW'
       rw[← g6]at hW' hc
       have fin:(e=.ret∨e=.normal)→∀vals,resV s.S fe.rts=some vals→finE (keys h) c s vals=some D→D.cs=[]∧SpecD P G (.fn f x1 x2) args h D.v D.ws D.al:=by
        intro hex vals hvals hfin
        have hcs:D.cs=[]:=finE_cs hfin
        refine⟨hcs,fun F ρ w xs hm hv=>?_⟩
        refine body_core hcm (md:=⟨none,keys h⟩) (h:=h) (R:=fun S'=>S'=s.S) rfl g1 g2 g3 g4 g5 hc (hW'.mono ?_) (fun S' e=>⟨vals,by rw[e];exact hvals⟩) hm hv ?_
        ·rintro e' S' ⟨rfl,rfl⟩;exact⟨hex,rfl⟩
        ·rintro S' vals' xs w2 F' ρ' rfl hv' q1 q2 q3 q4
         rw[hvals]at hv';cases hv'
         exact(finE_ok (D:=D) hfin hw q1 q2 q3 q4).2
       split at hD
       ·cases hD
       ·rename_i hne
        have hex:e=.ret∨e=.normal:=by
         cases e with
         |normal=>exact .inr rfl
         |ret=>exact .inl rfl
         |exit i=>exact absurd rfl (hne i)
        split at hD
        ·rename_i vals hvals
         exact fin hex vals hvals hD
        ·cases hD
      ·cases hD
     ·cases hD
    ·cases hD
  ·rename_i id
   split at hD
   ·rename_i l hl
    rw[cond_eq_ite]at hD
    split at hD
    ·rename_i hc
     simp only[Bool.and_eq_true]at hc
     split at hD
     ·rename_i e1 s1 he1
      split at hD
      ·split at hD
       ·rename_i l1 hl1
        rw[cond_eq_ite]at hD
        split at hD
        ·rename_i hst1
         split at hD
         ·rename_i e s2 he2
          split at hD
          ·rename_i l2 hl2
           obtain⟨hw1,hW1⟩:=evC_sound hcm hmx ih _ _ _ _ _ he1
           obtain⟨hw2,hW2⟩:=evC_sound hcm hmx ih _ _ _ _ _ he2
           have hcs:D.cs=[]:=finE_cs hD
           refine⟨hcs,yld_sound hcm hl hc.1 hc.2.1 hc.2.2 (hW1 ⟨some id,keys h⟩ rfl) hl1 hst1 (hW2 ⟨some id,keys h⟩ rfl) hl2 ?_⟩
           intro F ρ w F' ρ' w2 hm q1 q3 q4
           refine(finE_ok (D:=D) hD ?_ q1 (xs:=[.bool e.isN]) (.cons _ _ _ _ (.imm _ _ (.bool _)) .nil) q3 q4).2
           have hmid:WrOk c s1.wr (addW c s1.wr [(id,.loop l1)]) (aget s1.S.h) (aget (aset s1.S.h id (.loop {l1 with st:=1}))):=fun i hi hlt=>by
            obtain⟨k1,k2⟩:=addW_ok hi hlt
            simp only[keys,List.mem_cons,List.not_mem_nil,or_false]at k2
            exact⟨k1,by rw[aget_aset,upd_other _ _ k2]⟩
           have hall:=(hw1.trans hmid).trans hw2
           intro i hi hlt
           obtain⟨k1,k2⟩:=hall i hi hlt
           have hne:i≠id:=fun e=>by
            obtain⟨k3,_⟩:=hw2 i hi hlt
            obtain⟨_,k5⟩:=addW_ok k3 hlt
            exact k5 (by simp[keys,e])
           refine⟨k1,?_⟩
           simp only
           rw[aget_aset,upd_other _ _ hne];exact k2
          ·cases hD
         ·cases hD
        ·cases hD
       ·cases hD
      ·cases hD
     ·cases hD
    ·cases hD
   ·cases hD
  ·cases hD

theorem specP_of_evM (hcm:G.cm=cmOf P)(hmx:P.follows .mixedOrders=true){xp:Nat→Option FnE}(hxp:XpOk P xp){nat:Nat→List AV→Option AV}(hnat:NatOk P nat){me:TB}(hme:TBok P G me){fuel n c f:Nat}{args:List AV}{D:Delta}
  (h:evM G xp nat me fuel n c [] (.fn f [] []) args=some D) {blks:List Blk} (hb:D.ws=hsL blks 0):SpecP P G f args D.v blks:=by
 intro F w vs hm hv
 obtain⟨_,hs⟩:=evM_sound hcm hmx hxp hnat hme fuel n c [] _ _ _ h
 refine NextOk.mono (hs F noR w vs (hm:MRel G F noR (aget []) w) hv.toVs) ?_
 rintro y w' ⟨F',ρ',q1,q2,_,q4⟩
 have e:updL (aget ([]:List (Nat×HO))) D.ws=hsH blks:=by
  rw[hb]
  funext i
  have:updL (aget ([]:List (Nat×HO))) (hsL blks 0) i=aget (hsL blks 0) i:=by
   by_cases hi:i∈keys (hsL blks 0)
   ·refine updL_from (look:=aget (hsL blks 0)) ?_ hi
    have key:∀(l:List Blk) (j:Nat) (p:Nat×HO),p∈hsL l j→aget (hsL l j) p.1=some p.2∧j≤p.1:=by
     intro l
     induction l with
     |nil=>intro j p hp;simp[hsL]at hp
     |cons b l ih=>
      intro j p hp
      simp only[hsL]at hp ⊢
      simp only[aget]
      rcases List.mem_cons.1 hp with rfl|hp
      ·exact⟨by rw[beq_self,cond_true],Nat.le_refl _⟩
      ·obtain⟨k1,k2⟩:=ih (j+1) p hp
       exact⟨by rw[beq_ne (by omega),cond_false];exact k1,by omega⟩
    exact fun p hp=>(key blks 0 p hp).1
   ·rw[updL_nokey hi]
    cases e:aget (hsL blks 0) i with
    |none=>rfl
    |some o=>exact absurd (key_aget.2 ⟨o,e⟩) hi
  rw[this,hsL_eq]
 simp only at q1 q4
 rw[e]at q1 q4
 exact⟨F',ρ',q1,q2,q4⟩

def memoT (ct:Nat→List AV→Option (AV×List Blk)):TB:=fun c h cv args=>
 match cv with
 |.fn f _ _=>match frzL (aget h) 60 args with
  |some (args',ids,cs)=>cond (cdsB cs) (match ct f args' with
   |some (v,hs)=>cond (freshA h (idsH (64*c) 0 hs)) (some {v:=shiftV (64*c) v,ws:=frzW (aget h) ids++shiftH (64*c) 0 hs,al:=idsH (64*c) 0 hs,cs:=[]}) none
   |none=>none) none
  |none=>none
 |_=>none
theorem memoT_ok {P:Program}{G:GL}{ct:Nat→List AV→Option (AV×List Blk)}(hct:∀f args v hs,ct f args=some (v,hs)→SpecP P G f args v hs):TBok P G (memoT ct):=by
 intro c h cv args D hD
 unfold memoT at hD
 split at hD
 ·rename_i f x1 x2
  split at hD
  ·rename_i args' ids cs hz
   rw[cond_eq_ite]at hD
   split at hD
   ·rename_i hcs
    split at hD
    ·rename_i v hs hv
     rw[cond_eq_ite]at hD
     split at hD
     ·rename_i hfr
      cases hD
      refine⟨rfl,fun F ρ w xs hm hvs=>?_⟩
      exact call_sound0 (site:=c) hm (fun _ _ h=>h) hz (allC_app (cdsB_ok hcs) ⟨hct _ _ _ _ hv,trivial⟩) (freshA_ok hfr) hvs
     ·cases hD
    ·cases hD
   ·cases hD
  ·cases hD
 ·cases hD
end

/-! ### A table of closed calls -/
def eqIs:List Int→List Int→Bool
 |[],[]=>true
 |a::r,b::s=>cond (a==b) (eqIs r s) false
 |_,_=>false
def eqBs:List Bool→List Bool→Bool
 |[],[]=>true
 |a::r,b::s=>cond (a==b) (eqBs r s) false
 |_,_=>false
def eqSs:List UInt8→List UInt8→Bool
 |[],[]=>true
 |a::r,b::s=>cond (Nat.beq a.toNat b.toNat) (eqSs r s) false
 |_,_=>false
def eqO:Option Nat→Option Nat→Bool
 |none,none=>true
 |some a,some b=>Nat.beq a b
 |_,_=>false
mutual
def eqC:Cont→Cont→Bool
 |.ints k l,.ints k' l'=>beqK k k'&&eqIs l l'
 |.bools l,.bools l'=>eqBs l l'
 |.vals l,.vals l'=>eqL l l'
 |_,_=>false
def eqV:AV→AV→Bool
 |.bool a,.bool b=>a==b
 |.int k a,.int k' b=>beqK k k'&&a==b
 |.str a,.str b=>eqSs a b
 |.nils,.nils=>true
 |.imm c l o,.imm c' l' o'=>eqC c c'&&(Nat.beq l l'&&eqO o o')
 |.agg l,.agg l'=>eqL l l'
 |_,_=>false
def eqL:List AV→List AV→Bool
 |[],[]=>true
 |a::r,b::s=>cond (eqV a b) (eqL r s) false
 |_,_=>false
end
theorem eqIs_ok:∀{a b:List Int},eqIs a b=true→a=b
 |[],[],_=>rfl
 |a::r,b::s,h=>by
  simp only[eqIs,cond_eq_ite]at h
  split at h
  ·rename_i e;rw[eq_of_beq e,eqIs_ok h]
  ·cases h
 |[],_::_,h=>by cases h
 |_::_,[],h=>by cases h
theorem eqBs_ok:∀{a b:List Bool},eqBs a b=true→a=b
 |[],[],_=>rfl
 |a::r,b::s,h=>by
  simp only[eqBs,cond_eq_ite]at h
  split at h
  ·rename_i e;rw[eq_of_beq e,eqBs_ok h]
  ·cases h
 |[],_::_,h=>by cases h
 |_::_,[],h=>by cases h
theorem eqSs_ok:∀{a b:List UInt8},eqSs a b=true→a=b
 |[],[],_=>rfl
 |a::r,b::s,h=>by
  simp only[eqSs,cond_eq_ite]at h
  split at h
  ·rename_i e;rw[UInt8.toNat_inj.1 (Nat.eq_of_beq_eq_true e),eqSs_ok h]
  ·cases h
 |[],_::_,h=>by cases h
 |_::_,[],h=>by cases h
theorem eqO_ok:∀{a b:Option Nat},eqO a b=true→a=b
 |none,none,_=>rfl
 |some a,some b,h=>by rw[Nat.eq_of_beq_eq_true (n:=a) (m:=b) h]
 |none,some _,h=>by cases h
 |some _,none,h=>by cases h
mutual
theorem eqC_ok:∀(a b:Cont),eqC a b=true→a=b:=fun a b h=>by
 cases a<;>cases b<;>simp only[eqC,Bool.and_eq_true,reduceCtorEq]at h
 ·rw[beqK_ok h.1,eqIs_ok h.2]
 ·rw[eqBs_ok h]
 ·rename_i l l';rw[eqL_ok l l' h]
theorem eqV_ok:∀(a b:AV),eqV a b=true→a=b:=fun a b h=>by
 cases a<;>cases b<;>simp only[eqV,Bool.and_eq_true,reduceCtorEq]at h
 ·rw[eq_of_beq h]
 ·rw[beqK_ok h.1,eq_of_beq h.2]
 ·rw[eqSs_ok h]
 ·rfl
 ·rw[eqC_ok _ _ h.1,Nat.eq_of_beq_eq_true h.2.1,eqO_ok h.2.2]
 ·rename_i l l';rw[eqL_ok l l' h]
theorem eqL_ok:∀(a b:List AV),eqL a b=true→a=b:=fun a b h=>by
 cases a with
 |nil=>cases b with
  |nil=>rfl
  |cons _ _=>cases h
 |cons v r=>cases b with
  |nil=>cases h
  |cons u s=>
   simp only[eqL,cond_eq_ite]at h
   split at h
   ·rename_i e;rw[eqV_ok v u e,eqL_ok r s h]
   ·cases h
end
structure Mem where
 f:Nat
 args:List AV
 v:AV
 bs:List Blk
def memF:List Mem→Nat→List AV→Option (AV×List Blk)
 |[],_,_=>none
 |m::r,f,args=>cond (Nat.beq m.f f&&eqL m.args args) (some (m.v,m.bs)) (memF r f args)
def MemOk (P:Program)(G:GL):List Mem→Prop
 |[]=>True
 |m::r=>SpecP P G m.f m.args m.v m.bs∧MemOk P G r
theorem memF_ok {P:Program}{G:GL}:∀{l:List Mem},MemOk P G l→∀f args v hs,memF l f args=some (v,hs)→SpecP P G f args v hs
 |[],_,f,args,v,hs,h=>by cases h
 |m::r,hl,f,args,v,hs,h=>by
  simp only[memF,cond_eq_ite]at h
  split at h
  ·rename_i e
   rw[Bool.and_eq_true]at e
   cases h
   have e1:=Nat.eq_of_beq_eq_true e.1
   have e2:=eqL_ok _ _ e.2
   subst e1 e2
   exact hl.1
  ·exact memF_ok hl.2 f args v hs h

end Go.Ab

/-
 From a law's contract to what its row asks.
-/
set_option linter.unusedVariables false
namespace Go.Ab
open Go Go.RowKit Go.WideShapes Go.ChangeShapes

structure Kept (w w':World):Prop where
 io:w'.os=w.os∧w'.output=w.output
 size:w.heap.size≤w'.heap.size
 block:∀k,k<w.heap.size→w'.heap[k]? =w.heap[k]?

theorem Kept.frame {W W':World}(h:Kept W W')(may:MemPlace→Prop):W.keptBut W' may:=by
 refine⟨h.io.1,h.io.2,fun i hi=>?_⟩
 rw[h.block i hi]
 split<;>simp_all
theorem Kept.same {W W':World}(h:Kept W W'){p:MemPlace}(hp:p.block<W.heap.size):W.sameAt W' p:=by
 cases p with
 |cell b o=>exact World.cell?_of_block (w:=W) (h.block b hp)
 |map b=>exact h.block b hp
theorem Kept.frozen {w w':World}(h:Kept w w'){p:Addr}(hp:p.block<w.heap.size):w'.frozen? p=w.frozen? p:=World.frozen?_of_block (w:=w) (h.block p.block hp)

section
variable {H:Type}{enc:TypeId×Value→H}{P:Program}
theorem Kept.trod {t:TypeId}(hl:laidOutB P=true)(hr:P.readableRec t=true)(hrow:t<P.types.size){W W':World}{sp:Nat→Bool}{v:Value}{d:DataW H}{ps:List MemPlace}
  (h:DataW.Trod enc P W 0 (fun _=>true) true t v d ps) (hb:Kept W W') (hlt:∀x∈ps,x.block<W.heap.size) (hsp:∀x∈ps,sp x.block=true):
  DataW.Trod enc P W' 0 sp true t v d ps:=
 WideElems.Trod_stays hl hr hrow h (fun x hx=>hb.same (hlt x hx)) hsp
theorem Kept.trodAll (hl:laidOutB P=true){W W':World}{sp:Nat→Bool}(hb:Kept W W'):∀{ts:List TypeId} {vs:List Value} {ds:List (DataW H)} {ps:List MemPlace},(ts.all fun t=>P.readableRec t&&decide (t<P.types.size))=true→
  DataW.TrodAll enc P W 0 (fun _=>true) true ts vs ds ps→(∀x∈ps,x.block<W.heap.size)→(∀x∈ps,sp x.block=true)→DataW.TrodAll enc P W' 0 sp true ts vs ds ps
 |[],vs,ds,ps,ht,h,h1,h2=>by
  obtain⟨rfl,rfl,rfl⟩:=trodAll_nil h
  exact trodAll_mk0
 |t::ts,vs,ds,ps,ht,h,h1,h2=>by
  obtain⟨v,vs',d,ds',p,q,rfl,rfl,rfl,g1,g2⟩:=trodAll_cons h
  simp only[List.all_cons,Bool.and_eq_true,decide_eq_true_eq]at ht
  exact⟨p,q,Kept.trod hl ht.1.1 ht.1.2 g1 hb (fun x hx=>h1 x (List.mem_append_left _ hx)) (fun x hx=>h2 x (List.mem_append_left _ hx)),
   Kept.trodAll hl hb (by simpa using ht.2) g2 (fun x hx=>h1 x (List.mem_append_right _ hx)) (fun x hx=>h2 x (List.mem_append_right _ hx)),rfl⟩
theorem post_of_kept {f:Func}{s:ChangeSpec}{apart fresh handsOn again:Bool}{W W':World}{args:Array Value}{v:Value}{ds gs:List (DataW H)}{before pa pv:List MemPlace}
  (hW:DataW.Whole enc P f.params.toList s.vars apart W args.toList ds gs before)
  (hres:∀(b:Nat) (sp:Nat→Bool) (hd:Bool),DataW.TrodAll enc P W' b sp hd f.resultTypes.toList (v.resultList f.resultTypes.size) (s.fn H (ds++gs)).results [])
  (hargs:∀sp:Nat→Bool,(∀p∈before,sp p.block=true)→DataW.TrodAll enc P W' 0 sp true f.params.toList args.toList (s.fn H (ds++gs)).args pa)
  (hvars:∀sp:Nat→Bool,(∀p∈before,sp p.block=true)→DataW.TrodVars enc P W' sp s.vars (s.fn H (ds++gs)).vars pv)
  (hps:before=pa++pv) (hb:Kept W W')
  (hok:∀(j:Nat) (t:TypeId) (r:Value),f.resultTypes[j]? =some t→(v.resultList f.resultTypes.size)[j]? =some r→Value.okWide P W' .any 0 t r):
  s.post enc P f apart fresh handsOn again W args v W':=by
 have hlt:∀p∈before,p.block<W.heap.size:=fun p hp=>hW.lt p hp
 have hold:∀p∈before,(fun b=>decide (b<W.heap.size)) p.block=true:=fun p hp=>by simpa using hlt p hp
 refine⟨ds,gs,before,[],pa,pv,hW,hres _ _ _,hargs _ hold,hvars _ hold,World.keptBut_mono (fun p hp=>⟨hp,?_⟩) (hb.frame (·∈before)),fun _=>?_⟩
 ·rw[hps,List.mem_append]at hp
  exact Or.inr hp
 ·obtain⟨_,_,_,_,_,hz,hn⟩:=hW
  refine⟨hok,_,_,([]++pa)++pv,⟨[]++pa,pv,trodAll_append (hargs _ (fun _ _=>rfl)) (hres _ _ _),hvars _ (fun _ _=>rfl),rfl,?_,?_⟩,?_⟩
  ·intro b off hp
   have hin:MemPlace.cell b off∈before:=by rw[hps];simpa using hp
   rw[hb.frozen (hlt _ hin)]
   exact hz b off hin
  ·intro ha
   have:=hn ha
   rw[hps]at this
   simpa using this
  ·intro p hp _
   rw[hps]
   simpa using hp
end

theorem calls_of_spec {P:Program}{G:GL}{f:Nat}{fn:Func}{c:Code}{args:List AV}{vs:Array Value}{W:World}(hs:SpecP P G f args (.bool true) [])
  (hf:P.funcs[f]? =some fn) (hname:(fn.name=="runtime.NumGoroutine")=false) (hb:fn.body=some c)
  (hg:GlobOk G (fun b=>b<W.heap.size) W) (hr:RelIs W (fun b=>b<W.heap.size) args vs.toList):Calls P f vs W fun e w'=>e=.returned (.bool true)∧Kept W w':=by
 have hm:MRel G (fun b=>b<W.heap.size) noR noH W:=⟨fun id o h=>(by cases h),fun id b h=>(by cases h),fun i j b h=>(by cases h),fun id b h=>(by cases h),fun b h=>h,hg⟩
 have key:∀v w',(∃F' ρ',MRel G F' ρ' (hsH []) w'∧Ext G (fun b=>b<W.heap.size) noR W F' ρ' w'∧RelV w' F' ρ' (hsH []) (.bool true) v)→v=.bool true∧Kept W w':=by
  rintro v w' ⟨F',ρ',h1,h2,h3⟩
  exact⟨h3.bools,⟨h2.io.1,h2.io.2.1⟩,h2.size,fun k hk=>h2.frz k hk⟩
 have h:=hs _ W vs hm hr
 unfold CallOk at h
 rw[callFunc_enter hf hname hb]at h
 rcases h with⟨nx,y,w',h1,h2,_⟩|⟨f',args',w1,h1,h2⟩|⟨l,fn',tmps,as,bd,w1,h1,_⟩
 ·cases h1;rcases h2 with h2|⟨h2,_⟩<;>cases h2
 ·cases h1
  refine h2.mono ?_
  rintro e w' ⟨v,rfl,hk⟩
  obtain⟨h3,h4⟩:=key v w' hk
  exact⟨by rw[h3],h4⟩
 ·cases h1

theorem wf_u8 {n:Int}(h:(Lit.int .u8 n).wf=true):0≤n∧n≤255:=by
 simp[Lit.wf,IntKind.min,IntKind.max,IntKind.signed,IntKind.bits]at h;omega
end Go.Ab

/-
 What is read as data, as abstract values: arguments, package-level variables.
-/
set_option linter.unusedVariables false
set_option linter.unusedSimpArgs false
set_option linter.unnecessarySimpa false
namespace Go.Ab
open Go Go.RowKit Go.WideShapes Go.ChangeShapes

inductive Sh where
 |int (k:IntKind)
 |bool
 |str
 |fn
 |sl (s:Sh)
 |st (l:List Sh)
mutual
def Sh.size:Sh→Nat
 |.st l=>sizes l
 |_=>1
def sizes:List Sh→Nat
 |[]=>0
 |s::r=>s.size+sizes r
end
def fieldsSh (P:Program)(rec:TypeId→Option Sh):List Field→Nat→Option (List Sh)
 |[],_=>some []
 |f::r,off=>match rec f.type with
  |some s=>cond (Nat.beq f.offset off&&Nat.beq (P.cellsOf f.type) s.size) (match fieldsSh P rec r (off+s.size)with
   |some l=>some (s::l)
   |none=>none) none
  |none=>none
def shp (P:Program):Nat→TypeId→Option Sh
 |0,_=>none
 |n+1,t=>match P.underlying t with
  |some .bool=>some .bool
  |some (.int k)=>some (.int k)
  |some .string=>some .str
  |some (.func _ _ _)=>some .fn
  |some (.slice e)=>match shp P n e with
   |some s=>cond (Nat.beq (P.cellsOf e) s.size&&Nat.ble 1 s.size) (some (.sl s)) none
   |none=>none
  |some (.struct fs)=>match fieldsSh P (shp P n) fs.toList 0 with
   |some l=>cond (Nat.beq (P.cellsOf t) (sizes l)) (some (.st l)) none
   |none=>none
  |some (.array m e)=>match shp P n e with
   |some s=>cond (Nat.beq (P.cellsOf e) s.size&&Nat.beq (P.cellsOf t) (m*s.size)) (some (.st (List.replicate m s))) none
   |none=>none
  |_=>none
variable {H:Type}
def numD:DataW H→Int
 |.lit (.int _ n)=>n
 |_=>0
def Sh.intK:Sh→Option IntKind
 |.int k=>some k
 |_=>none
def contOf' (k:Option IntKind)(vs:List AV)(ns:List Int):Cont:=match k with
 |some k=>.ints k ns
 |none=>.vals vs
mutual
def flat (hd:H→AV):Sh→DataW H→List AV
 |.int k,d=>match d with
  |.lit (.int _ n)=>[.int k n]
  |_=>[.undef]
 |.bool,d=>match d with
  |.lit (.bool b)=>[.bool b]
  |_=>[.undef]
 |.str,d=>match d with
  |.lit (.string s)=>[.str s]
  |_=>[.undef]
 |.fn,d=>match d with
  |.held h=>[hd h]
  |.nil=>[.nilf]
  |_=>[.undef]
 |.sl s,d=>match d with
  |.slice es _=>[.imm (contOf' s.intK (es.flatMap (flat hd s)) (es.map numD)) es.length none]
  |.nil=>[.imm (contOf' s.intK [] []) 0 none]
  |_=>[.undef]
 |.st l,d=>match d with
  |.agg ds=>flatL hd l ds
  |_=>[.undef]
def flatL (hd:H→AV):List Sh→List (DataW H)→List AV
 |[],_=>[]
 |s::l,ds=>match ds with
  |d::ds=>flat hd s d++flatL hd l ds
  |[]=>[]
end
theorem flatMap_len {α β:Type}{f:α→List β}{z:Nat}:∀{l:List α},(∀x∈l,(f x).length=z)→(l.flatMap f).length=l.length*z
 |[],_=>by simp
 |a::r,h=>by
  rw[List.flatMap_cons,List.length_append,h a (by simp),flatMap_len fun x hx=>h x (by simp[hx]),List.length_cons,Nat.succ_mul,Nat.add_comm]
theorem flatMap_get {α β:Type}{f:α→List β}{z:Nat}:∀{l:List α},(∀x∈l,(f x).length=z)→∀{i j:Nat} {a:α},l[i]? =some a→j<z→(l.flatMap f)[i*z+j]? =(f a)[j]?
 |[],_,i,j,a,h,hj=>by simp at h
 |b::r,h,0,j,a,hi,hj=>by
  simp at hi;subst hi
  rw[List.flatMap_cons,Nat.zero_mul,Nat.zero_add,List.getElem?_append_left (by rw[h b (by simp)];exact hj)]
 |b::r,h,i+1,j,a,hi,hj=>by
  have hb:=h b (by simp)
  rw[List.flatMap_cons,List.getElem?_append_right (by rw[hb,Nat.succ_mul];omega),hb,show(i+1)*z+j-z=i*z+j by rw[Nat.succ_mul];omega]
  exact flatMap_get (fun x hx=>h x (by simp[hx])) (by simpa using hi) hj

section
variable {P:Program}{W:World}{F:Nat→Prop}{enc:TypeId×Value→H}{base:Nat}{held:Bool}{hd:H→AV}
theorem RelIs.app:∀{a b:List AV} {xs ys:List Value},RelIs W F a xs→RelIs W F b ys→RelIs W F (a++b) (xs++ys)
 |[],b,[],ys,.nil,h2=>h2
 |_::_,b,_::_,ys,.cons _ _ _ _ h hs,h2=>.cons _ _ _ _ h (hs.app h2)
theorem RelIs.length:∀{a:List AV} {xs:List Value},RelIs W F a xs→a.length=xs.length
 |_,_,.nil=>rfl
 |_,_,.cons _ _ _ _ _ hs=>by simp[hs.length]
theorem RelIs.get:∀{a:List AV} {xs:List Value},RelIs W F a xs→∀{i:Nat} {v:AV} {x:Value},a[i]? =some v→xs[i]? =some x→RelI W F v x
 |_,_,.nil,i,v,x,h,_=>by simp at h
 |_,_,.cons _ _ _ _ h hs,0,v,x,h1,h2=>by simp at h1 h2;subst h1 h2;exact h
 |_,_,.cons _ _ _ _ h hs,i+1,v,x,h1,h2=>hs.get (by simpa using h1) (by simpa using h2)
def OneCells (cs:List Value):Prop:=∀x∈cs,x.oneCell'=true
theorem rel_pieces:∀(l:List Sh) (ds:List (DataW H)) (cs:List Value) (off:Nat),l.length=ds.length→
  (∀i s d,l[i]? =some s→ds[i]? =some d→RelIs W F (flat hd s d) ((cs.drop (off+sizes (l.take i))).take s.size)∧OneCells ((cs.drop (off+sizes (l.take i))).take s.size))→
  RelIs W F (flatL hd l ds) ((cs.drop off).take (sizes l))∧OneCells ((cs.drop off).take (sizes l))
 |[],[],cs,off,_,h=>by simp[sizes,flatL,OneCells];exact .nil
 |[],_::_,cs,off,hl,h=>by simp at hl
 |_::_,[],cs,off,hl,h=>by simp at hl
 |s::l,d::ds,cs,off,hl,h=>by
  have h0:=h 0 s d rfl rfl
  simp only[List.take_zero,sizes,Nat.add_zero]at h0
  have ih:=rel_pieces l ds cs (off+s.size) (by simpa using hl) (fun i s' d' h1 h2=>by
   have:=h (i+1) s' d' (by simpa using h1) (by simpa using h2)
   simpa[sizes,Nat.add_assoc]using this)
  have e:(cs.drop off).take (sizes (s::l))=(cs.drop off).take s.size++(cs.drop (off+s.size)).take (sizes l):=by
   simp only[sizes]
   rw[List.take_add,List.drop_drop]
  rw[e]
  refine⟨h0.1.app ih.1,fun x hx=>?_⟩
  rcases List.mem_append.1 hx with hx|hx
  ·exact h0.2 x hx
  ·exact ih.2 x hx

theorem fieldsSh_ok {rec:TypeId→Option Sh}:∀{fs:List Field} {off:Nat} {l:List Sh},fieldsSh P rec fs off=some l→l.length=fs.length∧∀i (f:Field),fs[i]? =some f→∃s,l[i]? =some s∧rec f.type=some s∧f.offset=off+sizes (l.take i)∧P.cellsOf f.type=s.size
 |[],off,l,h=>by cases h;simp
 |f::r,off,l,h=>by
  simp only[fieldsSh]at h
  split at h
  ·rename_i s hs
   rw[cond_eq_ite]at h
   split at h
   ·rename_i hc
    rw[Bool.and_eq_true]at hc
    split at h
    ·rename_i l' hl'
     cases h
     obtain⟨i1,i2⟩:=fieldsSh_ok hl'
     refine⟨by simp[i1],fun i g hg=>?_⟩
     cases i with
     |zero=>simp at hg;subst hg;exact⟨s,rfl,hs,by simpa[sizes]using Nat.eq_of_beq_eq_true hc.1,Nat.eq_of_beq_eq_true hc.2⟩
     |succ i=>
      obtain⟨s',g1,g2,g3,g4⟩:=i2 i g (by simpa using hg)
      exact⟨s',by simpa using g1,g2,by simp[sizes];omega,g4⟩
    ·cases h
   ·cases h
  ·cases h
theorem sizes_rep (s:Sh):∀m,sizes (List.replicate m s)=m*s.size
 |0=>by simp[sizes]
 |m+1=>by rw[List.replicate_succ];simp only[sizes];rw[sizes_rep s m,Nat.succ_mul,Nat.add_comm]

theorem mapM_get {α β:Type}{f:α→Option β}{l:List α}{r:List β}(h:l.mapM f=some r):r.length=l.length∧∀(i:Nat) (a:α),l[i]? =some a→∃b,r[i]? =some b∧f a=some b:=
 ⟨Lib.mapM_length h,fun i a hi=>Lib.mapM_at h i a hi⟩
example:flat (H:=Unit) (fun _=>.undef) (.st [.int .u8,.sl (.int .u8)]) (.agg [.lit (.int .u8 1),.nil])=[.int .u8 1,.imm (.ints .u8 []) 0 none]:=rfl

theorem shp_int:∀{n:Nat} {t:TypeId} {k:IntKind},shp P n t=some (.int k)→P.underlying t=some (.int k)
 |0,t,k,h=>by cases h
 |n+1,t,k,h=>by
  simp only[shp]at h
  split at h
  ·cases h
  ·rename_i k' hu;cases h;exact hu
  ·cases h
  ·cases h
  ·split at h
   ·rw[cond_eq_ite]at h;split at h<;>cases h
   ·cases h
  ·split at h
   ·rw[cond_eq_ite]at h;split at h<;>cases h
   ·cases h
  ·split at h
   ·rw[cond_eq_ite]at h;split at h<;>cases h
   ·cases h
  ·cases h
theorem trod_rel (hhd:held=true→∀t f x y,RelI W F (hd (enc (t,.func f x y))) (.func f x y))(hF:∀b,b<W.heap.size→F b):∀(n:Nat) (t:TypeId) (s:Sh),shp P n t=some s→∀(fuel:Nat) (cs:List Value) (x:DataW H×List MemPlace),
  DataW.trod enc P W base (fun _=>true) held fuel t cs=some x→RelIs W F (flat hd s x.1) cs∧OneCells cs∧cs.length=s.size:=by
 intro n
 induction n with
 |zero=>intro t s h;simp[shp]at h
 |succ n ih=>
  intro t s hs fuel cs x hx
  simp only[shp]at hs
  split at hs
  ·rename_i hu
   cases hs
   obtain⟨b,rfl,rfl⟩:=DataW.trod_bool hu hx
   exact⟨.cons _ _ _ _ (.bool b) .nil,by simp[OneCells,Value.oneCell'],rfl⟩
  ·rename_i k hu
   cases hs
   obtain⟨m,rfl,rfl,_⟩:=DataW.trod_int hu hx
   exact⟨.cons _ _ _ _ (.int k m) .nil,by simp[OneCells,Value.oneCell'],rfl⟩
  ·rename_i hu
   cases hs
   obtain⟨b,rfl,rfl,_⟩:=DataW.trod_string hu hx
   exact⟨.cons _ _ _ _ (.str _ _ rfl) .nil,by simp[OneCells,Value.oneCell'],rfl⟩
  ·rename_i hu
   cases hs
   cases fuel with
   |zero=>simp[DataW.trod]at hx
   |succ fuel=>
    unfold DataW.trod at hx
    rw[hu]at hx
    split at hx<;>simp_all
    ·rename_i hcs
     subst hx
     exact⟨.cons _ _ _ _ .nilf .nil,by simp[OneCells,Value.oneCell'],rfl⟩
    ·obtain⟨h1,rfl⟩:=hx
     exact⟨.cons _ _ _ _ (hhd _ _ _ _) .nil,by simp[OneCells,Value.oneCell'],rfl⟩
  ·rename_i e hu
   split at hs
   ·rename_i s' hs'
    rw[cond_eq_ite]at hs
    split at hs
    ·rename_i hc
     cases hs
     rw[Bool.and_eq_true]at hc
     have hz:=Nat.eq_of_beq_eq_true hc.1
     have hz1:=Nat.le_of_ble_eq_true hc.2
     rcases DataW.trod_slice hu hx with⟨rfl,rfl⟩|⟨a,len,cap,elems,rest,m,rfl,rfl,rfl,hb,hl,hm,hlen,hel,hsp,_⟩
     ·refine⟨.cons _ _ _ _ (.imm0 _ _ _ ?_ (fun n e=>by cases e)) .nil,by simp[OneCells,Value.oneCell'],rfl⟩
      cases s'<;>rfl
     ·refine⟨.cons _ _ _ _ ?_ .nil,by simp[OneCells,Value.oneCell'],rfl⟩
      have hrest:=(hsp rfl).1
      have hrest2:=(hsp rfl).2
      -- each element's cells
      have each:∀j,j<cap→∃y cs,(W.cells? base (a.add (j*P.cellsOf e)) (P.cellsOf e))=some cs∧DataW.trod enc P W base (fun _=>true) held m e cs=some y:=by
       intro j hj
       have:∃y,(W.cells? base (a.add (j*P.cellsOf e)) (P.cellsOf e)).bind (DataW.trod enc P W base (fun _=>true) held m e)=some y:=by
        by_cases h:j<len
        ·rw[hel j h,List.getElem?_eq_getElem (by omega)];exact⟨_,rfl⟩
        ·have:=hrest2 (j-len) (by omega)
         rw[show len+(j-len)=j by omega]at this
         rw[this,List.getElem?_eq_getElem (by omega)];exact⟨_,rfl⟩
       obtain⟨y,hy⟩:=this
       rw[Option.bind_eq_some_iff]at hy
       obtain⟨cs,h1,h2⟩:=hy
       exact⟨y,cs,h1,h2⟩
      have cellsOk:∀(p:Addr) (cs:List Value),W.cells? base p (P.cellsOf e)=some cs→cs.length=s'.size∧∀r x,cs[r]? =some x→W.cell? (p.add r)=some x:=by
       intro p cs h
       unfold World.cells? at h
       split at h
       ·obtain⟨g1,g2⟩:=mapM_get h
        refine⟨by rw[g1,List.length_range,hz],fun r x hr=>?_⟩
        have hlt:r<P.cellsOf e:=by
         have:=(List.getElem?_eq_some_iff.1 hr).1
         rw[g1,List.length_range]at this;exact this
        obtain⟨b,b1,b2⟩:=g2 r r (by simp[hlt])
        rw[hr]at b1;cases b1
        exact b2
       ·cases h
      by_cases h0:cap=0
      ·have hl0:len=0:=by omega
       subst h0 hl0
       have hnil:elems=[]:=List.eq_nil_of_length_eq_zero hlen
       subst hnil
       exact .imm0 _ _ _ (by cases s'<;>rfl) (fun n e=>by cases e)
      ·obtain⟨y0,cs0,k1,k2⟩:=each 0 (by omega)
       obtain⟨k3,k4⟩:=cellsOk _ _ k1
       have hcell:∃x,W.cell? a=some x:=by
        have hlt:0<cs0.length:=by omega
        have:=k4 0 _ (List.getElem?_eq_getElem hlt)
        simp[Addr.add]at this
        exact⟨_,this⟩
       obtain⟨x0,hx0⟩:=hcell
       have hs:a.spot=none∧a.block<W.heap.size:=by
        simp only[World.cell?]at hx0
        split at hx0
        ·rename_i hb
         split at hx0
         ·cases hx0
         ·rename_i hsp
          exact⟨by cases e:a.spot with
           |none=>rfl
           |some _=>simp[e]at hsp,lt_of_some hb⟩
        ·cases hx0
       have ha:a=⟨a.block,a.off,none⟩:=by cases a;simp_all
       have hadd:∀i r,(a.add (i*P.cellsOf e)).add r=⟨a.block,a.off+(i*s'.size+r),none⟩:=by
        intro i r
        rw[ha,hz]
        by_cases h1:i*s'.size=0<;>by_cases h2:r=0<;>simp[Addr.add,h1,h2,Nat.add_assoc]
       have elem:∀i,i<len→∃y cs,elems[i]? =some y∧DataW.trod enc P W base (fun _=>true) held m e cs=some y∧RelIs W F (flat hd s' y.1) cs∧OneCells cs∧cs.length=s'.size∧∀r x,cs[r]? =some x→W.cell? ⟨a.block,a.off+(i*s'.size+r),none⟩=some x:=by
        intro i hi
        obtain⟨y,cs,e1,e2⟩:=each i (by omega)
        have e3:=hel i hi
        rw[e1]at e3
        simp only[Option.bind_some]at e3
        rw[e2]at e3
        obtain⟨i1,i2,i3⟩:=ih _ _ hs' m cs y e2
        refine⟨y,cs,e3.symm,e2,i1,i2,i3,fun r x hr=>?_⟩
        rw[← hadd i r]
        exact(cellsOk _ _ e1).2 r x hr
       have flen:∀d∈elems.map (·.1),(flat hd s' d).length=s'.size:=by
        intro d hd'
        obtain⟨y,hy,rfl⟩:=List.mem_map.1 hd'
        obtain⟨i,hi,rfl⟩:=List.getElem_of_mem hy
        obtain⟨y',cs,e1,_,e2,_,e4,_⟩:=elem i (by omega)
        rw[List.getElem?_eq_getElem hi]at e1;cases e1
        rw[e2.length,e4]
       have csize:(contOf' s'.intK ((elems.map (·.1)).flatMap (flat hd s')) ((elems.map (·.1)).map numD)).size=len*s'.size:=by
        cases s'<;>simp only[Sh.intK,contOf',Cont.size]<;>first
         |(rw[flatMap_len flen];simp[hlen])
         |(simp[hlen,Sh.size])
       rw[ha]
       have hml:(elems.map (·.1)).length=len:=by simp[hlen]
       rw[hml]
       refine .imm _ _ _ a.block a.off cap (fun j=>(W.cell? ⟨a.block,a.off+j,none⟩).getD undef) (hF _ hs.2) (fun j hj=>?_) (fun j hj=>?_) (fun j hj=>?_) hl (fun n e=>by cases e)
       all_goals
        rw[csize]at hj
        have hdiv:j/s'.size<len:=Nat.div_lt_of_lt_mul (by rw[Nat.mul_comm];exact hj)
        have hmod:j%s'.size<s'.size:=Nat.mod_lt _ hz1
        obtain⟨y,cs,e1,e0,e2,e3,e4,e5⟩:=elem (j/s'.size) hdiv
        have hjj:j/s'.size*s'.size+j%s'.size=j:=by rw[Nat.mul_comm];exact Nat.div_add_mod j s'.size
        have hr:cs[j%s'.size]? =some (cs[j%s'.size]'(by omega)):=List.getElem?_eq_getElem (by omega)
        have e6:=e5 _ _ hr
        rw[hjj]at e6
        simp only[e6,Option.getD_some]
       ·have hfl:(flat hd s' y.1)[j%s'.size]? =some ((flat hd s' y.1)[j%s'.size]'(by rw[e2.length,e4];exact hmod)):=List.getElem?_eq_getElem _
        have hrel:=e2.get hfl hr
        have hmap:(elems.map (·.1))[j/s'.size]? =some y.1:=by rw[List.getElem?_map,e1];rfl
        have hgv:(contOf' s'.intK ((elems.map (·.1)).flatMap (flat hd s')) ((elems.map (·.1)).map numD)).getV j=(flat hd s' y.1)[j%s'.size]'(by rw[e2.length,e4];exact hmod):=by
         have gen:((elems.map (·.1)).flatMap (flat hd s')).getD j .undef=(flat hd s' y.1)[j%s'.size]'(by rw[e2.length,e4];exact hmod):=by
          rw[List.getD_eq_getElem?_getD]
          have:=flatMap_get (f:=flat hd s') flen hmap hmod
          rw[hjj,hfl]at this
          rw[this];rfl
         cases s' with
         |int k=>
          simp only[Sh.size,Nat.div_one,Nat.mod_one]at*
          simp only[Sh.intK,contOf',Cont.getV]
          rw[List.getD_eq_getElem?_getD,List.getElem?_map,hmap]
          obtain⟨v,_,rfl,_⟩:=DataW.trod_int (shp_int hs') e0
          rfl
         |_=>exact gen
        rw[hgv];exact hrel
       ·exact e3 _ (List.mem_of_getElem? hr)
    ·cases hs
   ·cases hs
  ·rename_i fs hu
   split at hs
   ·rename_i l hl
    rw[cond_eq_ite]at hs
    split at hs
    ·rename_i hc
     cases hs
     have hcells:=Nat.eq_of_beq_eq_true hc
     obtain⟨xs,m,rfl,rfl,hlen,hxl,hget⟩:=DataW.trod_struct hu hx
     obtain⟨f1,f2⟩:=fieldsSh_ok hl
     have key:=rel_pieces (W:=W) (F:=F) (hd:=hd) l (xs.map (·.1)) cs 0 (by simp[hxl,f1]) (fun i s d h1 h2=>by
      have hi:i<fs.toList.length:=by
       have:=(List.getElem?_eq_some_iff.1 h1).1
       omega
      obtain⟨s2,g1,g2,g3,g4⟩:=f2 i fs.toList[i] (List.getElem?_eq_getElem hi)
      rw[h1]at g1;cases g1
      have hq:=hget i fs.toList[i] (by simpa using List.getElem?_eq_getElem hi)
      rw[List.getElem?_map]at h2
      cases hxi:xs[i]? with
      |none=>rw[hxi]at h2;cases h2
      |some y=>
       rw[hxi]at h2 hq
       cases h2
       obtain⟨r1,r2,r3⟩:=ih _ _ g2 m _ y hq
       rw[← g3,← g4]
       exact⟨r1,r2⟩)
     rw[List.drop_zero,List.take_of_length_le (by omega)]at key
     exact⟨key.1,key.2,by rw[hlen,hcells];rfl⟩
    ·cases hs
   ·cases hs
  ·rename_i m e hu
   split at hs
   ·rename_i s' hs'
    rw[cond_eq_ite]at hs
    split at hs
    ·rename_i hc
     cases hs
     rw[Bool.and_eq_true]at hc
     have hz:=Nat.eq_of_beq_eq_true hc.1
     have hcells:=Nat.eq_of_beq_eq_true hc.2
     cases fuel with
     |zero=>simp[DataW.trod]at hx
     |succ fuel=>
      unfold DataW.trod at hx
      rw[hu]at hx
      simp only at hx
      split at hx
      ·rename_i hlen
       rw[Option.map_eq_some_iff]at hx
       obtain⟨xs,hxs,rfl⟩:=hx
       obtain⟨q1,q2⟩:=mapM_get hxs
       have key:=rel_pieces (W:=W) (F:=F) (hd:=hd) (List.replicate m s') (xs.map (·.1)) cs 0 (by simp[q1]) (fun i s d h1 h2=>by
        have hi:i<m:=by
         have:=(List.getElem?_eq_some_iff.1 h1).1
         simpa using this
        rw[List.getElem?_replicate,if_pos hi]at h1
        cases h1
        obtain⟨y,y1,y2⟩:=q2 i i (by simp[hi])
        rw[List.getElem?_map,y1]at h2
        cases h2
        obtain⟨r1,r2,r3⟩:=ih _ _ hs' fuel _ y y2
        have et:(List.replicate m s').take i=List.replicate i s':=by rw[List.take_replicate,Nat.min_eq_left (by omega)]
        rw[et,sizes_rep,Nat.zero_add,← hz]
        exact⟨r1,r2⟩)
       rw[List.drop_zero,List.take_of_length_le (by rw[sizes_rep];omega)]at key
       exact⟨key.1,key.2,by rw[hlen,hcells];show _=sizes _;rw[sizes_rep]⟩
      ·cases hx
    ·cases hs
   ·cases hs
  ·cases hs

mutual
def Conf:Sh→DataW H→Prop
 |.int k,d=>∃n,d=.lit (.int k n)∧(Lit.int k n).wf=true
 |.bool,d=>∃b,d=.lit (.bool b)
 |.str,d=>∃s,d=.lit (.string s)∧s.length≤maxLen
 |.fn,_=>True
 |.sl s,d=>d=.nil∨∃es sp,d=.slice es sp∧es.length≤maxLen∧∀x∈es,Conf s x
 |.st l,d=>∃ds,d=.agg ds∧ConfL l ds
def ConfL:List Sh→List (DataW H)→Prop
 |[],ds=>ds=[]
 |s::l,ds=>∃d r,ds=d::r∧Conf s d∧ConfL l r
end
theorem confL_of:∀{l:List Sh} {ds:List (DataW H)},l.length=ds.length→(∀(i:Nat) (s:Sh) (d:DataW H),l[i]? =some s→ds[i]? =some d→Conf s d)→ConfL l ds
 |[],[],_,_=>rfl
 |[],_::_,h,_=>by simp at h
 |_::_,[],h,_=>by simp at h
 |s::l,d::ds,h,k=>⟨d,ds,rfl,k 0 s d rfl rfl,confL_of (by simpa using h) (fun i s' d' h1 h2=>k (i+1) s' d' (by simpa using h1) (by simpa using h2))⟩
theorem trod_conf:∀(n:Nat) (t:TypeId) (s:Sh),shp P n t=some s→∀(fuel:Nat) (cs:List Value) (x:DataW H×List MemPlace),DataW.trod enc P W base (fun _=>true) held fuel t cs=some x→Conf s x.1:=by
 intro n
 induction n with
 |zero=>intro t s h;simp[shp]at h
 |succ n ih=>
  intro t s hs fuel cs x hx
  simp only[shp]at hs
  split at hs
  ·rename_i hu
   cases hs
   obtain⟨b,rfl,rfl⟩:=DataW.trod_bool hu hx
   exact⟨b,rfl⟩
  ·rename_i k hu
   cases hs
   obtain⟨m,rfl,rfl,hw⟩:=DataW.trod_int hu hx
   exact⟨m,rfl,hw⟩
  ·rename_i hu
   cases hs
   obtain⟨b,rfl,rfl,hb⟩:=DataW.trod_string hu hx
   exact⟨_,rfl,hb⟩
  ·cases hs;trivial
  ·rename_i e hu
   split at hs
   ·rename_i s' hs'
    rw[cond_eq_ite]at hs
    split at hs
    ·cases hs
     rcases DataW.trod_slice hu hx with⟨rfl,rfl⟩|⟨a,len,cap,elems,rest,m,rfl,rfl,rfl,hb,hl,hm,hlen,hel,_,_⟩
     ·exact .inl rfl
     ·refine .inr ⟨_,_,rfl,by simp;omega,fun d hd'=>?_⟩
      obtain⟨y,hy,rfl⟩:=List.mem_map.1 hd'
      obtain⟨i,hi,rfl⟩:=List.getElem_of_mem hy
      have:=hel i (by omega)
      rw[List.getElem?_eq_getElem hi,Option.bind_eq_some_iff]at this
      obtain⟨cs',_,h2⟩:=this
      exact ih _ _ hs' m cs' _ h2
    ·cases hs
   ·cases hs
  ·rename_i fs hu
   split at hs
   ·rename_i l hl
    rw[cond_eq_ite]at hs
    split at hs
    ·cases hs
     obtain⟨xs,m,rfl,rfl,hlen,hxl,hget⟩:=DataW.trod_struct hu hx
     obtain⟨f1,f2⟩:=fieldsSh_ok hl
     refine⟨_,rfl,confL_of (by simp[hxl,f1]) fun i s d h1 h2=>?_⟩
     have hi:i<fs.toList.length:=by
      have:=(List.getElem?_eq_some_iff.1 h1).1
      omega
     obtain⟨s2,g1,g2,g3,g4⟩:=f2 i fs.toList[i] (List.getElem?_eq_getElem hi)
     rw[h1]at g1;cases g1
     have hq:=hget i fs.toList[i] (by simpa using List.getElem?_eq_getElem hi)
     rw[List.getElem?_map]at h2
     cases hxi:xs[i]? with
     |none=>rw[hxi]at h2;cases h2
     |some y=>
      rw[hxi]at h2 hq
      cases h2
      exact ih _ _ g2 m _ y hq
    ·cases hs
   ·cases hs
  ·rename_i m e hu
   split at hs
   ·rename_i s' hs'
    rw[cond_eq_ite]at hs
    split at hs
    ·cases hs
     cases fuel with
     |zero=>simp[DataW.trod]at hx
     |succ fuel=>
      unfold DataW.trod at hx
      rw[hu]at hx
      simp only at hx
      split at hx
      ·rw[Option.map_eq_some_iff]at hx
       obtain⟨xs,hxs,rfl⟩:=hx
       obtain⟨q1,q2⟩:=mapM_get hxs
       refine⟨_,rfl,confL_of (by simp[q1]) fun i s d h1 h2=>?_⟩
       have hi:i<m:=by
        have:=(List.getElem?_eq_some_iff.1 h1).1
        simpa using this
       rw[List.getElem?_replicate,if_pos hi]at h1
       cases h1
       obtain⟨y,y1,y2⟩:=q2 i i (by simp[hi])
       rw[List.getElem?_map,y1]at h2
       cases h2
       exact ih _ _ hs' fuel _ y y2
      ·cases hx
    ·cases hs
   ·cases hs
  ·cases hs

def argV (hd:H→AV)(s:Sh)(d:DataW H):AV:=match s with
 |.st _=>.agg (flat hd s d)
 |.fn=>.undef
 |s=>(flat hd s d).getD 0 .undef
def noHd:H→AV:=fun _=>.undef
theorem noHd_ok {b:Bool}:b=true→∀t f x y,RelI W F (noHd (enc (t,Value.func f x y))) (.func f x y):=fun _ _ _ _ _=>.undef _
theorem arg_rel {r:Reach}{b0 n:Nat}{t:TypeId}{s:Sh}{v:Value}{d:DataW H}{p:List MemPlace}(hs:shp P n t=some s)(hv:Value.okWide P W r b0 t v)(h:DataW.Trod enc P W base (fun _=>true) held t v d p):
  RelI W (fun b=>b<W.heap.size) (argV noHd s d) v∧Conf s d:=by
 obtain⟨fuel,hf⟩:=h
 obtain⟨h1,h2,h3⟩:=trod_rel (F:=fun b=>b<W.heap.size) (hd:=noHd) noHd_ok (fun _ h=>h) n t s hs fuel _ _ hf
 refine⟨?_,trod_conf n t s hs fuel _ _ hf⟩
 have one:∀{y:Value},v=y→y.cells= #[y]→(∃u,flat noHd s d=[u])→argV noHd s d=(flat noHd s d).getD 0 .undef→RelI W (fun b=>b<W.heap.size) (argV noHd s d) v:=by
  rintro y rfl hc ⟨u,hu⟩ ha
  have h1':RelIs W (fun b=>b<W.heap.size) (flat noHd s d) v.cells.toList:=h1
  rw[hc,hu]at h1'
  rw[ha,hu]
  cases h1' with
  |cons _ _ _ _ h _=>exact h
 have hlen:∀{u:List AV},flat noHd s d=u→s.size=1→∃x,u=[x]:=by
  intro u hu hsz
  have:=h1.length
  rw[hu,h3,hsz]at this
  exact List.length_eq_one_iff.1 this
 cases n with
 |zero=>cases hs
 |succ n=>
  simp only[shp]at hs
  split at hs
  ·rename_i hu
   cases hs
   obtain⟨b,rfl⟩:=okWide_bool hu hv
   exact one rfl rfl (hlen rfl rfl) rfl
  ·rename_i k hu
   cases hs
   obtain⟨m,rfl⟩:=okWide_int hu hv
   exact one rfl rfl (hlen rfl rfl) rfl
  ·rename_i hu
   cases hs
   obtain⟨b,rfl⟩:=okWide_string hu hv
   exact one rfl rfl (hlen rfl rfl) rfl
  ·cases hs;exact .undef _
  ·rename_i e hu
   split at hs
   ·rw[cond_eq_ite]at hs
    split at hs
    ·cases hs
     obtain⟨a,len,cap,rfl⟩:=okWide_slice hu hv
     exact one rfl rfl (hlen rfl rfl) rfl
    ·cases hs
   ·cases hs
  ·rename_i fs hu
   split at hs
   ·rw[cond_eq_ite]at hs
    split at hs
    ·cases hs
     simp only[Value.okWide,hu]at hv
     obtain⟨cs,rfl,_,_⟩:=hv
     exact .agg _ _ h1
    ·cases hs
   ·cases hs
  ·rename_i m e hu
   split at hs
   ·rw[cond_eq_ite]at hs
    split at hs
    ·cases hs
     simp only[Value.okWide,hu]at hv
     obtain⟨cs,rfl,_,_⟩:=hv
     exact .agg _ _ h1
    ·cases hs
   ·cases hs
  ·cases hs

def GlobAt (W:World)(g:Nat)(c:Cont):Prop:=g<W.heap.size∧∃xs:Nat→Value,(∀i,i<c.size→W.cell? ⟨g,i,none⟩=some (xs i))∧(∀i,i<c.size→RelI W (fun b=>b<W.heap.size) (c.getV i) (xs i))∧(∀i,i<c.size→(xs i).oneCell'=true)
theorem glob_rel {g n:Nat}{t:TypeId}{s:Sh}{cs:Array Value}{fuel:Nat}{name:String}{d:DataW H}{p:List MemPlace}(hs:shp P n t=some s)(hg:P.globalNamed name=some g)(hvar:W.var? P name=some cs)
  (hhd:held=true→∀t f x y,RelI W (fun b=>b<W.heap.size) (hd (enc (t,.func f x y))) (.func f x y))
  (h:DataW.trod enc P W base (fun _=>true) held fuel t cs.toList=some (d,p)) {c:Cont} (hc:c.size=(flat hd s d).length∧∀i,i<c.size→c.getV i=(flat hd s d).getD i .undef):GlobAt W g c:=by
 obtain⟨h1,h2,h3⟩:=trod_rel (F:=fun b=>b<W.heap.size) hhd (fun _ h=>h) n t s hs fuel _ _ h
 have hlen:(flat hd s d).length=cs.toList.length:=h1.length
 have hlt:g<W.heap.size:=by
  simp only[World.var?,hg,Option.bind_some]at hvar
  split at hvar
  ·rename_i hh;exact lt_of_some hh
  ·cases hvar
 have key:∀i,i<c.size→∃x,cs[i]? =some x∧(flat hd s d)[i]? =some (c.getV i)∧RelI W (fun b=>b<W.heap.size) (c.getV i) x∧x.oneCell'=true:=by
  intro i hi
  have hi2:i<(flat hd s d).length:=by omega
  have hi3:i<cs.toList.length:=by omega
  have e1:(flat hd s d)[i]? =some (c.getV i):=by
   rw[hc.2 i hi,List.getD_eq_getElem?_getD,List.getElem?_eq_getElem hi2];rfl
  have e2:cs.toList[i]? =some cs.toList[i]:=List.getElem?_eq_getElem hi3
  exact⟨cs.toList[i],by simpa using e2,e1,h1.get e1 e2,h2 _ (List.getElem_mem hi3)⟩
 refine⟨hlt,fun i=>cs.getD i undef,fun i hi=>?_,fun i hi=>?_,fun i hi=>?_⟩
 all_goals
  obtain⟨x,k1,k2,k3,k4⟩:=key i hi
  have kx:cs.getD i undef=x:=by rw[Array.getD_eq_getD_getElem?,k1];rfl
  simp only[kx]
 ·rw[World.var?_cell hg hvar i,k1]
 ·exact k3
 ·exact k4
theorem cont_vals {l:List AV}:(Cont.vals l).size=l.length∧∀i,i<(Cont.vals l).size→(Cont.vals l).getV i=l.getD i .undef:=⟨rfl,fun i hi=>rfl⟩
theorem laid_one {name:String}{dt:DataW Unit}{rest:List (String×DataW Unit)}{ps:List MemPlace}{g n:Nat}{t:TypeId}{s:Sh}(hg:P.globalNamed name=some g)(hty:(P.globals[g]?).map (·.type)=some t)(hs:shp P n t=some s)
  (h:DataW.LaidVars P W ((name,dt)::rest) ps) {c:Cont} (hc:c.size=(flat noHd s dt).length∧∀i,i<c.size→c.getV i=(flat noHd s dt).getD i .undef):GlobAt W g c∧∃q,DataW.LaidVars P W rest q:=by
 obtain⟨g',t',cs,fuel,p,q,hg',ht',hvar,hd',hr,_⟩:=h
 obtain rfl:=Option.some.inj (hg.symm.trans hg')
 obtain rfl:=Option.some.inj (hty.symm.trans ht')
 exact⟨glob_rel (hd:=noHd) hs hg hvar noHd_ok hd' hc,q,hr⟩

end
end Go.Ab
