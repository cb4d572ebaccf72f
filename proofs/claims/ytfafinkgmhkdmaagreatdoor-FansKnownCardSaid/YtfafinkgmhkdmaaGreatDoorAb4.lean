/- An abstract reading of the program: what its operations do to what is known of memory. Part 4 of 7. -/
import Derived.Test.YtfafinkgmhkdmaaGreatDoorAb3
import Derived.RangeFuncLeaves
import Derived.RangeFuncIn
import Derived.RangeFuncRecord
import Derived.Laws.StandIn
import Derived.Lib.Bytealg
import Derived.Below
import Derived.ChangeSame
import Derived.Carry
import Derived.WideKeyArgs
import Derived.Lib.LaidTab
import Derived.ChangeSlices
set_option linter.unusedVariables false
set_option linter.unusedSimpArgs false
namespace Go.Ab
open Go
section
variable {P:Program}{G:GL}{md:Md}{hs:A0i}{dd:Dirs}{F:Nat->Prop}{ρ:Nat->Option Nat}{a:Act}{w:World}
theorem B4X {α:Type}(l:List (Nat×α))(k:Nat){t:Nat}{v:α}(h:aget (B1J l k) t=some v):aget l t=some v:=by
 induction l with
 |nil=>cases h
 |cons p r ih=>
  obtain⟨j,u⟩:=p;simp only[B1J]at h;simp only[aget]
  by_cases e:j=k
  ·subst e;rw[A0t,cond_true]at h;have:=ih h
   by_cases e':j=t
   ·subst e';exfalso;clear ih this
    induction r with
    |nil=>cases h
    |cons q r ih=>
     obtain⟨i,x⟩:=q;simp only[B1J]at h
     by_cases e2:i=j
     ·subst e2;rw[A0t,cond_true]at h;exact ih h
     ·rw[A0O e2,cond_false]at h;simp only[aget]at h;rw[A0O e2,cond_false]at h;exact ih h
   ·rw[A0O e',cond_false];exact this
  ·rw[A0O e,cond_false]at h;simp only[aget]at h
   by_cases e':j=t
   ·subst e';rw[A0t,cond_true]at h ⊢; exact h
   ·rw[A0O e',cond_false]at h ⊢; exact ih h
theorem A94 {α:Type}:∀(ks:List Nat) (l:List (Nat×α)) {t:Nat} {v:α},aget (C1Y l ks) t=some v->aget l t=some v
 |[],l,t,v,h=>h
 |k::r,l,t,v,h=>B4X l k (A94 r (B1J l k) h)
theorem A8K {S:St}{dead:List Nat}(h:RS G F ρ S a w):RS G F ρ (B4V S dead) a w:=
 ⟨h.size,fun t v hv=>h.tmps t v (A94 dead S.t hv),h.mem,h.defs⟩
theorem B4Y {S S':St}{t:Nat}{cs:List Cd}(h:C1Z S t=some (S',cs))(hc:A0M (A1n P G) cs)(hr:RS G F ρ S a w):∃F',RS G F' ρ S' a w/\Ext G F ρ w F' ρ w/\HKeep w ρ (aget S.h) w ρ (aget S'.h):=by
 unfold C1Z at h;split at h
 ·rename_i v hv;split at h
  ·rename_i v' ids cs' hz;rw[cond_eq_ite]at h;split at h
   ·rename_i hlt;cases h;obtain⟨F1,f1,f2,f3,f4,f5,f6⟩:=A68 (look:=aget S.h) ids F (aget S.h) hr.mem (fun id k hk=>.inl hk);have hids:=(A3I 60).1 _ _ _ _ hz;have hs:=(A2l (Sp:=A1n P G) hr.mem (fun _ _ h=>h) f2.keep 60).1 _ _ _ _ hz hc (fun id hid b hb=>f4 id hid (hids id hid) b hb);have hx:=hs _ (hr.tmps t v hv);refine⟨F1,⟨hr.size,fun u y hu=>?_,?_,hr.defs.ext f2 rfl⟩,f2,by simp only[A1C];exact f3⟩
    ·simp only[A1C];rw[A0o]at hu
     by_cases e:u=t
     ·subst e;rw[A0e]at hu;cases hu;exact .imm _ _ hx
     ·rw[A0a _ _ e]at hu;exact(hr.tmps u y hu).mono (fun _ _=>rfl) f2.keep f3
    ·simp only[A1C];exact f1
   ·cases h
  ·cases h
 ·cases h
theorem A8L {S S':St}{t id sz:Nat}{c:Cont}(h:C6G S t id sz c=some S')(hr:RS G F ρ S a w):RS G F ρ S' a w/\HKeep w ρ (aget S.h) w ρ (aget S'.h):=by
 unfold C6G at h;split at h
 ·rename_i hv;rw[cond_eq_ite]at h;split at h
  ·rename_i hc;rw[Bool.and_eq_true]at hc;cases h;have hf:=A1s hc.1 id (by simp);have hz:=Nat.eq_of_beq_eq_true hc.2;obtain⟨m1,m2,m3⟩:=hr.mem.ghost (site:=id) (k:={c,sz,n:=0,cap:=some 0,nil:=some true,mu:=true,bx:=false}) hf rfl hz;refine⟨⟨hr.size,fun u y hu=>?_,?_,hr.defs⟩,by simp only[A0o];exact m3⟩
   ·simp only[A0o]at hu ⊢
    by_cases e:u=t
    ·subst e;rw[A0e]at hu;cases hu;have hx:=hr.tmps u _ hv;cases hx with
     |imm _ _ hi=>
      generalize he:a.tmps.getD u undef=z at hi;cases hi;exact .full id 0 _ _ (A0e _ _ _) (Nat.le_refl _) ⟨_,_,_,rfl⟩ (fun _=>.inl ⟨rfl,(fun e=>by cases e),(fun n e=>by cases e;rfl),rfl⟩)
    ·rw[A0a _ _ e]at hu;exact(hr.tmps u y hu).mono (fun _ _=>rfl) (fun _ h=>h) m3
   ·simp only[A0o];exact m1
  ·cases h
 ·cases h
theorem A95 {ops:Array Oper}{o:Oper}{x:XO}(h:A54 P ops o=some x):∀c,o.op≠ .defer c:=by
 intro c hc;unfold A54 at h;split at h
 ·rename_i op g h1 h2;rw[hc]at h1;cases h1
 ·cases h
theorem A2c {ops:Array Oper}{xs:List XO}(h:A0N P ops ops.toList=some xs):∀(i:Nat) (o:Oper),ops[i]? =some o->∀c,o.op≠ .defer c:=by
 intro i o ho;have hlen:=A3P h;have hlt:i<xs.length:=by rw[hlen];simpa using(Array.getElem?_eq_some_iff.1 ho).1
 obtain⟨o',h1,h2⟩:=A3O h (i:=i) (x:=xs[i]) (by rw[A59];exact List.getElem?_eq_getElem hlt);have:o'=o:=by
  have h1:ops[i]? =some o':=by simpa using h1
  rw[ho]at h1;cases h1;rfl
 subst this;exact A95 h2
theorem A7v {ro:Option Nat}{id:Nat}{ops:Array Oper}{R:Act->World->Prop}(hdef:∀(i:Nat) (o:Oper),ops[i]? =some o->∀c,o.op≠ .defer c)
  (h:A2a P ops R (List.range ops.size) a w):wpR P ro (.region id ops false) (fun e a w=>e=.normal/\R a w) a w:=by
 intro b k cs hb;obtain⟨a',w',h1,h2⟩:=A6a hdef _ a w h b k cs;exact⟨.normal,a',w',⟨rfl,h1⟩,.head stepR_region h2⟩
theorem B2s {ro:Option Nat}{id:Nat}{ops:Array Oper}{R:Act->World->Prop}(hm:P.follows .mixedOrders=true)(hdef:∀(i:Nat) (o:Oper),ops[i]? =some o->∀c,o.op≠ .defer c)
  (h:A7o P ops R ops.size (Array.replicate ops.size false) a {w with drawn:=w.drawn+1}):wpR P ro (.region id ops true) (fun e a w=>e=.normal/\R a w) a w:=by
 intro b k cs hb;have hops:A2a P ops R (Region.schedule (P.follows .mixedOrders) ops (w.tape w.drawn (.order b.fn id))) a {w with drawn:=w.drawn+1}:=by
  simp only[Region.schedule,hm,Bool.true_or,if_true];exact A9U ops.size _ _ a _ h
 obtain⟨a',w',h1,h2⟩:=A6a hdef _ a _ hops b k cs;exact⟨.normal,a',w',⟨rfl,h1⟩,.head stepR_region_draw h2⟩
theorem A0W {xc:XC}{id:Nat}{ops:Array Oper}{drw:Bool}(h:A1a P hs (.region id ops drw)=some xc):∃xs,A0N P ops ops.toList=some xs/\
  ((drw=false/\xc=.reg (64*(id+1)) xs ((aget hs id).getD ([],[])).2)\/(drw=true/\xc=.draw (64*(id+1)) xs (ops.toList.map A6X) ((aget hs id).getD ([],[])).1 ((aget hs id).getD ([],[])).2)):=by
 simp only[A1a]at h;split at h
 ·rename_i xs hx;cases drw
  ·cases h;exact⟨xs,hx,.inl ⟨rfl,rfl⟩⟩
  ·cases h;exact⟨xs,hx,.inr ⟨rfl,rfl⟩⟩
 ·cases h
theorem B4Z {c:Code}{s:Nat}{xs:List XO}{dead:List Nat}(h:A1a P hs c=some (.reg s xs dead)):∃id ops,c=.region id ops false/\A0N P ops ops.toList=some xs:=by
 cases c with
 |region id ops drw=>
  obtain⟨xs',h1,⟨rfl,h2⟩|⟨rfl,h2⟩⟩:=A0W h
  ·cases h2;exact⟨id,ops,rfl,h1⟩
  ·cases h2
 |_=>
  simp only[A1a]at h
  first
   |(cases h;done)
   |(split at h<;>cases h)
theorem B3B {c:Code}{s:Nat}{xs:List XO}{dep:List (List Nat)}{ord dead:List Nat}(h:A1a P hs c=some (.draw s xs dep ord dead)):∃id ops,c=.region id ops true/\A0N P ops ops.toList=some xs/\ops.toList.map A6X=dep:=by
 cases c with
 |region id ops drw=>
  obtain⟨xs',h1,⟨rfl,h2⟩|⟨rfl,h2⟩⟩:=A0W h
  ·cases h2
  ·cases h2;exact⟨id,ops,rfl,h1,rfl⟩
 |_=>
  simp only[A1a]at h
  first
   |(cases h;done)
   |(split at h<;>cases h)
theorem B3C {c:Code}(h:A1a P hs c=some .skip):c=.skip\/∃l,c=.label l:=by
 cases c with
 |skip=>exact .inl rfl
 |label l=>exact .inr ⟨l,rfl⟩
 |region id ops drw=>obtain⟨xs',h1,⟨rfl,h2⟩|⟨rfl,h2⟩⟩:=A0W h<;>cases h2
 |_=>
  simp only[A1a]at h
  first
   |(cases h;done)
   |(split at h<;>cases h)
theorem B40 {c:Code}(h:A1a P hs c=some .ret):c=.ret:=by
 cases c with
 |ret=>rfl
 |region id ops drw=>obtain⟨xs',h1,⟨rfl,h2⟩|⟨rfl,h2⟩⟩:=A0W h<;>cases h2
 |_=>
  simp only[A1a]at h
  first
   |(cases h;done)
   |(split at h<;>cases h)
theorem B3D {c:Code}{id:Nat}(h:A1a P hs c=some (.exit id)):c=.exit id:=by
 cases c with
 |exit i=>cases h;rfl
 |region id ops drw=>obtain⟨xs',h1,⟨rfl,h2⟩|⟨rfl,h2⟩⟩:=A0W h<;>cases h2
 |_=>
  simp only[A1a]at h
  first
   |(cases h;done)
   |(split at h<;>cases h)
theorem B41 {c:Code}{x y:XC}(h:A1a P hs c=some (.seq x y)):∃a b,c=.seq a b/\A1a P hs a=some x/\A1a P hs b=some y:=by
 cases c with
 |seq a b=>
  simp only[A1a]at h;split at h
  ·rename_i h1 h2;cases h;exact⟨a,b,rfl,h1,h2⟩
  ·cases h
 |region id ops drw=>obtain⟨xs',h1,⟨rfl,h2⟩|⟨rfl,h2⟩⟩:=A0W h<;>cases h2
 |_=>
  simp only[A1a]at h
  first
   |(cases h;done)
   |(split at h<;>cases h)
theorem B3E {c:Code}{o:Opd}{x y:XC}(h:A1a P hs c=some (.cond o x y)):∃X a b,c=.cond X a b/\A0x X=some o/\A1a P hs a=some x/\A1a P hs b=some y:=by
 cases c with
 |cond X a b=>
  simp only[A1a]at h;split at h
  ·rename_i h1 h2 h3;cases h;exact⟨X,a,b,rfl,h1,h2,h3⟩
  ·cases h
 |region id ops drw=>obtain⟨xs',h1,⟨rfl,h2⟩|⟨rfl,h2⟩⟩:=A0W h<;>cases h2
 |_=>
  simp only[A1a]at h
  first
   |(cases h;done)
   |(split at h<;>cases h)
theorem B1n {c:Code}{id:Nat}{x:XC}(h:A1a P hs c=some (.block id x)):∃a,c=.block id a/\A1a P hs a=some x:=by
 cases c with
 |block i a=>
  simp only[A1a]at h;split at h
  ·rename_i h1;cases h;exact⟨a,rfl,h1⟩
  ·cases h
 |region id ops drw=>obtain⟨xs',h1,⟨rfl,h2⟩|⟨rfl,h2⟩⟩:=A0W h<;>cases h2
 |_=>
  simp only[A1a]at h
  first
   |(cases h;done)
   |(split at h<;>cases h)
theorem B3F {c:Code}{x:XC}(h:A1a P hs c=some (.loop x)):∃a,c=.loop a/\A1a P hs a=some x:=by
 cases c with
 |loop a=>
  simp only[A1a]at h;split at h
  ·rename_i h1;cases h;exact⟨a,rfl,h1⟩
  ·cases h
 |region id ops drw=>obtain⟨xs',h1,⟨rfl,h2⟩|⟨rfl,h2⟩⟩:=A0W h<;>cases h2
 |_=>
  simp only[A1a]at h
  first
   |(cases h;done)
   |(split at h<;>cases h)
theorem B8x (hcm:G.cm=A2x P){c:Code}{s:Nat}{xs:List XO}{dead:List Nat}(h:G.cm c (.reg s xs dead)):∃id ops,c=.region id ops false/\A0N P ops ops.toList=some xs:=by
 rw[hcm]at h;obtain⟨hs,h⟩:=h;exact B4Z h
theorem B42 (hcm:G.cm=A2x P){c:Code}{s:Nat}{xs:List XO}{dep:List (List Nat)}{ord dead:List Nat}(h:G.cm c (.draw s xs dep ord dead)):∃id ops,c=.region id ops true/\A0N P ops ops.toList=some xs/\ops.toList.map A6X=dep:=by
 rw[hcm]at h;obtain⟨hs,h⟩:=h;exact B3B h
theorem B9q (hcm:G.cm=A2x P){c:Code}(h:G.cm c .skip):c=.skip\/∃l,c=.label l:=by rw[hcm]at h;obtain⟨hs,h⟩:=h;exact B3C h
theorem C10 (hcm:G.cm=A2x P){c:Code}(h:G.cm c .ret):c=.ret:=by rw[hcm]at h;obtain⟨hs,h⟩:=h;exact B40 h
theorem B9r (hcm:G.cm=A2x P){c:Code}{id:Nat}(h:G.cm c (.exit id)):c=.exit id:=by rw[hcm]at h;obtain⟨hs,h⟩:=h;exact B3D h
theorem C11 (hcm:G.cm=A2x P){c:Code}{x y:XC}(h:G.cm c (.seq x y)):∃a b,c=.seq a b/\G.cm a x/\G.cm b y:=by
 rw[hcm]at h ⊢; obtain⟨hs,h⟩:=h;obtain⟨a,b,h1,h2,h3⟩:=B41 h;exact⟨a,b,h1,⟨hs,h2⟩,⟨hs,h3⟩⟩
theorem B9s (hcm:G.cm=A2x P){c:Code}{o:Opd}{x y:XC}(h:G.cm c (.cond o x y)):∃X a b,c=.cond X a b/\A0x X=some o/\G.cm a x/\G.cm b y:=by
 rw[hcm]at h ⊢; obtain⟨hs,h⟩:=h;obtain⟨X,a,b,h1,h2,h3,h4⟩:=B3E h;exact⟨X,a,b,h1,h2,⟨hs,h3⟩,⟨hs,h4⟩⟩
theorem B67 (hcm:G.cm=A2x P){c:Code}{id:Nat}{x:XC}(h:G.cm c (.block id x)):∃a,c=.block id a/\G.cm a x:=by
 rw[hcm]at h ⊢; obtain⟨hs,h⟩:=h;obtain⟨a,h1,h2⟩:=B1n h;exact⟨a,h1,hs,h2⟩
theorem B9t (hcm:G.cm=A2x P){c:Code}{x:XC}(h:G.cm c (.loop x)):∃a,c=.loop a/\G.cm a x:=by
 rw[hcm]at h ⊢; obtain⟨hs,h⟩:=h;obtain⟨a,h1,h2⟩:=B3F h;exact⟨a,h1,hs,h2⟩
theorem B43 (hcm:G.cm=A2x P){c:Code}{o:Opd}{ps:List Nat}{x y:XC}(h:G.cm c (.rangeF o ps x y)):∃X qs a b,c=.rangeFunc X qs a b/\qs.toList=ps/\A0x X=some o/\G.cm a x/\G.cm b y:=by
 rw[hcm]at h ⊢;obtain⟨hs,h⟩:=h;cases c with
 |rangeFunc g qs a b=>
  simp only[A1a]at h;split at h
  ·rename_i h1 h2 h3;cases h;exact⟨g,qs,a,b,rfl,rfl,h1,⟨hs,h2⟩,⟨hs,h3⟩⟩
  ·cases h
 |region id ops drw=>
  obtain⟨xs',h1,⟨rfl,h2⟩|⟨rfl,h2⟩⟩:=A0W h<;>cases h2
 |_=>
  simp only[A1a]at h
  first
   |(cases h;done)
   |(split at h<;>cases h)
theorem B68 (hcm:G.cm=A2x P){c:Code}{x:XC}(h:G.cm c (.scope x)):∃a,c=.scope a/\G.cm a x:=by
 rw[hcm]at h ⊢;obtain⟨hs,h⟩:=h;cases c with
 |scope a=>
  simp only[A1a]at h;split at h
  ·rename_i h1;cases h;exact⟨a,rfl,hs,h1⟩
  ·cases h
 |region id ops drw=>
  obtain⟨xs',h1,⟨rfl,h2⟩|⟨rfl,h2⟩⟩:=A0W h<;>cases h2
 |_=>
  simp only[A1a]at h
  first
   |(cases h;done)
   |(split at h<;>cases h)
theorem DX.refl (ds:List Deferred)(w:World):DX ds w ds:=⟨[],rfl,fun r h=>by simp at h⟩
theorem DX.of_eq {ds ds':List Deferred}{w:World}(h:ds'=ds):DX ds w ds':=by subst h;exact DX.refl _ _
theorem DX.trans {ds ds' ds'':List Deferred}{w w':World}(h:DX ds w ds')(hs:w.heap.size<=w'.heap.size)(k:DX ds' w' ds''):DX ds w ds'':=by
 obtain⟨n1,rfl,h2⟩:=h;obtain⟨n2,rfl,k2⟩:=k;refine⟨n2++n1,by simp,fun r hr=>?_⟩;rcases List.mem_append.1 hr with hr|hr
 ·exact Nat.le_trans hs (k2 r hr)
 ·exact h2 r hr
theorem B4W.next {ρ':Nat->Option Nat}{H H':Nat->Option HO}{w':World}{ro:Option Nat}(h:B4W md ρ H ro)(hk:HKp md.ks w ρ H w' ρ' H'):B4W md ρ' H' ro:=by
 unfold B4W at h ⊢;cases e:md.rid with
 |none=>rw[e]at h;exact h
 |some id=>
  rw[e]at h;obtain⟨b,o,h1,h2,h3,h4⟩:=h;obtain⟨o',g1,g2,g3⟩:=hk.box id o (by simp[Md.ks,e]) h3 h4;exact⟨b,o',h1,g3.trans h2,g1,g2⟩
theorem Aft.on {F':Nat->Prop}{ρ':Nat->Option Nat}{S S' S'':St}{a' a'':Act}{w' w'':World}{ds:List Deferred}(h2:Ext G F ρ w F' ρ' w')(h3:HKp md.ks w ρ (aget S.h) w' ρ' (aget S'.h))(h4:DX ds w a'.defers)
  (k:Aft G md F' ρ' (aget S'.h) w' a'.defers S'' a'' w''):Aft G md F ρ (aget S.h) w ds S'' a'' w'':=by
 obtain⟨F'',ρ'',q1,q2,q3,q4⟩:=k;exact⟨F'',ρ'',q1,h2.trans q2,h3.trans q3,h4.trans h2.size q4⟩
theorem Aft.here {S:St}(hr:RS G F ρ S a w):Aft G md F ρ (aget S.h) w a.defers S a w:=⟨F,ρ,hr,Ext.refl _ _ _,HKp.refl _ _ _ _,DX.refl _ _⟩
theorem WpX.mono {xc:XC}{S:St}{Q Q':Ex->St->Prop}(h:WpX P G md xc S Q)(hq:∀e S,Q e S->Q' e S):WpX P G md xc S Q':=
 fun c hc F ρ a w ro hr hro=>(h c hc F ρ a w ro hr hro).mono fun e a' w' ⟨S',h1,h2⟩=>⟨S',hq _ _ h1,h2⟩
theorem B69 {S:St}{X:Operand}{o:Opd}{v:Bool}(hX:A0x X=some o)(hv:o.ev G S.t=.bool v)(hr:RS G F ρ S a w):a.eval X=.bool v:=by
 have:=A8D (rt:=S.t) (a:=a) hr.mem hr.tmps X o hX;rw[hv]at this;exact this.bools
theorem WpX.pre {xc:XC}{S S':St}{Q:Ex->St->Prop}(hw:∀F ρ a w,RS G F ρ S a w->∃F' ρ',RS G F' ρ' S' a w/\Ext G F ρ w F' ρ' w/\HKp md.ks w ρ (aget S.h) w ρ' (aget S'.h))(h:WpX P G md xc S' Q):WpX P G md xc S Q:=by
 intro c hc F ρ a w ro hr hro;obtain⟨F',ρ',h1,h2,h3⟩:=hw F ρ a w hr;exact(h c hc F' ρ' a w ro h1 (hro.next h3)).mono fun e a' w' ⟨S'',q1,q2⟩=>⟨S'',q1,q2.on h2 h3 (DX.refl _ _)⟩
theorem B7a (hcm:G.cm=A2x P)(hm:P.follows .mixedOrders=true){s s':Nat}{xs:List XO}{dep:List (List Nat)}{ord dead:List Nat}{ds:Dirs}{S S':St}{es:List (Nat×Ent)}{cs:List Cd}(he:A37 G ds xs s ord S=some (S',es,cs))
  (hB:B62 dep ord xs.length es=true) (hc:A0M (A1n P G) cs) {Q:Ex->St->Prop} (hQ:Q .normal (B4V S' dead)):WpX P G md (.draw s' xs dep ord dead) S Q:=by
 intro c hcc F ρ a w ro hr hro;obtain⟨id,ops,rfl,hx,hd⟩:=B42 hcm hcc;refine(B2s (R:=fun a' w'=>Aft G md F ρ (aget S.h) w a.defers (B4V S' dead) a' w') hm (A2c hx) (B3y hx hd he hB hc hr fun a' w' F' ρ' q1 q2 q3 q4=>⟨F',ρ',A8K q1,q2,q3.kp,DX.of_eq q4⟩)).mono ?_;rintro e a' w' ⟨rfl,h⟩;exact⟨_,hQ,h⟩
theorem B1o (hcm:G.cm=A2x P){x y:XC}{S:St}{Q:Ex->St->Prop}(h:WpX P G md x S (fun e S'=>(e=.normal/\WpX P G md y S' Q)\/(e≠ .normal/\Q e S'))):WpX P G md (.seq x y) S Q:=by
 intro c hc F ρ a w ro hr hro;obtain⟨ca,cb,rfl,hca,hcb⟩:=C11 hcm hc;refine B9m ((h ca hca F ρ a w ro hr hro).mono ?_);rintro e a' w' ⟨S',hq,F',ρ',q1,q2,q3,q4⟩;rcases hq with⟨rfl,hy⟩|⟨hn,hQ⟩
 ·exact .inl ⟨rfl,(hy cb hcb F' ρ' a' w' ro q1 (hro.next q3)).mono fun e a'' w'' ⟨S'',r1,r2⟩=>⟨S'',r1,r2.on q2 q3 q4⟩⟩
 ·exact .inr ⟨hn,S',hQ,F',ρ',q1,q2,q3,q4⟩
theorem A2X (hcm:G.cm=A2x P){o:Opd}{x y:XC}{S:St}{v:Bool}{Q:Ex->St->Prop}(hv:o.ev G S.t=.bool v)(h1:v=true->WpX P G md x S Q)(h2:v=false->WpX P G md y S Q):WpX P G md (.cond o x y) S Q:=by
 intro c hc F ρ a w ro hr hro;obtain⟨X,ca,cb,rfl,hX,hca,hcb⟩:=B9s hcm hc;refine B65 (B69 hX hv hr) ?_;cases v with
 |true=>rw[if_pos rfl];exact h1 rfl ca hca F ρ a w ro hr hro
 |false=>rw[if_neg (by simp)];exact h2 rfl cb hcb F ρ a w ro hr hro
theorem A6f (hcm:G.cm=A2x P){id:Nat}{x:XC}{S:St}{Q:Ex->St->Prop}(h:WpX P G md x S (fun e S'=>(e=.exit id/\Q .normal S')\/(e≠ .exit id/\Q e S'))):WpX P G md (.block id x) S Q:=by
 intro c hc F ρ a w ro hr hro;obtain⟨ca,rfl,hca⟩:=B67 hcm hc;refine B4P ((h ca hca F ρ a w ro hr hro).mono ?_);rintro e a' w' ⟨S',⟨rfl,hQ⟩|⟨hn,hQ⟩,q⟩
 ·exact .inl ⟨rfl,S',hQ,q⟩
 ·exact .inr ⟨hn,S',hQ,q⟩
theorem A96 (hcm:G.cm=A2x P){x:XC}{S:St}{Q:Ex->St->Prop}(h:WpX P G md x S Q):WpX P G md (.scope x) S Q:=by
 intro c hc F ρ a w ro hr hro;obtain⟨ca,rfl,hca⟩:=B68 hcm hc;exact B4Q (h ca hca F ρ a w ro hr hro)
theorem A4a (hcm:G.cm=A2x P){x:XC}{S:St}{Q:Ex->St->Prop}(h:WpX P G md x S (fun e S'=>(e=.normal/\WpX P G md (.loop x) S' Q)\/(e≠ .normal/\Q e S'))):WpX P G md (.loop x) S Q:=by
 intro c hc F ρ a w ro hr hro;obtain⟨ca,rfl,hca⟩:=B9t hcm hc;refine B4R ((h ca hca F ρ a w ro hr hro).mono ?_);rintro e a' w' ⟨S',hq,F',ρ',q1,q2,q3,q4⟩;rcases hq with⟨rfl,hy⟩|⟨hn,hQ⟩
 ·exact .inl ⟨rfl,(hy _ hc F' ρ' a' w' ro q1 (hro.next q3)).mono fun e a'' w'' ⟨S'',r1,r2⟩=>⟨S'',r1,r2.on q2 q3 q4⟩⟩
 ·exact .inr ⟨hn,S',hQ,F',ρ',q1,q2,q3,q4⟩
theorem B2t (hcm:G.cm=A2x P){S:St}{Q:Ex->St->Prop}(h:Q .normal S):WpX P G md .skip S Q:=by
 intro c hc F ρ a w ro hr hro;rcases B9q hcm hc with rfl|⟨l,rfl⟩
 ·exact B63 ⟨S,h,.here hr⟩
 ·exact B4O ⟨S,h,.here hr⟩
theorem B2u (hcm:G.cm=A2x P){id:Nat}{S:St}{Q:Ex->St->Prop}(h:Q (.exit id) S):WpX P G md (.exit id) S Q:=by
 intro c hc F ρ a w ro hr hro;rw[B9r hcm hc];exact B64 ⟨S,h,.here hr⟩
theorem B44 (hcm:G.cm=A2x P){S:St}{Q:Ex->St->Prop}(h:Q .ret S):WpX P G md .ret S Q:=by
 intro c hc F ρ a w ro hr hro;rw[C10 hcm hc];exact B9l ⟨S,h,.here hr⟩
end
def gcH (i:Nat):List (Nat×HO)->Bool
 |[]=>true
 |(_,o)::r=>cond (A1K i (A5v (some o))) false (gcH i r)
def gcS (ks:List Nat)(S:St)(i:Nat):Option St:=
 cond (A1K i ks||(A1K i (A5u S.t)|| !gcH i (B1J S.h i))) none (some {S with h:=B1J S.h i})
theorem B1p {x:Nat}{l:List Nat}(h:A1K x l=false):x∉l:=fun hm=>by rw[A02.2 hm]at h;cases h
theorem A97 {i:Nat}:∀{l:List AV},i∉A2r l->∀j,i∉A0R (l.getD j .undef)
 |[],_,j=>by simp[A0R]
 |v::r,h,0=>by simp only[A2r,List.mem_append,not_or]at h;simpa using h.1
 |v::r,h,j+1=>by
  simp only[A2r,List.mem_append,not_or]at h;have:=A97 h.2 j;simpa using this
theorem A8M {i:Nat}:∀{l:List (Nat×AV)},i∉A5u l->∀{t v},aget l t=some v->i∉A0R v
 |[],_,t,v,h=>by cases h
 |(k,x)::r,hn,t,v,h=>by
  simp only[A5u,List.mem_append,not_or]at hn;simp only[aget,cond_eq_ite]at h;split at h
  ·cases h;exact hn.1
  ·exact A8M hn.2 h
section
variable {w:World}{F:Nat->Prop}{ρ:Nat->Option Nat}{h:Nat->Option HO}{i:Nat}
theorem FullOk.dropG {id len:Nat}{k:Blk}{x:Value}(e:id≠i)(hf:FullOk w ρ id len k x):FullOk w (upd ρ i none) id len k x:=by
 unfold FullOk at hf ⊢;rw[A0a _ _ e];exact hf
mutual
theorem RelV.dropG:∀{v:AV} {x:Value},RelV w F ρ h v x->i∉A0R v->RelV w F (upd ρ i none) (upd h i none) v x
 |_,_,.imm v x hi,_=>.imm v x hi
 |_,_,.ptr id off b o hb hh hx,hn=>by
  have e:id≠i:=fun e=>hn (by simp[A0R,e]);exact .ptr id off b o (by rw[A0a _ _ e];exact hb) (by rw[A0a _ _ e];exact hh) hx
 |_,_,.ep id n off k x hh hle hp hx,hn=>by
  have e:id≠i:=fun e=>hn (by simp[A0R,e]);exact .ep id n off k x (by rw[A0a _ _ e];exact hh) hle hp (by rw[A0a _ _ e];exact hx)
 |_,_,.full id len k x hh hle hp hx,hn=>by
  have e:id≠i:=fun e=>hn (by simp[A0R,e]);exact .full id len k x (by rw[A0a _ _ e];exact hh) hle hp (fun q=>(hx q).dropG e)
 |_,_,.sl id off len cap b k hb hh hx hlc,hn=>by
  have e:id≠i:=fun e=>hn (by simp[A0R,e]);exact .sl id off len cap b k (by rw[A0a _ _ e];exact hb) (by rw[A0a _ _ e];exact hh) hx hlc
 |_,_,.fn f l1 l2 x1 x2 h1 h2,hn=>by
  simp only[A0R,List.mem_append,not_or]at hn;exact .fn f l1 l2 x1 x2 (h1.dropG hn.1) (h2.dropG hn.2)
 |_,_,.agg l x hl,hn=>.agg l x (hl.dropG (by simpa only[A0R]using hn))
 |_,_,.tup l x hl,hn=>.tup l x (hl.dropG (by simpa only[A0R]using hn))
 |_,_,.may b v x hb hn',hn=>.may b v x (fun q=>(hb q).dropG (by simpa only[A0R]using hn)) hn'
 |_,_,.iface t v x hv,hn=>.iface t v x (hv.dropG (by simpa only[A0R]using hn))
 |_,_,.yld id b o hb hh hx,hn=>by
  have e:id≠i:=fun e=>hn (by simp[A0R,e]);exact .yld id b o (by rw[A0a _ _ e];exact hb) (by rw[A0a _ _ e];exact hh) hx
 |_,_,.spare id a l c hf,hn=>.spare id a l c (hf.dropG (by simpa only[A0R]using hn))
 |_,_,.fullc id len cap a hf,hn=>.fullc id len cap a (hf.dropG (by simpa only[A0R]using hn))
 |_,_,.mp id b o hb hh hx,hn=>by
  have e:id≠i:=fun e=>hn (by simp[A0R,e]);exact .mp id b o (by rw[A0a _ _ e];exact hb) (by rw[A0a _ _ e];exact hh) hx
 |_,_,.vw id n sz off len k x hh hle hp hx,hn=>by
  have e:id≠i:=fun e=>hn (by simp[A0R,e]);refine .vw id n sz off len k x (by rw[A0a _ _ e];exact hh) hle hp (fun q=>?_);obtain⟨q1,a,c,q2,q3⟩:=hx q;exact⟨q1,a,c,q2.dropG e,q3⟩
theorem RelVs.dropG:∀{l:List AV} {xs:List Value},RelVs w F ρ h l xs->i∉A2r l->RelVs w F (upd ρ i none) (upd h i none) l xs
 |_,_,.nil,_=>.nil
 |_,_,.cons v l x xs h hs,hn=>by
  simp only[A2r,List.mem_append,not_or]at hn;exact .cons v l x xs (h.dropG hn.1) (hs.dropG hn.2)
end
theorem RelO.dropG {G:GL}{id:Nat}{o:HO}(e:id≠i)(hn:i∉A5v (some o))(hr:RelO G w F ρ h id o):RelO G w F (upd ρ i none) (upd h i none) id o:=by
 cases o with
 |blk k=>
  obtain⟨h0,h1⟩:=hr;refine⟨h0,?_⟩;rw[A0a _ _ e];rcases h1 with h1|⟨b,h1,h2⟩
  ·exact .inl h1
  ·refine .inr ⟨b,h1,⟨fun hnm=>?_,h2.mp,h2.mu,h2.fr⟩⟩;obtain⟨cs,ty,fz,g1,g2,g3,g4⟩:=h2.ex hnm;refine⟨cs,ty,fz,g1,g2,g3,fun j hj=>?_⟩;obtain⟨x,p1,p2,p3⟩:=g4 j hj;refine⟨x,p1,?_,p3⟩;cases hc:k.c with
   |cells l=>
    rw[hc]at p2;have hn':i∉A2r l:=by simpa only[A5v,hc,B86]using hn
    exact RelV.dropG p2 (A97 hn' j)
   |_=>rw[hc]at p2;exact p2
 |iter s pos=>
  obtain⟨b,h1,h2,h3⟩:=hr;exact⟨b,by rw[A0a _ _ e];exact h1,h2,h3⟩
 |loop l=>
  obtain⟨b,h1,h2,r,h3,h4⟩:=hr;exact⟨b,by rw[A0a _ _ e];exact h1,h2,r,h3,⟨h4.st,h4.pend,h4.size,fun t v q=>(h4.tmps t v q).dropG (A8M (by simpa only[A5v]using hn) q),h4.ps,h4.as,h4.bd⟩⟩
end
theorem A7w {α:Type}(i:Nat):∀(l:List (Nat×α)),aget (B1J l i)=upd (aget l) i none
 |[]=>by funext j;simp[B1J,aget,upd]
 |(k,x)::r=>by
  funext j
  have ih:=congrFun (A7w i r) j
  by_cases e:k=i
  ·subst e;simp only[B1J,Nat.beq_refl,cond_true];rw[ih]
   by_cases e2:j=k
   ·subst e2;rw[A0e,A0e]
   ·rw[A0a _ _ e2,A0a _ _ e2];simp only[aget,A0O (Ne.symm e2),cond_false]
  ·simp only[B1J,A0O e,cond_false,aget];rw[ih]
   by_cases e2:k=j
   ·subst e2;rw[A0a _ _ e,A0a _ _ e]
   ·simp only[A0O e2,cond_false]
    by_cases e3:j=i
    ·subst e3;rw[A0e,A0e]
    ·rw[A0a _ _ e3,A0a _ _ e3];simp only[aget,A0O e2,cond_false]
theorem B8y {i:Nat}:∀{h:List (Nat×HO)},gcH i h=true->∀{id o},aget h id=some o->i∉A5v (some o)
 |[],_,id,o,e=>by cases e
 |(k,x)::r,hg,id,o,e=>by
  simp only[gcH,cond_eq_ite]at hg;split at hg
  ·cases hg
  ·rename_i hm;simp only[aget,cond_eq_ite]at e;split at e
   ·cases e;exact B1p (by simpa using hm)
   ·exact B8y hg e
theorem B8z {G:GL}{F:Nat->Prop}{ρ:Nat->Option Nat}{a:Act}{w:World}{ks:List Nat}{S S':St}{i:Nat}(h:gcS ks S i=some S')(hr:RS G F ρ S a w):
  ∃ρ',RS G F ρ' S' a w/\Ext G F ρ w F ρ' w/\HKp ks w ρ (aget S.h) w ρ' (aget S'.h):=by
 unfold gcS at h;rw[cond_eq_ite]at h;split at h
 ·cases h
 ·rename_i hc;cases h;simp only[Bool.or_eq_true,not_or,Bool.not_eq_true,Bool.not_eq_true',Bool.not_eq_false]at hc;obtain⟨hk,ht,hg⟩:=hc;have hk:=B1p hk;have ht:=B1p ht;have hH:aget (B1J S.h i)=upd (aget S.h) i none:=A7w i S.h;have hE:Ext G F ρ w F (upd ρ i none) w:=⟨IoEq.refl _,Nat.le_refl _,fun _ _ _=>rfl,fun _ _=>rfl,fun _ h=>h,fun _ h=>.inl h,fun id b hb=>by
   by_cases e:id=i
   ·subst e;rw[A0e]at hb;cases hb
   ·rw[A0a _ _ e]at hb;exact .inl ⟨id,hb⟩⟩
  refine⟨upd ρ i none,⟨hr.size,fun t v e=>?_,?_,hr.defs.ext hE rfl⟩,hE,?_⟩
  ·simp only[hH];exact(hr.tmps t v e).dropG (A8M ht e)
  ·simp only[hH];have hm:=hr.mem;refine⟨fun id o e=>?_,fun id b hb=>?_,fun x y b hx hy=>?_,fun id b hb=>?_,hm.frz,hm.glob⟩
   ·have e':=e
    by_cases e2:id=i
    ·subst e2;rw[A0e]at e;cases e
    ·rw[A0a _ _ e2]at e;exact(hm.heap id o e).dropG e2 (B8y hg (by rw[hH];exact e'))
   ·by_cases e:id=i
    ·subst e;rw[A0e]at hb;cases hb
    ·rw[A0a _ _ e]at hb ⊢; exact hm.dom id b hb
   ·have ex:x≠i:=fun e=>by subst e;rw[A0e]at hx;cases hx
    have ey:y≠i:=fun e=>by subst e;rw[A0e]at hy;cases hy
    rw[A0a _ _ ex]at hx;rw[A0a _ _ ey]at hy;exact hm.inj x y b hx hy
   ·by_cases e:id=i
    ·subst e;rw[A0e]at hb;cases hb
    ·rw[A0a _ _ e]at hb;exact hm.lt id b hb
  ·simp only[hH];refine⟨fun id o hid h1 h2=>?_,fun id k hid h1=>?_,fun b cs ty fz hb=>⟨cs,ty,fz,hb,rfl⟩⟩
   ·have e:id≠i:=fun e=>hk (e▸hid);exact⟨o,by rw[A0a _ _ e];exact h1,h2,A0a _ _ e⟩
   ·have e:id≠i:=fun e=>hk (e▸hid);exact⟨k,by rw[A0a _ _ e];exact h1,rfl,Nat.le_refl _,fun _=>⟨rfl,rfl,.inl rfl,A0a _ _ e⟩⟩
section
variable {P:Program}{G:GL}{hs:A0i}{F:Nat->Prop}{ρ:Nat->Option Nat}{H:Nat->Option HO}{w w':World}
theorem MRel.off (hm:MRel G F ρ H w){r:Nat}(hn:∀id,ρ id≠some r)(hF:¬ F r)(hr:∀cs ty fz,w.heap[r]? ≠some (.cells cs ty fz))(ho:∀b,b≠r->w'.heap[b]? =w.heap[b]?)(hsz:w'.heap.size=w.heap.size):
  MRel G F ρ H w'/\HKeep w ρ H w' ρ H:=by
 have hk:HKeep w ρ H w' ρ H:=⟨fun id o h1 h2=>⟨o,h1,h2,rfl⟩,fun id k h1=>⟨k,h1,rfl,Nat.le_refl _,fun _=>⟨rfl,rfl,.inl rfl,rfl⟩⟩,fun b cs ty fz hb=>⟨cs,ty,fz,by
  rw[ho b (fun e=>hr cs ty fz (e▸hb))];exact hb,rfl⟩⟩
 have hw:∀b,F b->w'.heap[b]? =w.heap[b]? :=fun b hb=>ho b (fun e=>hF (e▸hb));exact⟨⟨fun id o h=>(hm.heap id o h).mono hw (fun _ h=>h) hk rfl (fun b hb=>⟨ho b (fun e=>hn id (e▸hb)),fun h=>h⟩),hm.dom,hm.inj,fun id b hb=>by rw[hsz];exact hm.lt id b hb,fun b hb=>by rw[hsz];exact hm.frz b hb,hm.glob.mono hw (fun _ h=>h)⟩,hk⟩
theorem B7b {r:Nat}(h:w.heap[r]? =some (.deferred (some []))):∃w',(Instr.takeDeferred r).run P w=.ok [] w'/\(∀b,b≠r->w'.heap[b]? =w.heap[b]?)/\w'.heap.size=w.heap.size/\IoEq G w w':=by
 refine⟨{w with heap:=w.heap.setIfInBounds r (.deferred none)},?_,fun b hb=>?_,by simp,⟨rfl,rfl,fun _=>⟨rfl,Nat.le_refl _⟩⟩⟩
 ·simp[Instr.takeDeferred,getObj,setObj,Sem.run,h]
 ·simp[Array.getElem?_setIfInBounds_ne (Ne.symm hb)]
theorem A4V {cs:List Frame}:∀(rs:List Nat) (fr:Frame) (w:World),fr.mode=.returning->fr.defers=rs.map A2u->rs.Nodup->(∀r,r∈rs->w.heap[r]? =some (.deferred (some []))/\(∀id,ρ id≠some r)/\¬ F r)->MRel G F ρ H w->
  ∃w',Steps P (lone fr cs w) (lone {fr with defers:=[]} cs w')/\MRel G F ρ H w'/\HKeep w ρ H w' ρ H/\(∀b,b∉rs->w'.heap[b]? =w.heap[b]?)/\w'.heap.size=w.heap.size/\IoEq G w w'
 |[],fr,w,hmode,hd,hnd,hr,hm=>by
  refine⟨w,?_,hm,HKeep.refl _ _ _,fun _ _=>rfl,rfl,IoEq.refl _⟩;have:fr={fr with defers:=[]}:=by
   cases fr;simp at hd ⊢; exact hd
  rw[<- this];exact Steps.refl _ _
 |r::rs,fr,w,hmode,hd,hnd,hr,hm=>by
  obtain⟨h1,h2,h3⟩:=hr r (by simp);obtain⟨w1,t1,t2,t3,t4⟩:=B7b (G:=G) (P:=P) h1;have hstep:=step_collected (P:=P) (cs:=cs) (fr:=fr) (w:=w) (w':=w1) (d:=A2u r) (r:=r) (ds:=rs.map A2u) (calls:=[]) (by rw[hmode];simp) hd rfl t1;obtain⟨m1,m2⟩:=hm.off h2 h3 (fun cs ty fz e=>by rw[h1]at e;cases e) t2 t3;rw[List.nodup_cons]at hnd;obtain⟨w2,s1,s2,s3,s4,s5,s6⟩:=A4V rs {fr with defers:=[]++rs.map A2u} w1 hmode (by simp) hnd.2 (fun q hq=>by
   obtain⟨g1,g2,g3⟩:=hr q (by simp[hq]);exact⟨(t2 q (fun e=>hnd.1 (e▸hq))).trans g1,g2,g3⟩) m1
  refine⟨w2,.head hstep s1,s2,m2.trans s3,fun b hb=>?_,s5.trans t3,t4.trans s6⟩;simp only[List.mem_cons,not_or]at hb;rw[s4 b hb.2,t2 b hb.1]
def A1w:Nat->List AV->List (Nat×AV)
 |_,[]=>[]
 |i,v::r=>(i,v)::A1w (i+1) r
def B8A (args:List AV)(n:Nat):St:={t:=A1w 0 args,h:=[],n:=n}
def A6g (args:List AV)(h:List (Nat×HO))(n:Nat):St:={t:=A1w 0 args,h:=h,n:=n}
def B1q {α:Type}:List α->Bool
 |[]=>true
 |_=>false
def hsL:List Blk->Nat->List (Nat×HO)
 |[],_=>[]
 |b::r,j=>(j,.blk b)::hsL r (j+1)
def C1A (vals:List AV)(hs:List Blk):St:={t:=A1w 0 vals,h:=hsL hs 0,n:=vals.length}
def C1B:List AV->AV
 |[v]=>v
 |vs=>.tup vs
abbrev RT:=Nat×Option (Option Nat)
def B31 (P:Program):List ResultVar->Option (List RT)
 |[]=>some []
 |.tmp t::r=>match B31 P r with
  |some l=>some ((t,none)::l)
  |none=>none
 |.cell a T::r=>match B3g P T,B31 P r with
  |some g,some l=>some ((a,some g)::l)
  |_,_=>none
def cdB:Cd->Bool
 |.b x=>x
 |.ge g want c=>cond (A1o (!want) g) (cdB c) true
 |.eqn x y=>Nat.beq x y
 |_=>false
def B9u:List Cd->Bool
 |[]=>true
 |c::r=>cond (cdB c) (B9u r) false
def C97 (S:St):RT->Option AV
 |(t,none)=>aget S.t t
 |(a,some g)=>match aget S.t a with
  |some v=>match A64 (aget S.h) .plain g v with
   |some D=>cond (B9u D.cs&&B1q D.ws) (some D.v) none
   |none=>none
  |none=>none
def B3G (S:St):List RT->Option (List AV)
 |[]=>some []
 |r::l=>match C97 S r,B3G S l with
  |some v,some vs=>some (v::vs)
  |_,_=>none
def B3H (S:St)(vals:List AV):St:={t:=A1w 0 vals,h:=S.h,n:=vals.length}
theorem B45:∀(hs:List Blk) (j i:Nat),aget (hsL hs j) i=if j<=i then hsH hs (i-j)else none
 |[],j,i=>by simp[hsL,aget,hsH]
 |b::r,j,i=>by
  simp only[hsL,aget]
  by_cases e:j=i
  ·subst e;rw[A0t,cond_true];simp[hsH]
  ·rw[A0O e,cond_false,B45 r (j+1) i]
   by_cases h:j<=i
   ·obtain⟨d,hd⟩:∃d,i-j=d+1:=⟨i-j-1,by omega⟩;rw[if_pos h,if_pos (by omega),hd,show i-(j+1)=d by omega];simp[hsH]
   ·rw[if_neg h,if_neg (by omega)]
theorem B46 (hs:List Blk):aget (hsL hs 0)=hsH hs:=by
 funext i;rw[B45];simp
theorem A4z:∀{args:List AV} {xs:List Value} {i t:Nat} {v:AV},RelVs w F ρ H args xs->aget (A1w i args) t=some v->∃x,i<=t/\xs[t-i]? =some x/\RelV w F ρ H v x
 |[],xs,i,t,v,h,hv=>by cases hv
 |u::r,xs,i,t,v,h,hv=>by
  cases h with
  |cons _ _ x xs hx hxs=>
   simp only[A1w,aget]at hv
   by_cases e:i=t
   ·subst e;rw[A0t,cond_true]at hv;cases hv;exact⟨x,Nat.le_refl _,by simp,hx⟩
   ·rw[A0O e,cond_false]at hv;obtain⟨y,h1,h2,h3⟩:=A4z hxs hv;obtain⟨d,hd⟩:∃d,t-i=d+1:=⟨t-i-1,by omega⟩;refine⟨y,by omega,?_,h3⟩;have hd':t-(i+1)=d:=by omega
    rw[hd']at h2;rw[hd];simpa using h2
theorem B7c {args:List AV}{h:List (Nat×HO)}{n:Nat}{vs:Array Value}(hm:MRel G F ρ (aget h) w)(hv:RelVs w F ρ (aget h) args vs.toList)(hle:args.length<=n):
  RS G F ρ (A6g args h n) {tmps:=vs++Array.replicate (n-vs.size) undef,defers:=[]} w:=by
 have hl:args.length=vs.size:=by have:=hv.len;simpa using this
 refine⟨by simp[A6g];omega,fun t v h=>?_,?_,⟨[],by simp,rfl,fun r hr=>by simp at hr⟩⟩
 ·obtain⟨x,h1,h2,h3⟩:=A4z hv h;have h2:vs[t]? =some x:=by simpa using h2
  have hlt:=(Array.getElem?_eq_some_iff.1 h2).1;have:(vs++Array.replicate (n-vs.size) undef).getD t undef=x:=by
   rw[Array.getD_eq_getD_getElem?,Array.getElem?_append_left hlt,h2];rfl
  rw[this];exact h3
 ·exact hm
def unT:List Value->Value
 |[v]=>v
 |vs=>.tuple vs.toArray
theorem B8B {Sp:SpT}:∀{c:Cd},cdB c=true->c.holds Sp
 |.b x,h=>h
 |.ge g want c,h=>by
  simp only[cdB,cond_eq_ite]at h;intro hg;rw[if_pos hg]at h;exact B8B h
 |.eqn x y,h=>Nat.eq_of_beq_eq_true h
 |.get _ _ _,h=>by cases h
 |.call _ _ _ _,h=>by cases h
 |.callD _ _ _ _ _ _,h=>by cases h
theorem A8N {Sp:SpT}:∀{cs:List Cd},B9u cs=true->A0M Sp cs
 |[],h=>trivial
 |c::r,h=>by
  simp only[B9u,cond_eq_ite]at h;split at h
  ·rename_i hc;exact⟨B8B hc,A8N h⟩
  ·cases h
theorem A4b {α:Type}{l:List α}(h:B1q l=true):l=[]:=by cases l<;>first|rfl|cases h
theorem B3I {t:TypeId}{x:Value}{v:Value}{w':World}(h:(Instr.loadAt t x).run P w=.ok v w'):((do loadVar t (<- asAddr x):Sem Value)).run P w=.ok v w':=by
 unfold Instr.loadAt Instr.sureAddr at h;cases x with
 |pointer a=>
  cases a with
  |some a=>simpa[asAddr]using h
  |none=>simp at h
 |_=>simp at h
theorem B1r {fn:Func}{rts:List RT}(h:B31 P fn.results.toList=some rts){S:St}{vals:List AV}(hv:B3G S rts=some vals)(hm:MRel G F ρ (aget S.h) w){tmps:Array Value}(ht:∀t v,aget S.t t=some v->RelV w F ρ (aget S.h) v (tmps.getD t undef)):
  ∃xs,(results fn tmps).run P w=.ok (unT xs) w/\RelVs w F ρ (aget S.h) vals xs:=by
 have key:∀(g:ResultVar->Sem Value),(∀t,g (.tmp t)=pure (tmps.getD t undef))->(∀a t,g (.cell a t)=(do loadVar t (<- asAddr (tmps.getD a undef))))->∀(l:List ResultVar) (rts:List RT) (vals:List AV),B31 P l=some rts->B3G S rts=some vals->
   ∃xs,(l.mapM g).run P w=.ok xs w/\RelVs w F ρ (aget S.h) vals xs:=by
  intro g hg hg2 l
  induction l with
  |nil=>intro rts vals h hv;cases h;cases hv;exact⟨[],by simp,.nil⟩
  |cons x r ih=>
   intro rts vals h hv;cases x with
   |tmp t=>
    simp only[B31]at h;split at h
    ·rename_i l' hl';cases h;simp only[B3G]at hv;split at hv
     ·rename_i v vs h1 h2;cases hv;obtain⟨xs,g1,g2⟩:=ih _ _ hl' h2;refine⟨tmps.getD t undef::xs,?_,.cons _ _ _ _ (ht t v h1) g2⟩;simp only[List.mapM_cons,hg,Sem.run_bind,Sem.run_pure,Result.andThen_ok,g1]
     ·cases hv
    ·cases h
   |cell a t=>
    simp only[B31]at h;split at h
    ·rename_i ag l' hag hl';cases h;simp only[B3G]at hv;split at hv
     ·rename_i v vs h1 h2;cases hv;obtain⟨xs,g1,g2⟩:=ih _ _ hl' h2;simp only[C97]at h1;split at h1
      ·rename_i pv hpv;split at h1
       ·rename_i D hD;rw[cond_eq_ite]at h1;split at h1
        ·rename_i hc;rw[Bool.and_eq_true]at hc;cases h1;have hsame:=A5G (P:=P) hm (fun _ _ h=>h) (ht a pv hpv) (A5d hag) hD (A8N (Sp:=A1n P G) hc.1);obtain⟨y,e1,e2,_⟩:=hsame;refine⟨y::xs,?_,.cons _ _ _ _ e2 g2⟩;simp only[List.mapM_cons,hg2,Sem.run_bind];have:=B3I e1;simp only[Sem.run_bind]at this;rw[this];simp only[Result.andThen_ok,g1,Sem.run_pure]
        ·cases h1
       ·cases h1
      ·cases h1
     ·cases hv
    ·cases h
 have fin:∀(g:ResultVar->Sem Value),(∀t,g (.tmp t)=pure (tmps.getD t undef))->(∀a t,g (.cell a t)=(do loadVar t (<- asAddr (tmps.getD a undef))))->
   ∃xs,((do let vs <- fn.results.mapM g;pure (if h:vs.size=1 then vs[0]else .tuple vs)):Sem Value).run P w=.ok (unT xs) w/\RelVs w F ρ (aget S.h) vals xs:=by
  intro g h1 h2;obtain⟨xs,g1,g2⟩:=key g h1 h2 _ _ _ h hv;refine⟨xs,?_,g2⟩;rw[Array.mapM_eq_mapM_toList];simp only[Sem.run_bind,Sem.run_map];rw[g1];simp only[Result.andThen_ok,Sem.run_pure]
  match xs with
  |[]=>rfl
  |[v]=>rfl
  |v::u::r=>simp;rfl
 unfold results;exact fin _ (fun t=>rfl) (fun a t=>rfl)
theorem A1h {f:FuncId}{fn:Func}{c:Code}(hf:P.funcs[f]? =some fn)(hname:(fn.name=="runtime.NumGoroutine")=false)(hb:fn.body=some c)(args:Array Value)(w:World):
  (callFunc f args).run P w=.ok (.enter f args) w:=by
 have h1:fn.name≠"runtime.NumGoroutine":=by simpa using hname
 simp[callFunc,hf,h1,hb]
theorem A8O {vals:List AV}{xs:List Value}(h:RelVs w F ρ H vals xs):RelV w F ρ H (C1B vals) (unT xs):=by
 cases h with
 |nil=>exact .tup _ _ .nil
 |cons v l x xs hv hs=>
  cases hs with
  |nil=>exact hv
  |cons u l y ys hu hs=>exact .tup _ _ (by simpa using RelVs.cons _ _ _ _ hv (.cons _ _ _ _ hu hs))
theorem A6h (hcm:G.cm=A2x P){md:Md}(hrid:md.rid=none){f:FuncId}{fn:Func}{c:Code}{xc:XC}{args:List AV}{h:List (Nat×HO)}{rts:List RT}{R:St->Prop}
  (hf:P.funcs[f]? =some fn) (hname:(fn.name=="runtime.NumGoroutine")=false) (hb:fn.body=some c)
  (hc:A2x P c xc) (hres:B31 P fn.results.toList=some rts) (hle:Nat.ble args.length fn.ntmps=true)
  (hW:WpX P G md xc (A6g args h fn.ntmps) (fun e S'=>(e=.ret\/e=.normal)/\R S')) (hR:∀S',R S'->∃vals,B3G S' rts=some vals)
  {vs:Array Value} (hm:MRel G F ρ (aget h) w) (hv:RelVs w F ρ (aget h) args vs.toList) {K:Value->World->Prop}
  (hK:∀(S':St) (vals:List AV) (xs:List Value) (w2:World) (F':Nat->Prop) (ρ':Nat->Option Nat),R S'->B3G S' rts=some vals->MRel G F' ρ' (aget S'.h) w2->RelVs w2 F' ρ' (aget S'.h) vals xs->Ext G F ρ w F' ρ' w2->HKp md.ks w ρ (aget h) w2 ρ' (aget S'.h)->
   K (unT xs) w2):A19 P f vs w K:=by
 refine .inr (.inl ⟨f,vs,w,A1h hf hname hb vs w,fun cs=>?_⟩)
 let a0:Act:={tmps:=vs++Array.replicate (fn.ntmps-vs.size) undef,defers:=[]}
 have hr0:RS G F ρ (A6g args h fn.ntmps) a0 w:=B7c hm hv (Nat.le_of_ble_eq_true hle)
 let b:Frame:={(default:Frame)with fn:=f,kind:=.normal,roundOf:=none}
 have henter:Frame.enter P f vs .normal=b.atR a0 [.code c]:=by simp[Frame.enter,Frame.atR,hf,hb,b,a0]
 obtain⟨e,a',w',⟨S',⟨he,hRS⟩,F',ρ',hr',hx',hkp,hdx⟩,harr⟩:=hW c (by rw[hcm];exact hc) F ρ a0 w none hr0 (by unfold B4W;rw[hrid]) b [] cs rfl;rw[<- henter]at harr;have hgo:∃fr:Frame,fr.mode=.returning/\fr.defers=a'.defers/\fr.tmps=a'.tmps/\fr.kind=.normal/\fr.fn=f/\Steps P (lone (Frame.enter P f vs .normal) cs w) (lone fr cs w'):=by
  rcases he with rfl|rfl
  ·obtain⟨todo,hs⟩:=harr;exact⟨{b.atR a' (.code .ret::todo)with mode:=.returning},rfl,rfl,rfl,rfl,rfl,hs.trans (.one (stepR_ret rfl))⟩
  ·exact⟨{b.atR a' []with mode:=.returning},rfl,rfl,rfl,rfl,rfl,Steps.trans harr (.one (stepR_end rfl))⟩
 obtain⟨fr,g1,g2,g3,g4,g5,g6⟩:=hgo;obtain⟨rs,d1,d2,d3⟩:=hr'.defs;obtain⟨new,n1,n2⟩:=hdx;have hnew:∀r,r∈rs->w.heap.size<=r:=fun r hr=>by
  have h1:A2u r∈a'.defers:=by rw[d2];exact List.mem_map.2 ⟨r,hr,rfl⟩
  rw[n1]at h1;simp only[a0,List.append_nil]at h1;obtain⟨r',hr',e⟩:=List.mem_map.1 h1;have:r'=r:=by simp only[A2u]at e;injection e with e1 e2;injection e1
  exact this▸n2 r' hr'
 obtain⟨w2,s1,s2,s3,s4,s5,s6⟩:=A4V (cs:=cs) rs fr w' g1 (g2.trans d2) d1 d3 hr'.mem;have hx2:Ext G F ρ w F' ρ' w2:=by
  refine⟨hx'.io.trans s6,by rw[s5];exact hx'.size,fun b hb hn=>?_,fun b hb=>?_,hx'.keep,hx'.more,hx'.im⟩
  ·rw[s4 b (fun hm=>by have:=hnew b hm;omega)];exact hx'.same b hb hn
  ·rw[s4 b (fun hm=>(d3 b hm).2.2 (hx'.keep b hb))];exact hx'.frz b hb
 have ht2:∀t v,aget S'.t t=some v->RelV w2 F' ρ' (aget S'.h) v (a'.tmps.getD t undef):=fun t v ht=>(hr'.tmps t v ht).mono (fun b hb=>s4 b (fun hm=>(d3 b hm).2.2 hb)) (fun _ h=>h) s3;obtain⟨vals,hvals⟩:=hR S' hRS;obtain⟨xs,e1,e2⟩:=B1r (fn:=fn) hres hvals s2 ht2;refine⟨.returned _,w2,{fr with defers:=[]},⟨_,rfl,hK S' vals xs w2 F' ρ' hRS hvals s2 e2 hx2 (hkp.trans s3.kp)⟩,g6.trans s1,g5,g1,rfl,g4,fn,?_,?_⟩
 ·rw[g5];exact hf
 ·show(results fn fr.tmps).run P w2=_;rw[g3];exact e1
theorem A3R {vals:List AV}{xs:List Value}(h:RelVs w F ρ H vals xs):∀t v,aget (A1w 0 vals) t=some v->RelV w F ρ H v (xs.toArray.getD t undef):=fun t v hv=>by
 obtain⟨x,_,h2,h3⟩:=A4z h hv;have h2:xs[t]? =some x:=by simpa using h2
 rw[Array.getD_eq_getD_getElem?];simp[h2];exact h3
theorem A2H {tmps:Array Value}:∀{vals:List AV} {i:Nat},(∀t v,aget (A1w i vals) t=some v->RelV w F ρ H v (tmps.getD t undef))->RelVs w F ρ H vals ((List.range' i vals.length).map fun t=>tmps.getD t undef)
 |[],i,h=>.nil
 |v::r,i,h=>by
  simp only[List.length_cons,List.range'_succ,List.map_cons];refine .cons _ _ _ _ (h i v (by simp[A1w,aget,A0t])) (A2H fun t u hu=>h t u ?_);have hne:i≠t:=fun e=>by
   subst e;have key:∀(l:List AV) (j:Nat),i<j->aget (A1w j l) i=none:=by
    intro l
    induction l with
    |nil=>intro j _;rfl
    |cons a l ih=>intro j hj;simp only[A1w,aget];rw[A0O (by omega),cond_false];exact ih _ (by omega)
   rw[key r (i+1) (by omega)]at hu;cases hu
  simp only[A1w,aget];rw[A0O hne,cond_false];exact hu
theorem A7x {xs:List Value}{n:Nat}(h:xs.length=n):(List.range' 0 n).map (fun t=>xs.toArray.getD t undef)=xs:=by
 subst h;apply List.ext_getElem
 ·simp
 ·intro i h1 h2;have h3:i<xs.length:=by simpa using h2
  simp[Array.getD_eq_getD_getElem?,h3]
theorem A98 (hcm:G.cm=A2x P){f:FuncId}{fn:Func}{c:Code}{xc:XC}{args vals:List AV}{blks:List Blk}{rts:List RT}(hf:P.funcs[f]? =some fn)(hname:(fn.name=="runtime.NumGoroutine")=false)(hb:fn.body=some c)
  (hc:A2x P c xc) (hres:B31 P fn.results.toList=some rts) (hle:Nat.ble args.length fn.ntmps=true)
  (hW:WpX P G ⟨none,[]⟩ xc (B8A args fn.ntmps) (fun e S'=>(e=.ret\/e=.normal)/\∃vs σ ps,B3G S' rts=some vs/\B4T σ (B3H S' vs) (C1A vals blks)=some ps/\A3E ps)):
  SpecP P G f args (C1B vals) blks:=by
 intro F w vs hm hv;refine A6h hcm (md:=⟨none,[]⟩) (h:=[]) rfl hf hname hb hc hres hle hW (fun S' ⟨vs,σ,ps,h,_⟩=>⟨vs,h⟩) (hm:MRel G F noR (aget []) w) hv.toVs ?_;rintro S' vals' xs w2 F' ρ' ⟨vs',σ,ps,hv',hren,hps⟩ hvals q1 q2 q3 q4;rw[hvals]at hv';cases hv';obtain⟨hn,ρ2,r1,r2,r3,_⟩:=A3z (S:=B3H S' vals') hren hps q1;refine⟨F',ρ2,?_,q3.trans r2,?_⟩
 ·simp only[C1A,B46]at r1;exact r1
 ·have h1:=r3 xs.toArray (A3R q2);simp only[C1A,B46]at h1;have h2:=A2H h1;have hlen:xs.length=vals.length:=by
   have:=q2.len;simp only[C1A,B3H]at hn;omega
  rw[A7x hlen]at h2;exact A8O h2
theorem HKp.all {h:List (Nat×HO)}{w':World}{ρ':Nat->Option Nat}{h':Nat->Option HO}(hk:HKp (keys h) w ρ (aget h) w' ρ' h'):HKeep w ρ (aget h) w' ρ' h':=
 ⟨fun id o h1=>hk.box id o (A08.2 ⟨o,h1⟩) h1,fun id k h1=>hk.blk id k (A08.2 ⟨_,h1⟩) h1,hk.sz⟩
def A99 (vals:List AV)(h ws:List (Nat×HO)):St:={t:=A1w 0 vals,h:=A29 h ws,n:=vals.length}
theorem A8P (hcm:G.cm=A2x P){f:FuncId}{fn:Func}{c:Code}{xc:XC}{args vals:List AV}{h ws:List (Nat×HO)}{al:List Nat}{rts:List RT}(hf:P.funcs[f]? =some fn)(hname:(fn.name=="runtime.NumGoroutine")=false)(hb:fn.body=some c)
  (hc:A2x P c xc) (hres:B31 P fn.results.toList=some rts) (hle:Nat.ble args.length fn.ntmps=true)
  (hW:WpX P G ⟨none,keys h⟩ xc (A6g args h fn.ntmps) (fun e S'=>(e=.ret\/e=.normal)/\∃vs σ ps,B3G S' rts=some vs/\B4T σ (B3H S' vs) (A99 vals h ws)=some ps/\A3E ps/\A43 σ (B3H S' vs) (A99 vals h ws) (keys h)=true)):
  SpecD P G (.fn f [] []) args h (C1B vals) ws al:=by
 intro F ρ w vs hm hv;refine A6h hcm (md:=⟨none,keys h⟩) (h:=h) rfl hf hname hb hc hres hle hW (fun S' ⟨vs,σ,ps,h,_⟩=>⟨vs,h⟩) hm hv ?_;rintro S' vals' xs w2 F' ρ' ⟨vs',σ,ps,hv',hren,hps,hkeep⟩ hvals q1 q2 q3 q4;rw[hvals]at hv';cases hv';obtain⟨hn,ρ2,r1,r2,r3,r4⟩:=A3z (S:=B3H S' vals') hren hps q1;have hk2:=q4.trans (r4 _ hkeep);simp only[A99,A1C]at r1 r3 hk2;refine⟨F',ρ2,r1,q3.trans r2,hk2.all,?_⟩;have h2:=A2H (r3 xs.toArray (A3R q2));have hlen:xs.length=vals.length:=by
  have:=q2.len;simp only[A99,B3H]at hn;omega
 rw[A7x hlen]at h2;exact A8O h2
end
abbrev TB:=Nat->List (Nat×HO)->AV->List AV->Option Delta
def cdC:Cd->Bool
 |.callD _ _ _ _ _ _=>true
 |c=>cdB c
def B47:List Cd->Bool
 |[]=>true
 |c::r=>cond (cdC c) (B47 r) false
def C1C (op:XOp)(cs:List Cd):Bool:=
 match op with
 |.call _ _=>B47 cs
 |.callv _ _=>B47 cs
 |_=>B9u cs
def B7d:Nat->List Nat->Nat
 |m,[]=>m
 |m,i::r=>B7d (cond (Nat.ble m i) (i+1) m) r
def B32 (c0:Nat)(wr:List Nat):List (Nat×HO)->List Nat
 |[]=>wr
 |(i,_)::r=>B32 c0 (cond (Nat.ble c0 i) wr (cond (A1K i wr) wr (i::wr))) r
structure EvS where
 S:St
 c:Nat
 wr:List Nat
def A4W (G:GL)(tb:TB)(c0:Nat):List XO->EvS->Option EvS
 |[],s=>some s
 |x::r,s=>match B30 G s.c (aget s.S.h) x .auto (.tab true tb) (C5B s.S.t x.guard) (A6T s.S.t x.op.opds)with
  |some D=>cond (B6Z x.dst s.S.n&&(A24 s.S.h D.al&&C1C x.op D.cs)) (A4W G tb c0 r ⟨B6s s.S x.dst D,B7d s.c D.al,B32 c0 s.wr D.ws⟩) none
  |none=>none
def B8C:List Opd->List Nat
 |[]=>[]
 |.t n::r=>n::B8C r
 |_::r=>B8C r
def B8D (x y:XO):Bool:=
 A1O (optL x.dst) (B8C y.op.opds++(gL y.guard++optL y.dst))&&A1O (optL y.dst) (B8C x.op.opds++gL x.guard)
def B8E (e f:Ent):Bool:=
 A1O (keys e.D.ws) (keys f.rh++(f.D.al++keys f.D.ws))&&A1O (keys f.D.ws) (keys e.rh++e.D.al)
def B8F (xs:List XO)(x:XO)(j:Nat):Bool:=
 match A6K xs j with
 |some y=>B8D x y
 |none=>false
def B7e (dep:List (List Nat))(tbl:List (Nat×List Nat))(xs:List XO)(i:Nat)(x:XO):List Nat->Bool
 |[]=>true
 |j::r=> !Nat.beq i j&&(!A1K j (B2m dep i)&&((A1K i (tbN tbl j)||B8F xs x j)&&B7e dep tbl xs i x r))
def B8G (dep:List (List Nat))(tbl:List (Nat×List Nat))(xs:List XO)(i:Nat)(r:List Nat):Bool:=
 match A6K xs i with
 |some x=>B7e dep tbl xs i x r
 |none=>false
def B2v (dep:List (List Nat))(tbl:List (Nat×List Nat))(xs:List XO):List Nat->Bool
 |[]=>true
 |i::r=> !A1K i (B2m dep i)&&(B8G dep tbl xs i r&&B2v dep tbl xs r)
def B9v (xs:List XO)(dep:List (List Nat))(ord:List Nat):Bool:=
 Nat.beq ord.length xs.length&&(A9Z ord xs.length&&(C1X xs.length dep&&(B3x xs.length ord&&B2v dep (A4U dep ord []) xs ord)))
def B2w (e:Ent):Bool:=B1q e.D.ws&&(B1q e.rh&&B1q e.D.al)
def B0a (tbl:List (Nat×List Nat))(i:Nat)(e:Ent):List (Nat×Ent)->Bool
 |[]=>true
 |(j,f)::r=>((B1q e.D.ws&&B1q f.D.ws)||(A1K i (tbN tbl j)||B8E e f))&&B0a tbl i e r
def A6i (tbl:List (Nat×List Nat)):List (Nat×Ent)->Bool
 |[]=>true
 |(i,e)::r=>(B2w e||B0a tbl i e r)&&A6i tbl r
def A2Y (G:GL)(tb:TB)(c0:Nat)(xs:List XO):List Nat->EvS->Option (EvS×List (Nat×Ent))
 |[],s=>some (s,[])
 |i::r,s=>match A6K xs i with
  |some x=>match B4J G s.S x s.c (.auto,.tab true tb)with
   |some e=>cond (C1C x.op e.D.cs) (match A2Y G tb c0 xs r ⟨B6s s.S x.dst e.D,B7d s.c e.D.al,B32 c0 s.wr e.D.ws⟩with
    |some (s',es)=>some (s',(i,e)::es)
    |none=>none) none
   |none=>none
  |none=>none
def Ex.isN:Ex->Bool
 |.normal=>true
 |_=>false
def B7f:Option Ex->Option Ex
 |none=>some .normal
 |some .normal=>none
 |some e=>some e
def C5C (h:List (Nat×HO)):Option Nat->Bool
 |none=>true
 |some l0=>match aget h l0 with
  |some (.loop _)=>true
  |_=>false
def evC (G:GL)(tb:TB)(rid:Option Nat)(c0:Nat):Nat->XC->EvS->Option (Ex×EvS)
 |0,_,_=>none
 |n+1,xc,s=>match xc with
  |.skip=>some (.normal,s)
  |.bad=>none
  |.scope a=>evC G tb rid c0 n a s
  |.exit id=>some (.exit id,s)
  |.ret=>some (.ret,s)
  |.reg _ xs dead=>match A4W G tb c0 xs s with
   |some s'=>some (.normal,⟨B4V s'.S dead,s'.c,s'.wr⟩)
   |none=>none
  |.draw _ xs dep ord dead=>cond (B9v xs dep ord) (match A2Y G tb c0 xs ord s with
   |some (s',es)=>cond (A6i (A4U dep ord []) es) (some (.normal,⟨B4V s'.S dead,s'.c,s'.wr⟩)) none
   |none=>none) none
  |.seq a b=>match evC G tb rid c0 n a s with
   |some (e,s')=>match e with
    |.normal=>evC G tb rid c0 n b s'
    |e=>some (e,s')
   |none=>none
  |.cond c a b=>match c.ev G s.S.t with
   |.bool v=>match v with
    |true=>evC G tb rid c0 n a s
    |false=>evC G tb rid c0 n b s
   |_=>none
  |.block id a=>match evC G tb rid c0 n a s with
   |some (e,s')=>match e with
    |.exit i=>some (cond (Nat.beq i id) .normal (.exit i),s')
    |e=>some (e,s')
   |none=>none
  |.loop a=>match evC G tb rid c0 n a s with
   |some (e,s')=>match e with
    |.normal=>evC G tb rid c0 n (.loop a) s'
    |e=>some (e,s')
   |none=>none
  |.rangeF g ps as bd=>match g.ev G s.S.t with
   |.fn f a cp=>cond (C5C s.S.h rid)
    (cond (A24 s.S.h [s.c]) (match A2g (s.c+1) (aget (A1B s.S.h s.c (.loop ⟨0,none,s.S.t,s.S.n,ps,as,bd⟩))) tb (.fn f [] []) (a++[.yld s.c]++cp)with
     |some D=>cond (A24 (A1B s.S.h s.c (.loop ⟨0,none,s.S.t,s.S.n,ps,as,bd⟩)) D.al&&B47 D.cs) (match aget (A29 (A1B s.S.h s.c (.loop ⟨0,none,s.S.t,s.S.n,ps,as,bd⟩)) D.ws) s.c with
      |some (.loop l2)=>match B7f l2.pend with
       |some e=>cond (Nat.beq l2.st 1) none (some (e,⟨{s.S with h:=A1B (A29 (A1B s.S.h s.c (.loop ⟨0,none,s.S.t,s.S.n,ps,as,bd⟩)) D.ws) s.c (.loop {l2 with st:=3})},B7d (s.c+1) D.al,B32 c0 s.wr ((s.c,.loop l2)::D.ws)⟩))
       |none=>none
      |_=>none) none
     |none=>none) none) none
   |_=>none
structure FnE where
 n:Nat
 rts:List RT
 xc:XC
def B7g (h0:List Nat)(c0:Nat)(wr:List Nat):List (Nat×HO)->List (Nat×HO)
 |[]=>[]
 |(i,o)::r=>cond (cond (A1K i h0) (cond (Nat.ble c0 i) true (A1K i wr)) true) ((i,o)::B7g h0 c0 wr r) (B7g h0 c0 wr r)
def C6H (h0:List Nat):List (Nat×HO)->List Nat
 |[]=>[]
 |(i,_)::r=>cond (A1K i h0) (C6H h0 r) (i::C6H h0 r)
def B9w (h0:List Nat)(c0:Nat)(s:EvS)(vals:List AV):Option Delta:=
 let r:=A2r vals++h0
 let h:=A4X (aget s.S.h) (A4L (aget s.S.h) 1000000 r [])
 cond (B0R r (keys h)&&A4k (keys h) h) (some {v:=C1B vals,ws:=B7g h0 c0 s.wr h,al:=C6H h0 h,cs:=[]}) none
def A4A:List (Nat×AV)->List Nat->List AV->List (Nat×AV)
 |t,p::ps,v::vs=>A4A (A1B t p v) ps vs
 |t,_,_=>t
def A6j (n:Nat):List Nat->Bool
 |[]=>true
 |p::r=>cond (Nat.ble (p+1) n) (A6j n r) false
section
variable {P:Program}{G:GL}{md:Md}{F:Nat->Prop}{ρ:Nat->Option Nat}{a:Act}{w:World}{ops:Array Oper}{tb:TB}
def B2x (P:Program)(G:GL)(tb:TB):Prop:=∀c h cv args D,tb c h cv args=some D->D.cs=[]/\SpecD P G cv args h D.v D.ws D.al
theorem B2y {Sp:SpT}:∀{rt:List (Nat×AV)} {cs:List Cd},B47 (A53 rt cs)=true->A0M Sp cs->A0M Sp (A53 rt cs)
 |[],cs,h,hc=>hc
 |(_,v)::r,cs,h,hc=>by
  have key:∀cs',B47 (A7m v cs')=true->B47 cs'=true/\(A0M Sp cs'->A0M Sp (A7m v cs')):=by
   intro cs' h';unfold A7m at h' ⊢;split at h'
   ·rename_i b u;simp only[B47,cdC,cdB,cond_eq_ite]at h';split at h'
    ·rename_i hb;exact⟨h',fun hh=>⟨hb,hh⟩⟩
    ·cases h'
   ·exact⟨h',fun hh=>hh⟩
  obtain⟨k1,k2⟩:=key _ h;exact k2 (B2y k1 hc)
theorem A5j {site:Nat}{look:Nat->Option HO}{cv:AV}{vs:List AV}{D:Delta}(htb:B2x P G tb)(hD:A2g site look tb cv vs=some D):A0M (A1n P G) D.cs:=by
 unfold A2g at hD;simp only[cond_eq_ite]at hD;split at hD
 ·split at hD
  ·rename_i D' hD';split at hD
   ·cases hD;obtain⟨h1,h2⟩:=htb _ _ _ _ _ hD';rw[h1];exact⟨h2,trivial⟩
   ·cases hD
  ·cases hD
 ·cases hD
theorem A2y {site:Nat}{look:Nat->Option HO}{x:XO}{gv:Option AV}{rt:List (Nat×AV)}{D:Delta}(htb:B2x P G tb)(hD:B30 G site look x .auto (.tab true tb) gv rt=some D)(h:C1C x.op D.cs=true):A0M (A1n P G) D.cs:=by
 have call:∀f as,x.op=.call f as\/(∃X,x.op=.callv X as)->C1C x.op D.cs=B47 D.cs:=fun f as e=>by
  rcases e with e|⟨X,e⟩<;>rw[e]<;>rfl
 by_cases hcall:(∃f as,x.op=.call f as)\/(∃X as,x.op=.callv X as)
 ·have hck:B47 D.cs=true:=by
   rcases hcall with⟨f,as,e⟩|⟨X,as,e⟩
   ·rw[<- call f as (.inl e)];exact h
   ·rw[<- call 0 as (.inr ⟨X,e⟩)];exact h
  have run:∀{D':Delta},B47 D'.cs=true->B2j G site look x.op (.tab true tb) rt=some D'->A0M (A1n P G) D'.cs:=by
   intro D' hck' hD';unfold B2j at hD';split at hD'
   ·rename_i hk;rcases hcall with⟨f,as,e⟩|⟨X,as,e⟩<;>rw[e]at hk<;>cases hk
   ·split at hD'
    ·rename_i D0 h0;cases hD';refine B2y hck' ?_;rcases hcall with⟨f,as,e⟩|⟨X,as,e⟩
     ·rw[e]at h0;simp only[A0L,A4N]at h0;exact A5j htb h0
     ·rw[e]at h0;simp only[A0L,A7W]at h0;split at h0
      ·simp only[A4N]at h0;exact A5j htb h0
      ·exact A5j htb h0
      ·cases h0
    ·cases hD'
  unfold B30 at hD;split at hD
  ·exact run hck hD
  ·split at hD
   ·simp only[cond_eq_ite]at hD;split at hD
    ·exact run hck hD
    ·cases hD;exact trivial
   ·cases hD
 ·have:C1C x.op D.cs=B9u D.cs:=by
   unfold C1C;split
   ·rename_i e;exact absurd (.inl ⟨_,_,e⟩) hcall
   ·rename_i e;exact absurd (.inr ⟨_,_,e⟩) hcall
   ·rfl
  rw[this]at h;exact A8N h
def A6Y (c0:Nat)(wr wr':List Nat)(H H':Nat->Option HO):Prop:=∀i,i∉wr'->i<c0->i∉wr/\H' i=H i
theorem A6Y.refl (c0:Nat)(wr:List Nat)(H:Nat->Option HO):A6Y c0 wr wr H H:=fun i h _=>⟨h,rfl⟩
theorem A6Y.trans {c0:Nat}{wr wr' wr'':List Nat}{H H' H'':Nat->Option HO}(h:A6Y c0 wr wr' H H')(k:A6Y c0 wr' wr'' H' H''):A6Y c0 wr wr'' H H'':=fun i h1 h2=>by
 obtain⟨k1,k2⟩:=k i h1 h2;obtain⟨g1,g2⟩:=h i k1 h2;exact⟨g1,k2.trans g2⟩
theorem A6k {c0:Nat}:∀{ws:List (Nat×HO)} {wr:List Nat} {i:Nat},i∉B32 c0 wr ws->i<c0->i∉wr/\i∉keys ws
 |[],wr,i,h,hi=>⟨h,by simp[keys]⟩
 |(j,o)::r,wr,i,h,hi=>by
  simp only[B32]at h;obtain⟨h1,h2⟩:=A6k h hi;have hj:i≠j/\i∉wr:=by
   simp only[cond_eq_ite]at h1;split at h1
   ·rename_i hc;have:=Nat.le_of_ble_eq_true hc;exact⟨by omega,h1⟩
   ·split at h1
    ·rename_i hm;exact⟨fun e=>h1 (e▸A02.1 hm),h1⟩
    ·simp only[List.mem_cons,not_or]at h1;exact h1
  simp only[keys,List.mem_cons,not_or];exact⟨hj.2,hj.1,h2⟩
theorem A6Y.upd {c0:Nat}{wr:List Nat}{H:Nat->Option HO}{ws:List (Nat×HO)}:A6Y c0 wr (B32 c0 wr ws) H (A00 H ws):=fun i h hi=>by
 obtain⟨h1,h2⟩:=A6k h hi;exact⟨h1,A05 h2⟩
theorem B0b {c0:Nat}:∀{xs:List XO} {s s':EvS},A4W G tb c0 xs s=some s'->A6Y c0 s.wr s'.wr (aget s.S.h) (aget s'.S.h)
 |[],s,s',he=>by simp only[A4W]at he;cases he;exact .refl _ _ _
 |x::r,s,s',he=>by
  simp only[A4W]at he;split at he
  ·rename_i D hD;rw[cond_eq_ite]at he;split at he
   ·exact A6Y.trans (wr':=B32 c0 s.wr D.ws) (H':=aget (B6s s.S x.dst D).h) (by rw[A3D];exact .upd) (B0b he)
   ·cases he
  ·cases he
theorem A7y {c0:Nat}{xs:List XO}:∀{ord:List Nat} {s s':EvS} {es:List (Nat×Ent)},A2Y G tb c0 xs ord s=some (s',es)->A6Y c0 s.wr s'.wr (aget s.S.h) (aget s'.S.h)
 |[],s,s',es,h=>by simp only[A2Y]at h;cases h;exact .refl _ _ _
 |i::r,s,s',es,h=>by
  simp only[A2Y]at h;split at h
  ·rename_i x hxi;split at h
   ·rename_i e he;rw[cond_eq_ite]at h;split at h
    ·split at h
     ·rename_i s'' es' h';cases h;exact A6Y.trans (wr':=B32 c0 s.wr e.D.ws) (H':=aget (B6s s.S x.dst e.D).h) (by rw[A3D];exact .upd) (A7y h')
     ·cases h
    ·cases h
   ·cases h
  ·cases h
theorem A3m (htb:B2x P G tb){c0:Nat}{R:Act->World->Prop}:∀(l:List Oper) (k:Nat) (xs:List XO) (s s':EvS) (F:Nat->Prop) (ρ:Nat->Option Nat) (a:Act) (w:World),(∀j,l[j]? =ops[k+j]?)->A0N P ops l=some xs->A4W G tb c0 xs s=some s'->
  A6Y c0 s.wr s'.wr (aget s.S.h) (aget s'.S.h)/\(RS G F ρ s.S a w->(∀a' w' F' ρ',RS G F' ρ' s'.S a' w'->Ext G F ρ w F' ρ' w'->HKeep w ρ (aget s.S.h) w' ρ' (aget s'.S.h)->a'.defers=a.defers->R a' w')->A2a P ops R (List.range' k l.length) a w)
 |[],k,xs,s,s',F,ρ,a,w,hl,hx,he=>by
  cases hx;simp only[A4W]at he;cases he;exact⟨.refl _ _ _,fun hr hQ=>hQ a w F ρ hr (Ext.refl _ _ _) (HKeep.refl _ _ _) rfl⟩
 |o::l,k,xs,s,s',F,ρ,a,w,hl,hx,he=>by
  simp only[A0N]at hx;split at hx
  ·rename_i x xl hxo hxl;cases hx;simp only[A4W]at he;split at he
   ·rename_i D hD;rw[cond_eq_ite]at he;split at he
    ·rename_i hcond;simp only[Bool.and_eq_true]at hcond;have c1:=A2y htb hD hcond.2.2;have h0:ops[k]? =some o:=by simpa using(hl 0).symm
     have hnext:∀j,l[j]? =ops[k+1+j]? :=fun j=>by have:=hl (j+1);simpa[Nat.add_assoc,Nat.add_comm 1 j]using this
     refine⟨A6Y.trans (wr':=B32 c0 s.wr D.ws) (H':=aget (B6s s.S x.dst D).h) (by rw[A3D];exact .upd) (A3m (R:=R) htb l (k+1) xl _ s' F ρ a w hnext hxl he).1,fun hr hQ=>?_⟩;rw[List.length_cons,List.range'_succ];show A6U P ops k _ a w;refine A55 h0 hxo hr (fun t v h=>A13 h) (fun t want v hg hv=>A56 hg hv) (fun _ _ h=>h) hD (A5g hcond.1) (A1s hcond.2.1) c1 ?_;intro y w' F' ρ' hr' hx' hk';rw[<- A3D s.S x.dst D]at hk';refine(A3m htb l (k+1) xl _ s' F' ρ' _ w' hnext hxl he).2 ?_ ?_
     ·unfold RS;simp only;rw[B2k,A3D];exact hr'
     ·intro a' w'' F'' ρ'' h1 h2 h3 h4;exact hQ a' w'' F'' ρ'' h1 (hx'.trans h2) (hk'.trans h3) (h4.trans (A3N _ _ _))
    ·cases he
   ·cases he
  ·cases hx
theorem A7z (htb:B2x P G tb){c0:Nat}{xs:List XO}(hx:A0N P ops ops.toList=some xs):∀{ord:List Nat} {s s':EvS} {es:List (Nat×Ent)},A2Y G tb c0 xs ord s=some (s',es)->
  keys es=ord/\s'.S.n=s.S.n/\(∀p,p∈es->B9k P G ops s.S.n p)/\A8E (aget s'.S.t) (aget s'.S.h) es (aget s.S.t) (aget s.S.h)/\A6Y c0 s.wr s'.wr (aget s.S.h) (aget s'.S.h)/\
  (∀p,p∈es->A6K xs p.1=some p.2.x/\(∀t,t∈keys p.2.rt->t∈B8C p.2.x.op.opds))
 |[],s,s',es,h=>by
  simp only[A2Y]at h;cases h;exact⟨rfl,rfl,fun p hp=>by simp at hp,⟨rfl,rfl⟩,.refl _ _ _,fun p hp=>by simp at hp⟩
 |i::r,s,s',es,h=>by
  simp only[A2Y]at h;split at h
  ·rename_i x hxi;split at h
   ·rename_i e he;rw[cond_eq_ite]at h;split at h
    ·rename_i hck;split at h
     ·rename_i s'' es' h';cases h;obtain⟨g1,g2,g3,g4,g5,g6⟩:=A7z htb hx h';obtain⟨o,ho,hxo⟩:=A3O hx hxi;simp only[B4J]at he;split at he
      ·rename_i D hD;rw[cond_eq_ite]at he;split at he
       ·rename_i hcond;cases he;rw[Bool.and_eq_true]at hcond;have c1:=A2y htb hD hck;refine⟨by simp[keys,g1],g2,fun p hp=>?_,⟨⟨?_,?_,?_,?_⟩,?_⟩,A6Y.trans (by rw[A3D];exact .upd) g5,fun p hp=>?_⟩
        ·rcases List.mem_cons.1 hp with rfl|hp
         ·exact⟨o,by simpa using ho,hxo,hD,A5g hcond.1,c1⟩
         ·exact g3 p hp
        ·intro t v hv;exact A13 hv
        ·intro t want v hg hv;exact A56 hg hv
        ·intro j o' hj;exact A2K hj
        ·exact A1s hcond.2
        ·simp only[B2k,A3D]at g4;exact g4
        ·rcases List.mem_cons.1 hp with rfl|hp
         ·refine⟨hxi,?_⟩;simp only;generalize x.op.opds=os
          induction os with
          |nil=>intro t ht;simp[A6T,keys]at ht
          |cons q os ih=>
           cases q with
           |t n=>
            intro t ht;simp only[A6T]at ht;split at ht
            ·simp only[keys,List.mem_cons]at ht;simp only[B8C,List.mem_cons];exact ht.imp (fun h=>h) (ih t)
            ·simp only[B8C,List.mem_cons];exact .inr (ih t ht)
           |c v=>intro t ht;exact ih t ht
           |g n=>intro t ht;exact ih t ht
         ·exact g6 p hp
       ·cases he
      ·cases he
     ·cases h
    ·cases h
   ·cases h
  ·cases h
theorem A6l {a b a' b':List Nat}(h:A1O a b=true)(ha:∀i,i∈a'->i∈a)(hb:∀i,i∈b'->i∈b):∀i,i∈a'->i∉b':=
 fun i h1 h2=>A7c h i (ha i h1) (hb i h2)
theorem A4c:∀{a b:List Nat},(∀i,i∈a->i∉b)->A1O a b=true
 |[],b,h=>rfl
 |x::r,b,h=>by
  simp only[A1O,cond_eq_ite];have:¬ A1K x b=true:=fun e=>h x (by simp) (A02.1 e);rw[if_neg this];exact A4c fun i hi=>h i (by simp[hi])
theorem B2z {xs:List XO}{dep:List (List Nat)}{tbl:List (Nat×List Nat)}{dp:Nat->List Nat}(hd:∀i,dp i=B2m dep i):
  ∀{es:List (Nat×Ent)},B2v dep tbl xs (keys es)=true->A6i tbl es=true->(∀p,p∈es->A6K xs p.1=some p.2.x/\(∀t,t∈keys p.2.rt->t∈B8C p.2.x.op.opds))->A8F dp (tbN tbl) es
 |[],_,_,_=>trivial
 |(i,e)::r,hT,hH,hx=>by
  simp only[keys,B2v,Bool.and_eq_true,Bool.not_eq_true']at hT;simp only[A6i,Bool.and_eq_true,Bool.or_eq_true]at hH;obtain⟨hself,hpair,hT⟩:=hT;obtain⟨hheap,hH⟩:=hH;obtain⟨x1,x2⟩:=hx (i,e) (by simp);have x1:A6K xs i=some e.x:=x1;have nmem:∀{x:Nat} {l:List Nat},A1K x l=false->x∉l:=fun h hm=>by rw[A02.2 hm]at h;cases h
  unfold B8G at hpair;rw[x1]at hpair;simp only at hpair;have key:∀{r':List (Nat×Ent)},(∀p,p∈r'->p∈r)->B7e dep tbl xs i e.x (keys r')=true->(B2w e=true\/B0a tbl i e r'=true)->i∉keys r'/\∀p,p∈r'->p.1∉B2m dep i/\(i∈tbN tbl p.1\/Apart e p.2):=by
   intro r'
   induction r' with
   |nil=>intro _ _ _;exact⟨by simp[keys],fun p hp=>by simp at hp⟩
   |cons q r' ih=>
    obtain⟨j,f⟩:=q;intro hsub hp hh;simp only[keys,B7e,Bool.and_eq_true,Bool.or_eq_true,Bool.not_eq_true']at hp;obtain⟨hij,hjd,hap,hp⟩:=hp;have hh2:(B2w e=true\/B0a tbl i e r'=true)/\(i∈tbN tbl j\/(A1O (keys e.D.ws) (keys f.rh++(f.D.al++keys f.D.ws))=true/\A1O (keys f.D.ws) (keys e.rh++e.D.al)=true)):=by
     rcases hh with hq|hh
     ·refine⟨.inl hq,.inr ?_⟩;simp only[B2w,Bool.and_eq_true]at hq;obtain⟨q1,q2,q3⟩:=hq;rw[A4b q1,A4b q2,A4b q3];exact⟨rfl,A4c fun i _ h=>by simp[keys]at h⟩
     ·simp only[B0a,Bool.and_eq_true,Bool.or_eq_true]at hh;obtain⟨hc,hh⟩:=hh;refine⟨.inr hh,?_⟩;rcases hc with hnil|hm|hc
      ·rw[A4b hnil.1,A4b hnil.2];exact .inr ⟨rfl,rfl⟩
      ·exact .inl (A02.1 hm)
      ·simp only[B8E,Bool.and_eq_true]at hc;exact .inr hc
    obtain⟨k1,k2⟩:=ih (fun p hp=>hsub p (by simp[hp])) hp hh2.1;have hne:i≠j:=fun e=>by subst e;rw[A0t]at hij;cases hij
    refine⟨by simp only[keys,List.mem_cons,not_or];exact⟨hne,k1⟩,fun p hp=>?_⟩;rcases List.mem_cons.1 hp with rfl|hp
    ·refine⟨nmem hjd,?_⟩;obtain⟨y1,y2⟩:=hx (j,f) (List.mem_cons_of_mem _ (hsub _ (by simp)));have y1:A6K xs j=some f.x:=y1;rcases hap with hm|hap
     ·exact .inl (A02.1 hm)
     ·unfold B8F at hap;rw[y1]at hap;simp only[B8D,Bool.and_eq_true]at hap;rcases hh2.2 with h|⟨h1,h2⟩
      ·exact .inl h
      ·right;refine A9X ?_;simp only[A9W,Bool.and_eq_true];refine⟨A4c (A6l hap.1 (fun i h=>h) fun t ht=>?_),A4c (A6l hap.2 (fun i h=>h) fun t ht=>?_),h1,h2⟩
       ·simp only[List.mem_append]at ht ⊢; exact ht.imp (y2 t) (fun h=>h)
       ·simp only[List.mem_append]at ht ⊢; exact ht.imp (x2 t) (fun h=>h)
    ·exact k2 p hp
  obtain⟨k1,k2⟩:=key (r':=r) (fun p hp=>hp) hpair hheap;refine⟨fun h=>?_,k1,fun p hp=>?_,B2z hd hT hH fun p hp=>hx p (by simp[hp])⟩
  ·rw[hd]at h;exact nmem hself h
  ·rw[hd];exact k2 p hp
end
section
variable {P:Program}{G:GL}{md:Md}{F:Nat->Prop}{ρ:Nat->Option Nat}{H:Nat->Option HO}{a:Act}{w w':World}{ops:Array Oper}{tb:TB}
theorem MRel.allocOff (hm:MRel G F ρ H w){ob:Obj}(hw:w'.heap=w.heap.push ob)(hio:IoEq G w w'):MRel G F ρ H w'/\Ext G F ρ w F ρ w'/\HKeep w ρ H w' ρ H:=by
 have hsz:w'.heap.size=w.heap.size+1:=by rw[hw];simp
 have hold:∀b,b<w.heap.size->w'.heap[b]? =w.heap[b]? :=fun b hb=>A1Q hw hb;have hk:HKeep w ρ H w' ρ H:=⟨fun id o h1 h2=>⟨o,h1,h2,rfl⟩,fun id k h1=>⟨k,h1,rfl,Nat.le_refl _,fun _=>⟨rfl,rfl,.inl rfl,rfl⟩⟩,fun b cs ty fz hb=>⟨cs,ty,fz,(hold b (A0D hb)).trans hb,rfl⟩⟩;have hwF:∀b,F b->w'.heap[b]? =w.heap[b]? :=fun b hb=>hold b (hm.frz b hb);exact⟨⟨fun id o h1=>(hm.heap id o h1).mono hwF (fun _ h=>h) hk rfl (fun b hb=>⟨hold b (hm.lt id b hb),fun h=>h⟩),hm.dom,hm.inj,fun id b hb=>by have:=hm.lt id b hb;omega,fun b hb=>by have:=hm.frz b hb;omega,hm.glob.mono hwF (fun _ h=>h)⟩,
  ⟨hio,by omega,fun b hb _=>hold b hb,hwF,fun _ h=>h,fun _ h=>.inl h,fun id b hb=>.inl ⟨id,hb⟩⟩,hk⟩
theorem B3J (hm:MRel G F ρ H w)(ro:Option Nat)(hro:∀l0,ro=some l0->∃r0,w.heap[l0]? =some (.loop r0))(fn:FuncId)(tmps:Array Value)(qs:Array Tmp)(ca cb:Code):
  ∃l mark w0 w1 r0,(Instr.enterLoop fn tmps qs ca cb ro).run P w=.ok (l,mark) w1/\MRel G F ρ H w0/\Ext G F ρ w F ρ w0/\HKeep w ρ H w0 ρ H/\w1.heap=w0.heap.push (.loop {state:=.ready,pending:=none,fn,tmps,params:=qs,assign:=ca,body:=cb,defers:=r0})/\IoEq G w0 w1/\l=w0.heap.size/\
   (mark=[]\/(mark=[A2u r0]/\w0.heap[r0]? =some (.deferred (some []))/\w.heap.size<=r0)):=by
 cases ro with
 |none=>
  obtain⟨h1,h2,h3⟩:=hm.allocOff (w':=w.alloc (.deferred (some []))) (ob:=.deferred (some [])) rfl ⟨rfl,rfl,fun _=>⟨rfl,Nat.le_refl _⟩⟩;refine⟨_,_,w.alloc (.deferred (some [])),_,_,run_enterLoop_outer fn tmps qs ca cb,h1,h2,h3,rfl,⟨rfl,rfl,fun _=>⟨rfl,Nat.le_refl _⟩⟩,?_,.inr ⟨rfl,?_,Nat.le_refl _⟩⟩
  ·show w.heap.size+1=(w.heap.push _).size;rw[Array.size_push]
  ·show(w.heap.push _)[w.heap.size]? =_;rw[Array.getElem?_push_size]
 |some l0=>
  obtain⟨r0,hr0⟩:=hro l0 rfl;refine⟨w.heap.size,[],w,w.alloc (.loop {state:=.ready,pending:=none,fn,tmps,params:=qs,assign:=ca,body:=cb,defers:=r0.defers}),r0.defers,?_,hm,Ext.refl _ _ _,HKeep.refl _ _ _,rfl,⟨rfl,rfl,fun _=>⟨rfl,Nat.le_refl _⟩⟩,rfl,.inl rfl⟩;unfold Instr.enterLoop;simp only[Sem.run_bind,run_getLoop hr0,run_newObj_alloc,Result.andThen,Sem.run_pure]
theorem B0c {b:Frame}{k:List Item}{cs:List Frame}{g:Operand}{qs:Array Tmp}{ca cb:Code}{l:Nat}{mark:List Deferred}{w1:World}{f:FuncId}{x1 x2:Array Value}{K:Value->World->Prop}
  (he:(Instr.enterLoop b.fn a.tmps qs ca cb b.roundOf).run P w=.ok (l,mark) w1) (hg:a.eval g=.func (.func f) x1 x2)
  (hK:A19 P f (x1++ #[.func (.yield l) #[] #[]]++x2) w1 K):
  ∃v w3,K v w3/\Steps P (lone (b.atR a (.code (.rangeFunc g qs ca cb)::k)) cs w) (lone (b.atR {a with defers:=mark++a.defers} (.endRangeFunc l::k)) cs w3):=by
 have hev:=Frame.eval_atR b {a with defers:=mark++a.defers} (.inRangeFunc l::k);simp only[Frame.atR]at hev;have hg':({tmps:=a.tmps,defers:=mark++a.defers}:Act).eval g=.func (.func f) x1 x2:=by
  rw[<- hg];cases g<;>rfl
 have hres:(do let d <- resolve ({tmps:=a.tmps,defers:=mark++a.defers}:Act).eval {callee:=.value g,args:= #[.const (.func (.yield l) #[] #[])],argTypes:= #[]} 0;invoke d.target d.args:Sem Next).run P w1=(callFunc f (x1++ #[.func (.yield l) #[] #[]]++x2)).run P w1:=by
  simp only[resolve,Deferred.ofValue,hg',Sem.run_bind,Sem.run_pure,Result.andThen_ok,invoke];have:Array.map ({tmps:=a.tmps,defers:=mark++a.defers}:Act).eval #[Operand.const (Value.func (Fn.yield l) #[] #[])]= #[Value.func (Fn.yield l) #[] #[]]:=by simp[Act.eval]
  rw[this]
 rcases hK with⟨nx,y,w',h1,h2,h3⟩|⟨f',args,w2,h1,h2⟩|⟨l',fn,tmps,as,bd,w2,h1,h2⟩
 ·refine⟨y,w',h3,.one (step_lone_go ?_)⟩;rw[h1]at hres;rw[<- finish_atR_inRangeFunc l y];rcases h2 with rfl|⟨rfl,rfl⟩<;>simp[stepG,stepG.exec,Frame.atR,Sem.runT_eq,he,GStep.bare_after,stepG.apply,hev,hres]
 ·rw[h1]at hres;obtain⟨e,w3,fr,⟨v,rfl,hv⟩,hsteps,_,hleave⟩:=h2 (b.atR {a with defers:=mark++a.defers} (.inRangeFunc l::k)::cs);refine⟨v,w3,hv,.head (step_lone_go (fr':=Frame.enter P f' args .normal) (cs':=b.atR {a with defers:=mark++a.defers} (.inRangeFunc l::k)::cs) (w':=w2) ?_) (hsteps.trans (.one ?_))⟩
  ·simp[stepG,stepG.exec,Frame.atR,Sem.runT_eq,he,GStep.bare_after,stepG.apply,hev,hres]
  ·rw[<- finish_atR_inRangeFunc l v];exact step_leave_returned hleave
 ·rw[h1]at hres;obtain⟨v,w3,hv,hsteps⟩:=h2 (b.atR {a with defers:=mark++a.defers} (.inRangeFunc l::k)) cs;refine⟨v,w3,hv,.head (step_lone_go (fr':=Frame.round l' fn tmps as bd .normal) (cs':=b.atR {a with defers:=mark++a.defers} (.inRangeFunc l::k)::cs) (w':=w2) ?_) ?_⟩
  ·simp[stepG,stepG.exec,Frame.atR,Sem.runT_eq,he,GStep.bare_after,stepG.apply,hev,hres]
  ·rw[finish_atR_inRangeFunc]at hsteps;exact hsteps
theorem B3K {h:List (Nat×HO)}{id:Nat}{o:HO}{ws:List (Nat×HO)}:aget (A29 (A1B h id o) ws)=A00 (upd (aget h) id (some o)) ws:=by rw[A1C,A0o]
theorem A7A (hcm:G.cm=A2x P){g:Opd}{ps:List Nat}{as bd:XC}{S:St}{f:Nat}{a0 cp:List AV}(hg:g.ev G S.t=.fn f a0 cp)(hrid:∀l0,md.rid=some l0->∃L,aget S.h l0=some (.loop L)){id:Nat}(hid:aget S.h id=none)
  {D:Delta} (hal:∀i,i∈D.al->aget (A1B S.h id (.loop ⟨0,none,S.t,S.n,ps,as,bd⟩)) i=none)
  (hsp:∀F ρ w (xs:Array Value),MRel G F ρ (aget (A1B S.h id (.loop ⟨0,none,S.t,S.n,ps,as,bd⟩))) w->RelVs w F ρ (aget (A1B S.h id (.loop ⟨0,none,S.t,S.n,ps,as,bd⟩))) (a0++[.yld id]++cp) xs.toList->A19 P f xs w (KD G F ρ (aget (A1B S.h id (.loop ⟨0,none,S.t,S.n,ps,as,bd⟩))) w D))
  {l2:LoopS} (h2:aget (A29 (A1B S.h id (.loop ⟨0,none,S.t,S.n,ps,as,bd⟩)) D.ws) id=some (.loop l2)) {e:Ex} (hp:B7f l2.pend=some e) (hst:l2.st≠1) {Q:Ex->St->Prop}
  (hQ:Q e {S with h:=A1B (A29 (A1B S.h id (.loop ⟨0,none,S.t,S.n,ps,as,bd⟩)) D.ws) id (.loop {l2 with st:=3})}):WpX P G md (.rangeF g ps as bd) S Q:=by
 intro c hc F ρ a w ro hr hro b k cs hb;obtain⟨X,qs,ca,cb,rfl,hps,hX,hca,hcb⟩:=B43 hcm hc;have hfv:=A8D (rt:=S.t) (a:=a) hr.mem hr.tmps X g hX;rw[hg]at hfv;obtain⟨x1,x2,hXv,r1,r2⟩:=hfv.fns;have hro':∀l0,ro=some l0->∃r0,w.heap[l0]? =some (.loop r0):=fun l0 e=>by
  unfold B4W at hro;cases hmd:md.rid with
  |none=>rw[hmd]at hro;simp only at hro;rw[hro]at e;cases e
  |some q=>
   rw[hmd]at hro;obtain⟨b',o,g1,g2,_,_⟩:=hro;rw[g1]at e;cases e;obtain⟨L,hL⟩:=hrid q hmd;obtain⟨b2,p1,p2,r,p3,_⟩:=hr.mem.heap q _ hL;rw[g2]at p1;cases p1;exact⟨r,p3⟩
 obtain⟨l,mark,w0,w1,rd,hent,m0,x0,k0,hw1,hio1,hl,hmark⟩:=B3J (P:=P) hr.mem ro hro' b.fn a.tmps qs ca cb
 let L0:LoopS:=⟨0,none,S.t,S.n,ps,as,bd⟩
 have hte:∀t v,aget S.t t=some v->RelV w0 F ρ (aget S.h) v (a.tmps.getD t undef):=fun t v h=>(hr.tmps t v h).mono x0.frz x0.keep k0;obtain⟨ρ1,m1,x1',k1,hρ1,hρo⟩:=m0.alloc (site:=id) (o:=.loop L0) hid hw1 hio1 (fun ρ' H' hk hs=>by
  refine⟨w0.heap.size,hs,fun hF=>by have:=m0.frz _ hF;omega,_,A1m hw1,⟨rfl,rfl,hr.size,fun t v h=>(hte t v h).mono (fun b hb=>A1Q hw1 (m0.frz b hb)) (fun _ h=>h) hk,hps,hca,hcb⟩⟩)
 have hH1:upd (aget S.h) id (some (.loop L0))=aget (A1B S.h id (.loop L0)):=(A0o _ _ _).symm;rw[hH1]at m1 k1;have hargs:RelVs w1 F ρ1 (aget (A1B S.h id (.loop L0))) (a0++[.yld id]++cp) (x1++ #[Value.func (.yield l) #[] #[]]++x2).toList:=by
  have mv:∀{vs:List AV} {xs:List Value},RelVs w F ρ (aget S.h) vs xs->RelVs w1 F ρ1 (aget (A1B S.h id (.loop L0))) vs xs:=fun h=>
   (h.mono x0.frz x0.keep k0).mono x1'.frz x1'.keep k1
  have hy:RelV w1 F ρ1 (aget (A1B S.h id (.loop L0))) (.yld id) (Value.func (.yield l) #[] #[]):=.yld id l (.loop L0) (by rw[hρ1,hl]) (by rw[A0o,A0e]) rfl;simp only[Array.toList_append];refine RelVs.app (RelVs.app (mv r1) (.cons _ _ _ _ hy .nil)) (mv r2)
 have hent':(Instr.enterLoop b.fn a.tmps qs ca cb b.roundOf).run P w=.ok (l,mark) w1:=by rw[hb];exact hent
 obtain⟨v,w3,⟨F3,ρ3,m3,x3,k3,_⟩,hsteps⟩:=B0c (k:=k) (cs:=cs) hent' hXv (hsp F ρ1 w1 _ m1 hargs);rw[<- A1C]at m3 k3;obtain⟨bl,y1,y2,rr,y3,y4⟩:=m3.heap id _ h2;have hbl:bl=l:=by
  obtain⟨o',z1,z2,z3⟩:=k3.box id (.loop L0) (by rw[A0o,A0e]) rfl;rw[y1,hρ1]at z3;cases z3;exact hl.symm
 subst hbl;have hbusy:rr.state≠ .busy:=by
  rw[y4.st];intro e;apply hst
  match hq:l2.st,e with
  |0,e=>simp[stOf]at e
  |1,_=>rfl
  |2,e=>simp[stOf]at e
  |n+3,e=>simp[stOf]at e
 have hend:=run_endLoop (P:=P) y3 hbusy;have hlt3:bl<w3.heap.size:=A0D y3;obtain⟨m4,x4,k4⟩:=m3.write (w':=w3.putObj bl (.loop {rr with state:=.exhausted})) (o':=.loop {l2 with st:=3}) h2 y1 y2 (World.putObj_heap_same hlt3) (fun j hj=>World.putObj_heap_other hj) World.putObj_size ⟨rfl,rfl,fun _=>⟨rfl,Nat.le_refl _⟩⟩
  (fun cs ty fz h=>by rw[y3]at h;cases h) rfl (fun k h=>by cases h)
  (fun hk=>⟨bl,y1,y2,_,World.putObj_heap_same hlt3,⟨rfl,y4.pend,y4.size,fun t v h=>(y4.tmps t v h).mono (fun b hb=>World.putObj_heap_other (fun(e:b=bl)=>y2 (by rw[<- e];exact hb))) (fun _ h=>h) hk,y4.ps,y4.as,y4.bd⟩⟩)
 rw[<- A0o]at m4 k4;have hx:Ext G F ρ w F3 ρ3 (w3.putObj bl (.loop {rr with state:=.exhausted})):=((x0.trans x1').trans x3).trans x4;have hk:HKeep w ρ (aget S.h) (w3.putObj bl (.loop {rr with state:=.exhausted})) ρ3 (aget (A1B (A29 (A1B S.h id (.loop L0)) D.ws) id (.loop {l2 with st:=3}))):=((k0.trans k1).trans k3).trans k4;have hdefs:DefOk F3 ρ3 {a with defers:=mark++a.defers} (w3.putObj bl (.loop {rr with state:=.exhausted}))/\DX a.defers w (mark++a.defers):=by
  obtain⟨rs,d1,d2,d3⟩:=hr.defs.ext hx rfl;rcases hmark with rfl|⟨rfl,hm2,hm3⟩
  ·exact⟨⟨rs,d1,by simpa using d2,d3⟩,⟨[],by simp,fun r hr=>by simp at hr⟩⟩
  ·refine⟨⟨rd::rs,?_,by simp[d2],fun r hr'=>?_⟩,⟨[rd],by simp,fun r hr=>by simp at hr;subst hr;exact hm3⟩⟩
   ·refine List.nodup_cons.2 ⟨fun hmem=>?_,d1⟩;obtain⟨rs0,e1,e2,e3⟩:=hr.defs;have:rs0.map A2u=rs.map A2u:=e2.symm.trans d2;have hmem':A2u rd∈rs0.map A2u:=by rw[this];exact List.mem_map.2 ⟨rd,hmem,rfl⟩
    obtain⟨q,hq,e⟩:=List.mem_map.1 hmem';have:q=rd:=by simp only[A2u]at e;injection e with e1 e2;injection e1
    subst this;have:=A0D (e3 q hq).1;omega
   ·rcases List.mem_cons.1 hr' with rfl|hr'
    ·have hrlt:=A0D hm2;have hne:∀id',ρ id'≠some r:=fun id' e=>by have:=hr.mem.lt id' r e;omega
     have hrl:r≠bl:=by omega
     have hne1:∀id',ρ1 id'≠some r:=fun id' e=>by
      by_cases e':id'=id
      ·subst e';rw[hρ1]at e;cases e;omega
      ·rw[hρo id' e']at e;exact hne id' e
     have hF1:¬ F r:=fun h=>by have:=hr.mem.frz r h;omega
     have h1r:w1.heap[r]? =some (.deferred (some [])):=by rw[A1Q hw1 hrlt];exact hm2
     have h3r:w3.heap[r]? =some (.deferred (some [])):=(x3.same r (A0D h1r) hne1).trans h1r;refine⟨by rw[World.putObj_heap_other hrl];exact h3r,fun id' e=>?_,fun h=>?_⟩
     ·rcases x3.im id' r e with⟨i2,e2⟩|e2
      ·exact hne1 i2 e2
      ·have:=A0D h1r;omega
     ·rcases x3.more r h with e|e|⟨i2,e2⟩
      ·exact hF1 e
      ·have:=A0D h1r;omega
      ·exact hne1 i2 e2
    ·exact d3 r hr'
 have hRS:RS G F3 ρ3 {S with h:=A1B (A29 (A1B S.h id (.loop L0)) D.ws) id (.loop {l2 with st:=3})} {a with defers:=mark++a.defers} (w3.putObj bl (.loop {rr with state:=.exhausted})):=
  ⟨hr.size,fun t v h=>(hr.tmps t v h).mono hx.frz hx.keep hk,m4,hdefs.1⟩
 have hsteps':Steps P (lone (b.atR a (.code (.rangeFunc X qs ca cb)::k)) cs w) (lone (b.atR {a with defers:=mark++a.defers} ((rr.pending.map Item.code).toList++k)) cs (w3.putObj bl (.loop {rr with state:=.exhausted}))):=
  hsteps.trans (.one (stepR_endRangeFunc hend))
 have hpend:=y4.pend;generalize (w3.putObj bl (.loop {rr with state:=.exhausted}))=wz at hRS hx hk hdefs hsteps';refine⟨e,_,_,⟨_,hQ,F3,ρ3,hRS,hx,hk.kp,hdefs.2⟩,?_⟩;rw[hpend]at hsteps';unfold B7f at hp;split at hp
 ·rename_i hpn;cases hp;rw[hpn]at hsteps';exact hsteps'
 ·cases hp
 ·rename_i e' hne hpe;cases hp;rw[hpe]at hsteps';cases e with
  |normal=>exact absurd rfl hne
  |exit i=>exact⟨k,rfl,by simpa[Ex.code]using hsteps'⟩
  |ret=>exact⟨k,by simpa[Ex.code]using hsteps'⟩
end
section
variable {P:Program}{G:GL}{md:Md}{F:Nat->Prop}{ρ:Nat->Option Nat}{H:Nat->Option HO}{a:Act}{w w':World}{ops:Array Oper}{tb:TB}
theorem B1s (htb:B2x P G tb){c0:Nat}{xs:List XO}{dep:List (List Nat)}{ord:List Nat}{s s':EvS}{es:List (Nat×Ent)}{R:Act->World->Prop}
  (hx:A0N P ops ops.toList=some xs) (hdep:ops.toList.map A6X=dep) (hT:B9v xs dep ord=true) (he:A2Y G tb c0 xs ord s=some (s',es)) (hH:A6i (A4U dep ord []) es=true) (hr:RS G F ρ s.S a w)
  (hQ:∀a' w' F' ρ',RS G F' ρ' s'.S a' w'->Ext G F ρ w F' ρ' w'->HKeep w ρ (aget s.S.h) w' ρ' (aget s'.S.h)->a'.defers=a.defers->R a' w'):A7o P ops R ops.size (Array.replicate ops.size false) a {w with drawn:=w.drawn+1}:=by
 obtain⟨k1,k2,k3,k4,_,k6⟩:=A7z htb hx he;simp only[B9v,Bool.and_eq_true]at hT;obtain⟨b1,b2,b3,b4,b5⟩:=hT;have hlen:xs.length=ops.size:=by rw[A3P hx];simp
 have hd:=B8w (ops:=ops) hdep;have hsame:=hr.mem.same (w':={w with drawn:=w.drawn+1}) rfl ⟨rfl,rfl,fun _=>⟨rfl,Nat.le_succ _⟩⟩;refine(A9Y (an:=tbN (A4U dep ord [])) (A57 hd (fun j i hi=>by simp[tbN,aget]at hi)) (fun i k hk=>?_) (n:=s.S.n) (TF:=aget s'.S.t) (HF:=aget s'.S.h) ops.size _ es F ρ (aget s.S.t) (aget s.S.h) a _ ?_ (B2z hd (by rw[k1];exact b5) hH k6) (by simp) (fun i=>?_) k3 (fun j hj=>?_) k4 ?_ ?_)
 ·rw[hd]at hk;simp only[B2m]at hk;cases e:A6K dep i with
  |none=>rw[e]at hk;simp at hk
  |some l=>
   rw[e]at hk;rw[<- hlen];exact B1l b3 l (A8I e) k (by simpa using hk)
 ·have hk:∀(l:List (Nat×Ent)),(keys l).length=l.length:=fun l=>by
   induction l with
   |nil=>rfl
   |cons p r ih=>obtain⟨i,e⟩:=p;simp[keys,ih]
  rw[<- hk es,k1,Nat.eq_of_beq_eq_true b1,hlen]
 ·rw[k1];have:(Array.replicate ops.size false).getD i true=false↔i<ops.size:=by
   by_cases h:i<ops.size<;>simp[Array.getD,h]
  rw[this,<- hlen];exact⟨A58 b2 i,A5h b4 i⟩
 ·exfalso
  by_cases h:j<ops.size<;>simp[Array.getD,h]at hj
 ·exact⟨hr.size,fun t v h=>(hr.tmps t v h).mono hsame.2.1.frz hsame.2.1.keep hsame.2.2,hsame.1,hr.defs.ext hsame.2.1 rfl⟩
 ·intro a' w' F' ρ' h1 h2 h3 h4;refine hQ a' w' F' ρ' ?_ (hsame.2.1.trans h2) (hsame.2.2.trans h3) h4;unfold RS;rw[k2];exact h1
theorem A6m (hcm:G.cm=A2x P)(hmx:P.follows .mixedOrders=true)(htb:B2x P G tb){rid:Option Nat}{c0:Nat}:∀(n:Nat) (xc:XC) (s:EvS) (e:Ex) (s':EvS),evC G tb rid c0 n xc s=some (e,s')->
  A6Y c0 s.wr s'.wr (aget s.S.h) (aget s'.S.h)/\∀md:Md,md.rid=rid->WpX P G md xc s.S (fun e' S'=>e'=e/\S'=s'.S):=by
 intro n
 induction n with
 |zero=>intro xc s e s' h;simp[evC]at h
 |succ n ih=>
  intro xc s e s' h;cases xc with
  |skip=>simp only[evC]at h;cases h;exact⟨.refl _ _ _,fun md hmd=>B2t hcm ⟨rfl,rfl⟩⟩
  |exit id=>simp only[evC]at h;cases h;exact⟨.refl _ _ _,fun md hmd=>B2u hcm ⟨rfl,rfl⟩⟩
  |bad=>simp[evC]at h
  |scope x=>
   simp only[evC]at h;obtain⟨w1,p1⟩:=ih _ _ _ _ h;exact⟨w1,fun md hmd=>A96 hcm (p1 md hmd)⟩
  |ret=>simp only[evC]at h;cases h;exact⟨.refl _ _ _,fun md hmd=>B44 hcm ⟨rfl,rfl⟩⟩
  |reg st xs dead=>
   simp only[evC]at h;split at h
   ·rename_i s1 he;cases h;refine⟨?_,fun md hmd=>?_⟩
    ·
     exact(B0b he:A6Y c0 s.wr s1.wr (aget s.S.h) (aget s1.S.h))
    ·intro c hcc F ρ a w ro hr hro;obtain⟨id,ops,rfl,hx⟩:=B8x hcm hcc;refine(A7v (R:=fun a' w'=>Aft G md F ρ (aget s.S.h) w a.defers (B4V s1.S dead) a' w') (A2c hx) ?_).mono ?_
     ·rw[List.range_eq_range'];have:=(A3m (R:=fun a' w'=>Aft G md F ρ (aget s.S.h) w a.defers (B4V s1.S dead) a' w') htb ops.toList 0 xs s s1 F ρ a w (by simp) hx he).2 hr (fun a' w' F' ρ' q1 q2 q3 q4=>⟨F',ρ',A8K q1,q2,q3.kp,DX.of_eq q4⟩);simpa using this
     ·rintro e a' w' ⟨rfl,h⟩;exact⟨_,⟨rfl,rfl⟩,h⟩
   ·cases h
  |draw st xs dep ord dead=>
   simp only[evC,cond_eq_ite]at h;split at h
   ·rename_i hT;split at h
    ·rename_i s1 es he;split at h
     ·rename_i hH;cases h;refine⟨(A7y he:A6Y c0 s.wr s1.wr (aget s.S.h) (aget s1.S.h)),fun md hmd=>?_⟩;intro c hcc F ρ a w ro hr hro;obtain⟨id,ops,rfl,hx,hd⟩:=B42 hcm hcc;refine(B2s (R:=fun a' w'=>Aft G md F ρ (aget s.S.h) w a.defers (B4V s1.S dead) a' w') hmx (A2c hx) (B1s htb hx hd hT he hH hr fun a' w' F' ρ' q1 q2 q3 q4=>⟨F',ρ',A8K q1,q2,q3.kp,DX.of_eq q4⟩)).mono ?_;rintro e a' w' ⟨rfl,h⟩;exact⟨_,⟨rfl,rfl⟩,h⟩
     ·cases h
    ·cases h
   ·cases h
  |seq x y=>
   simp only[evC]at h;split at h
   ·rename_i e1 s1 h1;obtain⟨w1,p1⟩:=ih _ _ _ _ h1;split at h
    ·obtain⟨w2,p2⟩:=ih _ _ _ _ h;refine⟨w1.trans w2,fun md hmd=>B1o hcm ((p1 md hmd).mono ?_)⟩;rintro e' S' ⟨rfl,rfl⟩;exact .inl ⟨rfl,p2 md hmd⟩
    ·rename_i hne;cases h;refine⟨w1,fun md hmd=>B1o hcm ((p1 md hmd).mono ?_)⟩;rintro e' S' ⟨rfl,rfl⟩;exact .inr ⟨fun e=>hne e,rfl,rfl⟩
   ·cases h
  |cond o x y=>
   simp only[evC]at h;split at h
   ·rename_i v hv;split at h
    ·obtain⟨w1,p1⟩:=ih _ _ _ _ h;exact⟨w1,fun md hmd=>A2X hcm hv (fun _=>p1 md hmd) (fun e=>by cases e)⟩
    ·obtain⟨w1,p1⟩:=ih _ _ _ _ h;exact⟨w1,fun md hmd=>A2X hcm hv (fun e=>by cases e) (fun _=>p1 md hmd)⟩
   ·cases h
  |block id x=>
   simp only[evC]at h;split at h
   ·rename_i e1 s1 h1;obtain⟨w1,p1⟩:=ih _ _ _ _ h1;split at h
    ·rename_i i;cases h;refine⟨w1,fun md hmd=>A6f hcm ((p1 md hmd).mono ?_)⟩;rintro e' S' ⟨rfl,rfl⟩
     by_cases hi:i=id
     ·subst hi;exact .inl ⟨rfl,by rw[A0t,cond_true],rfl⟩
     ·exact .inr ⟨fun e=>hi (by cases e;rfl),by rw[A0O hi,cond_false],rfl⟩
    ·rename_i hne;cases h;refine⟨w1,fun md hmd=>A6f hcm ((p1 md hmd).mono ?_)⟩;rintro e' S' ⟨rfl,rfl⟩;exact .inr ⟨fun e=>hne _ e,rfl,rfl⟩
   ·cases h
  |loop x=>
   simp only[evC]at h;split at h
   ·rename_i e1 s1 h1;obtain⟨w1,p1⟩:=ih _ _ _ _ h1;split at h
    ·obtain⟨w2,p2⟩:=ih _ _ _ _ h;refine⟨w1.trans w2,fun md hmd=>A4a hcm ((p1 md hmd).mono ?_)⟩;rintro e' S' ⟨rfl,rfl⟩;exact .inl ⟨rfl,p2 md hmd⟩
    ·rename_i hne;cases h;refine⟨w1,fun md hmd=>A4a hcm ((p1 md hmd).mono ?_)⟩;rintro e' S' ⟨rfl,rfl⟩;exact .inr ⟨fun e=>hne e,rfl,rfl⟩
   ·cases h
  |rangeF g ps as bd=>
   simp only[evC]at h;split at h
   ·rename_i f a0 cp hg;simp only[cond_eq_ite]at h;split at h
    ·rename_i hrid;split at h
     ·rename_i hfr;split at h
      ·rename_i D hD;split at h
       ·rename_i hc2;rw[Bool.and_eq_true]at hc2;split at h
        ·rename_i l2 hl2;split at h
         ·rename_i e2 hp;split at h
          ·cases h
          ·rename_i hst;cases h;refine⟨fun i hi hlt=>?_,fun md hmd=>?_⟩
           ·obtain⟨q1,q2⟩:=A6k hi hlt;simp only[keys,List.mem_cons,not_or]at q2;refine⟨q1,?_⟩;simp only[A0o];rw[A0a _ _ q2.1,B3K,A05 q2.2,A0a _ _ q2.1]
           ·refine A7A hcm hg (fun l0 e0=>?_) (A1s hfr _ (by simp)) (A1s hc2.1) ?_ hl2 hp (fun e1=>hst (by rw[e1];rfl)) ⟨rfl,rfl⟩
            ·rw[hmd]at e0;rw[e0]at hrid;simp only[C5C]at hrid;split at hrid
             ·rename_i L hL;exact⟨L,hL⟩
             ·cases hrid
            ·intro F ρ w xs hm hv;exact A2W hm (fun _ _ h=>h) hD (A5j htb hD) (A1s hc2.1) hv
         ·cases h
        ·cases h
       ·cases h
      ·cases h
     ·cases h
    ·cases h
   ·cases h
theorem A7B {n:Nat}(h:Nat.beq n 0=true):stOf n=.ready:=by rw[Nat.eq_of_beq_eq_true h];rfl
theorem A6n {look A:Nat->Option HO}:∀{ws:List (Nat×HO)} {i:Nat},(∀p,p∈ws->look p.1=some p.2)->i∈keys ws->A00 A ws i=look i
 |[],i,h,hi=>by simp[keys]at hi
 |(j,o)::r,i,h,hi=>by
  simp only[A00]
  by_cases hr:i∈keys r
  ·exact A6n (fun p hp=>h p (by simp[hp])) hr
  ·simp only[keys,List.mem_cons]at hi;have:i=j:=hi.resolve_right hr;subst this;rw[A05 hr,A0e];exact(h (i,o) (by simp)).symm
theorem B2A {h0:List Nat}{c0:Nat}{wr:List Nat}:∀{h:List (Nat×HO)},(∀p,p∈B7g h0 c0 wr h->p∈h)/\(∀i,i∈keys h->i∉keys (B7g h0 c0 wr h)->i∈h0/\i<c0/\i∉wr)
 |[]=>⟨fun p hp=>by simp[B7g]at hp,fun i hi=>by simp[keys]at hi⟩
 |(j,o)::r=>by
  obtain⟨h1,h2⟩:=B2A (h0:=h0) (c0:=c0) (wr:=wr) (h:=r);simp only[B7g];generalize hq:(cond (A1K j h0) (cond (Nat.ble c0 j) true (A1K j wr)) true)=q;cases q with
  |true=>
   rw[cond_true];refine⟨fun p hp=>?_,fun i hi hn=>?_⟩
   ·rcases List.mem_cons.1 hp with rfl|hp
    ·simp
    ·exact List.mem_cons_of_mem _ (h1 p hp)
   ·simp only[keys,List.mem_cons,not_or]at hi hn;exact h2 i (hi.resolve_left hn.1) hn.2
  |false=>
   rw[cond_false];refine⟨fun p hp=>List.mem_cons_of_mem _ (h1 p hp),fun i hi hn=>?_⟩;simp only[keys,List.mem_cons]at hi;rcases hi with rfl|hi
   ·cases hm:A1K i h0 with
    |false=>rw[hm]at hq;cases hq
    |true=>
     rw[hm,cond_true]at hq;cases hb:Nat.ble c0 i with
     |true=>rw[hb]at hq;cases hq
     |false=>
      rw[hb,cond_false]at hq;refine⟨A02.1 hm,?_,fun h=>by rw[A02.2 h]at hq;cases hq⟩;exact Nat.lt_of_not_le fun h=>by rw[Nat.ble_eq_true_of_le h]at hb;cases hb
   ·exact h2 i hi hn
theorem A6o {look:Nat->Option HO}:∀{l:List Nat} {p:Nat×HO},p∈A4X look l->look p.1=some p.2
 |[],p,h=>by simp[A4X]at h
 |i::r,p,h=>by
  simp only[A4X]at h;split at h
  ·rename_i o ho;rcases List.mem_cons.1 h with rfl|h
   ·exact ho
   ·exact A6o h
  ·exact A6o h
theorem B48 {h:List (Nat×HO)}{c0:Nat}{s:EvS}{vals:List AV}{D:Delta}(hD:B9w (keys h) c0 s vals=some D)(hwr:A6Y c0 [] s.wr (aget h) (aget s.S.h)){F':Nat->Prop}{ρ':Nat->Option Nat}{w2:World}
  (q1:MRel G F' ρ' (aget s.S.h) w2) {xs:List Value} (hv:RelVs w2 F' ρ' (aget s.S.h) vals xs) (q3:Ext G F ρ w F' ρ' w2) (q4:HKp (keys h) w ρ (aget h) w2 ρ' (aget s.S.h)):
  D.cs=[]/\KD G F ρ (aget h) w D (unT xs) w2:=by
 unfold B9w at hD;simp only[cond_eq_ite]at hD;split at hD
 ·rename_i hc;rw[Bool.and_eq_true]at hc;obtain⟨c1,c2⟩:=hc;cases hD;refine⟨rfl,?_⟩;generalize hh:A4X (aget s.S.h) (A4L (aget s.S.h) 1000000 (A2r vals++keys h) [])=h2 at*;have hsub:∀id o,aget h2 id=some o->aget s.S.h id=some o:=fun id o e=>A2K (by rw[hh];exact e);have hmem:∀p,p∈h2->aget s.S.h p.1=some p.2:=fun p hp=>A6o (by rw[hh];exact hp);have hks:=A33 c1;have hin:∀i,i∈keys h2->aget h2 i=aget s.S.h i/\A2V h2 ρ' i=ρ' i:=fun i hi=>by
   obtain⟨o,ho⟩:=A08.1 hi;exact⟨by rw[ho,hsub i o ho],by simp[A2V,hi]⟩
  have heq:A00 (aget h) (B7g (keys h) c0 s.wr h2)=aget h2:=by
   funext i
   obtain⟨m1,m2⟩:=B2A (h0:=keys h) (c0:=c0) (wr:=s.wr) (h:=h2)
   by_cases hi:i∈keys (B7g (keys h) c0 s.wr h2)
   ·rw[A6n (look:=aget s.S.h) (fun p hp=>hmem p (m1 p hp)) hi];refine((hin i ?_).1).symm;obtain⟨o,ho⟩:=A08.1 hi;have:=m1 _ (A8e ho);clear ho;revert this;generalize h2=l
    induction l with
    |nil=>intro h;simp at h
    |cons p l ih=>
     obtain⟨j,u⟩:=p;intro h;simp only[keys,List.mem_cons];rcases List.mem_cons.1 h with e|h
     ·cases e;exact .inl rfl
     ·exact .inr (ih h)
   ·rw[A05 hi]
    by_cases hi2:i∈keys h2
    ·obtain⟨_,g2,g3⟩:=m2 i hi2 hi;rw[(hin i hi2).1,(hwr i g3 g2).2]
    ·have h1:aget h2 i=none:=by
      cases e:aget h2 i with
      |none=>rfl
      |some o=>exact absurd (A08.2 ⟨o,e⟩) hi2
     rw[h1];cases e:aget h i with
     |none=>rfl
     |some o=>exact absurd (hks i (by simp[A08.2 ⟨o,e⟩])) hi2
  refine⟨F',A2V h2 ρ',?_,?_,?_,?_⟩
  ·simp only[heq];exact q1.part hsub c2
  ·refine⟨q3.io,q3.size,q3.same,q3.frz,q3.keep,q3.more,fun id b hb=>q3.im id b ?_⟩;simp only[A2V]at hb;split at hb
   ·exact hb
   ·cases hb
  ·simp only[heq];refine⟨fun id o h1 h2=>?_,fun id k h1=>?_,q4.sz⟩
   ·have hk:id∈keys h:=A08.2 ⟨o,h1⟩;obtain⟨o',g1,g2,g3⟩:=q4.box id o hk h1 h2;obtain⟨e1,e2⟩:=hin id (hks id (by simp[hk]));exact⟨o',e1.trans g1,g2,e2.trans g3⟩
   ·have hk:id∈keys h:=A08.2 ⟨_,h1⟩;obtain⟨k',g1,g2,g3,g4⟩:=q4.blk id k hk h1;obtain⟨e1,e2⟩:=hin id (hks id (by simp[hk]));refine⟨k',e1.trans g1,g2,g3,fun e=>?_⟩;obtain⟨p1,p2,p3,p4⟩:=g4 e;exact⟨p1,p2,p3,e2.trans p4⟩
  ·simp only[heq];have:=RelVs.move (D:=fun i=>i∈keys h2) hin hv (fun i hi=>hks i (by simp[hi]));exact A8O this
 ·cases hD
end
section
variable {P:Program}{G:GL}{md:Md}{F:Nat->Prop}{ρ:Nat->Option Nat}{H:Nat->Option HO}{a:Act}{w w':World}{ops:Array Oper}{tb:TB}
def C5D (P:Program)(xp:Nat->Option FnE):Prop:=∀f fe,xp f=some fe->∃fn c,P.funcs[f]? =some fn/\(fn.name=="runtime.NumGoroutine")=false/\fn.body=some c/\A2x P c fe.xc/\B31 P fn.results.toList=some fe.rts/\fn.ntmps=fe.n
def A6p (P:Program)(nat:Nat->List AV->Option AV):Prop:=∀f args v,nat f args=some v->∀F ρ H w (xs:Array Value),RelVs w F ρ H args xs.toList->∃y,(callFunc f xs).run P w=.ok (.value y) w/\RelV w F ρ H v y
theorem A6q:∀{ps:List Nat} {qs:List Nat} {vs:List AV} {t:List (Nat×AV)} {tmps:Array Value} {xs:List Value},RelVs w F ρ H vs xs->(∀i v,aget t i=some v->RelV w F ρ H v (tmps.getD i undef))->A6j tmps.size ps=true->
  ∀i v,aget (A4A t ps vs) i=some v->RelV w F ρ H v (((ps.zip xs).foldl (fun(tmps:Array Value) (p:Nat×Value)=>tmps.setIfInBounds p.1 p.2) tmps).getD i undef)
 |[],qs,vs,t,tmps,xs,hv,ht,hl,i,v,h=>by
  simp only[A4A]at h;simpa using ht i v h
 |p::ps,qs,[],t,tmps,xs,hv,ht,hl,i,v,h=>by
  cases hv;simp only[A4A]at h;simpa using ht i v h
 |p::ps,qs,u::vs,t,tmps,xs,hv,ht,hl,i,v,h=>by
  cases hv with
  |cons _ _ x xs hx hxs=>
   simp only[A4A]at h;simp only[A6j,cond_eq_ite]at hl;split at hl
   ·rename_i hlt;simp only[List.zip_cons_cons,List.foldl_cons];refine A6q (qs:=qs) hxs (fun j y hy=>?_) (by simpa using hl) i v h;rw[A0o]at hy;have hlt':p<tmps.size:=Nat.le_of_ble_eq_true hlt
    by_cases e:j=p
    ·subst e;rw[A0e]at hy;cases hy;rw[Array.getD_eq_getD_getElem?,Array.getElem?_setIfInBounds_self,if_pos hlt'];exact hx
    ·rw[A0a _ _ e]at hy;have:=ht j y hy;rw[Array.getD_eq_getD_getElem?]at this ⊢;rw[Array.getElem?_setIfInBounds_ne (Ne.symm e)];exact this
   ·cases hl
theorem A7C {ps:List Nat}:∀{xs:List Value} {tmps:Array Value},((ps.zip xs).foldl (fun(tmps:Array Value) (p:Nat×Value)=>tmps.setIfInBounds p.1 p.2) tmps).size=tmps.size:=by
 intro xs tmps;generalize ps.zip xs=l
 induction l generalizing tmps with
 |nil=>rfl
 |cons p l ih=>rw[List.foldl_cons,ih];simp
theorem A7D {ps:Array Nat}{xs:Array Value}{tmps:Array Value}:((ps.zip xs).foldl (fun tmps (t,a)=>tmps.setIfInBounds t a) tmps)=(ps.toList.zip xs.toList).foldl (fun(tmps:Array Value) (p:Nat×Value)=>tmps.setIfInBounds p.1 p.2) tmps:=by
 rw[<- Array.foldl_toList,Array.toList_zip]
theorem B49 (hcm:G.cm=A2x P){id:Nat}{l:LoopS}{h:List (Nat×HO)}(hl:aget h id=some (.loop l))(hst:Nat.beq l.st 0=true){args:List AV}(hlen:Nat.beq args.length l.ps.length=true)(hps:A6j l.n l.ps=true)
  {S1 S2:St} (h1:WpX P G ⟨some id,keys h⟩ l.as ⟨A4A l.t l.ps args,h,l.n⟩ (fun e S'=>e=.normal/\S'=S1)) {l1:LoopS} (hl1:aget S1.h id=some (.loop l1)) (hst1:Nat.beq l1.st 0=true)
  {e:Ex} (h2:WpX P G ⟨some id,keys h⟩ l.bd {S1 with h:=A1B S1.h id (.loop {l1 with st:=1})} (fun e' S'=>e'=e/\S'=S2)) {l2:LoopS} (hl2:aget S2.h id=some (.loop l2))
  {D:Delta} (hfin:∀F ρ w F' ρ' w2,MRel G F ρ (aget h) w->MRel G F' ρ' (aget (A1B S2.h id (.loop {l2 with st:=cond e.isN 0 2,pend:=cond e.isN none (some e)}))) w2->Ext G F ρ w F' ρ' w2->
   HKp (keys h) w ρ (aget h) w2 ρ' (aget (A1B S2.h id (.loop {l2 with st:=cond e.isN 0 2,pend:=cond e.isN none (some e)})))->KD G F ρ (aget h) w D (.bool e.isN) w2):SpecD P G (.yld id) args h D.v D.ws D.al:=by
 intro F ρ w xs hm hv b hb;obtain⟨b',z1,z2,r,z3,z4⟩:=hm.heap id _ hl;rw[hb]at z1;cases z1;have hargs:xs.size=r.params.size:=by
  have e1:=hv.len;have e2:=Nat.eq_of_beq_eq_true hlen;have e3:r.params.toList.length=l.ps.length:=by rw[z4.ps]
  simp at e1 e3;omega
 refine .inr (.inr ⟨b,r.fn,_,r.assign,r.body,w,run_yield z3 hargs,fun c cs=>?_⟩);rw[A7D,z4.ps]
 let tm:Array Value:=(l.ps.zip xs.toList).foldl (fun(tmps:Array Value) (p:Nat×Value)=>tmps.setIfInBounds p.1 p.2) r.tmps
 have htm:∀i v,aget (A4A l.t l.ps args) i=some v->RelV w F ρ (aget h) v (tm.getD i undef):=A6q (qs:=[]) hv z4.tmps (by rw[z4.size];exact hps)
 let b0:Frame:={(default:Frame)with fn:=r.fn,kind:=.normal,roundOf:=some b}
 have hb0:Frame.round b r.fn tm r.assign r.body .normal=b0.atR {tmps:=tm,defers:=[]} [.code r.assign,.beginRound,.code r.body]:=by simp[Frame.round,Frame.atR,b0]
 have hr0:RS G F ρ ⟨A4A l.t l.ps args,h,l.n⟩ {tmps:=tm,defers:=[]} w:=⟨by show tm.size=l.n;rw[<- z4.size];exact A7C,htm,hm,⟨[],by simp,rfl,fun r hr=>by simp at hr⟩⟩;have hro0:B4W ⟨some id,keys h⟩ ρ (aget h) (some b):=⟨b,_,rfl,hb,hl,rfl⟩;obtain⟨e1,a1,w1,⟨S',⟨rfl,rfl⟩,F1,ρ1,r1,x1,k1,_⟩,harr⟩:=h1 r.assign z4.as F ρ _ w (some b) hr0 hro0 b0 [.beginRound,.code r.body] (c::cs) rfl;have hks:(⟨some id,keys h⟩:Md).ks=id::keys h:=rfl;rw[hks]at k1;have hid1:ρ1 id=some b:=by
  obtain⟨o',g1,g2,g3⟩:=k1.box id _ (by simp) hl rfl;exact g3.trans hb
 obtain⟨b1,y1,y2,rr,y3,y4⟩:=r1.mem.heap id _ hl1;rw[hid1]at y1;cases y1;have hbr:=run_beginRound (P:=P) y3 (by rw[y4.st];exact A7B hst1);have hlt1:=A0D y3;obtain⟨m2,x2,k2⟩:=r1.mem.write (w':=w1.putObj b (.loop {rr with state:=.busy})) (o':=.loop {l1 with st:=1}) hl1 hid1 y2 (World.putObj_heap_same hlt1) (fun j hj=>World.putObj_heap_other hj) World.putObj_size ⟨rfl,rfl,fun _=>⟨rfl,Nat.le_refl _⟩⟩
  (fun cs ty fz h=>by rw[y3]at h;cases h) rfl (fun k h=>by cases h)
  (fun hk=>⟨b,hid1,y2,_,World.putObj_heap_same hlt1,⟨rfl,y4.pend,y4.size,fun t v h=>(y4.tmps t v h).mono (fun b' hb'=>World.putObj_heap_other (fun(e:b'=b)=>y2 (by rw[<- e];exact hb'))) (fun _ h=>h) hk,y4.ps,y4.as,y4.bd⟩⟩)
 rw[<- A0o]at m2 k2;have r2:RS G F1 ρ1 {S' with h:=A1B S'.h id (.loop {l1 with st:=1})} a1 (w1.putObj b (.loop {rr with state:=.busy})):=⟨r1.size,fun t v h=>(r1.tmps t v h).mono x2.frz x2.keep k2,m2,r1.defs.ext x2 rfl⟩;have hro2:B4W ⟨some id,keys h⟩ ρ1 (aget (A1B S'.h id (.loop {l1 with st:=1}))) (some b):=⟨b,.loop {l1 with st:=1},rfl,hid1,by rw[A0o,A0e],rfl⟩;have s1:Steps P (lone (b0.atR a1 [.beginRound,.code r.body]) (c::cs) w1) (lone (b0.atR a1 [.code r.body]) (c::cs) (w1.putObj b (.loop {rr with state:=.busy}))):=.one (stepR_beginRound rfl hbr);obtain⟨e2,a2,w3,⟨S'',⟨rfl,rfl⟩,F3,ρ3,r3,x3,k3,_⟩,harr2⟩:=h2 r.body z4.bd F1 ρ1 _ _ (some b) r2 hro2 b0 [] (c::cs) rfl;rw[hks]at k3;have hid3:ρ3 id=some b:=by
  obtain⟨o',g1,g2,g3⟩:=k3.box id (.loop {l1 with st:=1}) (by simp) (by simp only;rw[A0o,A0e]) rfl;exact g3.trans hid1
 obtain⟨b3,u1,u2,rq,u3,u4⟩:=r3.mem.heap id _ hl2;rw[hid3]at u1;cases u1;have hlt3:=A0D u3
 let jump:Option Code:=cond e2.isN none (some e2.code)
 have hend:=run_endRound (P:=P) jump u3;have hjn:jump.isNone=e2.isN:=by cases e2<;>rfl
 rw[hjn]at hend;obtain⟨m4,x4,k4⟩:=r3.mem.write (w':=w3.putObj b (.loop {rq with state:=if e2.isN then .ready else .done,pending:=jump})) (o':=.loop {l2 with st:=cond e2.isN 0 2,pend:=cond e2.isN none (some e2)}) hl2 hid3 u2 (World.putObj_heap_same hlt3) (fun j hj=>World.putObj_heap_other hj) World.putObj_size ⟨rfl,rfl,fun _=>⟨rfl,Nat.le_refl _⟩⟩
  (fun cs ty fz h=>by rw[u3]at h;cases h) rfl (fun k h=>by cases h)
  (fun hk=>⟨b,hid3,u2,_,World.putObj_heap_same hlt3,⟨by cases e2<;>rfl,by cases e2<;>rfl,u4.size,fun t v h=>(u4.tmps t v h).mono (fun b' hb'=>World.putObj_heap_other (fun(e:b'=b)=>u2 (by rw[<- e];exact hb'))) (fun _ h=>h) hk,u4.ps,u4.as,u4.bd⟩⟩)
 rw[<- A0o]at m4 k4;have hkp:HKp (keys h) w ρ (aget h) (w3.putObj b (.loop {rq with state:=if e2.isN then .ready else .done,pending:=jump})) ρ3 (aget (A1B S''.h id (.loop {l2 with st:=cond e2.isN 0 2,pend:=cond e2.isN none (some e2)}))):=by
  have sub:∀{w w':World} {ρ ρ':Nat->Option Nat} {h1 h2:Nat->Option HO},HKp (id::keys h) w ρ h1 w' ρ' h2->HKp (keys h) w ρ h1 w' ρ' h2:=fun k=>⟨fun i o hi=>k.box i o (by simp[hi]),fun i o hi=>k.blk i o (by simp[hi]),k.sz⟩;exact(((sub k1).trans k2.kp).trans (sub k3)).trans k4.kp
 have hK:=hfin F ρ w F3 ρ3 _ hm m4 (((x1.trans x2).trans x3).trans x4) hkp;refine⟨.bool e2.isN,_,hK,?_⟩;have hfirst:Steps P (lone (Frame.round b r.fn tm r.assign r.body .normal) (c::cs) w) (lone (b0.atR a1 [.code r.body]) (c::cs) (w1.putObj b (.loop {rr with state:=.busy}))):=by
  rw[hb0];exact Steps.trans harr s1
 cases e2 with
 |normal=>exact hfirst.trans (Steps.trans harr2 (.one (stepR_round_end rfl rfl hend)))
 |ret=>
  obtain⟨todo,hs⟩:=harr2;exact hfirst.trans (hs.trans (.one (stepR_round_ret rfl rfl hend)))
 |exit i=>
  obtain⟨k0,hk0,hs⟩:=harr2;exact hfirst.trans (hs.trans (.one (stepR_round_exit rfl rfl (by rw[hk0];rfl) hend)))
theorem B5a {h0:List Nat}{c0:Nat}{s:EvS}{vals:List AV}{D:Delta}(hD:B9w h0 c0 s vals=some D):D.cs=[]:=by
 unfold B9w at hD;simp only[cond_eq_ite]at hD;split at hD
 ·cases hD;rfl
 ·cases hD
end
def A0j (P:Program)(hs:A0i)(fn:Func):Option FnE:=
 match fn.body with
 |some c=>match A1a P hs c,B31 P fn.results.toList with
  |some xc,some rts=>cond (fn.name=="runtime.NumGoroutine") none (some ⟨fn.ntmps,rts,xc⟩)
  |_,_=>none
 |none=>none
def A0y (P:Program)(f:Nat)(fe:FnE):Prop:=∃fn c,P.funcs[f]? =some fn/\(fn.name=="runtime.NumGoroutine")=false/\fn.body=some c/\A2x P c fe.xc/\B31 P fn.results.toList=some fe.rts/\fn.ntmps=fe.n
theorem A0c {P:Program}{f:Nat}{fn:Func}{hs:A0i}{fe:FnE}(h1:P.funcs[f]? =some fn)(h2:A0j P hs fn=some fe):A0y P f fe:=by
 unfold A0j at h2;split at h2
 ·rename_i c hc;split at h2
  ·rename_i xc rts hx hr;rw[cond_eq_ite]at h2;split at h2
   ·cases h2
   ·rename_i hn;cases h2;exact⟨fn,c,h1,by simpa using hn,hc,⟨hs,hx⟩,hr,rfl⟩
  ·cases h2
 ·cases h2
def C98 (P:Program):List (Nat×FnE)->Prop
 |[]=>True
 |(f,fe)::r=>A0y P f fe/\C98 P r
theorem B5b {P:Program}:∀{l:List (Nat×FnE)},C98 P l->C5D P (aget l)
 |[],h,f,fe,hf=>by cases hf
 |(g,fe)::r,h,f,fe',hf=>by
  simp only[aget]at hf
  by_cases e:g=f
  ·subst e;rw[A0t,cond_true]at hf;cases hf;exact h.1
  ·rw[A0O e,cond_false]at hf;exact B5b h.2 f fe' hf
structure Ct where
 v:AV
 bs:List Blk
 p:Option Prop
structure Cx where
 v:AV
 ws:List (Nat×HO)
 p:Option Prop
structure Tab where
 ct:Nat->List AV->Option Ct
 ch:List (Nat×HO)->AV->List AV->Option Cx
def optP:Option Prop->Prop
 |some p=>p
 |none=>True
structure TabOk (P:Program)(G:GL)(T:Tab):Prop where
 ct:∀f args r,T.ct f args=some r->optP r.p->SpecP P G f args r.v r.bs
 ch:∀h cv args r,T.ch h cv args=some r->optP r.p->SpecD P G cv args h r.v r.ws []
def Tab.ctP (T:Tab)(f:Nat)(args:List AV):Option (AV×List Blk):=
 match T.ct f args with
 |some r=>some (r.v,r.bs)
 |none=>none
def Tab.chP (T:Tab)(_:Nat)(h:List (Nat×HO))(cv:AV)(args:List AV):Option Delta:=
 match T.ch h cv args with
 |some r=>some {v:=r.v,ws:=r.ws,al:=[],cs:=[]}
 |none=>none
inductive Dr where
 |plain
 |wrap
 |val (l:List AV)
 |pk (b:Bool)
 |heap
def drD (T:Tab):Dr->Dir
 |.plain=>.ctr T.ctP
 |.wrap=>.wrap
 |.val l=>.val l
 |.pk b=>.pk b
 |.heap=>.tab false T.chP
def B0N (T:Tab):List (Nat×(GDir×Dr))->Dirs
 |[]=>[(0,(.auto,.ctr T.ctP))]
 |(s,(g,d))::r=>(s,(g,drD T d))::B0N T r
theorem B8H (T:Tab)(s:Nat):∀(l:List (Nat×(GDir×Dr))),∃d,(A6V (B0N T l) s).2=drD T d:=by
 have key:∀(k:Nat) (l:List (Nat×(GDir×Dr))) (x:GDir×Dir),aget (B0N T l) k=some x->∃d,x.2=drD T d:=by
  intro k l
  induction l with
  |nil=>
   intro x h;simp only[B0N,aget,cond_eq_ite]at h;split at h
   ·cases h;exact⟨.plain,rfl⟩
   ·cases h
  |cons p r ih=>
   obtain⟨s',g,d⟩:=p;intro x h;simp only[B0N,aget,cond_eq_ite]at h;split at h
   ·cases h;exact⟨d,rfl⟩
   ·exact ih x h
 intro l;unfold A6V;split
 ·rename_i x hx;exact key _ _ _ hx
 ·cases h:aget (B0N T l) 0 with
  |none=>
   exfalso
   induction l with
   |nil=>simp[B0N,aget,cond_eq_ite]at h
   |cons p r ih=>
    obtain⟨s',g,d⟩:=p;simp only[B0N,aget,cond_eq_ite]at h;split at h
    ·cases h
    ·refine ih ?_ h;rename_i hs _;simp only[B0N,aget,cond_eq_ite]at hs;split at hs
     ·cases hs
     ·exact hs
  |some x=>exact key _ _ _ h
def CF (T:Tab):Cd->Prop
 |.call f args v bs=>∃r,T.ct f args=some r/\v=r.v/\bs=r.bs
 |.callD cv args h v ws al=>∃r,T.ch h cv args=some r/\v=r.v/\ws=r.ws/\al=[]
 |.ge _ _ c=>CF T c
 |_=>True
section
variable {T:Tab}
theorem A0z:∀c∈([]:List Cd),CF T c:=fun c h=>by simp at h
theorem A3n {a b:List Cd}(h:∀c∈a,CF T c)(k:∀c∈b,CF T c):∀c∈a++b,CF T c:=fun c hc=>by
 rcases List.mem_append.1 hc with h'|h'
 ·exact h c h'
 ·exact k c h'
theorem A0p {a:Cd}{b:List Cd}(h:CF T a)(k:∀c∈b,CF T c):∀c∈a::b,CF T c:=fun c hc=>by
 rcases List.mem_cons.1 hc with rfl|h'
 ·exact h
 ·exact k c h'
theorem B5c {look:Nat->Option HO}:∀n,(∀v r,A5w look n v=some r->∀c∈r.2.2,CF T c)/\(∀l r,A6L look n l=some r->∀c∈r.2.2,CF T c)/\(∀k r,A9b look n k=some r->∀c∈r.2.2,CF T c):=by
 intro n
 induction n with
 |zero=>exact⟨fun v r h=>(by cases h),fun v r h=>(by cases h),fun v r h=>(by cases h)⟩
 |succ n ih=>
  obtain⟨i1,i2,i3⟩:=ih;refine⟨fun v r h=>?_,fun l r h=>?_,fun k r h=>?_⟩
  ·cases v with
   |ptr id off=>
    simp only[A5w]at h;split at h
    ·split at h
     ·rename_i hc;cases h;exact i3 _ _ hc
     ·cases h
    ·cases h
   |ep id m off=>
    simp only[A5w]at h;split at h
    ·split at h
     ·rename_i hc;cases h;exact A0p trivial (i3 _ _ hc)
     ·cases h
    ·cases h
   |full id len=>
    simp only[A5w]at h;split at h
    ·split at h
     ·rename_i hc;cases h;exact A0p trivial (i3 _ _ hc)
     ·cases h
    ·cases h
   |sl id off len cap=>
    simp only[A5w]at h;split at h
    ·split at h
     ·rename_i hc;cases h;exact A0p trivial (i3 _ _ hc)
     ·cases h
    ·cases h
   |fullc id len cap=>
    simp only[A5w]at h;split at h
    ·split at h
     ·rename_i hc;cases h;exact A0p trivial (i3 _ _ hc)
     ·cases h
    ·cases h
   |fn f a b=>
    simp only[A5w]at h;split at h
    ·rename_i h1 h2;cases h;exact A3n (i2 _ _ h1) (i2 _ _ h2)
    ·cases h
   |agg l=>
    simp only[A5w]at h;split at h
    ·rename_i h1;cases h;exact i2 _ _ h1
    ·cases h
   |tup l=>
    simp only[A5w]at h;split at h
    ·rename_i h1;cases h;exact i2 _ _ h1
    ·cases h
   |iface t x=>
    simp only[A5w]at h;split at h
    ·rename_i h1;cases h;exact fun c hc=>i1 _ _ h1 c hc
    ·cases h
   |vw id m sz off len=>
    simp only[A5w]at h;split at h
    ·split at h
     ·rename_i hc;rw[cond_eq_ite]at h;split at h
      ·cases h;exact A0p trivial (i3 _ _ hc)
      ·cases h
     ·cases h
    ·cases h
   |may _ _=>cases h
   |yld _=>cases h
   |spare _=>cases h
   |mp _=>cases h
   |undef=>cases h
   |_=>cases h;exact A0z
  ·cases l with
   |nil=>cases h;exact A0z
   |cons v t=>
    simp only[A6L]at h;split at h
    ·rename_i h1 h2;cases h;exact A3n (i1 _ _ h1) (i2 _ _ h2)
    ·cases h
  ·cases k with
   |cells l=>
    simp only[A9b]at h;split at h
    ·rename_i h1;cases h;exact i2 _ _ h1
    ·cases h
   |_=>cases h;exact A0z
theorem A8Q {look:Nat->Option HO}{n:Nat}{v:AV}{x ids cs}(h:A5w look n v=some (x,ids,cs)):∀c∈cs,CF T c:=(B5c n).1 _ _ h
theorem B9x {look:Nat->Option HO}{n:Nat}{v:List AV}{x ids cs}(h:A6L look n v=some (x,ids,cs)):∀c∈cs,CF T c:=(B5c n).2.1 _ _ h
theorem B5d {look:Nat->Option HO}{n:Nat}{v:Cont}{x ids cs}(h:A9b look n v=some (x,ids,cs)):∀c∈cs,CF T c:=(B5c n).2.2 _ _ h
theorem A5k {look:Nat->Option HO}{sz:Nat}{v:AV}{x m cs}(h:A9d look sz v=some (x,m,cs)):∀c∈cs,CF T c:=by
 unfold A9d at h;split at h
 ·cases h;exact A0p trivial A0z
 ·split at h
  ·rw[cond_eq_ite]at h;split at h
   ·cases h;exact A0p trivial A0z
   ·cases h
  ·cases h
 ·split at h
  ·rw[cond_eq_ite]at h;split at h
   ·cases h;exact A0p trivial A0z
   ·cases h
  ·cases h
 ·split at h
  ·rw[cond_eq_ite]at h;split at h
   ·cases h;exact A0p trivial A0z
   ·cases h
  ·cases h
 ·cases h
theorem B0d {l:List AV}:∀{vs:List AV} {i:Nat},∀c∈B1L l i vs,CF T c
 |[],i=>A0z
 |v::r,i=>A0p trivial B0d
theorem A3o {d:Dir}{k:IntKind}{n:Int}{cs:List Cd}{D:Delta}(h:A2I d k n cs=some D)(hc:∀c∈cs,CF T c):∀c∈D.cs,CF T c:=by
 unfold A2I at h;split at h
 ·cases h;exact hc
 ·cases h;exact hc
 ·cases h;exact A0p trivial hc
theorem C12 {d:Dir}{op:BinOp}{x y:AV}{D:Delta}(h:B36 d op x y=some D):∀c∈D.cs,CF T c:=by
 unfold B36 at h;split at h
 ·split at h
  ·exact A3o h (A0p trivial A0z)
  ·cases h;exact A0p trivial A0z
  ·rw[cond_eq_ite]at h;split at h
   ·unfold C5u at h;split at h<;>first
     |(exact A3o h A0z)
     |(exact A3o h (A0p trivial A0z))
     |(cases h;done)
     |(cases h;first|exact A0z|exact A0p trivial A0z)
   ·cases h
 ·unfold C5v at h;split at h<;>first|(cases h;done)|(cases h;first|exact A0z|exact A0p trivial A0z)
 ·cases h
theorem B7h {look:Nat->Option HO}{d:Dir}{sz:Nat}{lo hi mx:Bool}{x:AV}{bs:List AV}{D:Delta}(h:A2B look d sz lo hi mx x bs=some D):∀c∈D.cs,CF T c:=by
 have win:∀{id off len cap sz:Nat} {lo hi mx:Bool} {bs:List AV} {D:Delta},B0U id off len cap sz lo hi mx bs=some D->∀c∈D.cs,CF T c:=by
  intro id off len cap sz lo hi mx bs D h;unfold B0U at h
  repeat' split at h
  all_goals first|(cases h;done)|(cases h;first|exact A0z|(repeat' (first|exact A0z|exact trivial|apply A0p)))
 unfold A2B at h;split at h
 ·exact win h
 ·split at h
  ·rename_i hz;have hc:=A8Q (T:=T) hz
   repeat' split at h
   all_goals first|(cases h;done)|(cases h;apply A3n hc;(repeat' (first|exact A0z|exact trivial|apply A0p)))
  ·rename_i hz;have hc:=A8Q (T:=T) hz
   repeat' split at h
   all_goals first|(cases h;done)|(cases h;apply A3n hc;(repeat' (first|exact A0z|exact trivial|apply A0p)))
  ·cases h
theorem B5e {look:Nat->Option HO}{d:Dir}{sz:Nat}{lo hi mx:Bool}{x:AV}{bs:List AV}{D:Delta}(h:A3u look d sz lo hi mx x bs=some D):∀c∈D.cs,CF T c:=by
 have vw1:∀{id n:Nat} {D:Delta},A5A look sz id n lo hi mx bs=some D->∀c∈D.cs,CF T c:=by
  intro id n D h;unfold A5A at h;simp only[cond_eq_ite]at h
  repeat' split at h
  all_goals first|(cases h;done)|(cases h;(repeat' (first|exact A0z|exact trivial|apply A0p)))
 have vw2:∀{id n s off len:Nat} {D:Delta},A5C look sz id n s off len lo hi mx bs=some D->∀c∈D.cs,CF T c:=by
  intro id n s off len D h;unfold A5C at h;simp only[cond_eq_ite]at h
  repeat' split at h
  all_goals first|(cases h;done)|(cases h;(repeat' (first|exact A0z|exact trivial|apply A0p)))
 have vwT:∀{id n:Nat} {D:Delta},A5B look sz id n lo hi mx bs=some D->∀c∈D.cs,CF T c:=by
  intro id n D h;unfold A5B at h;simp only[cond_eq_ite]at h
  repeat' split at h
  all_goals first|(cases h;done)|(cases h;(repeat' (first|exact A0z|exact trivial|apply A0p)))
 have kp:∀{id len:Nat} {D:Delta},A9f look id len lo hi mx bs=some D->∀c∈D.cs,CF T c:=by
  intro id len D h;unfold A9f at h;simp only[cond_eq_ite]at h
  repeat' split at h
  all_goals first|(cases h;done)|(cases h;(repeat' (first|exact A0z|exact trivial|apply A0p)))
 unfold A3u at h
 repeat' split at h
 all_goals first
  |(cases h;done)
  |exact B7h h
  |exact vw1 h
  |(rename_i hv;cases h;first|exact vw1 hv|exact vw2 hv|exact vwT hv|exact kp hv)
  |(cases h;(repeat' (first|exact A0z|exact trivial|apply A0p)))
theorem B9y {d:Dir}{cap:Option Nat}{n:Nat}:∀c∈C1x d cap n,CF T c:=by
 unfold C1x;split
 ·split
  ·exact A0p trivial A0z
  ·exact A0z
 ·exact A0z
theorem B5f {site:Nat}{look:Nat->Option HO}{d:Dir}{sz b_ ty:Nat}{x y:AV}{D:Delta}(h:A3X site look d sz b_ ty x y=some D):∀c∈D.cs,CF T c:=by
 unfold A3X at h;split at h
 ·rename_i hs;have h1:=A5k (T:=T) hs;split at h
  ·rename_i hz;have h2:=B5d (T:=T) hz;simp only[cond_eq_ite]at h
   repeat' split at h
   all_goals first
    |(cases h;done)
    |(cases h;(repeat' (first|exact A3n h1 h2|exact A3n B9y (A3n h1 h2)|exact trivial|apply A0p)))
  ·cases h
 ·cases h
theorem B5g {site:Nat}{look:Nat->Option HO}{dr:Dr}{f:Nat}{vs:List AV}{D:Delta}(h:A4N site look (drD T dr) f vs=some D):∀c∈D.cs,CF T c:=by
 unfold A4N at h;split at h
 ·rename_i ct hd;have hct:ct=T.ctP:=by cases dr<;>first|(cases hd;rfl)|cases hd
  subst hct;split at h
  ·rename_i hz;have h1:=B9x (T:=T) hz;split at h
   ·rename_i v hs hv;cases h;refine A3n h1 (A0p ?_ A0z);unfold Tab.ctP at hv;split at hv
    ·rename_i r hr;cases hv;exact⟨r,hr,rfl,rfl⟩
    ·cases hv
   ·cases h
  ·cases h
 ·rename_i hd;cases dr<;>cases hd
 ·rename_i tb hd;have htb:tb=T.chP:=by cases dr<;>first|(cases hd;rfl)|cases hd
  subst htb;unfold A2g at h;simp only[cond_eq_ite]at h
  repeat' split at h
  all_goals first
   |(cases h;done)
   |skip
  rename_i D' hD' _;cases h;unfold Tab.chP at hD';split at hD'
  ·rename_i r hr;cases hD';exact A0p ⟨r,hr,rfl,rfl,rfl⟩ A0z
  ·cases hD'
 ·cases h
theorem B2B {site:Nat}{look:Nat->Option HO}{cv:AV}{vs:List AV}{D:Delta}(h:A2g site look T.chP cv vs=some D):∀c∈D.cs,CF T c:=by
 unfold A2g at h;simp only[cond_eq_ite]at h
 repeat' split at h
 all_goals first
  |(cases h;done)
  |skip
 rename_i D' hD' _;cases h;unfold Tab.chP at hD';split at hD'
 ·rename_i r hr;cases hD';exact A0p ⟨r,hr,rfl,rfl,rfl⟩ A0z
 ·cases hD'
theorem B2C {site:Nat}{look:Nat->Option HO}{op:XOp}{dr:Dr}{vs:List AV}{D:Delta}(h:A0L site look op (drD T dr) vs=some D):∀c∈D.cs,CF T c:=by
 have key:∀{look:Nat->Option HO} {d:Dir} {c:Cont} {off:Nat} {agg:Option Nat} {D:Delta},B0T d c off agg=some D->∀c∈D.cs,CF T c:=by
  intro look d c off agg D h;unfold B0T at h;split at h
  ·unfold B87 at h;simp only[cond_eq_ite]at h
   repeat' split at h
   all_goals first
    |(cases h;done)
    |(cases h;first|exact A0p trivial A0z|exact B0d)
  ·split at h<;>(cases h;exact A0p trivial A0z)
 cases op with
 |bin op x y=>exact C12 h
 |slice sz x lo hi mx=>exact B5e h
 |append sz b_ ty x y=>exact B5f h
 |call f as=>exact B5g h
 |callv x as=>
  simp only[A0L,A7W]at h;split at h
  ·exact B5g h
  ·split at h
   ·rename_i tb hd;have htb:tb=T.chP:=by cases dr<;>first|(cases hd;rfl)|cases hd
    subst htb;exact B2B h
   ·cases h
  ·cases h
 |load agg a=>
  simp only[A0L,A64]at h
  repeat' split at h
  all_goals first
   |(cases h;done)
   |exact key (look:=look) h
   |skip
  rename_i r hr;cases h;exact A0p trivial (key (look:=look) hr)
 |un op x=>
  simp only[A0L,C5w]at h;split at h
  ·exact A3o h A0z
  ·cases h;exact A0z
  ·cases h
 |conv k x=>
  simp only[A0L,B1N]at h;split at h
  ·exact A3o h A0z
  ·cases h
 |slicea n sz x lo hi mx=>
  simp only[A0L,A5a,B0U]at h;simp only[cond_eq_ite]at h
  repeat' split at h
  all_goals first|(cases h;done)|(cases h;first|exact A0z|(repeat' (first|exact A0z|exact trivial|apply A0p)))
 |bstr x=>
  simp only[A0L,A65]at h;split at h
  ·cases h;exact A0z
  ·split at h
   ·rename_i hs;rw[cond_eq_ite]at h;split at h
    ·cases h;exact A5k hs
    ·cases h
   ·cases h
 |rstr x=>
  simp only[A0L,B1V]at h;split at h
  ·cases h;exact A0z
  ·cases h
 |copy sz x y=>
  simp only[A0L,A7V]at h;split at h
  ·rename_i D hS;cases h;unfold A7U at hS;split at hS
   ·split at hS
    ·rename_i hs hk;split at hS
     ·rw[cond_eq_ite]at hS;split at hS
      ·cases hS;exact A0p trivial (A0p trivial (A0p trivial (A5k hs)))
      ·cases hS
     ·cases hS
    ·cases hS
   ·cases hS
  ·unfold B1S at h;split at h
   ·rename_i hs;split at h
    ·rename_i hz;split at h
     ·split at h
      ·rw[cond_eq_ite]at h;split at h
       ·split at h
        ·cases h;exact A0p trivial (A0p trivial (A3n (A5k hs) (B5d hz)))
        ·cases h
       ·cases h
      ·cases h
     ·cases h
    ·cases h
   ·cases h
 |store sz x y=>
  have k1:∀{a v:AV} {D:Delta},A4l look sz a v=some D->∀c∈D.cs,CF T c:=by
   intro a v D h;simp only[A4l,cond_eq_ite]at h
   repeat' split at h
   all_goals first
    |(cases h;done)
    |(cases h;first|exact A0z|(repeat' (first|exact A0z|exact trivial|apply A0p)))
  simp only[A0L,A48]at h;split at h
  ·rename_i D0 h0;cases h;exact k1 h0
  ·unfold A7O at h;split at h
   ·split at h
    ·split at h
     ·rename_i hz;rw[cond_eq_ite]at h;split at h
      ·split at h
       ·cases h;exact A0p trivial (A0p trivial (A8Q hz))
       ·cases h
      ·cases h
     ·cases h
    ·cases h
   ·cases h
 |eqa neq n ls x y=>
  simp only[A0L,B6y,cond_eq_ite]at h
  repeat' split at h
  all_goals first|(cases h;done)|(cases h;exact A0z)
 |_=>
  simp only[A0L,A7N,B1M,A9e,A4l,B6x,A7P,A49,A7Q,B1O,B1P,B37,B1Q,A3W,B1R,B6z,B6A,B0W,A7T,B89,B6C,A7X,B6D,B6E,A7R,A7Z,A70,B1Y,B1Z,B10,B1W,A7Y,Delta.val,cond_eq_ite]at h
  repeat' split at h
  all_goals first
   |(cases h;done)
   |(cases h;first|exact A0z|(repeat' (first|exact A0z|exact trivial|apply A0p)))
theorem A6r:∀{rt:List (Nat×AV)} {cs:List Cd},(∀c∈cs,CF T c)->∀c∈A53 rt cs,CF T c
 |[],cs,h=>h
 |(_,v)::r,cs,h=>by
  simp only[A53];unfold A7m;split
  ·exact A0p trivial (A6r h)
  ·exact A6r h
theorem B8I {b want:Bool}:∀{cs:List Cd},(∀c∈cs,CF T c)->∀c∈geC b want cs,CF T c
 |[],h=>A0z
 |x::r,h=>A0p (h x (by simp)) (B8I fun c hc=>h c (by simp[hc]))
theorem A6s {G:GL}{site:Nat}{look:Nat->Option HO}{op:XOp}{dr:Dr}{rt:List (Nat×AV)}{D:Delta}(h:B2j G site look op (drD T dr) rt=some D):∀c∈D.cs,CF T c:=by
 unfold B2j at h;split at h
 ·exact B2C h
 ·split at h
  ·rename_i D' hD';cases h;exact A6r (B2C hD')
  ·cases h
theorem B5h {G:GL}{site:Nat}{look:Nat->Option HO}{x:XO}{g:GDir}{dr:Dr}{gv:Option AV}{rt:List (Nat×AV)}{D:Delta}(h:B30 G site look x g (drD T dr) gv rt=some D):∀c∈D.cs,CF T c:=by
 unfold B30 at h;split at h
 ·exact A6s h
 ·split at h
  ·split at h
   ·rw[cond_eq_ite]at h;split at h
    ·exact A6s h
    ·cases h;exact A0z
   ·split at h
    ·rename_i hD;cases h;exact A0p trivial (A6s hD)
    ·cases h
   ·split at h
    ·rename_i hD;cases h;exact A0p trivial (A6s hD)
    ·cases h
   ·cases h;exact A0p trivial A0z
   ·split at h
    ·rename_i hD;split at h
     ·cases h;exact B8I (A6s hD)
     ·cases h
    ·cases h
  ·cases h
theorem A5l {G:GL}{ds:List (Nat×(GDir×Dr))}:∀{xs:List XO} {s:Nat} {S S':St} {cs:List Cd},A6W G (B0N T ds) xs s S=some (S',cs)->∀c∈cs,CF T c
 |[],s,S,S',cs,h=>by cases h;exact A0z
 |x::r,s,S,S',cs,h=>by
  simp only[A6W]at h;split at h
  ·rename_i D hD;rw[cond_eq_ite]at h;split at h
   ·split at h
    ·rename_i hr;cases h;obtain⟨d,hd⟩:=B8H T s ds;rw[hd]at hD;exact A3n (B5h hD) (A5l hr)
    ·cases h
   ·cases h
  ·cases h
theorem B0e {G:GL}{ds:List (Nat×(GDir×Dr))}{xs:List XO}{s:Nat}:∀{ord:List Nat} {S S':St} {es:List (Nat×Ent)} {cs:List Cd},A37 G (B0N T ds) xs s ord S=some (S',es,cs)->∀c∈cs,CF T c
 |[],S,S',es,cs,h=>by cases h;exact A0z
 |i::r,S,S',es,cs,h=>by
  simp only[A37]at h;split at h
  ·rename_i x hx;split at h
   ·rename_i e he;split at h
    ·rename_i hr;cases h;refine A3n ?_ (B0e hr);simp only[B4J]at he;split at he
     ·rename_i D hD;rw[cond_eq_ite]at he;split at he
      ·cases he;obtain⟨d,hd⟩:=B8H T (s+i) ds;rw[hd]at hD;exact B5h hD
      ·cases he
     ·cases he
    ·cases h
   ·cases h
  ·cases h
end
structure LpS (β:Type) where
 ov:β->List (Nat×AV)
 bk:β->List (Nat×HO)
 rd:St->Option β
 pre:β->Prop
 mu:β->Nat
inductive Pn:Type 1 where
 |nil
 |r (ds:List (Nat×(GDir×Dr))) (m:Nat) (p:Pn)
 |rs (i:Nat) (ds:List (Nat×(GDir×Dr))) (m t:Nat) (p q:Pn)
 |nl (i:Nat) (ds:List (Nat×(GDir×Dr))) (m t:Nat) (p q:Pn)
 |frz (t m:Nat) (p:Pn)
 |gc (i:Nat) (p:Pn)
 |cap (t:Nat) (p:Nat->Pn)
 |gho (t id sz:Nat) (c:Cont) (p:Pn)
 |ghc (b off id sz:Nat) (c:Cont) (p:Pn)
 |ren (σ:List (Nat×Nat)) (S:St) (p:Pn)
 |br (b:Bool) (p q:Pn)
 |ass (f:Prop) (p:Pn)
 |tt (p:Pn)
 |ff (p:Pn)
 |cnd (p q:Pn)
 |lit (p:Pn)
 |un (p:Pn)
 |lp {β:Type} (L:LpS β) (dl db:List Nat) (body:β->Pn)
 |jn {β:Type} (L:LpS β) (dl db:List Nat) (p:Pn) (q:β->Pn)
 |rf (id m:Nat) (p:Pn)
inductive Tr:Type 1 where
 |leaf (e:Ex) (S:St) (p:Pn)
 |ob (p:Prop) (t:Tr)
 |br (b:Bool) (t u:Tr)
 |all {β:Type} (pre:β->Prop) (t:β->Tr)
 |imp (p:Prop) (t:Tr)
 |both (t u:Tr)
 |done
 |bad
def Tr.ok (Q:Ex->St->Pn->Prop):Tr->Prop
 |.leaf e S p=>Q e S p
 |.ob p t=>p/\t.ok Q
 |.br b t u=>(b=true->t.ok Q)/\(b=false->u.ok Q)
 |.all pre t=>∀b,pre b->(t b).ok Q
 |.imp p t=>p->t.ok Q
 |.both t u=>t.ok Q/\u.ok Q
 |.done=>True
 |.bad=>False
def Tr.bindN (f:St->Pn->Tr):Tr->Tr
 |.leaf e S p=>match e with
  |.normal=>f S p
  |e=>.leaf e S p
 |.ob p t=>.ob p (t.bindN f)
 |.br b t u=>.br b (t.bindN f) (u.bindN f)
 |.all pre t=>.all pre (fun b=>(t b).bindN f)
 |.imp p t=>.imp p (t.bindN f)
 |.both t u=>.both (t.bindN f) (u.bindN f)
 |.done=>.done
 |.bad=>.bad
def Tr.catch (id:Nat):Tr->Tr
 |.leaf e S p=>match e with
  |.exit i=>.leaf (cond (Nat.beq i id) .normal (.exit i)) S p
  |e=>.leaf e S p
 |.ob p t=>.ob p (t.catch id)
 |.br b t u=>.br b (t.catch id) (u.catch id)
 |.all pre t=>.all pre (fun b=>(t b).catch id)
 |.imp p t=>.imp p (t.catch id)
 |.both t u=>.both (t.catch id) (u.catch id)
 |.done=>.done
 |.bad=>.bad
def cdO (T:Tab):Cd->Prop
 |.b x=>x=true
 |.ge g want c=>(A1o (!want) g=true->cdO T c)
 |.eqn x y=>x=y
 |.get l i v=>l[i]? =some v
 |.call f args _ _=>match T.ct f args with
  |some r=>optP r.p
  |none=>False
 |.callD cv args h _ _ _=>match T.ch h cv args with
  |some r=>optP r.p
  |none=>False
def C6I {α:Type}:Option α->Bool
 |none=>true
 |some _=>false
def cdX (T:Tab):Cd->Bool
 |.b x=>x
 |.ge _ _ c=>cdX T c
 |.eqn x y=>Nat.beq x y
 |.get _ _ _=>false
 |.call f args _ _=>match T.ct f args with
  |some r=>C6I r.p
  |none=>false
 |.callD cv args h _ _ _=>match T.ch h cv args with
  |some r=>C6I r.p
  |none=>false
def obM (T:Tab):Nat->List Cd->Tr->Tr
 |_,[],t=>t
 |m,c::r,t=>cond (Nat.beq (m%2) 1) (cond (cdX T c) (obM T (m/2) r t) .bad) (.ob (cdO T c) (obM T (m/2) r t))
def obL:List Prop->Tr->Tr
 |[],t=>t
 |p::r,t=>.ob p (obL r t)
mutual
def sgV:AV->AV->List (Nat×Nat)
 |.full i _,.full j _=>[(j,i)]
 |.fullc i _ _,.full j _=>[(j,i)]
 |.fullc i _ _,.fullc j _ _=>[(j,i)]
 |.ptr i _,.ptr j _=>[(j,i)]
 |.mp i,.mp j=>[(j,i)]
 |.sl i _ _ _,.sl j _ _ _=>[(j,i)]
 |.agg l,.agg l'=>sgL l l'
 |.tup l,.tup l'=>sgL l l'
 |.fn _ a b,.fn _ a' b'=>sgL a a'++sgL b b'
 |.iface _ v,.iface _ v'=>sgV v v'
 |_,_=>[]
def sgL:List AV->List AV->List (Nat×Nat)
 |v::r,v'::r'=>sgV v v'++sgL r r'
 |_,_=>[]
end
def C1D (seen:List Nat):List (Nat×Nat)->List (Nat×Nat)
 |[]=>[]
 |(k,v)::r=>cond (A1K k seen) (C1D seen r) ((k,v)::C1D (k::seen) r)
def sgT (T:List (Nat×AV)):List (Nat×AV)->List (Nat×Nat)
 |[]=>[]
 |(t,v)::r=>(match aget T t with|some u=>sgV u v|none=>[])++sgT T r
def sgB (h h':List (Nat×HO)):List (Nat×Nat)->List (Nat×Nat)
 |[]=>[]
 |(j,i)::r=>(match aget h i,aget h' j with
  |some (.blk b),some (.blk b')=>match b.c,b'.c with
   |.cells l,.cells l'=>sgL l l'
   |_,_=>[]
  |_,_=>[])++sgB h h' r
def idL:List Nat->List (Nat×Nat)
 |[]=>[]
 |k::r=>(k,k)::idL r
def sgS (S S':St):List (Nat×Nat):=
 let s1:=C1D [] (sgT S.t S'.t)
 let s2:=C1D [] (s1++sgB S.h S'.h s1)
 let s3:=C1D [] (s2++sgB S.h S'.h s2)
 C1D [] (s3++idL (keys S'.h))
def C13 {β:Type}(L:LpS β)(dl db:List Nat)(S:St)(b:β):St:={t:=A29 (C1Y S.t dl) (L.ov b),h:=A29 (C1Y S.h db) (L.bk b),n:=S.n}
def toS (md:Md)(S S':St):Option (List Prop):=
 match B4T (sgS S S') S S' with
 |some ps=>cond (A43 (sgS S S') S S' md.ks) (some ps) none
 |none=>none
def B0f {β:Type}(md:Md)(L:LpS β)(dl db:List Nat)(S0:St)(S:St)(k:β->Tr):Tr:=
 match L.rd S with
 |some b=>match toS md S (C13 L dl db S0 b)with
  |some ps=>obL ps (.ob (L.pre b) (k b))
  |none=>.bad
 |none=>.bad
def pnR:Pn->List (Nat×(GDir×Dr))×Nat×Pn
 |.r ds m p=>(ds,m,p)
 |p=>([],0,p)
def B0g (T:Tab)(G:GL)(s:Nat)(dead:List Nat):Pn->List XO->Nat->St->Tr
 |.rs i ds m t p q,xs,k,S=>match A6W G (B0N T ds) (xs.take i) (s+k) S with
  |some (S',cs)=>obM T m cs (match aget S'.t t with
   |some (.bool v)=>.br v (B0g T G s dead p (xs.drop i) (k+i) {S' with t:=A1B S'.t t (.bool true)}) (B0g T G s dead q (xs.drop i) (k+i) {S' with t:=A1B S'.t t (.bool false)})
   |_=>.bad)
  |none=>.bad
 |.nl i ds m t p q,xs,k,S=>match A6W G (B0N T ds) (xs.take i) (s+k) S with
  |some (S',cs)=>obM T m cs (match aget S'.t t with
   |some (.imm c len _)=>.both (.imp (len=0/\c.size=0) (B0g T G s dead p (xs.drop i) (k+i) {S' with t:=A1B S'.t t .nils})) (B0g T G s dead q (xs.drop i) (k+i) {S' with t:=A1B S'.t t .nn})
   |_=>.bad)
  |none=>.bad
 |pl,xs,k,S=>match A6W G (B0N T (pnR pl).1) xs (s+k) S with
  |some (S',cs)=>obM T (pnR pl).2.1 cs (.leaf .normal (B4V S' dead) (pnR pl).2.2)
  |none=>.bad
def B8J (T:Tab)(G:GL)(s:Nat)(xs:List XO)(dep:List (List Nat))(ord dead:List Nat)(dp:List (Nat×(GDir×Dr))×Nat×Pn)(S:St):Tr:=
 match A37 G (B0N T dp.1) xs s ord S with
 |some (S',es,cs)=>cond (B62 dep ord xs.length es) (obM T dp.2.1 cs (.leaf .normal (B4V S' dead) dp.2.2)) .bad
 |none=>.bad
def B8K (f g:Pn->Tr)(v:Bool)(pl:Pn):Tr:=
 match pl with
 |.tt p=>.ob (v=true) (f p)
 |.ff p=>.ob (v=false) (g p)
 |.cnd p p'=>.br v (f p) (g p')
 |.lit p=>cond v (f p) (g p)
 |pl=>cond v (f pl) (g pl)
def B1t (md:Md)(T:Tab)(id m:Nat)(ps:List Nat)(as bd:XC)(gv:AV)(S:St)(p:Pn):Tr:=
 match gv with
 |.fn f a cp=>cond (C5C S.h md.rid&&A24 S.h [id]) (match A2g 0 (aget (A1B S.h id (.loop ⟨0,none,S.t,S.n,ps,as,bd⟩))) T.chP (.fn f [] []) (a++[.yld id]++cp)with
  |some D=>match D.al with
   |[]=>match aget (A29 (A1B S.h id (.loop ⟨0,none,S.t,S.n,ps,as,bd⟩)) D.ws) id with
    |some (.loop l2)=>match B7f l2.pend with
     |some e=>cond (Nat.beq l2.st 1) .bad (obM T m D.cs (.leaf e {S with h:=A1B (A29 (A1B S.h id (.loop ⟨0,none,S.t,S.n,ps,as,bd⟩)) D.ws) id (.loop {l2 with st:=3})} p))
     |none=>.bad
    |_=>.bad
   |_=>.bad
  |none=>.bad) .bad
 |_=>.bad
def syC (md:Md)(T:Tab)(G:GL)(rec:XC->Pn->St->Tr)(xc:XC)(pl:Pn)(S:St):Tr:=
 match xc with
 |.skip=>.leaf .normal S pl
 |.exit id=>.leaf (.exit id) S pl
 |.ret=>.leaf .ret S pl
 |.reg s xs dead=>B0g T G s dead pl xs 0 S
 |.draw s xs dep ord dead=>B8J T G s xs dep ord dead (pnR pl) S
 |.seq a b=>(rec a pl S).bindN (fun S' p=>rec b p S')
 |.cond c a b=>match c.ev G S.t with
  |.bool v=>B8K (fun p=>rec a p S) (fun p=>rec b p S) v pl
  |_=>.bad
 |.block id a=>(rec a pl S).catch id
 |.loop a=>match pl with
  |.lp L dl db body=>B0f md L dl db S S (fun _=>.all L.pre (fun b=>(rec a (body b) (C13 L dl db S b)).bindN (fun S' p=>(rec .skip p S').bindN (fun S'' _=>B0f md L dl db S S'' (fun b'=>.ob (L.mu b'<L.mu b) .done)))))
  |.un p=>(rec a p S).bindN (fun S' p=>rec (.loop a) p S')
  |_=>.bad
 |.rangeF g ps as bd=>match pl with
  |.rf id m p=>B1t md T id m ps as bd (g.ev G S.t) S p
  |_=>.bad
 |.bad=>.bad
 |.scope a=>rec a pl S
def C6J (S:St)(b off id sz:Nat)(c:Cont):Option St:=
 match aget S.h b with
 |some (.blk k)=>match k.c with
  |.cells l=>match A6K l off with
   |some .nils=>cond (A24 S.h [id]&&Nat.beq c.size 0) (some {S with h:=A1B (A1B S.h id (.blk {c,sz,n:=0,cap:=some 0,nil:=some true,mu:=true,bx:=false})) b (.blk {k with c:=.cells (l.set off (.full id 0))})}) none
   |_=>none
  |_=>none
 |_=>none
def B8L:XC->Bool
 |.seq a b=>match a,b with
  |.reg _ _ _,.cond _ _ _=>true
  |.draw _ _ _ _ _,.cond _ _ _=>true
  |_,_=>false
 |.scope _=>false
 |.skip=>false
 |_=>true
def sy (md:Md)(T:Tab)(G:GL):Nat->XC->Pn->St->Tr
 |0,_,_,_=>.bad
 |n+1,xc,pl,S=>
  match pl with
  |.frz t m p=>match C1Z S t with
   |some (S',cs)=>obM T m cs (sy md T G n xc p S')
   |none=>.bad
  |.cap t p=>match aget S.t t with
   |some (.imm c len _)=>.all (fun _:Nat=>True) (fun k=>sy md T G n xc (p k) {S with t:=A1B S.t t (.imm c len (some k))})
   |_=>.bad
  |.gc i p=>match gcS md.ks S i with
   |some S'=>sy md T G n xc p S'
   |none=>.bad
  |.gho t id sz c p=>match C6G S t id sz c with
   |some S'=>sy md T G n xc p S'
   |none=>.bad
  |.ghc b off id sz c p=>match C6J S b off id sz c with
   |some S'=>sy md T G n xc p S'
   |none=>.bad
  |.ren σ S' p=>match B4T σ S S' with
   |some ps=>cond (A43 σ S S' md.ks) (obL ps (sy md T G n xc p S')) .bad
   |none=>.bad
  |.br b p p'=>.br b (sy md T G n xc p S) (sy md T G n xc p' S)
  |.ass f p=>.both (.ob f .done) (.imp f (sy md T G n xc p S))
  |.jn L dl db p q=>cond (B8L xc) (.both ((sy md T G n xc p S).bindN (fun S' p'=>(sy md T G n .skip p' S').bindN (fun S'' _=>B0f md L dl db S S'' (fun _=>.done)))) (.all L.pre (fun b=>.leaf .normal (C13 L dl db S b) (q b)))) (syC md T G (sy md T G n) xc (.jn L dl db p q) S)
  |pl=>syC md T G (sy md T G n) xc pl S
section
variable {P:Program}{G:GL}{md:Md}{T:Tab}{F:Nat->Prop}{ρ:Nat->Option Nat}{a:Act}{w:World}
theorem Tr.bindN_ok {f:St->Pn->Tr}{Q:Ex->St->Pn->Prop}:∀{t:Tr},(t.bindN f).ok Q->t.ok (fun e S p=>(e=.normal/\(f S p).ok Q)\/(e≠ .normal/\Q e S p))
 |.leaf e S p,h=>by
  simp only[Tr.bindN]at h;split at h
  ·exact .inl ⟨rfl,h⟩
  ·rename_i hn;exact .inr ⟨fun e=>hn e,h⟩
 |.ob p t,h=>⟨h.1,Tr.bindN_ok h.2⟩
 |.br b t u,h=>⟨fun hb=>Tr.bindN_ok (h.1 hb),fun hb=>Tr.bindN_ok (h.2 hb)⟩
 |.all pre t,h=>fun b hb=>Tr.bindN_ok (h b hb)
 |.imp p t,h=>fun hp=>Tr.bindN_ok (h hp)
 |.both t u,h=>⟨Tr.bindN_ok h.1,Tr.bindN_ok h.2⟩
 |.done,h=>trivial
 |.bad,h=>h
theorem Tr.catch_ok {id:Nat}{Q:Ex->St->Pn->Prop}:∀{t:Tr},(t.catch id).ok Q->t.ok (fun e S p=>(e=.exit id/\Q .normal S p)\/(e≠ .exit id/\Q e S p))
 |.leaf e S p,h=>by
  simp only[Tr.catch]at h;cases e with
  |exit i=>
   simp only[Tr.ok]at h ⊢
   by_cases e:i=id
   ·subst e;rw[A0t,cond_true]at h;exact .inl ⟨rfl,h⟩
   ·rw[A0O e,cond_false]at h;exact .inr ⟨fun e'=>e (by cases e';rfl),h⟩
  |normal=>exact .inr ⟨(fun e=>by cases e),h⟩
  |ret=>exact .inr ⟨(fun e=>by cases e),h⟩
 |.ob p t,h=>⟨h.1,Tr.catch_ok h.2⟩
 |.br b t u,h=>⟨fun hb=>Tr.catch_ok (h.1 hb),fun hb=>Tr.catch_ok (h.2 hb)⟩
 |.all pre t,h=>fun b hb=>Tr.catch_ok (h b hb)
 |.imp p t,h=>fun hp=>Tr.catch_ok (h hp)
 |.both t u,h=>⟨Tr.catch_ok h.1,Tr.catch_ok h.2⟩
 |.done,h=>trivial
 |.bad,h=>h
theorem B5i {p:Option Prop}(h:C6I p=true):optP p:=by
 cases p with
 |none=>trivial
 |some _=>cases h
theorem B5j (hT:TabOk P G T):∀{c:Cd},CF T c->cdO T c->c.holds (A1n P G)
 |.b x,hf,h=>h
 |.ge g want c,hf,h=>fun hg=>B5j hT (c:=c) hf (h hg)
 |.eqn x y,hf,h=>h
 |.get _ _ _,hf,h=>h
 |.call f args v bs,hf,h=>by
  obtain⟨r,h1,rfl,rfl⟩:=hf;simp only[cdO,h1]at h;exact hT.ct f args r h1 h
 |.callD cv args hh v ws al,hf,h=>by
  obtain⟨r,h1,rfl,rfl,rfl⟩:=hf;simp only[cdO,h1]at h;exact hT.ch hh cv args r h1 h
theorem B8M:∀{c:Cd},cdX T c=true->cdO T c
 |.b x,h=>h
 |.ge g want c,h=>fun _=>B8M (c:=c) h
 |.eqn x y,h=>Nat.eq_of_beq_eq_true h
 |.get _ _ _,h=>by cases h
 |.call f args v bs,h=>by
  simp only[cdX]at h;simp only[cdO];split at h
  ·exact B5i h
  ·cases h
 |.callD cv args hh v ws al,h=>by
  simp only[cdX]at h;simp only[cdO];split at h
  ·exact B5i h
  ·cases h
theorem A4d (hT:TabOk P G T){Q:Ex->St->Pn->Prop}:∀{cs:List Cd} {m:Nat} {t:Tr},(∀c∈cs,CF T c)->(obM T m cs t).ok Q->A0M (A1n P G) cs/\t.ok Q
 |[],m,t,hf,h=>⟨trivial,h⟩
 |c::r,m,t,hf,h=>by
  simp only[obM,cond_eq_ite]at h;split at h
  ·split at h
   ·rename_i hx;obtain⟨h1,h2⟩:=A4d hT (fun c hc=>hf c (by simp[hc])) h;exact⟨⟨B5j hT (hf c (by simp)) (B8M hx),h1⟩,h2⟩
   ·exact h.elim
  ·obtain⟨h1,h2⟩:=A4d hT (fun c hc=>hf c (by simp[hc])) h.2;exact⟨⟨B5j hT (hf c (by simp)) h.1,h1⟩,h2⟩
theorem B2D {Q:Ex->St->Pn->Prop}:∀{ps:List Prop} {t:Tr},(obL ps t).ok Q->A3E ps/\t.ok Q
 |[],t,h=>⟨trivial,h⟩
 |p::r,t,h=>by
  obtain⟨h1,h2⟩:=B2D h.2;exact⟨⟨h.1,h1⟩,h2⟩
theorem C14 {S S':St}{ps:List Prop}(h:toS md S S'=some ps)(hp:A3E ps)(hr:RS G F ρ S a w):∃ρ',RS G F ρ' S' a w/\Ext G F ρ w F ρ' w/\HKp md.ks w ρ (aget S.h) w ρ' (aget S'.h):=by
 unfold toS at h;split at h
 ·rename_i qs hz;rw[cond_eq_ite]at h;split at h
  ·rename_i hk;cases h;obtain⟨ρ',q1,q2,q3⟩:=A6e hz hp hr;exact⟨ρ',q1,q2,q3 _ hk⟩
  ·cases h
 ·cases h
theorem A6t {β:Type}{L:LpS β}{dl db:List Nat}{S0 S:St}{k:β->Tr}{Q:Ex->St->Pn->Prop}(h:(B0f md L dl db S0 S k).ok Q):∃b ps,L.rd S=some b/\toS md S (C13 L dl db S0 b)=some ps/\A3E ps/\L.pre b/\(k b).ok Q:=by
 unfold B0f at h;split at h
 ·rename_i b hb;split at h
  ·rename_i ps hps;obtain⟨h1,h2⟩:=B2D h;exact⟨b,ps,hb,hps,h1,h2.1,h2.2⟩
  ·exact h.elim
 ·exact h.elim
theorem WpX.via {xc:XC}{S:St}{Q:Ex->St->Prop}(h:∀F ρ a w,RS G F ρ S a w->∃S',WpX P G md xc S' Q/\Aft G md F ρ (aget S.h) w a.defers S' a w):WpX P G md xc S Q:=by
 intro c hc F ρ a w ro hr hro;obtain⟨S',hW,F',ρ',q1,q2,q3,q4⟩:=h F ρ a w hr;exact(hW c hc F' ρ' a w ro q1 (hro.next q3)).mono fun e a' w' ⟨S'',r1,r2⟩=>⟨S'',r1,r2.on q2 q3 q4⟩
theorem WpX.post {xc:XC}{S:St}{Q Q':Ex->St->Prop}(h:WpX P G md xc S Q)(hp:∀e S',Q e S'->∀F ρ a w,RS G F ρ S' a w->∃S'',Q' e S''/\Aft G md F ρ (aget S'.h) w a.defers S'' a w):WpX P G md xc S Q':=by
 intro c hc F ρ a w ro hr hro;refine(h c hc F ρ a w ro hr hro).mono ?_;rintro e a' w' ⟨S',q1,F',ρ',r1,r2,r3,r4⟩;obtain⟨S'',s1,s2⟩:=hp e S' q1 F' ρ' a' w' r1;exact⟨S'',s1,s2.on r2 r3 r4⟩
theorem Aft.of_toS {S S':St}{ps:List Prop}(h:toS md S S'=some ps)(hp:A3E ps)(hr:RS G F ρ S a w):Aft G md F ρ (aget S.h) w a.defers S' a w:=by
 obtain⟨ρ',q1,q2,q3⟩:=C14 h hp hr;exact⟨F,ρ',q1,q2,q3,DX.refl _ _⟩
theorem Aft.trans {S S' S'':St}(h:Aft G md F ρ (aget S.h) w a.defers S' a w)(k:∀F' ρ',RS G F' ρ' S' a w->Aft G md F' ρ' (aget S'.h) w a.defers S'' a w):Aft G md F ρ (aget S.h) w a.defers S'' a w:=by
 obtain⟨F',ρ',q1,q2,q3,q4⟩:=h;exact(k F' ρ' q1).on q2 q3 q4
theorem B5k {S S':St}{t:Nat}{cs:List Cd}(h:C1Z S t=some (S',cs)):∀c∈cs,CF T c:=by
 unfold C1Z at h;split at h
 ·split at h
  ·rename_i hz;rw[cond_eq_ite]at h;split at h
   ·cases h;exact A8Q hz
   ·cases h
  ·cases h
 ·cases h
theorem A8R {S S':St}{b off id sz:Nat}{c:Cont}(h:C6J S b off id sz c=some S')(hr:RS G F ρ S a w):RS G F ρ S' a w/\HKeep w ρ (aget S.h) w ρ (aget S'.h):=by
 unfold C6J at h;split at h
 ·rename_i k hk;split at h
  ·rename_i l hl;split at h
   ·rename_i hoff;rw[cond_eq_ite]at h;split at h
    ·rename_i hc;rw[Bool.and_eq_true]at hc;cases h;have hf:=A1s hc.1 id (by simp);have hz:=Nat.eq_of_beq_eq_true hc.2;obtain⟨m1,m2,m3⟩:=hr.mem.ghost (site:=id) (k:={c,sz,n:=0,cap:=some 0,nil:=some true,mu:=true,bx:=false}) hf rfl hz;have hbid:b≠id:=fun e=>by rw[e,hf]at hk;cases hk
     let H1:=upd (aget S.h) id (some (.blk {c,sz,n:=0,cap:=some 0,nil:=some true,mu:=true,bx:=false}))
     let k':Blk:={k with c:=.cells (l.set off (.full id 0))}
     have hk1:H1 b=some (.blk k):=by show upd _ _ _ _=_;rw[A0a _ _ hbid];exact hk
     have m4:HKeep w ρ H1 w ρ (upd H1 b (some (.blk k'))):=by
      refine⟨fun i o' h1 h2=>?_,fun i k1 h1=>?_,fun b cs ty fz hb=>⟨cs,ty,fz,hb,rfl⟩⟩
      ·by_cases e:i=b
       ·subst e;rw[hk1]at h1;cases h1;exact⟨_,A0e _ _ _,h2,rfl⟩
       ·exact⟨o',by rw[A0a _ _ e];exact h1,h2,rfl⟩
      ·by_cases e:i=b
       ·subst e;rw[hk1]at h1;cases h1;exact⟨_,A0e _ _ _,rfl,Nat.le_refl _,fun _=>⟨rfl,rfl,.inl rfl,rfl⟩⟩
       ·exact⟨k1,by rw[A0a _ _ e];exact h1,rfl,Nat.le_refl _,fun _=>⟨rfl,rfl,.inl rfl,rfl⟩⟩
     have hrel:∀i x,RelE w F ρ (upd H1 b (some (.blk k'))) (.cells l) i x->RelE w F ρ (upd H1 b (some (.blk k'))) (.cells (l.set off (.full id 0))) i x:=by
      rintro i x ⟨h1,h2⟩;refine⟨?_,h2⟩;simp only at h1 ⊢
      by_cases e:i=off
      ·subst e;have hlt:i<l.length:=by
        rw[A59]at hoff;exact(List.getElem?_eq_some_iff.1 hoff).1
       have hv:l.getD i .undef=.nils:=by
        rw[A59]at hoff;rw[List.getD_eq_getElem?_getD,hoff];rfl
       rw[hv]at h1;have hv':(l.set i (.full id 0)).getD i .undef=.full id 0:=by
        rw[List.getD_eq_getElem?_getD,List.getElem?_set_self hlt];rfl
       rw[hv'];cases h1 with
       |imm _ _ hi=>
        generalize he:x=z at hi;cases hi;subst he;exact .full id 0 _ _ (by rw[A0a _ _ (Ne.symm hbid)];exact A0e _ _ _) (Nat.le_refl _) ⟨_,_,_,rfl⟩ (fun _=>.inl ⟨rfl,(fun e=>by cases e),(fun n e=>by cases e;rfl),rfl⟩)
      ·have hv':(l.set off (.full id 0)).getD i .undef=l.getD i .undef:=by
        rw[List.getD_eq_getElem?_getD,List.getElem?_set_ne (Ne.symm e),List.getD_eq_getElem?_getD]
       rw[hv'];exact h1
     have hkeep:HKeep w ρ (aget S.h) w ρ (upd H1 b (some (.blk k'))):=m3.trans m4;have hmem:MRel G F ρ (upd H1 b (some (.blk k'))) w:=by
      refine⟨fun i o h1=>?_,fun i b' hb=>?_,m1.inj,m1.lt,m1.frz,m1.glob⟩
      ·by_cases e:i=b
       ·subst e;rw[A0e]at h1;cases h1;have ho:=(m1.heap i _ hk1).mono (h':=upd H1 i (some (.blk k'))) (fun _ _=>rfl) (fun _ h=>h) m4 rfl (fun b hb=>⟨rfl,fun h=>h⟩);obtain⟨h1,h2⟩:=ho;refine⟨by simpa[hl,k',Cont.size]using h1,?_⟩;rcases h2 with h2|⟨bb,g1,g2,_,g3,g4⟩
        ·exact .inl h2
        ·obtain⟨cs,ty,fz,q1,q2,q3,q4⟩:=g2 (by rw[hl];rfl);refine .inr ⟨bb,g1,RelB.ofCells rfl ⟨cs,ty,fz,q1,q2,by simpa[hl,k',Cont.size]using q3,fun j hj=>?_⟩ g3 g4⟩;obtain⟨x,x1,x2⟩:=q4 j (by simpa[hl,k',Cont.size]using hj);rw[hl]at x2;exact⟨x,x1,hrel j x x2⟩
       ·rw[A0a _ _ e]at h1;exact(m1.heap i o h1).mono (fun _ _=>rfl) (fun _ h=>h) m4 rfl (fun b hb=>⟨rfl,fun h=>h⟩)
      ·obtain⟨o',ho'⟩:=m1.dom i b' hb
       by_cases e:i=b
       ·subst e;exact⟨_,A0e _ _ _⟩
       ·exact⟨o',by rw[A0a _ _ e];exact ho'⟩
     refine⟨⟨hr.size,fun u y hu=>?_,?_,hr.defs⟩,?_⟩
     ·simp only[A0o];exact(hr.tmps u y hu).mono (fun _ _=>rfl) (fun _ h=>h) hkeep
     ·simp only[A0o];exact hmem
     ·simp only[A0o];exact hkeep
    ·cases h
   ·cases h
  ·cases h
 ·cases h
theorem B5l {S:St}{t:Nat}{c:Cont}{len:Nat}{k:Option Nat}(hv:aget S.t t=some (.imm c len k))(hr:RS G F ρ S a w):∃k,RS G F ρ {S with t:=A1B S.t t (.imm c len (some k))} a w:=by
 have hput:∀(v':AV),RelV w F ρ (aget S.h) v' (a.tmps.getD t undef)->RS G F ρ {S with t:=A1B S.t t v'} a w:=fun v' hv'=>by
  refine⟨hr.size,fun u y hu=>?_,hr.mem,hr.defs⟩;simp only[A0o]at hu
  by_cases e':u=t
  ·subst e';rw[A0e]at hu;cases hu;exact hv'
  ·rw[A0a _ _ e']at hu;exact hr.tmps u y hu
 have h:=hr.tmps t _ hv;generalize hy:a.tmps.getD t undef=y at h;cases h with
 |imm _ _ hi=>
  cases hi with
  |imm _ _ _ b o cap' xs hF hc hr ho hl hcap=>exact⟨cap',hput _ (by rw[hy];exact .imm _ _ (.imm _ _ _ b o cap' xs hF hc hr ho hl (fun n h=>by cases h;rfl)))⟩
  |imm0 _ _ x hc hcap=>exact⟨0,hput _ (by rw[hy];exact .imm _ _ (.imm0 _ _ x hc (fun n h=>by cases h;rfl)))⟩
theorem B5m (hT:TabOk P G T):∀(n:Nat) (pl:Pn) (S:St) (Q:Ex->St->Pn->Prop),(sy md T G n .skip pl S).ok Q->∀F ρ a w,RS G F ρ S a w->
  ∃S',(∃p,Q .normal S' p)/\Aft G md F ρ (aget S.h) w a.defers S' a w:=by
 intro n
 induction n with
 |zero=>intro pl S Q h;exact h.elim
 |succ n ih=>
  intro pl S Q h F ρ a w hr;simp only[sy]at h;split at h
  ·split at h
   ·rename_i S' cs hz;obtain⟨h1,h2⟩:=A4d hT (B5k hz) h;obtain⟨F',q1,q2,q3⟩:=B4Y hz h1 hr;obtain⟨S'',r1,r2⟩:=ih _ _ Q h2 F' ρ a w q1;exact⟨S'',r1,r2.on q2 q3.kp (DX.refl _ _)⟩
   ·exact h.elim
  ·split at h
   ·rename_i c len k hz;obtain⟨k',q⟩:=B5l hz hr;exact ih _ _ Q (h k' trivial) F ρ a w q
   ·exact h.elim
  ·split at h
   ·rename_i S' hz;obtain⟨ρ',q1,q2,q3⟩:=B8z hz hr;obtain⟨S'',r1,r2⟩:=ih _ _ Q h F ρ' a w q1;exact⟨S'',r1,r2.on q2 q3 (DX.refl _ _)⟩
   ·exact h.elim
  ·split at h
   ·rename_i S' hz;obtain⟨S'',r1,r2⟩:=ih _ _ Q h F ρ a w (A8L hz hr).1;exact⟨S'',r1,r2.on (Ext.refl _ _ _) (A8L hz hr).2.kp (DX.refl _ _)⟩
   ·exact h.elim
  ·split at h
   ·rename_i S' hz;obtain⟨S'',r1,r2⟩:=ih _ _ Q h F ρ a w (A8R hz hr).1;exact⟨S'',r1,r2.on (Ext.refl _ _ _) (A8R hz hr).2.kp (DX.refl _ _)⟩
   ·exact h.elim
  ·split at h
   ·rename_i ps hz;rw[cond_eq_ite]at h;split at h
    ·rename_i hk;obtain⟨h1,h2⟩:=B2D h;obtain⟨ρ',q1,q2,q3⟩:=A6e hz h1 hr;obtain⟨S'',r1,r2⟩:=ih _ _ Q h2 F ρ' a w q1;exact⟨S'',r1,r2.on q2 (q3 _ hk) (DX.refl _ _)⟩
    ·exact h.elim
   ·exact h.elim
  ·rename_i b p p';cases hb:b with
   |true=>exact ih _ _ Q (h.1 hb) F ρ a w hr
   |false=>exact ih _ _ Q (h.2 hb) F ρ a w hr
  ·exact ih _ _ Q (h.2 h.1.1) F ρ a w hr
  ·rw[show B8L .skip=false from rfl,cond_false]at h;exact⟨S,⟨_,h⟩,.here hr⟩
  ·exact⟨S,⟨_,h⟩,.here hr⟩
theorem B3L (hcm:G.cm=A2x P)(hT:TabOk P G T){g:Opd}{ps:List Nat}{as bd:XC}{S:St}{id m:Nat}{p:Pn}{Q:Ex->St->Pn->Prop}(h:(B1t md T id m ps as bd (g.ev G S.t) S p).ok Q):WpX P G md (.rangeF g ps as bd) S (fun e S'=>∃p,Q e S' p):=by
 unfold B1t at h;split at h
 ·rename_i f a0 cp hg;simp only[cond_eq_ite]at h;split at h
  ·rename_i hc;rw[Bool.and_eq_true]at hc;split at h
   ·rename_i D hD;split at h
    ·rename_i hal;split at h
     ·rename_i l2 hl2;split at h
      ·rename_i e2 hp;split at h
       ·exact h.elim
       ·rename_i hst;obtain⟨h1,h2⟩:=A4d hT (B2B hD) h;refine A7A hcm hg (fun l0 e0=>?_) (A1s hc.2 _ (by simp)) (D:=D) (fun i hi=>by rw[hal]at hi;cases hi) ?_ hl2 hp (fun e1=>hst (by rw[e1];rfl)) ⟨p,h2⟩
        ·have hrid:=hc.1;rw[e0]at hrid;simp only[C5C]at hrid;split at hrid
         ·rename_i L hL;exact⟨L,hL⟩
         ·cases hrid
        ·intro F ρ w xs hm hv;exact A2W hm (fun _ _ h=>h) hD h1 (fun i hi=>by rw[hal]at hi;cases hi) hv
      ·exact h.elim
     ·exact h.elim
    ·exact h.elim
   ·exact h.elim
  ·exact h.elim
 ·exact h.elim
theorem A2L {ops:Array Oper}{R:Act->World->Prop}:∀(l1 l2:List Nat) (a:Act) (w:World),A2a P ops (A2a P ops R l2) l1 a w->A2a P ops R (l1++l2) a w
 |[],l2,a,w,h=>h
 |i::r,l2,a,w,h=>A7p (fun a w h=>A2L r l2 a w h) h
theorem A2Z {ops:Array Oper}:∀(i:Nat) (l:List Oper) (xs:List XO),A0N P ops l=some xs->A0N P ops (l.take i)=some (xs.take i)/\A0N P ops (l.drop i)=some (xs.drop i)
 |0,l,xs,h=>⟨by simp[A0N],by simpa using h⟩
 |i+1,[],xs,h=>by cases h;exact⟨by simp[A0N],by simp[A0N]⟩
 |i+1,o::l,xs,h=>by
  simp only[A0N]at h;split at h
  ·rename_i x xl hx hl;cases h;obtain⟨h1,h2⟩:=A2Z i l xl hl;refine⟨?_,by simpa using h2⟩;simp only[List.take_succ_cons,A0N,hx,h1]
  ·cases h
theorem B5n (hT:TabOk P G T){ops:Array Oper}{s:Nat}{dead:List Nat}{Q:Ex->St->Pn->Prop}{F0:Nat->Prop}{ρ0:Nat->Option Nat}{H0:Nat->Option HO}{w0:World}{ds0:List Deferred}:∀(pl:Pn) (xs:List XO) (k:Nat) (S:St) (l:List Oper) (F:Nat->Prop) (ρ:Nat->Option Nat) (a:Act) (w:World),
  (∀j,j<l.length->l[j]? =ops[k+j]?)->A0N P ops l=some xs->(B0g T G s dead pl xs k S).ok Q->RS G F ρ S a w->Ext G F0 ρ0 w0 F ρ w->HKeep w0 ρ0 H0 w ρ (aget S.h)->a.defers=ds0->
  A2a P ops (fun a' w'=>∃S',(∃p,Q .normal S' p)/\Aft G md F0 ρ0 H0 w0 ds0 S' a' w') (List.range' k l.length) a w:=by
 have fin:∀(pl:Pn) (xs:List XO) (k:Nat) (S:St) (l:List Oper) (F:Nat->Prop) (ρ:Nat->Option Nat) (a:Act) (w:World),
   (∀j,j<l.length->l[j]? =ops[k+j]?)->A0N P ops l=some xs->(match A6W G (B0N T (pnR pl).1) xs (s+k) S with
    |some (S',cs)=>obM T (pnR pl).2.1 cs (.leaf .normal (B4V S' dead) (pnR pl).2.2)
    |none=>.bad).ok Q->RS G F ρ S a w->Ext G F0 ρ0 w0 F ρ w->HKeep w0 ρ0 H0 w ρ (aget S.h)->a.defers=ds0->
   A2a P ops (fun a' w'=>∃S',(∃p,Q .normal S' p)/\Aft G md F0 ρ0 H0 w0 ds0 S' a' w') (List.range' k l.length) a w:=by
  intro pl xs k S l F ρ a w hl hx h hr hE hK hd;split at h
  ·rename_i S' cs he;obtain⟨h1,h2⟩:=A4d hT (A5l he) h;refine A1Y l k xs (s+k) S S' cs F ρ a w hl hx he h1 hr fun a' w' F' ρ' q1 q2 q3 q4=>?_;exact⟨_,⟨_,h2⟩,F',ρ',A8K q1,hE.trans q2,(hK.trans q3).kp,DX.of_eq (q4.trans hd)⟩
  ·exact h.elim
 intro pl
 induction pl with
 |rs i ds m t p q ihp ihq=>
  intro xs k S l F ρ a w hl hx h hr hE hK hd;simp only[B0g]at h;split at h
  ·rename_i S' cs he;obtain⟨h1,h2⟩:=A4d hT (A5l he) h;split at h2
   ·rename_i v hv;obtain⟨hx1,hx2⟩:=A2Z i l xs hx
    by_cases hi:i<=l.length
    ·have hlen:(l.take i).length=i:=by simp;omega
     have hsz:List.range' k l.length=List.range' k (l.take i).length++List.range' (k+i) (l.drop i).length:=by
      rw[hlen,List.range'_append_1]
      congr 1
      simp;omega
     rw[hsz];refine A2L _ _ a w ?_;refine A1Y (l.take i) k (xs.take i) (s+k) S S' cs F ρ a w (fun j hj=>?_) hx1 he h1 hr fun a' w' F' ρ' q1 q2 q3 q4=>?_
     ·rw[hlen]at hj;rw[List.getElem?_take_of_lt hj];exact hl j (by omega)
     ·have hdr:∀j,j<(l.drop i).length->(l.drop i)[j]? =ops[k+i+j]? :=fun j hj=>by
       rw[List.getElem?_drop,hl (i+j) (by simp at hj;omega),Nat.add_assoc]
      have hset:∀b,v=b->RS G F' ρ' {S' with t:=A1B S'.t t (.bool b)} a' w':=fun b e=>by
       refine⟨q1.size,fun u y hu=>?_,q1.mem,q1.defs⟩;simp only[A0o]at hu
       by_cases e':u=t
       ·subst e';rw[A0e]at hu;cases hu;subst e;exact q1.tmps u _ hv
       ·rw[A0a _ _ e']at hu;exact q1.tmps u y hu
      cases hv':v with
      |true=>exact ihp _ _ _ _ F' ρ' a' w' hdr hx2 (h2.1 hv') (hset true hv') (hE.trans q2) (hK.trans q3) (q4.trans hd)
      |false=>exact ihq _ _ _ _ F' ρ' a' w' hdr hx2 (h2.2 hv') (hset false hv') (hE.trans q2) (hK.trans q3) (q4.trans hd)
    ·have hlt:l.take i=l:=List.take_of_length_le (by omega);have hd0:l.drop i=[]:=List.drop_of_length_le (by omega);rw[hlt]at hx1;rw[hd0]at hx2;have hsz:List.range' k l.length=List.range' k l.length++List.range' (k+i) 0:=by simp
     rw[hsz];refine A2L _ _ a w ?_;refine A1Y l k (xs.take i) (s+k) S S' cs F ρ a w hl hx1 he h1 hr fun a' w' F' ρ' q1 q2 q3 q4=>?_;have hset:∀b,v=b->RS G F' ρ' {S' with t:=A1B S'.t t (.bool b)} a' w':=fun b e=>by
      refine⟨q1.size,fun u y hu=>?_,q1.mem,q1.defs⟩;simp only[A0o]at hu
      by_cases e':u=t
      ·subst e';rw[A0e]at hu;cases hu;subst e;exact q1.tmps u _ hv
      ·rw[A0a _ _ e']at hu;exact q1.tmps u y hu
     cases hv':v with
     |true=>exact ihp _ _ _ [] F' ρ' a' w' (fun j hj=>by simp at hj) hx2 (h2.1 hv') (hset true hv') (hE.trans q2) (hK.trans q3) (q4.trans hd)
     |false=>exact ihq _ _ _ [] F' ρ' a' w' (fun j hj=>by simp at hj) hx2 (h2.2 hv') (hset false hv') (hE.trans q2) (hK.trans q3) (q4.trans hd)
   ·exact h2.elim
  ·exact h.elim
 |nl i ds m t p q ihp ihq=>
  intro xs k S l F ρ a w hl hx h hr hE hK hd;simp only[B0g]at h;split at h
  ·rename_i S' cs he;obtain⟨h1,h2⟩:=A4d hT (A5l he) h;split at h2
   ·rename_i c len cap hv;obtain⟨hx1,hx2⟩:=A2Z i l xs hx;have hput:∀{F':Nat->Prop} {ρ':Nat->Option Nat} {a':Act} {w':World} (v':AV),RS G F' ρ' S' a' w'->RelV w' F' ρ' (aget S'.h) v' (a'.tmps.getD t undef)->RS G F' ρ' {S' with t:=A1B S'.t t v'} a' w':=fun v' q1 hv'=>by
     refine⟨q1.size,fun u y hu=>?_,q1.mem,q1.defs⟩;simp only[A0o]at hu
     by_cases e':u=t
     ·subst e';rw[A0e]at hu;cases hu;exact hv'
     ·rw[A0a _ _ e']at hu;exact q1.tmps u y hu
    have two:∀{F':Nat->Prop} {ρ':Nat->Option Nat} {a':Act} {w':World},RS G F' ρ' S' a' w'->((len=0/\c.size=0)/\RS G F' ρ' {S' with t:=A1B S'.t t .nils} a' w')\/RS G F' ρ' {S' with t:=A1B S'.t t .nn} a' w':=fun{F' ρ' a' w'} q1=>by
     have hr:=q1.tmps t _ hv;generalize hy:a'.tmps.getD t undef=y at hr;cases hr with
     |imm _ _ hi=>
      cases hi with
      |imm _ _ _ b o cap' xs hF hc hr ho hl hcap=>exact .inr (hput .nn q1 (by rw[hy];exact .imm _ _ (.nn _ _ _)))
      |imm0 _ _ x hc hcap=>
       cases x with
       |none=>exact .inl ⟨⟨rfl,hc⟩,hput .nils q1 (by rw[hy];exact .imm _ _ .nils)⟩
       |some x=>exact .inr (hput .nn q1 (by rw[hy];exact .imm _ _ (.nn _ _ _)))
    by_cases hi:i<=l.length
    ·have hlen:(l.take i).length=i:=by simp;omega
     have hsz:List.range' k l.length=List.range' k (l.take i).length++List.range' (k+i) (l.drop i).length:=by
      rw[hlen,List.range'_append_1]
      congr 1
      simp;omega
     rw[hsz];refine A2L _ _ a w ?_;refine A1Y (l.take i) k (xs.take i) (s+k) S S' cs F ρ a w (fun j hj=>?_) hx1 he h1 hr fun a' w' F' ρ' q1 q2 q3 q4=>?_
     ·rw[hlen]at hj;rw[List.getElem?_take_of_lt hj];exact hl j (by omega)
     ·have hdr:∀j,j<(l.drop i).length->(l.drop i)[j]? =ops[k+i+j]? :=fun j hj=>by
       rw[List.getElem?_drop,hl (i+j) (by simp at hj;omega),Nat.add_assoc]
      rcases two q1 with⟨hz,q1'⟩|q1'
      ·exact ihp _ _ _ _ F' ρ' a' w' hdr hx2 (h2.1 hz) q1' (hE.trans q2) (hK.trans q3) (q4.trans hd)
      ·exact ihq _ _ _ _ F' ρ' a' w' hdr hx2 h2.2 q1' (hE.trans q2) (hK.trans q3) (q4.trans hd)
    ·have hlt:l.take i=l:=List.take_of_length_le (by omega);have hd0:l.drop i=[]:=List.drop_of_length_le (by omega);rw[hlt]at hx1;rw[hd0]at hx2;have hsz:List.range' k l.length=List.range' k l.length++List.range' (k+i) 0:=by simp
     rw[hsz];refine A2L _ _ a w ?_;refine A1Y l k (xs.take i) (s+k) S S' cs F ρ a w hl hx1 he h1 hr fun a' w' F' ρ' q1 q2 q3 q4=>?_;rcases two q1 with⟨hz,q1'⟩|q1'
     ·exact ihp _ _ _ [] F' ρ' a' w' (fun j hj=>by simp at hj) hx2 (h2.1 hz) q1' (hE.trans q2) (hK.trans q3) (q4.trans hd)
     ·exact ihq _ _ _ [] F' ρ' a' w' (fun j hj=>by simp at hj) hx2 h2.2 q1' (hE.trans q2) (hK.trans q3) (q4.trans hd)
   ·exact h2.elim
  ·exact h.elim
 |_=>
  intro xs k S l F ρ a w hl hx h hr hE hK hd;exact fin _ xs k S l F ρ a w hl hx h hr hE hK hd
theorem B0h (hcm:G.cm=A2x P)(hm:P.follows .mixedOrders=true)(hT:TabOk P G T){n:Nat}(hrec:∀xc pl S Q,(sy md T G n xc pl S).ok Q->WpX P G md xc S (fun e S'=>∃p,Q e S' p))
  {xc:XC} {pl:Pn} {S:St} {Q:Ex->St->Pn->Prop} (h:(syC md T G (sy md T G n) xc pl S).ok Q):WpX P G md xc S (fun e S'=>∃p,Q e S' p):=by
 cases xc with
 |skip=>exact B2t hcm ⟨pl,h⟩
 |exit id=>exact B2u hcm ⟨pl,h⟩
 |ret=>exact B44 hcm ⟨pl,h⟩
 |reg s xs dead=>
  simp only[syC]at h;intro c hcc F ρ a w ro hr hro;obtain⟨id,ops,rfl,hx⟩:=B8x hcm hcc;have h1:=B5n (md:=md) hT pl xs 0 S ops.toList F ρ a w (fun j _=>by simp) hx h hr (Ext.refl _ _ _) (HKeep.refl _ _ _) rfl;refine(A7v (R:=fun a' w'=>∃S',(∃p,Q .normal S' p)/\Aft G md F ρ (aget S.h) w a.defers S' a' w') (A2c hx) (by rw[List.range_eq_range'];simpa using h1)).mono ?_;rintro e a' w' ⟨rfl,h⟩;exact h
 |draw s xs dep ord dead=>
  simp only[syC,B8J]at h;split at h
  ·rename_i S' es cs he;rw[cond_eq_ite]at h;split at h
   ·rename_i hB;obtain⟨h1,h2⟩:=A4d hT (B0e he) h;exact B7a hcm hm he hB h1 ⟨_,h2⟩
   ·exact h.elim
  ·exact h.elim
 |seq x y=>
  simp only[syC]at h;refine B1o hcm ((hrec x pl S _ (Tr.bindN_ok h)).mono ?_);rintro e S' ⟨p,⟨rfl,hU⟩|⟨hn,hQ⟩⟩
  ·exact .inl ⟨rfl,hrec y p S' Q hU⟩
  ·exact .inr ⟨hn,p,hQ⟩
 |cond o x y=>
  simp only[syC]at h;split at h
  ·rename_i v hv;unfold B8K at h;split at h
   ·have hvt:v=true:=h.1;exact A2X hcm hv (fun _=>hrec _ _ _ Q h.2) (fun e=>by rw[hvt]at e;cases e)
   ·have hvt:v=false:=h.1;exact A2X hcm hv (fun e=>by rw[hvt]at e;cases e) (fun _=>hrec _ _ _ Q h.2)
   ·exact A2X hcm hv (fun e=>hrec _ _ _ Q (h.1 e)) (fun e=>hrec _ _ _ Q (h.2 e))
   ·exact A2X hcm hv (fun e=>by rw[e,cond_true]at h;exact hrec _ _ _ Q h) (fun e=>by rw[e,cond_false]at h;exact hrec _ _ _ Q h)
   ·exact A2X hcm hv (fun e=>by rw[e,cond_true]at h;exact hrec _ _ _ Q h) (fun e=>by rw[e,cond_false]at h;exact hrec _ _ _ Q h)
  ·exact h.elim
 |block id x=>
  simp only[syC]at h;refine A6f hcm ((hrec x pl S _ (Tr.catch_ok h)).mono ?_);rintro e S' ⟨p,⟨rfl,hQ⟩|⟨hn,hQ⟩⟩
  ·exact .inl ⟨rfl,p,hQ⟩
  ·exact .inr ⟨hn,p,hQ⟩
 |loop x=>
  simp only[syC]at h;split at h
  ·rename_i β L dl db body;obtain⟨b0,ps0,_,g2,g3,g4,hall⟩:=A6t h;have key:∀(N:Nat) (b:β),L.mu b=N->L.pre b->WpX P G md (.loop x) (C13 L dl db S b) (fun e S'=>∃p,Q e S' p):=by
    intro N
    induction N using Nat.strongRecOn with
    |_ N ih=>
     intro b hN hb;refine A4a hcm ((hrec x (body b) _ _ (Tr.bindN_ok (hall b hb))).mono ?_);rintro e S' ⟨p,⟨rfl,hU⟩|⟨hn,hQ⟩⟩
     ·refine .inl ⟨rfl,WpX.via fun F ρ a w hr=>?_⟩;obtain⟨S2,⟨p2,h2⟩,r2⟩:=B5m hT n p S' _ (Tr.bindN_ok hU) F ρ a w hr;rcases h2 with⟨_,h2⟩|⟨hn,_⟩
      ·obtain⟨b',ps,_,k2,k3,k4,k5⟩:=A6t h2;exact⟨_,ih _ (hN▸k5.1) b' rfl k4,Aft.trans r2 fun F' ρ' hr'=>Aft.of_toS k2 k3 hr'⟩
      ·exact absurd rfl hn
     ·exact .inr ⟨hn,p,hQ⟩
   exact WpX.via fun F ρ a w hr=>⟨_,key _ b0 rfl g4,Aft.of_toS g2 g3 hr⟩
  ·refine A4a hcm ((hrec x _ S _ (Tr.bindN_ok h)).mono ?_);rintro e S' ⟨p,⟨rfl,hU⟩|⟨hn,hQ⟩⟩
   ·exact .inl ⟨rfl,hrec _ p S' Q hU⟩
   ·exact .inr ⟨hn,p,hQ⟩
  ·exact h.elim
 |rangeF g ps as bd=>
  simp only[syC]at h;split at h
  ·exact B3L hcm hT h
  ·exact h.elim
 |bad=>exact h.elim
 |scope x=>exact A96 hcm (hrec x pl S Q h)
theorem A5m (hcm:G.cm=A2x P)(hm:P.follows .mixedOrders=true)(hT:TabOk P G T):∀(n:Nat) (xc:XC) (pl:Pn) (S:St) (Q:Ex->St->Pn->Prop),(sy md T G n xc pl S).ok Q->WpX P G md xc S (fun e S'=>∃p,Q e S' p):=by
 intro n
 induction n with
 |zero=>intro xc pl S Q h;exact h.elim
 |succ n ih=>
  intro xc pl S Q h;simp only[sy]at h;split at h
  ·split at h
   ·rename_i S' cs hz;obtain⟨h1,h2⟩:=A4d hT (B5k hz) h;exact WpX.pre (fun F ρ a w hr=>by obtain⟨F',q1,q2,q3⟩:=B4Y hz h1 hr;exact⟨F',ρ,q1,q2,q3.kp⟩) (ih _ _ _ Q h2)
   ·exact h.elim
  ·split at h
   ·rename_i c len k hz;intro cc hc F ρ a w ro hr hro;obtain⟨k',q⟩:=B5l hz hr;exact ih _ _ _ Q (h k' trivial) cc hc F ρ a w ro q hro
   ·exact h.elim
  ·split at h
   ·rename_i S' hz;exact WpX.pre (fun F ρ a w hr=>by obtain⟨ρ',q1,q2,q3⟩:=B8z hz hr;exact⟨F,ρ',q1,q2,q3⟩) (ih _ _ _ Q h)
   ·exact h.elim
  ·split at h
   ·rename_i S' hz;exact WpX.pre (fun F ρ a w hr=>⟨F,ρ,(A8L hz hr).1,Ext.refl _ _ _,(A8L hz hr).2.kp⟩) (ih _ _ _ Q h)
   ·exact h.elim
  ·split at h
   ·rename_i S' hz;exact WpX.pre (fun F ρ a w hr=>⟨F,ρ,(A8R hz hr).1,Ext.refl _ _ _,(A8R hz hr).2.kp⟩) (ih _ _ _ Q h)
   ·exact h.elim
  ·split at h
   ·rename_i ps hz;rw[cond_eq_ite]at h;split at h
    ·rename_i hk;obtain⟨h1,h2⟩:=B2D h;exact WpX.pre (fun F ρ a w hr=>by obtain⟨ρ',q1,q2,q3⟩:=A6e hz h1 hr;exact⟨F,ρ',q1,q2,q3 _ hk⟩) (ih _ _ _ Q h2)
    ·exact h.elim
   ·exact h.elim
  ·rename_i b p p';intro c hc;cases hb:b with
   |true=>exact ih _ _ _ Q (h.1 hb) c hc
   |false=>exact ih _ _ _ Q (h.2 hb) c hc
  ·exact ih _ _ _ Q (h.2 h.1.1)
  ·rename_i β L dl db p q;rw[cond_eq_ite]at h;split at h
   case isFalse=>exact B0h hcm hm hT ih h
   obtain⟨hA,hB⟩:=h;refine(ih _ _ _ _ (Tr.bindN_ok hA)).post ?_;rintro e S' ⟨p',⟨rfl,hU⟩|⟨hn,hQ⟩⟩ F ρ a w hr
   ·obtain⟨S2,⟨p2,h2⟩,r2⟩:=B5m hT n p' S' _ (Tr.bindN_ok hU) F ρ a w hr;rcases h2 with⟨_,h2⟩|⟨hn,_⟩
    ·obtain⟨b',ps,_,k2,k3,k4,_⟩:=A6t h2;exact⟨_,⟨_,hB b' k4⟩,Aft.trans r2 fun F' ρ' hr'=>Aft.of_toS k2 k3 hr'⟩
    ·exact absurd rfl hn
   ·exact⟨S',⟨p',hQ⟩,.here hr⟩
  ·exact B0h hcm hm hT ih h
end
abbrev yM (s:Nat):Nat×(GDir×Dr):=(s,(.may,.plain))
abbrev yL (s:Nat):Nat×(GDir×Dr):=(s,(.onl,.plain))
abbrev yO (s:Nat):Nat×(GDir×Dr):=(s,(.on,.plain))
abbrev iL (l:List Int):List Int:=l
abbrev iI (n:Int):Int:=n
abbrev uL (l:List UInt8):List UInt8:=l
def C99 (rts:List RT)(vals:List AV)(blks:List Blk)(e:Ex)(S:St):Prop:=
 match e with
 |.exit _=>False
 |_=>match B3G S rts with
  |some vs=>match B4T (sgS (B3H S vs) (C1A vals blks)) (B3H S vs) (C1A vals blks)with
   |some ps=>A3E ps
   |none=>False
  |none=>False
def fnP (T:Tab)(G:GL)(n:Nat)(fe:FnE)(pl:Pn)(args vals:List AV)(blks:List Blk):Prop:=
 (sy ⟨none,[]⟩ T G n fe.xc pl (B8A args fe.n)).ok (fun e S _=>C99 fe.rts vals blks e S)
theorem A0d {P:Program}{G:GL}{T:Tab}{n:Nat}{f:Nat}{fe:FnE}{pl:Pn}{args vals:List AV}{blks:List Blk}{p:Prop}(hcm:G.cm=A2x P)(hmx:P.follows .mixedOrders=true)(hT:TabOk P G T)(hf:A0y P f fe)(hle:Nat.ble args.length fe.n=true)
  (h:fnP T G n fe pl args vals blks=p) (hp:p):SpecP P G f args (C1B vals) blks:=by
 obtain⟨fn,c,g1,g2,g3,g4,g5,g6⟩:=hf;have h0:fnP T G n fe pl args vals blks:=by rw[h];exact hp
 have h1:=A5m hcm hmx hT n fe.xc pl _ _ h0;rw[<- g6]at h1 hle;refine A98 (rts:=fe.rts) (vals:=vals) (blks:=blks) hcm g1 g2 g3 g4 g5 hle (h1.mono ?_);rintro e S' ⟨_,hq⟩;unfold C99 at hq;split at hq
 ·exact hq.elim
 ·rename_i hne;refine⟨?_,?_⟩
  ·cases e with
   |normal=>exact .inr rfl
   |ret=>exact .inl rfl
   |exit i=>exact absurd rfl (hne i)
  ·split at hq
   ·rename_i vs hvs;split at hq
    ·rename_i ps hps;exact⟨vs,_,ps,hvs,hps,hq⟩
    ·exact hq.elim
   ·exact hq.elim
def D0a (rts:List RT)(vals:List AV)(h ws:List (Nat×HO))(e:Ex)(S:St):Prop:=
 match e with
 |.exit _=>False
 |_=>match B3G S rts with
  |some vs=>match B4T (sgS (B3H S vs) (A99 vals h ws)) (B3H S vs) (A99 vals h ws)with
   |some ps=>cond (A43 (sgS (B3H S vs) (A99 vals h ws)) (B3H S vs) (A99 vals h ws) (keys h)) (A3E ps) False
   |none=>False
  |none=>False
def fnD (T:Tab)(G:GL)(n:Nat)(fe:FnE)(pl:Pn)(args:List AV)(h:List (Nat×HO))(vals:List AV)(ws:List (Nat×HO)):Prop:=
 (sy ⟨none,keys h⟩ T G n fe.xc pl (A6g args h fe.n)).ok (fun e S _=>D0a fe.rts vals h ws e S)
theorem A1I {P:Program}{G:GL}{T:Tab}{n:Nat}{f:Nat}{fe:FnE}{pl:Pn}{args vals:List AV}{h ws:List (Nat×HO)}{p:Prop}(hcm:G.cm=A2x P)(hmx:P.follows .mixedOrders=true)(hT:TabOk P G T)(hf:A0y P f fe)(hle:Nat.ble args.length fe.n=true)
  (he:fnD T G n fe pl args h vals ws=p) (hp:p):SpecD P G (.fn f [] []) args h (C1B vals) ws []:=by
 obtain⟨fn,c,g1,g2,g3,g4,g5,g6⟩:=hf;have h0:fnD T G n fe pl args h vals ws:=by rw[he];exact hp
 have h1:=A5m hcm hmx hT n fe.xc pl _ _ h0;rw[<- g6]at h1 hle;refine A8P (rts:=fe.rts) (vals:=vals) hcm g1 g2 g3 g4 g5 hle (h1.mono ?_);rintro e S' ⟨_,hq⟩;unfold D0a at hq;split at hq
 ·exact hq.elim
 ·rename_i hne;refine⟨?_,?_⟩
  ·cases e with
   |normal=>exact .inr rfl
   |ret=>exact .inl rfl
   |exit i=>exact absurd rfl (hne i)
  ·split at hq
   ·rename_i vs hvs;split at hq
    ·rename_i ps hps;rw[cond_eq_ite]at hq;split at hq
     ·rename_i hk;exact⟨vs,_,ps,hvs,hps,hq,hk⟩
     ·exact hq.elim
    ·exact hq.elim
   ·exact hq.elim
abbrev CtE:=List AV->Option Ct
def A1V (l:List (Nat×CtE))(ch:List (Nat×HO)->AV->List AV->Option Cx):Tab:=
 ⟨fun f args=>match aget l f with
  |some e=>e args
  |none=>none,ch⟩
def A2z:List (Nat×HO)->AV->List AV->Option Cx:=fun _ _ _=>none
def A06 (P:Program)(G:GL)(f:Nat)(e:CtE):Prop:=∀args r,e args=some r->optP r.p->SpecP P G f args r.v r.bs
def B7i (P:Program)(G:GL)(ch:List (Nat×HO)->AV->List AV->Option Cx):Prop:=∀h cv args r,ch h cv args=some r->optP r.p->SpecD P G cv args h r.v r.ws []
theorem A0s {P:Program}{G:GL}:B7i P G A2z:=fun h cv args r e=>by cases e
def A1Z (P:Program)(G:GL):List (Nat×CtE)->Prop
 |[]=>True
 |(f,e)::r=>A06 P G f e/\A1Z P G r
theorem A0m {P:Program}{G:GL}{ch:List (Nat×HO)->AV->List AV->Option Cx}(hch:B7i P G ch):∀{l:List (Nat×CtE)},A1Z P G l->TabOk P G (A1V l ch):=fun{l} hl=>by
 refine⟨?_,hch⟩
 induction l with
 |nil=>intro f args r h;simp[A1V,aget]at h
 |cons p r ih=>
  obtain⟨g,e⟩:=p;intro f args x h hp;simp only[A1V,aget]at h
  by_cases hg:g=f
  ·subst hg;rw[A0t,cond_true]at h;exact hl.1 args x h hp
  ·rw[A0O hg,cond_false]at h;exact ih hl.2 f args x (by simpa[A1V]using h) hp
@[simp] theorem A0n {x y:Int}:ltb x y=true↔x<y:=by simp[ltb]
@[simp] theorem A0K {x y:Int}:ltb x y=false↔y<=x:=by simp[ltb]
@[simp] theorem A0H {x y:Int}:leb x y=true↔x<=y:=by simp[leb]
@[simp] theorem A09 {x y:Int}:leb x y=false↔y<x:=by simp[leb]
@[simp] theorem A0Q {x y:Nat}:ltn x y=true↔x<y:=by simp[ltn]
@[simp] theorem A1x {x y:Nat}:ltn x y=false↔y<=x:=by simp[ltn]
@[simp] theorem A0E {x y:Nat}:A0X x y=true↔x<=y:=by simp[A0X]
@[simp] theorem A03 {x y:Nat}:A0X x y=false↔y<x:=by simp[A0X]
@[simp] theorem A0w {n:Int}:inR .i64 n=true↔ -9223372036854775808<=n/\n<=9223372036854775807:=by
 simp[inR,IntKind.min,IntKind.max,IntKind.signed,IntKind.bits]
@[simp] theorem A1t {n:Int}:inR .u8 n=true↔0<=n/\n<=255:=by
 simp[inR,IntKind.min,IntKind.max,IntKind.signed,IntKind.bits]
@[simp] theorem A1q {n:Int}:inR .i32 n=true↔ -2147483648<=n/\n<=2147483647:=by
 simp[inR,IntKind.min,IntKind.max,IntKind.signed,IntKind.bits]
@[simp] theorem A0F {k:IntKind}{l:List Int}:(Cont.ints k l).size=l.length:=rfl
@[simp] theorem A0I {l:List Bool}:(Cont.bools l).size=l.length:=rfl
@[simp] theorem A0r {l:List AV}:(Cont.vals l).size=l.length:=rfl
@[simp] theorem A0J {l:List AV}:(Cont.cells l).size=l.length:=rfl
@[simp] theorem A0G {α:Type}(l:List α)(n i:Nat)(d:α):(l.drop n).getD i d=l.getD (n+i) d:=by
 simp[List.getD_eq_getElem?_getD]
theorem SpecP.args {P:Program}{G:GL}{f:Nat}{args args':List AV}{v:AV}{bs:List Blk}(h:SpecP P G f args' v bs)(hr:∀w F xs,RelIs w F args xs->RelIs w F args' xs):SpecP P G f args v bs:=
 fun F w vs hm hv=>h F w vs hm (hr w F vs.toList hv)
mutual
def C15:AV->AV
 |.imm c l _=>.imm c l none
 |.agg l=>.agg (B7j l)
 |v=>v
def B7j:List AV->List AV
 |[]=>[]
 |v::r=>C15 v::B7j r
end
mutual
theorem RelI.caps {w:World}{F:Nat->Prop}:∀{v:AV} {x:Value},RelI w F v x->RelI w F (C15 v) x
 |_,_,.undef x=>.undef x
 |_,_,.bool b=>.bool b
 |_,_,.int k n=>.int k n
 |_,_,.str l s h=>.str l s h
 |_,_,.nilp=>.nilp
 |_,_,.nils=>.nils
 |_,_,.nilf=>.nilf
 |_,_,.nili=>.nili
 |_,_,.nn a l c=>.nn a l c
 |_,_,.iptr c b o xs hb hc hr ho=>.iptr c b o xs hb hc hr ho
 |_,_,.imm c len cap b o cap' xs hb hc hr ho hl hcap=>.imm c len none b o cap' xs hb hc hr ho hl (fun n e=>by cases e)
 |_,_,.imm0 c cap x hc hcap=>.imm0 c none x hc (fun n e=>by cases e)
 |_,_,.fn f l1 l2 x1 x2 h1 h2=>.fn f l1 l2 x1 x2 h1 h2
 |_,_,.agg l x h=>.agg _ x h.caps
 |_,_,.tup l x h=>.tup l x h
 |_,_,.may b v x h hn=>.may b v x h hn
 |_,_,.iface t v x h=>.iface t v x h
theorem RelIs.caps {w:World}{F:Nat->Prop}:∀{l:List AV} {xs:List Value},RelIs w F l xs->RelIs w F (B7j l) xs
 |_,_,.nil=>.nil
 |_,_,.cons v l x xs h hs=>.cons _ _ x xs h.caps hs.caps
end
theorem SpecP.caps {P:Program}{G:GL}{f:Nat}{args:List AV}{v:AV}{bs:List Blk}(h:SpecP P G f (B7j args) v bs):SpecP P G f args v bs:=h.args fun _ _ _ h=>h.caps
structure VI where v:Int
structure VB where v:Bool
structure VL where v:List Int
def jI (t:Nat)(k:IntKind)(x:Int):LpS VI where
 ov b:=[(t,.int k b.v)]
 bk b:=[]
 rd S:=match aget S.t t with
  |some (.int _ i)=>some ⟨i⟩
  |_=>none
 pre b:=b.v=x
 mu b:=0
def B9z (k:IntKind)(a:List Int):Blk:=⟨.ints k a,1,a.length,none,some true,true,false⟩
def jL (id:Nat)(k:IntKind)(vs:List Int->List (Nat×HO))(x:List Int):LpS VL where
 ov b:=[]
 bk b:=(id,.blk (B9z k b.v))::vs b.v
 rd S:=match aget S.h id with
  |some (.blk ⟨.ints _ a,_,_,_,_,_,_⟩)=>some ⟨a⟩
  |_=>none
 pre b:=b.v=x
 mu b:=0
section
variable {P:Program}{G:GL}{md:Md}{T:Tab}{F:Nat->Prop}{ρ:Nat->Option Nat}{a:Act}{w:World}
theorem B3M (hcm:G.cm=A2x P){id:Nat}{l:LoopS}{h:List (Nat×HO)}(hl:aget h id=some (.loop l))(hst:Nat.beq l.st 0=true){args:List AV}(hlen:Nat.beq args.length l.ps.length=true)(hps:A6j l.n l.ps=true)
  {R:Ex->St->Prop} {D:Delta}
  (h1:WpX P G ⟨some id,keys h⟩ l.as ⟨A4A l.t l.ps args,h,l.n⟩ (fun e S1=>e=.normal/\∃l1,aget S1.h id=some (.loop l1)/\Nat.beq l1.st 0=true/\
   WpX P G ⟨some id,keys h⟩ l.bd {S1 with h:=A1B S1.h id (.loop {l1 with st:=1})} (fun e S2=>∃l2,aget S2.h id=some (.loop l2)/\R e {S2 with h:=A1B S2.h id (.loop {l2 with st:=cond e.isN 0 2,pend:=cond e.isN none (some e)})})))
  (hfin:∀e S3,R e S3->∀F ρ w F' ρ' w2,MRel G F ρ (aget h) w->MRel G F' ρ' (aget S3.h) w2->Ext G F ρ w F' ρ' w2->
   HKp (keys h) w ρ (aget h) w2 ρ' (aget S3.h)->KD G F ρ (aget h) w D (.bool e.isN) w2):SpecD P G (.yld id) args h D.v D.ws D.al:=by
 intro F ρ w xs hm hv b hb;obtain⟨b',z1,z2,r,z3,z4⟩:=hm.heap id _ hl;rw[hb]at z1;cases z1;have hargs:xs.size=r.params.size:=by
  have e1:=hv.len;have e2:=Nat.eq_of_beq_eq_true hlen;have e3:r.params.toList.length=l.ps.length:=by rw[z4.ps]
  simp at e1 e3;omega
 refine .inr (.inr ⟨b,r.fn,_,r.assign,r.body,w,run_yield z3 hargs,fun c cs=>?_⟩);rw[A7D,z4.ps]
 let tm:Array Value:=(l.ps.zip xs.toList).foldl (fun(tmps:Array Value) (p:Nat×Value)=>tmps.setIfInBounds p.1 p.2) r.tmps
 have htm:∀i v,aget (A4A l.t l.ps args) i=some v->RelV w F ρ (aget h) v (tm.getD i undef):=A6q (qs:=[]) hv z4.tmps (by rw[z4.size];exact hps)
 let b0:Frame:={(default:Frame)with fn:=r.fn,kind:=.normal,roundOf:=some b}
 have hb0:Frame.round b r.fn tm r.assign r.body .normal=b0.atR {tmps:=tm,defers:=[]} [.code r.assign,.beginRound,.code r.body]:=by simp[Frame.round,Frame.atR,b0]
 have hr0:RS G F ρ ⟨A4A l.t l.ps args,h,l.n⟩ {tmps:=tm,defers:=[]} w:=⟨by show tm.size=l.n;rw[<- z4.size];exact A7C,htm,hm,⟨[],by simp,rfl,fun r hr=>by simp at hr⟩⟩;have hro0:B4W ⟨some id,keys h⟩ ρ (aget h) (some b):=⟨b,_,rfl,hb,hl,rfl⟩;obtain⟨e1,a1,w1,⟨S',⟨rfl,l1,hl1,hst1,h2⟩,F1,ρ1,r1,x1,k1,_⟩,harr⟩:=h1 r.assign z4.as F ρ _ w (some b) hr0 hro0 b0 [.beginRound,.code r.body] (c::cs) rfl;have hks:(⟨some id,keys h⟩:Md).ks=id::keys h:=rfl;rw[hks]at k1;have hid1:ρ1 id=some b:=by
  obtain⟨o',g1,g2,g3⟩:=k1.box id _ (by simp) hl rfl;exact g3.trans hb
 obtain⟨b1,y1,y2,rr,y3,y4⟩:=r1.mem.heap id _ hl1;rw[hid1]at y1;cases y1;have hbr:=run_beginRound (P:=P) y3 (by rw[y4.st];exact A7B hst1);have hlt1:=A0D y3;obtain⟨m2,x2,k2⟩:=r1.mem.write (w':=w1.putObj b (.loop {rr with state:=.busy})) (o':=.loop {l1 with st:=1}) hl1 hid1 y2 (World.putObj_heap_same hlt1) (fun j hj=>World.putObj_heap_other hj) World.putObj_size ⟨rfl,rfl,fun _=>⟨rfl,Nat.le_refl _⟩⟩
  (fun cs ty fz h=>by rw[y3]at h;cases h) rfl (fun k h=>by cases h)
  (fun hk=>⟨b,hid1,y2,_,World.putObj_heap_same hlt1,⟨rfl,y4.pend,y4.size,fun t v h=>(y4.tmps t v h).mono (fun b' hb'=>World.putObj_heap_other (fun(e:b'=b)=>y2 (by rw[<- e];exact hb'))) (fun _ h=>h) hk,y4.ps,y4.as,y4.bd⟩⟩)
 rw[<- A0o]at m2 k2;have r2:RS G F1 ρ1 {S' with h:=A1B S'.h id (.loop {l1 with st:=1})} a1 (w1.putObj b (.loop {rr with state:=.busy})):=⟨r1.size,fun t v h=>(r1.tmps t v h).mono x2.frz x2.keep k2,m2,r1.defs.ext x2 rfl⟩;have hro2:B4W ⟨some id,keys h⟩ ρ1 (aget (A1B S'.h id (.loop {l1 with st:=1}))) (some b):=⟨b,.loop {l1 with st:=1},rfl,hid1,by rw[A0o,A0e],rfl⟩;have s1:Steps P (lone (b0.atR a1 [.beginRound,.code r.body]) (c::cs) w1) (lone (b0.atR a1 [.code r.body]) (c::cs) (w1.putObj b (.loop {rr with state:=.busy}))):=.one (stepR_beginRound rfl hbr);obtain⟨e2,a2,w3,⟨S'',⟨l2,hl2,hR⟩,F3,ρ3,r3,x3,k3,_⟩,harr2⟩:=h2 r.body z4.bd F1 ρ1 _ _ (some b) r2 hro2 b0 [] (c::cs) rfl;rw[hks]at k3;have hid3:ρ3 id=some b:=by
  obtain⟨o',g1,g2,g3⟩:=k3.box id (.loop {l1 with st:=1}) (by simp) (by simp only;rw[A0o,A0e]) rfl;exact g3.trans hid1
 obtain⟨b3,u1,u2,rq,u3,u4⟩:=r3.mem.heap id _ hl2;rw[hid3]at u1;cases u1;have hlt3:=A0D u3
 let jump:Option Code:=cond e2.isN none (some e2.code)
 have hend:=run_endRound (P:=P) jump u3;have hjn:jump.isNone=e2.isN:=by cases e2<;>rfl
 rw[hjn]at hend;obtain⟨m4,x4,k4⟩:=r3.mem.write (w':=w3.putObj b (.loop {rq with state:=if e2.isN then .ready else .done,pending:=jump})) (o':=.loop {l2 with st:=cond e2.isN 0 2,pend:=cond e2.isN none (some e2)}) hl2 hid3 u2 (World.putObj_heap_same hlt3) (fun j hj=>World.putObj_heap_other hj) World.putObj_size ⟨rfl,rfl,fun _=>⟨rfl,Nat.le_refl _⟩⟩
  (fun cs ty fz h=>by rw[u3]at h;cases h) rfl (fun k h=>by cases h)
  (fun hk=>⟨b,hid3,u2,_,World.putObj_heap_same hlt3,⟨by cases e2<;>rfl,by cases e2<;>rfl,u4.size,fun t v h=>(u4.tmps t v h).mono (fun b' hb'=>World.putObj_heap_other (fun(e:b'=b)=>u2 (by rw[<- e];exact hb'))) (fun _ h=>h) hk,u4.ps,u4.as,u4.bd⟩⟩)
 rw[<- A0o]at m4 k4;have hkp:HKp (keys h) w ρ (aget h) (w3.putObj b (.loop {rq with state:=if e2.isN then .ready else .done,pending:=jump})) ρ3 (aget (A1B S''.h id (.loop {l2 with st:=cond e2.isN 0 2,pend:=cond e2.isN none (some e2)}))):=by
  have sub:∀{w w':World} {ρ ρ':Nat->Option Nat} {h1 h2:Nat->Option HO},HKp (id::keys h) w ρ h1 w' ρ' h2->HKp (keys h) w ρ h1 w' ρ' h2:=fun k=>⟨fun i o hi=>k.box i o (by simp[hi]),fun i o hi=>k.blk i o (by simp[hi]),k.sz⟩;exact(((sub k1).trans k2.kp).trans (sub k3)).trans k4.kp
 have hK:=hfin e2 _ hR F ρ w F3 ρ3 _ hm m4 (((x1.trans x2).trans x3).trans x4) hkp;refine⟨.bool e2.isN,_,hK,?_⟩;have hfirst:Steps P (lone (Frame.round b r.fn tm r.assign r.body .normal) (c::cs) w) (lone (b0.atR a1 [.code r.body]) (c::cs) (w1.putObj b (.loop {rr with state:=.busy}))):=by
  rw[hb0];exact Steps.trans harr s1
 cases e2 with
 |normal=>exact hfirst.trans (Steps.trans harr2 (.one (stepR_round_end rfl rfl hend)))
 |ret=>
  obtain⟨todo,hs⟩:=harr2;exact hfirst.trans (hs.trans (.one (stepR_round_ret rfl rfl hend)))
 |exit i=>
  obtain⟨k0,hk0,hs⟩:=harr2;exact hfirst.trans (hs.trans (.one (stepR_round_exit rfl rfl (by rw[hk0];rfl) hend)))
def Tr.only (f:St->Pn->Tr):Tr->Tr
 |.leaf e S p=>match e with
  |.normal=>f S p
  |_=>.bad
 |.ob p t=>.ob p (t.only f)
 |.br b t u=>.br b (t.only f) (u.only f)
 |.all pre t=>.all pre (fun b=>(t b).only f)
 |.imp p t=>.imp p (t.only f)
 |.both t u=>.both (t.only f) (u.only f)
 |.done=>.done
 |.bad=>.bad
theorem Tr.only_ok {f:St->Pn->Tr}{Q:Ex->St->Pn->Prop}:∀{t:Tr},(t.only f).ok Q->t.ok (fun e S p=>e=.normal/\(f S p).ok Q)
 |.leaf e S p,h=>by
  simp only[Tr.only]at h;split at h
  ·exact⟨rfl,h⟩
  ·exact h.elim
 |.ob p t,h=>⟨h.1,Tr.only_ok h.2⟩
 |.br b t u,h=>⟨fun hb=>Tr.only_ok (h.1 hb),fun hb=>Tr.only_ok (h.2 hb)⟩
 |.all pre t,h=>fun b hb=>Tr.only_ok (h b hb)
 |.imp p t,h=>fun hp=>Tr.only_ok (h hp)
 |.both t u,h=>⟨Tr.only_ok h.1,Tr.only_ok h.2⟩
 |.done,h=>trivial
 |.bad,h=>h
def D0b (id:Nat)(v:Bool)(h ws:List (Nat×HO))(e:Ex)(S:St):Prop:=
 match aget S.h id with
 |some (.loop l2)=>match B4T (sgS ⟨A1w 0 [.bool e.isN],A1B S.h id (.loop {l2 with st:=cond e.isN 0 2,pend:=cond e.isN none (some e)}),1⟩ (A99 [.bool v] h ws)) ⟨A1w 0 [.bool e.isN],A1B S.h id (.loop {l2 with st:=cond e.isN 0 2,pend:=cond e.isN none (some e)}),1⟩ (A99 [.bool v] h ws)with
  |some ps=>cond (A43 (sgS ⟨A1w 0 [.bool e.isN],A1B S.h id (.loop {l2 with st:=cond e.isN 0 2,pend:=cond e.isN none (some e)}),1⟩ (A99 [.bool v] h ws)) ⟨A1w 0 [.bool e.isN],A1B S.h id (.loop {l2 with st:=cond e.isN 0 2,pend:=cond e.isN none (some e)}),1⟩ (A99 [.bool v] h ws) (keys h)) (A3E ps) False
  |none=>False
 |_=>False
def fnY (T:Tab)(G:GL)(n id:Nat)(pl:Pn)(args:List AV)(h:List (Nat×HO))(v:Bool)(ws:List (Nat×HO)):Prop:=
 match aget h id with
 |some (.loop l)=>cond (Nat.beq l.st 0&&(Nat.beq args.length l.ps.length&&A6j l.n l.ps))
  (((sy ⟨some id,keys h⟩ T G n l.as pl ⟨A4A l.t l.ps args,h,l.n⟩).only (fun S1 p=>match aget S1.h id with
   |some (.loop l1)=>cond (Nat.beq l1.st 0) (sy ⟨some id,keys h⟩ T G n l.bd p {S1 with h:=A1B S1.h id (.loop {l1 with st:=1})}) .bad
   |_=>.bad)).ok (fun e S _=>D0b id v h ws e S)) False
 |_=>False
theorem B2E {n id:Nat}{pl:Pn}{args:List AV}{h ws:List (Nat×HO)}{v:Bool}{p:Prop}(hcm:G.cm=A2x P)(hmx:P.follows .mixedOrders=true)(hT:TabOk P G T)
  (he:fnY T G n id pl args h v ws=p) (hp:p):SpecD P G (.yld id) args h (.bool v) ws []:=by
 have h0:fnY T G n id pl args h v ws:=by rw[he];exact hp
 unfold fnY at h0;split at h0
 ·rename_i l hl;rw[cond_eq_ite]at h0;split at h0
  ·rename_i hc;simp only[Bool.and_eq_true]at hc;refine B3M hcm hl hc.1 hc.2.1 hc.2.2 (D:={v:=.bool v,ws:=ws,al:=[],cs:=[]})
    (R:=fun e S3=>∃ps,B4T (sgS ⟨A1w 0 [.bool e.isN],S3.h,1⟩ (A99 [.bool v] h ws)) ⟨A1w 0 [.bool e.isN],S3.h,1⟩ (A99 [.bool v] h ws)=some ps/\A3E ps/\A43 (sgS ⟨A1w 0 [.bool e.isN],S3.h,1⟩ (A99 [.bool v] h ws)) ⟨A1w 0 [.bool e.isN],S3.h,1⟩ (A99 [.bool v] h ws) (keys h)=true)
    ((A5m hcm hmx hT n l.as pl _ _ (Tr.only_ok h0)).mono ?_) ?_
   ·rintro e S1 ⟨p1,rfl,h1⟩;refine⟨rfl,?_⟩;split at h1
    ·rename_i l1 hl1;rw[cond_eq_ite]at h1;split at h1
     ·rename_i hst;refine⟨l1,hl1,hst,(A5m hcm hmx hT n l.bd p1 _ _ h1).mono ?_⟩;rintro e S2 ⟨_,h2⟩;unfold D0b at h2;split at h2
      ·rename_i l2 hl2;refine⟨l2,hl2,?_⟩;split at h2
       ·rename_i ps hps;rw[cond_eq_ite]at h2;split at h2
        ·rename_i hk;exact⟨ps,hps,h2,hk⟩
        ·exact h2.elim
       ·exact h2.elim
      ·exact h2.elim
     ·exact h1.elim
    ·exact h1.elim
   ·rintro e S3 ⟨ps,hren,hps,hkeep⟩ F ρ w F' ρ' w2 hm q1 q3 q4;obtain⟨hn,ρ2,r1,r2,r3,r4⟩:=A3z (S:=⟨A1w 0 [.bool e.isN],S3.h,1⟩) hren hps q1;have hk2:=q4.trans (r4 _ hkeep);simp only[A99,A1C]at r1 r3 hk2;refine⟨F',ρ2,r1,q3.trans r2,hk2.all,?_⟩;have h1:=r3 #[.bool e.isN] (A3R (xs:=[.bool e.isN]) (.cons _ _ _ _ (.imm _ _ (.bool _)) .nil));have h2:=h1 0 (.bool v) (by simp[A1w,aget,A0t]);simpa using h2
  ·exact h0.elim
 ·exact h0.elim
end
def XC.rf:XC->Option (List Nat×XC×XC)
 |.rangeF _ ps as bd=>some (ps,as,bd)
 |.seq a b=>match a.rf with
  |some r=>some r
  |none=>b.rf
 |.cond _ a b=>match a.rf with
  |some r=>some r
  |none=>b.rf
 |.block _ a=>a.rf
 |.loop a=>a.rf
 |.scope a=>a.rf
 |_=>none
def B2F (fe:FnE)(t:List (Nat×AV)):LoopS:=match fe.xc.rf with
 |some (ps,as,bd)=>⟨0,none,t,fe.n,ps,as,bd⟩
 |none=>⟨0,none,t,fe.n,[],.bad,.bad⟩
open Go Go.Lib
def A27:List UInt8->UInt8->Int->Int
 |[],_,_=> -1
 |b::l,c,i=>cond (Nat.beq b.toNat c.toNat) i (A27 l c (i+1))
theorem B5o (c:UInt8):∀(l:List UInt8) (i:Int),A27 l c i=if indexByte l c== -1 then -1 else i+indexByte l c
 |[],i=>by simp[A27,indexByte]
 |b::l,i=>by
  rw[A27,B5o c l (i+1),indexByte];have hb:Nat.beq b.toNat c.toNat=(b==c):=by
   cases h:(b==c)with
   |true=>rw[beq_iff_eq]at h;subst h;simp
   |false=>
    have:b.toNat≠c.toNat:=fun e=>by
     rw[beq_eq_false_iff_ne]at h;exact h (UInt8.toNat_inj.1 e)
    exact Bool.eq_false_iff.2 fun e=>this (Nat.eq_of_beq_eq_true e)
  have hge:=indexByte_ge l c;rw[hb];cases(b==c)with
  |true=>simp
  |false=>
   simp only[cond_false,Bool.false_eq_true,if_false]
   by_cases h:indexByte l c= -1
   ·simp[h]
   ·have h1:¬ (indexByte l c+1= -1):=by omega
    simp[h,h1];omega
def B2G (i:Nat)(f:Nat)(args:List AV):Option AV:=
 cond (Nat.beq i f) (match args with
  |[.str s,.int .u8 b]=>some (.int .i64 (A27 s b.toNat.toUInt8 0))
  |_=>none) none
theorem B5p {P:Program}{i:Nat}{fn:Func}(hf:P.funcs[i]? =some fn)(hname:(fn.name=="runtime.NumGoroutine")=false)
  (hb:fn.body.isNone=true) (hn:Extern.findNext fn=none) (he:Extern.find fn=some Extern.BytealgIndexByte.indexByte):A6p P (B2G i):=by
 intro f args v h F ρ H w xs hx;unfold B2G at h;rw[cond_eq_ite]at h;split at h
 ·rename_i hif;have hif:=Nat.eq_of_beq_eq_true hif;subst hif;split at h
  ·rename_i s b;cases h;obtain⟨l⟩:=xs;cases hx with
   |cons _ _ x1 r1 h1 hr=>
    cases hr with
    |cons _ _ x2 r2 h2 hr2=>
     cases hr2;obtain⟨sb,rfl,hs⟩:=h1.strs;have:=h2.ints;subst this;refine⟨.int .i64 (indexByte s b.toNat.toUInt8),?_,?_⟩
     ·rw[run_callFunc_indexByte hf hname hb hn he];have:=run_indexByteString (P:=P) sb b w;rw[hs]at this;rw[this];rfl
     ·have hge:=indexByte_ge s b.toNat.toUInt8;have:A27 s b.toNat.toUInt8 0=indexByte s b.toNat.toUInt8:=by
       rw[B5o]
       by_cases h:indexByte s b.toNat.toUInt8= -1
       ·simp[h]
       ·simp[h]
      rw[this];exact .imm _ _ (.int _ _)
  ·cases h
 ·cases h
def B6v:List UInt8->UInt8->Int->Int
 |[],_,n=>n
 |b::l,c,n=>cond (Nat.beq b.toNat c.toNat) (B6v l c (n+1)) (B6v l c n)
theorem B1u (c:UInt8):∀(l:List UInt8) (n:Int),B6v l c n=n+(countByte l c:Nat)
 |[],n=>by simp[B6v,countByte]
 |b::l,n=>by
  have hb:Nat.beq b.toNat c.toNat=(b==c):=by
   cases h:(b==c)with
   |true=>rw[beq_iff_eq]at h;subst h;simp
   |false=>
    have:b.toNat≠c.toNat:=fun e=>by
     rw[beq_eq_false_iff_ne]at h;exact h (UInt8.toNat_inj.1 e)
    exact Bool.eq_false_iff.2 fun e=>this (Nat.eq_of_beq_eq_true e)
  unfold B6v countByte;rw[hb,List.count_cons,B1u c l,B1u c l];cases(b==c)with
  |true=>simp[countByte];omega
  |false=>simp[countByte]
def B2H (i:Nat)(f:Nat)(args:List AV):Option AV:=
 cond (Nat.beq i f) (match args with
  |[.str s,.int .u8 b]=>some (.int .i64 (B6v s b.toNat.toUInt8 0))
  |_=>none) none
theorem B5q {P:Program}{i:Nat}{fn:Func}(hf:P.funcs[i]? =some fn)(hname:(fn.name=="runtime.NumGoroutine")=false)
  (hb:fn.body.isNone=true) (hn:Extern.findNext fn=none) (he:Extern.find fn=some Extern.BytealgCount.count):A6p P (B2H i):=by
 intro f args v h F ρ H w xs hx;unfold B2H at h;rw[cond_eq_ite]at h;split at h
 ·rename_i hif;have hif:=Nat.eq_of_beq_eq_true hif;subst hif;split at h
  ·rename_i s b;cases h;obtain⟨l⟩:=xs;cases hx with
   |cons _ _ x1 r1 h1 hr=>
    cases hr with
    |cons _ _ x2 r2 h2 hr2=>
     cases hr2;obtain⟨sb,rfl,hs⟩:=h1.strs;have:=h2.ints;subst this;refine⟨.int .i64 (countByte s b.toNat.toUInt8:Nat),?_,?_⟩
     ·rw[run_callFunc_extern hf hname hb hn he];have:=run_countString (P:=P) sb b w;rw[hs]at this;rw[this];rfl
     ·rw[B1u,Int.zero_add];exact .imm _ _ (.int _ _)
  ·cases h
 ·cases h
def B9A (a b:Nat->List AV->Option AV)(f:Nat)(args:List AV):Option AV:=
 match a f args with
 |some v=>some v
 |none=>b f args
theorem B7k {P:Program}{a b:Nat->List AV->Option AV}(ha:A6p P a)(hb:A6p P b):A6p P (B9A a b):=by
 intro f args v h;unfold B9A at h;split at h
 ·rename_i u hu;cases h;exact ha f args _ hu
 ·exact hb f args v h
open Go
def evM (G:GL)(xp:Nat->Option FnE)(nat:Nat->List AV->Option AV)(me:TB)(fuel:Nat):Nat->TB
 |0,_,_,_,_=>none
 |n+1,c,h,cv,args=>match cv with
  |.fn f _ _=>match nat f args with
   |some v=>some {v:=v,ws:=[],al:=[],cs:=[]}
   |none=>match me c h cv args with
   |some D=>some D
   |none=>match xp f with
    |some fe=>cond (Nat.ble args.length fe.n) (match evC G (evM G xp nat me fuel n) none c fuel fe.xc ⟨A6g args h fe.n,c,[]⟩with
     |some (e,s)=>match e with
      |.exit _=>none
      |_=>match B3G s.S fe.rts with
       |some vals=>B9w (keys h) c s vals
       |none=>none
     |none=>none) none
    |none=>none
  |.yld id=>match aget h id with
   |some (.loop l)=>cond (Nat.beq l.st 0&&(Nat.beq args.length l.ps.length&&A6j l.n l.ps)) (match evC G (evM G xp nat me fuel n) (some id) c fuel l.as ⟨⟨A4A l.t l.ps args,h,l.n⟩,c,[]⟩with
    |some (e1,s1)=>match e1 with
     |.normal=>match aget s1.S.h id with
      |some (.loop l1)=>cond (Nat.beq l1.st 0) (match evC G (evM G xp nat me fuel n) (some id) c fuel l.bd ⟨{s1.S with h:=A1B s1.S.h id (.loop {l1 with st:=1})},s1.c,B32 c s1.wr [(id,.loop l1)]⟩with
       |some (e,s2)=>match aget s2.S.h id with
        |some (.loop l2)=>B9w (keys h) c ⟨{s2.S with h:=A1B s2.S.h id (.loop {l2 with st:=cond e.isN 0 2,pend:=cond e.isN none (some e)})},s2.c,s2.wr⟩ [.bool e.isN]
        |_=>none
       |none=>none) none
      |_=>none
     |_=>none
    |none=>none) none
   |_=>none
  |_=>none
section
variable {P:Program}{G:GL}{md:Md}{F:Nat->Prop}{ρ:Nat->Option Nat}{H:Nat->Option HO}{w:World}{a:Act}{tb:TB}
theorem B2I {Sp:SpT}:∀{a b:List Cd},A0M Sp a->A0M Sp b->A0M Sp (a++b)
 |[],_,_,h=>h
 |_::_,_,h,k=>⟨h.1,B2I h.2 k⟩
theorem B5r (hcm:G.cm=A2x P)(hmx:P.follows .mixedOrders=true){xp:Nat->Option FnE}(hxp:C5D P xp){nat:Nat->List AV->Option AV}(hnat:A6p P nat){me:TB}(hme:B2x P G me)(fuel:Nat):∀n,B2x P G (evM G xp nat me fuel n):=by
 intro n
 induction n with
 |zero=>intro c h cv args D hD;simp[evM]at hD
 |succ n ih=>
  intro c h cv args D hD;simp only[evM]at hD;split at hD
  ·rename_i f x1 x2;split at hD
   ·rename_i v hv;cases hD;refine⟨rfl,fun F ρ w xs hm hvs=>?_⟩;obtain⟨y,h1,h2⟩:=hnat f args v hv F ρ (aget h) w xs hvs;exact .inl ⟨_,y,w,h1,.inl rfl,F,ρ,hm,Ext.refl _ _ _,HKeep.refl _ _ _,h2⟩
   ·split at hD
    ·rename_i D0 hD0;cases hD;exact hme _ _ _ _ _ hD0
    split at hD
    ·rename_i fe hfe;obtain⟨fn,cd,g1,g2,g3,g4,g5,g6⟩:=hxp f fe hfe;rw[cond_eq_ite]at hD;split at hD
     ·rename_i hc;split at hD
      ·rename_i e s he;obtain⟨hw,hW⟩:=A6m hcm hmx ih _ _ _ _ _ he;have hW':=hW ⟨none,keys h⟩ rfl;simp only at hw hW';rw[<- g6]at hW' hc;have fin:(e=.ret\/e=.normal)->∀vals,B3G s.S fe.rts=some vals->B9w (keys h) c s vals=some D->D.cs=[]/\SpecD P G (.fn f x1 x2) args h D.v D.ws D.al:=by
        intro hex vals hvals hfin;have hcs:D.cs=[]:=B5a hfin;refine⟨hcs,fun F ρ w xs hm hv=>?_⟩;refine A6h hcm (md:=⟨none,keys h⟩) (h:=h) (R:=fun S'=>S'=s.S) rfl g1 g2 g3 g4 g5 hc (hW'.mono ?_) (fun S' e=>⟨vals,by rw[e];exact hvals⟩) hm hv ?_
        ·rintro e' S' ⟨rfl,rfl⟩;exact⟨hex,rfl⟩
        ·rintro S' vals' xs w2 F' ρ' rfl hv' q1 q2 q3 q4;rw[hvals]at hv';cases hv';exact(B48 (D:=D) hfin hw q1 q2 q3 q4).2
       split at hD
       ·cases hD
       ·rename_i hne;have hex:e=.ret\/e=.normal:=by
         cases e with
         |normal=>exact .inr rfl
         |ret=>exact .inl rfl
         |exit i=>exact absurd rfl (hne i)
        split at hD
        ·rename_i vals hvals;exact fin hex vals hvals hD
        ·cases hD
      ·cases hD
     ·cases hD
    ·cases hD
  ·rename_i id;split at hD
   ·rename_i l hl;rw[cond_eq_ite]at hD;split at hD
    ·rename_i hc;simp only[Bool.and_eq_true]at hc;split at hD
     ·rename_i e1 s1 he1;split at hD
      ·split at hD
       ·rename_i l1 hl1;rw[cond_eq_ite]at hD;split at hD
        ·rename_i hst1;split at hD
         ·rename_i e s2 he2;split at hD
          ·rename_i l2 hl2;obtain⟨hw1,hW1⟩:=A6m hcm hmx ih _ _ _ _ _ he1;obtain⟨hw2,hW2⟩:=A6m hcm hmx ih _ _ _ _ _ he2;have hcs:D.cs=[]:=B5a hD;refine⟨hcs,B49 hcm hl hc.1 hc.2.1 hc.2.2 (hW1 ⟨some id,keys h⟩ rfl) hl1 hst1 (hW2 ⟨some id,keys h⟩ rfl) hl2 ?_⟩;intro F ρ w F' ρ' w2 hm q1 q3 q4;refine(B48 (D:=D) hD ?_ q1 (xs:=[.bool e.isN]) (.cons _ _ _ _ (.imm _ _ (.bool _)) .nil) q3 q4).2;have hmid:A6Y c s1.wr (B32 c s1.wr [(id,.loop l1)]) (aget s1.S.h) (aget (A1B s1.S.h id (.loop {l1 with st:=1}))):=fun i hi hlt=>by
            obtain⟨k1,k2⟩:=A6k hi hlt;simp only[keys,List.mem_cons,List.not_mem_nil,or_false]at k2;exact⟨k1,by rw[A0o,A0a _ _ k2]⟩
           have hall:=(hw1.trans hmid).trans hw2;intro i hi hlt;obtain⟨k1,k2⟩:=hall i hi hlt;have hne:i≠id:=fun e=>by
            obtain⟨k3,_⟩:=hw2 i hi hlt;obtain⟨_,k5⟩:=A6k k3 hlt;exact k5 (by simp[keys,e])
           refine⟨k1,?_⟩;simp only;rw[A0o,A0a _ _ hne];exact k2
          ·cases hD
         ·cases hD
        ·cases hD
       ·cases hD
      ·cases hD
     ·cases hD
    ·cases hD
   ·cases hD
  ·cases hD
theorem A0A (hcm:G.cm=A2x P)(hmx:P.follows .mixedOrders=true){xp:Nat->Option FnE}(hxp:C5D P xp){nat:Nat->List AV->Option AV}(hnat:A6p P nat){me:TB}(hme:B2x P G me){fuel n c f:Nat}{args:List AV}{D:Delta}
  (h:evM G xp nat me fuel n c [] (.fn f [] []) args=some D) {blks:List Blk} (hb:D.ws=hsL blks 0):SpecP P G f args D.v blks:=by
 intro F w vs hm hv;obtain⟨_,hs⟩:=B5r hcm hmx hxp hnat hme fuel n c [] _ _ _ h;refine A4R.mono (hs F noR w vs (hm:MRel G F noR (aget []) w) hv.toVs) ?_;rintro y w' ⟨F',ρ',q1,q2,_,q4⟩;have e:A00 (aget ([]:List (Nat×HO))) D.ws=hsH blks:=by
  rw[hb]
  funext i
  have:A00 (aget ([]:List (Nat×HO))) (hsL blks 0) i=aget (hsL blks 0) i:=by
   by_cases hi:i∈keys (hsL blks 0)
   ·refine A6n (look:=aget (hsL blks 0)) ?_ hi;have key:∀(l:List Blk) (j:Nat) (p:Nat×HO),p∈hsL l j->aget (hsL l j) p.1=some p.2/\j<=p.1:=by
     intro l
     induction l with
     |nil=>intro j p hp;simp[hsL]at hp
     |cons b l ih=>
      intro j p hp;simp only[hsL]at hp ⊢;simp only[aget];rcases List.mem_cons.1 hp with rfl|hp
      ·exact⟨by rw[A0t,cond_true],Nat.le_refl _⟩
      ·obtain⟨k1,k2⟩:=ih (j+1) p hp;exact⟨by rw[A0O (by omega),cond_false];exact k1,by omega⟩
    exact fun p hp=>(key blks 0 p hp).1
   ·rw[A05 hi];cases e:aget (hsL blks 0) i with
    |none=>rfl
    |some o=>exact absurd (A08.2 ⟨o,e⟩) hi
  rw[this,B46]
 simp only at q1 q4;rw[e]at q1 q4;exact⟨F',ρ',q1,q2,q4⟩
def A6Z (ct:Nat->List AV->Option (AV×List Blk)):TB:=fun c h cv args=>
 match cv with
 |.fn f _ _=>match A6L (aget h) 60 args with
  |some (args',ids,cs)=>cond (B9u cs) (match ct f args' with
   |some (v,hs)=>cond (A24 h (B35 (64*c) 0 hs)) (some {v:=A2s (64*c) v,ws:=A1l (aget h) ids++A18 (64*c) 0 hs,al:=B35 (64*c) 0 hs,cs:=[]}) none
   |none=>none) none
  |none=>none
 |_=>none
theorem A5n {P:Program}{G:GL}{ct:Nat->List AV->Option (AV×List Blk)}(hct:∀f args v hs,ct f args=some (v,hs)->SpecP P G f args v hs):B2x P G (A6Z ct):=by
 intro c h cv args D hD;unfold A6Z at hD;split at hD
 ·rename_i f x1 x2;split at hD
  ·rename_i args' ids cs hz;rw[cond_eq_ite]at hD;split at hD
   ·rename_i hcs;split at hD
    ·rename_i v hs hv;rw[cond_eq_ite]at hD;split at hD
     ·rename_i hfr;cases hD;refine⟨rfl,fun F ρ w xs hm hvs=>?_⟩;exact A3M (site:=c) hm (fun _ _ h=>h) hz (B2I (A8N hcs) ⟨hct _ _ _ _ hv,trivial⟩) (A1s hfr) hvs
     ·cases hD
    ·cases hD
   ·cases hD
  ·cases hD
 ·cases hD
end
def C5E:List Int->List Int->Bool
 |[],[]=>true
 |a::r,b::s=>cond (a==b) (C5E r s) false
 |_,_=>false
def C5F:List Bool->List Bool->Bool
 |[],[]=>true
 |a::r,b::s=>cond (a==b) (C5F r s) false
 |_,_=>false
def C5G:List UInt8->List UInt8->Bool
 |[],[]=>true
 |a::r,b::s=>cond (Nat.beq a.toNat b.toNat) (C5G r s) false
 |_,_=>false
def eqO:Option Nat->Option Nat->Bool
 |none,none=>true
 |some a,some b=>Nat.beq a b
 |_,_=>false
mutual
def eqC:Cont->Cont->Bool
 |.ints k l,.ints k' l'=>A2R k k'&&C5E l l'
 |.bools l,.bools l'=>C5F l l'
 |.vals l,.vals l'=>eqL l l'
 |_,_=>false
def eqV:AV->AV->Bool
 |.bool a,.bool b=>a==b
 |.int k a,.int k' b=>A2R k k'&&a==b
 |.str a,.str b=>C5G a b
 |.nils,.nils=>true
 |.imm c l o,.imm c' l' o'=>eqC c c'&&(Nat.beq l l'&&eqO o o')
 |.agg l,.agg l'=>eqL l l'
 |_,_=>false
def eqL:List AV->List AV->Bool
 |[],[]=>true
 |a::r,b::s=>cond (eqV a b) (eqL r s) false
 |_,_=>false
end
theorem B5s:∀{a b:List Int},C5E a b=true->a=b
 |[],[],_=>rfl
 |a::r,b::s,h=>by
  simp only[C5E,cond_eq_ite]at h;split at h
  ·rename_i e;rw[eq_of_beq e,B5s h]
  ·cases h
 |[],_::_,h=>by cases h
 |_::_,[],h=>by cases h
theorem B5t:∀{a b:List Bool},C5F a b=true->a=b
 |[],[],_=>rfl
 |a::r,b::s,h=>by
  simp only[C5F,cond_eq_ite]at h;split at h
  ·rename_i e;rw[eq_of_beq e,B5t h]
  ·cases h
 |[],_::_,h=>by cases h
 |_::_,[],h=>by cases h
theorem B5u:∀{a b:List UInt8},C5G a b=true->a=b
 |[],[],_=>rfl
 |a::r,b::s,h=>by
  simp only[C5G,cond_eq_ite]at h;split at h
  ·rename_i e;rw[UInt8.toNat_inj.1 (Nat.eq_of_beq_eq_true e),B5u h]
  ·cases h
 |[],_::_,h=>by cases h
 |_::_,[],h=>by cases h
theorem C16:∀{a b:Option Nat},eqO a b=true->a=b
 |none,none,_=>rfl
 |some a,some b,h=>by rw[Nat.eq_of_beq_eq_true (n:=a) (m:=b) h]
 |none,some _,h=>by cases h
 |some _,none,h=>by cases h
mutual
theorem C17:∀(a b:Cont),eqC a b=true->a=b:=fun a b h=>by
 cases a<;>cases b<;>simp only[eqC,Bool.and_eq_true,reduceCtorEq]at h
 ·rw[A0u h.1,B5s h.2]
 ·rw[B5t h]
 ·rename_i l l';rw[B2J l l' h]
theorem C18:∀(a b:AV),eqV a b=true->a=b:=fun a b h=>by
 cases a<;>cases b<;>simp only[eqV,Bool.and_eq_true,reduceCtorEq]at h
 ·rw[eq_of_beq h]
 ·rw[A0u h.1,eq_of_beq h.2]
 ·rw[B5u h]
 ·rfl
 ·rw[C17 _ _ h.1,Nat.eq_of_beq_eq_true h.2.1,C16 h.2.2]
 ·rename_i l l';rw[B2J l l' h]
theorem B2J:∀(a b:List AV),eqL a b=true->a=b:=fun a b h=>by
 cases a with
 |nil=>cases b with
  |nil=>rfl
  |cons _ _=>cases h
 |cons v r=>cases b with
  |nil=>cases h
  |cons u s=>
   simp only[eqL,cond_eq_ite]at h;split at h
   ·rename_i e;rw[C18 v u e,B2J r s h]
   ·cases h
end
structure Mem where
 f:Nat
 args:List AV
 v:AV
 bs:List Blk
def B9B:List Mem->Nat->List AV->Option (AV×List Blk)
 |[],_,_=>none
 |m::r,f,args=>cond (Nat.beq m.f f&&eqL m.args args) (some (m.v,m.bs)) (B9B r f args)
def B7l (P:Program)(G:GL):List Mem->Prop
 |[]=>True
 |m::r=>SpecP P G m.f m.args m.v m.bs/\B7l P G r
theorem B1v {P:Program}{G:GL}:∀{l:List Mem},B7l P G l->∀f args v hs,B9B l f args=some (v,hs)->SpecP P G f args v hs
 |[],_,f,args,v,hs,h=>by cases h
 |m::r,hl,f,args,v,hs,h=>by
  simp only[B9B,cond_eq_ite]at h;split at h
  ·rename_i e;rw[Bool.and_eq_true]at e;cases h;have e1:=Nat.eq_of_beq_eq_true e.1;have e2:=B2J _ _ e.2;subst e1 e2;exact hl.1
  ·exact B1v hl.2 f args v hs h
open Go Go.RowKit Go.WideShapes Go.ChangeShapes
structure Kept (w w':World):Prop where
 io:w'.os=w.os/\w'.output=w.output
 size:w.heap.size<=w'.heap.size
 block:∀k,k<w.heap.size->w'.heap[k]? =w.heap[k]?
theorem Kept.frame {W W':World}(h:Kept W W')(may:MemPlace->Prop):W.keptBut W' may:=by
 refine⟨h.io.1,h.io.2,fun i hi=>?_⟩;rw[h.block i hi];split<;>simp_all
theorem Kept.same {W W':World}(h:Kept W W'){p:MemPlace}(hp:p.block<W.heap.size):W.sameAt W' p:=by
 cases p with
 |cell b o=>exact World.cell?_of_block (w:=W) (h.block b hp)
 |map b=>exact h.block b hp
theorem Kept.frozen {w w':World}(h:Kept w w'){p:Addr}(hp:p.block<w.heap.size):w'.frozen? p=w.frozen? p:=World.frozen?_of_block (w:=w) (h.block p.block hp)
section
variable {H:Type}{enc:TypeId×Value->H}{P:Program}
theorem Kept.trod {t:TypeId}(hl:laidOutB P=true)(hr:P.readableRec t=true)(hrow:t<P.types.size){W W':World}{sp:Nat->Bool}{v:Value}{d:DataW H}{ps:List MemPlace}
  (h:DataW.Trod enc P W 0 (fun _=>true) true t v d ps) (hb:Kept W W') (hlt:∀x∈ps,x.block<W.heap.size) (hsp:∀x∈ps,sp x.block=true):
  DataW.Trod enc P W' 0 sp true t v d ps:=
 WideElems.Trod_stays hl hr hrow h (fun x hx=>hb.same (hlt x hx)) hsp
theorem Kept.trodAll (hl:laidOutB P=true){W W':World}{sp:Nat->Bool}(hb:Kept W W'):∀{ts:List TypeId} {vs:List Value} {ds:List (DataW H)} {ps:List MemPlace},(ts.all fun t=>P.readableRec t&&decide (t<P.types.size))=true->
  DataW.TrodAll enc P W 0 (fun _=>true) true ts vs ds ps->(∀x∈ps,x.block<W.heap.size)->(∀x∈ps,sp x.block=true)->DataW.TrodAll enc P W' 0 sp true ts vs ds ps
 |[],vs,ds,ps,ht,h,h1,h2=>by
  obtain⟨rfl,rfl,rfl⟩:=trodAll_nil h;exact trodAll_mk0
 |t::ts,vs,ds,ps,ht,h,h1,h2=>by
  obtain⟨v,vs',d,ds',p,q,rfl,rfl,rfl,g1,g2⟩:=trodAll_cons h;simp only[List.all_cons,Bool.and_eq_true,decide_eq_true_eq]at ht;exact⟨p,q,Kept.trod hl ht.1.1 ht.1.2 g1 hb (fun x hx=>h1 x (List.mem_append_left _ hx)) (fun x hx=>h2 x (List.mem_append_left _ hx)),
   Kept.trodAll hl hb (by simpa using ht.2) g2 (fun x hx=>h1 x (List.mem_append_right _ hx)) (fun x hx=>h2 x (List.mem_append_right _ hx)),rfl⟩
theorem B0i {f:Func}{s:ChangeSpec}{apart fresh handsOn again:Bool}{W W':World}{args:Array Value}{v:Value}{ds gs:List (DataW H)}{before pa pv:List MemPlace}
  (hW:DataW.Whole enc P f.params.toList s.vars apart W args.toList ds gs before)
  (hres:∀(b:Nat) (sp:Nat->Bool) (hd:Bool),DataW.TrodAll enc P W' b sp hd f.resultTypes.toList (v.resultList f.resultTypes.size) (s.fn H (ds++gs)).results [])
  (hargs:∀sp:Nat->Bool,(∀p∈before,sp p.block=true)->DataW.TrodAll enc P W' 0 sp true f.params.toList args.toList (s.fn H (ds++gs)).args pa)
  (hvars:∀sp:Nat->Bool,(∀p∈before,sp p.block=true)->DataW.TrodVars enc P W' sp s.vars (s.fn H (ds++gs)).vars pv)
  (hps:before=pa++pv) (hb:Kept W W')
  (hok:∀(j:Nat) (t:TypeId) (r:Value),f.resultTypes[j]? =some t->(v.resultList f.resultTypes.size)[j]? =some r->Value.okWide P W' .any 0 t r):
  s.post enc P f apart fresh handsOn again W args v W':=by
 have hlt:∀p∈before,p.block<W.heap.size:=fun p hp=>hW.lt p hp;have hold:∀p∈before,(fun b=>decide (b<W.heap.size)) p.block=true:=fun p hp=>by simpa using hlt p hp
 refine⟨ds,gs,before,[],pa,pv,hW,hres _ _ _,hargs _ hold,hvars _ hold,World.keptBut_mono (fun p hp=>⟨hp,?_⟩) (hb.frame (·∈before)),fun _=>?_⟩
 ·rw[hps,List.mem_append]at hp;exact Or.inr hp
 ·obtain⟨_,_,_,_,_,hz,hn⟩:=hW;refine⟨hok,_,_,([]++pa)++pv,⟨[]++pa,pv,trodAll_append (hargs _ (fun _ _=>rfl)) (hres _ _ _),hvars _ (fun _ _=>rfl),rfl,?_,?_⟩,?_⟩
  ·intro b off hp;have hin:MemPlace.cell b off∈before:=by rw[hps];simpa using hp
   rw[hb.frozen (hlt _ hin)];exact hz b off hin
  ·intro ha;have:=hn ha;rw[hps]at this;simpa using this
  ·intro p hp _;rw[hps];simpa using hp
end
theorem A8S {P:Program}{G:GL}{f:Nat}{fn:Func}{c:Code}{args:List AV}{vs:Array Value}{W:World}(hs:SpecP P G f args (.bool true) [])
  (hf:P.funcs[f]? =some fn) (hname:(fn.name=="runtime.NumGoroutine")=false) (hb:fn.body=some c)
  (hg:GlobOk G (fun b=>b<W.heap.size) W) (hr:RelIs W (fun b=>b<W.heap.size) args vs.toList):Calls P f vs W fun e w'=>e=.returned (.bool true)/\Kept W w':=by
 have hm:MRel G (fun b=>b<W.heap.size) noR noH W:=⟨fun id o h=>(by cases h),fun id b h=>(by cases h),fun i j b h=>(by cases h),fun id b h=>(by cases h),fun b h=>h,hg⟩;have key:∀v w',(∃F' ρ',MRel G F' ρ' (hsH []) w'/\Ext G (fun b=>b<W.heap.size) noR W F' ρ' w'/\RelV w' F' ρ' (hsH []) (.bool true) v)->v=.bool true/\Kept W w':=by
  rintro v w' ⟨F',ρ',h1,h2,h3⟩;exact⟨h3.bools,⟨h2.io.1,h2.io.2.1⟩,h2.size,fun k hk=>h2.frz k hk⟩
 have h:=hs _ W vs hm hr;unfold A19 at h;rw[A1h hf hname hb]at h;rcases h with⟨nx,y,w',h1,h2,_⟩|⟨f',args',w1,h1,h2⟩|⟨l,fn',tmps,as,bd,w1,h1,_⟩
 ·cases h1;rcases h2 with h2|⟨h2,_⟩<;>cases h2
 ·cases h1;refine h2.mono ?_;rintro e w' ⟨v,rfl,hk⟩;obtain⟨h3,h4⟩:=key v w' hk;exact⟨by rw[h3],h4⟩
 ·cases h1
end Go.Ab
