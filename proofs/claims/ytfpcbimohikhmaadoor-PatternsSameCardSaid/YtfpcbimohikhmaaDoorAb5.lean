/- An abstract reading of the program: what its operations do to what is known of memory. Part 5 of 7. -/
import Derived.Test.YtfpcbimohikhmaaDoorAb4
import Derived.RangeFuncLeaves
import Derived.RangeFuncIn
import Derived.RangeFuncRecord

/-
 The outcomes of a tree are those of the code.
-/
set_option linter.unusedVariables false
set_option linter.unusedSimpArgs false
namespace Go.Ab
open Go

section
variable {P : Program} {G : GL} {md : Md} {hs : Hints} {dd : Dirs} {F : Nat → Prop} {ρ : Nat → Option Nat} {a : Act} {w : World}

theorem aget_adel {α : Type} (l : List (Nat × α)) (k : Nat) {t : Nat} {v : α} (h : aget (adel l k) t = some v) : aget l t = some v := by
 induction l with
 | nil => cases h
 | cons p r ih =>
  obtain ⟨j, u⟩ := p
  simp only [adel] at h
  simp only [aget]
  by_cases e : j = k
  ·subst e
   rw [beq_self, cond_true] at h
   have := ih h
   by_cases e' : j = t
   ·subst e'
    exfalso
    clear ih this
    induction r with
    | nil => cases h
    | cons q r ih =>
     obtain ⟨i, x⟩ := q
     simp only [adel] at h
     by_cases e2 : i = j
     ·subst e2; rw [beq_self, cond_true] at h; exact ih h
     ·rw [beq_ne e2, cond_false] at h
      simp only [aget] at h
      rw [beq_ne e2, cond_false] at h
      exact ih h
   ·rw [beq_ne e', cond_false]; exact this
  ·rw [beq_ne e, cond_false] at h
   simp only [aget] at h
   by_cases e' : j = t
   ·subst e'; rw [beq_self, cond_true] at h ⊢; exact h
   ·rw [beq_ne e', cond_false] at h ⊢; exact ih h

theorem aget_delL {α : Type} : ∀ (ks : List Nat) (l : List (Nat × α)) {t : Nat} {v : α}, aget (delL l ks) t = some v → aget l t = some v
 | [], l, t, v, h => h
 | k :: r, l, t, v, h => aget_adel l k (aget_delL r (adel l k) h)

theorem delS_rs {S : St} {dead : List Nat} (h : RS G F ρ S a w) : RS G F ρ (delS S dead) a w :=
 ⟨h.size, fun t v hv => h.tmps t v (aget_delL dead S.t hv), h.mem, h.defs⟩

theorem frzS_ok {S S' : St} {t : Nat} {cs : List Cd} (h : frzS S t = some (S', cs)) (hc : AllC (SpecQ P G) cs) (hr : RS G F ρ S a w) : ∃ F', RS G F' ρ S' a w ∧ Ext G F ρ w F' ρ w ∧ HKeep w ρ (aget S.h) w ρ (aget S'.h) := by
 unfold frzS at h
 split at h
 ·rename_i v hv
  split at h
  ·rename_i v' ids cs' hz
   rw [cond_eq_ite] at h
   split at h
   ·rename_i hlt
    cases h
    obtain ⟨F1, f1, f2, f3, f4, f5, f6⟩ := frzAll (look := aget S.h) ids F (aget S.h) hr.mem (fun id k hk => .inl hk)
    have hids := (frz_ids 60).1 _ _ _ _ hz
    have hs := (frz_sound (Sp := SpecQ P G) hr.mem (fun _ _ h => h) f2.keep 60).1 _ _ _ _ hz hc (fun id hid b hb => f4 id hid (hids id hid) b hb)
    have hx := hs _ (hr.tmps t v hv)
    refine ⟨F1, ⟨hr.size, fun u y hu => ?_, ?_, hr.defs.ext f2 rfl⟩, f2, by simp only [aget_asets]; exact f3⟩
    ·simp only [aget_asets]
     rw [aget_aset] at hu
     by_cases e : u = t
     ·subst e; rw [upd_same] at hu; cases hu; exact .imm _ _ hx
     ·rw [upd_other _ _ e] at hu
      exact (hr.tmps u y hu).mono (fun _ _ => rfl) f2.keep f3
    ·simp only [aget_asets]; exact f1
   ·cases h
  ·cases h
 ·cases h

theorem ghoS_ok {S S' : St} {t id sz : Nat} {c : Cont} (h : ghoS S t id sz c = some S') (hr : RS G F ρ S a w) : RS G F ρ S' a w ∧ HKeep w ρ (aget S.h) w ρ (aget S'.h) := by
 unfold ghoS at h
 split at h
 ·rename_i hv
  rw [cond_eq_ite] at h
  split at h
  ·rename_i hc
   rw [Bool.and_eq_true] at hc
   cases h
   have hf := freshA_ok hc.1 id (by simp)
   have hz := Nat.eq_of_beq_eq_true hc.2
   obtain ⟨m1, m2, m3⟩ := hr.mem.ghost (site := id) (k := { c, sz, n := 0, cap := some 0, nil := some true, mu := true, bx := false }) hf rfl hz
   refine ⟨⟨hr.size, fun u y hu => ?_, ?_, hr.defs⟩, by simp only [aget_aset]; exact m3⟩
   ·simp only [aget_aset] at hu ⊢
    by_cases e : u = t
    ·subst e
     rw [upd_same] at hu; cases hu
     have hx := hr.tmps u _ hv
     cases hx with
     | imm _ _ hi =>
      generalize he : a.tmps.getD u undef = z at hi
      cases hi
      exact .full id 0 _ _ (upd_same _ _ _) (Nat.le_refl _) ⟨_, _, _, rfl⟩ (fun _ => .inl ⟨rfl, (fun e => by cases e), (fun n e => by cases e; rfl), rfl⟩)
    ·rw [upd_other _ _ e] at hu
     exact (hr.tmps u y hu).mono (fun _ _ => rfl) (fun _ h => h) m3
   ·simp only [aget_aset]; exact m1
  ·cases h
 ·cases h

theorem compXO_defer {ops : Array Oper} {o : Oper} {x : XO} (h : compXO P ops o = some x) : ∀ c, o.op ≠ .defer c := by
 intro c hc
 unfold compXO at h
 split at h
 ·rename_i op g h1 h2
  rw [hc] at h1
  cases h1
 ·cases h

theorem compXOs_defer {ops : Array Oper} {xs : List XO} (h : compXOs P ops ops.toList = some xs) : ∀ (i : Nat) (o : Oper), ops[i]? = some o → ∀ c, o.op ≠ .defer c := by
 intro i o ho
 have hlen := compXOs_len h
 have hlt : i < xs.length := by rw [hlen]; simpa using (Array.getElem?_eq_some_iff.1 ho).1
 obtain ⟨o', h1, h2⟩ := compXOs_get h (i := i) (x := xs[i]) (by rw [nth?_eq]; exact List.getElem?_eq_getElem hlt)
 have : o' = o := by
  have h1 : ops[i]? = some o' := by simpa using h1
  rw [ho] at h1; cases h1; rfl
 subst this
 exact compXO_defer h2

theorem wpR_region {ro : Option Nat} {id : Nat} {ops : Array Oper} {R : Act → World → Prop} (hdef : ∀ (i : Nat) (o : Oper), ops[i]? = some o → ∀ c, o.op ≠ .defer c)
  (h : wpOpsR P ops R (List.range ops.size) a w) : wpR P ro (.region id ops false) (fun e a w => e = .normal ∧ R a w) a w := by
 intro b k cs hb
 obtain ⟨a', w', h1, h2⟩ := wpOps_steps hdef _ a w h b k cs
 exact ⟨.normal, a', w', ⟨rfl, h1⟩, .head stepR_region h2⟩

theorem wpR_draw {ro : Option Nat} {id : Nat} {ops : Array Oper} {R : Act → World → Prop} (hm : P.follows .mixedOrders = true) (hdef : ∀ (i : Nat) (o : Oper), ops[i]? = some o → ∀ c, o.op ≠ .defer c)
  (h : wpAnyR P ops R ops.size (Array.replicate ops.size false) a { w with drawn := w.drawn + 1 }) : wpR P ro (.region id ops true) (fun e a w => e = .normal ∧ R a w) a w := by
 intro b k cs hb
 have hops : wpOpsR P ops R (Region.schedule (P.follows .mixedOrders) ops (w.tape w.drawn (.order b.fn id))) a { w with drawn := w.drawn + 1 } := by
  simp only [Region.schedule, hm, Bool.true_or, if_true]
  exact wpAnyR_sound ops.size _ _ a _ h
 obtain ⟨a', w', h1, h2⟩ := wpOps_steps hdef _ a _ hops b k cs
 exact ⟨.normal, a', w', ⟨rfl, h1⟩, .head stepR_region_draw h2⟩

theorem compC_region {xc : XC} {id : Nat} {ops : Array Oper} {drw : Bool} (h : compC P hs (.region id ops drw) = some xc) : ∃ xs, compXOs P ops ops.toList = some xs ∧
  ((drw = false ∧ xc = .reg (64 * (id + 1)) xs ((aget hs id).getD ([], [])).2) ∨ (drw = true ∧ xc = .draw (64 * (id + 1)) xs (ops.toList.map depOf) ((aget hs id).getD ([], [])).1 ((aget hs id).getD ([], [])).2)) := by
 simp only [compC] at h
 split at h
 ·rename_i xs hx
  cases drw
  ·cases h; exact ⟨xs, hx, .inl ⟨rfl, rfl⟩⟩
  ·cases h; exact ⟨xs, hx, .inr ⟨rfl, rfl⟩⟩
 ·cases h

theorem compC_reg {c : Code} {s : Nat} {xs : List XO} {dead : List Nat} (h : compC P hs c = some (.reg s xs dead)) : ∃ id ops, c = .region id ops false ∧ compXOs P ops ops.toList = some xs := by
 cases c with
 | region id ops drw =>
  obtain ⟨xs', h1, ⟨rfl, h2⟩ | ⟨rfl, h2⟩⟩ := compC_region h
  ·cases h2; exact ⟨id, ops, rfl, h1⟩
  ·cases h2
 | _ =>
  simp only [compC] at h
  first
   | (cases h; done)
   | (split at h <;> cases h)
theorem compC_draw {c : Code} {s : Nat} {xs : List XO} {dep : List (List Nat)} {ord dead : List Nat} (h : compC P hs c = some (.draw s xs dep ord dead)) : ∃ id ops, c = .region id ops true ∧ compXOs P ops ops.toList = some xs ∧ ops.toList.map depOf = dep := by
 cases c with
 | region id ops drw =>
  obtain ⟨xs', h1, ⟨rfl, h2⟩ | ⟨rfl, h2⟩⟩ := compC_region h
  ·cases h2
  ·cases h2; exact ⟨id, ops, rfl, h1, rfl⟩
 | _ =>
  simp only [compC] at h
  first
   | (cases h; done)
   | (split at h <;> cases h)
theorem compC_skip {c : Code} (h : compC P hs c = some .skip) : c = .skip ∨ ∃ l, c = .label l := by
 cases c with
 | skip => exact .inl rfl
 | label l => exact .inr ⟨l, rfl⟩
 | region id ops drw => obtain ⟨xs', h1, ⟨rfl, h2⟩ | ⟨rfl, h2⟩⟩ := compC_region h <;> cases h2
 | _ =>
  simp only [compC] at h
  first
   | (cases h; done)
   | (split at h <;> cases h)
theorem compC_ret {c : Code} (h : compC P hs c = some .ret) : c = .ret := by
 cases c with
 | ret => rfl
 | region id ops drw => obtain ⟨xs', h1, ⟨rfl, h2⟩ | ⟨rfl, h2⟩⟩ := compC_region h <;> cases h2
 | _ =>
  simp only [compC] at h
  first
   | (cases h; done)
   | (split at h <;> cases h)
theorem compC_exit {c : Code} {id : Nat} (h : compC P hs c = some (.exit id)) : c = .exit id := by
 cases c with
 | exit i => cases h; rfl
 | region id ops drw => obtain ⟨xs', h1, ⟨rfl, h2⟩ | ⟨rfl, h2⟩⟩ := compC_region h <;> cases h2
 | _ =>
  simp only [compC] at h
  first
   | (cases h; done)
   | (split at h <;> cases h)
theorem compC_seq {c : Code} {x y : XC} (h : compC P hs c = some (.seq x y)) : ∃ a b, c = .seq a b ∧ compC P hs a = some x ∧ compC P hs b = some y := by
 cases c with
 | seq a b =>
  simp only [compC] at h
  split at h
  ·rename_i h1 h2; cases h; exact ⟨a, b, rfl, h1, h2⟩
  ·cases h
 | region id ops drw => obtain ⟨xs', h1, ⟨rfl, h2⟩ | ⟨rfl, h2⟩⟩ := compC_region h <;> cases h2
 | _ =>
  simp only [compC] at h
  first
   | (cases h; done)
   | (split at h <;> cases h)
theorem compC_cond {c : Code} {o : Opd} {x y : XC} (h : compC P hs c = some (.cond o x y)) : ∃ X a b, c = .cond X a b ∧ compX X = some o ∧ compC P hs a = some x ∧ compC P hs b = some y := by
 cases c with
 | cond X a b =>
  simp only [compC] at h
  split at h
  ·rename_i h1 h2 h3; cases h; exact ⟨X, a, b, rfl, h1, h2, h3⟩
  ·cases h
 | region id ops drw => obtain ⟨xs', h1, ⟨rfl, h2⟩ | ⟨rfl, h2⟩⟩ := compC_region h <;> cases h2
 | _ =>
  simp only [compC] at h
  first
   | (cases h; done)
   | (split at h <;> cases h)
theorem compC_block {c : Code} {id : Nat} {x : XC} (h : compC P hs c = some (.block id x)) : ∃ a, c = .block id a ∧ compC P hs a = some x := by
 cases c with
 | block i a =>
  simp only [compC] at h
  split at h
  ·rename_i h1; cases h; exact ⟨a, rfl, h1⟩
  ·cases h
 | region id ops drw => obtain ⟨xs', h1, ⟨rfl, h2⟩ | ⟨rfl, h2⟩⟩ := compC_region h <;> cases h2
 | _ =>
  simp only [compC] at h
  first
   | (cases h; done)
   | (split at h <;> cases h)
theorem compC_loop {c : Code} {x : XC} (h : compC P hs c = some (.loop x)) : ∃ a, c = .loop a ∧ compC P hs a = some x := by
 cases c with
 | loop a =>
  simp only [compC] at h
  split at h
  ·rename_i h1; cases h; exact ⟨a, rfl, h1⟩
  ·cases h
 | region id ops drw => obtain ⟨xs', h1, ⟨rfl, h2⟩ | ⟨rfl, h2⟩⟩ := compC_region h <;> cases h2
 | _ =>
  simp only [compC] at h
  first
   | (cases h; done)
   | (split at h <;> cases h)

theorem cm_reg (hcm : G.cm = cmOf P) {c : Code} {s : Nat} {xs : List XO} {dead : List Nat} (h : G.cm c (.reg s xs dead)) : ∃ id ops, c = .region id ops false ∧ compXOs P ops ops.toList = some xs := by
 rw [hcm] at h; obtain ⟨hs, h⟩ := h; exact compC_reg h
theorem cm_draw (hcm : G.cm = cmOf P) {c : Code} {s : Nat} {xs : List XO} {dep : List (List Nat)} {ord dead : List Nat} (h : G.cm c (.draw s xs dep ord dead)) : ∃ id ops, c = .region id ops true ∧ compXOs P ops ops.toList = some xs ∧ ops.toList.map depOf = dep := by
 rw [hcm] at h; obtain ⟨hs, h⟩ := h; exact compC_draw h
theorem cm_skip (hcm : G.cm = cmOf P) {c : Code} (h : G.cm c .skip) : c = .skip ∨ ∃ l, c = .label l := by rw [hcm] at h; obtain ⟨hs, h⟩ := h; exact compC_skip h
theorem cm_ret (hcm : G.cm = cmOf P) {c : Code} (h : G.cm c .ret) : c = .ret := by rw [hcm] at h; obtain ⟨hs, h⟩ := h; exact compC_ret h
theorem cm_exit (hcm : G.cm = cmOf P) {c : Code} {id : Nat} (h : G.cm c (.exit id)) : c = .exit id := by rw [hcm] at h; obtain ⟨hs, h⟩ := h; exact compC_exit h
theorem cm_seq (hcm : G.cm = cmOf P) {c : Code} {x y : XC} (h : G.cm c (.seq x y)) : ∃ a b, c = .seq a b ∧ G.cm a x ∧ G.cm b y := by
 rw [hcm] at h ⊢; obtain ⟨hs, h⟩ := h; obtain ⟨a, b, h1, h2, h3⟩ := compC_seq h; exact ⟨a, b, h1, ⟨hs, h2⟩, ⟨hs, h3⟩⟩
theorem cm_cond (hcm : G.cm = cmOf P) {c : Code} {o : Opd} {x y : XC} (h : G.cm c (.cond o x y)) : ∃ X a b, c = .cond X a b ∧ compX X = some o ∧ G.cm a x ∧ G.cm b y := by
 rw [hcm] at h ⊢; obtain ⟨hs, h⟩ := h; obtain ⟨X, a, b, h1, h2, h3, h4⟩ := compC_cond h; exact ⟨X, a, b, h1, h2, ⟨hs, h3⟩, ⟨hs, h4⟩⟩
theorem cm_block (hcm : G.cm = cmOf P) {c : Code} {id : Nat} {x : XC} (h : G.cm c (.block id x)) : ∃ a, c = .block id a ∧ G.cm a x := by
 rw [hcm] at h ⊢; obtain ⟨hs, h⟩ := h; obtain ⟨a, h1, h2⟩ := compC_block h; exact ⟨a, h1, hs, h2⟩
theorem cm_loop (hcm : G.cm = cmOf P) {c : Code} {x : XC} (h : G.cm c (.loop x)) : ∃ a, c = .loop a ∧ G.cm a x := by
 rw [hcm] at h ⊢; obtain ⟨hs, h⟩ := h; obtain ⟨a, h1, h2⟩ := compC_loop h; exact ⟨a, h1, hs, h2⟩
theorem cm_rangeF (hcm : G.cm = cmOf P) {c : Code} {o : Opd} {ps : List Nat} {x y : XC} (h : G.cm c (.rangeF o ps x y)) : ∃ X qs a b, c = .rangeFunc X qs a b ∧ qs.toList = ps ∧ compX X = some o ∧ G.cm a x ∧ G.cm b y := by
 rw [hcm] at h ⊢
 obtain ⟨hs, h⟩ := h
 cases c with
 | rangeFunc g qs a b =>
  simp only [compC] at h
  split at h
  ·rename_i h1 h2 h3; cases h; exact ⟨g, qs, a, b, rfl, rfl, h1, ⟨hs, h2⟩, ⟨hs, h3⟩⟩
  ·cases h
 | region id ops drw =>
  obtain ⟨xs', h1, ⟨rfl, h2⟩ | ⟨rfl, h2⟩⟩ := compC_region h <;> cases h2
 | _ =>
  simp only [compC] at h
  first
   | (cases h; done)
   | (split at h <;> cases h)

theorem cm_scope (hcm : G.cm = cmOf P) {c : Code} {x : XC} (h : G.cm c (.scope x)) : ∃ a, c = .scope a ∧ G.cm a x := by
 rw [hcm] at h ⊢
 obtain ⟨hs, h⟩ := h
 cases c with
 | scope a =>
  simp only [compC] at h
  split at h
  ·rename_i h1; cases h; exact ⟨a, rfl, hs, h1⟩
  ·cases h
 | region id ops drw =>
  obtain ⟨xs', h1, ⟨rfl, h2⟩ | ⟨rfl, h2⟩⟩ := compC_region h <;> cases h2
 | _ =>
  simp only [compC] at h
  first
   | (cases h; done)
   | (split at h <;> cases h)

theorem DX.refl (ds : List Deferred) (w : World) : DX ds w ds := ⟨[], rfl, fun r h => by simp at h⟩
theorem DX.of_eq {ds ds' : List Deferred} {w : World} (h : ds' = ds) : DX ds w ds' := by subst h; exact DX.refl _ _
theorem DX.trans {ds ds' ds'' : List Deferred} {w w' : World} (h : DX ds w ds') (hs : w.heap.size ≤ w'.heap.size) (k : DX ds' w' ds'') : DX ds w ds'' := by
 obtain ⟨n1, rfl, h2⟩ := h
 obtain ⟨n2, rfl, k2⟩ := k
 refine ⟨n2 ++ n1, by simp, fun r hr => ?_⟩
 rcases List.mem_append.1 hr with hr | hr
 ·exact Nat.le_trans hs (k2 r hr)
 ·exact h2 r hr

theorem RoOk.next {ρ' : Nat → Option Nat} {H H' : Nat → Option HO} {w' : World} {ro : Option Nat} (h : RoOk md ρ H ro) (hk : HKp md.ks w ρ H w' ρ' H') : RoOk md ρ' H' ro := by
 unfold RoOk at h ⊢
 cases e : md.rid with
 | none => rw [e] at h; exact h
 | some id =>
  rw [e] at h
  obtain ⟨b, o, h1, h2, h3, h4⟩ := h
  obtain ⟨o', g1, g2, g3⟩ := hk.box id o (by simp [Md.ks, e]) h3 h4
  exact ⟨b, o', h1, g3.trans h2, g1, g2⟩

theorem Aft.on {F' : Nat → Prop} {ρ' : Nat → Option Nat} {S S' S'' : St} {a' a'' : Act} {w' w'' : World} {ds : List Deferred} (h2 : Ext G F ρ w F' ρ' w') (h3 : HKp md.ks w ρ (aget S.h) w' ρ' (aget S'.h)) (h4 : DX ds w a'.defers)
  (k : Aft G md F' ρ' (aget S'.h) w' a'.defers S'' a'' w'') : Aft G md F ρ (aget S.h) w ds S'' a'' w'' := by
 obtain ⟨F'', ρ'', q1, q2, q3, q4⟩ := k
 exact ⟨F'', ρ'', q1, h2.trans q2, h3.trans q3, h4.trans h2.size q4⟩
theorem Aft.here {S : St} (hr : RS G F ρ S a w) : Aft G md F ρ (aget S.h) w a.defers S a w := ⟨F, ρ, hr, Ext.refl _ _ _, HKp.refl _ _ _ _, DX.refl _ _⟩

theorem WpX.mono {xc : XC} {S : St} {Q Q' : Ex → St → Prop} (h : WpX P G md xc S Q) (hq : ∀ e S, Q e S → Q' e S) : WpX P G md xc S Q' :=
 fun c hc F ρ a w ro hr hro => (h c hc F ρ a w ro hr hro).mono fun e a' w' ⟨S', h1, h2⟩ => ⟨S', hq _ _ h1, h2⟩

theorem cond_rel {S : St} {X : Operand} {o : Opd} {v : Bool} (hX : compX X = some o) (hv : o.ev G S.t = .bool v) (hr : RS G F ρ S a w) : a.eval X = .bool v := by
 have := evOk_of (rt := S.t) (a := a) hr.mem hr.tmps X o hX
 rw [hv] at this
 exact this.bools

theorem WpX.pre {xc : XC} {S S' : St} {Q : Ex → St → Prop} (hw : ∀ F ρ a w, RS G F ρ S a w → ∃ F' ρ', RS G F' ρ' S' a w ∧ Ext G F ρ w F' ρ' w ∧ HKp md.ks w ρ (aget S.h) w ρ' (aget S'.h)) (h : WpX P G md xc S' Q) : WpX P G md xc S Q := by
 intro c hc F ρ a w ro hr hro
 obtain ⟨F', ρ', h1, h2, h3⟩ := hw F ρ a w hr
 exact (h c hc F' ρ' a w ro h1 (hro.next h3)).mono fun e a' w' ⟨S'', q1, q2⟩ => ⟨S'', q1, q2.on h2 h3 (DX.refl _ _)⟩

theorem wpX_reg (hcm : G.cm = cmOf P) {s s' : Nat} {xs : List XO} {dead : List Nat} {ds : Dirs} {S S' : St} {cs : List Cd} (he : exOps G ds xs s S = some (S', cs)) (hc : AllC (SpecQ P G) cs) {Q : Ex → St → Prop} (hQ : Q .normal (delS S' dead)) : WpX P G md (.reg s' xs dead) S Q := by
 intro c hcc F ρ a w ro hr hro
 obtain ⟨id, ops, rfl, hx⟩ := cm_reg hcm hcc
 refine (wpR_region (R := fun a' w' => Aft G md F ρ (aget S.h) w a.defers (delS S' dead) a' w') (compXOs_defer hx) (reg_sound hx he hc hr fun a' w' F' ρ' q1 q2 q3 q4 => ⟨F', ρ', delS_rs q1, q2, q3.kp, DX.of_eq q4⟩)).mono ?_
 rintro e a' w' ⟨rfl, h⟩
 exact ⟨_, hQ, h⟩
theorem wpX_draw (hcm : G.cm = cmOf P) (hm : P.follows .mixedOrders = true) {s s' : Nat} {xs : List XO} {dep : List (List Nat)} {ord dead : List Nat} {ds : Dirs} {S S' : St} {es : List (Nat × Ent)} {cs : List Cd} (he : exEnts G ds xs s ord S = some (S', es, cs))
  (hB : drawB dep ord xs.length es = true) (hc : AllC (SpecQ P G) cs) {Q : Ex → St → Prop} (hQ : Q .normal (delS S' dead)) : WpX P G md (.draw s' xs dep ord dead) S Q := by
 intro c hcc F ρ a w ro hr hro
 obtain ⟨id, ops, rfl, hx, hd⟩ := cm_draw hcm hcc
 refine (wpR_draw (R := fun a' w' => Aft G md F ρ (aget S.h) w a.defers (delS S' dead) a' w') hm (compXOs_defer hx) (draw_sound hx hd he hB hc hr fun a' w' F' ρ' q1 q2 q3 q4 => ⟨F', ρ', delS_rs q1, q2, q3.kp, DX.of_eq q4⟩)).mono ?_
 rintro e a' w' ⟨rfl, h⟩
 exact ⟨_, hQ, h⟩
theorem wpX_seq (hcm : G.cm = cmOf P) {x y : XC} {S : St} {Q : Ex → St → Prop} (h : WpX P G md x S (fun e S' => (e = .normal ∧ WpX P G md y S' Q) ∨ (e ≠ .normal ∧ Q e S'))) : WpX P G md (.seq x y) S Q := by
 intro c hc F ρ a w ro hr hro
 obtain ⟨ca, cb, rfl, hca, hcb⟩ := cm_seq hcm hc
 refine wpR_seq ((h ca hca F ρ a w ro hr hro).mono ?_)
 rintro e a' w' ⟨S', hq, F', ρ', q1, q2, q3, q4⟩
 rcases hq with ⟨rfl, hy⟩ | ⟨hn, hQ⟩
 ·exact .inl ⟨rfl, (hy cb hcb F' ρ' a' w' ro q1 (hro.next q3)).mono fun e a'' w'' ⟨S'', r1, r2⟩ => ⟨S'', r1, r2.on q2 q3 q4⟩⟩
 ·exact .inr ⟨hn, S', hQ, F', ρ', q1, q2, q3, q4⟩
theorem wpX_cond (hcm : G.cm = cmOf P) {o : Opd} {x y : XC} {S : St} {v : Bool} {Q : Ex → St → Prop} (hv : o.ev G S.t = .bool v) (h1 : v = true → WpX P G md x S Q) (h2 : v = false → WpX P G md y S Q) : WpX P G md (.cond o x y) S Q := by
 intro c hc F ρ a w ro hr hro
 obtain ⟨X, ca, cb, rfl, hX, hca, hcb⟩ := cm_cond hcm hc
 refine wpR_cond (cond_rel hX hv hr) ?_
 cases v with
 | true => rw [if_pos rfl]; exact h1 rfl ca hca F ρ a w ro hr hro
 | false => rw [if_neg (by simp)]; exact h2 rfl cb hcb F ρ a w ro hr hro
theorem wpX_block (hcm : G.cm = cmOf P) {id : Nat} {x : XC} {S : St} {Q : Ex → St → Prop} (h : WpX P G md x S (fun e S' => (e = .exit id ∧ Q .normal S') ∨ (e ≠ .exit id ∧ Q e S'))) : WpX P G md (.block id x) S Q := by
 intro c hc F ρ a w ro hr hro
 obtain ⟨ca, rfl, hca⟩ := cm_block hcm hc
 refine wpR_block ((h ca hca F ρ a w ro hr hro).mono ?_)
 rintro e a' w' ⟨S', ⟨rfl, hQ⟩ | ⟨hn, hQ⟩, q⟩
 ·exact .inl ⟨rfl, S', hQ, q⟩
 ·exact .inr ⟨hn, S', hQ, q⟩
theorem wpX_scope (hcm : G.cm = cmOf P) {x : XC} {S : St} {Q : Ex → St → Prop} (h : WpX P G md x S Q) : WpX P G md (.scope x) S Q := by
 intro c hc F ρ a w ro hr hro
 obtain ⟨ca, rfl, hca⟩ := cm_scope hcm hc
 exact wpR_scope (h ca hca F ρ a w ro hr hro)
theorem wpX_loop1 (hcm : G.cm = cmOf P) {x : XC} {S : St} {Q : Ex → St → Prop} (h : WpX P G md x S (fun e S' => (e = .normal ∧ WpX P G md (.loop x) S' Q) ∨ (e ≠ .normal ∧ Q e S'))) : WpX P G md (.loop x) S Q := by
 intro c hc F ρ a w ro hr hro
 obtain ⟨ca, rfl, hca⟩ := cm_loop hcm hc
 refine wpR_loop1 ((h ca hca F ρ a w ro hr hro).mono ?_)
 rintro e a' w' ⟨S', hq, F', ρ', q1, q2, q3, q4⟩
 rcases hq with ⟨rfl, hy⟩ | ⟨hn, hQ⟩
 ·exact .inl ⟨rfl, (hy _ hc F' ρ' a' w' ro q1 (hro.next q3)).mono fun e a'' w'' ⟨S'', r1, r2⟩ => ⟨S'', r1, r2.on q2 q3 q4⟩⟩
 ·exact .inr ⟨hn, S', hQ, F', ρ', q1, q2, q3, q4⟩
theorem wpX_skip (hcm : G.cm = cmOf P) {S : St} {Q : Ex → St → Prop} (h : Q .normal S) : WpX P G md .skip S Q := by
 intro c hc F ρ a w ro hr hro
 rcases cm_skip hcm hc with rfl | ⟨l, rfl⟩
 ·exact wpR_skip ⟨S, h, .here hr⟩
 ·exact wpR_label ⟨S, h, .here hr⟩
theorem wpX_exit (hcm : G.cm = cmOf P) {id : Nat} {S : St} {Q : Ex → St → Prop} (h : Q (.exit id) S) : WpX P G md (.exit id) S Q := by
 intro c hc F ρ a w ro hr hro; rw [cm_exit hcm hc]; exact wpR_exit ⟨S, h, .here hr⟩
theorem wpX_ret (hcm : G.cm = cmOf P) {S : St} {Q : Ex → St → Prop} (h : Q .ret S) : WpX P G md .ret S Q := by
 intro c hc F ρ a w ro hr hro; rw [cm_ret hcm hc]; exact wpR_ret ⟨S, h, .here hr⟩

theorem sxC_sound (hcm : G.cm = cmOf P) (hm : P.follows .mixedOrders = true) {rec : XC → Pl → St → Option Tree} (hrec : ∀ xc pl S T Q, rec xc pl S = some T → T.all P G md Q → WpX P G md xc S (fun e S' => ∃ p, Q e S' p))
  {xc : XC} {pl : Pl} {S : St} {T : Tree} {Q : Ex → St → Pl → Prop} (h : sxC (AllC (SpecQ P G)) G dd rec xc pl S = some T) (ha : T.all P G md Q) : WpX P G md xc S (fun e S' => ∃ p, Q e S' p) := by
 have hq0 : AllC (SpecQ P G) [] = True := rfl
 cases xc with
 | skip => cases h; exact wpX_skip hcm ⟨pl, ha⟩
 | exit id => cases h; exact wpX_exit hcm ⟨pl, ha⟩
 | ret => cases h; exact wpX_ret hcm ⟨pl, ha⟩
 | reg s xs dead =>
  simp only [sxC, sxReg] at h
  split at h
  ·rename_i S' cs he
   cases h
   obtain ⟨h1, h2⟩ := obC_all hq0 ha
   exact wpX_reg hcm he h1 ⟨_, h2⟩
  ·cases h
 | draw s xs dep ord dead =>
  simp only [sxC, sxDraw] at h
  split at h
  ·rename_i S' es cs he
   rw [cond_eq_ite] at h
   split at h
   ·rename_i hB
    cases h
    obtain ⟨h1, h2⟩ := obC_all hq0 ha
    exact wpX_draw hcm hm he hB h1 ⟨_, h2⟩
   ·cases h
  ·cases h
 | seq x y =>
  simp only [sxC] at h
  split at h
  ·rename_i T' hT
   refine wpX_seq hcm ((hrec x pl S T' _ hT (bindN_all h ha)).mono ?_)
   rintro e S' ⟨p, ⟨rfl, U, hU, hUa⟩ | ⟨hn, hQ⟩⟩
   ·exact .inl ⟨rfl, hrec y p S' U Q hU hUa⟩
   ·exact .inr ⟨hn, p, hQ⟩
  ·cases h
 | cond o x y =>
  simp only [sxC] at h
  split at h
  ·rename_i v hv
   unfold sxCond at h
   split at h
   ·split at h
    ·rename_i T' hT'
     cases h
     have hvt : v = true := ha.1
     exact wpX_cond hcm hv (fun _ => hrec _ _ _ _ Q hT' ha.2) (fun e => by rw [hvt] at e; cases e)
    ·cases h
   ·split at h
    ·rename_i T' hT'
     cases h
     have hvt : v = false := ha.1
     exact wpX_cond hcm hv (fun e => by rw [hvt] at e; cases e) (fun _ => hrec _ _ _ _ Q hT' ha.2)
    ·cases h
   ·split at h
    ·rename_i T' U' hT' hU'
     cases h
     exact wpX_cond hcm hv (fun e => hrec _ _ _ _ Q hT' (ha.1 e)) (fun e => hrec _ _ _ _ Q hU' (ha.2 e))
    ·cases h
   ·exact wpX_cond hcm hv (fun e => by rw [e, cond_true] at h; exact hrec _ _ _ _ Q h ha) (fun e => by rw [e, cond_false] at h; exact hrec _ _ _ _ Q h ha)
   ·exact wpX_cond hcm hv (fun e => by rw [e, cond_true] at h; exact hrec _ _ _ _ Q h ha) (fun e => by rw [e, cond_false] at h; exact hrec _ _ _ _ Q h ha)
  ·cases h
 | block id x =>
  simp only [sxC] at h
  split at h
  ·rename_i T' hT
   cases h
   refine wpX_block hcm ((hrec x pl S T' _ hT (catch_all ha)).mono ?_)
   rintro e S' ⟨p, ⟨rfl, hQ⟩ | ⟨hn, hQ⟩⟩
   ·exact .inl ⟨rfl, p, hQ⟩
   ·exact .inr ⟨hn, p, hQ⟩
  ·cases h
 | loop x =>
  simp only [sxC] at h
  split at h
  ·cases h
   obtain ⟨h1, h2⟩ := ha
   exact h1.mono fun e S' ⟨p, hp⟩ => ⟨p, Tree.all_sel h2 hp⟩
  ·split at h
   ·rename_i T' hT
    refine wpX_loop1 hcm ((hrec x _ S T' _ hT (bindN_all h ha)).mono ?_)
    rintro e S' ⟨p, ⟨rfl, U, hU, hUa⟩ | ⟨hn, hQ⟩⟩
    ·exact .inl ⟨rfl, hrec _ p S' U Q hU hUa⟩
    ·exact .inr ⟨hn, p, hQ⟩
   ·cases h
  ·cases h
 | rangeF => cases h
 | bad => cases h
 | scope x => exact wpX_scope hcm (hrec x pl S T Q h ha)

theorem sx_sound (hcm : G.cm = cmOf P) (hm : P.follows .mixedOrders = true) : ∀ (n : Nat) (xc : XC) (pl : Pl) (S : St) (T : Tree) (Q : Ex → St → Pl → Prop), sx md (AllC (SpecQ P G)) G dd n xc pl S = some T → T.all P G md Q → WpX P G md xc S (fun e S' => ∃ p, Q e S' p) := by
 intro n
 induction n with
 | zero => intro xc pl S T Q h; simp [sx] at h
 | succ n ih =>
  intro xc pl S T Q h ha
  have hq0 : AllC (SpecQ P G) [] = True := rfl
  simp only [sx] at h
  split at h
  ·split at h
   ·rename_i S' cs hz
    split at h
    ·rename_i T' hT'
     cases h
     obtain ⟨h1, h2⟩ := obC_all hq0 ha
     exact WpX.pre (fun F ρ a w hr => by obtain ⟨F', q1, q2, q3⟩ := frzS_ok hz h1 hr; exact ⟨F', ρ, q1, q2, q3.kp⟩) (ih _ _ _ _ Q hT' h2)
    ·cases h
   ·cases h
  ·split at h
   ·rename_i S' hz
    exact WpX.pre (fun F ρ a w hr => ⟨F, ρ, (ghoS_ok hz hr).1, Ext.refl _ _ _, (ghoS_ok hz hr).2.kp⟩) (ih _ _ _ _ Q h ha)
   ·cases h
  ·split at h
   ·rename_i ps hz
    rw [cond_eq_ite] at h
    split at h
    ·rename_i hk
     split at h
     ·rename_i T' hT'
      cases h
      exact WpX.pre (fun F ρ a w hr => by obtain ⟨ρ', q1, q2, q3⟩ := ren_sound hz ha.1 hr; exact ⟨F, ρ', q1, q2, q3 _ hk⟩) (ih _ _ _ _ Q hT' ha.2)
     ·cases h
    ·cases h
   ·cases h
  ·rename_i b p p'
   split at h
   ·rename_i T' U' hT' hU'
    cases h
    intro c hc
    cases hb : b with
    | true => exact ih _ _ _ _ Q hT' (ha.1 hb) c hc
    | false => exact ih _ _ _ _ Q hU' (ha.2 hb) c hc
   ·cases h
  ·exact sxC_sound hcm hm ih h ha

theorem skip_sound : ∀ (n : Nat) (pl : Pl) (S : St) (T : Tree) (Q : Ex → St → Pl → Prop), sx md (AllC (SpecQ P G)) G dd n .skip pl S = some T → T.all P G md Q → ∀ F ρ a w, RS G F ρ S a w →
  ∃ S', (∃ p, Q .normal S' p) ∧ Aft G md F ρ (aget S.h) w a.defers S' a w := by
 intro n
 induction n with
 | zero => intro pl S T Q h; simp [sx] at h
 | succ n ih =>
  intro pl S T Q h ha F ρ a w hr
  have hq0 : AllC (SpecQ P G) [] = True := rfl
  simp only [sx] at h
  split at h
  ·split at h
   ·rename_i S' cs hz
    split at h
    ·rename_i T' hT'
     cases h
     obtain ⟨h1, h2⟩ := obC_all hq0 ha
     obtain ⟨F', q1, q2, q3⟩ := frzS_ok hz h1 hr
     obtain ⟨S'', r1, r2⟩ := ih _ _ _ Q hT' h2 F' ρ a w q1
     exact ⟨S'', r1, r2.on q2 q3.kp (DX.refl _ _)⟩
    ·cases h
   ·cases h
  ·split at h
   ·rename_i S' hz
    obtain ⟨S'', r1, r2⟩ := ih _ _ _ Q h ha F ρ a w (ghoS_ok hz hr).1
    exact ⟨S'', r1, r2.on (Ext.refl _ _ _) (ghoS_ok hz hr).2.kp (DX.refl _ _)⟩
   ·cases h
  ·split at h
   ·rename_i ps hz
    rw [cond_eq_ite] at h
    split at h
    ·rename_i hk
     split at h
     ·rename_i T' hT'
      cases h
      obtain ⟨ρ', q1, q2, q3⟩ := ren_sound hz ha.1 hr
      obtain ⟨S'', r1, r2⟩ := ih _ _ _ Q hT' ha.2 F ρ' a w q1
      exact ⟨S'', r1, r2.on q2 (q3 _ hk) (DX.refl _ _)⟩
     ·cases h
    ·cases h
   ·cases h
  ·rename_i b p p'
   split at h
   ·rename_i T' U' hT' hU'
    cases h
    cases hb : b with
    | true => exact ih _ _ _ Q hT' (ha.1 hb) F ρ a w hr
    | false => exact ih _ _ _ Q hU' (ha.2 hb) F ρ a w hr
   ·cases h
  ·cases h
   exact ⟨S, ⟨_, ha⟩, .here hr⟩

def sxEnd (md : Md) (q : List Cd → Prop) (G : GL) (dd : Dirs) (n : Nat) (T : Option Tree) : Option Tree :=
 match T with
 | some T => T.bindN (fun S p => sx md q G dd n .skip p S)
 | none => none

theorem loop_sound (hcm : G.cm = cmOf P) (hm : P.follows .mixedOrders = true) {α : Type} (I : α → St) (pre : α → Prop) (μ : α → Nat) (outs : α → Tree) {x : XC}
  (body : ∀ i, pre i → ∃ n pl T, sxEnd md (AllC (SpecQ P G)) G dd n (sx md (AllC (SpecQ P G)) G dd n x pl (I i)) = some T ∧
   T.all P G md (fun e S' p => (e = .normal ∧ ∃ j, S' = I j ∧ pre j ∧ μ j < μ i ∧ ∀ e S p, (outs j).Sel e S p → (outs i).Sel e S p) ∨ (e ≠ .normal ∧ ∃ p', (outs i).Sel e S' p'))) :
  ∀ i, pre i → WpX P G md (.loop x) (I i) (fun e S' => ∃ p, (outs i).Sel e S' p) := by
 intro i hi c hc F ρ a w ro hr hro
 obtain ⟨ca, rfl, hca⟩ := cm_loop hcm hc
 refine wpR_loop (fun n a' w' => ∃ j, μ j = n ∧ pre j ∧ Aft G md F ρ (aget (I i).h) w a.defers (I j) a' w' ∧ ∀ e S p, (outs j).Sel e S p → (outs i).Sel e S p) ⟨i, rfl, hi, .here hr, fun _ _ _ h => h⟩ ?_
 rintro n a' w' ⟨j, rfl, hj, ⟨F', ρ', hr', hx', hkp, hdx⟩, hsel⟩
 obtain ⟨n, pl, T, hT, hA⟩ := body j hj
 unfold sxEnd at hT
 split at hT
 ·rename_i T0 hT0
  have h1 := sx_sound hcm hm n x pl (I j) T0 _ hT0 (bindN_all hT hA)
  refine (h1 ca hca F' ρ' a' w' ro hr' (hro.next hkp)).mono ?_
  rintro e a'' w'' ⟨S', ⟨p, ⟨rfl, U, hU, hUa⟩ | ⟨hn, hQ⟩⟩, hA'⟩
  ·-- the rest of the plan
   obtain ⟨F'', ρ'', q1, q2, q3, q4⟩ := hA'
   obtain ⟨S3, ⟨p3, h3⟩, r2⟩ := skip_sound n p S' U _ hU hUa F'' ρ'' a'' w'' q1
   rcases h3 with ⟨_, k, rfl, hk, hlt, hks⟩ | ⟨he, _⟩
   ·exact .inl ⟨rfl, μ k, hlt, k, rfl, hk, (r2.on q2 q3 q4).on hx' hkp hdx, fun e S p h => hsel _ _ _ (hks _ _ _ h)⟩
   ·exact absurd rfl he
  ·refine .inr ⟨hn, ?_⟩
   rcases hQ with ⟨he, _⟩ | ⟨_, p', hp'⟩
   ·exact absurd he hn
   ·exact ⟨S', ⟨p', hsel _ _ _ hp'⟩, hA'.on hx' hkp hdx⟩
 ·cases hT

end
end Go.Ab

/-
 A function's contract from its body: results, marks among the deferred calls.
-/
set_option linter.unusedVariables false
set_option linter.unusedSimpArgs false
namespace Go.Ab
open Go

section
variable {P : Program} {G : GL} {hs : Hints} {F : Nat → Prop} {ρ : Nat → Option Nat} {H : Nat → Option HO} {w w' : World}

theorem MRel.off (hm : MRel G F ρ H w) {r : Nat} (hn : ∀ id, ρ id ≠ some r) (hF : ¬ F r) (hr : ∀ cs ty fz, w.heap[r]? ≠ some (.cells cs ty fz)) (ho : ∀ b, b ≠ r → w'.heap[b]? = w.heap[b]?) (hsz : w'.heap.size = w.heap.size) :
  MRel G F ρ H w' ∧ HKeep w ρ H w' ρ H := by
 have hk : HKeep w ρ H w' ρ H := ⟨fun id o h1 h2 => ⟨o, h1, h2, rfl⟩, fun id k h1 => ⟨k, h1, rfl, Nat.le_refl _, fun _ => ⟨rfl, rfl, .inl rfl, rfl⟩⟩, fun b cs ty fz hb => ⟨cs, ty, fz, by
  rw [ho b (fun e => hr cs ty fz (e ▸ hb))]; exact hb, rfl⟩⟩
 have hw : ∀ b, F b → w'.heap[b]? = w.heap[b]? := fun b hb => ho b (fun e => hF (e ▸ hb))
 exact ⟨⟨fun id o h => (hm.heap id o h).mono hw (fun _ h => h) hk rfl (fun b hb => ⟨ho b (fun e => hn id (e ▸ hb)), fun h => h⟩), hm.dom, hm.inj, fun id b hb => by rw [hsz]; exact hm.lt id b hb, fun b hb => by rw [hsz]; exact hm.frz b hb, hm.glob.mono hw (fun _ h => h)⟩, hk⟩

theorem run_take {r : Nat} (h : w.heap[r]? = some (.deferred (some []))) : ∃ w', (Instr.takeDeferred r).run P w = .ok [] w' ∧ (∀ b, b ≠ r → w'.heap[b]? = w.heap[b]?) ∧ w'.heap.size = w.heap.size ∧ IoEq G w w' := by
 refine ⟨{ w with heap := w.heap.setIfInBounds r (.deferred none) }, ?_, fun b hb => ?_, by simp, ⟨rfl, rfl, fun _ => ⟨rfl, Nat.le_refl _⟩⟩⟩
 ·simp [Instr.takeDeferred, getObj, setObj, Sem.run, h]
 ·simp [Array.getElem?_setIfInBounds_ne (Ne.symm hb)]

theorem unwind_marks {cs : List Frame} : ∀ (rs : List Nat) (fr : Frame) (w : World), fr.mode = .returning → fr.defers = rs.map markOf → rs.Nodup → (∀ r, r ∈ rs → w.heap[r]? = some (.deferred (some [])) ∧ (∀ id, ρ id ≠ some r) ∧ ¬ F r) → MRel G F ρ H w →
  ∃ w', Steps P (lone fr cs w) (lone { fr with defers := [] } cs w') ∧ MRel G F ρ H w' ∧ HKeep w ρ H w' ρ H ∧ (∀ b, b ∉ rs → w'.heap[b]? = w.heap[b]?) ∧ w'.heap.size = w.heap.size ∧ IoEq G w w'
 | [], fr, w, hmode, hd, hnd, hr, hm => by
  refine ⟨w, ?_, hm, HKeep.refl _ _ _, fun _ _ => rfl, rfl, IoEq.refl _⟩
  have : fr = { fr with defers := [] } := by
   cases fr; simp at hd ⊢; exact hd
  rw [← this]; exact Steps.refl _ _
 | r :: rs, fr, w, hmode, hd, hnd, hr, hm => by
  obtain ⟨h1, h2, h3⟩ := hr r (by simp)
  obtain ⟨w1, t1, t2, t3, t4⟩ := run_take (G := G) (P := P) h1
  have hstep := step_collected (P := P) (cs := cs) (fr := fr) (w := w) (w' := w1) (d := markOf r) (r := r) (ds := rs.map markOf) (calls := []) (by rw [hmode]; simp) hd rfl t1
  obtain ⟨m1, m2⟩ := hm.off h2 h3 (fun cs ty fz e => by rw [h1] at e; cases e) t2 t3
  rw [List.nodup_cons] at hnd
  obtain ⟨w2, s1, s2, s3, s4, s5, s6⟩ := unwind_marks rs { fr with defers := [] ++ rs.map markOf } w1 hmode (by simp) hnd.2 (fun q hq => by
   obtain ⟨g1, g2, g3⟩ := hr q (by simp [hq])
   exact ⟨(t2 q (fun e => hnd.1 (e ▸ hq))).trans g1, g2, g3⟩) m1
  refine ⟨w2, .head hstep s1, s2, m2.trans s3, fun b hb => ?_, s5.trans t3, t4.trans s6⟩
  simp only [List.mem_cons, not_or] at hb
  rw [s4 b hb.2, t2 b hb.1]

def entryT : Nat → List AV → List (Nat × AV)
 | _, [] => []
 | i, v :: r => (i, v) :: entryT (i + 1) r
def entryS (args : List AV) (n : Nat) : St := { t := entryT 0 args, h := [], n := n }
def entryH (args : List AV) (h : List (Nat × HO)) (n : Nat) : St := { t := entryT 0 args, h := h, n := n }
def isNil {α : Type} : List α → Bool
 | [] => true
 | _ => false
def hsL : List Blk → Nat → List (Nat × HO)
 | [], _ => []
 | b :: r, j => (j, .blk b) :: hsL r (j + 1)
def retS (vals : List AV) (hs : List Blk) : St := { t := entryT 0 vals, h := hsL hs 0, n := vals.length }
def retV : List AV → AV
 | [v] => v
 | vs => .tup vs
abbrev RT := Nat × Option (Option Nat)
def resT (P : Program) : List ResultVar → Option (List RT)
 | [] => some []
 | .tmp t :: r => match resT P r with
  | some l => some ((t, none) :: l)
  | none => none
 | .cell a T :: r => match aggOf P T, resT P r with
  | some g, some l => some ((a, some g) :: l)
  | _, _ => none
def cdB : Cd → Bool
 | .b x => x
 | .ge g want c => cond (negIf (!want) g) (cdB c) true
 | .eqn x y => Nat.beq x y
 | _ => false
def cdsB : List Cd → Bool
 | [] => true
 | c :: r => cond (cdB c) (cdsB r) false

def res1 (S : St) : RT → Option AV
 | (t, none) => aget S.t t
 | (a, some g) => match aget S.t a with
  | some v => match opLoad (aget S.h) .plain g v with
   | some D => cond (cdsB D.cs && isNil D.ws) (some D.v) none
   | none => none
  | none => none
def resV (S : St) : List RT → Option (List AV)
 | [] => some []
 | r :: l => match res1 S r, resV S l with
  | some v, some vs => some (v :: vs)
  | _, _ => none
def resS (S : St) (vals : List AV) : St := { t := entryT 0 vals, h := S.h, n := vals.length }

theorem hsL_get : ∀ (hs : List Blk) (j i : Nat), aget (hsL hs j) i = if j ≤ i then hsH hs (i - j) else none
 | [], j, i => by simp [hsL, aget, hsH]
 | b :: r, j, i => by
  simp only [hsL, aget]
  by_cases e : j = i
  ·subst e; rw [beq_self, cond_true]; simp [hsH]
  ·rw [beq_ne e, cond_false, hsL_get r (j + 1) i]
   by_cases h : j ≤ i
   ·obtain ⟨d, hd⟩ : ∃ d, i - j = d + 1 := ⟨i - j - 1, by omega⟩
    rw [if_pos h, if_pos (by omega), hd, show i - (j + 1) = d by omega]
    simp [hsH]
   ·rw [if_neg h, if_neg (by omega)]
theorem hsL_eq (hs : List Blk) : aget (hsL hs 0) = hsH hs := by
 funext i; rw [hsL_get]; simp

theorem entryT_get : ∀ {args : List AV} {xs : List Value} {i t : Nat} {v : AV}, RelVs w F ρ H args xs → aget (entryT i args) t = some v → ∃ x, i ≤ t ∧ xs[t - i]? = some x ∧ RelV w F ρ H v x
 | [], xs, i, t, v, h, hv => by cases hv
 | u :: r, xs, i, t, v, h, hv => by
  cases h with
  | cons _ _ x xs hx hxs =>
   simp only [entryT, aget] at hv
   by_cases e : i = t
   ·subst e; rw [beq_self, cond_true] at hv; cases hv; exact ⟨x, Nat.le_refl _, by simp, hx⟩
   ·rw [beq_ne e, cond_false] at hv
    obtain ⟨y, h1, h2, h3⟩ := entryT_get hxs hv
    obtain ⟨d, hd⟩ : ∃ d, t - i = d + 1 := ⟨t - i - 1, by omega⟩
    refine ⟨y, by omega, ?_, h3⟩
    have hd' : t - (i + 1) = d := by omega
    rw [hd'] at h2
    rw [hd]
    simpa using h2

theorem entry_rs {args : List AV} {h : List (Nat × HO)} {n : Nat} {vs : Array Value} (hm : MRel G F ρ (aget h) w) (hv : RelVs w F ρ (aget h) args vs.toList) (hle : args.length ≤ n) :
  RS G F ρ (entryH args h n) { tmps := vs ++ Array.replicate (n - vs.size) undef, defers := [] } w := by
 have hl : args.length = vs.size := by have := hv.len; simpa using this
 refine ⟨by simp [entryH]; omega, fun t v h => ?_, ?_, ⟨[], by simp, rfl, fun r hr => by simp at hr⟩⟩
 ·obtain ⟨x, h1, h2, h3⟩ := entryT_get hv h
  have h2 : vs[t]? = some x := by simpa using h2
  have hlt := (Array.getElem?_eq_some_iff.1 h2).1
  have : (vs ++ Array.replicate (n - vs.size) undef).getD t undef = x := by
   rw [Array.getD_eq_getD_getElem?, Array.getElem?_append_left hlt, h2]; rfl
  rw [this]; exact h3
 ·exact hm

def unT : List Value → Value
 | [v] => v
 | vs => .tuple vs.toArray

theorem cdB_ok {Sp : SpT} : ∀ {c : Cd}, cdB c = true → c.holds Sp
 | .b x, h => h
 | .ge g want c, h => by
  simp only [cdB, cond_eq_ite] at h
  intro hg
  rw [if_pos hg] at h
  exact cdB_ok h
 | .eqn x y, h => Nat.eq_of_beq_eq_true h
 | .get _ _ _, h => by cases h
 | .call _ _ _ _, h => by cases h
 | .callD _ _ _ _ _ _, h => by cases h
theorem cdsB_ok {Sp : SpT} : ∀ {cs : List Cd}, cdsB cs = true → AllC Sp cs
 | [], h => trivial
 | c :: r, h => by
  simp only [cdsB, cond_eq_ite] at h
  split at h
  ·rename_i hc; exact ⟨cdB_ok hc, cdsB_ok h⟩
  ·cases h

theorem isNil_ok {α : Type} {l : List α} (h : isNil l = true) : l = [] := by cases l <;> first | rfl | cases h
theorem loadAt_var {t : TypeId} {x : Value} {v : Value} {w' : World} (h : (Instr.loadAt t x).run P w = .ok v w') : ((do loadVar t (← asAddr x) : Sem Value)).run P w = .ok v w' := by
 unfold Instr.loadAt Instr.sureAddr at h
 cases x with
 | pointer a =>
  cases a with
  | some a => simpa [asAddr] using h
  | none => simp at h
 | _ => simp at h

theorem run_results {fn : Func} {rts : List RT} (h : resT P fn.results.toList = some rts) {S : St} {vals : List AV} (hv : resV S rts = some vals) (hm : MRel G F ρ (aget S.h) w) {tmps : Array Value} (ht : ∀ t v, aget S.t t = some v → RelV w F ρ (aget S.h) v (tmps.getD t undef)) :
  ∃ xs, (results fn tmps).run P w = .ok (unT xs) w ∧ RelVs w F ρ (aget S.h) vals xs := by
 have key : ∀ (g : ResultVar → Sem Value), (∀ t, g (.tmp t) = pure (tmps.getD t undef)) → (∀ a t, g (.cell a t) = (do loadVar t (← asAddr (tmps.getD a undef)))) → ∀ (l : List ResultVar) (rts : List RT) (vals : List AV), resT P l = some rts → resV S rts = some vals →
   ∃ xs, (l.mapM g).run P w = .ok xs w ∧ RelVs w F ρ (aget S.h) vals xs := by
  intro g hg hg2 l
  induction l with
  | nil => intro rts vals h hv; cases h; cases hv; exact ⟨[], by simp, .nil⟩
  | cons x r ih =>
   intro rts vals h hv
   cases x with
   | tmp t =>
    simp only [resT] at h
    split at h
    ·rename_i l' hl'
     cases h
     simp only [resV] at hv
     split at hv
     ·rename_i v vs h1 h2
      cases hv
      obtain ⟨xs, g1, g2⟩ := ih _ _ hl' h2
      refine ⟨tmps.getD t undef :: xs, ?_, .cons _ _ _ _ (ht t v h1) g2⟩
      simp only [List.mapM_cons, hg, Sem.run_bind, Sem.run_pure, Result.andThen_ok, g1]
     ·cases hv
    ·cases h
   | cell a t =>
    simp only [resT] at h
    split at h
    ·rename_i ag l' hag hl'
     cases h
     simp only [resV] at hv
     split at hv
     ·rename_i v vs h1 h2
      cases hv
      obtain ⟨xs, g1, g2⟩ := ih _ _ hl' h2
      simp only [res1] at h1
      split at h1
      ·rename_i pv hpv
       split at h1
       ·rename_i D hD
        rw [cond_eq_ite] at h1
        split at h1
        ·rename_i hc
         rw [Bool.and_eq_true] at hc
         cases h1
         have hsame := opLoad_same (P := P) hm (fun _ _ h => h) (ht a pv hpv) (aggOf_ok hag) hD (cdsB_ok (Sp := SpecQ P G) hc.1)
         obtain ⟨y, e1, e2, _⟩ := hsame
         refine ⟨y :: xs, ?_, .cons _ _ _ _ e2 g2⟩
         simp only [List.mapM_cons, hg2, Sem.run_bind]
         have := loadAt_var e1
         simp only [Sem.run_bind] at this
         rw [this]
         simp only [Result.andThen_ok, g1, Sem.run_pure]
        ·cases h1
       ·cases h1
      ·cases h1
     ·cases hv
    ·cases h
 have fin : ∀ (g : ResultVar → Sem Value), (∀ t, g (.tmp t) = pure (tmps.getD t undef)) → (∀ a t, g (.cell a t) = (do loadVar t (← asAddr (tmps.getD a undef)))) →
   ∃ xs, ((do let vs ← fn.results.mapM g; pure (if h : vs.size = 1 then vs[0] else .tuple vs)) : Sem Value).run P w = .ok (unT xs) w ∧ RelVs w F ρ (aget S.h) vals xs := by
  intro g h1 h2
  obtain ⟨xs, g1, g2⟩ := key g h1 h2 _ _ _ h hv
  refine ⟨xs, ?_, g2⟩
  rw [Array.mapM_eq_mapM_toList]
  simp only [Sem.run_bind, Sem.run_map]
  rw [g1]
  simp only [Result.andThen_ok, Sem.run_pure]
  match xs with
  | [] => rfl
  | [v] => rfl
  | v :: u :: r => simp; rfl
 unfold results
 exact fin _ (fun t => rfl) (fun a t => rfl)

theorem callFunc_enter {f : FuncId} {fn : Func} {c : Code} (hf : P.funcs[f]? = some fn) (hname : (fn.name == "runtime.NumGoroutine") = false) (hb : fn.body = some c) (args : Array Value) (w : World) :
  (callFunc f args).run P w = .ok (.enter f args) w := by
 have h1 : fn.name ≠ "runtime.NumGoroutine" := by simpa using hname
 simp [callFunc, hf, h1, hb]

theorem retV_rel {vals : List AV} {xs : List Value} (h : RelVs w F ρ H vals xs) : RelV w F ρ H (retV vals) (unT xs) := by
 cases h with
 | nil => exact .tup _ _ .nil
 | cons v l x xs hv hs =>
  cases hs with
  | nil => exact hv
  | cons u l y ys hu hs => exact .tup _ _ (by simpa using RelVs.cons _ _ _ _ hv (.cons _ _ _ _ hu hs))

theorem body_core (hcm : G.cm = cmOf P) {md : Md} (hrid : md.rid = none) {f : FuncId} {fn : Func} {c : Code} {xc : XC} {args : List AV} {h : List (Nat × HO)} {rts : List RT} {R : St → Prop}
  (hf : P.funcs[f]? = some fn) (hname : (fn.name == "runtime.NumGoroutine") = false) (hb : fn.body = some c)
  (hc : cmOf P c xc) (hres : resT P fn.results.toList = some rts) (hle : Nat.ble args.length fn.ntmps = true)
  (hW : WpX P G md xc (entryH args h fn.ntmps) (fun e S' => (e = .ret ∨ e = .normal) ∧ R S')) (hR : ∀ S', R S' → ∃ vals, resV S' rts = some vals)
  {vs : Array Value} (hm : MRel G F ρ (aget h) w) (hv : RelVs w F ρ (aget h) args vs.toList) {K : Value → World → Prop}
  (hK : ∀ (S' : St) (vals : List AV) (xs : List Value) (w2 : World) (F' : Nat → Prop) (ρ' : Nat → Option Nat), R S' → resV S' rts = some vals → MRel G F' ρ' (aget S'.h) w2 → RelVs w2 F' ρ' (aget S'.h) vals xs → Ext G F ρ w F' ρ' w2 → HKp md.ks w ρ (aget h) w2 ρ' (aget S'.h) →
   K (unT xs) w2) : CallOk P f vs w K := by
 refine .inr (.inl ⟨f, vs, w, callFunc_enter hf hname hb vs w, fun cs => ?_⟩)
 let a0 : Act := { tmps := vs ++ Array.replicate (fn.ntmps - vs.size) undef, defers := [] }
 have hr0 : RS G F ρ (entryH args h fn.ntmps) a0 w := entry_rs hm hv (Nat.le_of_ble_eq_true hle)
 let b : Frame := { (default : Frame) with fn := f, kind := .normal, roundOf := none }
 have henter : Frame.enter P f vs .normal = b.atR a0 [.code c] := by simp [Frame.enter, Frame.atR, hf, hb, b, a0]
 obtain ⟨e, a', w', ⟨S', ⟨he, hRS⟩, F', ρ', hr', hx', hkp, hdx⟩, harr⟩ := hW c (by rw [hcm]; exact hc) F ρ a0 w none hr0 (by unfold RoOk; rw [hrid]) b [] cs rfl
 rw [← henter] at harr
 -- the frame on its way out
 have hgo : ∃ fr : Frame, fr.mode = .returning ∧ fr.defers = a'.defers ∧ fr.tmps = a'.tmps ∧ fr.kind = .normal ∧ fr.fn = f ∧ Steps P (lone (Frame.enter P f vs .normal) cs w) (lone fr cs w') := by
  rcases he with rfl | rfl
  ·obtain ⟨todo, hs⟩ := harr
   exact ⟨{ b.atR a' (.code .ret :: todo) with mode := .returning }, rfl, rfl, rfl, rfl, rfl, hs.trans (.one (stepR_ret rfl))⟩
  ·exact ⟨{ b.atR a' [] with mode := .returning }, rfl, rfl, rfl, rfl, rfl, Steps.trans harr (.one (stepR_end rfl))⟩
 obtain ⟨fr, g1, g2, g3, g4, g5, g6⟩ := hgo
 obtain ⟨rs, d1, d2, d3⟩ := hr'.defs
 obtain ⟨new, n1, n2⟩ := hdx
 have hnew : ∀ r, r ∈ rs → w.heap.size ≤ r := fun r hr => by
  have h1 : markOf r ∈ a'.defers := by rw [d2]; exact List.mem_map.2 ⟨r, hr, rfl⟩
  rw [n1] at h1
  simp only [a0, List.append_nil] at h1
  obtain ⟨r', hr', e⟩ := List.mem_map.1 h1
  have : r' = r := by simp only [markOf] at e; injection e with e1 e2; injection e1
  exact this ▸ n2 r' hr'
 obtain ⟨w2, s1, s2, s3, s4, s5, s6⟩ := unwind_marks (cs := cs) rs fr w' g1 (g2.trans d2) d1 d3 hr'.mem
 have hx2 : Ext G F ρ w F' ρ' w2 := by
  refine ⟨hx'.io.trans s6, by rw [s5]; exact hx'.size, fun b hb hn => ?_, fun b hb => ?_, hx'.keep, hx'.more, hx'.im⟩
  ·rw [s4 b (fun hm => by have := hnew b hm; omega)]; exact hx'.same b hb hn
  ·rw [s4 b (fun hm => (d3 b hm).2.2 (hx'.keep b hb))]; exact hx'.frz b hb
 have ht2 : ∀ t v, aget S'.t t = some v → RelV w2 F' ρ' (aget S'.h) v (a'.tmps.getD t undef) := fun t v ht => (hr'.tmps t v ht).mono (fun b hb => s4 b (fun hm => (d3 b hm).2.2 hb)) (fun _ h => h) s3
 obtain ⟨vals, hvals⟩ := hR S' hRS
 obtain ⟨xs, e1, e2⟩ := run_results (fn := fn) hres hvals s2 ht2
 refine ⟨.returned _, w2, { fr with defers := [] }, ⟨_, rfl, hK S' vals xs w2 F' ρ' hRS hvals s2 e2 hx2 (hkp.trans s3.kp)⟩, g6.trans s1, g5, g1, rfl, g4, fn, ?_, ?_⟩
 ·rw [g5]; exact hf
 ·show (results fn fr.tmps).run P w2 = _
  rw [g3]; exact e1

theorem entryT_tmps {vals : List AV} {xs : List Value} (h : RelVs w F ρ H vals xs) : ∀ t v, aget (entryT 0 vals) t = some v → RelV w F ρ H v (xs.toArray.getD t undef) := fun t v hv => by
 obtain ⟨x, _, h2, h3⟩ := entryT_get h hv
 have h2 : xs[t]? = some x := by simpa using h2
 rw [Array.getD_eq_getD_getElem?]
 simp [h2]; exact h3
theorem vals_of_entryT {tmps : Array Value} : ∀ {vals : List AV} {i : Nat}, (∀ t v, aget (entryT i vals) t = some v → RelV w F ρ H v (tmps.getD t undef)) → RelVs w F ρ H vals ((List.range' i vals.length).map fun t => tmps.getD t undef)
 | [], i, h => .nil
 | v :: r, i, h => by
  simp only [List.length_cons, List.range'_succ, List.map_cons]
  refine .cons _ _ _ _ (h i v (by simp [entryT, aget, beq_self])) (vals_of_entryT fun t u hu => h t u ?_)
  have hne : i ≠ t := fun e => by
   subst e
   have key : ∀ (l : List AV) (j : Nat), i < j → aget (entryT j l) i = none := by
    intro l
    induction l with
    | nil => intro j _; rfl
    | cons a l ih => intro j hj; simp only [entryT, aget]; rw [beq_ne (by omega), cond_false]; exact ih _ (by omega)
   rw [key r (i + 1) (by omega)] at hu; cases hu
  simp only [entryT, aget]; rw [beq_ne hne, cond_false]; exact hu
theorem range_getD {xs : List Value} {n : Nat} (h : xs.length = n) : (List.range' 0 n).map (fun t => xs.toArray.getD t undef) = xs := by
 subst h
 apply List.ext_getElem
 ·simp
 ·intro i h1 h2
  have h3 : i < xs.length := by simpa using h2
  simp [Array.getD_eq_getD_getElem?, h3]

theorem spec_of_body (hcm : G.cm = cmOf P) {f : FuncId} {fn : Func} {c : Code} {xc : XC} {args vals : List AV} {blks : List Blk} {rts : List RT} (hf : P.funcs[f]? = some fn) (hname : (fn.name == "runtime.NumGoroutine") = false) (hb : fn.body = some c)
  (hc : cmOf P c xc) (hres : resT P fn.results.toList = some rts) (hle : Nat.ble args.length fn.ntmps = true)
  (hW : WpX P G ⟨none, []⟩ xc (entryS args fn.ntmps) (fun e S' => (e = .ret ∨ e = .normal) ∧ ∃ vs σ ps, resV S' rts = some vs ∧ renS σ (resS S' vs) (retS vals blks) = some ps ∧ PAll ps)) :
  SpecP P G f args (retV vals) blks := by
 intro F w vs hm hv
 refine body_core hcm (md := ⟨none, []⟩) (h := []) rfl hf hname hb hc hres hle hW (fun S' ⟨vs, σ, ps, h, _⟩ => ⟨vs, h⟩) (hm : MRel G F noR (aget []) w) hv.toVs ?_
 rintro S' vals' xs w2 F' ρ' ⟨vs', σ, ps, hv', hren, hps⟩ hvals q1 q2 q3 q4
 rw [hvals] at hv'; cases hv'
 obtain ⟨hn, ρ2, r1, r2, r3, _⟩ := ren_soundM (S := resS S' vals') hren hps q1
 refine ⟨F', ρ2, ?_, q3.trans r2, ?_⟩
 ·simp only [retS, hsL_eq] at r1; exact r1
 ·have h1 := r3 xs.toArray (entryT_tmps q2)
  simp only [retS, hsL_eq] at h1
  have h2 := vals_of_entryT h1
  have hlen : xs.length = vals.length := by
   have := q2.len
   simp only [retS, resS] at hn
   omega
  rw [range_getD hlen] at h2
  exact retV_rel h2

theorem HKp.all {h : List (Nat × HO)} {w' : World} {ρ' : Nat → Option Nat} {h' : Nat → Option HO} (hk : HKp (keys h) w ρ (aget h) w' ρ' h') : HKeep w ρ (aget h) w' ρ' h' :=
 ⟨fun id o h1 => hk.box id o (key_aget.2 ⟨o, h1⟩) h1, fun id k h1 => hk.blk id k (key_aget.2 ⟨_, h1⟩) h1, hk.sz⟩

def retH (vals : List AV) (h ws : List (Nat × HO)) : St := { t := entryT 0 vals, h := asets h ws, n := vals.length }

theorem specD_of_body (hcm : G.cm = cmOf P) {f : FuncId} {fn : Func} {c : Code} {xc : XC} {args vals : List AV} {h ws : List (Nat × HO)} {al : List Nat} {rts : List RT} (hf : P.funcs[f]? = some fn) (hname : (fn.name == "runtime.NumGoroutine") = false) (hb : fn.body = some c)
  (hc : cmOf P c xc) (hres : resT P fn.results.toList = some rts) (hle : Nat.ble args.length fn.ntmps = true)
  (hW : WpX P G ⟨none, keys h⟩ xc (entryH args h fn.ntmps) (fun e S' => (e = .ret ∨ e = .normal) ∧ ∃ vs σ ps, resV S' rts = some vs ∧ renS σ (resS S' vs) (retH vals h ws) = some ps ∧ PAll ps ∧ keepB σ (resS S' vs) (retH vals h ws) (keys h) = true)) :
  SpecD P G (.fn f [] []) args h (retV vals) ws al := by
 intro F ρ w vs hm hv
 refine body_core hcm (md := ⟨none, keys h⟩) (h := h) rfl hf hname hb hc hres hle hW (fun S' ⟨vs, σ, ps, h, _⟩ => ⟨vs, h⟩) hm hv ?_
 rintro S' vals' xs w2 F' ρ' ⟨vs', σ, ps, hv', hren, hps, hkeep⟩ hvals q1 q2 q3 q4
 rw [hvals] at hv'; cases hv'
 obtain ⟨hn, ρ2, r1, r2, r3, r4⟩ := ren_soundM (S := resS S' vals') hren hps q1
 have hk2 := q4.trans (r4 _ hkeep)
 simp only [retH, aget_asets] at r1 r3 hk2
 refine ⟨F', ρ2, r1, q3.trans r2, hk2.all, ?_⟩
 have h2 := vals_of_entryT (r3 xs.toArray (entryT_tmps q2))
 have hlen : xs.length = vals.length := by
  have := q2.len
  simp only [retH, resS] at hn
  omega
 rw [range_getD hlen] at h2
 exact retV_rel h2

end
end Go.Ab

/-
 Code run on abstract values, by a function: no plan, every choice decided, loops unrolled, calls run too.
-/
set_option linter.unusedVariables false
set_option linter.unusedSimpArgs false
namespace Go.Ab
open Go

abbrev TB := Nat → List (Nat × HO) → AV → List AV → Option Delta

def cdC : Cd → Bool
 | .callD _ _ _ _ _ _ => true
 | c => cdB c
def cdsC : List Cd → Bool
 | [] => true
 | c :: r => cond (cdC c) (cdsC r) false
def chkE (op : XOp) (cs : List Cd) : Bool :=
 match op with
 | .call _ _ => cdsC cs
 | .callv _ _ => cdsC cs
 | _ => cdsB cs

def nextC : Nat → List Nat → Nat
 | m, [] => m
 | m, i :: r => nextC (cond (Nat.ble m i) (i + 1) m) r
def addW (c0 : Nat) (wr : List Nat) : List (Nat × HO) → List Nat
 | [] => wr
 | (i, _) :: r => addW c0 (cond (Nat.ble c0 i) wr (cond (memN i wr) wr (i :: wr))) r

structure EvS where
 S : St
 c : Nat
 wr : List Nat

def exOpsE (G : GL) (tb : TB) (c0 : Nat) : List XO → EvS → Option EvS
 | [], s => some s
 | x :: r, s => match runG G s.c (aget s.S.h) x .auto (.tab true tb) (gvOf s.S.t x.guard) (readT s.S.t x.op.opds) with
  | some D => cond (okDst x.dst s.S.n && (freshA s.S.h D.al && chkE x.op D.cs)) (exOpsE G tb c0 r ⟨putS s.S x.dst D, nextC s.c D.al, addW c0 s.wr D.ws⟩) none
  | none => none

def opdT : List Opd → List Nat
 | [] => []
 | .t n :: r => n :: opdT r
 | _ :: r => opdT r
def apartT (x y : XO) : Bool :=
 noneIn (optL x.dst) (opdT y.op.opds ++ (gL y.guard ++ optL y.dst)) && noneIn (optL y.dst) (opdT x.op.opds ++ gL x.guard)
def apartH (e f : Ent) : Bool :=
 noneIn (keys e.D.ws) (keys f.rh ++ (f.D.al ++ keys f.D.ws)) && noneIn (keys f.D.ws) (keys e.rh ++ e.D.al)
def apartJ (xs : List XO) (x : XO) (j : Nat) : Bool :=
 match nth? xs j with
 | some y => apartT x y
 | none => false
def pairT (dep : List (List Nat)) (tbl : List (Nat × List Nat)) (xs : List XO) (i : Nat) (x : XO) : List Nat → Bool
 | [] => true
 | j :: r => !Nat.beq i j && (!memN j (depN dep i) && ((memN i (tbN tbl j) || apartJ xs x j) && pairT dep tbl xs i x r))
def pairTo (dep : List (List Nat)) (tbl : List (Nat × List Nat)) (xs : List XO) (i : Nat) (r : List Nat) : Bool :=
 match nth? xs i with
 | some x => pairT dep tbl xs i x r
 | none => false
def pairsT (dep : List (List Nat)) (tbl : List (Nat × List Nat)) (xs : List XO) : List Nat → Bool
 | [] => true
 | i :: r => !memN i (depN dep i) && (pairTo dep tbl xs i r && pairsT dep tbl xs r)
def drawT (xs : List XO) (dep : List (List Nat)) (ord : List Nat) : Bool :=
 Nat.beq ord.length xs.length && (allMem ord xs.length && (depB xs.length dep && (allLt xs.length ord && pairsT dep (ancTab dep ord []) xs ord)))
def quietE (e : Ent) : Bool := isNil e.D.ws && (isNil e.rh && isNil e.D.al)
def pairHE (tbl : List (Nat × List Nat)) (i : Nat) (e : Ent) : List (Nat × Ent) → Bool
 | [] => true
 | (j, f) :: r => ((isNil e.D.ws && isNil f.D.ws) || (memN i (tbN tbl j) || apartH e f)) && pairHE tbl i e r
def pairsHE (tbl : List (Nat × List Nat)) : List (Nat × Ent) → Bool
 | [] => true
 | (i, e) :: r => (quietE e || pairHE tbl i e r) && pairsHE tbl r

def exEntsE (G : GL) (tb : TB) (c0 : Nat) (xs : List XO) : List Nat → EvS → Option (EvS × List (Nat × Ent))
 | [], s => some (s, [])
 | i :: r, s => match nth? xs i with
  | some x => match mkEnt G s.S x s.c (.auto, .tab true tb) with
   | some e => cond (chkE x.op e.D.cs) (match exEntsE G tb c0 xs r ⟨putS s.S x.dst e.D, nextC s.c e.D.al, addW c0 s.wr e.D.ws⟩ with
    | some (s', es) => some (s', (i, e) :: es)
    | none => none) none
   | none => none
  | none => none

def Ex.isN : Ex → Bool
 | .normal => true
 | _ => false
def pendX : Option Ex → Option Ex
 | none => some .normal
 | some .normal => none
 | some e => some e

def ridB (h : List (Nat × HO)) : Option Nat → Bool
 | none => true
 | some l0 => match aget h l0 with
  | some (.loop _) => true
  | _ => false
def evC (G : GL) (tb : TB) (rid : Option Nat) (c0 : Nat) : Nat → XC → EvS → Option (Ex × EvS)
 | 0, _, _ => none
 | n + 1, xc, s => match xc with
  | .skip => some (.normal, s)
  | .bad => none
  | .scope a => evC G tb rid c0 n a s
  | .exit id => some (.exit id, s)
  | .ret => some (.ret, s)
  | .reg _ xs dead => match exOpsE G tb c0 xs s with
   | some s' => some (.normal, ⟨delS s'.S dead, s'.c, s'.wr⟩)
   | none => none
  | .draw _ xs dep ord dead => cond (drawT xs dep ord) (match exEntsE G tb c0 xs ord s with
   | some (s', es) => cond (pairsHE (ancTab dep ord []) es) (some (.normal, ⟨delS s'.S dead, s'.c, s'.wr⟩)) none
   | none => none) none
  | .seq a b => match evC G tb rid c0 n a s with
   | some (e, s') => match e with
    | .normal => evC G tb rid c0 n b s'
    | e => some (e, s')
   | none => none
  | .cond c a b => match c.ev G s.S.t with
   | .bool v => match v with
    | true => evC G tb rid c0 n a s
    | false => evC G tb rid c0 n b s
   | _ => none
  | .block id a => match evC G tb rid c0 n a s with
   | some (e, s') => match e with
    | .exit i => some (cond (Nat.beq i id) .normal (.exit i), s')
    | e => some (e, s')
   | none => none
  | .loop a => match evC G tb rid c0 n a s with
   | some (e, s') => match e with
    | .normal => evC G tb rid c0 n (.loop a) s'
    | e => some (e, s')
   | none => none
  | .rangeF g ps as bd => match g.ev G s.S.t with
   | .fn f a cp => cond (ridB s.S.h rid)
    (cond (freshA s.S.h [s.c]) (match opCallD (s.c + 1) (aget (aset s.S.h s.c (.loop ⟨0, none, s.S.t, s.S.n, ps, as, bd⟩))) tb (.fn f [] []) (a ++ [.yld s.c] ++ cp) with
     | some D => cond (freshA (aset s.S.h s.c (.loop ⟨0, none, s.S.t, s.S.n, ps, as, bd⟩)) D.al && cdsC D.cs) (match aget (asets (aset s.S.h s.c (.loop ⟨0, none, s.S.t, s.S.n, ps, as, bd⟩)) D.ws) s.c with
      | some (.loop l2) => match pendX l2.pend with
       | some e => cond (Nat.beq l2.st 1) none (some (e, ⟨{ s.S with h := aset (asets (aset s.S.h s.c (.loop ⟨0, none, s.S.t, s.S.n, ps, as, bd⟩)) D.ws) s.c (.loop { l2 with st := 3 }) }, nextC (s.c + 1) D.al, addW c0 s.wr ((s.c, .loop l2) :: D.ws)⟩))
       | none => none
      | _ => none) none
     | none => none) none) none
   | _ => none

structure FnE where
 n : Nat
 rts : List RT
 xc : XC

def wsOf (h0 : List Nat) (c0 : Nat) (wr : List Nat) : List (Nat × HO) → List (Nat × HO)
 | [] => []
 | (i, o) :: r => cond (cond (memN i h0) (cond (Nat.ble c0 i) true (memN i wr)) true) ((i, o) :: wsOf h0 c0 wr r) (wsOf h0 c0 wr r)
def alOf (h0 : List Nat) : List (Nat × HO) → List Nat
 | [] => []
 | (i, _) :: r => cond (memN i h0) (alOf h0 r) (i :: alOf h0 r)
def finE (h0 : List Nat) (c0 : Nat) (s : EvS) (vals : List AV) : Option Delta :=
 let r := refsL vals ++ h0
 let h := readF (aget s.S.h) (reachW (aget s.S.h) 1000000 r [])
 cond (allIn r (keys h) && closedH (keys h) h) (some { v := retV vals, ws := wsOf h0 c0 s.wr h, al := alOf h0 h, cs := [] }) none
def setPs : List (Nat × AV) → List Nat → List AV → List (Nat × AV)
 | t, p :: ps, v :: vs => setPs (aset t p v) ps vs
 | t, _, _ => t
def allLtP (n : Nat) : List Nat → Bool
 | [] => true
 | p :: r => cond (Nat.ble (p + 1) n) (allLtP n r) false

def evCall (G : GL) (xp : Nat → Option FnE) (nat : Nat → List AV → Option AV) (fuel : Nat) : Nat → TB
 | 0, _, _, _, _ => none
 | n + 1, c, h, cv, args => match cv with
  | .fn f _ _ => match nat f args with
   | some v => some { v := v, ws := [], al := [], cs := [] }
   | none => match xp f with
    | some fe => cond (Nat.ble args.length fe.n) (match evC G (evCall G xp nat fuel n) none c fuel fe.xc ⟨entryH args h fe.n, c, []⟩ with
     | some (e, s) => match e with
      | .exit _ => none
      | _ => match resV s.S fe.rts with
       | some vals => finE (keys h) c s vals
       | none => none
     | none => none) none
    | none => none
  | .yld id => match aget h id with
   | some (.loop l) => cond (Nat.beq l.st 0 && (Nat.beq args.length l.ps.length && allLtP l.n l.ps)) (match evC G (evCall G xp nat fuel n) (some id) c fuel l.as ⟨⟨setPs l.t l.ps args, h, l.n⟩, c, []⟩ with
    | some (e1, s1) => match e1 with
     | .normal => match aget s1.S.h id with
      | some (.loop l1) => cond (Nat.beq l1.st 0) (match evC G (evCall G xp nat fuel n) (some id) c fuel l.bd ⟨{ s1.S with h := aset s1.S.h id (.loop { l1 with st := 1 }) }, s1.c, addW c s1.wr [(id, .loop l1)]⟩ with
       | some (e, s2) => match aget s2.S.h id with
        | some (.loop l2) => finE (keys h) c ⟨{ s2.S with h := aset s2.S.h id (.loop { l2 with st := cond e.isN 0 2, pend := cond e.isN none (some e) }) }, s2.c, s2.wr⟩ [.bool e.isN]
        | _ => none
       | none => none) none
      | _ => none
     | _ => none
    | none => none) none
   | _ => none
  | _ => none

end Go.Ab

/-
 What the function finds is what the code does.
-/
set_option linter.unusedVariables false
set_option linter.unusedSimpArgs false
namespace Go.Ab
open Go

section
variable {P : Program} {G : GL} {md : Md} {F : Nat → Prop} {ρ : Nat → Option Nat} {a : Act} {w : World} {ops : Array Oper} {tb : TB}

def TBok (P : Program) (G : GL) (tb : TB) : Prop := ∀ c h cv args D, tb c h cv args = some D → D.cs = [] ∧ SpecD P G cv args h D.v D.ws D.al

theorem stripC_C {Sp : SpT} : ∀ {rt : List (Nat × AV)} {cs : List Cd}, cdsC (stripC rt cs) = true → AllC Sp cs → AllC Sp (stripC rt cs)
 | [], cs, h, hc => hc
 | (_, v) :: r, cs, h, hc => by
  have key : ∀ cs', cdsC (stripB v cs') = true → cdsC cs' = true ∧ (AllC Sp cs' → AllC Sp (stripB v cs')) := by
   intro cs' h'
   unfold stripB at h' ⊢
   split at h'
   ·rename_i b u
    simp only [cdsC, cdC, cdB, cond_eq_ite] at h'
    split at h'
    ·rename_i hb; exact ⟨h', fun hh => ⟨hb, hh⟩⟩
    ·cases h'
   ·exact ⟨h', fun hh => hh⟩
  obtain ⟨k1, k2⟩ := key _ h
  exact k2 (stripC_C k1 hc)

theorem callD_cs {site : Nat} {look : Nat → Option HO} {cv : AV} {vs : List AV} {D : Delta} (htb : TBok P G tb) (hD : opCallD site look tb cv vs = some D) : AllC (SpecQ P G) D.cs := by
 unfold opCallD at hD
 simp only [cond_eq_ite] at hD
 split at hD
 ·split at hD
  ·rename_i D' hD'
   split at hD
   ·cases hD
    obtain ⟨h1, h2⟩ := htb _ _ _ _ _ hD'
    rw [h1]
    exact ⟨h2, trivial⟩
   ·cases hD
  ·cases hD
 ·cases hD

theorem chk_ok {site : Nat} {look : Nat → Option HO} {x : XO} {gv : Option AV} {rt : List (Nat × AV)} {D : Delta} (htb : TBok P G tb) (hD : runG G site look x .auto (.tab true tb) gv rt = some D) (h : chkE x.op D.cs = true) : AllC (SpecQ P G) D.cs := by
 have call : ∀ f as, x.op = .call f as ∨ (∃ X, x.op = .callv X as) → chkE x.op D.cs = cdsC D.cs := fun f as e => by
  rcases e with e | ⟨X, e⟩ <;> rw [e] <;> rfl
 by_cases hcall : (∃ f as, x.op = .call f as) ∨ (∃ X as, x.op = .callv X as)
 ·have hck : cdsC D.cs = true := by
   rcases hcall with ⟨f, as, e⟩ | ⟨X, as, e⟩
   ·rw [← call f as (.inl e)]; exact h
   ·rw [← call 0 as (.inr ⟨X, e⟩)]; exact h
  have run : ∀ {D' : Delta}, cdsC D'.cs = true → runU G site look x.op (.tab true tb) rt = some D' → AllC (SpecQ P G) D'.cs := by
   intro D' hck' hD'
   unfold runU at hD'
   split at hD'
   ·rename_i hk
    rcases hcall with ⟨f, as, e⟩ | ⟨X, as, e⟩ <;> rw [e] at hk <;> cases hk
   ·split at hD'
    ·rename_i D0 h0
     cases hD'
     refine stripC_C hck' ?_
     rcases hcall with ⟨f, as, e⟩ | ⟨X, as, e⟩
     ·rw [e] at h0
      simp only [execD, opCall] at h0
      exact callD_cs htb h0
     ·rw [e] at h0
      simp only [execD, opCallv] at h0
      split at h0
      ·simp only [opCall] at h0; exact callD_cs htb h0
      ·exact callD_cs htb h0
      ·cases h0
    ·cases hD'
  unfold runG at hD
  split at hD
  ·exact run hck hD
  ·split at hD
   ·simp only [cond_eq_ite] at hD
    split at hD
    ·exact run hck hD
    ·cases hD; exact trivial
   ·cases hD
 ·have : chkE x.op D.cs = cdsB D.cs := by
   unfold chkE
   split
   ·rename_i e; exact absurd (.inl ⟨_, _, e⟩) hcall
   ·rename_i e; exact absurd (.inr ⟨_, _, e⟩) hcall
   ·rfl
  rw [this] at h
  exact cdsB_ok h

def WrOk (c0 : Nat) (wr wr' : List Nat) (H H' : Nat → Option HO) : Prop := ∀ i, i ∉ wr' → i < c0 → i ∉ wr ∧ H' i = H i
theorem WrOk.refl (c0 : Nat) (wr : List Nat) (H : Nat → Option HO) : WrOk c0 wr wr H H := fun i h _ => ⟨h, rfl⟩
theorem WrOk.trans {c0 : Nat} {wr wr' wr'' : List Nat} {H H' H'' : Nat → Option HO} (h : WrOk c0 wr wr' H H') (k : WrOk c0 wr' wr'' H' H'') : WrOk c0 wr wr'' H H'' := fun i h1 h2 => by
 obtain ⟨k1, k2⟩ := k i h1 h2
 obtain ⟨g1, g2⟩ := h i k1 h2
 exact ⟨g1, k2.trans g2⟩
theorem addW_ok {c0 : Nat} : ∀ {ws : List (Nat × HO)} {wr : List Nat} {i : Nat}, i ∉ addW c0 wr ws → i < c0 → i ∉ wr ∧ i ∉ keys ws
 | [], wr, i, h, hi => ⟨h, by simp [keys]⟩
 | (j, o) :: r, wr, i, h, hi => by
  simp only [addW] at h
  obtain ⟨h1, h2⟩ := addW_ok h hi
  have hj : i ≠ j ∧ i ∉ wr := by
   simp only [cond_eq_ite] at h1
   split at h1
   ·rename_i hc
    have := Nat.le_of_ble_eq_true hc
    exact ⟨by omega, h1⟩
   ·split at h1
    ·rename_i hm
     exact ⟨fun e => h1 (e ▸ memN_iff.1 hm), h1⟩
    ·simp only [List.mem_cons, not_or] at h1; exact h1
  simp only [keys, List.mem_cons, not_or]
  exact ⟨hj.2, hj.1, h2⟩
theorem WrOk.upd {c0 : Nat} {wr : List Nat} {H : Nat → Option HO} {ws : List (Nat × HO)} : WrOk c0 wr (addW c0 wr ws) H (updL H ws) := fun i h hi => by
 obtain ⟨h1, h2⟩ := addW_ok h hi
 exact ⟨h1, updL_nokey h2⟩

theorem exOpsE_wr {c0 : Nat} : ∀ {xs : List XO} {s s' : EvS}, exOpsE G tb c0 xs s = some s' → WrOk c0 s.wr s'.wr (aget s.S.h) (aget s'.S.h)
 | [], s, s', he => by simp only [exOpsE] at he; cases he; exact .refl _ _ _
 | x :: r, s, s', he => by
  simp only [exOpsE] at he
  split at he
  ·rename_i D hD
   rw [cond_eq_ite] at he
   split at he
   ·exact WrOk.trans (wr' := addW c0 s.wr D.ws) (H' := aget (putS s.S x.dst D).h) (by rw [putS_h]; exact .upd) (exOpsE_wr he)
   ·cases he
  ·cases he
theorem exEntsE_wr {c0 : Nat} {xs : List XO} : ∀ {ord : List Nat} {s s' : EvS} {es : List (Nat × Ent)}, exEntsE G tb c0 xs ord s = some (s', es) → WrOk c0 s.wr s'.wr (aget s.S.h) (aget s'.S.h)
 | [], s, s', es, h => by simp only [exEntsE] at h; cases h; exact .refl _ _ _
 | i :: r, s, s', es, h => by
  simp only [exEntsE] at h
  split at h
  ·rename_i x hxi
   split at h
   ·rename_i e he
    rw [cond_eq_ite] at h
    split at h
    ·split at h
     ·rename_i s'' es' h'
      cases h
      exact WrOk.trans (wr' := addW c0 s.wr e.D.ws) (H' := aget (putS s.S x.dst e.D).h) (by rw [putS_h]; exact .upd) (exEntsE_wr h')
     ·cases h
    ·cases h
   ·cases h
  ·cases h

theorem exOpsE_sound (htb : TBok P G tb) {c0 : Nat} {R : Act → World → Prop} : ∀ (l : List Oper) (k : Nat) (xs : List XO) (s s' : EvS) (F : Nat → Prop) (ρ : Nat → Option Nat) (a : Act) (w : World), (∀ j, l[j]? = ops[k + j]?) → compXOs P ops l = some xs → exOpsE G tb c0 xs s = some s' →
  WrOk c0 s.wr s'.wr (aget s.S.h) (aget s'.S.h) ∧ (RS G F ρ s.S a w → (∀ a' w' F' ρ', RS G F' ρ' s'.S a' w' → Ext G F ρ w F' ρ' w' → HKeep w ρ (aget s.S.h) w' ρ' (aget s'.S.h) → a'.defers = a.defers → R a' w') → wpOpsR P ops R (List.range' k l.length) a w)
 | [], k, xs, s, s', F, ρ, a, w, hl, hx, he => by
  cases hx
  simp only [exOpsE] at he
  cases he
  exact ⟨.refl _ _ _, fun hr hQ => hQ a w F ρ hr (Ext.refl _ _ _) (HKeep.refl _ _ _) rfl⟩
 | o :: l, k, xs, s, s', F, ρ, a, w, hl, hx, he => by
  simp only [compXOs] at hx
  split at hx
  ·rename_i x xl hxo hxl
   cases hx
   simp only [exOpsE] at he
   split at he
   ·rename_i D hD
    rw [cond_eq_ite] at he
    split at he
    ·rename_i hcond
     simp only [Bool.and_eq_true] at hcond
     have c1 := chk_ok htb hD hcond.2.2
     have h0 : ops[k]? = some o := by simpa using (hl 0).symm
     have hnext : ∀ j, l[j]? = ops[k + 1 + j]? := fun j => by have := hl (j + 1); simpa [Nat.add_assoc, Nat.add_comm 1 j] using this
     refine ⟨WrOk.trans (wr' := addW c0 s.wr D.ws) (H' := aget (putS s.S x.dst D).h) (by rw [putS_h]; exact .upd) (exOpsE_sound (R := R) htb l (k + 1) xl _ s' F ρ a w hnext hxl he).1, fun hr hQ => ?_⟩
     rw [List.length_cons, List.range'_succ]
     show wpOpR P ops k _ a w
     refine one_sound h0 hxo hr (fun t v h => readT_get h) (fun t want v hg hv => gvOf_ok hg hv) (fun _ _ h => h) hD (okDst_ok hcond.1) (freshA_ok hcond.2.1) c1 ?_
     intro y w' F' ρ' hr' hx' hk'
     rw [← putS_h s.S x.dst D] at hk'
     refine (exOpsE_sound htb l (k + 1) xl _ s' F' ρ' _ w' hnext hxl he).2 ?_ ?_
     ·unfold RS; simp only; rw [putS_t, putS_h]; exact hr'
     ·intro a' w'' F'' ρ'' h1 h2 h3 h4
      exact hQ a' w'' F'' ρ'' h1 (hx'.trans h2) (hk'.trans h3) (h4.trans (put_defers' _ _ _))
    ·cases he
   ·cases he
  ·cases hx

theorem exEntsE_ok (htb : TBok P G tb) {c0 : Nat} {xs : List XO} (hx : compXOs P ops ops.toList = some xs) : ∀ {ord : List Nat} {s s' : EvS} {es : List (Nat × Ent)}, exEntsE G tb c0 xs ord s = some (s', es) →
  keys es = ord ∧ s'.S.n = s.S.n ∧ (∀ p, p ∈ es → EntOk P G ops s.S.n p) ∧ Chain (aget s'.S.t) (aget s'.S.h) es (aget s.S.t) (aget s.S.h) ∧ WrOk c0 s.wr s'.wr (aget s.S.h) (aget s'.S.h) ∧
  (∀ p, p ∈ es → nth? xs p.1 = some p.2.x ∧ (∀ t, t ∈ keys p.2.rt → t ∈ opdT p.2.x.op.opds))
 | [], s, s', es, h => by
  simp only [exEntsE] at h
  cases h
  exact ⟨rfl, rfl, fun p hp => by simp at hp, ⟨rfl, rfl⟩, .refl _ _ _, fun p hp => by simp at hp⟩
 | i :: r, s, s', es, h => by
  simp only [exEntsE] at h
  split at h
  ·rename_i x hxi
   split at h
   ·rename_i e he
    rw [cond_eq_ite] at h
    split at h
    ·rename_i hck
     split at h
     ·rename_i s'' es' h'
      cases h
      obtain ⟨g1, g2, g3, g4, g5, g6⟩ := exEntsE_ok htb hx h'
      obtain ⟨o, ho, hxo⟩ := compXOs_get hx hxi
      simp only [mkEnt] at he
      split at he
      ·rename_i D hD
       rw [cond_eq_ite] at he
       split at he
       ·rename_i hcond
        cases he
        rw [Bool.and_eq_true] at hcond
        have c1 := chk_ok htb hD hck
        refine ⟨by simp [keys, g1], g2, fun p hp => ?_, ⟨⟨?_, ?_, ?_, ?_⟩, ?_⟩, WrOk.trans (by rw [putS_h]; exact .upd) g5, fun p hp => ?_⟩
        ·rcases List.mem_cons.1 hp with rfl | hp
         ·exact ⟨o, by simpa using ho, hxo, hD, okDst_ok hcond.1, c1⟩
         ·exact g3 p hp
        ·intro t v hv; exact readT_get hv
        ·intro t want v hg hv; exact gvOf_ok hg hv
        ·intro j o' hj; exact readF_get hj
        ·exact freshA_ok hcond.2
        ·simp only [putS_t, putS_h] at g4; exact g4
        ·rcases List.mem_cons.1 hp with rfl | hp
         ·refine ⟨hxi, ?_⟩
          simp only
          generalize x.op.opds = os
          induction os with
          | nil => intro t ht; simp [readT, keys] at ht
          | cons q os ih =>
           cases q with
           | t n =>
            intro t ht
            simp only [readT] at ht
            split at ht
            ·simp only [keys, List.mem_cons] at ht
             simp only [opdT, List.mem_cons]
             exact ht.imp (fun h => h) (ih t)
            ·simp only [opdT, List.mem_cons]; exact .inr (ih t ht)
           | c v => intro t ht; exact ih t ht
           | g n => intro t ht; exact ih t ht
         ·exact g6 p hp
       ·cases he
      ·cases he
     ·cases h
    ·cases h
   ·cases h
  ·cases h

theorem noneIn_mono {a b a' b' : List Nat} (h : noneIn a b = true) (ha : ∀ i, i ∈ a' → i ∈ a) (hb : ∀ i, i ∈ b' → i ∈ b) : ∀ i, i ∈ a' → i ∉ b' :=
 fun i h1 h2 => noneIn_ok' h i (ha i h1) (hb i h2)

theorem noneIn_mk : ∀ {a b : List Nat}, (∀ i, i ∈ a → i ∉ b) → noneIn a b = true
 | [], b, h => rfl
 | x :: r, b, h => by
  simp only [noneIn, cond_eq_ite]
  have : ¬ memN x b = true := fun e => h x (by simp) (memN_iff.1 e)
  rw [if_neg this]
  exact noneIn_mk fun i hi => h i (by simp [hi])

theorem pairs_of {xs : List XO} {dep : List (List Nat)} {tbl : List (Nat × List Nat)} {dp : Nat → List Nat} (hd : ∀ i, dp i = depN dep i) :
  ∀ {es : List (Nat × Ent)}, pairsT dep tbl xs (keys es) = true → pairsHE tbl es = true → (∀ p, p ∈ es → nth? xs p.1 = some p.2.x ∧ (∀ t, t ∈ keys p.2.rt → t ∈ opdT p.2.x.op.opds)) → Pairs dp (tbN tbl) es
 | [], _, _, _ => trivial
 | (i, e) :: r, hT, hH, hx => by
  simp only [keys, pairsT, Bool.and_eq_true, Bool.not_eq_true'] at hT
  simp only [pairsHE, Bool.and_eq_true, Bool.or_eq_true] at hH
  obtain ⟨hself, hpair, hT⟩ := hT
  obtain ⟨hheap, hH⟩ := hH
  obtain ⟨x1, x2⟩ := hx (i, e) (by simp)
  have x1 : nth? xs i = some e.x := x1
  have nmem : ∀ {x : Nat} {l : List Nat}, memN x l = false → x ∉ l := fun h hm => by rw [memN_iff.2 hm] at h; cases h
  unfold pairTo at hpair
  rw [x1] at hpair
  simp only at hpair
  have key : ∀ {r' : List (Nat × Ent)}, (∀ p, p ∈ r' → p ∈ r) → pairT dep tbl xs i e.x (keys r') = true → (quietE e = true ∨ pairHE tbl i e r' = true) → i ∉ keys r' ∧ ∀ p, p ∈ r' → p.1 ∉ depN dep i ∧ (i ∈ tbN tbl p.1 ∨ Apart e p.2) := by
   intro r'
   induction r' with
   | nil => intro _ _ _; exact ⟨by simp [keys], fun p hp => by simp at hp⟩
   | cons q r' ih =>
    obtain ⟨j, f⟩ := q
    intro hsub hp hh
    simp only [keys, pairT, Bool.and_eq_true, Bool.or_eq_true, Bool.not_eq_true'] at hp
    obtain ⟨hij, hjd, hap, hp⟩ := hp
    have hh2 : (quietE e = true ∨ pairHE tbl i e r' = true) ∧ (i ∈ tbN tbl j ∨ (noneIn (keys e.D.ws) (keys f.rh ++ (f.D.al ++ keys f.D.ws)) = true ∧ noneIn (keys f.D.ws) (keys e.rh ++ e.D.al) = true)) := by
     rcases hh with hq | hh
     ·refine ⟨.inl hq, .inr ?_⟩
      simp only [quietE, Bool.and_eq_true] at hq
      obtain ⟨q1, q2, q3⟩ := hq
      rw [isNil_ok q1, isNil_ok q2, isNil_ok q3]
      exact ⟨rfl, noneIn_mk fun i _ h => by simp [keys] at h⟩
     ·simp only [pairHE, Bool.and_eq_true, Bool.or_eq_true] at hh
      obtain ⟨hc, hh⟩ := hh
      refine ⟨.inr hh, ?_⟩
      rcases hc with hnil | hm | hc
      ·rw [isNil_ok hnil.1, isNil_ok hnil.2]
       exact .inr ⟨rfl, rfl⟩
      ·exact .inl (memN_iff.1 hm)
      ·simp only [apartH, Bool.and_eq_true] at hc; exact .inr hc
    obtain ⟨k1, k2⟩ := ih (fun p hp => hsub p (by simp [hp])) hp hh2.1
    have hne : i ≠ j := fun e => by subst e; rw [beq_self] at hij; cases hij
    refine ⟨by simp only [keys, List.mem_cons, not_or]; exact ⟨hne, k1⟩, fun p hp => ?_⟩
    rcases List.mem_cons.1 hp with rfl | hp
    ·refine ⟨nmem hjd, ?_⟩
     obtain ⟨y1, y2⟩ := hx (j, f) (List.mem_cons_of_mem _ (hsub _ (by simp)))
     have y1 : nth? xs j = some f.x := y1
     rcases hap with hm | hap
     ·exact .inl (memN_iff.1 hm)
     ·unfold apartJ at hap
      rw [y1] at hap
      simp only [apartT, Bool.and_eq_true] at hap
      rcases hh2.2 with h | ⟨h1, h2⟩
      ·exact .inl h
      ·right
       refine apartE_ok ?_
       simp only [apartE, Bool.and_eq_true]
       refine ⟨noneIn_mk (noneIn_mono hap.1 (fun i h => h) fun t ht => ?_), noneIn_mk (noneIn_mono hap.2 (fun i h => h) fun t ht => ?_), h1, h2⟩
       ·simp only [List.mem_append] at ht ⊢; exact ht.imp (y2 t) (fun h => h)
       ·simp only [List.mem_append] at ht ⊢; exact ht.imp (x2 t) (fun h => h)
    ·exact k2 p hp
  obtain ⟨k1, k2⟩ := key (r' := r) (fun p hp => hp) hpair hheap
  refine ⟨fun h => ?_, k1, fun p hp => ?_, pairs_of hd hT hH fun p hp => hx p (by simp [hp])⟩
  ·rw [hd] at h; exact nmem hself h
  ·rw [hd]; exact k2 p hp

end
end Go.Ab

/-
 Ranges over functions: the record, the call, the pending jump; rounds.
-/
set_option linter.unusedVariables false
set_option linter.unusedSimpArgs false
namespace Go.Ab
open Go

section
variable {P : Program} {G : GL} {md : Md} {F : Nat → Prop} {ρ : Nat → Option Nat} {H : Nat → Option HO} {a : Act} {w w' : World} {ops : Array Oper} {tb : TB}

theorem MRel.allocOff (hm : MRel G F ρ H w) {ob : Obj} (hw : w'.heap = w.heap.push ob) (hio : IoEq G w w') : MRel G F ρ H w' ∧ Ext G F ρ w F ρ w' ∧ HKeep w ρ H w' ρ H := by
 have hsz : w'.heap.size = w.heap.size + 1 := by rw [hw]; simp
 have hold : ∀ b, b < w.heap.size → w'.heap[b]? = w.heap[b]? := fun b hb => push_old hw hb
 have hk : HKeep w ρ H w' ρ H := ⟨fun id o h1 h2 => ⟨o, h1, h2, rfl⟩, fun id k h1 => ⟨k, h1, rfl, Nat.le_refl _, fun _ => ⟨rfl, rfl, .inl rfl, rfl⟩⟩, fun b cs ty fz hb => ⟨cs, ty, fz, (hold b (lt_of_some hb)).trans hb, rfl⟩⟩
 have hwF : ∀ b, F b → w'.heap[b]? = w.heap[b]? := fun b hb => hold b (hm.frz b hb)
 exact ⟨⟨fun id o h1 => (hm.heap id o h1).mono hwF (fun _ h => h) hk rfl (fun b hb => ⟨hold b (hm.lt id b hb), fun h => h⟩), hm.dom, hm.inj, fun id b hb => by have := hm.lt id b hb; omega, fun b hb => by have := hm.frz b hb; omega, hm.glob.mono hwF (fun _ h => h)⟩,
  ⟨hio, by omega, fun b hb _ => hold b hb, hwF, fun _ h => h, fun _ h => .inl h, fun id b hb => .inl ⟨id, hb⟩⟩, hk⟩

theorem enter_loop (hm : MRel G F ρ H w) (ro : Option Nat) (hro : ∀ l0, ro = some l0 → ∃ r0, w.heap[l0]? = some (.loop r0)) (fn : FuncId) (tmps : Array Value) (qs : Array Tmp) (ca cb : Code) :
  ∃ l mark w0 w1 r0, (Instr.enterLoop fn tmps qs ca cb ro).run P w = .ok (l, mark) w1 ∧ MRel G F ρ H w0 ∧ Ext G F ρ w F ρ w0 ∧ HKeep w ρ H w0 ρ H ∧ w1.heap = w0.heap.push (.loop { state := .ready, pending := none, fn, tmps, params := qs, assign := ca, body := cb, defers := r0 }) ∧ IoEq G w0 w1 ∧ l = w0.heap.size ∧
   (mark = [] ∨ (mark = [markOf r0] ∧ w0.heap[r0]? = some (.deferred (some [])) ∧ w.heap.size ≤ r0)) := by
 cases ro with
 | none =>
  obtain ⟨h1, h2, h3⟩ := hm.allocOff (w' := w.alloc (.deferred (some []))) (ob := .deferred (some [])) rfl ⟨rfl, rfl, fun _ => ⟨rfl, Nat.le_refl _⟩⟩
  refine ⟨_, _, w.alloc (.deferred (some [])), _, _, run_enterLoop_outer fn tmps qs ca cb, h1, h2, h3, rfl, ⟨rfl, rfl, fun _ => ⟨rfl, Nat.le_refl _⟩⟩, ?_, .inr ⟨rfl, ?_, Nat.le_refl _⟩⟩
  ·show w.heap.size + 1 = (w.heap.push _).size
   rw [Array.size_push]
  ·show (w.heap.push _)[w.heap.size]? = _
   rw [Array.getElem?_push_size]
 | some l0 =>
  obtain ⟨r0, hr0⟩ := hro l0 rfl
  refine ⟨w.heap.size, [], w, w.alloc (.loop { state := .ready, pending := none, fn, tmps, params := qs, assign := ca, body := cb, defers := r0.defers }), r0.defers, ?_, hm, Ext.refl _ _ _, HKeep.refl _ _ _, rfl, ⟨rfl, rfl, fun _ => ⟨rfl, Nat.le_refl _⟩⟩, rfl, .inl rfl⟩
  unfold Instr.enterLoop
  simp only [Sem.run_bind, run_getLoop hr0, run_newObj_alloc, Result.andThen, Sem.run_pure]

theorem rangeF_steps {b : Frame} {k : List Item} {cs : List Frame} {g : Operand} {qs : Array Tmp} {ca cb : Code} {l : Nat} {mark : List Deferred} {w1 : World} {f : FuncId} {x1 x2 : Array Value} {K : Value → World → Prop}
  (he : (Instr.enterLoop b.fn a.tmps qs ca cb b.roundOf).run P w = .ok (l, mark) w1) (hg : a.eval g = .func (.func f) x1 x2)
  (hK : CallOk P f (x1 ++ #[.func (.yield l) #[] #[]] ++ x2) w1 K) :
  ∃ v w3, K v w3 ∧ Steps P (lone (b.atR a (.code (.rangeFunc g qs ca cb) :: k)) cs w) (lone (b.atR { a with defers := mark ++ a.defers } (.endRangeFunc l :: k)) cs w3) := by
 have hev := Frame.eval_atR b { a with defers := mark ++ a.defers } (.inRangeFunc l :: k)
 simp only [Frame.atR] at hev
 have hg' : ({ tmps := a.tmps, defers := mark ++ a.defers } : Act).eval g = .func (.func f) x1 x2 := by
  rw [← hg]; cases g <;> rfl
 have hres : (do let d ← resolve ({ tmps := a.tmps, defers := mark ++ a.defers } : Act).eval { callee := .value g, args := #[.const (.func (.yield l) #[] #[])], argTypes := #[] } 0; invoke d.target d.args : Sem Next).run P w1 = (callFunc f (x1 ++ #[.func (.yield l) #[] #[]] ++ x2)).run P w1 := by
  simp only [resolve, Deferred.ofValue, hg', Sem.run_bind, Sem.run_pure, Result.andThen_ok, invoke]
  have : Array.map ({ tmps := a.tmps, defers := mark ++ a.defers } : Act).eval #[Operand.const (Value.func (Fn.yield l) #[] #[])] = #[Value.func (Fn.yield l) #[] #[]] := by simp [Act.eval]
  rw [this]
 rcases hK with ⟨nx, y, w', h1, h2, h3⟩ | ⟨f', args, w2, h1, h2⟩ | ⟨l', fn, tmps, as, bd, w2, h1, h2⟩
 ·refine ⟨y, w', h3, .one (step_lone_go ?_)⟩
  rw [h1] at hres
  rw [← finish_atR_inRangeFunc l y]
  rcases h2 with rfl | ⟨rfl, rfl⟩ <;> simp [stepG, stepG.exec, Frame.atR, Sem.runT_eq, he, GStep.bare_after, stepG.apply, hev, hres]
 ·rw [h1] at hres
  obtain ⟨e, w3, fr, ⟨v, rfl, hv⟩, hsteps, _, hleave⟩ := h2 (b.atR { a with defers := mark ++ a.defers } (.inRangeFunc l :: k) :: cs)
  refine ⟨v, w3, hv, .head (step_lone_go (fr' := Frame.enter P f' args .normal) (cs' := b.atR { a with defers := mark ++ a.defers } (.inRangeFunc l :: k) :: cs) (w' := w2) ?_) (hsteps.trans (.one ?_))⟩
  ·simp [stepG, stepG.exec, Frame.atR, Sem.runT_eq, he, GStep.bare_after, stepG.apply, hev, hres]
  ·rw [← finish_atR_inRangeFunc l v]; exact step_leave_returned hleave
 ·rw [h1] at hres
  obtain ⟨v, w3, hv, hsteps⟩ := h2 (b.atR { a with defers := mark ++ a.defers } (.inRangeFunc l :: k)) cs
  refine ⟨v, w3, hv, .head (step_lone_go (fr' := Frame.round l' fn tmps as bd .normal) (cs' := b.atR { a with defers := mark ++ a.defers } (.inRangeFunc l :: k) :: cs) (w' := w2) ?_) ?_⟩
  ·simp [stepG, stepG.exec, Frame.atR, Sem.runT_eq, he, GStep.bare_after, stepG.apply, hev, hres]
  ·rw [finish_atR_inRangeFunc] at hsteps; exact hsteps

theorem asets_aset {h : List (Nat × HO)} {id : Nat} {o : HO} {ws : List (Nat × HO)} : aget (asets (aset h id o) ws) = updL (upd (aget h) id (some o)) ws := by rw [aget_asets, aget_aset]

theorem wpX_rangeF (hcm : G.cm = cmOf P) {g : Opd} {ps : List Nat} {as bd : XC} {S : St} {f : Nat} {a0 cp : List AV} (hg : g.ev G S.t = .fn f a0 cp) (hrid : ∀ l0, md.rid = some l0 → ∃ L, aget S.h l0 = some (.loop L)) {id : Nat} (hid : aget S.h id = none)
  {D : Delta} (hal : ∀ i, i ∈ D.al → aget (aset S.h id (.loop ⟨0, none, S.t, S.n, ps, as, bd⟩)) i = none)
  (hsp : ∀ F ρ w (xs : Array Value), MRel G F ρ (aget (aset S.h id (.loop ⟨0, none, S.t, S.n, ps, as, bd⟩))) w → RelVs w F ρ (aget (aset S.h id (.loop ⟨0, none, S.t, S.n, ps, as, bd⟩))) (a0 ++ [.yld id] ++ cp) xs.toList → CallOk P f xs w (KD G F ρ (aget (aset S.h id (.loop ⟨0, none, S.t, S.n, ps, as, bd⟩))) w D))
  {l2 : LoopS} (h2 : aget (asets (aset S.h id (.loop ⟨0, none, S.t, S.n, ps, as, bd⟩)) D.ws) id = some (.loop l2)) {e : Ex} (hp : pendX l2.pend = some e) (hst : l2.st ≠ 1) {Q : Ex → St → Prop}
  (hQ : Q e { S with h := aset (asets (aset S.h id (.loop ⟨0, none, S.t, S.n, ps, as, bd⟩)) D.ws) id (.loop { l2 with st := 3 }) }) : WpX P G md (.rangeF g ps as bd) S Q := by
 intro c hc F ρ a w ro hr hro b k cs hb
 obtain ⟨X, qs, ca, cb, rfl, hps, hX, hca, hcb⟩ := cm_rangeF hcm hc
 have hfv := evOk_of (rt := S.t) (a := a) hr.mem hr.tmps X g hX
 rw [hg] at hfv
 obtain ⟨x1, x2, hXv, r1, r2⟩ := hfv.fns
 have hro' : ∀ l0, ro = some l0 → ∃ r0, w.heap[l0]? = some (.loop r0) := fun l0 e => by
  unfold RoOk at hro
  cases hmd : md.rid with
  | none => rw [hmd] at hro; simp only at hro; rw [hro] at e; cases e
  | some q =>
   rw [hmd] at hro
   obtain ⟨b', o, g1, g2, _, _⟩ := hro
   rw [g1] at e; cases e
   obtain ⟨L, hL⟩ := hrid q hmd
   obtain ⟨b2, p1, p2, r, p3, _⟩ := hr.mem.heap q _ hL
   rw [g2] at p1; cases p1
   exact ⟨r, p3⟩
 obtain ⟨l, mark, w0, w1, rd, hent, m0, x0, k0, hw1, hio1, hl, hmark⟩ := enter_loop (P := P) hr.mem ro hro' b.fn a.tmps qs ca cb
 let L0 : LoopS := ⟨0, none, S.t, S.n, ps, as, bd⟩
 have hte : ∀ t v, aget S.t t = some v → RelV w0 F ρ (aget S.h) v (a.tmps.getD t undef) := fun t v h => (hr.tmps t v h).mono x0.frz x0.keep k0
 obtain ⟨ρ1, m1, x1', k1, hρ1, hρo⟩ := m0.alloc (site := id) (o := .loop L0) hid hw1 hio1 (fun ρ' H' hk hs => by
  refine ⟨w0.heap.size, hs, fun hF => by have := m0.frz _ hF; omega, _, push_new hw1, ⟨rfl, rfl, hr.size, fun t v h => (hte t v h).mono (fun b hb => push_old hw1 (m0.frz b hb)) (fun _ h => h) hk, hps, hca, hcb⟩⟩)
 have hH1 : upd (aget S.h) id (some (.loop L0)) = aget (aset S.h id (.loop L0)) := (aget_aset _ _ _).symm
 rw [hH1] at m1 k1
 have hargs : RelVs w1 F ρ1 (aget (aset S.h id (.loop L0))) (a0 ++ [.yld id] ++ cp) (x1 ++ #[Value.func (.yield l) #[] #[]] ++ x2).toList := by
  have mv : ∀ {vs : List AV} {xs : List Value}, RelVs w F ρ (aget S.h) vs xs → RelVs w1 F ρ1 (aget (aset S.h id (.loop L0))) vs xs := fun h =>
   (h.mono x0.frz x0.keep k0).mono x1'.frz x1'.keep k1
  have hy : RelV w1 F ρ1 (aget (aset S.h id (.loop L0))) (.yld id) (Value.func (.yield l) #[] #[]) := .yld id l (.loop L0) (by rw [hρ1, hl]) (by rw [aget_aset, upd_same]) rfl
  simp only [Array.toList_append]
  refine RelVs.app (RelVs.app (mv r1) (.cons _ _ _ _ hy .nil)) (mv r2)
 have hent' : (Instr.enterLoop b.fn a.tmps qs ca cb b.roundOf).run P w = .ok (l, mark) w1 := by rw [hb]; exact hent
 obtain ⟨v, w3, ⟨F3, ρ3, m3, x3, k3, _⟩, hsteps⟩ := rangeF_steps (k := k) (cs := cs) hent' hXv (hsp F ρ1 w1 _ m1 hargs)
 rw [← aget_asets] at m3 k3
 -- the end of the statement
 obtain ⟨bl, y1, y2, rr, y3, y4⟩ := m3.heap id _ h2
 have hbl : bl = l := by
  obtain ⟨o', z1, z2, z3⟩ := k3.box id (.loop L0) (by rw [aget_aset, upd_same]) rfl
  rw [y1, hρ1] at z3; cases z3; exact hl.symm
 subst hbl
 have hbusy : rr.state ≠ .busy := by
  rw [y4.st]
  intro e
  apply hst
  match hq : l2.st, e with
  | 0, e => simp [stOf] at e
  | 1, _ => rfl
  | 2, e => simp [stOf] at e
  | n + 3, e => simp [stOf] at e
 have hend := run_endLoop (P := P) y3 hbusy
 have hlt3 : bl < w3.heap.size := lt_of_some y3
 obtain ⟨m4, x4, k4⟩ := m3.write (w' := w3.putObj bl (.loop { rr with state := .exhausted })) (o' := .loop { l2 with st := 3 }) h2 y1 y2 (World.putObj_heap_same hlt3) (fun j hj => World.putObj_heap_other hj) World.putObj_size ⟨rfl, rfl, fun _ => ⟨rfl, Nat.le_refl _⟩⟩
  (fun cs ty fz h => by rw [y3] at h; cases h) rfl (fun k h => by cases h)
  (fun hk => ⟨bl, y1, y2, _, World.putObj_heap_same hlt3, ⟨rfl, y4.pend, y4.size, fun t v h => (y4.tmps t v h).mono (fun b hb => World.putObj_heap_other (fun (e : b = bl) => y2 (by rw [← e]; exact hb))) (fun _ h => h) hk, y4.ps, y4.as, y4.bd⟩⟩)
 rw [← aget_aset] at m4 k4
 have hx : Ext G F ρ w F3 ρ3 (w3.putObj bl (.loop { rr with state := .exhausted })) := ((x0.trans x1').trans x3).trans x4
 have hk : HKeep w ρ (aget S.h) (w3.putObj bl (.loop { rr with state := .exhausted })) ρ3 (aget (aset (asets (aset S.h id (.loop L0)) D.ws) id (.loop { l2 with st := 3 }))) := ((k0.trans k1).trans k3).trans k4
 have hdefs : DefOk F3 ρ3 { a with defers := mark ++ a.defers } (w3.putObj bl (.loop { rr with state := .exhausted })) ∧ DX a.defers w (mark ++ a.defers) := by
  obtain ⟨rs, d1, d2, d3⟩ := hr.defs.ext hx rfl
  rcases hmark with rfl | ⟨rfl, hm2, hm3⟩
  ·exact ⟨⟨rs, d1, by simpa using d2, d3⟩, ⟨[], by simp, fun r hr => by simp at hr⟩⟩
  ·refine ⟨⟨rd :: rs, ?_, by simp [d2], fun r hr' => ?_⟩, ⟨[rd], by simp, fun r hr => by simp at hr; subst hr; exact hm3⟩⟩
   ·refine List.nodup_cons.2 ⟨fun hmem => ?_, d1⟩
    obtain ⟨rs0, e1, e2, e3⟩ := hr.defs
    have : rs0.map markOf = rs.map markOf := e2.symm.trans d2
    have hmem' : markOf rd ∈ rs0.map markOf := by rw [this]; exact List.mem_map.2 ⟨rd, hmem, rfl⟩
    obtain ⟨q, hq, e⟩ := List.mem_map.1 hmem'
    have : q = rd := by simp only [markOf] at e; injection e with e1 e2; injection e1
    subst this
    have := lt_of_some (e3 q hq).1
    omega
   ·rcases List.mem_cons.1 hr' with rfl | hr'
    ·have hrlt := lt_of_some hm2
     have hne : ∀ id', ρ id' ≠ some r := fun id' e => by have := hr.mem.lt id' r e; omega
     have hrl : r ≠ bl := by omega
     have hne1 : ∀ id', ρ1 id' ≠ some r := fun id' e => by
      by_cases e' : id' = id
      ·subst e'; rw [hρ1] at e; cases e; omega
      ·rw [hρo id' e'] at e; exact hne id' e
     have hF1 : ¬ F r := fun h => by have := hr.mem.frz r h; omega
     have h1r : w1.heap[r]? = some (.deferred (some [])) := by rw [push_old hw1 hrlt]; exact hm2
     have h3r : w3.heap[r]? = some (.deferred (some [])) := (x3.same r (lt_of_some h1r) hne1).trans h1r
     refine ⟨by rw [World.putObj_heap_other hrl]; exact h3r, fun id' e => ?_, fun h => ?_⟩
     ·rcases x3.im id' r e with ⟨i2, e2⟩ | e2
      ·exact hne1 i2 e2
      ·have := lt_of_some h1r; omega
     ·rcases x3.more r h with e | e | ⟨i2, e2⟩
      ·exact hF1 e
      ·have := lt_of_some h1r; omega
      ·exact hne1 i2 e2
    ·exact d3 r hr'
 have hRS : RS G F3 ρ3 { S with h := aset (asets (aset S.h id (.loop L0)) D.ws) id (.loop { l2 with st := 3 }) } { a with defers := mark ++ a.defers } (w3.putObj bl (.loop { rr with state := .exhausted })) :=
  ⟨hr.size, fun t v h => (hr.tmps t v h).mono hx.frz hx.keep hk, m4, hdefs.1⟩
 have hsteps' : Steps P (lone (b.atR a (.code (.rangeFunc X qs ca cb) :: k)) cs w) (lone (b.atR { a with defers := mark ++ a.defers } ((rr.pending.map Item.code).toList ++ k)) cs (w3.putObj bl (.loop { rr with state := .exhausted }))) :=
  hsteps.trans (.one (stepR_endRangeFunc hend))
 have hpend := y4.pend
 generalize (w3.putObj bl (.loop { rr with state := .exhausted })) = wz at hRS hx hk hdefs hsteps'
 refine ⟨e, _, _, ⟨_, hQ, F3, ρ3, hRS, hx, hk.kp, hdefs.2⟩, ?_⟩
 rw [hpend] at hsteps'
 unfold pendX at hp
 split at hp
 ·rename_i hpn
  cases hp
  rw [hpn] at hsteps'
  exact hsteps'
 ·cases hp
 ·rename_i e' hne hpe
  cases hp
  rw [hpe] at hsteps'
  cases e with
  | normal => exact absurd rfl hne
  | exit i => exact ⟨k, rfl, by simpa [Ex.code] using hsteps'⟩
  | ret => exact ⟨k, by simpa [Ex.code] using hsteps'⟩

end
end Go.Ab

/-
 Code run by the function: sound; calls too.
-/
set_option linter.unusedVariables false
set_option linter.unusedSimpArgs false
namespace Go.Ab
open Go

section
variable {P : Program} {G : GL} {md : Md} {F : Nat → Prop} {ρ : Nat → Option Nat} {H : Nat → Option HO} {a : Act} {w w' : World} {ops : Array Oper} {tb : TB}

theorem drawE_sound (htb : TBok P G tb) {c0 : Nat} {xs : List XO} {dep : List (List Nat)} {ord : List Nat} {s s' : EvS} {es : List (Nat × Ent)} {R : Act → World → Prop}
  (hx : compXOs P ops ops.toList = some xs) (hdep : ops.toList.map depOf = dep) (hT : drawT xs dep ord = true) (he : exEntsE G tb c0 xs ord s = some (s', es)) (hH : pairsHE (ancTab dep ord []) es = true) (hr : RS G F ρ s.S a w)
  (hQ : ∀ a' w' F' ρ', RS G F' ρ' s'.S a' w' → Ext G F ρ w F' ρ' w' → HKeep w ρ (aget s.S.h) w' ρ' (aget s'.S.h) → a'.defers = a.defers → R a' w') : wpAnyR P ops R ops.size (Array.replicate ops.size false) a { w with drawn := w.drawn + 1 } := by
 obtain ⟨k1, k2, k3, k4, _, k6⟩ := exEntsE_ok htb hx he
 simp only [drawT, Bool.and_eq_true] at hT
 obtain ⟨b1, b2, b3, b4, b5⟩ := hT
 have hlen : xs.length = ops.size := by rw [compXOs_len hx]; simp
 have hd := dep_eq (ops := ops) hdep
 have hsame := hr.mem.same (w' := { w with drawn := w.drawn + 1 }) rfl ⟨rfl, rfl, fun _ => ⟨rfl, Nat.le_succ _⟩⟩
 refine (any_sound (an := tbN (ancTab dep ord [])) (ancTab_ok hd (fun j i hi => by simp [tbN, aget] at hi)) (fun i k hk => ?_) (n := s.S.n) (TF := aget s'.S.t) (HF := aget s'.S.h) ops.size _ es F ρ (aget s.S.t) (aget s.S.h) a _ ?_ (pairs_of hd (by rw [k1]; exact b5) hH k6) (by simp) (fun i => ?_) k3 (fun j hj => ?_) k4 ?_ ?_)
 ·rw [hd] at hk
  simp only [depN] at hk
  cases e : nth? dep i with
  | none => rw [e] at hk; simp at hk
  | some l =>
   rw [e] at hk
   rw [← hlen]
   exact depB_ok b3 l (nth?_mem e) k (by simpa using hk)
 ·have hk : ∀ (l : List (Nat × Ent)), (keys l).length = l.length := fun l => by
   induction l with
   | nil => rfl
   | cons p r ih => obtain ⟨i, e⟩ := p; simp [keys, ih]
  rw [← hk es, k1, Nat.eq_of_beq_eq_true b1, hlen]
 ·rw [k1]
  have : (Array.replicate ops.size false).getD i true = false ↔ i < ops.size := by
   by_cases h : i < ops.size <;> simp [Array.getD, h]
  rw [this, ← hlen]
  exact ⟨allMem_ok b2 i, allLt_ok b4 i⟩
 ·exfalso
  by_cases h : j < ops.size <;> simp [Array.getD, h] at hj
 ·exact ⟨hr.size, fun t v h => (hr.tmps t v h).mono hsame.2.1.frz hsame.2.1.keep hsame.2.2, hsame.1, hr.defs.ext hsame.2.1 rfl⟩
 ·intro a' w' F' ρ' h1 h2 h3 h4
  refine hQ a' w' F' ρ' ?_ (hsame.2.1.trans h2) (hsame.2.2.trans h3) h4
  unfold RS; rw [k2]; exact h1

theorem evC_sound (hcm : G.cm = cmOf P) (hmx : P.follows .mixedOrders = true) (htb : TBok P G tb) {rid : Option Nat} {c0 : Nat} : ∀ (n : Nat) (xc : XC) (s : EvS) (e : Ex) (s' : EvS), evC G tb rid c0 n xc s = some (e, s') →
  WrOk c0 s.wr s'.wr (aget s.S.h) (aget s'.S.h) ∧ ∀ md : Md, md.rid = rid → WpX P G md xc s.S (fun e' S' => e' = e ∧ S' = s'.S) := by
 intro n
 induction n with
 | zero => intro xc s e s' h; simp [evC] at h
 | succ n ih =>
  intro xc s e s' h
  cases xc with
  | skip => simp only [evC] at h; cases h; exact ⟨.refl _ _ _, fun md hmd => wpX_skip hcm ⟨rfl, rfl⟩⟩
  | exit id => simp only [evC] at h; cases h; exact ⟨.refl _ _ _, fun md hmd => wpX_exit hcm ⟨rfl, rfl⟩⟩
  | bad => simp [evC] at h
  | scope x =>
   simp only [evC] at h
   obtain ⟨w1, p1⟩ := ih _ _ _ _ h
   exact ⟨w1, fun md hmd => wpX_scope hcm (p1 md hmd)⟩
  | ret => simp only [evC] at h; cases h; exact ⟨.refl _ _ _, fun md hmd => wpX_ret hcm ⟨rfl, rfl⟩⟩
  | reg st xs dead =>
   simp only [evC] at h
   split at h
   ·rename_i s1 he
    cases h
    refine ⟨?_, fun md hmd => ?_⟩
    ·-- what is written does not hang on the code
     exact (exOpsE_wr he : WrOk c0 s.wr s1.wr (aget s.S.h) (aget s1.S.h))
    ·intro c hcc F ρ a w ro hr hro
     obtain ⟨id, ops, rfl, hx⟩ := cm_reg hcm hcc
     refine (wpR_region (R := fun a' w' => Aft G md F ρ (aget s.S.h) w a.defers (delS s1.S dead) a' w') (compXOs_defer hx) ?_).mono ?_
     ·rw [List.range_eq_range']
      have := (exOpsE_sound (R := fun a' w' => Aft G md F ρ (aget s.S.h) w a.defers (delS s1.S dead) a' w') htb ops.toList 0 xs s s1 F ρ a w (by simp) hx he).2 hr (fun a' w' F' ρ' q1 q2 q3 q4 => ⟨F', ρ', delS_rs q1, q2, q3.kp, DX.of_eq q4⟩)
      simpa using this
     ·rintro e a' w' ⟨rfl, h⟩
      exact ⟨_, ⟨rfl, rfl⟩, h⟩
   ·cases h
  | draw st xs dep ord dead =>
   simp only [evC, cond_eq_ite] at h
   split at h
   ·rename_i hT
    split at h
    ·rename_i s1 es he
     split at h
     ·rename_i hH
      cases h
      refine ⟨(exEntsE_wr he : WrOk c0 s.wr s1.wr (aget s.S.h) (aget s1.S.h)), fun md hmd => ?_⟩
      intro c hcc F ρ a w ro hr hro
      obtain ⟨id, ops, rfl, hx, hd⟩ := cm_draw hcm hcc
      refine (wpR_draw (R := fun a' w' => Aft G md F ρ (aget s.S.h) w a.defers (delS s1.S dead) a' w') hmx (compXOs_defer hx) (drawE_sound htb hx hd hT he hH hr fun a' w' F' ρ' q1 q2 q3 q4 => ⟨F', ρ', delS_rs q1, q2, q3.kp, DX.of_eq q4⟩)).mono ?_
      rintro e a' w' ⟨rfl, h⟩
      exact ⟨_, ⟨rfl, rfl⟩, h⟩
     ·cases h
    ·cases h
   ·cases h
  | seq x y =>
   simp only [evC] at h
   split at h
   ·rename_i e1 s1 h1
    obtain ⟨w1, p1⟩ := ih _ _ _ _ h1
    split at h
    ·obtain ⟨w2, p2⟩ := ih _ _ _ _ h
     refine ⟨w1.trans w2, fun md hmd => wpX_seq hcm ((p1 md hmd).mono ?_)⟩
     rintro e' S' ⟨rfl, rfl⟩
     exact .inl ⟨rfl, p2 md hmd⟩
    ·rename_i hne
     cases h
     refine ⟨w1, fun md hmd => wpX_seq hcm ((p1 md hmd).mono ?_)⟩
     rintro e' S' ⟨rfl, rfl⟩
     exact .inr ⟨fun e => hne e, rfl, rfl⟩
   ·cases h
  | cond o x y =>
   simp only [evC] at h
   split at h
   ·rename_i v hv
    split at h
    ·obtain ⟨w1, p1⟩ := ih _ _ _ _ h
     exact ⟨w1, fun md hmd => wpX_cond hcm hv (fun _ => p1 md hmd) (fun e => by cases e)⟩
    ·obtain ⟨w1, p1⟩ := ih _ _ _ _ h
     exact ⟨w1, fun md hmd => wpX_cond hcm hv (fun e => by cases e) (fun _ => p1 md hmd)⟩
   ·cases h
  | block id x =>
   simp only [evC] at h
   split at h
   ·rename_i e1 s1 h1
    obtain ⟨w1, p1⟩ := ih _ _ _ _ h1
    split at h
    ·rename_i i
     cases h
     refine ⟨w1, fun md hmd => wpX_block hcm ((p1 md hmd).mono ?_)⟩
     rintro e' S' ⟨rfl, rfl⟩
     by_cases hi : i = id
     ·subst hi; exact .inl ⟨rfl, by rw [beq_self, cond_true], rfl⟩
     ·exact .inr ⟨fun e => hi (by cases e; rfl), by rw [beq_ne hi, cond_false], rfl⟩
    ·rename_i hne
     cases h
     refine ⟨w1, fun md hmd => wpX_block hcm ((p1 md hmd).mono ?_)⟩
     rintro e' S' ⟨rfl, rfl⟩
     exact .inr ⟨fun e => hne _ e, rfl, rfl⟩
   ·cases h
  | loop x =>
   simp only [evC] at h
   split at h
   ·rename_i e1 s1 h1
    obtain ⟨w1, p1⟩ := ih _ _ _ _ h1
    split at h
    ·obtain ⟨w2, p2⟩ := ih _ _ _ _ h
     refine ⟨w1.trans w2, fun md hmd => wpX_loop1 hcm ((p1 md hmd).mono ?_)⟩
     rintro e' S' ⟨rfl, rfl⟩
     exact .inl ⟨rfl, p2 md hmd⟩
    ·rename_i hne
     cases h
     refine ⟨w1, fun md hmd => wpX_loop1 hcm ((p1 md hmd).mono ?_)⟩
     rintro e' S' ⟨rfl, rfl⟩
     exact .inr ⟨fun e => hne e, rfl, rfl⟩
   ·cases h
  | rangeF g ps as bd =>
   simp only [evC] at h
   split at h
   ·rename_i f a0 cp hg
    simp only [cond_eq_ite] at h
    split at h
    ·rename_i hrid
     split at h
     ·rename_i hfr
      split at h
      ·rename_i D hD
       split at h
       ·rename_i hc2
        rw [Bool.and_eq_true] at hc2
        split at h
        ·rename_i l2 hl2
         split at h
         ·rename_i e2 hp
          split at h
          ·cases h
          ·rename_i hst
           cases h
           refine ⟨fun i hi hlt => ?_, fun md hmd => ?_⟩
           ·obtain ⟨q1, q2⟩ := addW_ok hi hlt
            simp only [keys, List.mem_cons, not_or] at q2
            refine ⟨q1, ?_⟩
            simp only [aget_aset]
            rw [upd_other _ _ q2.1, asets_aset, updL_nokey q2.2, upd_other _ _ q2.1]
           ·refine wpX_rangeF hcm hg (fun l0 e0 => ?_) (freshA_ok hfr _ (by simp)) (freshA_ok hc2.1) ?_ hl2 hp (fun e1 => hst (by rw [e1]; rfl)) ⟨rfl, rfl⟩
            ·rw [hmd] at e0
             rw [e0] at hrid
             simp only [ridB] at hrid
             split at hrid
             ·rename_i L hL; exact ⟨L, hL⟩
             ·cases hrid
            ·intro F ρ w xs hm hv
             exact callD_sound hm (fun _ _ h => h) hD (callD_cs htb hD) (freshA_ok hc2.1) hv
         ·cases h
        ·cases h
       ·cases h
      ·cases h
     ·cases h
    ·cases h
   ·cases h

theorem stOf_ready {n : Nat} (h : Nat.beq n 0 = true) : stOf n = .ready := by rw [Nat.eq_of_beq_eq_true h]; rfl

theorem updL_from {look A : Nat → Option HO} : ∀ {ws : List (Nat × HO)} {i : Nat}, (∀ p, p ∈ ws → look p.1 = some p.2) → i ∈ keys ws → updL A ws i = look i
 | [], i, h, hi => by simp [keys] at hi
 | (j, o) :: r, i, h, hi => by
  simp only [updL]
  by_cases hr : i ∈ keys r
  ·exact updL_from (fun p hp => h p (by simp [hp])) hr
  ·simp only [keys, List.mem_cons] at hi
   have : i = j := hi.resolve_right hr
   subst this
   rw [updL_nokey hr, upd_same]
   exact (h (i, o) (by simp)).symm

theorem wsOf_mem {h0 : List Nat} {c0 : Nat} {wr : List Nat} : ∀ {h : List (Nat × HO)}, (∀ p, p ∈ wsOf h0 c0 wr h → p ∈ h) ∧ (∀ i, i ∈ keys h → i ∉ keys (wsOf h0 c0 wr h) → i ∈ h0 ∧ i < c0 ∧ i ∉ wr)
 | [] => ⟨fun p hp => by simp [wsOf] at hp, fun i hi => by simp [keys] at hi⟩
 | (j, o) :: r => by
  obtain ⟨h1, h2⟩ := wsOf_mem (h0 := h0) (c0 := c0) (wr := wr) (h := r)
  simp only [wsOf]
  generalize hq : (cond (memN j h0) (cond (Nat.ble c0 j) true (memN j wr)) true) = q
  cases q with
  | true =>
   rw [cond_true]
   refine ⟨fun p hp => ?_, fun i hi hn => ?_⟩
   ·rcases List.mem_cons.1 hp with rfl | hp
    ·simp
    ·exact List.mem_cons_of_mem _ (h1 p hp)
   ·simp only [keys, List.mem_cons, not_or] at hi hn
    exact h2 i (hi.resolve_left hn.1) hn.2
  | false =>
   rw [cond_false]
   refine ⟨fun p hp => List.mem_cons_of_mem _ (h1 p hp), fun i hi hn => ?_⟩
   simp only [keys, List.mem_cons] at hi
   rcases hi with rfl | hi
   ·cases hm : memN i h0 with
    | false => rw [hm] at hq; cases hq
    | true =>
     rw [hm, cond_true] at hq
     cases hb : Nat.ble c0 i with
     | true => rw [hb] at hq; cases hq
     | false =>
      rw [hb, cond_false] at hq
      refine ⟨memN_iff.1 hm, ?_, fun h => by rw [memN_iff.2 h] at hq; cases hq⟩
      exact Nat.lt_of_not_le fun h => by rw [Nat.ble_eq_true_of_le h] at hb; cases hb
   ·exact h2 i hi hn

theorem readF_mem {look : Nat → Option HO} : ∀ {l : List Nat} {p : Nat × HO}, p ∈ readF look l → look p.1 = some p.2
 | [], p, h => by simp [readF] at h
 | i :: r, p, h => by
  simp only [readF] at h
  split at h
  ·rename_i o ho
   rcases List.mem_cons.1 h with rfl | h
   ·exact ho
   ·exact readF_mem h
  ·exact readF_mem h

theorem finE_ok {h : List (Nat × HO)} {c0 : Nat} {s : EvS} {vals : List AV} {D : Delta} (hD : finE (keys h) c0 s vals = some D) (hwr : WrOk c0 [] s.wr (aget h) (aget s.S.h)) {F' : Nat → Prop} {ρ' : Nat → Option Nat} {w2 : World}
  (q1 : MRel G F' ρ' (aget s.S.h) w2) {xs : List Value} (hv : RelVs w2 F' ρ' (aget s.S.h) vals xs) (q3 : Ext G F ρ w F' ρ' w2) (q4 : HKp (keys h) w ρ (aget h) w2 ρ' (aget s.S.h)) :
  D.cs = [] ∧ KD G F ρ (aget h) w D (unT xs) w2 := by
 unfold finE at hD
 simp only [cond_eq_ite] at hD
 split at hD
 ·rename_i hc
  rw [Bool.and_eq_true] at hc
  obtain ⟨c1, c2⟩ := hc
  cases hD
  refine ⟨rfl, ?_⟩
  generalize hh : readF (aget s.S.h) (reachW (aget s.S.h) 1000000 (refsL vals ++ keys h) []) = h2 at *
  have hsub : ∀ id o, aget h2 id = some o → aget s.S.h id = some o := fun id o e => readF_get (by rw [hh]; exact e)
  have hmem : ∀ p, p ∈ h2 → aget s.S.h p.1 = some p.2 := fun p hp => readF_mem (by rw [hh]; exact hp)
  have hks := allIn_ok c1
  have hin : ∀ i, i ∈ keys h2 → aget h2 i = aget s.S.h i ∧ partR h2 ρ' i = ρ' i := fun i hi => by
   obtain ⟨o, ho⟩ := key_aget.1 hi
   exact ⟨by rw [ho, hsub i o ho], by simp [partR, hi]⟩
  have heq : updL (aget h) (wsOf (keys h) c0 s.wr h2) = aget h2 := by
   funext i
   obtain ⟨m1, m2⟩ := wsOf_mem (h0 := keys h) (c0 := c0) (wr := s.wr) (h := h2)
   by_cases hi : i ∈ keys (wsOf (keys h) c0 s.wr h2)
   ·rw [updL_from (look := aget s.S.h) (fun p hp => hmem p (m1 p hp)) hi]
    refine ((hin i ?_).1).symm
    obtain ⟨o, ho⟩ := key_aget.1 hi
    have := m1 _ (aget_mem ho)
    clear ho
    revert this
    generalize h2 = l
    induction l with
    | nil => intro h; simp at h
    | cons p l ih =>
     obtain ⟨j, u⟩ := p
     intro h
     simp only [keys, List.mem_cons]
     rcases List.mem_cons.1 h with e | h
     ·cases e; exact .inl rfl
     ·exact .inr (ih h)
   ·rw [updL_nokey hi]
    by_cases hi2 : i ∈ keys h2
    ·obtain ⟨_, g2, g3⟩ := m2 i hi2 hi
     rw [(hin i hi2).1, (hwr i g3 g2).2]
    ·have h1 : aget h2 i = none := by
      cases e : aget h2 i with
      | none => rfl
      | some o => exact absurd (key_aget.2 ⟨o, e⟩) hi2
     rw [h1]
     cases e : aget h i with
     | none => rfl
     | some o => exact absurd (hks i (by simp [key_aget.2 ⟨o, e⟩])) hi2
  refine ⟨F', partR h2 ρ', ?_, ?_, ?_, ?_⟩
  ·simp only [heq]; exact q1.part hsub c2
  ·refine ⟨q3.io, q3.size, q3.same, q3.frz, q3.keep, q3.more, fun id b hb => q3.im id b ?_⟩
   simp only [partR] at hb
   split at hb
   ·exact hb
   ·cases hb
  ·simp only [heq]
   refine ⟨fun id o h1 h2 => ?_, fun id k h1 => ?_, q4.sz⟩
   ·have hk : id ∈ keys h := key_aget.2 ⟨o, h1⟩
    obtain ⟨o', g1, g2, g3⟩ := q4.box id o hk h1 h2
    obtain ⟨e1, e2⟩ := hin id (hks id (by simp [hk]))
    exact ⟨o', e1.trans g1, g2, e2.trans g3⟩
   ·have hk : id ∈ keys h := key_aget.2 ⟨_, h1⟩
    obtain ⟨k', g1, g2, g3, g4⟩ := q4.blk id k hk h1
    obtain ⟨e1, e2⟩ := hin id (hks id (by simp [hk]))
    refine ⟨k', e1.trans g1, g2, g3, fun e => ?_⟩
    obtain ⟨p1, p2, p3, p4⟩ := g4 e
    exact ⟨p1, p2, p3, e2.trans p4⟩
  ·simp only [heq]
   have := RelVs.move (D := fun i => i ∈ keys h2) hin hv (fun i hi => hks i (by simp [hi]))
   exact retV_rel this
 ·cases hD

end
end Go.Ab

/-
 Calls and rounds run by the function: sound.
-/
set_option linter.unusedVariables false
set_option linter.unusedSimpArgs false
namespace Go.Ab
open Go

section
variable {P : Program} {G : GL} {md : Md} {F : Nat → Prop} {ρ : Nat → Option Nat} {H : Nat → Option HO} {a : Act} {w w' : World} {ops : Array Oper} {tb : TB}

def XpOk (P : Program) (xp : Nat → Option FnE) : Prop := ∀ f fe, xp f = some fe → ∃ fn c, P.funcs[f]? = some fn ∧ (fn.name == "runtime.NumGoroutine") = false ∧ fn.body = some c ∧ cmOf P c fe.xc ∧ resT P fn.results.toList = some fe.rts ∧ fn.ntmps = fe.n
def NatOk (P : Program) (nat : Nat → List AV → Option AV) : Prop := ∀ f args v, nat f args = some v → ∀ F ρ H w (xs : Array Value), RelVs w F ρ H args xs.toList → ∃ y, (callFunc f xs).run P w = .ok (.value y) w ∧ RelV w F ρ H v y

theorem setPs_rel : ∀ {ps : List Nat} {qs : List Nat} {vs : List AV} {t : List (Nat × AV)} {tmps : Array Value} {xs : List Value}, RelVs w F ρ H vs xs → (∀ i v, aget t i = some v → RelV w F ρ H v (tmps.getD i undef)) → allLtP tmps.size ps = true →
  ∀ i v, aget (setPs t ps vs) i = some v → RelV w F ρ H v (((ps.zip xs).foldl (fun (tmps : Array Value) (p : Nat × Value) => tmps.setIfInBounds p.1 p.2) tmps).getD i undef)
 | [], qs, vs, t, tmps, xs, hv, ht, hl, i, v, h => by
  simp only [setPs] at h
  simpa using ht i v h
 | p :: ps, qs, [], t, tmps, xs, hv, ht, hl, i, v, h => by
  cases hv
  simp only [setPs] at h
  simpa using ht i v h
 | p :: ps, qs, u :: vs, t, tmps, xs, hv, ht, hl, i, v, h => by
  cases hv with
  | cons _ _ x xs hx hxs =>
   simp only [setPs] at h
   simp only [allLtP, cond_eq_ite] at hl
   split at hl
   ·rename_i hlt
    simp only [List.zip_cons_cons, List.foldl_cons]
    refine setPs_rel (qs := qs) hxs (fun j y hy => ?_) (by simpa using hl) i v h
    rw [aget_aset] at hy
    have hlt' : p < tmps.size := Nat.le_of_ble_eq_true hlt
    by_cases e : j = p
    ·subst e
     rw [upd_same] at hy; cases hy
     rw [Array.getD_eq_getD_getElem?, Array.getElem?_setIfInBounds_self, if_pos hlt']
     exact hx
    ·rw [upd_other _ _ e] at hy
     have := ht j y hy
     rw [Array.getD_eq_getD_getElem?] at this ⊢
     rw [Array.getElem?_setIfInBounds_ne (Ne.symm e)]
     exact this
   ·cases hl

theorem setPs_size {ps : List Nat} : ∀ {xs : List Value} {tmps : Array Value}, ((ps.zip xs).foldl (fun (tmps : Array Value) (p : Nat × Value) => tmps.setIfInBounds p.1 p.2) tmps).size = tmps.size := by
 intro xs tmps
 generalize ps.zip xs = l
 induction l generalizing tmps with
 | nil => rfl
 | cons p l ih => rw [List.foldl_cons, ih]; simp

theorem round_fold {ps : Array Nat} {xs : Array Value} {tmps : Array Value} : ((ps.zip xs).foldl (fun tmps (t, a) => tmps.setIfInBounds t a) tmps) = (ps.toList.zip xs.toList).foldl (fun (tmps : Array Value) (p : Nat × Value) => tmps.setIfInBounds p.1 p.2) tmps := by
 rw [← Array.foldl_toList, Array.toList_zip]

theorem yld_sound (hcm : G.cm = cmOf P) {id : Nat} {l : LoopS} {h : List (Nat × HO)} (hl : aget h id = some (.loop l)) (hst : Nat.beq l.st 0 = true) {args : List AV} (hlen : Nat.beq args.length l.ps.length = true) (hps : allLtP l.n l.ps = true)
  {S1 S2 : St} (h1 : WpX P G ⟨some id, keys h⟩ l.as ⟨setPs l.t l.ps args, h, l.n⟩ (fun e S' => e = .normal ∧ S' = S1)) {l1 : LoopS} (hl1 : aget S1.h id = some (.loop l1)) (hst1 : Nat.beq l1.st 0 = true)
  {e : Ex} (h2 : WpX P G ⟨some id, keys h⟩ l.bd { S1 with h := aset S1.h id (.loop { l1 with st := 1 }) } (fun e' S' => e' = e ∧ S' = S2)) {l2 : LoopS} (hl2 : aget S2.h id = some (.loop l2))
  {D : Delta} (hfin : ∀ F ρ w F' ρ' w2, MRel G F ρ (aget h) w → MRel G F' ρ' (aget (aset S2.h id (.loop { l2 with st := cond e.isN 0 2, pend := cond e.isN none (some e) }))) w2 → Ext G F ρ w F' ρ' w2 →
   HKp (keys h) w ρ (aget h) w2 ρ' (aget (aset S2.h id (.loop { l2 with st := cond e.isN 0 2, pend := cond e.isN none (some e) }))) → KD G F ρ (aget h) w D (.bool e.isN) w2) : SpecD P G (.yld id) args h D.v D.ws D.al := by
 intro F ρ w xs hm hv b hb
 obtain ⟨b', z1, z2, r, z3, z4⟩ := hm.heap id _ hl
 rw [hb] at z1; cases z1
 have hargs : xs.size = r.params.size := by
  have e1 := hv.len
  have e2 := Nat.eq_of_beq_eq_true hlen
  have e3 : r.params.toList.length = l.ps.length := by rw [z4.ps]
  simp at e1 e3
  omega
 refine .inr (.inr ⟨b, r.fn, _, r.assign, r.body, w, run_yield z3 hargs, fun c cs => ?_⟩)
 rw [round_fold, z4.ps]
 let tm : Array Value := (l.ps.zip xs.toList).foldl (fun (tmps : Array Value) (p : Nat × Value) => tmps.setIfInBounds p.1 p.2) r.tmps
 have htm : ∀ i v, aget (setPs l.t l.ps args) i = some v → RelV w F ρ (aget h) v (tm.getD i undef) := setPs_rel (qs := []) hv z4.tmps (by rw [z4.size]; exact hps)
 let b0 : Frame := { (default : Frame) with fn := r.fn, kind := .normal, roundOf := some b }
 have hb0 : Frame.round b r.fn tm r.assign r.body .normal = b0.atR { tmps := tm, defers := [] } [.code r.assign, .beginRound, .code r.body] := by simp [Frame.round, Frame.atR, b0]
 have hr0 : RS G F ρ ⟨setPs l.t l.ps args, h, l.n⟩ { tmps := tm, defers := [] } w := ⟨by show tm.size = l.n; rw [← z4.size]; exact setPs_size, htm, hm, ⟨[], by simp, rfl, fun r hr => by simp at hr⟩⟩
 have hro0 : RoOk ⟨some id, keys h⟩ ρ (aget h) (some b) := ⟨b, _, rfl, hb, hl, rfl⟩
 obtain ⟨e1, a1, w1, ⟨S', ⟨rfl, rfl⟩, F1, ρ1, r1, x1, k1, _⟩, harr⟩ := h1 r.assign z4.as F ρ _ w (some b) hr0 hro0 b0 [.beginRound, .code r.body] (c :: cs) rfl
 have hks : (⟨some id, keys h⟩ : Md).ks = id :: keys h := rfl
 rw [hks] at k1
 have hid1 : ρ1 id = some b := by
  obtain ⟨o', g1, g2, g3⟩ := k1.box id _ (by simp) hl rfl
  exact g3.trans hb
 -- the record is busy
 obtain ⟨b1, y1, y2, rr, y3, y4⟩ := r1.mem.heap id _ hl1
 rw [hid1] at y1; cases y1
 have hbr := run_beginRound (P := P) y3 (by rw [y4.st]; exact stOf_ready hst1)
 have hlt1 := lt_of_some y3
 obtain ⟨m2, x2, k2⟩ := r1.mem.write (w' := w1.putObj b (.loop { rr with state := .busy })) (o' := .loop { l1 with st := 1 }) hl1 hid1 y2 (World.putObj_heap_same hlt1) (fun j hj => World.putObj_heap_other hj) World.putObj_size ⟨rfl, rfl, fun _ => ⟨rfl, Nat.le_refl _⟩⟩
  (fun cs ty fz h => by rw [y3] at h; cases h) rfl (fun k h => by cases h)
  (fun hk => ⟨b, hid1, y2, _, World.putObj_heap_same hlt1, ⟨rfl, y4.pend, y4.size, fun t v h => (y4.tmps t v h).mono (fun b' hb' => World.putObj_heap_other (fun (e : b' = b) => y2 (by rw [← e]; exact hb'))) (fun _ h => h) hk, y4.ps, y4.as, y4.bd⟩⟩)
 rw [← aget_aset] at m2 k2
 have r2 : RS G F1 ρ1 { S' with h := aset S'.h id (.loop { l1 with st := 1 }) } a1 (w1.putObj b (.loop { rr with state := .busy })) := ⟨r1.size, fun t v h => (r1.tmps t v h).mono x2.frz x2.keep k2, m2, r1.defs.ext x2 rfl⟩
 have hro2 : RoOk ⟨some id, keys h⟩ ρ1 (aget (aset S'.h id (.loop { l1 with st := 1 }))) (some b) := ⟨b, .loop { l1 with st := 1 }, rfl, hid1, by rw [aget_aset, upd_same], rfl⟩
 have s1 : Steps P (lone (b0.atR a1 [.beginRound, .code r.body]) (c :: cs) w1) (lone (b0.atR a1 [.code r.body]) (c :: cs) (w1.putObj b (.loop { rr with state := .busy }))) := .one (stepR_beginRound rfl hbr)
 obtain ⟨e2, a2, w3, ⟨S'', ⟨rfl, rfl⟩, F3, ρ3, r3, x3, k3, _⟩, harr2⟩ := h2 r.body z4.bd F1 ρ1 _ _ (some b) r2 hro2 b0 [] (c :: cs) rfl
 rw [hks] at k3
 have hid3 : ρ3 id = some b := by
  obtain ⟨o', g1, g2, g3⟩ := k3.box id (.loop { l1 with st := 1 }) (by simp) (by simp only; rw [aget_aset, upd_same]) rfl
  exact g3.trans hid1
 obtain ⟨b3, u1, u2, rq, u3, u4⟩ := r3.mem.heap id _ hl2
 rw [hid3] at u1; cases u1
 have hlt3 := lt_of_some u3
 -- how the round is left
 let jump : Option Code := cond e2.isN none (some e2.code)
 have hend := run_endRound (P := P) jump u3
 have hjn : jump.isNone = e2.isN := by cases e2 <;> rfl
 rw [hjn] at hend
 obtain ⟨m4, x4, k4⟩ := r3.mem.write (w' := w3.putObj b (.loop { rq with state := if e2.isN then .ready else .done, pending := jump })) (o' := .loop { l2 with st := cond e2.isN 0 2, pend := cond e2.isN none (some e2) }) hl2 hid3 u2 (World.putObj_heap_same hlt3) (fun j hj => World.putObj_heap_other hj) World.putObj_size ⟨rfl, rfl, fun _ => ⟨rfl, Nat.le_refl _⟩⟩
  (fun cs ty fz h => by rw [u3] at h; cases h) rfl (fun k h => by cases h)
  (fun hk => ⟨b, hid3, u2, _, World.putObj_heap_same hlt3, ⟨by cases e2 <;> rfl, by cases e2 <;> rfl, u4.size, fun t v h => (u4.tmps t v h).mono (fun b' hb' => World.putObj_heap_other (fun (e : b' = b) => u2 (by rw [← e]; exact hb'))) (fun _ h => h) hk, u4.ps, u4.as, u4.bd⟩⟩)
 rw [← aget_aset] at m4 k4
 have hkp : HKp (keys h) w ρ (aget h) (w3.putObj b (.loop { rq with state := if e2.isN then .ready else .done, pending := jump })) ρ3 (aget (aset S''.h id (.loop { l2 with st := cond e2.isN 0 2, pend := cond e2.isN none (some e2) }))) := by
  have sub : ∀ {w w' : World} {ρ ρ' : Nat → Option Nat} {h1 h2 : Nat → Option HO}, HKp (id :: keys h) w ρ h1 w' ρ' h2 → HKp (keys h) w ρ h1 w' ρ' h2 := fun k => ⟨fun i o hi => k.box i o (by simp [hi]), fun i o hi => k.blk i o (by simp [hi]), k.sz⟩
  exact (((sub k1).trans k2.kp).trans (sub k3)).trans k4.kp
 have hK := hfin F ρ w F3 ρ3 _ hm m4 (((x1.trans x2).trans x3).trans x4) hkp
 refine ⟨.bool e2.isN, _, hK, ?_⟩
 have hfirst : Steps P (lone (Frame.round b r.fn tm r.assign r.body .normal) (c :: cs) w) (lone (b0.atR a1 [.code r.body]) (c :: cs) (w1.putObj b (.loop { rr with state := .busy }))) := by
  rw [hb0]; exact Steps.trans harr s1
 cases e2 with
 | normal => exact hfirst.trans (Steps.trans harr2 (.one (stepR_round_end rfl rfl hend)))
 | ret =>
  obtain ⟨todo, hs⟩ := harr2
  exact hfirst.trans (hs.trans (.one (stepR_round_ret rfl rfl hend)))
 | exit i =>
  obtain ⟨k0, hk0, hs⟩ := harr2
  exact hfirst.trans (hs.trans (.one (stepR_round_exit rfl rfl (by rw [hk0]; rfl) hend)))

theorem finE_cs {h0 : List Nat} {c0 : Nat} {s : EvS} {vals : List AV} {D : Delta} (hD : finE h0 c0 s vals = some D) : D.cs = [] := by
 unfold finE at hD
 simp only [cond_eq_ite] at hD
 split at hD
 ·cases hD; rfl
 ·cases hD

theorem evCall_sound (hcm : G.cm = cmOf P) (hmx : P.follows .mixedOrders = true) {xp : Nat → Option FnE} (hxp : XpOk P xp) {nat : Nat → List AV → Option AV} (hnat : NatOk P nat) (fuel : Nat) : ∀ n, TBok P G (evCall G xp nat fuel n) := by
 intro n
 induction n with
 | zero => intro c h cv args D hD; simp [evCall] at hD
 | succ n ih =>
  intro c h cv args D hD
  simp only [evCall] at hD
  split at hD
  ·rename_i f x1 x2
   split at hD
   ·rename_i v hv
    cases hD
    refine ⟨rfl, fun F ρ w xs hm hvs => ?_⟩
    obtain ⟨y, h1, h2⟩ := hnat f args v hv F ρ (aget h) w xs hvs
    exact .inl ⟨_, y, w, h1, .inl rfl, F, ρ, hm, Ext.refl _ _ _, HKeep.refl _ _ _, h2⟩
   ·split at hD
    ·rename_i fe hfe
     obtain ⟨fn, cd, g1, g2, g3, g4, g5, g6⟩ := hxp f fe hfe
     rw [cond_eq_ite] at hD
     split at hD
     ·rename_i hc
      split at hD
      ·rename_i e s he
       obtain ⟨hw, hW⟩ := evC_sound hcm hmx ih _ _ _ _ _ he
       have hW' := hW ⟨none, keys h⟩ rfl
       simp only at hw hW'
       rw [← g6] at hW' hc
       have fin : (e = .ret ∨ e = .normal) → ∀ vals, resV s.S fe.rts = some vals → finE (keys h) c s vals = some D → D.cs = [] ∧ SpecD P G (.fn f x1 x2) args h D.v D.ws D.al := by
        intro hex vals hvals hfin
        have hcs : D.cs = [] := finE_cs hfin
        refine ⟨hcs, fun F ρ w xs hm hv => ?_⟩
        refine body_core hcm (md := ⟨none, keys h⟩) (h := h) (R := fun S' => S' = s.S) rfl g1 g2 g3 g4 g5 hc (hW'.mono ?_) (fun S' e => ⟨vals, by rw [e]; exact hvals⟩) hm hv ?_
        ·rintro e' S' ⟨rfl, rfl⟩; exact ⟨hex, rfl⟩
        ·rintro S' vals' xs w2 F' ρ' rfl hv' q1 q2 q3 q4
         rw [hvals] at hv'; cases hv'
         exact (finE_ok (D := D) hfin hw q1 q2 q3 q4).2
       split at hD
       ·cases hD
       ·rename_i hne
        have hex : e = .ret ∨ e = .normal := by
         cases e with
         | normal => exact .inr rfl
         | ret => exact .inl rfl
         | exit i => exact absurd rfl (hne i)
        split at hD
        ·rename_i vals hvals
         exact fin hex vals hvals hD
        ·cases hD
      ·cases hD
     ·cases hD
    ·cases hD
  ·rename_i id
   split at hD
   ·rename_i l hl
    rw [cond_eq_ite] at hD
    split at hD
    ·rename_i hc
     simp only [Bool.and_eq_true] at hc
     split at hD
     ·rename_i e1 s1 he1
      split at hD
      ·split at hD
       ·rename_i l1 hl1
        rw [cond_eq_ite] at hD
        split at hD
        ·rename_i hst1
         split at hD
         ·rename_i e s2 he2
          split at hD
          ·rename_i l2 hl2
           obtain ⟨hw1, hW1⟩ := evC_sound hcm hmx ih _ _ _ _ _ he1
           obtain ⟨hw2, hW2⟩ := evC_sound hcm hmx ih _ _ _ _ _ he2
           have hcs : D.cs = [] := finE_cs hD
           refine ⟨hcs, yld_sound hcm hl hc.1 hc.2.1 hc.2.2 (hW1 ⟨some id, keys h⟩ rfl) hl1 hst1 (hW2 ⟨some id, keys h⟩ rfl) hl2 ?_⟩
           intro F ρ w F' ρ' w2 hm q1 q3 q4
           refine (finE_ok (D := D) hD ?_ q1 (xs := [.bool e.isN]) (.cons _ _ _ _ (.imm _ _ (.bool _)) .nil) q3 q4).2
           have hmid : WrOk c s1.wr (addW c s1.wr [(id, .loop l1)]) (aget s1.S.h) (aget (aset s1.S.h id (.loop { l1 with st := 1 }))) := fun i hi hlt => by
            obtain ⟨k1, k2⟩ := addW_ok hi hlt
            simp only [keys, List.mem_cons, List.not_mem_nil, or_false] at k2
            exact ⟨k1, by rw [aget_aset, upd_other _ _ k2]⟩
           have hall := (hw1.trans hmid).trans hw2
           intro i hi hlt
           obtain ⟨k1, k2⟩ := hall i hi hlt
           have hne : i ≠ id := fun e => by
            obtain ⟨k3, _⟩ := hw2 i hi hlt
            obtain ⟨_, k5⟩ := addW_ok k3 hlt
            exact k5 (by simp [keys, e])
           refine ⟨k1, ?_⟩
           simp only
           rw [aget_aset, upd_other _ _ hne]; exact k2
          ·cases hD
         ·cases hD
        ·cases hD
       ·cases hD
      ·cases hD
     ·cases hD
    ·cases hD
   ·cases hD
  ·cases hD

theorem specP_of_ev (hcm : G.cm = cmOf P) (hmx : P.follows .mixedOrders = true) {xp : Nat → Option FnE} (hxp : XpOk P xp) {nat : Nat → List AV → Option AV} (hnat : NatOk P nat) {fuel n c f : Nat} {args : List AV} {D : Delta}
  (h : evCall G xp nat fuel n c [] (.fn f [] []) args = some D) {blks : List Blk} (hb : D.ws = hsL blks 0) : SpecP P G f args D.v blks := by
 intro F w vs hm hv
 obtain ⟨_, hs⟩ := evCall_sound hcm hmx hxp hnat fuel n c [] _ _ _ h
 refine NextOk.mono (hs F noR w vs (hm : MRel G F noR (aget []) w) hv.toVs) ?_
 rintro y w' ⟨F', ρ', q1, q2, _, q4⟩
 have e : updL (aget ([] : List (Nat × HO))) D.ws = hsH blks := by
  rw [hb]
  funext i
  have : updL (aget ([] : List (Nat × HO))) (hsL blks 0) i = aget (hsL blks 0) i := by
   by_cases hi : i ∈ keys (hsL blks 0)
   ·refine updL_from (look := aget (hsL blks 0)) ?_ hi
    have key : ∀ (l : List Blk) (j : Nat) (p : Nat × HO), p ∈ hsL l j → aget (hsL l j) p.1 = some p.2 ∧ j ≤ p.1 := by
     intro l
     induction l with
     | nil => intro j p hp; simp [hsL] at hp
     | cons b l ih =>
      intro j p hp
      simp only [hsL] at hp ⊢
      simp only [aget]
      rcases List.mem_cons.1 hp with rfl | hp
      ·exact ⟨by rw [beq_self, cond_true], Nat.le_refl _⟩
      ·obtain ⟨k1, k2⟩ := ih (j + 1) p hp
       exact ⟨by rw [beq_ne (by omega), cond_false]; exact k1, by omega⟩
    exact fun p hp => (key blks 0 p hp).1
   ·rw [updL_nokey hi]
    cases e : aget (hsL blks 0) i with
    | none => rfl
    | some o => exact absurd (key_aget.2 ⟨o, e⟩) hi
  rw [this, hsL_eq]
 simp only at q1 q4
 rw [e] at q1 q4
 exact ⟨F', ρ', q1, q2, q4⟩

end
end Go.Ab

/-
 Functions that are known: what a program's functions compile to.
-/
set_option linter.unusedVariables false
set_option linter.unusedSimpArgs false
namespace Go.Ab
open Go

def chkF (P : Program) (hs : Hints) (fn : Func) : Option FnE :=
 match fn.body with
 | some c => match compC P hs c, resT P fn.results.toList with
  | some xc, some rts => cond (fn.name == "runtime.NumGoroutine") none (some ⟨fn.ntmps, rts, xc⟩)
  | _, _ => none
 | none => none
def FnOk (P : Program) (f : Nat) (fe : FnE) : Prop := ∃ fn c, P.funcs[f]? = some fn ∧ (fn.name == "runtime.NumGoroutine") = false ∧ fn.body = some c ∧ cmOf P c fe.xc ∧ resT P fn.results.toList = some fe.rts ∧ fn.ntmps = fe.n
theorem fnOk_of {P : Program} {f : Nat} {fn : Func} {hs : Hints} {fe : FnE} (h1 : P.funcs[f]? = some fn) (h2 : chkF P hs fn = some fe) : FnOk P f fe := by
 unfold chkF at h2
 split at h2
 ·rename_i c hc
  split at h2
  ·rename_i xc rts hx hr
   rw [cond_eq_ite] at h2
   split at h2
   ·cases h2
   ·rename_i hn
    cases h2
    exact ⟨fn, c, h1, by simpa using hn, hc, ⟨hs, hx⟩, hr, rfl⟩
  ·cases h2
 ·cases h2
def AllF (P : Program) : List (Nat × FnE) → Prop
 | [] => True
 | (f, fe) :: r => FnOk P f fe ∧ AllF P r
theorem xpOk_of {P : Program} : ∀ {l : List (Nat × FnE)}, AllF P l → XpOk P (aget l)
 | [], h, f, fe, hf => by cases hf
 | (g, fe) :: r, h, f, fe', hf => by
  simp only [aget] at hf
  by_cases e : g = f
  ·subst e; rw [beq_self, cond_true] at hf; cases hf; exact h.1
  ·rw [beq_ne e, cond_false] at hf; exact xpOk_of h.2 f fe' hf

end Go.Ab

/-
 Contracts by a table: what a call's condition names comes from the table.
-/
set_option linter.unusedVariables false
set_option linter.unusedSimpArgs false
namespace Go.Ab
open Go

structure Ct where
 v : AV
 bs : List Blk
 p : Option Prop
structure Cx where
 v : AV
 ws : List (Nat × HO)
 p : Option Prop
structure Tab where
 ct : Nat → List AV → Option Ct
 ch : List (Nat × HO) → AV → List AV → Option Cx
def optP : Option Prop → Prop
 | some p => p
 | none => True
structure TabOk (P : Program) (G : GL) (T : Tab) : Prop where
 ct : ∀ f args r, T.ct f args = some r → optP r.p → SpecP P G f args r.v r.bs
 ch : ∀ h cv args r, T.ch h cv args = some r → optP r.p → SpecD P G cv args h r.v r.ws []

def Tab.ctP (T : Tab) (f : Nat) (args : List AV) : Option (AV × List Blk) :=
 match T.ct f args with
 | some r => some (r.v, r.bs)
 | none => none
def Tab.chP (T : Tab) (_ : Nat) (h : List (Nat × HO)) (cv : AV) (args : List AV) : Option Delta :=
 match T.ch h cv args with
 | some r => some { v := r.v, ws := r.ws, al := [], cs := [] }
 | none => none

inductive Dr where
 | plain
 | wrap
 | val (l : List AV)
 | pk (b : Bool)
 | heap
def drD (T : Tab) : Dr → Dir
 | .plain => .ctr T.ctP
 | .wrap => .wrap
 | .val l => .val l
 | .pk b => .pk b
 | .heap => .tab false T.chP
def drsD (T : Tab) : List (Nat × (GDir × Dr)) → Dirs
 | [] => [(0, (.auto, .ctr T.ctP))]
 | (s, (g, d)) :: r => (s, (g, drD T d)) :: drsD T r

theorem drs_of (T : Tab) (s : Nat) : ∀ (l : List (Nat × (GDir × Dr))), ∃ d, (dirOf (drsD T l) s).2 = drD T d := by
 have key : ∀ (k : Nat) (l : List (Nat × (GDir × Dr))) (x : GDir × Dir), aget (drsD T l) k = some x → ∃ d, x.2 = drD T d := by
  intro k l
  induction l with
  | nil =>
   intro x h
   simp only [drsD, aget, cond_eq_ite] at h
   split at h
   ·cases h; exact ⟨.plain, rfl⟩
   ·cases h
  | cons p r ih =>
   obtain ⟨s', g, d⟩ := p
   intro x h
   simp only [drsD, aget, cond_eq_ite] at h
   split at h
   ·cases h; exact ⟨d, rfl⟩
   ·exact ih x h
 intro l
 unfold dirOf
 split
 ·rename_i x hx; exact key _ _ _ hx
 ·cases h : aget (drsD T l) 0 with
  | none =>
   exfalso
   induction l with
   | nil => simp [drsD, aget, cond_eq_ite] at h
   | cons p r ih =>
    obtain ⟨s', g, d⟩ := p
    simp only [drsD, aget, cond_eq_ite] at h
    split at h
    ·cases h
    ·refine ih ?_ h
     rename_i hs _
     simp only [drsD, aget, cond_eq_ite] at hs
     split at hs
     ·cases hs
     ·exact hs
  | some x => exact key _ _ _ h

def CF (T : Tab) : Cd → Prop
 | .call f args v bs => ∃ r, T.ct f args = some r ∧ v = r.v ∧ bs = r.bs
 | .callD cv args h v ws al => ∃ r, T.ch h cv args = some r ∧ v = r.v ∧ ws = r.ws ∧ al = []
 | .ge _ _ c => CF T c
 | _ => True

section
variable {T : Tab}

theorem cf_nil : ∀ c ∈ ([] : List Cd), CF T c := fun c h => by simp at h
theorem cf_app {a b : List Cd} (h : ∀ c ∈ a, CF T c) (k : ∀ c ∈ b, CF T c) : ∀ c ∈ a ++ b, CF T c := fun c hc => by
 rcases List.mem_append.1 hc with h' | h'
 ·exact h c h'
 ·exact k c h'
theorem cf_cons {a : Cd} {b : List Cd} (h : CF T a) (k : ∀ c ∈ b, CF T c) : ∀ c ∈ a :: b, CF T c := fun c hc => by
 rcases List.mem_cons.1 hc with rfl | h'
 ·exact h
 ·exact k c h'

theorem frz_cf {look : Nat → Option HO} : ∀ n, (∀ v r, frzV look n v = some r → ∀ c ∈ r.2.2, CF T c) ∧ (∀ l r, frzL look n l = some r → ∀ c ∈ r.2.2, CF T c) ∧ (∀ k r, frzC look n k = some r → ∀ c ∈ r.2.2, CF T c) := by
 intro n
 induction n with
 | zero => exact ⟨fun v r h => (by cases h), fun v r h => (by cases h), fun v r h => (by cases h)⟩
 | succ n ih =>
  obtain ⟨i1, i2, i3⟩ := ih
  refine ⟨fun v r h => ?_, fun l r h => ?_, fun k r h => ?_⟩
  ·cases v with
   | ptr id off =>
    simp only [frzV] at h
    split at h
    ·split at h
     ·rename_i hc; cases h; exact i3 _ _ hc
     ·cases h
    ·cases h
   | ep id m off =>
    simp only [frzV] at h
    split at h
    ·split at h
     ·rename_i hc; cases h; exact cf_cons trivial (i3 _ _ hc)
     ·cases h
    ·cases h
   | full id len =>
    simp only [frzV] at h
    split at h
    ·split at h
     ·rename_i hc; cases h; exact cf_cons trivial (i3 _ _ hc)
     ·cases h
    ·cases h
   | sl id off len cap =>
    simp only [frzV] at h
    split at h
    ·split at h
     ·rename_i hc; cases h; exact cf_cons trivial (i3 _ _ hc)
     ·cases h
    ·cases h
   | fullc id len cap =>
    simp only [frzV] at h
    split at h
    ·split at h
     ·rename_i hc; cases h; exact cf_cons trivial (i3 _ _ hc)
     ·cases h
    ·cases h
   | fn f a b =>
    simp only [frzV] at h
    split at h
    ·rename_i h1 h2; cases h; exact cf_app (i2 _ _ h1) (i2 _ _ h2)
    ·cases h
   | agg l =>
    simp only [frzV] at h
    split at h
    ·rename_i h1; cases h; exact i2 _ _ h1
    ·cases h
   | tup l =>
    simp only [frzV] at h
    split at h
    ·rename_i h1; cases h; exact i2 _ _ h1
    ·cases h
   | iface t x =>
    simp only [frzV] at h
    split at h
    ·rename_i h1; cases h; exact fun c hc => i1 _ _ h1 c hc
    ·cases h
   | may _ _ => cases h
   | yld _ => cases h
   | spare _ => cases h
   | mp _ => cases h
   | undef => cases h
   | _ => cases h; exact cf_nil
  ·cases l with
   | nil => cases h; exact cf_nil
   | cons v t =>
    simp only [frzL] at h
    split at h
    ·rename_i h1 h2; cases h; exact cf_app (i1 _ _ h1) (i2 _ _ h2)
    ·cases h
  ·cases k with
   | cells l =>
    simp only [frzC] at h
    split at h
    ·rename_i h1; cases h; exact i2 _ _ h1
    ·cases h
   | _ => cases h; exact cf_nil

theorem frzV_cf {look : Nat → Option HO} {n : Nat} {v : AV} {x ids cs} (h : frzV look n v = some (x, ids, cs)) : ∀ c ∈ cs, CF T c := (frz_cf n).1 _ _ h
theorem frzL_cf {look : Nat → Option HO} {n : Nat} {v : List AV} {x ids cs} (h : frzL look n v = some (x, ids, cs)) : ∀ c ∈ cs, CF T c := (frz_cf n).2.1 _ _ h
theorem frzC_cf {look : Nat → Option HO} {n : Nat} {v : Cont} {x ids cs} (h : frzC look n v = some (x, ids, cs)) : ∀ c ∈ cs, CF T c := (frz_cf n).2.2 _ _ h

theorem srcOf_cf {look : Nat → Option HO} {sz : Nat} {v : AV} {x m cs} (h : srcOf look sz v = some (x, m, cs)) : ∀ c ∈ cs, CF T c := by
 unfold srcOf at h
 split at h
 ·cases h; exact cf_cons trivial cf_nil
 ·split at h
  ·rw [cond_eq_ite] at h
   split at h
   ·cases h; exact cf_cons trivial cf_nil
   ·cases h
  ·cases h
 ·split at h
  ·rw [cond_eq_ite] at h
   split at h
   ·cases h; exact cf_cons trivial cf_nil
   ·cases h
  ·cases h
 ·cases h

theorem getAll_cf {l : List AV} : ∀ {vs : List AV} {i : Nat}, ∀ c ∈ getAll l i vs, CF T c
 | [], i => cf_nil
 | v :: r, i => cf_cons trivial getAll_cf

def Plain (D : Delta) : Prop := ∀ (T : Tab), ∀ c ∈ D.cs, CF T c
theorem val_plain {v : AV} {cs : List Cd} {D : Delta} (h : Delta.val v cs = some D) (hc : ∀ c ∈ cs, CF T c) : ∀ c ∈ D.cs, CF T c := by cases h; exact hc
theorem intRes_cf {d : Dir} {k : IntKind} {n : Int} {cs : List Cd} {D : Delta} (h : intRes d k n cs = some D) (hc : ∀ c ∈ cs, CF T c) : ∀ c ∈ D.cs, CF T c := by
 unfold intRes at h
 split at h
 ·cases h; exact hc
 ·cases h; exact hc
 ·cases h; exact cf_cons trivial hc

theorem bin_cf {d : Dir} {op : BinOp} {x y : AV} {D : Delta} (h : opBin d op x y = some D) : ∀ c ∈ D.cs, CF T c := by
 unfold opBin at h
 split at h
 ·split at h
  ·exact intRes_cf h (cf_cons trivial cf_nil)
  ·cases h; exact cf_cons trivial cf_nil
  ·rw [cond_eq_ite] at h
   split at h
   ·unfold binI at h
    split at h <;> first
     | (exact intRes_cf h cf_nil)
     | (exact intRes_cf h (cf_cons trivial cf_nil))
     | (cases h; done)
     | (cases h; first | exact cf_nil | exact cf_cons trivial cf_nil)
   ·cases h
 ·unfold binS at h
  split at h <;> first | (cases h; done) | (cases h; first | exact cf_nil | exact cf_cons trivial cf_nil)
 ·cases h

theorem slice_cf {look : Nat → Option HO} {d : Dir} {sz : Nat} {lo hi mx : Bool} {x : AV} {bs : List AV} {D : Delta} (h : opSlice look d sz lo hi mx x bs = some D) : ∀ c ∈ D.cs, CF T c := by
 have win : ∀ {id off len cap sz : Nat} {lo hi mx : Bool} {bs : List AV} {D : Delta}, opWin id off len cap sz lo hi mx bs = some D → ∀ c ∈ D.cs, CF T c := by
  intro id off len cap sz lo hi mx bs D h
  unfold opWin at h
  repeat' split at h
  all_goals first | (cases h; done) | (cases h; first | exact cf_nil | (repeat' (first | exact cf_nil | exact trivial | apply cf_cons)))
 unfold opSlice at h
 split at h
 ·exact win h
 ·split at h
  ·rename_i hz
   have hc := frzV_cf (T := T) hz
   repeat' split at h
   all_goals first | (cases h; done) | (cases h; apply cf_app hc; (repeat' (first | exact cf_nil | exact trivial | apply cf_cons)))
  ·rename_i hz
   have hc := frzV_cf (T := T) hz
   repeat' split at h
   all_goals first | (cases h; done) | (cases h; apply cf_app hc; (repeat' (first | exact cf_nil | exact trivial | apply cf_cons)))
  ·cases h

theorem sliceS_cf {look : Nat → Option HO} {d : Dir} {sz : Nat} {lo hi mx : Bool} {x : AV} {bs : List AV} {D : Delta} (h : opSliceS look d sz lo hi mx x bs = some D) : ∀ c ∈ D.cs, CF T c := by
 unfold opSliceS at h
 repeat' split at h
 all_goals first
  | (cases h; done)
  | exact slice_cf h
  | (cases h; (repeat' (first | exact cf_nil | exact trivial | apply cf_cons)))

theorem append_cf {site : Nat} {look : Nat → Option HO} {d : Dir} {sz b_ ty : Nat} {x y : AV} {D : Delta} (h : opAppend site look d sz b_ ty x y = some D) : ∀ c ∈ D.cs, CF T c := by
 unfold opAppend at h
 split at h
 ·rename_i hs
  have h1 := srcOf_cf (T := T) hs
  split at h
  ·rename_i hz
   have h2 := frzC_cf (T := T) hz
   simp only [cond_eq_ite] at h
   repeat' split at h
   all_goals first
    | (cases h; done)
    | (cases h; (repeat' (first | exact cf_app h1 h2 | exact trivial | apply cf_cons)))
  ·cases h
 ·cases h

theorem call_cf {site : Nat} {look : Nat → Option HO} {dr : Dr} {f : Nat} {vs : List AV} {D : Delta} (h : opCall site look (drD T dr) f vs = some D) : ∀ c ∈ D.cs, CF T c := by
 unfold opCall at h
 split at h
 ·rename_i ct hd
  have hct : ct = T.ctP := by cases dr <;> first | (cases hd; rfl) | cases hd
  subst hct
  split at h
  ·rename_i hz
   have h1 := frzL_cf (T := T) hz
   split at h
   ·rename_i v hs hv
    cases h
    refine cf_app h1 (cf_cons ?_ cf_nil)
    unfold Tab.ctP at hv
    split at hv
    ·rename_i r hr
     cases hv
     exact ⟨r, hr, rfl, rfl⟩
    ·cases hv
   ·cases h
  ·cases h
 ·rename_i hd
  cases dr <;> cases hd
 ·rename_i tb hd
  have htb : tb = T.chP := by cases dr <;> first | (cases hd; rfl) | cases hd
  subst htb
  unfold opCallD at h
  simp only [cond_eq_ite] at h
  repeat' split at h
  all_goals first
   | (cases h; done)
   | skip
  rename_i D' hD' _
  cases h
  unfold Tab.chP at hD'
  split at hD'
  ·rename_i r hr
   cases hD'
   exact cf_cons ⟨r, hr, rfl, rfl, rfl⟩ cf_nil
  ·cases hD'
 ·cases h

theorem callD_cf {site : Nat} {look : Nat → Option HO} {cv : AV} {vs : List AV} {D : Delta} (h : opCallD site look T.chP cv vs = some D) : ∀ c ∈ D.cs, CF T c := by
 unfold opCallD at h
 simp only [cond_eq_ite] at h
 repeat' split at h
 all_goals first
  | (cases h; done)
  | skip
 rename_i D' hD' _
 cases h
 unfold Tab.chP at hD'
 split at hD'
 ·rename_i r hr
  cases hD'
  exact cf_cons ⟨r, hr, rfl, rfl, rfl⟩ cf_nil
 ·cases hD'

theorem execD_cf {site : Nat} {look : Nat → Option HO} {op : XOp} {dr : Dr} {vs : List AV} {D : Delta} (h : execD site look op (drD T dr) vs = some D) : ∀ c ∈ D.cs, CF T c := by
 have key : ∀ {look : Nat → Option HO} {d : Dir} {c : Cont} {off : Nat} {agg : Option Nat} {D : Delta}, loadC d c off agg = some D → ∀ c ∈ D.cs, CF T c := by
  intro look d c off agg D h
  unfold loadC at h
  split at h
  ·unfold loadV at h
   simp only [cond_eq_ite] at h
   repeat' split at h
   all_goals first
    | (cases h; done)
    | (cases h; first | exact cf_cons trivial cf_nil | exact getAll_cf)
  ·split at h <;> (cases h; exact cf_cons trivial cf_nil)
 cases op with
 | bin op x y => exact bin_cf h
 | slice sz x lo hi mx => exact sliceS_cf h
 | append sz b_ ty x y => exact append_cf h
 | call f as => exact call_cf h
 | callv x as =>
  simp only [execD, opCallv] at h
  split at h
  ·exact call_cf h
  ·split at h
   ·rename_i tb hd
    have htb : tb = T.chP := by cases dr <;> first | (cases hd; rfl) | cases hd
    subst htb
    exact callD_cf h
   ·cases h
  ·cases h
 | load agg a =>
  simp only [execD, opLoad] at h
  repeat' split at h
  all_goals first
   | (cases h; done)
   | exact key (look := look) h
   | skip
  rename_i r hr
  cases h
  exact cf_cons trivial (key (look := look) hr)
 | un op x =>
  simp only [execD, opUn] at h
  split at h
  ·exact intRes_cf h cf_nil
  ·cases h; exact cf_nil
  ·cases h
 | conv k x =>
  simp only [execD, opConv] at h
  split at h
  ·exact intRes_cf h cf_nil
  ·cases h
 | slicea n sz x lo hi mx =>
  simp only [execD, opSlicea, opWin] at h
  simp only [cond_eq_ite] at h
  repeat' split at h
  all_goals first | (cases h; done) | (cases h; first | exact cf_nil | (repeat' (first | exact cf_nil | exact trivial | apply cf_cons)))
 | bstr x =>
  simp only [execD, opBstr] at h
  split at h
  ·cases h; exact cf_nil
  ·split at h
   ·rename_i hs
    rw [cond_eq_ite] at h
    split at h
    ·cases h; exact srcOf_cf hs
    ·cases h
   ·cases h
 | rstr x =>
  simp only [execD, opRstr] at h
  split at h
  ·cases h; exact cf_nil
  ·cases h
 | copy sz x y =>
  simp only [execD, opCopy] at h
  split at h
  ·rename_i hs
   split at h
   ·rename_i hz
    split at h
    ·split at h
     ·rw [cond_eq_ite] at h
      split at h
      ·split at h
       ·cases h
        exact cf_cons trivial (cf_cons trivial (cf_app (srcOf_cf hs) (frzC_cf hz)))
       ·cases h
      ·cases h
     ·cases h
    ·cases h
   ·cases h
  ·cases h
 | eqa neq n ls x y =>
  simp only [execD, opEqa, cond_eq_ite] at h
  repeat' split at h
  all_goals first | (cases h; done) | (cases h; exact cf_nil)
 | _ =>
  simp only [execD, opPickD, opPick, opNew, opStore, opEqb, opIsnil, opFieldA, opField, opIdxA, opIdxD, opIdx, opIdxs, opSlices, opLens, opLen, opCap, opBuild, opBuildS, opMks, opExt, opNilck, opRng, opNxt, opGrowz, opMkmap, opMlook, opMput, opMdel, opMlen, Delta.val, cond_eq_ite] at h
  repeat' split at h
  all_goals first
   | (cases h; done)
   | (cases h; first | exact cf_nil | (repeat' (first | exact cf_nil | exact trivial | apply cf_cons)))

theorem stripC_cf : ∀ {rt : List (Nat × AV)} {cs : List Cd}, (∀ c ∈ cs, CF T c) → ∀ c ∈ stripC rt cs, CF T c
 | [], cs, h => h
 | (_, v) :: r, cs, h => by
  simp only [stripC]
  unfold stripB
  split
  ·exact cf_cons trivial (stripC_cf h)
  ·exact stripC_cf h
theorem geC_cf {b want : Bool} : ∀ {cs : List Cd}, (∀ c ∈ cs, CF T c) → ∀ c ∈ geC b want cs, CF T c
 | [], h => cf_nil
 | x :: r, h => cf_cons (h x (by simp)) (geC_cf fun c hc => h c (by simp [hc]))

theorem runU_cf {G : GL} {site : Nat} {look : Nat → Option HO} {op : XOp} {dr : Dr} {rt : List (Nat × AV)} {D : Delta} (h : runU G site look op (drD T dr) rt = some D) : ∀ c ∈ D.cs, CF T c := by
 unfold runU at h
 split at h
 ·exact execD_cf h
 ·split at h
  ·rename_i D' hD'
   cases h
   exact stripC_cf (execD_cf hD')
  ·cases h
theorem runG_cf {G : GL} {site : Nat} {look : Nat → Option HO} {x : XO} {g : GDir} {dr : Dr} {gv : Option AV} {rt : List (Nat × AV)} {D : Delta} (h : runG G site look x g (drD T dr) gv rt = some D) : ∀ c ∈ D.cs, CF T c := by
 unfold runG at h
 split at h
 ·exact runU_cf h
 ·split at h
  ·split at h
   ·rw [cond_eq_ite] at h
    split at h
    ·exact runU_cf h
    ·cases h; exact cf_nil
   ·split at h
    ·rename_i hD; cases h; exact cf_cons trivial (runU_cf hD)
    ·cases h
   ·split at h
    ·rename_i hD; cases h; exact cf_cons trivial (runU_cf hD)
    ·cases h
   ·cases h; exact cf_cons trivial cf_nil
   ·split at h
    ·rename_i hD
     split at h
     ·cases h; exact geC_cf (runU_cf hD)
     ·cases h
    ·cases h
  ·cases h

theorem exOps_cf {G : GL} {ds : List (Nat × (GDir × Dr))} : ∀ {xs : List XO} {s : Nat} {S S' : St} {cs : List Cd}, exOps G (drsD T ds) xs s S = some (S', cs) → ∀ c ∈ cs, CF T c
 | [], s, S, S', cs, h => by cases h; exact cf_nil
 | x :: r, s, S, S', cs, h => by
  simp only [exOps] at h
  split at h
  ·rename_i D hD
   rw [cond_eq_ite] at h
   split at h
   ·split at h
    ·rename_i hr
     cases h
     obtain ⟨d, hd⟩ := drs_of T s ds
     rw [hd] at hD
     exact cf_app (runG_cf hD) (exOps_cf hr)
    ·cases h
   ·cases h
  ·cases h
theorem exEnts_cf {G : GL} {ds : List (Nat × (GDir × Dr))} {xs : List XO} {s : Nat} : ∀ {ord : List Nat} {S S' : St} {es : List (Nat × Ent)} {cs : List Cd}, exEnts G (drsD T ds) xs s ord S = some (S', es, cs) → ∀ c ∈ cs, CF T c
 | [], S, S', es, cs, h => by cases h; exact cf_nil
 | i :: r, S, S', es, cs, h => by
  simp only [exEnts] at h
  split at h
  ·rename_i x hx
   split at h
   ·rename_i e he
    split at h
    ·rename_i hr
     cases h
     refine cf_app ?_ (exEnts_cf hr)
     simp only [mkEnt] at he
     split at he
     ·rename_i D hD
      rw [cond_eq_ite] at he
      split at he
      ·cases he
       obtain ⟨d, hd⟩ := drs_of T (s + i) ds
       rw [hd] at hD
       exact runG_cf hD
      ·cases he
     ·cases he
    ·cases h
   ·cases h
  ·cases h
end
end Go.Ab
