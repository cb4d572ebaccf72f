/-
 The chapter's examples hold (the function is run by the kernel).
-/
import Derived.Test.YtfafinkgmhkdmaaGreatDoorVNZ
import Derived.Test.YtfafinkgmhkdmaaGreatDoorVC15Z
import Derived.Test.YtfafinkgmhkdmaaGreatDoorVD8Z
set_option maxRecDepth 1000000
set_option linter.unusedVariables false
namespace Go.Proofs.YtfafinkgmhkdmaaGreatDoor.X
open Go Go.Ab
/-- Mirror of a fan at hand. -/
def mirF (f:Nat)(args:List AV):Option (AV×List Blk):=
 cond (Nat.beq f 41) (match args with
  |[.agg [.imm (.ints .i64 a) n _,.imm (.ints .u8 k) m _]]=>cond (Nat.beq n a.length&&(Nat.beq m k.length&&(Nat.ble n 1000&&Nat.ble m 1000))) (some (fanC a.reverse (mirK' k),[])) none
  |_=>none) none
theorem mirF_ok:∀f args v hs,mirF f args=some (v,hs)→SpecP Tryz.prog G f args v hs:=by
 intro f args v hs h
 unfold mirF at h
 rw[cond_eq_ite]at h
 split at h
 ·rename_i hf
  have hf:=Nat.eq_of_beq_eq_true hf
  subst hf
  split at h
  ·rw[cond_eq_ite]at h
   split at h
   ·rename_i hc
    simp only[Bool.and_eq_true]at hc
    cases h
    have h1:=Nat.eq_of_beq_eq_true hc.1
    have h2:=Nat.eq_of_beq_eq_true hc.2.1
    have h3:=Nat.le_of_ble_eq_true hc.2.2.1
    have h4:=Nat.le_of_ble_eq_true hc.2.2.2
    subst h1;subst h2
    exact(sp20 _ _ (by omega) (by omega)).caps
   ·cases h
  ·cases h
 ·cases h
theorem me_tn:SpecP Tryz.prog G 12 [AV.agg [AV.imm (Cont.ints IntKind.i64 [2,1,3,2]) 4 (none),AV.imm (Cont.ints IntKind.u8 [1,2,2,2]) 4 (none)],.int .i64 1] (AV.tup [AV.agg [AV.imm (Cont.ints IntKind.i64 [1,3,2,2]) 4 (some 4),AV.imm (Cont.ints IntKind.u8 [2,2,2,1]) 4 (some 4)],AV.int IntKind.i64 0]) []:=sp19f [2,1,3,2] [1,2,2,2] 1 (by decide) (by decide)
theorem me_ts:SpecP Tryz.prog G 12 [AV.agg [AV.imm (Cont.ints IntKind.i64 [2,1,3,2]) 4 (some 4),AV.imm (Cont.ints IntKind.u8 [1,2,2,2]) 4 (some 4)],.int .i64 1] (AV.tup [AV.agg [AV.imm (Cont.ints IntKind.i64 [1,3,2,2]) 4 (some 4),AV.imm (Cont.ints IntKind.u8 [2,2,2,1]) 4 (some 4)],AV.int IntKind.i64 0]) []:=(sp19f [2,1,3,2] [1,2,2,2] 1 (by decide) (by decide)).caps
/-- Clip of a list of creases. -/
def clipF (f:Nat)(args:List AV):Option (AV×List Blk):=
 cond (Nat.beq f 24) (match args with
  |[.imm (.vals l) n _]=>cond (Nat.beq l.length (3*n)) (some (.imm (.vals l) n (some n),[])) none
  |_=>none) none
theorem clipF_ok:∀f args v hs,clipF f args=some (v,hs)→SpecP Tryz.prog G f args v hs:=by
 intro f args v hs h
 unfold clipF at h
 rw[cond_eq_ite]at h
 split at h
 ·rename_i hf
  have hf:=Nat.eq_of_beq_eq_true hf
  subst hf
  split at h
  ·rw[cond_eq_ite]at h
   split at h
   ·rename_i l n c hl
    cases h
    exact ct54 [.imm (.vals l) n c] ⟨.imm (.vals l) n (some n),[],some (l.length=3*n)⟩ rfl (Nat.eq_of_beq_eq_true hl)
   ·cases h
  ·cases h
 ·cases h
theorem meclOk:TBok Tryz.prog G (memoT clipF):=memoT_ok clipF_ok
theorem ev_pn:evM G (aget xpl) nats (memoT clipF) 100000 1000 1 [] (.fn 6 [] []) [AV.agg [AV.imm (Cont.ints IntKind.i64 [2,1,3,2]) 4 (none),AV.imm (Cont.ints IntKind.u8 [1,2,2,2]) 4 (none)],.int .i64 1]=some ⟨AV.tup [AV.agg [AV.int IntKind.i64 2,AV.int IntKind.i64 2,AV.imm (Cont.vals [AV.int IntKind.i64 2,AV.int IntKind.u8 0,AV.int IntKind.u8 2,AV.int IntKind.i64 4,AV.int IntKind.u8 1,AV.int IntKind.u8 2,AV.int IntKind.i64 6,AV.int IntKind.u8 1,AV.int IntKind.u8 2,AV.int IntKind.i64 8,AV.int IntKind.u8 1,AV.int IntKind.u8 2,AV.int IntKind.i64 10,AV.int IntKind.u8 1,AV.int IntKind.u8 2,AV.int IntKind.i64 12,AV.int IntKind.u8 2,AV.int IntKind.u8 1,AV.int IntKind.i64 13,AV.int IntKind.u8 2,AV.int IntKind.u8 1]) 7 (some 7)],AV.int IntKind.i64 0],[],[],[]⟩:=by kernel_rfl
theorem me_pn:SpecP Tryz.prog G 6 [AV.agg [AV.imm (Cont.ints IntKind.i64 [2,1,3,2]) 4 (none),AV.imm (Cont.ints IntKind.u8 [1,2,2,2]) 4 (none)],.int .i64 1] (AV.tup [AV.agg [AV.int IntKind.i64 2,AV.int IntKind.i64 2,AV.imm (Cont.vals [AV.int IntKind.i64 2,AV.int IntKind.u8 0,AV.int IntKind.u8 2,AV.int IntKind.i64 4,AV.int IntKind.u8 1,AV.int IntKind.u8 2,AV.int IntKind.i64 6,AV.int IntKind.u8 1,AV.int IntKind.u8 2,AV.int IntKind.i64 8,AV.int IntKind.u8 1,AV.int IntKind.u8 2,AV.int IntKind.i64 10,AV.int IntKind.u8 1,AV.int IntKind.u8 2,AV.int IntKind.i64 12,AV.int IntKind.u8 2,AV.int IntKind.u8 1,AV.int IntKind.i64 13,AV.int IntKind.u8 2,AV.int IntKind.u8 1]) 7 (some 7)],AV.int IntKind.i64 0]) []:=specP_of_evM hcm hmx xpOk natsOk meclOk ev_pn rfl
theorem ev_ps:evM G (aget xpl) nats (memoT clipF) 100000 1000 1 [] (.fn 6 [] []) [AV.agg [AV.imm (Cont.ints IntKind.i64 [2,1,3,2]) 4 (some 4),AV.imm (Cont.ints IntKind.u8 [1,2,2,2]) 4 (some 4)],.int .i64 1]=some ⟨AV.tup [AV.agg [AV.int IntKind.i64 2,AV.int IntKind.i64 2,AV.imm (Cont.vals [AV.int IntKind.i64 2,AV.int IntKind.u8 0,AV.int IntKind.u8 2,AV.int IntKind.i64 4,AV.int IntKind.u8 1,AV.int IntKind.u8 2,AV.int IntKind.i64 6,AV.int IntKind.u8 1,AV.int IntKind.u8 2,AV.int IntKind.i64 8,AV.int IntKind.u8 1,AV.int IntKind.u8 2,AV.int IntKind.i64 10,AV.int IntKind.u8 1,AV.int IntKind.u8 2,AV.int IntKind.i64 12,AV.int IntKind.u8 2,AV.int IntKind.u8 1,AV.int IntKind.i64 13,AV.int IntKind.u8 2,AV.int IntKind.u8 1]) 7 (some 7)],AV.int IntKind.i64 0],[],[],[]⟩:=by kernel_rfl
theorem me_ps:SpecP Tryz.prog G 6 [AV.agg [AV.imm (Cont.ints IntKind.i64 [2,1,3,2]) 4 (some 4),AV.imm (Cont.ints IntKind.u8 [1,2,2,2]) 4 (some 4)],.int .i64 1] (AV.tup [AV.agg [AV.int IntKind.i64 2,AV.int IntKind.i64 2,AV.imm (Cont.vals [AV.int IntKind.i64 2,AV.int IntKind.u8 0,AV.int IntKind.u8 2,AV.int IntKind.i64 4,AV.int IntKind.u8 1,AV.int IntKind.u8 2,AV.int IntKind.i64 6,AV.int IntKind.u8 1,AV.int IntKind.u8 2,AV.int IntKind.i64 8,AV.int IntKind.u8 1,AV.int IntKind.u8 2,AV.int IntKind.i64 10,AV.int IntKind.u8 1,AV.int IntKind.u8 2,AV.int IntKind.i64 12,AV.int IntKind.u8 2,AV.int IntKind.u8 1,AV.int IntKind.i64 13,AV.int IntKind.u8 2,AV.int IntKind.u8 1]) 7 (some 7)],AV.int IntKind.i64 0]) []:=specP_of_evM hcm hmx xpOk natsOk meclOk ev_ps rfl
def mems:List Mem:=[⟨12,[AV.agg [AV.imm (Cont.ints IntKind.i64 [2,1,3,2]) 4 (none),AV.imm (Cont.ints IntKind.u8 [1,2,2,2]) 4 (none)],.int .i64 1],AV.tup [AV.agg [AV.imm (Cont.ints IntKind.i64 [1,3,2,2]) 4 (some 4),AV.imm (Cont.ints IntKind.u8 [2,2,2,1]) 4 (some 4)],AV.int IntKind.i64 0],[]⟩,
 ⟨12,[AV.agg [AV.imm (Cont.ints IntKind.i64 [2,1,3,2]) 4 (some 4),AV.imm (Cont.ints IntKind.u8 [1,2,2,2]) 4 (some 4)],.int .i64 1],AV.tup [AV.agg [AV.imm (Cont.ints IntKind.i64 [1,3,2,2]) 4 (some 4),AV.imm (Cont.ints IntKind.u8 [2,2,2,1]) 4 (some 4)],AV.int IntKind.i64 0],[]⟩,
 ⟨6,[AV.agg [AV.imm (Cont.ints IntKind.i64 [2,1,3,2]) 4 (none),AV.imm (Cont.ints IntKind.u8 [1,2,2,2]) 4 (none)],.int .i64 1],AV.tup [AV.agg [AV.int IntKind.i64 2,AV.int IntKind.i64 2,AV.imm (Cont.vals [AV.int IntKind.i64 2,AV.int IntKind.u8 0,AV.int IntKind.u8 2,AV.int IntKind.i64 4,AV.int IntKind.u8 1,AV.int IntKind.u8 2,AV.int IntKind.i64 6,AV.int IntKind.u8 1,AV.int IntKind.u8 2,AV.int IntKind.i64 8,AV.int IntKind.u8 1,AV.int IntKind.u8 2,AV.int IntKind.i64 10,AV.int IntKind.u8 1,AV.int IntKind.u8 2,AV.int IntKind.i64 12,AV.int IntKind.u8 2,AV.int IntKind.u8 1,AV.int IntKind.i64 13,AV.int IntKind.u8 2,AV.int IntKind.u8 1]) 7 (some 7)],AV.int IntKind.i64 0],[]⟩,
 ⟨6,[AV.agg [AV.imm (Cont.ints IntKind.i64 [2,1,3,2]) 4 (some 4),AV.imm (Cont.ints IntKind.u8 [1,2,2,2]) 4 (some 4)],.int .i64 1],AV.tup [AV.agg [AV.int IntKind.i64 2,AV.int IntKind.i64 2,AV.imm (Cont.vals [AV.int IntKind.i64 2,AV.int IntKind.u8 0,AV.int IntKind.u8 2,AV.int IntKind.i64 4,AV.int IntKind.u8 1,AV.int IntKind.u8 2,AV.int IntKind.i64 6,AV.int IntKind.u8 1,AV.int IntKind.u8 2,AV.int IntKind.i64 8,AV.int IntKind.u8 1,AV.int IntKind.u8 2,AV.int IntKind.i64 10,AV.int IntKind.u8 1,AV.int IntKind.u8 2,AV.int IntKind.i64 12,AV.int IntKind.u8 2,AV.int IntKind.u8 1,AV.int IntKind.i64 13,AV.int IntKind.u8 2,AV.int IntKind.u8 1]) 7 (some 7)],AV.int IntKind.i64 0],[]⟩]
theorem memsOk:MemOk Tryz.prog G mems:=⟨me_tn,me_ts,me_pn,me_ps,trivial⟩
def bothF (f:Nat)(args:List AV):Option (AV×List Blk):=match joinF 63 f args with
 |some r=>some r
 |none=>match mirF f args with
  |some r=>some r
  |none=>memF mems f args
theorem bothF_ok:∀f args v hs,bothF f args=some (v,hs)→SpecP Tryz.prog G f args v hs:=by
 intro f args v hs h
 unfold bothF at h
 split at h
 ·rename_i r hr;cases h;exact joinOk _ _ _ _ hr
 ·split at h
  ·rename_i r hr;cases h;exact mirF_ok _ _ _ _ hr
  ·exact memF_ok memsOk _ _ _ _ h
def me1:TB:=memoT bothF
theorem me1Ok:TBok Tryz.prog G me1:=memoT_ok bothF_ok
theorem ev27:evM G (aget xpl) nats me1 100000 1000 1 [] (.fn 11 [] []) []=some ⟨.bool true,[],[],[]⟩:=by kernel_rfl
theorem sp27:SpecP Tryz.prog G 11 [] (.bool true) []:=specP_of_evM hcm hmx xpOk natsOk me1Ok ev27 rfl
theorem ct27:CtOk Tryz.prog G 11 e12:=by
 intro args r h hp
 unfold e12 at h
 split at h<;>cases h
 exact sp27
end Go.Proofs.YtfafinkgmhkdmaaGreatDoor.X
