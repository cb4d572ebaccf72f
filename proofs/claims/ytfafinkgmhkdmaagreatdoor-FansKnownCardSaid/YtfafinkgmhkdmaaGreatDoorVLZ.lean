/-
 The chapter's examples hold (the function is run by the kernel).
-/
import Derived.Test.YtfafinkgmhkdmaaGreatDoorVC15Z
set_option maxRecDepth 1000000
set_option linter.unusedVariables false
namespace Go.Proofs.YtfafinkgmhkdmaaGreatDoor.X
open Go Go.Ab
def C9D (f:Nat)(args:List AV):Option (AV×List Blk):=
 cond (Nat.beq f 41) (match args with
  |[.agg [.imm (.ints .i64 a) n _,.imm (.ints .u8 k) m _]]=>cond (Nat.beq n a.length&&(Nat.beq m k.length&&(Nat.ble n 1000&&Nat.ble m 1000))) (some (A89 a.reverse (A0k k),[])) none
  |_=>none) none
theorem C1l:∀f args v hs,C9D f args=some (v,hs)->SpecP Tryz.prog G f args v hs:=by
 intro f args v hs h;unfold C9D at h;rw[cond_eq_ite]at h;split at h
 ·rename_i hf;have hf:=Nat.eq_of_beq_eq_true hf;subst hf;split at h
  ·rw[cond_eq_ite]at h;split at h
   ·rename_i hc;simp only[Bool.and_eq_true]at hc;cases h;have h1:=Nat.eq_of_beq_eq_true hc.1;have h2:=Nat.eq_of_beq_eq_true hc.2.1;have h3:=Nat.le_of_ble_eq_true hc.2.2.1;have h4:=Nat.le_of_ble_eq_true hc.2.2.2;subst h1;subst h2;exact(D2z _ _ (by omega) (by omega)).caps
   ·cases h
  ·cases h
 ·cases h
theorem C9E:SpecP Tryz.prog G 12 [AV.agg [AV.imm (Cont.ints IntKind.i64 [2,1,3,2]) 4 (none),AV.imm (Cont.ints IntKind.u8 [1,2,2,2]) 4 (none)],.int .i64 1] (AV.tup [AV.agg [AV.imm (Cont.ints IntKind.i64 [1,3,2,2]) 4 (some 4),AV.imm (Cont.ints IntKind.u8 [2,2,2,1]) 4 (some 4)],AV.int IntKind.i64 0]) []:=C0W [2,1,3,2] [1,2,2,2] 1 (by decide) (by decide)
theorem C9F:SpecP Tryz.prog G 12 [AV.agg [AV.imm (Cont.ints IntKind.i64 [2,1,3,2]) 4 (some 4),AV.imm (Cont.ints IntKind.u8 [1,2,2,2]) 4 (some 4)],.int .i64 1] (AV.tup [AV.agg [AV.imm (Cont.ints IntKind.i64 [1,3,2,2]) 4 (some 4),AV.imm (Cont.ints IntKind.u8 [2,2,2,1]) 4 (some 4)],AV.int IntKind.i64 0]) []:=(C0W [2,1,3,2] [1,2,2,2] 1 (by decide) (by decide)).caps
def B6k (f:Nat)(args:List AV):Option (AV×List Blk):=
 cond (Nat.beq f 24) (match args with
  |[.imm (.vals l) n _]=>cond (Nat.beq l.length (3*n)) (some (.imm (.vals l) n (some n),[])) none
  |_=>none) none
theorem B8i:∀f args v hs,B6k f args=some (v,hs)->SpecP Tryz.prog G f args v hs:=by
 intro f args v hs h;unfold B6k at h;rw[cond_eq_ite]at h;split at h
 ·rename_i hf;have hf:=Nat.eq_of_beq_eq_true hf;subst hf;split at h
  ·rw[cond_eq_ite]at h;split at h
   ·rename_i l n c hl;cases h;exact D2J [.imm (.vals l) n c] ⟨.imm (.vals l) n (some n),[],some (l.length=3*n)⟩ rfl (Nat.eq_of_beq_eq_true hl)
   ·cases h
  ·cases h
 ·cases h
theorem B84:B2x Tryz.prog G (A6Z B6k):=A5n B8i
theorem C9G:evM G (aget xpl) B0l (A6Z B6k) 100000 1000 1 [] (.fn 6 [] []) [AV.agg [AV.imm (Cont.ints IntKind.i64 [2,1,3,2]) 4 (none),AV.imm (Cont.ints IntKind.u8 [1,2,2,2]) 4 (none)],.int .i64 1]=some ⟨AV.tup [AV.agg [AV.int IntKind.i64 2,AV.int IntKind.i64 2,AV.imm (Cont.vals [AV.int IntKind.i64 2,AV.int IntKind.u8 0,AV.int IntKind.u8 2,AV.int IntKind.i64 4,AV.int IntKind.u8 1,AV.int IntKind.u8 2,AV.int IntKind.i64 6,AV.int IntKind.u8 1,AV.int IntKind.u8 2,AV.int IntKind.i64 8,AV.int IntKind.u8 1,AV.int IntKind.u8 2,AV.int IntKind.i64 10,AV.int IntKind.u8 1,AV.int IntKind.u8 2,AV.int IntKind.i64 12,AV.int IntKind.u8 2,AV.int IntKind.u8 1,AV.int IntKind.i64 13,AV.int IntKind.u8 2,AV.int IntKind.u8 1]) 7 (some 7)],AV.int IntKind.i64 0],[],[],[]⟩:=by kernel_rfl
theorem C9H:SpecP Tryz.prog G 6 [AV.agg [AV.imm (Cont.ints IntKind.i64 [2,1,3,2]) 4 (none),AV.imm (Cont.ints IntKind.u8 [1,2,2,2]) 4 (none)],.int .i64 1] (AV.tup [AV.agg [AV.int IntKind.i64 2,AV.int IntKind.i64 2,AV.imm (Cont.vals [AV.int IntKind.i64 2,AV.int IntKind.u8 0,AV.int IntKind.u8 2,AV.int IntKind.i64 4,AV.int IntKind.u8 1,AV.int IntKind.u8 2,AV.int IntKind.i64 6,AV.int IntKind.u8 1,AV.int IntKind.u8 2,AV.int IntKind.i64 8,AV.int IntKind.u8 1,AV.int IntKind.u8 2,AV.int IntKind.i64 10,AV.int IntKind.u8 1,AV.int IntKind.u8 2,AV.int IntKind.i64 12,AV.int IntKind.u8 2,AV.int IntKind.u8 1,AV.int IntKind.i64 13,AV.int IntKind.u8 2,AV.int IntKind.u8 1]) 7 (some 7)],AV.int IntKind.i64 0]) []:=A0A hcm hmx B0O A1W B84 C9G rfl
theorem C9I:evM G (aget xpl) B0l (A6Z B6k) 100000 1000 1 [] (.fn 6 [] []) [AV.agg [AV.imm (Cont.ints IntKind.i64 [2,1,3,2]) 4 (some 4),AV.imm (Cont.ints IntKind.u8 [1,2,2,2]) 4 (some 4)],.int .i64 1]=some ⟨AV.tup [AV.agg [AV.int IntKind.i64 2,AV.int IntKind.i64 2,AV.imm (Cont.vals [AV.int IntKind.i64 2,AV.int IntKind.u8 0,AV.int IntKind.u8 2,AV.int IntKind.i64 4,AV.int IntKind.u8 1,AV.int IntKind.u8 2,AV.int IntKind.i64 6,AV.int IntKind.u8 1,AV.int IntKind.u8 2,AV.int IntKind.i64 8,AV.int IntKind.u8 1,AV.int IntKind.u8 2,AV.int IntKind.i64 10,AV.int IntKind.u8 1,AV.int IntKind.u8 2,AV.int IntKind.i64 12,AV.int IntKind.u8 2,AV.int IntKind.u8 1,AV.int IntKind.i64 13,AV.int IntKind.u8 2,AV.int IntKind.u8 1]) 7 (some 7)],AV.int IntKind.i64 0],[],[],[]⟩:=by kernel_rfl
theorem C9J:SpecP Tryz.prog G 6 [AV.agg [AV.imm (Cont.ints IntKind.i64 [2,1,3,2]) 4 (some 4),AV.imm (Cont.ints IntKind.u8 [1,2,2,2]) 4 (some 4)],.int .i64 1] (AV.tup [AV.agg [AV.int IntKind.i64 2,AV.int IntKind.i64 2,AV.imm (Cont.vals [AV.int IntKind.i64 2,AV.int IntKind.u8 0,AV.int IntKind.u8 2,AV.int IntKind.i64 4,AV.int IntKind.u8 1,AV.int IntKind.u8 2,AV.int IntKind.i64 6,AV.int IntKind.u8 1,AV.int IntKind.u8 2,AV.int IntKind.i64 8,AV.int IntKind.u8 1,AV.int IntKind.u8 2,AV.int IntKind.i64 10,AV.int IntKind.u8 1,AV.int IntKind.u8 2,AV.int IntKind.i64 12,AV.int IntKind.u8 2,AV.int IntKind.u8 1,AV.int IntKind.i64 13,AV.int IntKind.u8 2,AV.int IntKind.u8 1]) 7 (some 7)],AV.int IntKind.i64 0]) []:=A0A hcm hmx B0O A1W B84 C9I rfl
def D2K:List Mem:=[⟨12,[AV.agg [AV.imm (Cont.ints IntKind.i64 [2,1,3,2]) 4 (none),AV.imm (Cont.ints IntKind.u8 [1,2,2,2]) 4 (none)],.int .i64 1],AV.tup [AV.agg [AV.imm (Cont.ints IntKind.i64 [1,3,2,2]) 4 (some 4),AV.imm (Cont.ints IntKind.u8 [2,2,2,1]) 4 (some 4)],AV.int IntKind.i64 0],[]⟩,
 ⟨12,[AV.agg [AV.imm (Cont.ints IntKind.i64 [2,1,3,2]) 4 (some 4),AV.imm (Cont.ints IntKind.u8 [1,2,2,2]) 4 (some 4)],.int .i64 1],AV.tup [AV.agg [AV.imm (Cont.ints IntKind.i64 [1,3,2,2]) 4 (some 4),AV.imm (Cont.ints IntKind.u8 [2,2,2,1]) 4 (some 4)],AV.int IntKind.i64 0],[]⟩,
 ⟨6,[AV.agg [AV.imm (Cont.ints IntKind.i64 [2,1,3,2]) 4 (none),AV.imm (Cont.ints IntKind.u8 [1,2,2,2]) 4 (none)],.int .i64 1],AV.tup [AV.agg [AV.int IntKind.i64 2,AV.int IntKind.i64 2,AV.imm (Cont.vals [AV.int IntKind.i64 2,AV.int IntKind.u8 0,AV.int IntKind.u8 2,AV.int IntKind.i64 4,AV.int IntKind.u8 1,AV.int IntKind.u8 2,AV.int IntKind.i64 6,AV.int IntKind.u8 1,AV.int IntKind.u8 2,AV.int IntKind.i64 8,AV.int IntKind.u8 1,AV.int IntKind.u8 2,AV.int IntKind.i64 10,AV.int IntKind.u8 1,AV.int IntKind.u8 2,AV.int IntKind.i64 12,AV.int IntKind.u8 2,AV.int IntKind.u8 1,AV.int IntKind.i64 13,AV.int IntKind.u8 2,AV.int IntKind.u8 1]) 7 (some 7)],AV.int IntKind.i64 0],[]⟩,
 ⟨6,[AV.agg [AV.imm (Cont.ints IntKind.i64 [2,1,3,2]) 4 (some 4),AV.imm (Cont.ints IntKind.u8 [1,2,2,2]) 4 (some 4)],.int .i64 1],AV.tup [AV.agg [AV.int IntKind.i64 2,AV.int IntKind.i64 2,AV.imm (Cont.vals [AV.int IntKind.i64 2,AV.int IntKind.u8 0,AV.int IntKind.u8 2,AV.int IntKind.i64 4,AV.int IntKind.u8 1,AV.int IntKind.u8 2,AV.int IntKind.i64 6,AV.int IntKind.u8 1,AV.int IntKind.u8 2,AV.int IntKind.i64 8,AV.int IntKind.u8 1,AV.int IntKind.u8 2,AV.int IntKind.i64 10,AV.int IntKind.u8 1,AV.int IntKind.u8 2,AV.int IntKind.i64 12,AV.int IntKind.u8 2,AV.int IntKind.u8 1,AV.int IntKind.i64 13,AV.int IntKind.u8 2,AV.int IntKind.u8 1]) 7 (some 7)],AV.int IntKind.i64 0],[]⟩]
theorem C5h:B7l Tryz.prog G D2K:=⟨C9E,C9F,C9H,C9J,trivial⟩
def C1m (f:Nat)(args:List AV):Option (AV×List Blk):=match B3N 63 f args with
 |some r=>some r
 |none=>match C9D f args with
  |some r=>some r
  |none=>B9B D2K f args
theorem B8j:∀f args v hs,C1m f args=some (v,hs)->SpecP Tryz.prog G f args v hs:=by
 intro f args v hs h;unfold C1m at h;split at h
 ·rename_i r hr;cases h;exact B5C _ _ _ _ hr
 ·split at h
  ·rename_i r hr;cases h;exact C1l _ _ _ _ hr
  ·exact B1v C5h _ _ _ _ h
def me1:TB:=A6Z C1m
theorem C9K:B2x Tryz.prog G me1:=A5n B8j
theorem D4L:evM G (aget xpl) B0l me1 100000 1000 1 [] (.fn 11 [] []) []=some ⟨.bool true,[],[],[]⟩:=by kernel_rfl
theorem C8B:SpecP Tryz.prog G 11 [] (.bool true) []:=A0A hcm hmx B0O A1W C9K D4L rfl
theorem ct27:A06 Tryz.prog G 11 e12:=by
 intro args r h hp;unfold e12 at h;split at h<;>cases h;exact C8B
end Go.Proofs.YtfafinkgmhkdmaaGreatDoor.X
