/-
 Stacks that are moved: the contracts of the inverse and of the reference's image.
-/
import Derived.Test.YtmnaghfndigfkaaDoorMDZ
import Derived.Test.YtmnaghfndigfkaaDoorLSZ
set_option maxRecDepth 1000000
set_option linter.unusedVariables false
set_option linter.unusedSimpArgs false
namespace Go.Proofs.YtmnaghfndigfkaaDoor.X
open Go Go.Ab

/-! ### Inverse -/
theorem noMeM:TBok Tryd.prog G (fun _ _ _ _=>none):=fun _ _ _ _ _ h=>by cases h
theorem ev114_0:evM G (aget xpl) (fun _ _=>none) (fun _ _ _ _=>none) 100000 1000 1 [] (.fn 114 [] []) ([.agg [.int .i64 1,.int .i64 0,.int .i64 0,.int .i64 1]])=some ⟨.int .u8 0,[],[],[]⟩:=by kernel_rfl
theorem sp114_0:SpecP Tryd.prog G 114 ([.agg [.int .i64 1,.int .i64 0,.int .i64 0,.int .i64 1]]) (.int .u8 0) []:=specP_of_evM hcm hmx xpOk natNo noMeM ev114_0 rfl
theorem ev114_1:evM G (aget xpl) (fun _ _=>none) (fun _ _ _ _=>none) 100000 1000 1 [] (.fn 114 [] []) ([.agg [.int .i64 0,.int .i64 (-1),.int .i64 1,.int .i64 0]])=some ⟨.int .u8 1,[],[],[]⟩:=by kernel_rfl
theorem sp114_1:SpecP Tryd.prog G 114 ([.agg [.int .i64 0,.int .i64 (-1),.int .i64 1,.int .i64 0]]) (.int .u8 1) []:=specP_of_evM hcm hmx xpOk natNo noMeM ev114_1 rfl
theorem ev114_2:evM G (aget xpl) (fun _ _=>none) (fun _ _ _ _=>none) 100000 1000 1 [] (.fn 114 [] []) ([.agg [.int .i64 (-1),.int .i64 0,.int .i64 0,.int .i64 (-1)]])=some ⟨.int .u8 2,[],[],[]⟩:=by kernel_rfl
theorem sp114_2:SpecP Tryd.prog G 114 ([.agg [.int .i64 (-1),.int .i64 0,.int .i64 0,.int .i64 (-1)]]) (.int .u8 2) []:=specP_of_evM hcm hmx xpOk natNo noMeM ev114_2 rfl
theorem ev114_3:evM G (aget xpl) (fun _ _=>none) (fun _ _ _ _=>none) 100000 1000 1 [] (.fn 114 [] []) ([.agg [.int .i64 0,.int .i64 1,.int .i64 (-1),.int .i64 0]])=some ⟨.int .u8 3,[],[],[]⟩:=by kernel_rfl
theorem sp114_3:SpecP Tryd.prog G 114 ([.agg [.int .i64 0,.int .i64 1,.int .i64 (-1),.int .i64 0]]) (.int .u8 3) []:=specP_of_evM hcm hmx xpOk natNo noMeM ev114_3 rfl
theorem ev114_4:evM G (aget xpl) (fun _ _=>none) (fun _ _ _ _=>none) 100000 1000 1 [] (.fn 114 [] []) ([.agg [.int .i64 (-1),.int .i64 0,.int .i64 0,.int .i64 1]])=some ⟨.int .u8 4,[],[],[]⟩:=by kernel_rfl
theorem sp114_4:SpecP Tryd.prog G 114 ([.agg [.int .i64 (-1),.int .i64 0,.int .i64 0,.int .i64 1]]) (.int .u8 4) []:=specP_of_evM hcm hmx xpOk natNo noMeM ev114_4 rfl
theorem ev114_5:evM G (aget xpl) (fun _ _=>none) (fun _ _ _ _=>none) 100000 1000 1 [] (.fn 114 [] []) ([.agg [.int .i64 0,.int .i64 (-1),.int .i64 (-1),.int .i64 0]])=some ⟨.int .u8 5,[],[],[]⟩:=by kernel_rfl
theorem sp114_5:SpecP Tryd.prog G 114 ([.agg [.int .i64 0,.int .i64 (-1),.int .i64 (-1),.int .i64 0]]) (.int .u8 5) []:=specP_of_evM hcm hmx xpOk natNo noMeM ev114_5 rfl
theorem ev114_6:evM G (aget xpl) (fun _ _=>none) (fun _ _ _ _=>none) 100000 1000 1 [] (.fn 114 [] []) ([.agg [.int .i64 1,.int .i64 0,.int .i64 0,.int .i64 (-1)]])=some ⟨.int .u8 6,[],[],[]⟩:=by kernel_rfl
theorem sp114_6:SpecP Tryd.prog G 114 ([.agg [.int .i64 1,.int .i64 0,.int .i64 0,.int .i64 (-1)]]) (.int .u8 6) []:=specP_of_evM hcm hmx xpOk natNo noMeM ev114_6 rfl
theorem ev114_7:evM G (aget xpl) (fun _ _=>none) (fun _ _ _ _=>none) 100000 1000 1 [] (.fn 114 [] []) ([.agg [.int .i64 0,.int .i64 1,.int .i64 1,.int .i64 0]])=some ⟨.int .u8 7,[],[],[]⟩:=by kernel_rfl
theorem sp114_7:SpecP Tryd.prog G 114 ([.agg [.int .i64 0,.int .i64 1,.int .i64 1,.int .i64 0]]) (.int .u8 7) []:=specP_of_evM hcm hmx xpOk natNo noMeM ev114_7 rfl
theorem ct114:CtOk Tryd.prog G 114 e114:=by
 intro args r h hp
 unfold e114 at h
 split at h<;>cases h
 have hp':isMx _ _ _ _:=hp
 unfold isMx at hp'
 simp only[List.mem_cons,List.not_mem_nil,or_false,Prod.mk.injEq]at hp'
 rcases hp' with⟨rfl,rfl,rfl,rfl⟩|⟨rfl,rfl,rfl,rfl⟩|⟨rfl,rfl,rfl,rfl⟩|⟨rfl,rfl,rfl,rfl⟩|⟨rfl,rfl,rfl,rfl⟩|⟨rfl,rfl,rfl,rfl⟩|⟨rfl,rfl,rfl,rfl⟩|⟨rfl,rfl,rfl,rfl⟩
 ·exact sp114_0
 ·exact sp114_1
 ·exact sp114_2
 ·exact sp114_3
 ·exact sp114_4
 ·exact sp114_5
 ·exact sp114_6
 ·exact sp114_7
theorem TM113ok:TabOk Tryd.prog G TM113:=tabL_ok noCh_ok ⟨ct55,trivial⟩
theorem ct113:CtOk Tryd.prog G 113 e113:=by
 intro args r h hp
 unfold e113 at h
 split at h<;>cases h
 rename_i t a b
 have hm:mvO t a b:=hp
 have t0:=hm.1.1
 have t7:=hm.1.2
 refine fnP_spec hcm hmx TM113ok ok113 rfl (ob_o113 t a b) ?_
 rw[mvO_V hm]
 (repeat' (with_reducible apply And.intro))
 all_goals first|rfl|omega|trivial
theorem TM58ok:TabOk Tryd.prog G TM58:=tabL_ok noCh_ok ⟨ct55,ct112,ct114,ct113,trivial⟩
theorem ct58:CtOk Tryd.prog G 58 e58:=by
 intro args r h hp
 unfold e58 at h
 split at h<;>cases h
 rename_i t a b
 have hm:mvO t a b:=hp
 have hi:=iv_mvO hm
 have hV:=mvO_V hm
 obtain⟨ht,m1,m2,m3,m4,m5⟩:=id hm
 unfold ivX ivY at hi ⊢
 have hs:smP (0-a) (0-b):=by unfold smP;omega
 have s1:(1:Int)*(0-a)+0*(0-b)= -a:=by omega
 have s2:(0:Int)*(0-a)+1*(0-b)= -b:=by omega
 have s3:(-1:Int)*(0-a)+0*(0-b)= - -a:=by omega
 have s4:(0:Int)*(0-a)+ -1*(0-b)= - -b:=by omega
 rcases isT_or ht with rfl|rfl|rfl|rfl|rfl|rfl|rfl|rfl
 ·refine fnP_spec hcm hmx TM58ok ok58 rfl (ob_o58_0 a b) ?_
  have hi':mvO 0 (mtX 0 (-a) (-b)) (mtY 0 (-a) (-b)):=hi
  simp only[hV,inR_i64,and_true,true_and,iI,s1,s2,s3,s4]
  (repeat' (with_reducible apply And.intro))
  all_goals first|rfl|omega|trivial|exact hs|(unfold isMx;decide)|exact hi'|(unfold mtX;simp)|(unfold mtY;simp)|decide
 ·refine fnP_spec hcm hmx TM58ok ok58 rfl (ob_o58_1 a b) ?_
  have hi':mvO 3 (mtX 3 (-a) (-b)) (mtY 3 (-a) (-b)):=hi
  simp only[hV,inR_i64,and_true,true_and,iI,s1,s2,s3,s4]
  (repeat' (with_reducible apply And.intro))
  all_goals first|rfl|omega|trivial|exact hs|(unfold isMx;decide)|exact hi'|(unfold mtX;simp)|(unfold mtY;simp)|decide
 ·refine fnP_spec hcm hmx TM58ok ok58 rfl (ob_o58_2 a b) ?_
  have hi':mvO 2 (mtX 2 (-a) (-b)) (mtY 2 (-a) (-b)):=hi
  simp only[hV,inR_i64,and_true,true_and,iI,s1,s2,s3,s4]
  (repeat' (with_reducible apply And.intro))
  all_goals first|rfl|omega|trivial|exact hs|(unfold isMx;decide)|exact hi'|(unfold mtX;simp)|(unfold mtY;simp)|decide
 ·refine fnP_spec hcm hmx TM58ok ok58 rfl (ob_o58_3 a b) ?_
  have hi':mvO 1 (mtX 1 (-a) (-b)) (mtY 1 (-a) (-b)):=hi
  simp only[hV,inR_i64,and_true,true_and,iI,s1,s2,s3,s4]
  (repeat' (with_reducible apply And.intro))
  all_goals first|rfl|omega|trivial|exact hs|(unfold isMx;decide)|exact hi'|(unfold mtX;simp)|(unfold mtY;simp)|decide
 ·refine fnP_spec hcm hmx TM58ok ok58 rfl (ob_o58_4 a b) ?_
  have hi':mvO 4 (mtX 4 (-a) (-b)) (mtY 4 (-a) (-b)):=hi
  simp only[hV,inR_i64,and_true,true_and,iI,s1,s2,s3,s4]
  (repeat' (with_reducible apply And.intro))
  all_goals first|rfl|omega|trivial|exact hs|(unfold isMx;decide)|exact hi'|(unfold mtX;simp)|(unfold mtY;simp)|decide
 ·refine fnP_spec hcm hmx TM58ok ok58 rfl (ob_o58_5 a b) ?_
  have hi':mvO 5 (mtX 5 (-a) (-b)) (mtY 5 (-a) (-b)):=hi
  simp only[hV,inR_i64,and_true,true_and,iI,s1,s2,s3,s4]
  (repeat' (with_reducible apply And.intro))
  all_goals first|rfl|omega|trivial|exact hs|(unfold isMx;decide)|exact hi'|(unfold mtX;simp)|(unfold mtY;simp)|decide
 ·refine fnP_spec hcm hmx TM58ok ok58 rfl (ob_o58_6 a b) ?_
  have hi':mvO 6 (mtX 6 (-a) (-b)) (mtY 6 (-a) (-b)):=hi
  simp only[hV,inR_i64,and_true,true_and,iI,s1,s2,s3,s4]
  (repeat' (with_reducible apply And.intro))
  all_goals first|rfl|omega|trivial|exact hs|(unfold isMx;decide)|exact hi'|(unfold mtX;simp)|(unfold mtY;simp)|decide
 ·refine fnP_spec hcm hmx TM58ok ok58 rfl (ob_o58_7 a b) ?_
  have hi':mvO 7 (mtX 7 (-a) (-b)) (mtY 7 (-a) (-b)):=hi
  simp only[hV,inR_i64,and_true,true_and,iI,s1,s2,s3,s4]
  (repeat' (with_reducible apply And.intro))
  all_goals first|rfl|omega|trivial|exact hs|(unfold isMx;decide)|exact hi'|(unfold mtX;simp)|(unfold mtY;simp)|decide
end Go.Proofs.YtmnaghfndigfkaaDoor.X
