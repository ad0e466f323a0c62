import Derived.Test.YtpbgncmffgnohaaTW0
import Derived.Test.YtpbgncmffgnohaaGkFbignum
import Derived.Test.YtpbgncmffgnohaaTWbignumb
set_option linter.unusedVariables false
set_option linter.unusedSimpArgs false
set_option linter.unusedVariables false
set_option maxRecDepth 4000
namespace Go.Proofs
open Go Go.RowKit Go.Gk
theorem c_bignum_Int_Cmp (w0 : World) (a0_0 : Bool) (a0_1 : List UInt32) (a1_0 : Bool) (a1_1 : List UInt32) (va0_1 : Value) (va1_1 : Value) (ba0 : Nat) (ba1 : Nat) (ha0_1 : RP [] w0 e32 va0_1 a0_1) (hBa0 : RB [] w0 ba0 [vB a0_0, va0_1]) (ha1_1 : RP [] w0 e32 va1_1 a1_1) (hBa1 : RB [] w0 ba1 [vB a1_0, va1_1]) (r : Int)
  (h : F.bignum_Int_Cmp a0_0 a0_1 a1_0 a1_1 = some r) : Calls Try.prog 79 #[pB ba0 0, pB ba1 0] w0 (Ret fun v w => v = vI r ∧ St [] w0 w []) := by
 refine calls_at 35 Try.func79 rfl rfl rfl ?_
 have hS := St.start w0
 refine wpC_le [(0, pB ba0 0), (1, pB ba1 0)] ⟨rfl, rfl, trivial⟩ ?_
 unfold F.bignum_Int_Cmp at h
 refine wpC_seq (wpC_region (wpR_run 1 rfl ?_))
 refine wpR_nil (QE_then_n (wpC_seq (wpC_seq ?_)))
 refine wpC_regionT (fun w' => St [] w0 w' []) (fun _ => true) hmix (fun _ _ _ hf => hf.2) (fun _ _ hf => hf) (by kernel_rfl) ?_
 have hS := hS.drew
 show lxE _ _ _ _ _ _ _ [0, 1, 2, 3, 4, 5, 6, 7, 8] _ _
 refine lxE_v hS rfl rfl (fun w hF => OpV_move rfl) rfl ?_
 refine lxE_v hS rfl rfl (fun w hF => OpV_nilB rfl) rfl ?_
 refine lxE_v hS rfl rfl (fun w hF => OpV_fieldB (k := 0) Try.underlying72 rfl rfl nz4 rfl) rfl ?_
 refine lxE_v hS rfl rfl (fun w hF => OpV_ldB Try.underlying4 rfl rfl (hBa0.cell hF.fr 0 rfl)) rfl ?_
 refine lxE_v hS rfl rfl (fun w hF => OpV_move rfl) rfl ?_
 refine lxE_v hS rfl rfl (fun w hF => OpV_nilB rfl) rfl ?_
 refine lxE_v hS rfl rfl (fun w hF => OpV_fieldB (k := 0) Try.underlying72 rfl rfl nz4 rfl) rfl ?_
 refine lxE_v hS rfl rfl (fun w hF => OpV_ldB Try.underlying4 rfl rfl (hBa1.cell hF.fr 0 rfl)) rfl ?_
 refine lxE_v hS rfl rfl (fun w hF => OpV_bin rfl rfl (b_bneq _ a0_0 a1_0 Try.underlying4 rfl)) rfl ?_
 refine lxE_nil hS ?_
 refine QE_then_n ?_
 refine wpC_cond rfl (fun hb_4 => ?_) (fun hb_4 => ?_)
 ·have h := if_t h hb_4
  refine wpC_seq (wpC_seq (wpC_region (wpR_run 1 rfl ?_)))
  refine wpR_v (OpV_nilB rfl) rfl ?_
  refine wpR_v (OpV_fieldB (k := 0) Try.underlying72 rfl rfl nz4 rfl) rfl ?_
  refine wpR_v (OpV_ldB Try.underlying4 rfl rfl (hBa0.cell hS.fr 0 rfl)) rfl ?_
  refine wpR_nil (QE_then_n ?_)
  refine wpC_cond rfl (fun hb_1 => ?_) (fun hb_1 => ?_)
  ·have h := if_t h hb_1
   refine wpC_seq (wpC_region (wpR_run 1 rfl ?_))
   refine wpR_nil (QE_then_n (wpC_ret (QE_then_r (QE_then_r ?_))))
   cases h
   exact QE_ret1 rfl rfl ⟨rfl, hS⟩
  have h := if_f h hb_1
  refine wpC_skip (QE_then_n (wpC_seq (wpC_region (wpR_run 1 rfl ?_))))
  refine wpR_nil (QE_then_n (wpC_ret (QE_then_r ?_)))
  cases h
  exact QE_ret1 rfl rfl ⟨rfl, hS⟩
 have h := if_f h hb_4
 refine wpC_skip (QE_then_n (wpC_seq ?_))
 refine wpC_regionT (fun w' => St [] w0 w' []) (fun i => !([8].contains i)) hmix (fun _ _ _ hf => hf.2) (fun _ _ hf => hf) (by kernel_rfl) ?_
 have hS := hS.drew
 show lxE _ _ _ _ _ _ _ [0, 1, 2, 3, 4, 5, 6, 7, 8, 9] _ _
 refine lxE_v hS rfl rfl (fun w hF => OpV_move rfl) rfl ?_
 refine lxE_v hS rfl rfl (fun w hF => OpV_nilB rfl) rfl ?_
 refine lxE_v hS rfl rfl (fun w hF => OpV_fieldB (k := 1) Try.underlying72 rfl rfl nz23 rfl) rfl ?_
 refine lxE_v hS rfl rfl (fun w hF => OpV_ldB Try.underlying23 rfl rfl (hBa0.cell hF.fr 1 rfl)) rfl ?_
 refine lxE_v hS rfl rfl (fun w hF => OpV_move rfl) rfl ?_
 refine lxE_v hS rfl rfl (fun w hF => OpV_nilB rfl) rfl ?_
 refine lxE_v hS rfl rfl (fun w hF => OpV_fieldB (k := 1) Try.underlying72 rfl rfl nz23 rfl) rfl ?_
 refine lxE_v hS rfl rfl (fun w hF => OpV_ldB Try.underlying23 rfl rfl (hBa1.cell hF.fr 1 rfl)) rfl ?_
 obtain ⟨x_2, hx_2, h⟩ := obind_some h
 refine lxE_call hS rfl rfl (by kernel_rfl) rfl (c_bignum_cmp _ a0_1 a1_1 va0_1 va1_1  (ha0_1.now hS.fr).rp (ha1_1.now hS.fr).rp _ hx_2) rfl ?_
 rintro _ w ⟨rfl, hS1⟩
 have hS := hS.call hS1
 simp only [List.cons_append, List.nil_append] at hS
 refine lxE_v hS rfl rfl (fun w hF => OpV_assign rfl) rfl ?_
 refine lxE_nil hS ?_
 refine QE_then_n (wpC_seq (wpC_seq (wpC_region (wpR_run 1 rfl ?_))))
 refine wpR_v (OpV_nilB rfl) rfl ?_
 refine wpR_v (OpV_fieldB (k := 0) Try.underlying72 rfl rfl nz4 rfl) rfl ?_
 refine wpR_v (OpV_ldB Try.underlying4 rfl rfl (hBa0.cell hS.fr 0 rfl)) rfl ?_
 refine wpR_nil (QE_then_n ?_)
 refine wpC_cond rfl (fun hb_3 => ?_) (fun hb_3 => ?_)
 ·have h := if_t h hb_3
  refine wpC_seq (wpC_region (wpR_run 1 rfl ?_))
  refine wpR_v (OpV_un rfl (u_ineg x_2)) rfl ?_
  refine wpR_run 1 rfl ?_
  refine wpR_nil (QE_then_n (wpC_ret (QE_then_r ?_)))
  cases h
  exact QE_ret1 rfl rfl ⟨rfl, hS⟩
 have h := if_f h hb_3
 refine wpC_skip (QE_then_n (wpC_seq (wpC_region (wpR_run 2 rfl ?_))))
 refine wpR_nil (QE_then_n (wpC_ret ?_))
 cases h
 exact QE_ret1 rfl rfl ⟨rfl, hS⟩
end Go.Proofs
