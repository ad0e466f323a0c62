import Derived.Test.YtgjpaedgcpjigaaDoorYW0
import Derived.Test.YtgjpaedgcpjigaaDoorGkFref30
import Derived.Test.YtgjpaedgcpjigaaDoorYWref3
set_option linter.unusedVariables false
set_option linter.unusedSimpArgs false
set_option linter.unusedVariables false
set_option maxRecDepth 4000
namespace Go.Proofs
open Go Go.RowKit Go.Gk
theorem c_ref30_Reader_fail (w0 : World) (a0_0 : List UInt8) (a0_1 : Int) (a0_2 : List (Int × UInt64 × (List UInt8) × Int)) (a0_3 : Int) (a0_4 : Int) (a1 : Int) (a2 : Int) (va0_2 : Value) (ba0 : Nat) (S : List Nat) (hS : St S w0 w0 [OE.bx ba0 [vS a0_0, vI a0_1, va0_2, vI a0_3, vI a0_4], own (eP eI (eP e64 (eP eS eI))) va0_2 a0_2]) (r : List UInt8 × Int × List (Int × UInt64 × (List UInt8) × Int) × Int × Int)
  (h : F.ref30_Reader_fail a0_0 a0_1 a0_2 a0_3 a0_4 a1 a2 = some r) : Calls Tryd.prog 47 #[pB ba0 0, vI a1, vI a2] w0 (Ret fun v w => ∃ u0_2 : Value, v = .tuple #[] ∧ St S w0 w [OE.bx ba0 [vS r.1, vI r.2.1, u0_2, vI r.2.2.2.1, vI r.2.2.2.2], own (eP eI (eP e64 (eP eS eI))) u0_2 r.2.2.1]) := by
 refine calls_at 19 Tryd.func47 rfl rfl rfl ?_
 refine wpC_le [(0, pB ba0 0), (1, vI a1), (2, vI a2)] ⟨rfl, rfl, rfl, trivial⟩ ?_
 unfold F.ref30_Reader_fail at h
 refine wpC_seq (wpC_region (wpR_v (OpV_move rfl) rfl (wpR_v (OpV_nilB rfl) rfl ?_)))
 refine wpR_v (OpV_fieldB (k := 3) Tryd.underlying93 rfl rfl nz30 rfl) rfl ?_
 refine wpR_v (OpV_ldB Tryd.underlying30 rfl rfl (hS.bxc 0 rfl 3)) rfl ?_
 refine wpR_v (OpV_bin rfl rfl (b_ieql _ a0_3 0)) rfl ?_
 refine wpR_nil (QE_then_n ?_)
 refine wpC_cond rfl (fun hb_3 => ?_) (fun hb_3 => ?_)
 ·have h := if_t h hb_3
  refine wpC_seq (wpC_region (wpR_v (OpV_move rfl) rfl (wpR_v (OpV_move rfl) rfl (wpR_v (OpV_nilB rfl) rfl ?_))))
  refine wpR_v (OpV_fieldB (k := 3) Tryd.underlying93 rfl rfl nz30 rfl) rfl ?_
  refine wpR_y (OpY_stB (i := 0) (us := [vI a1]) rfl sz30 rfl rfl rfl ⟨rfl, trivial⟩ rfl hS) ?_
  intro w hS
  replace hS : St _ w0 w [OE.bx ba0 [vS a0_0, vI a0_1, va0_2, vI a1, vI a0_4], own (eP eI (eP e64 (eP eS eI))) va0_2 a0_2] := hS
  refine wpR_nil (QE_then_n (wpC_region (wpR_v (OpV_move rfl) rfl (wpR_v (OpV_move rfl) rfl (wpR_v (OpV_nilB rfl) rfl ?_)))))
  refine wpR_v (OpV_fieldB (k := 4) Tryd.underlying93 rfl rfl nz3 rfl) rfl ?_
  refine wpR_y (OpY_stB (i := 0) (us := [vI a2]) rfl sz3 rfl rfl rfl ⟨rfl, trivial⟩ rfl hS) ?_
  intro w hS
  replace hS : St _ w0 w [OE.bx ba0 [vS a0_0, vI a0_1, va0_2, vI a1, vI a2], own (eP eI (eP e64 (eP eS eI))) va0_2 a0_2] := hS
  refine wpR_nil ?_
  cases h
  exact QE_end0 rfl ⟨va0_2, rfl, hS.pick [0, 1] (by decide) rfl⟩
 ·have h := if_f h hb_3
  refine wpC_skip ?_
  cases h
  exact QE_end0 rfl ⟨va0_2, rfl, hS.pick [0, 1] (by decide) rfl⟩
theorem c_ref30_wide (w0 : World) (a0 : UInt64)   (r : Int)
  (h : F.ref30_wide a0 = some r) : Calls Tryd.prog 67 #[v64 a0] w0 (Ret fun v w => v = vI r ∧ St [] w0 w []) := by
 refine calls_at 15 Tryd.func67 rfl rfl rfl ?_
 have hS := St.start w0
 refine wpC_le [(0, v64 a0)] ⟨rfl, trivial⟩ ?_
 unfold F.ref30_wide at h
 refine wpC_seq (wpC_region (wpR_v (OpV_assign rfl) rfl (wpR_nil (QE_then_n (wpC_seq (wpC_block ?_))))))
 refine wpC_seq (wpC_region (wpR_v (OpV_move rfl) rfl (wpR_v (OpV_bin rfl rfl (b_lss64 _ a0 24)) rfl ?_)))
 refine wpR_v (OpV_assign rfl) rfl (wpR_nil (QE_then_n ?_))
 refine wpC_cond rfl (fun hb_4 => ?_) (fun hb_4 => ?_)
 ·have h := if_t h hb_4
  refine wpC_seq (wpC_region (wpR_v (OpV_assign rfl) rfl (wpR_nil (QE_then_n (wpC_ret (QE_blk_r ?_))))))
  refine QE_then_r ?_
  cases h
  exact QE_ret1 rfl rfl ⟨rfl, hS⟩
 ·have h := if_f h hb_4
  refine wpC_seq (wpC_region (wpR_v (OpV_move rfl) rfl (wpR_v (OpV_bin rfl rfl (b_lss64 _ a0 256)) rfl ?_)))
  refine wpR_v (OpV_assign rfl) rfl (wpR_nil (QE_then_n ?_))
  refine wpC_cond rfl (fun hb_3 => ?_) (fun hb_3 => ?_)
  ·have h := if_t h hb_3
   refine wpC_seq (wpC_region (wpR_v (OpV_assign rfl) rfl (wpR_nil (QE_then_n (wpC_ret (QE_blk_r ?_))))))
   refine QE_then_r ?_
   cases h
   exact QE_ret1 rfl rfl ⟨rfl, hS⟩
  ·have h := if_f h hb_3
   refine wpC_seq (wpC_region (wpR_v (OpV_move rfl) rfl (wpR_v (OpV_bin rfl rfl (b_lss64 _ a0 65536)) rfl ?_)))
   refine wpR_v (OpV_assign rfl) rfl (wpR_nil (QE_then_n ?_))
   refine wpC_cond rfl (fun hb_2 => ?_) (fun hb_2 => ?_)
   ·have h := if_t h hb_2
    refine wpC_seq (wpC_region (wpR_v (OpV_assign rfl) rfl (wpR_nil (QE_then_n (wpC_ret (QE_blk_r ?_))))))
    refine QE_then_r ?_
    cases h
    exact QE_ret1 rfl rfl ⟨rfl, hS⟩
   ·have h := if_f h hb_2
    refine wpC_seq (wpC_region (wpR_v (OpV_move rfl) rfl (wpR_v (OpV_bin rfl rfl (b_lss64 _ a0 4294967296)) rfl ?_)))
    refine wpR_v (OpV_assign rfl) rfl (wpR_nil (QE_then_n ?_))
    refine wpC_cond rfl (fun hb_1 => ?_) (fun hb_1 => ?_)
    ·have h := if_t h hb_1
     refine wpC_seq (wpC_region (wpR_v (OpV_assign rfl) rfl (wpR_nil (QE_then_n (wpC_ret (QE_blk_r ?_))))))
     refine QE_then_r ?_
     cases h
     exact QE_ret1 rfl rfl ⟨rfl, hS⟩
    ·have h := if_f h hb_1
     refine wpC_skip (QE_blk_n ?_)
     refine QE_then_n (wpC_seq (wpC_region (wpR_v (OpV_assign rfl) rfl (wpR_nil (QE_then_n (wpC_ret ?_))))))
     cases h
     exact QE_ret1 rfl rfl ⟨rfl, hS⟩
theorem c_ref30_Reader_head (w0 : World) (a0_0 : List UInt8) (a0_1 : Int) (a0_2 : List (Int × UInt64 × (List UInt8) × Int)) (a0_3 : Int) (a0_4 : Int) (va0_2 : Value) (ba0 : Nat) (S : List Nat) (hS : St S w0 w0 [OE.bx ba0 [vS a0_0, vI a0_1, va0_2, vI a0_3, vI a0_4], own (eP eI (eP e64 (eP eS eI))) va0_2 a0_2]) (r : Int × UInt64 × List UInt8 × Int × List (Int × UInt64 × (List UInt8) × Int) × Int × Int)
  (h : F.ref30_Reader_head a0_0 a0_1 a0_2 a0_3 a0_4 = some r) : Calls Tryd.prog 59 #[pB ba0 0] w0 (Ret fun v w => ∃ u0_2 : Value, v = .tuple #[vI r.1, v64 r.2.1] ∧ St S w0 w [OE.bx ba0 [vS r.2.2.1, vI r.2.2.2.1, u0_2, vI r.2.2.2.2.2.1, vI r.2.2.2.2.2.2], own (eP eI (eP e64 (eP eS eI))) u0_2 r.2.2.2.2.1]) := by
 refine calls_at 130 Tryd.func59 rfl rfl rfl ?_
 refine wpC_le [(0, pB ba0 0)] ⟨rfl, trivial⟩ ?_
 unfold F.ref30_Reader_head at h
 refine wpC_seq (wpC_region (wpR_v (OpV_assign rfl) rfl (wpR_v (OpV_assign rfl) rfl (wpR_nil (QE_then_n (wpC_seq ?_))))))
 refine wpC_region (wpR_v (OpV_move rfl) rfl (wpR_v (OpV_nilB rfl) rfl ?_))
 refine wpR_v (OpV_fieldB (k := 1) Tryd.underlying93 rfl rfl nz3 rfl) rfl ?_
 refine wpR_v (OpV_ldB Tryd.underlying3 rfl rfl (hS.bxc 0 rfl 1)) rfl ?_
 refine wpR_v (OpV_assign rfl) rfl (wpR_nil (QE_then_n (wpC_seq (wpC_seq (wpC_region (wpR_v (OpV_move rfl) rfl ?_))))))
 refine wpR_v (OpV_move rfl) rfl (wpR_v (OpV_nilB rfl) rfl ?_)
 refine wpR_v (OpV_fieldB (k := 0) Tryd.underlying93 rfl rfl nz9 rfl) rfl ?_
 refine wpR_v (OpV_ldB Tryd.underlying9 rfl rfl (hS.bxc 0 rfl 0)) rfl ?_
 refine wpR_v (OpV_lenS Tryd.underlying9 rfl) rfl ?_
 refine wpR_v (OpV_bin rfl rfl (b_igeq _ a0_1 (a0_0.length : Int))) rfl ?_
 refine wpR_nil (QE_then_n ?_)
 refine wpC_cond rfl (fun hb_38 => ?_) (fun hb_38 => ?_)
 ·have h := if_t h hb_38
  refine wpC_seq (wpC_region (wpR_v (OpV_move rfl) rfl (wpR_v (OpV_move rfl) rfl (wpR_v (OpV_nilB rfl) rfl ?_))))
  refine wpR_v (OpV_fieldB (k := 0) Tryd.underlying93 rfl rfl nz9 rfl) rfl ?_
  refine wpR_v (OpV_ldB Tryd.underlying9 rfl rfl (hS.bxc 0 rfl 0)) rfl ?_
  refine wpR_v (OpV_lenS Tryd.underlying9 rfl) rfl ?_
  have hG := hS.pick (os' := [OE.bx ba0 [vS a0_0, vI a0_1, va0_2, vI a0_3, vI a0_4], own (eP eI (eP e64 (eP eS eI))) va0_2 a0_2] ++ []) [0, 1] (by decide) rfl
  obtain ⟨x_3, hx_3, h⟩ := obind_some h
  refine wpR_call (by kernel_rfl) rfl (c_ref30_Reader_fail _ a0_0 a0_1 a0_2 a0_3 a0_4 220 (a0_0.length : Int) va0_2 ba0 _ hG.give  _ hx_3) rfl ?_
  rintro _ w ⟨v_4, rfl, hS1⟩
  have hS := hG.back hS1
  simp only [List.cons_append, List.nil_append] at hS
  refine wpR_nil (QE_then_n (wpC_seq (wpC_region (wpR_v (OpV_assign rfl) rfl (wpR_v (OpV_assign rfl) rfl (wpR_nil ?_))))))
  refine QE_then_n (wpC_ret (QE_then_r ?_))
  cases h
  exact QE_ret2 rfl rfl rfl ⟨v_4, rfl, hS.pick [0, 1] (by decide) rfl⟩
 ·have h := if_f h hb_38
  refine wpC_skip (QE_then_n (wpC_seq (wpC_region (wpR_v (OpV_move rfl) rfl (wpR_v (OpV_nilB rfl) rfl ?_)))))
  refine wpR_v (OpV_fieldB (k := 0) Tryd.underlying93 rfl rfl nz9 rfl) rfl ?_
  refine wpR_v (OpV_ldB Tryd.underlying9 rfl rfl (hS.bxc 0 rfl 0)) rfl ?_
  refine wpR_v (OpV_move rfl) rfl ?_
  obtain ⟨x_6, hx_6, h⟩ := obind_some h
  refine wpR_v (G_ixS Tryd.underlying9 rfl rfl hx_6) rfl ?_
  refine wpR_v (OpV_conv rfl (cv_8_i Tryd.underlying5 Tryd.underlying3 x_6)) rfl ?_
  refine wpR_v (OpV_assign rfl) rfl (wpR_nil (QE_then_n (wpC_seq (wpC_region (wpR_v (OpV_move rfl) rfl ?_)))))
  refine wpR_v (OpV_bin rfl rfl (b_iquo _ (x_6.toNat : Int) 32 (by decide))) rfl ?_
  obtain ⟨x_7, hx_7, h⟩ := olet_some h
  refine wpR_v (OpV_assign (v := vI x_7) (by rw [← hx_7]; rfl)) rfl ?_
  refine wpR_nil (QE_then_n (wpC_seq (wpC_region (wpR_v (OpV_move rfl) rfl ?_))))
  refine wpR_v (OpV_bin rfl rfl (b_irem _ (x_6.toNat : Int) 32 (by decide))) rfl ?_
  obtain ⟨x_8, hx_8, h⟩ := olet_some h
  refine wpR_v (OpV_assign (v := vI x_8) (by rw [← hx_8]; rfl)) rfl ?_
  refine wpR_nil (QE_then_n (wpC_seq ?_))
  refine seq_join (r := r) (fun (g : Bool) L w => L = [(0, pB ba0 0), (4, vI a0_1), (6, vI x_7), (7, vI x_8), (53, vB g)] ∧ St S w0 w [OE.bx ba0 [vS a0_0, vI a0_1, va0_2, vI a0_3, vI a0_4], own (eP eI (eP e64 (eP eS eI))) va0_2 a0_2]) (F.ref30_Reader_head_K1 a0_0 a0_1 a0_2 a0_3 a0_4 x_7 x_8) ?_ ?_
  ·rintro x_12 L w hJ h
   try dsimp only at hJ
   obtain ⟨rfl, hS⟩ := hJ
   unfold F.ref30_Reader_head_K1 at h
   refine wpC_cond rfl (fun hb_37 => ?_) (fun hb_37 => ?_)
   ·have h := if_t h hb_37
    refine wpC_seq (wpC_region (wpR_v (OpV_move rfl) rfl (wpR_v (OpV_move rfl) rfl ?_)))
    have hG := hS.pick (os' := [OE.bx ba0 [vS a0_0, vI a0_1, va0_2, vI a0_3, vI a0_4], own (eP eI (eP e64 (eP eS eI))) va0_2 a0_2] ++ []) [0, 1] (by decide) rfl
    obtain ⟨x_14, hx_14, h⟩ := obind_some h
    refine wpR_call (by kernel_rfl) rfl (c_ref30_Reader_fail _ a0_0 a0_1 a0_2 a0_3 a0_4 220 a0_1 va0_2 ba0 _ hG.give  _ hx_14) rfl ?_
    rintro _ w ⟨v_15, rfl, hS1⟩
    have hS := hG.back hS1
    simp only [List.cons_append, List.nil_append] at hS
    refine wpR_nil (QE_then_n (wpC_seq (wpC_region (wpR_v (OpV_assign rfl) rfl (wpR_v (OpV_assign rfl) rfl (wpR_nil ?_))))))
    refine QE_then_n (wpC_ret (QE_then_r ?_))
    cases h
    exact QE_ret2 rfl rfl rfl ⟨v_15, rfl, hS.pick [0, 1] (by decide) rfl⟩
   ·have h := if_f h hb_37
    refine wpC_skip (QE_then_n (wpC_seq (wpC_region (wpR_v (OpV_move rfl) rfl (wpR_v (OpV_nilB rfl) rfl ?_)))))
    refine wpR_v (OpV_fieldB (k := 1) Tryd.underlying93 rfl rfl nz3 rfl) rfl ?_
    refine wpR_v (OpV_ldB Tryd.underlying3 rfl rfl (hS.bxc 0 rfl 1)) rfl ?_
    refine wpR_v (OpV_bin rfl rfl (b_iadd _ a0_1 1)) rfl ?_
    refine wpR_v (OpV_nilB rfl) rfl ?_
    refine wpR_v (OpV_fieldB (k := 1) Tryd.underlying93 rfl rfl nz3 rfl) rfl ?_
    refine wpR_y (OpY_stB (i := 0) (us := [vI (wI (a0_1 + 1))]) rfl sz3 rfl rfl rfl ⟨rfl, trivial⟩ rfl hS) ?_
    intro w hS
    replace hS : St _ w0 w [OE.bx ba0 [vS a0_0, vI (wI (a0_1 + 1)), va0_2, vI a0_3, vI a0_4], own (eP eI (eP e64 (eP eS eI))) va0_2 a0_2] := hS
    refine wpR_nil (QE_then_n (wpC_seq (wpC_seq (wpC_region (wpR_v (OpV_move rfl) rfl (wpR_v (OpV_bin rfl rfl (b_ilss _ x_8 24)) rfl ?_))))))
    refine wpR_nil (QE_then_n ?_)
    refine wpC_cond rfl (fun hb_36 => ?_) (fun hb_36 => ?_)
    ·have h := if_t h hb_36
     refine wpC_seq (wpC_region (wpR_v (OpV_move rfl) rfl (wpR_v (OpV_move rfl) rfl (wpR_v (OpV_conv rfl (cv_i_64 Tryd.underlying3 Tryd.underlying40 x_8)) rfl ?_))))
     refine wpR_v (OpV_assign rfl) rfl (wpR_v (OpV_assign rfl) rfl (wpR_nil (QE_then_n (wpC_ret (QE_then_r ?_)))))
     cases h
     exact QE_ret2 rfl rfl rfl ⟨va0_2, rfl, hS.pick [0, 1] (by decide) rfl⟩
    ·have h := if_f h hb_36
     refine wpC_skip (QE_then_n (wpC_seq (wpC_region (wpR_v (OpV_move rfl) rfl (wpR_v (OpV_bin rfl rfl (b_isub _ x_8 24)) rfl ?_)))))
     refine wpR_v (OpV_conv rfl (cv_i_64 Tryd.underlying3 Tryd.underlying79 (wI (x_8 - 24)))) rfl ?_
     refine wpR_v (OpV_bin rfl rfl (b_ishl64 _ 1 (UInt64.ofInt (wI (x_8 - 24))))) rfl ?_
     obtain ⟨x_17, hx_17, h⟩ := olet_some h
     refine wpR_v (OpV_assign (v := vI x_17) (by rw [← hx_17]; rfl)) rfl ?_
     refine wpR_nil (QE_then_n (wpC_seq (wpC_seq ?_)))
     refine wpC_regionT (fun w' => St S w0 w' [OE.bx ba0 [vS a0_0, vI (wI (a0_1 + 1)), va0_2, vI a0_3, vI a0_4], own (eP eI (eP e64 (eP eS eI))) va0_2 a0_2]) (fun _ => true) hmix (fun _ _ _ hf => hf.2) (fun _ _ hf => hf) (by kernel_rfl) ?_
     have hS := hS.drew
     show lxE _ _ _ _ _ _ _ [0, 1, 2, 3, 4, 5, 6, 7, 8, 9, 10, 11] _ _
     refine lxE_v hS rfl rfl (fun w hF => OpV_move rfl) rfl ?_
     refine lxE_v hS rfl rfl (fun w hF => OpV_nilB rfl) rfl ?_
     refine lxE_v hS rfl rfl (fun w hF => OpV_fieldB (k := 0) Tryd.underlying93 rfl rfl nz9 rfl) rfl ?_
     refine lxE_v hS rfl rfl (fun w hF => OpV_ldB Tryd.underlying9 rfl rfl (hF.bxc 0 rfl 0)) rfl ?_
     refine lxE_v hS rfl rfl (fun w hF => OpV_lenS Tryd.underlying9 rfl) rfl ?_
     refine lxE_v hS rfl rfl (fun w hF => OpV_move rfl) rfl ?_
     refine lxE_v hS rfl rfl (fun w hF => OpV_nilB rfl) rfl ?_
     refine lxE_v hS rfl rfl (fun w hF => OpV_fieldB (k := 1) Tryd.underlying93 rfl rfl nz3 rfl) rfl ?_
     refine lxE_v hS rfl rfl (fun w hF => OpV_ldB Tryd.underlying3 rfl rfl (hF.bxc 0 rfl 1)) rfl ?_
     refine lxE_v hS rfl rfl (fun w hF => OpV_bin rfl rfl (b_isub _ (a0_0.length : Int) (wI (a0_1 + 1)))) rfl ?_
     refine lxE_v hS rfl rfl (fun w hF => OpV_move rfl) rfl ?_
     refine lxE_v hS rfl rfl (fun w hF => OpV_bin rfl rfl (b_ilss _ (wI ((a0_0.length : Int) - (wI (a0_1 + 1)))) x_17)) rfl ?_
     refine lxE_nil hS ?_
     refine QE_then_n ?_
     refine wpC_cond rfl (fun hb_35 => ?_) (fun hb_35 => ?_)
     ·have h := if_t h hb_35
      refine wpC_seq (wpC_region (wpR_v (OpV_move rfl) rfl (wpR_v (OpV_move rfl) rfl (wpR_v (OpV_nilB rfl) rfl ?_))))
      refine wpR_v (OpV_fieldB (k := 0) Tryd.underlying93 rfl rfl nz9 rfl) rfl ?_
      refine wpR_v (OpV_ldB Tryd.underlying9 rfl rfl (hS.bxc 0 rfl 0)) rfl ?_
      refine wpR_v (OpV_lenS Tryd.underlying9 rfl) rfl ?_
      have hG := hS.pick (os' := [OE.bx ba0 [vS a0_0, vI (wI (a0_1 + 1)), va0_2, vI a0_3, vI a0_4], own (eP eI (eP e64 (eP eS eI))) va0_2 a0_2] ++ []) [0, 1] (by decide) rfl
      obtain ⟨x_18, hx_18, h⟩ := obind_some h
      refine wpR_call (by kernel_rfl) rfl (c_ref30_Reader_fail _ a0_0 (wI (a0_1 + 1)) a0_2 a0_3 a0_4 220 (a0_0.length : Int) va0_2 ba0 _ hG.give  _ hx_18) rfl ?_
      rintro _ w ⟨v_19, rfl, hS1⟩
      have hS := hG.back hS1
      simp only [List.cons_append, List.nil_append] at hS
      refine wpR_nil (QE_then_n (wpC_seq (wpC_region (wpR_v (OpV_assign rfl) rfl (wpR_v (OpV_assign rfl) rfl (wpR_nil ?_))))))
      refine QE_then_n (wpC_ret (QE_then_r ?_))
      cases h
      exact QE_ret2 rfl rfl rfl ⟨v_19, rfl, hS.pick [0, 1] (by decide) rfl⟩
     ·have h := if_f h hb_35
      refine wpC_skip (QE_then_n (wpC_seq (wpC_region (wpR_v (OpV_assign rfl) rfl (wpR_nil (QE_then_n ?_))))))
      refine wpC_seq (wpC_seq (wpC_region (wpR_v (OpV_assign rfl) rfl (wpR_nil (QE_then_n (wpC_block ?_))))))
      refine wpC_le [(0, pB ba0 0), (4, vI a0_1), (6, vI x_7), (8, vI x_17), (9, v64 0), (10, vI 0)] ⟨rfl, rfl, rfl, rfl, rfl, rfl, trivial⟩ ?_
      refine loop_ind (F.ref30_Reader_head_L1 a0_0 a0_1 a0_2 a0_3 a0_4 x_7 x_17) (fun (s : UInt64 × Int) L w => L = [(0, pB ba0 0), (4, vI a0_1), (6, vI x_7), (8, vI x_17), (9, v64 s.1), (10, vI s.2)] ∧ St S w0 w [OE.bx ba0 [vS a0_0, vI (wI (a0_1 + 1)), va0_2, vI a0_3, vI a0_4], own (eP eI (eP e64 (eP eS eI))) va0_2 a0_2]) ?_ (0, 0) ⟨rfl, hS⟩ h
      rintro k_34 ⟨x_21, x_22⟩ L w q_25 hI ih_24 h hk_23
      try dsimp only at hI
      obtain ⟨rfl, hS⟩ := hI
      unfold F.ref30_Reader_head_L1 at h
      refine wpC_seq (wpC_seq (wpC_region (wpR_v (OpV_move rfl) rfl (wpR_v (OpV_move rfl) rfl (wpR_v (OpV_bin rfl rfl (b_ilss _ x_22 x_17)) rfl ?_)))))
      refine wpR_nil (QE_then_n ?_)
      refine wpC_cond rfl (fun hb_33 => ?_) (fun hb_33 => ?_)
      ·have h := if_t h hb_33
       refine wpC_skip (QE_then_n (wpC_seq (wpC_block ?_)))
       refine wpC_regionT (fun w' => St S w0 w' [OE.bx ba0 [vS a0_0, vI (wI (a0_1 + 1)), va0_2, vI a0_3, vI a0_4], own (eP eI (eP e64 (eP eS eI))) va0_2 a0_2]) (fun _ => true) hmix (fun _ _ _ hf => hf.2) (fun _ _ hf => hf) (by kernel_rfl) ?_
       have hS := hS.drew
       show lxE _ _ _ _ _ _ _ [0, 1, 2, 3, 4, 5, 6, 7, 8, 9, 10, 11, 12, 13, 14, 15] _ _
       refine lxE_v hS rfl rfl (fun w hF => OpV_move rfl) rfl ?_
       refine lxE_v hS rfl rfl (fun w hF => OpV_bin rfl rfl (b_mul64 _ 256 x_21)) rfl ?_
       refine lxE_v hS rfl rfl (fun w hF => OpV_move rfl) rfl ?_
       refine lxE_v hS rfl rfl (fun w hF => OpV_nilB rfl) rfl ?_
       refine lxE_v hS rfl rfl (fun w hF => OpV_fieldB (k := 0) Tryd.underlying93 rfl rfl nz9 rfl) rfl ?_
       refine lxE_v hS rfl rfl (fun w hF => OpV_ldB Tryd.underlying9 rfl rfl (hF.bxc 0 rfl 0)) rfl ?_
       refine lxE_v hS rfl rfl (fun w hF => OpV_move rfl) rfl ?_
       refine lxE_v hS rfl rfl (fun w hF => OpV_nilB rfl) rfl ?_
       refine lxE_v hS rfl rfl (fun w hF => OpV_fieldB (k := 1) Tryd.underlying93 rfl rfl nz3 rfl) rfl ?_
       refine lxE_v hS rfl rfl (fun w hF => OpV_ldB Tryd.underlying3 rfl rfl (hF.bxc 0 rfl 1)) rfl ?_
       refine lxE_v hS rfl rfl (fun w hF => OpV_move rfl) rfl ?_
       refine lxE_v hS rfl rfl (fun w hF => OpV_bin rfl rfl (b_iadd _ (wI (a0_1 + 1)) x_22)) rfl ?_
       obtain ⟨x_26, hx_26, h⟩ := obind_some h
       refine lxE_v hS rfl rfl (fun w hF => G_ixS Tryd.underlying9 rfl rfl hx_26) rfl ?_
       refine lxE_v hS rfl rfl (fun w hF => OpV_conv rfl (cv_8_64 Tryd.underlying5 Tryd.underlying40 x_26)) rfl ?_
       refine lxE_v hS rfl rfl (fun w hF => OpV_bin rfl rfl (b_add64 _ (256 * x_21) x_26.toUInt64)) rfl ?_
       obtain ⟨x_27, hx_27, h⟩ := olet_some h
       refine lxE_v hS rfl rfl (fun w hF => OpV_assign (v := v64 x_27) (by rw [← hx_27]; rfl)) rfl ?_
       refine lxE_nil hS ?_
       refine QE_blk_n ?_
       refine QE_then_n (wpC_region (wpR_v (OpV_move rfl) rfl (wpR_v (OpV_bin rfl rfl (b_iadd _ x_22 1)) rfl ?_)))
       refine wpR_v (OpV_assign rfl) rfl (wpR_nil ?_)
       exact QE_rnd (wpN_le _ (by exact ⟨rfl, rfl, rfl, rfl, rfl, rfl, trivial⟩) (ih_24 (x_27, wI (x_22 + 1)) _ _ ⟨rfl, hS⟩ (oinl_some h hk_23)))
      ·have h := if_f h hb_33
       refine wpC_exit ?_
       refine QE_then_x (QE_then_x ?_)
       have h := oinr_some h hk_23
       refine QE_blk_x ?_
       refine QE_then_n (wpC_seq (wpC_region (wpR_v (OpV_move rfl) rfl (wpR_v (OpV_move rfl) rfl (wpR_v (OpV_nilB rfl) rfl ?_)))))
       refine wpR_v (OpV_fieldB (k := 1) Tryd.underlying93 rfl rfl nz3 rfl) rfl ?_
       refine wpR_v (OpV_ldB Tryd.underlying3 rfl rfl (hS.bxc 0 rfl 1)) rfl ?_
       refine wpR_v (OpV_move rfl) rfl (wpR_v (OpV_bin rfl rfl (b_iadd _ (wI (a0_1 + 1)) x_17)) rfl ?_)
       refine wpR_v (OpV_nilB rfl) rfl ?_
       refine wpR_v (OpV_fieldB (k := 1) Tryd.underlying93 rfl rfl nz3 rfl) rfl ?_
       refine wpR_y (OpY_stB (i := 0) (us := [vI (wI ((wI (a0_1 + 1)) + x_17))]) rfl sz3 rfl rfl rfl ⟨rfl, trivial⟩ rfl hS) ?_
       intro w hS
       replace hS : St _ w0 w [OE.bx ba0 [vS a0_0, vI (wI ((wI (a0_1 + 1)) + x_17)), va0_2, vI a0_3, vI a0_4], own (eP eI (eP e64 (eP eS eI))) va0_2 a0_2] := hS
       refine wpR_nil (QE_then_n (wpC_seq (wpC_seq (wpC_region (wpR_v (OpV_move rfl) rfl ?_)))))
       obtain ⟨x_28, hx_28, h⟩ := obind_some h
       refine wpR_call (by kernel_rfl) rfl (c_ref30_wide _ x_21    _ hx_28) rfl ?_
       rintro _ w ⟨rfl, hS1⟩
       have hS := hS.call hS1
       simp only [List.cons_append, List.nil_append] at hS
       refine wpR_v (OpV_move rfl) rfl (wpR_v (OpV_bin rfl rfl (b_ineq _ x_28 x_17)) rfl ?_)
       refine wpR_nil (QE_then_n ?_)
       refine wpC_cond rfl (fun hb_32 => ?_) (fun hb_32 => ?_)
       ·have h := if_t h hb_32
        refine wpC_seq (wpC_region (wpR_v (OpV_move rfl) rfl (wpR_v (OpV_move rfl) rfl ?_)))
        have hG := hS.pick (os' := [OE.bx ba0 [vS a0_0, vI (wI ((wI (a0_1 + 1)) + x_17)), va0_2, vI a0_3, vI a0_4], own (eP eI (eP e64 (eP eS eI))) va0_2 a0_2] ++ []) [0, 1] (by decide) rfl
        obtain ⟨x_29, hx_29, h⟩ := obind_some h
        refine wpR_call (by kernel_rfl) rfl (c_ref30_Reader_fail _ a0_0 (wI ((wI (a0_1 + 1)) + x_17)) a0_2 a0_3 a0_4 220 a0_1 va0_2 ba0 _ hG.give  _ hx_29) rfl ?_
        rintro _ w ⟨v_30, rfl, hS1⟩
        have hS := hG.back hS1
        simp only [List.cons_append, List.nil_append] at hS
        refine wpR_nil (QE_then_n (wpC_seq (wpC_region (wpR_v (OpV_assign rfl) rfl (wpR_v (OpV_assign rfl) rfl (wpR_nil ?_))))))
        refine QE_then_n (wpC_ret (QE_then_r ?_))
        cases h
        exact QE_ret2 rfl rfl rfl ⟨v_30, rfl, hS.pick [0, 1] (by decide) rfl⟩
       ·have h := if_f h hb_32
        refine wpC_skip (QE_then_n (wpC_seq (wpC_region (wpR_v (OpV_move rfl) rfl (wpR_v (OpV_move rfl) rfl (wpR_v (OpV_assign rfl) rfl ?_))))))
        refine wpR_v (OpV_assign rfl) rfl (wpR_nil (QE_then_n (wpC_ret ?_)))
        cases h
        exact QE_ret2 rfl rfl rfl ⟨va0_2, rfl, hS.pick [0, 1] (by decide) rfl⟩
  ·intro hK_13
   refine wpC_region (wpR_v (OpV_move rfl) rfl (wpR_v (OpV_bin rfl rfl (b_igtr _ x_8 27)) rfl ?_))
   refine wpR_v (OpV_move rfl) rfl ?_
   cases hb_9 : (decide ((27 : Int) < x_8))
   case true =>
    have h := if_t h hb_9
    try simp only [hb_9]
    refine wpR_gskip (b := true) (t := 42) rfl rfl rfl rfl ?_
    refine wpR_gskip (b := true) (t := 42) rfl rfl rfl rfl ?_
    refine wpR_gskip (b := true) (t := 42) rfl rfl rfl rfl ?_
    refine wpR_gskipU (t := 45) rfl rfl rfl ?_
    refine wpR_gskipU (t := 45) rfl rfl rfl ?_
    refine wpR_gskipU (t := 45) rfl rfl rfl ?_
    refine wpR_gskipU (t := 48) rfl rfl rfl ?_
    refine wpR_gskipU (t := 48) rfl rfl rfl ?_
    refine wpR_gskipU (t := 45) rfl rfl rfl ?_
    refine wpR_gskip (b := true) (t := 42) rfl rfl rfl rfl ?_
    refine wpR_v (OpV_pickT rfl rfl) rfl (wpR_nil (QE_then_n ?_))
    exact wpC_le _ (by exact ⟨rfl, rfl, rfl, rfl, rfl, trivial⟩) (hK_13 true _ _ ⟨rfl, hS⟩ h)
   case false =>
    have h := if_f h hb_9
    try simp only [hb_9]
    refine wpR_gv (t := 42) rfl rfl (OpV_move rfl) rfl ?_
    refine wpR_gv (t := 42) rfl rfl (OpV_bin rfl rfl (b_ieql _ x_7 7)) rfl ?_
    refine wpR_gv (t := 42) rfl rfl (OpV_move rfl) rfl ?_
    cases hb_10 : (x_7 == 7)
    case true =>
     have h := if_t h hb_10
     try simp only [hb_10]
     refine wpR_gv (t := 45) rfl rfl (OpV_move rfl) rfl ?_
     refine wpR_gv (t := 45) rfl rfl (OpV_bin rfl rfl (b_ilss _ x_8 20)) rfl ?_
     refine wpR_gv (t := 45) rfl rfl (OpV_move rfl) rfl ?_
     cases hb_11 : (decide (x_8 < 20))
     case true =>
      have h := if_t h hb_11
      try simp only [hb_11]
      refine wpR_gskip (b := true) (t := 48) rfl rfl rfl rfl ?_
      refine wpR_gskip (b := true) (t := 48) rfl rfl rfl rfl ?_
      refine wpR_gv (t := 45) rfl rfl (OpV_pickT rfl rfl) rfl ?_
      refine wpR_gv (t := 42) rfl rfl (OpV_pickT rfl rfl) rfl ?_
      refine wpR_v (OpV_pickF rfl rfl) rfl (wpR_nil (QE_then_n ?_))
      exact wpC_le _ (by exact ⟨rfl, rfl, rfl, rfl, rfl, trivial⟩) (hK_13 true _ _ ⟨rfl, hS⟩ h)
     case false =>
      have h := if_f h hb_11
      try simp only [hb_11]
      refine wpR_gv (t := 48) rfl rfl (OpV_move rfl) rfl ?_
      refine wpR_gv (t := 48) rfl rfl (OpV_bin rfl rfl (b_igtr _ x_8 22)) rfl ?_
      refine wpR_gv (t := 45) rfl rfl (OpV_pickF rfl rfl) rfl ?_
      refine wpR_gv (t := 42) rfl rfl (OpV_pickT rfl rfl) rfl ?_
      refine wpR_v (OpV_pickF rfl rfl) rfl (wpR_nil (QE_then_n ?_))
      exact wpC_le _ (by exact ⟨rfl, rfl, rfl, rfl, rfl, trivial⟩) (hK_13 (decide ((22 : Int) < x_8)) _ _ ⟨rfl, hS⟩ h)
    case false =>
     have h := if_f h hb_10
     try simp only [hb_10]
     refine wpR_gskip (b := false) (t := 45) rfl rfl rfl rfl ?_
     refine wpR_gskip (b := false) (t := 45) rfl rfl rfl rfl ?_
     refine wpR_gskip (b := false) (t := 45) rfl rfl rfl rfl ?_
     refine wpR_gskipU (t := 48) rfl rfl rfl ?_
     refine wpR_gskipU (t := 48) rfl rfl rfl ?_
     refine wpR_gskip (b := false) (t := 45) rfl rfl rfl rfl ?_
     refine wpR_gv (t := 42) rfl rfl (OpV_pickF rfl rfl) rfl ?_
     refine wpR_v (OpV_pickF rfl rfl) rfl (wpR_nil (QE_then_n ?_))
     exact wpC_le _ (by exact ⟨rfl, rfl, rfl, rfl, rfl, trivial⟩) (hK_13 false _ _ ⟨rfl, hS⟩ h)
theorem c_ref30_Reader_text (w0 : World) (a0_0 : List UInt8) (a0_1 : Int) (a0_2 : List (Int × UInt64 × (List UInt8) × Int)) (a0_3 : Int) (a0_4 : Int) (a1 : UInt64) (va0_2 : Value) (ba0 : Nat) (S : List Nat) (hS : St S w0 w0 [OE.bx ba0 [vS a0_0, vI a0_1, va0_2, vI a0_3, vI a0_4], own (eP eI (eP e64 (eP eS eI))) va0_2 a0_2]) (r : List UInt8 × List UInt8 × Int × List (Int × UInt64 × (List UInt8) × Int) × Int × Int)
  (h : F.ref30_Reader_text a0_0 a0_1 a0_2 a0_3 a0_4 a1 = some r) : Calls Tryd.prog 60 #[pB ba0 0, v64 a1] w0 (Ret fun v w => ∃ u0_2 : Value, v = vS r.1 ∧ St S w0 w [OE.bx ba0 [vS r.2.1, vI r.2.2.1, u0_2, vI r.2.2.2.2.1, vI r.2.2.2.2.2], own (eP eI (eP e64 (eP eS eI))) u0_2 r.2.2.2.1]) := by
 refine calls_at 53 Tryd.func60 rfl rfl rfl ?_
 refine wpC_le [(0, pB ba0 0), (1, v64 a1)] ⟨rfl, rfl, trivial⟩ ?_
 unfold F.ref30_Reader_text at h
 refine wpC_seq (wpC_region (wpR_v (OpV_assign rfl) rfl (wpR_nil (QE_then_n (wpC_seq (wpC_seq ?_))))))
 refine wpC_regionT (fun w' => St S w0 w' [OE.bx ba0 [vS a0_0, vI a0_1, va0_2, vI a0_3, vI a0_4], own (eP eI (eP e64 (eP eS eI))) va0_2 a0_2]) (fun _ => true) hmix (fun _ _ _ hf => hf.2) (fun _ _ hf => hf) (by kernel_rfl) ?_
 have hS := hS.drew
 show lxE _ _ _ _ _ _ _ [0, 1, 2, 3, 4, 5, 6, 7, 8, 9, 10, 11, 12] _ _
 refine lxE_v hS rfl rfl (fun w hF => OpV_move rfl) rfl ?_
 refine lxE_v hS rfl rfl (fun w hF => OpV_move rfl) rfl ?_
 refine lxE_v hS rfl rfl (fun w hF => OpV_nilB rfl) rfl ?_
 refine lxE_v hS rfl rfl (fun w hF => OpV_fieldB (k := 0) Tryd.underlying93 rfl rfl nz9 rfl) rfl ?_
 refine lxE_v hS rfl rfl (fun w hF => OpV_ldB Tryd.underlying9 rfl rfl (hF.bxc 0 rfl 0)) rfl ?_
 refine lxE_v hS rfl rfl (fun w hF => OpV_lenS Tryd.underlying9 rfl) rfl ?_
 refine lxE_v hS rfl rfl (fun w hF => OpV_move rfl) rfl ?_
 refine lxE_v hS rfl rfl (fun w hF => OpV_nilB rfl) rfl ?_
 refine lxE_v hS rfl rfl (fun w hF => OpV_fieldB (k := 1) Tryd.underlying93 rfl rfl nz3 rfl) rfl ?_
 refine lxE_v hS rfl rfl (fun w hF => OpV_ldB Tryd.underlying3 rfl rfl (hF.bxc 0 rfl 1)) rfl ?_
 refine lxE_v hS rfl rfl (fun w hF => OpV_bin rfl rfl (b_isub _ (a0_0.length : Int) a0_1)) rfl ?_
 refine lxE_v hS rfl rfl (fun w hF => OpV_conv rfl (cv_i_64 Tryd.underlying3 Tryd.underlying40 (wI ((a0_0.length : Int) - a0_1)))) rfl ?_
 refine lxE_v hS rfl rfl (fun w hF => OpV_bin rfl rfl (b_gtr64 _ a1 (UInt64.ofInt (wI ((a0_0.length : Int) - a0_1))))) rfl ?_
 refine lxE_nil hS ?_
 refine QE_then_n ?_
 refine wpC_cond rfl (fun hb_7 => ?_) (fun hb_7 => ?_)
 ·have h := if_t h hb_7
  refine wpC_seq (wpC_region (wpR_v (OpV_move rfl) rfl (wpR_v (OpV_move rfl) rfl (wpR_v (OpV_nilB rfl) rfl ?_))))
  refine wpR_v (OpV_fieldB (k := 0) Tryd.underlying93 rfl rfl nz9 rfl) rfl ?_
  refine wpR_v (OpV_ldB Tryd.underlying9 rfl rfl (hS.bxc 0 rfl 0)) rfl ?_
  refine wpR_v (OpV_lenS Tryd.underlying9 rfl) rfl ?_
  have hG := hS.pick (os' := [OE.bx ba0 [vS a0_0, vI a0_1, va0_2, vI a0_3, vI a0_4], own (eP eI (eP e64 (eP eS eI))) va0_2 a0_2] ++ []) [0, 1] (by decide) rfl
  obtain ⟨x_3, hx_3, h⟩ := obind_some h
  refine wpR_call (by kernel_rfl) rfl (c_ref30_Reader_fail _ a0_0 a0_1 a0_2 a0_3 a0_4 220 (a0_0.length : Int) va0_2 ba0 _ hG.give  _ hx_3) rfl ?_
  rintro _ w ⟨v_4, rfl, hS1⟩
  have hS := hG.back hS1
  simp only [List.cons_append, List.nil_append] at hS
  refine wpR_nil (QE_then_n (wpC_seq (wpC_region (wpR_v (OpV_assign rfl) rfl (wpR_nil (QE_then_n ?_))))))
  refine wpC_ret (QE_then_r ?_)
  cases h
  exact QE_ret1 rfl rfl ⟨v_4, rfl, hS.pick [0, 1] (by decide) rfl⟩
 ·have h := if_f h hb_7
  refine wpC_skip (QE_then_n (wpC_seq ?_))
  refine wpC_regionT (fun w' => St S w0 w' [OE.bx ba0 [vS a0_0, vI a0_1, va0_2, vI a0_3, vI a0_4], own (eP eI (eP e64 (eP eS eI))) va0_2 a0_2]) (fun _ => true) hmix (fun _ _ _ hf => hf.2) (fun _ _ hf => hf) (by kernel_rfl) ?_
  have hS := hS.drew
  show lxE _ _ _ _ _ _ _ [0, 1, 2, 3, 4, 5, 6, 7, 8, 9, 10, 11, 12, 13, 14, 15, 16] _ _
  refine lxE_v hS rfl rfl (fun w hF => OpV_move rfl) rfl ?_
  refine lxE_v hS rfl rfl (fun w hF => OpV_nilB rfl) rfl ?_
  refine lxE_v hS rfl rfl (fun w hF => OpV_fieldB (k := 0) Tryd.underlying93 rfl rfl nz9 rfl) rfl ?_
  refine lxE_v hS rfl rfl (fun w hF => OpV_ldB Tryd.underlying9 rfl rfl (hF.bxc 0 rfl 0)) rfl ?_
  refine lxE_v hS rfl rfl (fun w hF => OpV_move rfl) rfl ?_
  refine lxE_v hS rfl rfl (fun w hF => OpV_nilB rfl) rfl ?_
  refine lxE_v hS rfl rfl (fun w hF => OpV_fieldB (k := 1) Tryd.underlying93 rfl rfl nz3 rfl) rfl ?_
  refine lxE_v hS rfl rfl (fun w hF => OpV_ldB Tryd.underlying3 rfl rfl (hF.bxc 0 rfl 1)) rfl ?_
  refine lxE_v hS rfl rfl (fun w hF => OpV_move rfl) rfl ?_
  refine lxE_v hS rfl rfl (fun w hF => OpV_nilB rfl) rfl ?_
  refine lxE_v hS rfl rfl (fun w hF => OpV_fieldB (k := 1) Tryd.underlying93 rfl rfl nz3 rfl) rfl ?_
  refine lxE_v hS rfl rfl (fun w hF => OpV_ldB Tryd.underlying3 rfl rfl (hF.bxc 0 rfl 1)) rfl ?_
  refine lxE_v hS rfl rfl (fun w hF => OpV_move rfl) rfl ?_
  refine lxE_v hS rfl rfl (fun w hF => OpV_conv rfl (cv_64_i Tryd.underlying40 Tryd.underlying3 a1)) rfl ?_
  refine lxE_v hS rfl rfl (fun w hF => OpV_bin rfl rfl (b_iadd _ a0_1 (wI (a1.toNat : Int)))) rfl ?_
  obtain ⟨x_6, hx_6, h⟩ := obind_some h
  refine lxE_v hS rfl rfl (fun w hF => G_slS Tryd.underlying9 rfl rfl rfl hx_6) rfl ?_
  refine lxE_v hS rfl rfl (fun w hF => OpV_assign rfl) rfl ?_
  refine lxE_nil hS ?_
  refine QE_then_n (wpC_seq (wpC_region (wpR_v (OpV_move rfl) rfl (wpR_v (OpV_move rfl) rfl (wpR_v (OpV_nilB rfl) rfl ?_)))))
  refine wpR_v (OpV_fieldB (k := 1) Tryd.underlying93 rfl rfl nz3 rfl) rfl ?_
  refine wpR_v (OpV_ldB Tryd.underlying3 rfl rfl (hS.bxc 0 rfl 1)) rfl ?_
  refine wpR_v (OpV_move rfl) rfl (wpR_v (OpV_conv rfl (cv_64_i Tryd.underlying40 Tryd.underlying3 a1)) rfl ?_)
  refine wpR_v (OpV_bin rfl rfl (b_iadd _ a0_1 (wI (a1.toNat : Int)))) rfl ?_
  refine wpR_v (OpV_nilB rfl) rfl ?_
  refine wpR_v (OpV_fieldB (k := 1) Tryd.underlying93 rfl rfl nz3 rfl) rfl ?_
  refine wpR_y (OpY_stB (i := 0) (us := [vI (wI (a0_1 + (wI (a1.toNat : Int))))]) rfl sz3 rfl rfl rfl ⟨rfl, trivial⟩ rfl hS) ?_
  intro w hS
  replace hS : St _ w0 w [OE.bx ba0 [vS a0_0, vI (wI (a0_1 + (wI (a1.toNat : Int)))), va0_2, vI a0_3, vI a0_4], own (eP eI (eP e64 (eP eS eI))) va0_2 a0_2] := hS
  refine wpR_nil (QE_then_n (wpC_seq (wpC_region (wpR_v (OpV_move rfl) rfl (wpR_v (OpV_assign rfl) rfl (wpR_nil ?_))))))
  refine QE_then_n (wpC_ret ?_)
  cases h
  exact QE_ret1 rfl rfl ⟨va0_2, rfl, hS.pick [0, 1] (by decide) rfl⟩
theorem c_ref30_utf8 (w0 : World) (a0 : List UInt8)   (r : Bool)
  (h : F.ref30_utf8 a0 = some r) : Calls Tryd.prog 61 #[vS a0] w0 (Ret fun v w => v = vB r ∧ St [] w0 w []) := by
 refine calls_at 7 Tryd.func61 rfl rfl rfl ?_
 have hS := St.start w0
 refine wpC_le [(0, vS a0)] ⟨rfl, trivial⟩ ?_
 unfold F.ref30_utf8 at h
 refine wpC_seq (wpC_region (wpR_v (OpV_assign rfl) rfl (wpR_nil (QE_then_n (wpC_seq (wpC_region ?_))))))
 refine wpR_v (OpV_move rfl) rfl (wpR_v (OpV_build (vs := [(0, vI 5, [vI 5]), (2, vS a0, [vS a0])]) (cells := [vI 5, vS [], vS a0, vB false, vI 0, vI 0]) rfl lay130 ⟨rfl, rfl, trivial⟩ rfl) rfl ?_)
 refine wpR_x (OpX_litE (e := (eP eI (eP eS (eP eS (eP eB (eP eI eI)))))) (l := ([(5, [], a0, false, 0, 0)] : List (Int × (List UInt8) × (List UInt8) × Bool × Int × Int))) (vs := [(0, .agg #[vI 5, vS [], vS a0, vB false, vI 0, vI 0], [vI 5, vS [], vS a0, vB false, vI 0, vI 0])]) Tryd.underlying24 ti130 rfl ⟨rfl, trivial⟩ rfl rfl (Nat.le_of_ble_eq_true rfl) (Nat.le_of_ble_eq_true rfl) hS) rfl ?_
 rintro v_1 w hS
 obtain ⟨x_3, hx_3, h⟩ := obind_some h
 refine wpR_call (by kernel_rfl) rfl (c_ref3_Shaped _ ([(5, [], a0, false, 0, 0)] : List (Int × (List UInt8) × (List UInt8) × Bool × Int × Int)) v_1  (hS.ro 0 rfl).rp _ hx_3) rfl ?_
 rintro _ w ⟨rfl, hS1⟩
 have hS := hS.call hS1
 simp only [List.cons_append, List.nil_append] at hS
 refine wpR_v (OpV_assign rfl) rfl (wpR_nil (QE_then_n (wpC_ret ?_)))
 cases h
 exact QE_ret1 rfl rfl ⟨rfl, hS.pick [] (by decide) rfl⟩
theorem c_ref30_Less (w0 : World) (a0 : List UInt8) (a1 : List UInt8)   (r : Bool)
  (h : F.ref30_Less a0 a1 = some r) : Calls Tryd.prog 73 #[vS a0, vS a1] w0 (Ret fun v w => v = vB r ∧ St [] w0 w []) := by
 refine calls_at 37 Tryd.func73 rfl rfl rfl ?_
 have hS := St.start w0
 refine wpC_le [(0, vS a0), (1, vS a1)] ⟨rfl, rfl, trivial⟩ ?_
 unfold F.ref30_Less at h
 refine wpC_seq (wpC_region (wpR_v (OpV_assign rfl) rfl (wpR_nil (QE_then_n (wpC_seq (wpC_seq ?_))))))
 refine wpC_region (wpR_v (OpV_assign rfl) rfl (wpR_nil (QE_then_n (wpC_block ?_))))
 refine wpC_le [(0, vS a0), (1, vS a1), (5, vI 0)] ⟨rfl, rfl, rfl, trivial⟩ ?_
 refine loop_ind (F.ref30_Less_L1 a0 a1) (fun (s : Int) L w => L = [(0, vS a0), (1, vS a1), (5, vI s)] ∧ St [] w0 w []) ?_ 0 ⟨rfl, hS⟩ h
 rintro k_14 x_1 L w q_4 hI ih_3 h hk_2
 try dsimp only at hI
 obtain ⟨rfl, hS⟩ := hI
 unfold F.ref30_Less_L1 at h
 refine wpC_seq ?_
 refine seq_join (r := q_4) (fun (g : Bool) L w => L = [(0, vS a0), (1, vS a1), (5, vI x_1), (15, vB g)] ∧ St [] w0 w []) (F.ref30_Less_K1 a0 a1 x_1) ?_ ?_
 ·rintro x_6 L w hJ h
  try dsimp only at hJ
  obtain ⟨rfl, hS⟩ := hJ
  unfold F.ref30_Less_K1 at h
  refine wpC_cond rfl (fun hb_13 => ?_) (fun hb_13 => ?_)
  ·have h := if_t h hb_13
   refine wpC_skip (QE_then_n (wpC_seq (wpC_block ?_)))
   refine wpC_seq ?_
   refine wpC_regionT (fun w' => St [] w0 w' []) (fun _ => true) hmix (fun _ _ _ hf => hf.2) (fun _ _ hf => hf) (by kernel_rfl) ?_
   have hS := hS.drew
   show lxE _ _ _ _ _ _ _ [0, 1, 2, 3, 4, 5, 6] _ _
   refine lxE_v hS rfl rfl (fun w hF => OpV_move rfl) rfl ?_
   refine lxE_v hS rfl rfl (fun w hF => OpV_move rfl) rfl ?_
   obtain ⟨x_8, hx_8, h⟩ := obind_some h
   refine lxE_v hS rfl rfl (fun w hF => G_ixS Tryd.underlying9 rfl rfl hx_8) rfl ?_
   refine lxE_v hS rfl rfl (fun w hF => OpV_move rfl) rfl ?_
   refine lxE_v hS rfl rfl (fun w hF => OpV_move rfl) rfl ?_
   obtain ⟨x_9, hx_9, h⟩ := obind_some h
   refine lxE_v hS rfl rfl (fun w hF => G_ixS Tryd.underlying9 rfl rfl hx_9) rfl ?_
   refine lxE_v hS rfl rfl (fun w hF => OpV_bin rfl rfl (b_neq8 _ x_8 x_9)) rfl ?_
   refine lxE_nil hS ?_
   refine QE_then_n ?_
   refine wpC_cond rfl (fun hb_12 => ?_) (fun hb_12 => ?_)
   ·have h := if_t h hb_12
    refine wpC_seq ?_
    refine wpC_regionT (fun w' => St [] w0 w' []) (fun _ => true) hmix (fun _ _ _ hf => hf.2) (fun _ _ hf => hf) (by kernel_rfl) ?_
    have hS := hS.drew
    show lxE _ _ _ _ _ _ _ [0, 1, 2, 3, 4, 5, 6, 7] _ _
    refine lxE_v hS rfl rfl (fun w hF => OpV_move rfl) rfl ?_
    refine lxE_v hS rfl rfl (fun w hF => OpV_move rfl) rfl ?_
    obtain ⟨x_10, hx_10, h⟩ := obind_some h
    refine lxE_v hS rfl rfl (fun w hF => G_ixS Tryd.underlying9 rfl rfl hx_10) rfl ?_
    refine lxE_v hS rfl rfl (fun w hF => OpV_move rfl) rfl ?_
    refine lxE_v hS rfl rfl (fun w hF => OpV_move rfl) rfl ?_
    obtain ⟨x_11, hx_11, h⟩ := obind_some h
    refine lxE_v hS rfl rfl (fun w hF => G_ixS Tryd.underlying9 rfl rfl hx_11) rfl ?_
    refine lxE_v hS rfl rfl (fun w hF => OpV_bin rfl rfl (b_lss8 _ x_10 x_11)) rfl ?_
    refine lxE_v hS rfl rfl (fun w hF => OpV_assign rfl) rfl ?_
    refine lxE_nil hS ?_
    refine QE_then_n (wpC_ret (QE_blk_r ?_))
    refine QE_then_r (QE_then_r ?_)
    have h := oinr_some h hk_2
    refine QE_blk_r ?_
    refine QE_then_r ?_
    cases h
    exact QE_ret1 rfl rfl ⟨rfl, hS⟩
   ·have h := if_f h hb_12
    refine wpC_skip (QE_blk_n ?_)
    refine QE_then_n (wpC_region (wpR_v (OpV_move rfl) rfl (wpR_v (OpV_bin rfl rfl (b_iadd _ x_1 1)) rfl ?_)))
    refine wpR_v (OpV_assign rfl) rfl (wpR_nil ?_)
    exact QE_rnd (wpN_le _ (by exact ⟨rfl, rfl, rfl, trivial⟩) (ih_3 (wI (x_1 + 1)) _ _ ⟨rfl, hS⟩ (oinl_some h hk_2)))
  ·have h := if_f h hb_13
   refine wpC_exit ?_
   refine QE_then_x (QE_then_x ?_)
   have h := oinr_some h hk_2
   refine QE_blk_x ?_
   refine QE_then_n (wpC_seq (wpC_region (wpR_v (OpV_move rfl) rfl (wpR_v (OpV_lenS Tryd.underlying9 rfl) rfl ?_))))
   refine wpR_v (OpV_move rfl) rfl (wpR_v (OpV_lenS Tryd.underlying9 rfl) rfl ?_)
   refine wpR_v (OpV_bin rfl rfl (b_ilss _ (a0.length : Int) (a1.length : Int))) rfl ?_
   refine wpR_v (OpV_assign rfl) rfl (wpR_nil (QE_then_n (wpC_ret ?_)))
   cases h
   exact QE_ret1 rfl rfl ⟨rfl, hS⟩
 ·intro hK_7
  refine wpC_region (wpR_v (OpV_move rfl) rfl (wpR_v (OpV_move rfl) rfl (wpR_v (OpV_lenS Tryd.underlying9 rfl) rfl ?_)))
  refine wpR_v (OpV_bin rfl rfl (b_ilss _ x_1 (a0.length : Int))) rfl ?_
  refine wpR_v (OpV_move rfl) rfl ?_
  cases hb_5 : (decide (x_1 < (a0.length : Int)))
  case true =>
   have h := if_t h hb_5
   try simp only [hb_5]
   refine wpR_gv (t := 10) rfl rfl (OpV_move rfl) rfl ?_
   refine wpR_gv (t := 10) rfl rfl (OpV_move rfl) rfl ?_
   refine wpR_gv (t := 10) rfl rfl (OpV_lenS Tryd.underlying9 rfl) rfl ?_
   refine wpR_gv (t := 10) rfl rfl (OpV_bin rfl rfl (b_ilss _ x_1 (a1.length : Int))) rfl ?_
   refine wpR_v (OpV_pickT rfl rfl) rfl (wpR_nil (QE_then_n ?_))
   exact wpC_le _ (by exact ⟨rfl, rfl, rfl, rfl, trivial⟩) (hK_7 (decide (x_1 < (a1.length : Int))) _ _ ⟨rfl, hS⟩ h)
  case false =>
   have h := if_f h hb_5
   try simp only [hb_5]
   refine wpR_gskip (b := false) (t := 10) rfl rfl rfl rfl ?_
   refine wpR_gskip (b := false) (t := 10) rfl rfl rfl rfl ?_
   refine wpR_gskip (b := false) (t := 10) rfl rfl rfl rfl ?_
   refine wpR_gskip (b := false) (t := 10) rfl rfl rfl rfl ?_
   refine wpR_v (OpV_pickF rfl rfl) rfl (wpR_nil (QE_then_n ?_))
   exact wpC_le _ (by exact ⟨rfl, rfl, rfl, rfl, trivial⟩) (hK_7 false _ _ ⟨rfl, hS⟩ h)
theorem c_ref30_Reader_pairs (rc : (List UInt8) → Int → (List (Int × UInt64 × (List UInt8) × Int)) → Int → Int → Int → Option (List UInt8 × Int × List (Int × UInt64 × (List UInt8) × Int) × Int × Int)) (hrc : ∀ (w0 : World) (a0_0 : List UInt8) (a0_1 : Int) (a0_2 : List (Int × UInt64 × (List UInt8) × Int)) (a0_3 : Int) (a0_4 : Int) (a1 : Int) (va0_2 : Value) (ba0 : Nat) (S : List Nat) (hS : St S w0 w0 [OE.bx ba0 [vS a0_0, vI a0_1, va0_2, vI a0_3, vI a0_4], own (eP eI (eP e64 (eP eS eI))) va0_2 a0_2]) (r : List UInt8 × Int × List (Int × UInt64 × (List UInt8) × Int) × Int × Int), rc a0_0 a0_1 a0_2 a0_3 a0_4 a1 = some r → Calls Tryd.prog 46 #[pB ba0 0, vI a1] w0 (Ret fun v w => ∃ u0_2 : Value, v = .tuple #[] ∧ St S w0 w [OE.bx ba0 [vS r.1, vI r.2.1, u0_2, vI r.2.2.2.1, vI r.2.2.2.2], own (eP eI (eP e64 (eP eS eI))) u0_2 r.2.2.1])) (w0 : World) (a0_0 : List UInt8) (a0_1 : Int) (a0_2 : List (Int × UInt64 × (List UInt8) × Int)) (a0_3 : Int) (a0_4 : Int) (a1 : UInt64) (a2 : Int) (va0_2 : Value) (ba0 : Nat) (S : List Nat) (hS : St S w0 w0 [OE.bx ba0 [vS a0_0, vI a0_1, va0_2, vI a0_3, vI a0_4], own (eP eI (eP e64 (eP eS eI))) va0_2 a0_2]) (r : List UInt8 × Int × List (Int × UInt64 × (List UInt8) × Int) × Int × Int)
  (h : F.ref30_Reader_pairs rc a0_0 a0_1 a0_2 a0_3 a0_4 a1 a2 = some r) : Calls Tryd.prog 62 #[pB ba0 0, v64 a1, vI a2] w0 (Ret fun v w => ∃ u0_2 : Value, v = .tuple #[] ∧ St S w0 w [OE.bx ba0 [vS r.1, vI r.2.1, u0_2, vI r.2.2.2.1, vI r.2.2.2.2], own (eP eI (eP e64 (eP eS eI))) u0_2 r.2.2.1]) := by
 refine calls_at 61 Tryd.func62 rfl rfl rfl ?_
 refine wpC_le [(0, pB ba0 0), (1, v64 a1), (2, vI a2)] ⟨rfl, rfl, rfl, trivial⟩ ?_
 unfold F.ref30_Reader_pairs at h
 refine wpC_seq (wpC_region (wpR_v (OpV_assign rfl) rfl (wpR_nil (QE_then_n (wpC_seq (wpC_region ?_))))))
 refine wpR_v (OpV_assign rfl) rfl (wpR_nil (QE_then_n (wpC_block ?_)))
 refine wpC_le [(0, pB ba0 0), (1, v64 a1), (2, vI a2), (6, vS []), (7, v64 0)] ⟨rfl, rfl, rfl, rfl, rfl, trivial⟩ ?_
 refine loop_ind (F.ref30_Reader_pairs_L1 a1 a2 rc) (fun (s : List UInt8 × UInt64 × List UInt8 × Int × (List (Int × UInt64 × (List UInt8) × Int)) × Int × Int) L w => ∃ (v_8 : Value), L = [(0, pB ba0 0), (1, v64 a1), (2, vI a2), (6, vS s.1), (7, v64 s.2.1)] ∧ St S w0 w [own (eP eI (eP e64 (eP eS eI))) v_8 s.2.2.2.2.1, OE.bx ba0 [vS s.2.2.1, vI s.2.2.2.1, v_8, vI s.2.2.2.2.2.1, vI s.2.2.2.2.2.2]]) ?_ ([], 0, a0_0, a0_1, a0_2, a0_3, a0_4) ⟨va0_2, rfl, (hS.pick [1, 0] (by decide) rfl)⟩ h
 rintro k_35 ⟨x_3, x_4, x_5, x_6, x_7, x_10, x_11⟩ L w q_14 hI ih_13 h hk_12
 try dsimp only at hI
 obtain ⟨v_8, rfl, hS⟩ := hI
 unfold F.ref30_Reader_pairs_L1 at h
 refine wpC_seq ?_
 refine seq_join (r := q_14) (fun (g : Bool) L w => L = [(0, pB ba0 0), (1, v64 a1), (2, vI a2), (6, vS x_3), (7, v64 x_4), (19, vB g)] ∧ St S w0 w [OE.bx ba0 [vS x_5, vI x_6, v_8, vI x_10, vI x_11], own (eP eI (eP e64 (eP eS eI))) v_8 x_7]) (F.ref30_Reader_pairs_K1 a2 rc x_3 x_4 x_5 x_6 x_7 x_10 x_11) ?_ ?_
 ·rintro x_16 L w hJ h
  try dsimp only at hJ
  obtain ⟨rfl, hS⟩ := hJ
  unfold F.ref30_Reader_pairs_K1 at h
  refine wpC_cond rfl (fun hb_34 => ?_) (fun hb_34 => ?_)
  ·have h := if_t h hb_34
   refine wpC_skip (QE_then_n (wpC_seq (wpC_block ?_)))
   refine wpC_seq (wpC_region (wpR_v (OpV_move rfl) rfl (wpR_v (OpV_nilB rfl) rfl ?_)))
   refine wpR_v (OpV_fieldB (k := 1) Tryd.underlying93 rfl rfl nz3 rfl) rfl ?_
   refine wpR_v (OpV_ldB Tryd.underlying3 rfl rfl (hS.bxc 0 rfl 1)) rfl ?_
   refine wpR_v (OpV_assign rfl) rfl (wpR_nil (QE_then_n (wpC_seq (wpC_region (wpR_v (OpV_move rfl) rfl (wpR_v (OpV_move rfl) rfl ?_))))))
   refine wpR_v (OpV_bin rfl rfl (b_iadd _ a2 1)) rfl ?_
   have hG := hS.pick (os' := [OE.bx ba0 [vS x_5, vI x_6, v_8, vI x_10, vI x_11], own (eP eI (eP e64 (eP eS eI))) v_8 x_7] ++ []) [0, 1] (by decide) rfl
   obtain ⟨x_18, hx_18, h⟩ := obind_some h
   refine wpR_call (by kernel_rfl) rfl (hrc _ x_5 x_6 x_7 x_10 x_11 (wI (a2 + 1)) v_8 ba0 _ hG.give  _ hx_18) rfl ?_
   rintro _ w ⟨v_19, rfl, hS1⟩
   have hS := hG.back hS1
   simp only [List.cons_append, List.nil_append] at hS
   refine wpR_nil (QE_then_n (wpC_seq (wpC_seq (wpC_region (wpR_v (OpV_move rfl) rfl (wpR_v (OpV_nilB rfl) rfl ?_))))))
   refine wpR_v (OpV_fieldB (k := 3) Tryd.underlying93 rfl rfl nz30 rfl) rfl ?_
   refine wpR_v (OpV_ldB Tryd.underlying30 rfl rfl (hS.bxc 0 rfl 3)) rfl ?_
   refine wpR_v (OpV_bin rfl rfl (b_ineq _ x_18.2.2.2.1 0)) rfl ?_
   refine wpR_nil (QE_then_n ?_)
   refine wpC_cond rfl (fun hb_33 => ?_) (fun hb_33 => ?_)
   ·have h := if_t h hb_33
    refine wpC_ret (QE_then_r (QE_blk_r ?_))
    refine QE_then_r (QE_then_r ?_)
    have h := oinr_some h hk_12
    refine QE_blk_r ?_
    cases h
    exact QE_ret0 rfl ⟨v_19, rfl, hS.pick [0, 1] (by decide) rfl⟩
   ·have h := if_f h hb_33
    refine wpC_skip (QE_then_n (wpC_seq ?_))
    refine wpC_regionT (fun w' => St S w0 w' [OE.bx ba0 [vS x_18.1, vI x_18.2.1, v_19, vI x_18.2.2.2.1, vI x_18.2.2.2.2], own (eP eI (eP e64 (eP eS eI))) v_19 x_18.2.2.1]) (fun _ => true) hmix (fun _ _ _ hf => hf.2) (fun _ _ hf => hf) (by kernel_rfl) ?_
    have hS := hS.drew
    show lxE _ _ _ _ _ _ _ [0, 1, 2, 3, 4, 5, 6, 7, 8, 9, 10] _ _
    refine lxE_v hS rfl rfl (fun w hF => OpV_move rfl) rfl ?_
    refine lxE_v hS rfl rfl (fun w hF => OpV_nilB rfl) rfl ?_
    refine lxE_v hS rfl rfl (fun w hF => OpV_fieldB (k := 0) Tryd.underlying93 rfl rfl nz9 rfl) rfl ?_
    refine lxE_v hS rfl rfl (fun w hF => OpV_ldB Tryd.underlying9 rfl rfl (hF.bxc 0 rfl 0)) rfl ?_
    refine lxE_v hS rfl rfl (fun w hF => OpV_move rfl) rfl ?_
    refine lxE_v hS rfl rfl (fun w hF => OpV_move rfl) rfl ?_
    refine lxE_v hS rfl rfl (fun w hF => OpV_nilB rfl) rfl ?_
    refine lxE_v hS rfl rfl (fun w hF => OpV_fieldB (k := 1) Tryd.underlying93 rfl rfl nz3 rfl) rfl ?_
    refine lxE_v hS rfl rfl (fun w hF => OpV_ldB Tryd.underlying3 rfl rfl (hF.bxc 0 rfl 1)) rfl ?_
    obtain ⟨x_21, hx_21, h⟩ := obind_some h
    refine lxE_v hS rfl rfl (fun w hF => G_slS Tryd.underlying9 rfl rfl rfl hx_21) rfl ?_
    refine lxE_v hS rfl rfl (fun w hF => OpV_assign rfl) rfl ?_
    refine lxE_nil hS ?_
    refine QE_then_n (wpC_seq ?_)
    refine seq_join (r := q_14) (fun (g : Bool) L w => L = [(0, pB ba0 0), (1, v64 a1), (2, vI a2), (7, v64 x_4), (8, vI x_6), (9, vS x_21), (52, vB g)] ∧ St S w0 w [OE.bx ba0 [vS x_18.1, vI x_18.2.1, v_19, vI x_18.2.2.2.1, vI x_18.2.2.2.2], own (eP eI (eP e64 (eP eS eI))) v_19 x_18.2.2.1]) (F.ref30_Reader_pairs_K2 a2 rc x_4 x_6 x_18 x_21) ?_ ?_
    ·rintro x_24 L w hJ h
     try dsimp only at hJ
     obtain ⟨rfl, hS⟩ := hJ
     unfold F.ref30_Reader_pairs_K2 at h
     refine wpC_cond rfl (fun hb_32 => ?_) (fun hb_32 => ?_)
     ·have h := if_t h hb_32
      refine wpC_seq (wpC_region (wpR_v (OpV_move rfl) rfl (wpR_v (OpV_move rfl) rfl ?_)))
      have hG := hS.pick (os' := [OE.bx ba0 [vS x_18.1, vI x_18.2.1, v_19, vI x_18.2.2.2.1, vI x_18.2.2.2.2], own (eP eI (eP e64 (eP eS eI))) v_19 x_18.2.2.1] ++ []) [0, 1] (by decide) rfl
      obtain ⟨x_26, hx_26, h⟩ := obind_some h
      refine wpR_call (by kernel_rfl) rfl (c_ref30_Reader_fail _ x_18.1 x_18.2.1 x_18.2.2.1 x_18.2.2.2.1 x_18.2.2.2.2 220 x_6 v_19 ba0 _ hG.give  _ hx_26) rfl ?_
      rintro _ w ⟨v_27, rfl, hS1⟩
      have hS := hG.back hS1
      simp only [List.cons_append, List.nil_append] at hS
      refine wpR_nil (QE_then_n (wpC_ret (QE_then_r (QE_blk_r ?_))))
      refine QE_then_r (QE_then_r ?_)
      have h := oinr_some h hk_12
      refine QE_blk_r ?_
      cases h
      exact QE_ret0 rfl ⟨v_27, rfl, hS.pick [0, 1] (by decide) rfl⟩
     ·have h := if_f h hb_32
      refine wpC_skip (QE_then_n (wpC_seq (wpC_region (wpR_v (OpV_move rfl) rfl (wpR_v (OpV_assign rfl) rfl (wpR_nil ?_))))))
      refine QE_then_n (wpC_region (wpR_v (OpV_move rfl) rfl (wpR_v (OpV_move rfl) rfl (wpR_v (OpV_bin rfl rfl (b_iadd _ a2 1)) rfl ?_))))
      have hG := hS.pick (os' := [OE.bx ba0 [vS x_18.1, vI x_18.2.1, v_19, vI x_18.2.2.2.1, vI x_18.2.2.2.2], own (eP eI (eP e64 (eP eS eI))) v_19 x_18.2.2.1] ++ []) [0, 1] (by decide) rfl
      obtain ⟨x_29, hx_29, h⟩ := obind_some h
      refine wpR_call (by kernel_rfl) rfl (hrc _ x_18.1 x_18.2.1 x_18.2.2.1 x_18.2.2.2.1 x_18.2.2.2.2 (wI (a2 + 1)) v_19 ba0 _ hG.give  _ hx_29) rfl ?_
      rintro _ w ⟨v_30, rfl, hS1⟩
      have hS := hG.back hS1
      simp only [List.cons_append, List.nil_append] at hS
      refine wpR_nil (QE_blk_n ?_)
      refine QE_then_n (wpC_region (wpR_v (OpV_move rfl) rfl (wpR_v (OpV_bin rfl rfl (b_add64 _ x_4 1)) rfl ?_)))
      refine wpR_v (OpV_assign rfl) rfl (wpR_nil ?_)
      exact QE_rnd (wpN_le _ (by exact ⟨rfl, rfl, rfl, rfl, rfl, trivial⟩) (ih_13 (x_21, x_4 + 1, x_29.1, x_29.2.1, x_29.2.2.1, x_29.2.2.2.1, x_29.2.2.2.2) _ _ ⟨v_30, rfl, (hS.pick [1, 0] (by decide) rfl)⟩ (oinl_some h hk_12)))
    ·intro hK_25
     refine wpC_region (wpR_v (OpV_move rfl) rfl (wpR_v (OpV_bin rfl rfl (b_gtr64 _ x_4 0)) rfl ?_))
     refine wpR_v (OpV_move rfl) rfl ?_
     cases hb_22 : (decide ((0 : UInt64) < x_4))
     case true =>
      have h := if_t h hb_22
      try simp only [hb_22]
      refine wpR_gv (t := 47) rfl rfl (OpV_move rfl) rfl ?_
      refine wpR_gv (t := 47) rfl rfl (OpV_move rfl) rfl ?_
      obtain ⟨x_23, hx_23, h⟩ := obind_some h
      refine wpR_gcall (t := 47) rfl rfl (by kernel_rfl) rfl (c_ref30_Less _ x_3 x_21    _ hx_23) rfl ?_
      rintro _ w ⟨rfl, hS1⟩
      have hS := hS.call hS1
      simp only [List.cons_append, List.nil_append] at hS
      refine wpR_gv (t := 47) rfl rfl (OpV_un rfl (u_not x_23)) rfl ?_
      refine wpR_v (OpV_pickT rfl rfl) rfl (wpR_nil (QE_then_n ?_))
      exact wpC_le _ (by exact ⟨rfl, rfl, rfl, rfl, rfl, rfl, rfl, trivial⟩) (hK_25 (!x_23) _ _ ⟨rfl, hS⟩ h)
     case false =>
      have h := if_f h hb_22
      try simp only [hb_22]
      refine wpR_gskip (b := false) (t := 47) rfl rfl rfl rfl ?_
      refine wpR_gskip (b := false) (t := 47) rfl rfl rfl rfl ?_
      refine wpR_gskip (b := false) (t := 47) rfl rfl rfl rfl ?_
      refine wpR_gskip (b := false) (t := 47) rfl rfl rfl rfl ?_
      refine wpR_v (OpV_pickF rfl rfl) rfl (wpR_nil (QE_then_n ?_))
      exact wpC_le _ (by exact ⟨rfl, rfl, rfl, rfl, rfl, rfl, rfl, trivial⟩) (hK_25 false _ _ ⟨rfl, hS⟩ h)
  ·have h := if_f h hb_34
   refine wpC_exit ?_
   refine QE_then_x (QE_then_x ?_)
   have h := oinr_some h hk_12
   refine QE_blk_x ?_
   cases h
   exact QE_end0 rfl ⟨v_8, rfl, hS.pick [0, 1] (by decide) rfl⟩
 ·intro hK_17
  refine wpC_region (wpR_v (OpV_move rfl) rfl (wpR_v (OpV_move rfl) rfl (wpR_v (OpV_bin rfl rfl (b_lss64 _ x_4 a1)) rfl ?_)))
  refine wpR_v (OpV_move rfl) rfl ?_
  cases hb_15 : (decide (x_4 < a1))
  case true =>
   have h := if_t h hb_15
   try simp only [hb_15]
   refine wpR_gv (t := 13) rfl rfl (OpV_move rfl) rfl ?_
   refine wpR_gv (t := 13) rfl rfl (OpV_nilB rfl) rfl ?_
   refine wpR_gv (t := 13) rfl rfl (OpV_fieldB (k := 3) Tryd.underlying93 rfl rfl nz30 rfl) rfl ?_
   refine wpR_gv (t := 13) rfl rfl (OpV_ldB Tryd.underlying30 rfl rfl (hS.bxc 1 rfl 3)) rfl ?_
   refine wpR_gv (t := 13) rfl rfl (OpV_bin rfl rfl (b_ieql _ x_10 0)) rfl ?_
   refine wpR_v (OpV_pickT rfl rfl) rfl (wpR_nil (QE_then_n ?_))
   exact wpC_le _ (by exact ⟨rfl, rfl, rfl, rfl, rfl, rfl, trivial⟩) (hK_17 (x_10 == 0) _ _ ⟨rfl, (hS.pick [1, 0] (by decide) rfl)⟩ h)
  case false =>
   have h := if_f h hb_15
   try simp only [hb_15]
   refine wpR_gskip (b := false) (t := 13) rfl rfl rfl rfl ?_
   refine wpR_gskip (b := false) (t := 13) rfl rfl rfl rfl ?_
   refine wpR_gskip (b := false) (t := 13) rfl rfl rfl rfl ?_
   refine wpR_gskip (b := false) (t := 13) rfl rfl rfl rfl ?_
   refine wpR_gskip (b := false) (t := 13) rfl rfl rfl rfl ?_
   refine wpR_v (OpV_pickF rfl rfl) rfl (wpR_nil (QE_then_n ?_))
   exact wpC_le _ (by exact ⟨rfl, rfl, rfl, rfl, rfl, rfl, trivial⟩) (hK_17 false _ _ ⟨rfl, (hS.pick [1, 0] (by decide) rfl)⟩ h)
theorem c_ref30_Reader_item_s (rc : (List UInt8) → Int → (List (Int × UInt64 × (List UInt8) × Int)) → Int → Int → Int → Option (List UInt8 × Int × List (Int × UInt64 × (List UInt8) × Int) × Int × Int)) (hrc : ∀ (w0 : World) (a0_0 : List UInt8) (a0_1 : Int) (a0_2 : List (Int × UInt64 × (List UInt8) × Int)) (a0_3 : Int) (a0_4 : Int) (a1 : Int) (va0_2 : Value) (ba0 : Nat) (S : List Nat) (hS : St S w0 w0 [OE.bx ba0 [vS a0_0, vI a0_1, va0_2, vI a0_3, vI a0_4], own (eP eI (eP e64 (eP eS eI))) va0_2 a0_2]) (r : List UInt8 × Int × List (Int × UInt64 × (List UInt8) × Int) × Int × Int), rc a0_0 a0_1 a0_2 a0_3 a0_4 a1 = some r → Calls Tryd.prog 46 #[pB ba0 0, vI a1] w0 (Ret fun v w => ∃ u0_2 : Value, v = .tuple #[] ∧ St S w0 w [OE.bx ba0 [vS r.1, vI r.2.1, u0_2, vI r.2.2.2.1, vI r.2.2.2.2], own (eP eI (eP e64 (eP eS eI))) u0_2 r.2.2.1])) (w0 : World) (a0_0 : List UInt8) (a0_1 : Int) (a0_2 : List (Int × UInt64 × (List UInt8) × Int)) (a0_3 : Int) (a0_4 : Int) (a1 : Int) (va0_2 : Value) (ba0 : Nat) (S : List Nat) (hS : St S w0 w0 [OE.bx ba0 [vS a0_0, vI a0_1, va0_2, vI a0_3, vI a0_4], own (eP eI (eP e64 (eP eS eI))) va0_2 a0_2]) (r : List UInt8 × Int × List (Int × UInt64 × (List UInt8) × Int) × Int × Int)
  (h : F.ref30_Reader_item_s rc a0_0 a0_1 a0_2 a0_3 a0_4 a1 = some r) : Calls Tryd.prog 46 #[pB ba0 0, vI a1] w0 (Ret fun v w => ∃ u0_2 : Value, v = .tuple #[] ∧ St S w0 w [OE.bx ba0 [vS r.1, vI r.2.1, u0_2, vI r.2.2.2.1, vI r.2.2.2.2], own (eP eI (eP e64 (eP eS eI))) u0_2 r.2.2.1]) := by
 refine calls_at 185 Tryd.func46 rfl rfl rfl ?_
 refine wpC_le [(0, pB ba0 0), (1, vI a1)] ⟨rfl, rfl, trivial⟩ ?_
 unfold F.ref30_Reader_item_s at h
 refine wpC_seq (wpC_seq (wpC_region (wpR_v (OpV_move rfl) rfl (wpR_v (OpV_nilB rfl) rfl ?_))))
 refine wpR_v (OpV_fieldB (k := 3) Tryd.underlying93 rfl rfl nz30 rfl) rfl ?_
 refine wpR_v (OpV_ldB Tryd.underlying30 rfl rfl (hS.bxc 0 rfl 3)) rfl ?_
 refine wpR_v (OpV_bin rfl rfl (b_ineq _ a0_3 0)) rfl ?_
 refine wpR_nil (QE_then_n ?_)
 refine wpC_cond rfl (fun hb_95 => ?_) (fun hb_95 => ?_)
 ·have h := if_t h hb_95
  refine wpC_ret (QE_then_r ?_)
  cases h
  exact QE_ret0 rfl ⟨va0_2, rfl, hS.pick [0, 1] (by decide) rfl⟩
 ·have h := if_f h hb_95
  refine wpC_skip (QE_then_n (wpC_seq (wpC_region (wpR_v (OpV_move rfl) rfl (wpR_v (OpV_nilB rfl) rfl ?_)))))
  refine wpR_v (OpV_fieldB (k := 1) Tryd.underlying93 rfl rfl nz3 rfl) rfl ?_
  refine wpR_v (OpV_ldB Tryd.underlying3 rfl rfl (hS.bxc 0 rfl 1)) rfl ?_
  refine wpR_v (OpV_assign rfl) rfl (wpR_nil (QE_then_n (wpC_seq (wpC_region (wpR_v (OpV_move rfl) rfl (wpR_v (OpV_nilB rfl) rfl ?_))))))
  refine wpR_v (OpV_fieldB (k := 2) Tryd.underlying93 rfl rfl nz37 rfl) rfl ?_
  refine wpR_v (OpV_ldB Tryd.underlying37 rfl rfl (hS.bxc 0 rfl 2)) rfl ?_
  refine wpR_v (OpV_len Tryd.underlying37 rfl (hS.ro 1 rfl)) rfl ?_
  refine wpR_v (OpV_assign rfl) rfl (wpR_nil (QE_then_n (wpC_seq (wpC_region (wpR_v (OpV_move rfl) rfl ?_)))))
  have hG := hS.pick (os' := [OE.bx ba0 [vS a0_0, vI a0_1, va0_2, vI a0_3, vI a0_4], own (eP eI (eP e64 (eP eS eI))) va0_2 a0_2] ++ []) [0, 1] (by decide) rfl
  obtain ⟨x_3, hx_3, h⟩ := obind_some h
  refine wpR_call (by kernel_rfl) rfl (c_ref30_Reader_head _ a0_0 a0_1 a0_2 a0_3 a0_4 va0_2 ba0 _ hG.give  _ hx_3) rfl ?_
  rintro _ w ⟨v_4, rfl, hS1⟩
  have hS := hG.back hS1
  simp only [List.cons_append, List.nil_append] at hS
  refine wpR_v (OpV_move rfl) rfl (wpR_v (OpV_extract rfl rfl) rfl ?_)
  refine wpR_v (OpV_extract rfl rfl) rfl ?_
  refine wpR_v (OpV_assign rfl) rfl (wpR_v (OpV_assign rfl) rfl (wpR_nil (QE_then_n (wpC_seq (wpC_seq (wpC_region ?_))))))
  refine wpR_v (OpV_move rfl) rfl (wpR_v (OpV_nilB rfl) rfl ?_)
  refine wpR_v (OpV_fieldB (k := 3) Tryd.underlying93 rfl rfl nz30 rfl) rfl ?_
  refine wpR_v (OpV_ldB Tryd.underlying30 rfl rfl (hS.bxc 0 rfl 3)) rfl ?_
  refine wpR_v (OpV_bin rfl rfl (b_ineq _ x_3.2.2.2.2.2.1 0)) rfl ?_
  refine wpR_nil (QE_then_n ?_)
  refine wpC_cond rfl (fun hb_94 => ?_) (fun hb_94 => ?_)
  ·have h := if_t h hb_94
   refine wpC_ret (QE_then_r ?_)
   cases h
   exact QE_ret0 rfl ⟨v_4, rfl, hS.pick [0, 1] (by decide) rfl⟩
  ·have h := if_f h hb_94
   refine wpC_skip (QE_then_n (wpC_seq ?_))
   refine seq_join (r := r) (fun (g : Bool) L w => L = [(0, pB ba0 0), (1, vI a1), (4, vI a0_1), (5, vI (a0_2.length : Int)), (6, vI x_3.1), (7, v64 x_3.2.1), (43, vB g)] ∧ St S w0 w [OE.bx ba0 [vS x_3.2.2.1, vI x_3.2.2.2.1, v_4, vI x_3.2.2.2.2.2.1, vI x_3.2.2.2.2.2.2], own (eP eI (eP e64 (eP eS eI))) v_4 x_3.2.2.2.2.1]) (F.ref30_Reader_item_s_K1 a0_1 x_3 a0_2 a1 rc) ?_ ?_
   ·rintro x_8 L w hJ h
    try dsimp only at hJ
    obtain ⟨rfl, hS⟩ := hJ
    unfold F.ref30_Reader_item_s_K1 at h
    refine wpC_cond rfl (fun hb_93 => ?_) (fun hb_93 => ?_)
    ·have h := if_t h hb_93
     refine wpC_seq (wpC_region (wpR_v (OpV_move rfl) rfl (wpR_v (OpV_move rfl) rfl ?_)))
     have hG := hS.pick (os' := [OE.bx ba0 [vS x_3.2.2.1, vI x_3.2.2.2.1, v_4, vI x_3.2.2.2.2.2.1, vI x_3.2.2.2.2.2.2], own (eP eI (eP e64 (eP eS eI))) v_4 x_3.2.2.2.2.1] ++ []) [0, 1] (by decide) rfl
     obtain ⟨x_10, hx_10, h⟩ := obind_some h
     refine wpR_call (by kernel_rfl) rfl (c_ref30_Reader_fail _ x_3.2.2.1 x_3.2.2.2.1 x_3.2.2.2.2.1 x_3.2.2.2.2.2.1 x_3.2.2.2.2.2.2 11 a0_1 v_4 ba0 _ hG.give  _ hx_10) rfl ?_
     rintro _ w ⟨v_11, rfl, hS1⟩
     have hS := hG.back hS1
     simp only [List.cons_append, List.nil_append] at hS
     refine wpR_nil (QE_then_n (wpC_ret (QE_then_r ?_)))
     cases h
     exact QE_ret0 rfl ⟨v_11, rfl, hS.pick [0, 1] (by decide) rfl⟩
    ·have h := if_f h hb_93
     refine wpC_skip (QE_then_n (wpC_seq (wpC_region (wpR_v (OpV_move rfl) rfl (wpR_v (OpV_build (vs := [(0, vI x_3.1, [vI x_3.1])]) (cells := [vI x_3.1, v64 0, vS [], vI 0]) rfl lay42 ⟨rfl, trivial⟩ rfl) rfl ?_)))))
     refine wpR_x (OpX_alloc (cs := [vI 0, v64 0, vS [], vI 0]) tz42 rfl hS) rfl ?_
     rintro _ w ⟨b_13, rfl, hS⟩
     refine wpR_y (OpY_stB (i := 0) (us := [vI x_3.1, v64 0, vS [], vI 0]) rfl sz42 rfl rfl rfl ⟨rfl, rfl, rfl, rfl, trivial⟩ rfl hS) ?_
     intro w hS
     replace hS : St _ w0 w [OE.bx b_13 [vI x_3.1, v64 0, vS [], vI 0], OE.bx ba0 [vS x_3.2.2.1, vI x_3.2.2.2.1, v_4, vI x_3.2.2.2.2.2.1, vI x_3.2.2.2.2.2.2], own (eP eI (eP e64 (eP eS eI))) v_4 x_3.2.2.2.2.1] := hS
     refine wpR_nil (QE_then_n (wpC_seq (wpC_region (wpR_v (OpV_move rfl) rfl (wpR_nil (QE_then_n ?_))))))
     refine wpC_block ?_
     refine seq_join (r := r) (fun (g : Bool) L w => L = [(0, pB ba0 0), (1, vI a1), (4, vI a0_1), (5, vI (a0_2.length : Int)), (6, vI x_3.1), (7, v64 x_3.2.1), (8, pB b_13 0), (49, vI x_3.1), (50, vB g)] ∧ St S w0 w [OE.bx ba0 [vS x_3.2.2.1, vI x_3.2.2.2.1, v_4, vI x_3.2.2.2.2.2.1, vI x_3.2.2.2.2.2.2], own (eP eI (eP e64 (eP eS eI))) v_4 x_3.2.2.2.2.1, OE.bx b_13 [vI x_3.1, v64 0, vS [], vI 0]]) (F.ref30_Reader_item_s_K2 x_3 a0_2 a1 rc a0_1) ?_ ?_
     ·rintro x_17 L w hJ h
      try dsimp only at hJ
      obtain ⟨rfl, hS⟩ := hJ
      unfold F.ref30_Reader_item_s_K2 at h
      refine wpC_cond rfl (fun hb_92 => ?_) (fun hb_92 => ?_)
      ·have h := if_t h hb_92
       refine wpC_seq (wpC_region (wpR_v (OpV_move rfl) rfl (wpR_v (OpV_fieldB (k := 1) Tryd.underlying42 rfl rfl nz40 rfl) rfl ?_)))
       refine wpR_y (OpY_stB (i := 2) (us := [v64 x_3.2.1]) rfl sz40 rfl rfl rfl ⟨rfl, trivial⟩ rfl hS) ?_
       intro w hS
       replace hS : St _ w0 w [OE.bx ba0 [vS x_3.2.2.1, vI x_3.2.2.2.1, v_4, vI x_3.2.2.2.2.2.1, vI x_3.2.2.2.2.2.2], own (eP eI (eP e64 (eP eS eI))) v_4 x_3.2.2.2.2.1, OE.bx b_13 [vI x_3.1, v64 x_3.2.1, vS [], vI 0]] := hS
       refine wpR_nil (QE_then_n ?_)
       have hsh1 := (hS.ro 1 rfl).shp
       refine wpC_regionS (fun w' => St S w0 w' [OE.bx ba0 [vS x_3.2.2.1, vI x_3.2.2.2.1, v_4, vI x_3.2.2.2.2.2.1, vI x_3.2.2.2.2.2.2], OE.bx b_13 [vI x_3.1, v64 x_3.2.1, vS [], vI 0]]) (fun i => !([6, 7, 10].contains i)) hmix (fun _ _ _ hf => hf.2) (fun _ _ hf => hf) (by kernel_rfl) ?_
       have hS := hS.drew
       show lxE _ _ _ _ _ _ _ [0, 1, 2, 3, 4, 5, 6, 7, 8, 9, 10] _ _
       refine lxE_v (hS.pick [0, 2] (by decide) rfl) rfl rfl (fun w hF => OpV_move rfl) rfl ?_
       refine lxE_v (hS.pick [0, 2] (by decide) rfl) rfl rfl (fun w hF => OpV_move rfl) rfl ?_
       refine lxE_v (hS.pick [0, 2] (by decide) rfl) rfl rfl (fun w hF => OpV_nilB rfl) rfl ?_
       refine lxE_v (hS.pick [0, 2] (by decide) rfl) rfl rfl (fun w hF => OpV_fieldB (k := 2) Tryd.underlying93 rfl rfl nz37 rfl) rfl ?_
       refine lxE_v (hS.pick [0, 2] (by decide) rfl) rfl rfl (fun w hF => OpV_ldB Tryd.underlying37 rfl rfl (hF.bxc 0 rfl 2)) rfl ?_
       refine lxE_v (hS.pick [0, 2] (by decide) rfl) rfl rfl (fun w hF => OpV_ldBs (us := [vI x_3.1, v64 x_3.2.1, vS [], vI 0]) Tryd.underlying42 rfl sz42 rfl (hF.bxs 1 rfl rfl)) rfl ?_
       refine lxE_x (hS.pick [0, 2] (by decide) rfl) rfl rfl (OpX_litE (e := (eP eI (eP e64 (eP eS eI)))) (l := ([(x_3.1, x_3.2.1, [], 0)] : List (Int × UInt64 × (List UInt8) × Int))) (vs := [(0, .agg #[vI x_3.1, v64 x_3.2.1, vS [], vI 0], [vI x_3.1, v64 x_3.2.1, vS [], vI 0])]) Tryd.underlying37 ti42 rfl ⟨rfl, trivial⟩ rfl rfl (Nat.le_of_ble_eq_true rfl) (Nat.le_of_ble_eq_true rfl) hS) rfl ?_
       rintro v_19 w hS
       obtain ⟨x_21, hx_21, h⟩ := obind_some h
       refine lxE_x (hS.pick [1, 3] (by decide) rfl) rfl rfl (G_append Tryd.underlying37 ti42 rfl rfl rfl hS (i := 2) rfl (hS.ro 0 rfl) hx_21) rfl ?_
       rintro v_22 w hS
       refine lxE_v (hS.pick [1, 3] (by decide) rfl) rfl rfl (fun w hF => OpV_nilB rfl) rfl ?_
       refine lxE_v (hS.pick [1, 3] (by decide) rfl) rfl rfl (fun w hF => OpV_fieldB (k := 2) Tryd.underlying93 rfl rfl nz37 rfl) rfl ?_
       refine lxE_y (hS.pick [1, 3] (by decide) rfl) rfl rfl (OpY_stB (i := 1) (us := [v_22]) rfl sz37 rfl rfl (cells_one (hS.ro 2 rfl).one) ⟨(hS.ro 2 rfl).one, trivial⟩ rfl hS) ?_
       intro w hS
       replace hS : St _ w0 w [own (eP eI (eP e64 (eP eS eI))) v_19 ([(x_3.1, x_3.2.1, [], 0)] : List (Int × UInt64 × (List UInt8) × Int)), OE.bx ba0 [vS x_3.2.2.1, vI x_3.2.2.2.1, v_22, vI x_3.2.2.2.2.2.1, vI x_3.2.2.2.2.2.2], own (eP eI (eP e64 (eP eS eI))) v_22 x_21, OE.bx b_13 [vI x_3.1, v64 x_3.2.1, vS [], vI 0]] := hS
       refine lxE_nil trivial ?_
       refine QE_blk_n ?_
       cases h
       exact QE_end0 rfl ⟨v_22, rfl, hS.pick [1, 2] (by decide) rfl⟩
      ·have h := if_f h hb_92
       refine seq_join (r := r) (fun (g : Bool) L w => L = [(0, pB ba0 0), (1, vI a1), (4, vI a0_1), (5, vI (a0_2.length : Int)), (6, vI x_3.1), (7, v64 x_3.2.1), (8, pB b_13 0), (49, vI x_3.1), (66, vB g)] ∧ St S w0 w [OE.bx ba0 [vS x_3.2.2.1, vI x_3.2.2.2.1, v_4, vI x_3.2.2.2.2.2.1, vI x_3.2.2.2.2.2.2], own (eP eI (eP e64 (eP eS eI))) v_4 x_3.2.2.2.2.1, OE.bx b_13 [vI x_3.1, v64 0, vS [], vI 0]]) (F.ref30_Reader_item_s_K3 a0_2 a1 rc x_3 a0_1) ?_ ?_
       ·rintro x_25 L w hJ h
        try dsimp only at hJ
        obtain ⟨rfl, hS⟩ := hJ
        unfold F.ref30_Reader_item_s_K3 at h
        refine wpC_cond rfl (fun hb_91 => ?_) (fun hb_91 => ?_)
        ·have h := if_t h hb_91
         refine wpC_seq (wpC_region (wpR_v (OpV_move rfl) rfl (wpR_v (OpV_move rfl) rfl ?_)))
         have hG := hS.pick (os' := [OE.bx ba0 [vS x_3.2.2.1, vI x_3.2.2.2.1, v_4, vI x_3.2.2.2.2.2.1, vI x_3.2.2.2.2.2.2], own (eP eI (eP e64 (eP eS eI))) v_4 x_3.2.2.2.2.1] ++ [OE.bx b_13 [vI x_3.1, v64 0, vS [], vI 0]]) [0, 1, 2] (by decide) rfl
         obtain ⟨x_27, hx_27, h⟩ := obind_some h
         refine wpR_call (by kernel_rfl) rfl (c_ref30_Reader_text _ x_3.2.2.1 x_3.2.2.2.1 x_3.2.2.2.2.1 x_3.2.2.2.2.2.1 x_3.2.2.2.2.2.2 x_3.2.1 v_4 ba0 _ hG.give  _ hx_27) rfl ?_
         rintro _ w ⟨v_28, rfl, hS1⟩
         have hS := hG.back hS1
         simp only [List.cons_append, List.nil_append] at hS
         refine wpR_v (OpV_fieldB (k := 2) Tryd.underlying42 rfl rfl nz9 rfl) rfl ?_
         refine wpR_y (OpY_stB (i := 2) (us := [vS x_27.1]) rfl sz9 rfl rfl rfl ⟨rfl, trivial⟩ rfl hS) ?_
         intro w hS
         replace hS : St _ w0 w [OE.bx ba0 [vS x_27.2.1, vI x_27.2.2.1, v_28, vI x_27.2.2.2.2.1, vI x_27.2.2.2.2.2], own (eP eI (eP e64 (eP eS eI))) v_28 x_27.2.2.2.1, OE.bx b_13 [vI x_3.1, v64 0, vS x_27.1, vI 0]] := hS
         refine wpR_nil (QE_then_n (wpC_seq ?_))
         have hsh1 := (hS.ro 1 rfl).shp
         refine wpC_regionS (fun w' => St S w0 w' [OE.bx ba0 [vS x_27.2.1, vI x_27.2.2.1, v_28, vI x_27.2.2.2.2.1, vI x_27.2.2.2.2.2], OE.bx b_13 [vI x_3.1, v64 0, vS x_27.1, vI 0]]) (fun i => !([6, 7, 10].contains i)) hmix (fun _ _ _ hf => hf.2) (fun _ _ hf => hf) (by kernel_rfl) ?_
         have hS := hS.drew
         show lxE _ _ _ _ _ _ _ [0, 1, 2, 3, 4, 5, 6, 7, 8, 9, 10] _ _
         refine lxE_v (hS.pick [0, 2] (by decide) rfl) rfl rfl (fun w hF => OpV_move rfl) rfl ?_
         refine lxE_v (hS.pick [0, 2] (by decide) rfl) rfl rfl (fun w hF => OpV_move rfl) rfl ?_
         refine lxE_v (hS.pick [0, 2] (by decide) rfl) rfl rfl (fun w hF => OpV_nilB rfl) rfl ?_
         refine lxE_v (hS.pick [0, 2] (by decide) rfl) rfl rfl (fun w hF => OpV_fieldB (k := 2) Tryd.underlying93 rfl rfl nz37 rfl) rfl ?_
         refine lxE_v (hS.pick [0, 2] (by decide) rfl) rfl rfl (fun w hF => OpV_ldB Tryd.underlying37 rfl rfl (hF.bxc 0 rfl 2)) rfl ?_
         refine lxE_v (hS.pick [0, 2] (by decide) rfl) rfl rfl (fun w hF => OpV_ldBs (us := [vI x_3.1, v64 0, vS x_27.1, vI 0]) Tryd.underlying42 rfl sz42 rfl (hF.bxs 1 rfl rfl)) rfl ?_
         refine lxE_x (hS.pick [0, 2] (by decide) rfl) rfl rfl (OpX_litE (e := (eP eI (eP e64 (eP eS eI)))) (l := ([(x_3.1, 0, x_27.1, 0)] : List (Int × UInt64 × (List UInt8) × Int))) (vs := [(0, .agg #[vI x_3.1, v64 0, vS x_27.1, vI 0], [vI x_3.1, v64 0, vS x_27.1, vI 0])]) Tryd.underlying37 ti42 rfl ⟨rfl, trivial⟩ rfl rfl (Nat.le_of_ble_eq_true rfl) (Nat.le_of_ble_eq_true rfl) hS) rfl ?_
         rintro v_30 w hS
         obtain ⟨x_32, hx_32, h⟩ := obind_some h
         refine lxE_x (hS.pick [1, 3] (by decide) rfl) rfl rfl (G_append Tryd.underlying37 ti42 rfl rfl rfl hS (i := 2) rfl (hS.ro 0 rfl) hx_32) rfl ?_
         rintro v_33 w hS
         refine lxE_v (hS.pick [1, 3] (by decide) rfl) rfl rfl (fun w hF => OpV_nilB rfl) rfl ?_
         refine lxE_v (hS.pick [1, 3] (by decide) rfl) rfl rfl (fun w hF => OpV_fieldB (k := 2) Tryd.underlying93 rfl rfl nz37 rfl) rfl ?_
         refine lxE_y (hS.pick [1, 3] (by decide) rfl) rfl rfl (OpY_stB (i := 1) (us := [v_33]) rfl sz37 rfl rfl (cells_one (hS.ro 2 rfl).one) ⟨(hS.ro 2 rfl).one, trivial⟩ rfl hS) ?_
         intro w hS
         replace hS : St _ w0 w [own (eP eI (eP e64 (eP eS eI))) v_30 ([(x_3.1, 0, x_27.1, 0)] : List (Int × UInt64 × (List UInt8) × Int)), OE.bx ba0 [vS x_27.2.1, vI x_27.2.2.1, v_33, vI x_27.2.2.2.2.1, vI x_27.2.2.2.2.2], own (eP eI (eP e64 (eP eS eI))) v_33 x_32, OE.bx b_13 [vI x_3.1, v64 0, vS x_27.1, vI 0]] := hS
         refine lxE_nil trivial ?_
         refine QE_then_n ?_
         refine seq_join (r := r) (fun (g : Bool) L w => L = [(0, pB ba0 0), (4, vI a0_1), (97, vB g)] ∧ St S w0 w [OE.bx ba0 [vS x_27.2.1, vI x_27.2.2.1, v_33, vI x_27.2.2.2.2.1, vI x_27.2.2.2.2.2], own (eP eI (eP e64 (eP eS eI))) v_33 x_32]) (F.ref30_Reader_item_s_K4 a0_1 x_27 x_32) ?_ ?_
         ·rintro x_38 L w hJ h
          try dsimp only at hJ
          obtain ⟨rfl, hS⟩ := hJ
          unfold F.ref30_Reader_item_s_K4 at h
          refine wpC_cond rfl (fun hb_43 => ?_) (fun hb_43 => ?_)
          ·have h := if_t h hb_43
           refine wpC_region (wpR_v (OpV_move rfl) rfl (wpR_v (OpV_move rfl) rfl ?_))
           have hG := hS.pick (os' := [OE.bx ba0 [vS x_27.2.1, vI x_27.2.2.1, v_33, vI x_27.2.2.2.2.1, vI x_27.2.2.2.2.2], own (eP eI (eP e64 (eP eS eI))) v_33 x_32] ++ []) [0, 1] (by decide) rfl
           obtain ⟨x_40, hx_40, h⟩ := obind_some h
           refine wpR_call (by kernel_rfl) rfl (c_ref30_Reader_fail _ x_27.2.1 x_27.2.2.1 x_32 x_27.2.2.2.2.1 x_27.2.2.2.2.2 32 a0_1 v_33 ba0 _ hG.give  _ hx_40) rfl ?_
           rintro _ w ⟨v_41, rfl, hS1⟩
           have hS := hG.back hS1
           simp only [List.cons_append, List.nil_append] at hS
           refine wpR_nil (QE_blk_n ?_)
           cases h
           exact QE_end0 rfl ⟨v_41, rfl, hS.pick [0, 1] (by decide) rfl⟩
          ·have h := if_f h hb_43
           refine wpC_skip (QE_blk_n ?_)
           cases h
           exact QE_end0 rfl ⟨v_33, rfl, hS.pick [0, 1] (by decide) rfl⟩
         ·intro hK_39
          refine wpC_region (wpR_v (OpV_move rfl) rfl (wpR_v (OpV_nilB rfl) rfl ?_))
          refine wpR_v (OpV_fieldB (k := 3) Tryd.underlying93 rfl rfl nz30 rfl) rfl ?_
          refine wpR_v (OpV_ldB Tryd.underlying30 rfl rfl (hS.bxc 1 rfl 3)) rfl ?_
          refine wpR_v (OpV_bin rfl rfl (b_ieql _ x_27.2.2.2.2.1 0)) rfl ?_
          refine wpR_v (OpV_move rfl) rfl ?_
          cases hb_35 : (x_27.2.2.2.2.1 == 0)
          case true =>
           have h := if_t h hb_35
           try simp only [hb_35]
           refine wpR_gv (t := 88) rfl rfl (OpV_move rfl) rfl ?_
           refine wpR_gv (t := 88) rfl rfl (OpV_bin rfl rfl (b_ieql _ x_3.1 3)) rfl ?_
           refine wpR_v (OpV_pickT rfl rfl) rfl (wpR_v (OpV_move rfl) rfl ?_)
           cases hb_36 : (x_3.1 == 3)
           case true =>
            have h := if_t h hb_36
            try simp only [hb_36]
            refine wpR_gv (t := 92) rfl rfl (OpV_fieldB (k := 2) Tryd.underlying42 rfl rfl nz9 rfl) rfl ?_
            refine wpR_gv (t := 92) rfl rfl (OpV_ldB Tryd.underlying9 rfl rfl (hS.bxc 3 rfl 2)) rfl ?_
            obtain ⟨x_37, hx_37, h⟩ := obind_some h
            refine wpR_gcall (t := 92) rfl rfl (by kernel_rfl) rfl (c_ref30_utf8 _ x_27.1    _ hx_37) rfl ?_
            rintro _ w ⟨rfl, hS1⟩
            have hS := hS.call hS1
            simp only [List.cons_append, List.nil_append] at hS
            refine wpR_gv (t := 92) rfl rfl (OpV_un rfl (u_not x_37)) rfl ?_
            refine wpR_v (OpV_pickT rfl rfl) rfl (wpR_nil (QE_then_n ?_))
            exact wpC_le _ (by exact ⟨rfl, rfl, rfl, trivial⟩) (hK_39 (!x_37) _ _ ⟨rfl, (hS.pick [1, 2] (by decide) rfl)⟩ h)
           case false =>
            have h := if_f h hb_36
            try simp only [hb_36]
            refine wpR_gskip (b := false) (t := 92) rfl rfl rfl rfl ?_
            refine wpR_gskip (b := false) (t := 92) rfl rfl rfl rfl ?_
            refine wpR_gskip (b := false) (t := 92) rfl rfl rfl rfl ?_
            refine wpR_gskip (b := false) (t := 92) rfl rfl rfl rfl ?_
            refine wpR_v (OpV_pickF rfl rfl) rfl (wpR_nil (QE_then_n ?_))
            exact wpC_le _ (by exact ⟨rfl, rfl, rfl, trivial⟩) (hK_39 false _ _ ⟨rfl, (hS.pick [1, 2] (by decide) rfl)⟩ h)
          case false =>
           have h := if_f h hb_35
           try simp only [hb_35]
           refine wpR_gskip (b := false) (t := 88) rfl rfl rfl rfl ?_
           refine wpR_gskip (b := false) (t := 88) rfl rfl rfl rfl ?_
           refine wpR_v (OpV_pickF rfl rfl) rfl (wpR_v (OpV_move rfl) rfl (wpR_gskip (b := false) (t := 92) rfl rfl rfl rfl ?_))
           refine wpR_gskip (b := false) (t := 92) rfl rfl rfl rfl ?_
           refine wpR_gskip (b := false) (t := 92) rfl rfl rfl rfl ?_
           refine wpR_gskip (b := false) (t := 92) rfl rfl rfl rfl ?_
           refine wpR_v (OpV_pickF rfl rfl) rfl (wpR_nil (QE_then_n ?_))
           exact wpC_le _ (by exact ⟨rfl, rfl, rfl, trivial⟩) (hK_39 false _ _ ⟨rfl, (hS.pick [1, 2] (by decide) rfl)⟩ h)
        ·have h := if_f h hb_91
         refine wpC_seq (wpC_region (wpR_v (OpV_bin rfl rfl (b_ieql _ x_3.1 4)) rfl ?_))
         refine wpR_v (OpV_assign rfl) rfl (wpR_nil (QE_then_n ?_))
         refine wpC_cond rfl (fun hb_90 => ?_) (fun hb_90 => ?_)
         ·have h := if_t h hb_90
          refine wpC_seq ?_
          have hsh1 := (hS.ro 1 rfl).shp
          refine wpC_regionS (fun w' => St S w0 w' [OE.bx ba0 [vS x_3.2.2.1, vI x_3.2.2.2.1, v_4, vI x_3.2.2.2.2.2.1, vI x_3.2.2.2.2.2.2], OE.bx b_13 [vI x_3.1, v64 0, vS [], vI 0]]) (fun i => !([6, 7, 10].contains i)) hmix (fun _ _ _ hf => hf.2) (fun _ _ hf => hf) (by kernel_rfl) ?_
          have hS := hS.drew
          show lxE _ _ _ _ _ _ _ [0, 1, 2, 3, 4, 5, 6, 7, 8, 9, 10] _ _
          refine lxE_v (hS.pick [0, 2] (by decide) rfl) rfl rfl (fun w hF => OpV_move rfl) rfl ?_
          refine lxE_v (hS.pick [0, 2] (by decide) rfl) rfl rfl (fun w hF => OpV_move rfl) rfl ?_
          refine lxE_v (hS.pick [0, 2] (by decide) rfl) rfl rfl (fun w hF => OpV_nilB rfl) rfl ?_
          refine lxE_v (hS.pick [0, 2] (by decide) rfl) rfl rfl (fun w hF => OpV_fieldB (k := 2) Tryd.underlying93 rfl rfl nz37 rfl) rfl ?_
          refine lxE_v (hS.pick [0, 2] (by decide) rfl) rfl rfl (fun w hF => OpV_ldB Tryd.underlying37 rfl rfl (hF.bxc 0 rfl 2)) rfl ?_
          refine lxE_v (hS.pick [0, 2] (by decide) rfl) rfl rfl (fun w hF => OpV_ldBs (us := [vI x_3.1, v64 0, vS [], vI 0]) Tryd.underlying42 rfl sz42 rfl (hF.bxs 1 rfl rfl)) rfl ?_
          refine lxE_x (hS.pick [0, 2] (by decide) rfl) rfl rfl (OpX_litE (e := (eP eI (eP e64 (eP eS eI)))) (l := ([(x_3.1, 0, [], 0)] : List (Int × UInt64 × (List UInt8) × Int))) (vs := [(0, .agg #[vI x_3.1, v64 0, vS [], vI 0], [vI x_3.1, v64 0, vS [], vI 0])]) Tryd.underlying37 ti42 rfl ⟨rfl, trivial⟩ rfl rfl (Nat.le_of_ble_eq_true rfl) (Nat.le_of_ble_eq_true rfl) hS) rfl ?_
          rintro v_44 w hS
          obtain ⟨x_46, hx_46, h⟩ := obind_some h
          refine lxE_x (hS.pick [1, 3] (by decide) rfl) rfl rfl (G_append Tryd.underlying37 ti42 rfl rfl rfl hS (i := 2) rfl (hS.ro 0 rfl) hx_46) rfl ?_
          rintro v_47 w hS
          refine lxE_v (hS.pick [1, 3] (by decide) rfl) rfl rfl (fun w hF => OpV_nilB rfl) rfl ?_
          refine lxE_v (hS.pick [1, 3] (by decide) rfl) rfl rfl (fun w hF => OpV_fieldB (k := 2) Tryd.underlying93 rfl rfl nz37 rfl) rfl ?_
          refine lxE_y (hS.pick [1, 3] (by decide) rfl) rfl rfl (OpY_stB (i := 1) (us := [v_47]) rfl sz37 rfl rfl (cells_one (hS.ro 2 rfl).one) ⟨(hS.ro 2 rfl).one, trivial⟩ rfl hS) ?_
          intro w hS
          replace hS : St _ w0 w [own (eP eI (eP e64 (eP eS eI))) v_44 ([(x_3.1, 0, [], 0)] : List (Int × UInt64 × (List UInt8) × Int)), OE.bx ba0 [vS x_3.2.2.1, vI x_3.2.2.2.1, v_47, vI x_3.2.2.2.2.2.1, vI x_3.2.2.2.2.2.2], own (eP eI (eP e64 (eP eS eI))) v_47 x_46, OE.bx b_13 [vI x_3.1, v64 0, vS [], vI 0]] := hS
          refine lxE_nil trivial ?_
          refine QE_then_n (wpC_seq (wpC_seq (wpC_region (wpR_v (OpV_assign rfl) rfl (wpR_nil (QE_then_n ?_))))))
          refine wpC_block ?_
          refine wpC_le [(0, pB ba0 0), (1, vI a1), (5, vI (a0_2.length : Int)), (7, v64 x_3.2.1), (9, v64 0)] ⟨rfl, rfl, rfl, rfl, rfl, trivial⟩ ?_
          refine loop_ind (F.ref30_Reader_item_s_L1 x_3 a0_2 a1 rc) (fun (s : UInt64 × List UInt8 × Int × (List (Int × UInt64 × (List UInt8) × Int)) × Int × Int) L w => ∃ (v_53 : Value), L = [(0, pB ba0 0), (1, vI a1), (5, vI (a0_2.length : Int)), (7, v64 x_3.2.1), (9, v64 s.1)] ∧ St S w0 w [own (eP eI (eP e64 (eP eS eI))) v_53 s.2.2.2.1, OE.bx ba0 [vS s.2.1, vI s.2.2.1, v_53, vI s.2.2.2.2.1, vI s.2.2.2.2.2]]) ?_ (0, x_3.2.2.1, x_3.2.2.2.1, x_46, x_3.2.2.2.2.2.1, x_3.2.2.2.2.2.2) ⟨v_47, rfl, (hS.pick [2, 1] (by decide) rfl)⟩ h
          rintro k_69 ⟨x_49, x_50, x_51, x_52, x_55, x_56⟩ L w q_59 hI ih_58 h hk_57
          try dsimp only at hI
          obtain ⟨v_53, rfl, hS⟩ := hI
          unfold F.ref30_Reader_item_s_L1 at h
          refine wpC_seq ?_
          refine seq_join (r := q_59) (fun (g : Bool) L w => L = [(0, pB ba0 0), (1, vI a1), (5, vI (a0_2.length : Int)), (7, v64 x_3.2.1), (9, v64 x_49), (122, vB g)] ∧ St S w0 w [OE.bx ba0 [vS x_50, vI x_51, v_53, vI x_55, vI x_56], own (eP eI (eP e64 (eP eS eI))) v_53 x_52]) (F.ref30_Reader_item_s_K5 a0_2 a1 rc x_3 x_49 x_50 x_51 x_52 x_55 x_56) ?_ ?_
          ·rintro x_61 L w hJ h
           try dsimp only at hJ
           obtain ⟨rfl, hS⟩ := hJ
           unfold F.ref30_Reader_item_s_K5 at h
           refine wpC_cond rfl (fun hb_68 => ?_) (fun hb_68 => ?_)
           ·have h := if_t h hb_68
            refine wpC_skip (QE_then_n (wpC_seq (wpC_block ?_)))
            refine wpC_region (wpR_v (OpV_move rfl) rfl (wpR_v (OpV_move rfl) rfl (wpR_v (OpV_bin rfl rfl (b_iadd _ a1 1)) rfl ?_)))
            have hG := hS.pick (os' := [OE.bx ba0 [vS x_50, vI x_51, v_53, vI x_55, vI x_56], own (eP eI (eP e64 (eP eS eI))) v_53 x_52] ++ []) [0, 1] (by decide) rfl
            obtain ⟨x_63, hx_63, h⟩ := obind_some h
            refine wpR_call (by kernel_rfl) rfl (hrc _ x_50 x_51 x_52 x_55 x_56 (wI (a1 + 1)) v_53 ba0 _ hG.give  _ hx_63) rfl ?_
            rintro _ w ⟨v_64, rfl, hS1⟩
            have hS := hG.back hS1
            simp only [List.cons_append, List.nil_append] at hS
            refine wpR_nil (QE_blk_n ?_)
            refine QE_then_n (wpC_region (wpR_v (OpV_move rfl) rfl (wpR_v (OpV_bin rfl rfl (b_add64 _ x_49 1)) rfl ?_)))
            refine wpR_v (OpV_assign rfl) rfl (wpR_nil ?_)
            exact QE_rnd (wpN_le _ (by exact ⟨rfl, rfl, rfl, rfl, rfl, trivial⟩) (ih_58 (x_49 + 1, x_63.1, x_63.2.1, x_63.2.2.1, x_63.2.2.2.1, x_63.2.2.2.2) _ _ ⟨v_64, rfl, (hS.pick [1, 0] (by decide) rfl)⟩ (oinl_some h hk_57)))
           ·have h := if_f h hb_68
            refine wpC_exit ?_
            refine QE_then_x (QE_then_x ?_)
            have h := oinr_some h hk_57
            refine QE_blk_x ?_
            refine QE_then_n (wpC_region (wpR_v (OpV_move rfl) rfl (wpR_v (OpV_nilB rfl) rfl ?_)))
            refine wpR_v (OpV_fieldB (k := 2) Tryd.underlying93 rfl rfl nz37 rfl) rfl ?_
            refine wpR_v (OpV_ldB Tryd.underlying37 rfl rfl (hS.bxc 0 rfl 2)) rfl ?_
            refine wpR_v (OpV_move rfl) rfl (wpR_v (OpV_move rfl) rfl (wpR_v (OpV_bin rfl rfl (b_and64 _ x_3.2.1 4294967295)) rfl ?_))
            refine wpR_v (OpV_conv rfl (cv_64_i Tryd.underlying40 Tryd.underlying3 (x_3.2.1 &&& 4294967295))) rfl ?_
            obtain ⟨x_66, hx_66, h⟩ := obind_some h
            refine wpR_v (G_ix Tryd.underlying37 ti42 rfl rfl (hS.ro 1 rfl) hx_66) rfl ?_
            refine wpR_v (OpV_fieldE (k := 3) Tryd.underlying42 rfl rfl nz3 rfl) rfl ?_
            refine wpR_y (OpY_storeF (t := (x_66.1, x_66.2.1, x_66.2.2.1, wI ((x_3.2.1 &&& 4294967295).toNat : Int))) (us := [vI (wI ((x_3.2.1 &&& 4294967295).toNat : Int))]) sz3 rfl rfl rfl hS (i := 1) rfl hx_66 rfl rfl) ?_
            intro w hS
            obtain ⟨x_67, hx_67, h⟩ := olet_some h
            rw [hx_67] at hS
            refine wpR_nil (QE_blk_n ?_)
            cases h
            exact QE_end0 rfl ⟨v_53, rfl, hS.pick [0, 1] (by decide) rfl⟩
          ·intro hK_62
           refine wpC_region (wpR_v (OpV_move rfl) rfl (wpR_v (OpV_move rfl) rfl (wpR_v (OpV_bin rfl rfl (b_lss64 _ x_49 x_3.2.1)) rfl ?_)))
           refine wpR_v (OpV_move rfl) rfl ?_
           cases hb_60 : (decide (x_49 < x_3.2.1))
           case true =>
            have h := if_t h hb_60
            try simp only [hb_60]
            refine wpR_gv (t := 116) rfl rfl (OpV_move rfl) rfl ?_
            refine wpR_gv (t := 116) rfl rfl (OpV_nilB rfl) rfl ?_
            refine wpR_gv (t := 116) rfl rfl (OpV_fieldB (k := 3) Tryd.underlying93 rfl rfl nz30 rfl) rfl ?_
            refine wpR_gv (t := 116) rfl rfl (OpV_ldB Tryd.underlying30 rfl rfl (hS.bxc 1 rfl 3)) rfl ?_
            refine wpR_gv (t := 116) rfl rfl (OpV_bin rfl rfl (b_ieql _ x_55 0)) rfl ?_
            refine wpR_v (OpV_pickT rfl rfl) rfl (wpR_nil (QE_then_n ?_))
            exact wpC_le _ (by exact ⟨rfl, rfl, rfl, rfl, rfl, rfl, trivial⟩) (hK_62 (x_55 == 0) _ _ ⟨rfl, (hS.pick [1, 0] (by decide) rfl)⟩ h)
           case false =>
            have h := if_f h hb_60
            try simp only [hb_60]
            refine wpR_gskip (b := false) (t := 116) rfl rfl rfl rfl ?_
            refine wpR_gskip (b := false) (t := 116) rfl rfl rfl rfl ?_
            refine wpR_gskip (b := false) (t := 116) rfl rfl rfl rfl ?_
            refine wpR_gskip (b := false) (t := 116) rfl rfl rfl rfl ?_
            refine wpR_gskip (b := false) (t := 116) rfl rfl rfl rfl ?_
            refine wpR_v (OpV_pickF rfl rfl) rfl (wpR_nil (QE_then_n ?_))
            exact wpC_le _ (by exact ⟨rfl, rfl, rfl, rfl, rfl, rfl, trivial⟩) (hK_62 false _ _ ⟨rfl, (hS.pick [1, 0] (by decide) rfl)⟩ h)
         ·have h := if_f h hb_90
          refine wpC_seq (wpC_region (wpR_v (OpV_bin rfl rfl (b_ieql _ x_3.1 5)) rfl ?_))
          refine wpR_v (OpV_assign rfl) rfl (wpR_nil (QE_then_n ?_))
          refine wpC_cond rfl (fun hb_89 => ?_) (fun hb_89 => ?_)
          ·have h := if_t h hb_89
           refine wpC_seq ?_
           have hsh1 := (hS.ro 1 rfl).shp
           refine wpC_regionS (fun w' => St S w0 w' [OE.bx ba0 [vS x_3.2.2.1, vI x_3.2.2.2.1, v_4, vI x_3.2.2.2.2.2.1, vI x_3.2.2.2.2.2.2], OE.bx b_13 [vI x_3.1, v64 0, vS [], vI 0]]) (fun i => !([6, 7, 10].contains i)) hmix (fun _ _ _ hf => hf.2) (fun _ _ hf => hf) (by kernel_rfl) ?_
           have hS := hS.drew
           show lxE _ _ _ _ _ _ _ [0, 1, 2, 3, 4, 5, 6, 7, 8, 9, 10] _ _
           refine lxE_v (hS.pick [0, 2] (by decide) rfl) rfl rfl (fun w hF => OpV_move rfl) rfl ?_
           refine lxE_v (hS.pick [0, 2] (by decide) rfl) rfl rfl (fun w hF => OpV_move rfl) rfl ?_
           refine lxE_v (hS.pick [0, 2] (by decide) rfl) rfl rfl (fun w hF => OpV_nilB rfl) rfl ?_
           refine lxE_v (hS.pick [0, 2] (by decide) rfl) rfl rfl (fun w hF => OpV_fieldB (k := 2) Tryd.underlying93 rfl rfl nz37 rfl) rfl ?_
           refine lxE_v (hS.pick [0, 2] (by decide) rfl) rfl rfl (fun w hF => OpV_ldB Tryd.underlying37 rfl rfl (hF.bxc 0 rfl 2)) rfl ?_
           refine lxE_v (hS.pick [0, 2] (by decide) rfl) rfl rfl (fun w hF => OpV_ldBs (us := [vI x_3.1, v64 0, vS [], vI 0]) Tryd.underlying42 rfl sz42 rfl (hF.bxs 1 rfl rfl)) rfl ?_
           refine lxE_x (hS.pick [0, 2] (by decide) rfl) rfl rfl (OpX_litE (e := (eP eI (eP e64 (eP eS eI)))) (l := ([(x_3.1, 0, [], 0)] : List (Int × UInt64 × (List UInt8) × Int))) (vs := [(0, .agg #[vI x_3.1, v64 0, vS [], vI 0], [vI x_3.1, v64 0, vS [], vI 0])]) Tryd.underlying37 ti42 rfl ⟨rfl, trivial⟩ rfl rfl (Nat.le_of_ble_eq_true rfl) (Nat.le_of_ble_eq_true rfl) hS) rfl ?_
           rintro v_70 w hS
           obtain ⟨x_72, hx_72, h⟩ := obind_some h
           refine lxE_x (hS.pick [1, 3] (by decide) rfl) rfl rfl (G_append Tryd.underlying37 ti42 rfl rfl rfl hS (i := 2) rfl (hS.ro 0 rfl) hx_72) rfl ?_
           rintro v_73 w hS
           refine lxE_v (hS.pick [1, 3] (by decide) rfl) rfl rfl (fun w hF => OpV_nilB rfl) rfl ?_
           refine lxE_v (hS.pick [1, 3] (by decide) rfl) rfl rfl (fun w hF => OpV_fieldB (k := 2) Tryd.underlying93 rfl rfl nz37 rfl) rfl ?_
           refine lxE_y (hS.pick [1, 3] (by decide) rfl) rfl rfl (OpY_stB (i := 1) (us := [v_73]) rfl sz37 rfl rfl (cells_one (hS.ro 2 rfl).one) ⟨(hS.ro 2 rfl).one, trivial⟩ rfl hS) ?_
           intro w hS
           replace hS : St _ w0 w [own (eP eI (eP e64 (eP eS eI))) v_70 ([(x_3.1, 0, [], 0)] : List (Int × UInt64 × (List UInt8) × Int)), OE.bx ba0 [vS x_3.2.2.1, vI x_3.2.2.2.1, v_73, vI x_3.2.2.2.2.2.1, vI x_3.2.2.2.2.2.2], own (eP eI (eP e64 (eP eS eI))) v_73 x_72, OE.bx b_13 [vI x_3.1, v64 0, vS [], vI 0]] := hS
           refine lxE_nil trivial ?_
           refine QE_then_n (wpC_seq (wpC_region (wpR_v (OpV_move rfl) rfl (wpR_v (OpV_move rfl) rfl (wpR_v (OpV_move rfl) rfl ?_)))))
           have hG := hS.pick (os' := [OE.bx ba0 [vS x_3.2.2.1, vI x_3.2.2.2.1, v_73, vI x_3.2.2.2.2.2.1, vI x_3.2.2.2.2.2.2], own (eP eI (eP e64 (eP eS eI))) v_73 x_72] ++ [own (eP eI (eP e64 (eP eS eI))) v_70 ([(x_3.1, 0, [], 0)] : List (Int × UInt64 × (List UInt8) × Int)), OE.bx b_13 [vI x_3.1, v64 0, vS [], vI 0]]) [1, 2, 0, 3] (by decide) rfl
           obtain ⟨x_75, hx_75, h⟩ := obind_some h
           refine wpR_call (by kernel_rfl) rfl (c_ref30_Reader_pairs rc hrc _ x_3.2.2.1 x_3.2.2.2.1 x_72 x_3.2.2.2.2.2.1 x_3.2.2.2.2.2.2 x_3.2.1 a1 v_73 ba0 _ hG.give  _ hx_75) rfl ?_
           rintro _ w ⟨v_76, rfl, hS1⟩
           have hS := hG.back hS1
           simp only [List.cons_append, List.nil_append] at hS
           refine wpR_nil (QE_then_n (wpC_region (wpR_v (OpV_move rfl) rfl (wpR_v (OpV_nilB rfl) rfl ?_))))
           refine wpR_v (OpV_fieldB (k := 2) Tryd.underlying93 rfl rfl nz37 rfl) rfl ?_
           refine wpR_v (OpV_ldB Tryd.underlying37 rfl rfl (hS.bxc 0 rfl 2)) rfl ?_
           refine wpR_v (OpV_move rfl) rfl (wpR_v (OpV_move rfl) rfl (wpR_v (OpV_bin rfl rfl (b_and64 _ x_3.2.1 4294967295)) rfl ?_))
           refine wpR_v (OpV_conv rfl (cv_64_i Tryd.underlying40 Tryd.underlying3 (x_3.2.1 &&& 4294967295))) rfl ?_
           refine wpR_v (OpV_bin rfl rfl (b_imul _ 2 (wI ((x_3.2.1 &&& 4294967295).toNat : Int)))) rfl ?_
           obtain ⟨x_78, hx_78, h⟩ := obind_some h
           refine wpR_v (G_ix Tryd.underlying37 ti42 rfl rfl (hS.ro 1 rfl) hx_78) rfl ?_
           refine wpR_v (OpV_fieldE (k := 3) Tryd.underlying42 rfl rfl nz3 rfl) rfl ?_
           refine wpR_y (OpY_storeF (t := (x_78.1, x_78.2.1, x_78.2.2.1, wI (2 * (wI ((x_3.2.1 &&& 4294967295).toNat : Int))))) (us := [vI (wI (2 * (wI ((x_3.2.1 &&& 4294967295).toNat : Int))))]) sz3 rfl rfl rfl hS (i := 1) rfl hx_78 rfl rfl) ?_
           intro w hS
           obtain ⟨x_79, hx_79, h⟩ := olet_some h
           rw [hx_79] at hS
           refine wpR_nil (QE_blk_n ?_)
           cases h
           exact QE_end0 rfl ⟨v_76, rfl, hS.pick [0, 1] (by decide) rfl⟩
          ·have h := if_f h hb_89
           refine wpC_seq (wpC_region (wpR_v (OpV_bin rfl rfl (b_ieql _ x_3.1 6)) rfl ?_))
           refine wpR_v (OpV_assign rfl) rfl (wpR_nil (QE_then_n ?_))
           refine wpC_cond rfl (fun hb_88 => ?_) (fun hb_88 => ?_)
           ·have h := if_t h hb_88
            refine wpC_seq (wpC_region (wpR_v (OpV_move rfl) rfl (wpR_v (OpV_fieldB (k := 1) Tryd.underlying42 rfl rfl nz40 rfl) rfl ?_)))
            refine wpR_y (OpY_stB (i := 2) (us := [v64 x_3.2.1]) rfl sz40 rfl rfl rfl ⟨rfl, trivial⟩ rfl hS) ?_
            intro w hS
            replace hS : St _ w0 w [OE.bx ba0 [vS x_3.2.2.1, vI x_3.2.2.2.1, v_4, vI x_3.2.2.2.2.2.1, vI x_3.2.2.2.2.2.2], own (eP eI (eP e64 (eP eS eI))) v_4 x_3.2.2.2.2.1, OE.bx b_13 [vI x_3.1, v64 x_3.2.1, vS [], vI 0]] := hS
            refine wpR_nil (QE_then_n (wpC_seq (wpC_region (wpR_v (OpV_fieldB (k := 3) Tryd.underlying42 rfl rfl nz3 rfl) rfl ?_))))
            refine wpR_y (OpY_stB (i := 2) (us := [vI 1]) rfl sz3 rfl rfl rfl ⟨rfl, trivial⟩ rfl hS) ?_
            intro w hS
            replace hS : St _ w0 w [OE.bx ba0 [vS x_3.2.2.1, vI x_3.2.2.2.1, v_4, vI x_3.2.2.2.2.2.1, vI x_3.2.2.2.2.2.2], own (eP eI (eP e64 (eP eS eI))) v_4 x_3.2.2.2.2.1, OE.bx b_13 [vI x_3.1, v64 x_3.2.1, vS [], vI 1]] := hS
            refine wpR_nil (QE_then_n (wpC_seq ?_))
            have hsh1 := (hS.ro 1 rfl).shp
            refine wpC_regionS (fun w' => St S w0 w' [OE.bx ba0 [vS x_3.2.2.1, vI x_3.2.2.2.1, v_4, vI x_3.2.2.2.2.2.1, vI x_3.2.2.2.2.2.2], OE.bx b_13 [vI x_3.1, v64 x_3.2.1, vS [], vI 1]]) (fun i => !([6, 7, 10].contains i)) hmix (fun _ _ _ hf => hf.2) (fun _ _ hf => hf) (by kernel_rfl) ?_
            have hS := hS.drew
            show lxE _ _ _ _ _ _ _ [0, 1, 2, 3, 4, 5, 6, 7, 8, 9, 10] _ _
            refine lxE_v (hS.pick [0, 2] (by decide) rfl) rfl rfl (fun w hF => OpV_move rfl) rfl ?_
            refine lxE_v (hS.pick [0, 2] (by decide) rfl) rfl rfl (fun w hF => OpV_move rfl) rfl ?_
            refine lxE_v (hS.pick [0, 2] (by decide) rfl) rfl rfl (fun w hF => OpV_nilB rfl) rfl ?_
            refine lxE_v (hS.pick [0, 2] (by decide) rfl) rfl rfl (fun w hF => OpV_fieldB (k := 2) Tryd.underlying93 rfl rfl nz37 rfl) rfl ?_
            refine lxE_v (hS.pick [0, 2] (by decide) rfl) rfl rfl (fun w hF => OpV_ldB Tryd.underlying37 rfl rfl (hF.bxc 0 rfl 2)) rfl ?_
            refine lxE_v (hS.pick [0, 2] (by decide) rfl) rfl rfl (fun w hF => OpV_ldBs (us := [vI x_3.1, v64 x_3.2.1, vS [], vI 1]) Tryd.underlying42 rfl sz42 rfl (hF.bxs 1 rfl rfl)) rfl ?_
            refine lxE_x (hS.pick [0, 2] (by decide) rfl) rfl rfl (OpX_litE (e := (eP eI (eP e64 (eP eS eI)))) (l := ([(x_3.1, x_3.2.1, [], 1)] : List (Int × UInt64 × (List UInt8) × Int))) (vs := [(0, .agg #[vI x_3.1, v64 x_3.2.1, vS [], vI 1], [vI x_3.1, v64 x_3.2.1, vS [], vI 1])]) Tryd.underlying37 ti42 rfl ⟨rfl, trivial⟩ rfl rfl (Nat.le_of_ble_eq_true rfl) (Nat.le_of_ble_eq_true rfl) hS) rfl ?_
            rintro v_80 w hS
            obtain ⟨x_82, hx_82, h⟩ := obind_some h
            refine lxE_x (hS.pick [1, 3] (by decide) rfl) rfl rfl (G_append Tryd.underlying37 ti42 rfl rfl rfl hS (i := 2) rfl (hS.ro 0 rfl) hx_82) rfl ?_
            rintro v_83 w hS
            refine lxE_v (hS.pick [1, 3] (by decide) rfl) rfl rfl (fun w hF => OpV_nilB rfl) rfl ?_
            refine lxE_v (hS.pick [1, 3] (by decide) rfl) rfl rfl (fun w hF => OpV_fieldB (k := 2) Tryd.underlying93 rfl rfl nz37 rfl) rfl ?_
            refine lxE_y (hS.pick [1, 3] (by decide) rfl) rfl rfl (OpY_stB (i := 1) (us := [v_83]) rfl sz37 rfl rfl (cells_one (hS.ro 2 rfl).one) ⟨(hS.ro 2 rfl).one, trivial⟩ rfl hS) ?_
            intro w hS
            replace hS : St _ w0 w [own (eP eI (eP e64 (eP eS eI))) v_80 ([(x_3.1, x_3.2.1, [], 1)] : List (Int × UInt64 × (List UInt8) × Int)), OE.bx ba0 [vS x_3.2.2.1, vI x_3.2.2.2.1, v_83, vI x_3.2.2.2.2.2.1, vI x_3.2.2.2.2.2.2], own (eP eI (eP e64 (eP eS eI))) v_83 x_82, OE.bx b_13 [vI x_3.1, v64 x_3.2.1, vS [], vI 1]] := hS
            refine lxE_nil trivial ?_
            refine QE_then_n (wpC_region (wpR_v (OpV_move rfl) rfl (wpR_v (OpV_move rfl) rfl (wpR_v (OpV_bin rfl rfl (b_iadd _ a1 1)) rfl ?_))))
            have hG := hS.pick (os' := [OE.bx ba0 [vS x_3.2.2.1, vI x_3.2.2.2.1, v_83, vI x_3.2.2.2.2.2.1, vI x_3.2.2.2.2.2.2], own (eP eI (eP e64 (eP eS eI))) v_83 x_82] ++ [own (eP eI (eP e64 (eP eS eI))) v_80 ([(x_3.1, x_3.2.1, [], 1)] : List (Int × UInt64 × (List UInt8) × Int)), OE.bx b_13 [vI x_3.1, v64 x_3.2.1, vS [], vI 1]]) [1, 2, 0, 3] (by decide) rfl
            obtain ⟨x_85, hx_85, h⟩ := obind_some h
            refine wpR_call (by kernel_rfl) rfl (hrc _ x_3.2.2.1 x_3.2.2.2.1 x_82 x_3.2.2.2.2.2.1 x_3.2.2.2.2.2.2 (wI (a1 + 1)) v_83 ba0 _ hG.give  _ hx_85) rfl ?_
            rintro _ w ⟨v_86, rfl, hS1⟩
            have hS := hG.back hS1
            simp only [List.cons_append, List.nil_append] at hS
            refine wpR_nil (QE_blk_n ?_)
            cases h
            exact QE_end0 rfl ⟨v_86, rfl, hS.pick [0, 1] (by decide) rfl⟩
           ·have h := if_f h hb_88
            refine wpC_skip (QE_blk_n ?_)
            cases h
            exact QE_end0 rfl ⟨v_4, rfl, hS.pick [0, 1] (by decide) rfl⟩
       ·intro hK_26
        refine wpC_seq (wpC_region (wpR_v (OpV_bin rfl rfl (b_ieql _ x_3.1 2)) rfl ?_))
        refine wpR_v (OpV_assign rfl) rfl (wpR_nil (QE_then_n ?_))
        refine wpC_cond rfl (fun hb_24 => ?_) (fun hb_24 => ?_)
        ·have h := if_t h hb_24
         refine wpC_skip (QE_then_n ?_)
         exact wpC_le _ (by exact ⟨rfl, rfl, rfl, rfl, rfl, rfl, rfl, rfl, rfl, trivial⟩) (hK_26 (x_3.1 == 2) _ _ ⟨rfl, hS⟩ h)
        ·have h := if_f h hb_24
         refine wpC_region (wpR_v (OpV_bin rfl rfl (b_ieql _ x_3.1 3)) rfl ?_)
         refine wpR_v (OpV_assign rfl) rfl (wpR_nil (QE_then_n ?_))
         exact wpC_le _ (by exact ⟨rfl, rfl, rfl, rfl, rfl, rfl, rfl, rfl, rfl, trivial⟩) (hK_26 (x_3.1 == 3) _ _ ⟨rfl, hS⟩ h)
     ·intro hK_18
      refine wpC_seq (wpC_region (wpR_v (OpV_bin rfl rfl (b_ieql _ x_3.1 0)) rfl ?_))
      refine wpR_v (OpV_assign rfl) rfl (wpR_nil (QE_then_n ?_))
      refine wpC_cond rfl (fun hb_16 => ?_) (fun hb_16 => ?_)
      ·have h := if_t h hb_16
       refine wpC_skip (QE_then_n ?_)
       exact wpC_le _ (by exact ⟨rfl, rfl, rfl, rfl, rfl, rfl, rfl, rfl, rfl, trivial⟩) (hK_18 (x_3.1 == 0) _ _ ⟨rfl, (hS.pick [1, 2, 0] (by decide) rfl)⟩ h)
      ·have h := if_f h hb_16
       refine wpC_seq (wpC_region (wpR_v (OpV_bin rfl rfl (b_ieql _ x_3.1 1)) rfl ?_))
       refine wpR_v (OpV_assign rfl) rfl (wpR_nil (QE_then_n ?_))
       refine wpC_cond rfl (fun hb_15 => ?_) (fun hb_15 => ?_)
       ·have h := if_t h hb_15
        refine wpC_skip (QE_then_n ?_)
        exact wpC_le _ (by exact ⟨rfl, rfl, rfl, rfl, rfl, rfl, rfl, rfl, rfl, trivial⟩) (hK_18 (x_3.1 == 1) _ _ ⟨rfl, (hS.pick [1, 2, 0] (by decide) rfl)⟩ h)
       ·have h := if_f h hb_15
        refine wpC_region (wpR_v (OpV_bin rfl rfl (b_ieql _ x_3.1 7)) rfl ?_)
        refine wpR_v (OpV_assign rfl) rfl (wpR_nil (QE_then_n ?_))
        exact wpC_le _ (by exact ⟨rfl, rfl, rfl, rfl, rfl, rfl, rfl, rfl, rfl, trivial⟩) (hK_18 (x_3.1 == 7) _ _ ⟨rfl, (hS.pick [1, 2, 0] (by decide) rfl)⟩ h)
   ·intro hK_9
    refine wpC_region (wpR_v (OpV_move rfl) rfl (wpR_v (OpV_bin rfl rfl (b_igeq _ x_3.1 4)) rfl ?_))
    refine wpR_v (OpV_move rfl) rfl ?_
    cases hb_6 : (decide ((4 : Int) ≤ x_3.1))
    case true =>
     have h := if_t h hb_6
     try simp only [hb_6]
     refine wpR_gv (t := 36) rfl rfl (OpV_move rfl) rfl ?_
     refine wpR_gv (t := 36) rfl rfl (OpV_bin rfl rfl (b_ileq _ x_3.1 6)) rfl ?_
     refine wpR_v (OpV_pickT rfl rfl) rfl (wpR_v (OpV_move rfl) rfl ?_)
     cases hb_7 : (decide (x_3.1 ≤ 6))
     case true =>
      have h := if_t h hb_7
      try simp only [hb_7]
      refine wpR_gv (t := 40) rfl rfl (OpV_move rfl) rfl ?_
      refine wpR_gv (t := 40) rfl rfl (OpV_bin rfl rfl (b_ieql _ a1 32)) rfl ?_
      refine wpR_v (OpV_pickT rfl rfl) rfl (wpR_nil (QE_then_n ?_))
      exact wpC_le _ (by exact ⟨rfl, rfl, rfl, rfl, rfl, rfl, rfl, trivial⟩) (hK_9 (a1 == 32) _ _ ⟨rfl, hS⟩ h)
     case false =>
      have h := if_f h hb_7
      try simp only [hb_7]
      refine wpR_gskip (b := false) (t := 40) rfl rfl rfl rfl ?_
      refine wpR_gskip (b := false) (t := 40) rfl rfl rfl rfl ?_
      refine wpR_v (OpV_pickF rfl rfl) rfl (wpR_nil (QE_then_n ?_))
      exact wpC_le _ (by exact ⟨rfl, rfl, rfl, rfl, rfl, rfl, rfl, trivial⟩) (hK_9 false _ _ ⟨rfl, hS⟩ h)
    case false =>
     have h := if_f h hb_6
     try simp only [hb_6]
     refine wpR_gskip (b := false) (t := 36) rfl rfl rfl rfl ?_
     refine wpR_gskip (b := false) (t := 36) rfl rfl rfl rfl ?_
     refine wpR_v (OpV_pickF rfl rfl) rfl (wpR_v (OpV_move rfl) rfl (wpR_gskip (b := false) (t := 40) rfl rfl rfl rfl ?_))
     refine wpR_gskip (b := false) (t := 40) rfl rfl rfl rfl ?_
     refine wpR_v (OpV_pickF rfl rfl) rfl (wpR_nil (QE_then_n ?_))
     exact wpC_le _ (by exact ⟨rfl, rfl, rfl, rfl, rfl, rfl, rfl, trivial⟩) (hK_9 false _ _ ⟨rfl, hS⟩ h)
theorem c_ref30_Reader_item_n (n : Nat) : ∀ (w0 : World) (a0_0 : List UInt8) (a0_1 : Int) (a0_2 : List (Int × UInt64 × (List UInt8) × Int)) (a0_3 : Int) (a0_4 : Int) (a1 : Int) (va0_2 : Value) (ba0 : Nat) (S : List Nat) (hS : St S w0 w0 [OE.bx ba0 [vS a0_0, vI a0_1, va0_2, vI a0_3, vI a0_4], own (eP eI (eP e64 (eP eS eI))) va0_2 a0_2]) (r : List UInt8 × Int × List (Int × UInt64 × (List UInt8) × Int) × Int × Int), F.ref30_Reader_item_n n a0_0 a0_1 a0_2 a0_3 a0_4 a1 = some r → Calls Tryd.prog 46 #[pB ba0 0, vI a1] w0 (Ret fun v w => ∃ u0_2 : Value, v = .tuple #[] ∧ St S w0 w [OE.bx ba0 [vS r.1, vI r.2.1, u0_2, vI r.2.2.2.1, vI r.2.2.2.2], own (eP eI (eP e64 (eP eS eI))) u0_2 r.2.2.1]) := by
 induction n with
 | zero => intros; rename_i h; exact absurd h (by simp [F.ref30_Reader_item_n])
 | succ n ih => exact c_ref30_Reader_item_s (F.ref30_Reader_item_n n) ih
theorem c_ref30_Reader_item (w0 : World) (a0_0 : List UInt8) (a0_1 : Int) (a0_2 : List (Int × UInt64 × (List UInt8) × Int)) (a0_3 : Int) (a0_4 : Int) (a1 : Int) (va0_2 : Value) (ba0 : Nat) (S : List Nat) (hS : St S w0 w0 [OE.bx ba0 [vS a0_0, vI a0_1, va0_2, vI a0_3, vI a0_4], own (eP eI (eP e64 (eP eS eI))) va0_2 a0_2]) (r : List UInt8 × Int × List (Int × UInt64 × (List UInt8) × Int) × Int × Int) (h : F.ref30_Reader_item a0_0 a0_1 a0_2 a0_3 a0_4 a1 = some r) : Calls Tryd.prog 46 #[pB ba0 0, vI a1] w0 (Ret fun v w => ∃ u0_2 : Value, v = .tuple #[] ∧ St S w0 w [OE.bx ba0 [vS r.1, vI r.2.1, u0_2, vI r.2.2.2.1, vI r.2.2.2.2], own (eP eI (eP e64 (eP eS eI))) u0_2 r.2.2.1]) := c_ref30_Reader_item_n 64 w0 a0_0 a0_1 a0_2 a0_3 a0_4 a1 va0_2 ba0 S hS r h
end Go.Proofs
