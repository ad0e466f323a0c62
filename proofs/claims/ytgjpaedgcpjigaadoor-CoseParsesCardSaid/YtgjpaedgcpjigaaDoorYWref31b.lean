import Derived.Test.YtgjpaedgcpjigaaDoorYW0
import Derived.Test.YtgjpaedgcpjigaaDoorGkFref31
import Derived.Test.YtgjpaedgcpjigaaDoorYWref30d
import Derived.Test.YtgjpaedgcpjigaaDoorYWref31a
set_option linter.unusedVariables false
set_option linter.unusedSimpArgs false
set_option linter.unusedVariables false
set_option maxRecDepth 4000
namespace Go.Proofs
open Go Go.RowKit Go.Gk
theorem c_ref31_Parse (w0 : World) (a0 : List UInt8) (a1 : List UInt8) (va0 : Value) (va1 : Value) (ha0 : RP [] w0 e8 va0 a0) (ha1 : RP [] w0 e8 va1 a1) (r : Int × List UInt8 × List UInt8 × List UInt8 × List UInt8 × Int)
  (h : F.ref31_Parse a0 a1 = some r) : Calls Tryd.prog 35 #[va0, va1] w0 (Ret fun v w => ∃ u1 u2 u3 u4 : Value, v = .tuple #[vI r.1, u1, u2, u3, u4, vI r.2.2.2.2.2] ∧ St [] w0 w [red e8 u1 r.2.1, red e8 u2 r.2.2.1, red e8 u3 r.2.2.2.1, red e8 u4 r.2.2.2.2.1]) := by
 refine calls_at 69 Tryd.func35 rfl rfl rfl ?_
 have hS := St.start w0
 refine wpC_le [(0, va0), (1, va1)] ⟨rfl, rfl, trivial⟩ ?_
 unfold F.ref31_Parse at h
 refine wpC_seq (wpC_region (wpR_v (OpV_assign rfl) rfl (wpR_v (OpV_assign rfl) rfl (wpR_v (OpV_assign rfl) rfl (wpR_v (OpV_assign rfl) rfl (wpR_v (OpV_assign rfl) rfl ?_))))))
 refine wpR_v (OpV_assign rfl) rfl (wpR_nil (QE_then_n (wpC_seq ?_)))
 refine seq_join (r := r) (fun (g : Bool) L w => L = [(0, va0), (1, va1), (23, vB g)] ∧ St [] w0 w []) (F.ref31_Parse_K1 a0 a1) ?_ ?_
 ·rintro x_2 L w hJ h
  try dsimp only at hJ
  obtain ⟨rfl, hS⟩ := hJ
  unfold F.ref31_Parse_K1 at h
  refine wpC_cond rfl (fun hb_29 => ?_) (fun hb_29 => ?_)
  ·have h := if_t h hb_29
   refine wpC_seq (wpC_region (wpR_v (OpV_assign rfl) rfl (wpR_v (OpV_assign rfl) rfl (wpR_v (OpV_assign rfl) rfl (wpR_v (OpV_assign rfl) rfl (wpR_v (OpV_assign rfl) rfl ?_))))))
   refine wpR_v (OpV_assign rfl) rfl (wpR_nil (QE_then_n (wpC_ret (QE_then_r ?_))))
   cases h
   exact QE_ret6 rfl rfl rfl rfl rfl rfl rfl ⟨.slice none 0 0, .slice none 0 0, .slice none 0 0, .slice none 0 0, rfl, ((((hS.rnil e8).rnil e8).rnil e8).rnil e8).pick [3, 2, 1, 0] (by decide) rfl⟩
  ·have h := if_f h hb_29
   refine wpC_skip (QE_then_n (wpC_seq (wpC_region (wpR_v (OpV_move rfl) rfl ?_))))
   obtain ⟨x_4, hx_4, h⟩ := obind_some h
   refine wpR_call (by kernel_rfl) rfl (c_ref30_Parse _ a0 va0  (ha0.now hS.fr).rp _ hx_4) rfl ?_
   rintro _ w ⟨v_5, rfl, hS1⟩
   have hS := hS.call hS1
   simp only [List.cons_append, List.nil_append] at hS
   refine wpR_v (OpV_move rfl) rfl (wpR_v (OpV_extract rfl rfl) rfl ?_)
   refine wpR_v (OpV_extract rfl rfl) rfl ?_
   refine wpR_v (OpV_extract rfl rfl) rfl ?_
   refine wpR_v (OpV_assign rfl) rfl (wpR_v (OpV_assign rfl) rfl (wpR_v (OpV_assign rfl) rfl (wpR_nil (QE_then_n (wpC_seq (wpC_seq ?_))))))
   refine wpC_region (wpR_v (OpV_move rfl) rfl (wpR_v (OpV_bin rfl rfl (b_ineq _ x_4.2.1 0)) rfl ?_))
   refine wpR_nil (QE_then_n ?_)
   refine wpC_cond rfl (fun hb_28 => ?_) (fun hb_28 => ?_)
   ·have h := if_t h hb_28
    refine wpC_seq (wpC_region (wpR_v (OpV_move rfl) rfl (wpR_v (OpV_assign rfl) rfl (wpR_v (OpV_assign rfl) rfl (wpR_v (OpV_assign rfl) rfl (wpR_v (OpV_assign rfl) rfl ?_))))))
    refine wpR_v (OpV_assign rfl) rfl (wpR_v (OpV_assign rfl) rfl (wpR_nil (QE_then_n (wpC_ret (QE_then_r ?_)))))
    cases h
    exact QE_ret6 rfl rfl rfl rfl rfl rfl rfl ⟨.slice none 0 0, .slice none 0 0, .slice none 0 0, .slice none 0 0, rfl, ((((hS.rnil e8).rnil e8).rnil e8).rnil e8).pick [3, 2, 1, 0] (by decide) rfl⟩
   ·have h := if_f h hb_28
    refine wpC_skip (QE_then_n (wpC_seq (wpC_region (wpR_v (OpV_move rfl) rfl ?_))))
    obtain ⟨x_7, hx_7, h⟩ := obind_some h
    refine wpR_call (by kernel_rfl) rfl (c_ref31_split _ x_4.1 v_5  (hS.ro 0 rfl).rp _ hx_7) rfl ?_
    rintro _ w ⟨rfl, hS1⟩
    have hS := hS.call hS1
    simp only [List.cons_append, List.nil_append] at hS
    refine wpR_v (OpV_move rfl) rfl (wpR_v (OpV_extract rfl rfl) rfl ?_)
    refine wpR_v (OpV_extract rfl rfl) rfl ?_
    refine wpR_x (OpX_alloc (cs := [vS [], vS [], vS [], vS [], vI 0]) tz98 rfl hS) rfl ?_
    rintro _ w ⟨b_8, rfl, hS⟩
    refine wpR_y (OpY_stB (i := 0) (us := [vS x_7.1, vS x_7.2.1, vS x_7.2.2.1, vS x_7.2.2.2.1, vI x_7.2.2.2.2.1]) rfl sz98 rfl rfl rfl ⟨rfl, rfl, rfl, rfl, rfl, trivial⟩ rfl hS) ?_
    intro w hS
    replace hS : St _ w0 w [OE.bx b_8 [vS x_7.1, vS x_7.2.1, vS x_7.2.2.1, vS x_7.2.2.2.1, vI x_7.2.2.2.2.1], own (eP eI (eP e64 (eP eS eI))) v_5 x_4.1] := hS
    refine wpR_v (OpV_assign rfl) rfl (wpR_nil (QE_then_n (wpC_seq (wpC_seq (wpC_region (wpR_v (OpV_move rfl) rfl ?_))))))
    refine wpR_v (OpV_bin rfl rfl (b_ineq _ x_7.2.2.2.2.2 0)) rfl ?_
    refine wpR_nil (QE_then_n ?_)
    refine wpC_cond rfl (fun hb_27 => ?_) (fun hb_27 => ?_)
    ·have h := if_t h hb_27
     refine wpC_seq (wpC_region (wpR_v (OpV_move rfl) rfl (wpR_v (OpV_assign rfl) rfl (wpR_v (OpV_assign rfl) rfl (wpR_v (OpV_assign rfl) rfl (wpR_v (OpV_assign rfl) rfl ?_))))))
     refine wpR_v (OpV_assign rfl) rfl (wpR_v (OpV_assign rfl) rfl (wpR_nil (QE_then_n (wpC_ret (QE_then_r ?_)))))
     cases h
     exact QE_ret6 rfl rfl rfl rfl rfl rfl rfl ⟨.slice none 0 0, .slice none 0 0, .slice none 0 0, .slice none 0 0, rfl, ((((hS.rnil e8).rnil e8).rnil e8).rnil e8).pick [3, 2, 1, 0] (by decide) rfl⟩
    ·have h := if_f h hb_27
     refine wpC_skip (QE_then_n (wpC_seq ?_))
     refine wpC_regionT (fun w' => St [] w0 w' [OE.bx b_8 [vS x_7.1, vS x_7.2.1, vS x_7.2.2.1, vS x_7.2.2.2.1, vI x_7.2.2.2.2.1], own (eP eI (eP e64 (eP eS eI))) v_5 x_4.1]) (fun i => !([0, 1, 5, 9, 13].contains i)) hmix (fun _ _ _ hf => hf.2) (fun _ _ hf => hf) (by kernel_rfl) ?_
     have hS := hS.drew
     show lxE _ _ _ _ _ _ _ [0, 1, 2, 3, 4, 5, 6, 7, 8, 9, 10, 11, 12, 13, 14, 15] _ _
     obtain ⟨x_10, hx_10, h⟩ := obind_some h
     refine lxE_call hS rfl rfl (by kernel_rfl) rfl (c_ref30_Head _ 4 4    _ hx_10) rfl ?_
     rintro _ w ⟨rfl, hS1⟩
     have hS := hS.call hS1
     simp only [List.cons_append, List.nil_append] at hS
     obtain ⟨x_11, hx_11, h⟩ := obind_some h
     refine lxE_call hS rfl rfl (by kernel_rfl) rfl (c_ref31_said _ 3 [83, 105, 103, 110, 97, 116, 117, 114, 101, 49]    _ hx_11) rfl ?_
     rintro _ w ⟨rfl, hS1⟩
     have hS := hS.call hS1
     simp only [List.cons_append, List.nil_append] at hS
     obtain ⟨x_12, hx_12, h⟩ := obind_some h
     refine lxE_v hS rfl rfl (fun w hF => OpV_bin rfl rfl (G_sadd _ hx_12)) rfl ?_
     refine lxE_v hS rfl rfl (fun w hF => OpV_fieldB (k := 0) Tryd.underlying98 rfl rfl nz9 rfl) rfl ?_
     refine lxE_v hS rfl rfl (fun w hF => OpV_ldB Tryd.underlying9 rfl rfl (hF.bxc 0 rfl 0)) rfl ?_
     obtain ⟨x_13, hx_13, h⟩ := obind_some h
     refine lxE_call hS rfl rfl (by kernel_rfl) rfl (c_ref31_said _ 2 x_7.1    _ hx_13) rfl ?_
     rintro _ w ⟨rfl, hS1⟩
     have hS := hS.call hS1
     simp only [List.cons_append, List.nil_append] at hS
     obtain ⟨x_14, hx_14, h⟩ := obind_some h
     refine lxE_v hS rfl rfl (fun w hF => OpV_bin rfl rfl (G_sadd _ hx_14)) rfl ?_
     refine lxE_v hS rfl rfl (fun w hF => OpV_move rfl) rfl ?_
     refine lxE_v hS rfl rfl (fun w hF => OpV_str Tryd.underlying22 Tryd.underlying5 Tryd.underlying9 rfl (ha1.now hF.fr)) rfl ?_
     obtain ⟨x_15, hx_15, h⟩ := obind_some h
     refine lxE_call hS rfl rfl (by kernel_rfl) rfl (c_ref31_said _ 2 a1    _ hx_15) rfl ?_
     rintro _ w ⟨rfl, hS1⟩
     have hS := hS.call hS1
     simp only [List.cons_append, List.nil_append] at hS
     obtain ⟨x_16, hx_16, h⟩ := obind_some h
     refine lxE_v hS rfl rfl (fun w hF => OpV_bin rfl rfl (G_sadd _ hx_16)) rfl ?_
     refine lxE_v hS rfl rfl (fun w hF => OpV_fieldB (k := 2) Tryd.underlying98 rfl rfl nz9 rfl) rfl ?_
     refine lxE_v hS rfl rfl (fun w hF => OpV_ldB Tryd.underlying9 rfl rfl (hF.bxc 0 rfl 2)) rfl ?_
     obtain ⟨x_17, hx_17, h⟩ := obind_some h
     refine lxE_call hS rfl rfl (by kernel_rfl) rfl (c_ref31_said _ 2 x_7.2.2.1    _ hx_17) rfl ?_
     rintro _ w ⟨rfl, hS1⟩
     have hS := hS.call hS1
     simp only [List.cons_append, List.nil_append] at hS
     obtain ⟨x_18, hx_18, h⟩ := obind_some h
     refine lxE_v hS rfl rfl (fun w hF => OpV_bin rfl rfl (G_sadd _ hx_18)) rfl ?_
     refine lxE_v hS rfl rfl (fun w hF => OpV_assign rfl) rfl ?_
     refine lxE_nil hS ?_
     refine QE_then_n (wpC_seq ?_)
     refine wpC_regionN (os := [OE.bx b_8 [vS x_7.1, vS x_7.2.1, vS x_7.2.2.1, vS x_7.2.2.2.1, vI x_7.2.2.2.2.1], own (eP eI (eP e64 (eP eS eI))) v_5 x_4.1]) (fun i => [4, 7, 10, 12].contains i) (fun i v => if i = 4 then red e8 v x_7.2.1 else if i = 7 then red e8 v x_7.2.2.1 else if i = 10 then red e8 v x_7.2.2.2.1 else red e8 v x_18) hS hmix (by kernel_rfl) ?_
     show lxNE _ _ _ _ _ _ _ _ _ _ [0, 1, 2, 3, 4, 5, 6, 7, 8, 9, 10, 11, 12, 13, 14, 15, 16, 17, 18] _ _
     refine lxNE_v rfl rfl (fun w hF => OpV_fieldB (k := 4) Tryd.underlying98 rfl rfl nz50 rfl) rfl ?_
     refine lxNE_v rfl rfl (fun w hF => OpV_ldB Tryd.underlying50 rfl rfl (hF.bxc 0 rfl 4)) rfl ?_
     refine lxNE_v rfl rfl (fun w hF => OpV_fieldB (k := 1) Tryd.underlying98 rfl rfl nz9 rfl) rfl ?_
     refine lxNE_v rfl rfl (fun w hF => OpV_ldB Tryd.underlying9 rfl rfl (hF.bxc 0 rfl 1)) rfl ?_
     refine lxNE_new (fun v => red e8 v x_7.2.1) rfl rfl (fun v => rfl) (fun w os' hS => (OpX_bytes Tryd.underlying9 Tryd.underlying22 Tryd.underlying5 rfl hS)) rfl ?_
     intro v_19
     refine lxNE_v rfl rfl (fun w hF => OpV_fieldB (k := 2) Tryd.underlying98 rfl rfl nz9 rfl) rfl ?_
     refine lxNE_v rfl rfl (fun w hF => OpV_ldB Tryd.underlying9 rfl rfl (hF.bxc 0 rfl 2)) rfl ?_
     refine lxNE_new (fun v => red e8 v x_7.2.2.1) rfl rfl (fun v => rfl) (fun w os' hS => (OpX_bytes Tryd.underlying9 Tryd.underlying22 Tryd.underlying5 rfl hS)) rfl ?_
     intro v_21
     refine lxNE_v rfl rfl (fun w hF => OpV_fieldB (k := 3) Tryd.underlying98 rfl rfl nz9 rfl) rfl ?_
     refine lxNE_v rfl rfl (fun w hF => OpV_ldB Tryd.underlying9 rfl rfl (hF.bxc 0 rfl 3)) rfl ?_
     refine lxNE_new (fun v => red e8 v x_7.2.2.2.1) rfl rfl (fun v => rfl) (fun w os' hS => (OpX_bytes Tryd.underlying9 Tryd.underlying22 Tryd.underlying5 rfl hS)) rfl ?_
     intro v_23
     refine lxNE_v rfl rfl (fun w hF => OpV_move rfl) rfl ?_
     refine lxNE_new (fun v => red e8 v x_18) rfl rfl (fun v => rfl) (fun w os' hS => (OpX_bytes Tryd.underlying9 Tryd.underlying22 Tryd.underlying5 rfl hS)) rfl ?_
     intro v_25
     refine lxNE_v rfl rfl (fun w hF => OpV_assign rfl) rfl ?_
     refine lxNE_v rfl rfl (fun w hF => OpV_assign rfl) rfl ?_
     refine lxNE_v rfl rfl (fun w hF => OpV_assign rfl) rfl ?_
     refine lxNE_v rfl rfl (fun w hF => OpV_assign rfl) rfl ?_
     refine lxNE_v rfl rfl (fun w hF => OpV_assign rfl) rfl ?_
     refine lxNE_v rfl rfl (fun w hF => OpV_assign rfl) rfl ?_
     refine lxNE_nil fun w hS => ?_
     replace hS : St [] w0 w [red e8 v_19 x_7.2.1, red e8 v_21 x_7.2.2.1, red e8 v_23 x_7.2.2.2.1, red e8 v_25 x_18, OE.bx b_8 [vS x_7.1, vS x_7.2.1, vS x_7.2.2.1, vS x_7.2.2.2.1, vI x_7.2.2.2.2.1], own (eP eI (eP e64 (eP eS eI))) v_5 x_4.1] := hS
     replace hS : St [] w0 w [red e8 v_25 x_18, red e8 v_23 x_7.2.2.2.1, red e8 v_21 x_7.2.2.1, red e8 v_19 x_7.2.1, OE.bx b_8 [vS x_7.1, vS x_7.2.1, vS x_7.2.2.1, vS x_7.2.2.2.1, vI x_7.2.2.2.2.1], own (eP eI (eP e64 (eP eS eI))) v_5 x_4.1] := hS.pick [3, 2, 1, 0, 4, 5] (by decide) rfl
     refine QE_then_n (wpC_ret ?_)
     cases h
     exact QE_ret6 rfl rfl rfl rfl rfl rfl rfl ⟨v_19, v_21, v_23, v_25, rfl, hS.pick [3, 2, 1, 0] (by decide) rfl⟩
 ·intro hK_3
  refine wpC_region (wpR_v (OpV_move rfl) rfl (wpR_v (OpV_len Tryd.underlying22 rfl (ha0.now hS.fr)) rfl ?_))
  refine wpR_v (OpV_bin rfl rfl (b_igtr _ (a0.length : Int) 65536)) rfl ?_
  refine wpR_v (OpV_move rfl) rfl ?_
  cases hb_1 : (decide ((65536 : Int) < (a0.length : Int)))
  case true =>
   have h := if_t h hb_1
   try simp only [hb_1]
   refine wpR_gskip (b := true) (t := 19) rfl rfl rfl rfl ?_
   refine wpR_gskip (b := true) (t := 19) rfl rfl rfl rfl ?_
   refine wpR_gskip (b := true) (t := 19) rfl rfl rfl rfl ?_
   refine wpR_v (OpV_pickT rfl rfl) rfl (wpR_nil (QE_then_n ?_))
   exact wpC_le _ (by exact ⟨rfl, rfl, rfl, trivial⟩) (hK_3 true _ _ ⟨rfl, hS⟩ h)
  case false =>
   have h := if_f h hb_1
   try simp only [hb_1]
   refine wpR_gv (t := 19) rfl rfl (OpV_move rfl) rfl ?_
   refine wpR_gv (t := 19) rfl rfl (OpV_len Tryd.underlying22 rfl (ha1.now hS.fr)) rfl ?_
   refine wpR_gv (t := 19) rfl rfl (OpV_bin rfl rfl (b_igtr _ (a1.length : Int) 65536)) rfl ?_
   refine wpR_v (OpV_pickF rfl rfl) rfl (wpR_nil (QE_then_n ?_))
   exact wpC_le _ (by exact ⟨rfl, rfl, rfl, trivial⟩) (hK_3 (decide ((65536 : Int) < (a1.length : Int))) _ _ ⟨rfl, hS⟩ h)
end Go.Proofs
