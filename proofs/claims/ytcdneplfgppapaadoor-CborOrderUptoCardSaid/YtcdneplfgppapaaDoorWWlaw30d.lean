import Derived.Test.YtcdneplfgppapaaDoorWW0
import Derived.Test.YtcdneplfgppapaaDoorGkFlaw30
import Derived.Test.YtcdneplfgppapaaDoorWWcborc
import Derived.Test.YtcdneplfgppapaaDoorWWlaw30c
import Derived.Test.YtcdneplfgppapaaDoorWWref30d
set_option linter.unusedVariables false
set_option linter.unusedSimpArgs false
set_option linter.unusedVariables false
set_option maxRecDepth 4000
namespace Go.Proofs
open Go Go.RowKit Go.Gk
theorem c_law30_CborOrder (w0 : World) (a0 : List (Int × UInt64 × (List UInt8) × Int)) (a1 : List (Int × UInt64 × (List UInt8) × Int)) (a2 : List (Int × UInt64 × (List UInt8) × Int)) (a3 : List (Int × UInt64 × (List UInt8) × Int)) (va0 : Value) (va1 : Value) (va2 : Value) (va3 : Value) (hT : TB [] w0) (ha0 : RP [] w0 (eP eI (eP e64 (eP eS eI))) va0 a0) (ha1 : RP [] w0 (eP eI (eP e64 (eP eS eI))) va1 a1) (ha2 : RP [] w0 (eP eI (eP e64 (eP eS eI))) va2 a2) (ha3 : RP [] w0 (eP eI (eP e64 (eP eS eI))) va3 a3) (r : Bool)
  (h : F.law30_CborOrder a0 a1 a2 a3 = some r) : Calls Tryd.prog 13 #[va0, va1, va2, va3] w0 (Ret fun v w => v = vB r ∧ St [] w0 w []) := by
 refine calls_at 165 Tryd.func13 rfl rfl rfl ?_
 have hS := St.start w0
 refine wpC_le [(0, va0), (1, va1), (2, va2), (3, va3)] ⟨rfl, rfl, rfl, rfl, trivial⟩ ?_
 unfold F.law30_CborOrder at h
 refine wpC_seq ?_
 refine wpC_region ?_
 refine wpR_v (OpV_assign rfl) rfl ?_
 refine wpR_nil ?_
 refine QE_then_n ?_
 refine wpC_seq ?_
 refine seq_join (r := r) (fun (g : Bool) L w => L = [(0, va0), (1, va1), (2, va2), (3, va3), (49, vB g)] ∧ St [] w0 w []) (F.law30_CborOrder_K1 a0 a1 a2 a3) ?_ ?_
 ·rintro x_35 L w hJ h
  try dsimp only at hJ
  obtain ⟨rfl, hS⟩ := hJ
  unfold F.law30_CborOrder_K1 at h
  refine wpC_cond rfl (fun hb_102 => ?_) (fun hb_102 => ?_)
  ·have h := if_t h hb_102
   refine wpC_seq ?_
   refine wpC_region ?_
   refine wpR_v (OpV_assign rfl) rfl ?_
   refine wpR_nil ?_
   refine QE_then_n ?_
   refine wpC_ret ?_
   refine QE_then_r ?_
   cases h
   exact QE_ret1 rfl rfl ⟨rfl, hS⟩
  ·have h := if_f h hb_102
   refine wpC_skip ?_
   refine QE_then_n ?_
   refine wpC_seq ?_
   refine wpC_seq ?_
   refine wpC_region ?_
   obtain ⟨x_37, hx_37, h⟩ := obind_some h
   refine wpR_call (by kernel_rfl) rfl (c_law30_awake _    (hT.now hS.fr) _ hx_37) rfl ?_
   rintro _ w ⟨rfl, hS1⟩
   have hS := hS.call hS1
   simp only [List.cons_append, List.nil_append] at hS
   refine wpR_v (OpV_un rfl (u_not x_37)) rfl ?_
   refine wpR_nil ?_
   refine QE_then_n ?_
   refine wpC_cond rfl (fun hb_101 => ?_) (fun hb_101 => ?_)
   ·have h := if_t h hb_101
    refine wpC_seq ?_
    refine wpC_region ?_
    refine wpR_v (OpV_assign rfl) rfl ?_
    refine wpR_nil ?_
    refine QE_then_n ?_
    refine wpC_ret ?_
    refine QE_then_r ?_
    cases h
    exact QE_ret1 rfl rfl ⟨rfl, hS⟩
   ·have h := if_f h hb_101
    refine wpC_skip ?_
    refine QE_then_n ?_
    refine wpC_seq ?_
    refine seq_join (r := r) (fun (g : Bool) L w => L = [(0, va0), (1, va1), (2, va2), (3, va3), (79, vB g)] ∧ St [] w0 w []) (F.law30_CborOrder_K2 a0 a1 a2 a3) ?_ ?_
    ·rintro x_52 L w hJ h
     try dsimp only at hJ
     obtain ⟨rfl, hS⟩ := hJ
     unfold F.law30_CborOrder_K2 at h
     refine wpC_cond rfl (fun hb_100 => ?_) (fun hb_100 => ?_)
     ·have h := if_t h hb_100
      refine wpC_seq ?_
      refine wpC_region ?_
      refine wpR_v (OpV_assign rfl) rfl ?_
      refine wpR_nil ?_
      refine QE_then_n ?_
      refine wpC_ret ?_
      refine QE_then_r ?_
      cases h
      exact QE_ret1 rfl rfl ⟨rfl, hS⟩
     ·have h := if_f h hb_100
      refine wpC_skip ?_
      refine QE_then_n ?_
      refine wpC_seq ?_
      refine wpC_region ?_
      refine wpR_v (OpV_move rfl) rfl ?_
      refine wpR_v (OpV_move rfl) rfl ?_
      refine wpR_v (OpV_move rfl) rfl ?_
      refine wpR_v (OpV_move rfl) rfl ?_
      refine wpR_x (OpX_lit (e := eV) (l := ([SV.of va0, SV.of va1, SV.of va2, SV.of va3] : List SV)) (vs := [va0, va1, va2, va3]) Tryd.underlying44 ti22 rfl rfl rfl (fl_eVc (ha0.now hS.fr).sv (fl_eVc (ha1.now hS.fr).sv (fl_eVc (ha2.now hS.fr).sv (fl_eVc (ha3.now hS.fr).sv rfl)))) (by decide) (by decide) hS) rfl ?_
      rintro v_54 w hS
      obtain ⟨x_56, hx_56, h⟩ := obind_some h
      refine wpR_call (by kernel_rfl) rfl (c_law30_joined _ 5 [a0, a1, a2, a3] v_54 [SV.of va0, SV.of va1, SV.of va2, SV.of va3] (hS.ro 0 rfl).rp ⟨(ha0.now hS.fr).svrp, (ha1.now hS.fr).svrp, (ha2.now hS.fr).svrp, (ha3.now hS.fr).svrp, trivial⟩ _ hx_56) rfl ?_
      rintro v_57 w hS1
      have hS := hS.call hS1
      simp only [List.cons_append, List.nil_append] at hS
      refine wpR_v (OpV_assign rfl) rfl ?_
      refine wpR_nil ?_
      refine QE_then_n ?_
      refine wpC_seq ?_
      refine wpC_region ?_
      refine wpR_v (OpV_move rfl) rfl ?_
      refine wpR_v (OpV_move rfl) rfl ?_
      refine wpR_v (OpV_move rfl) rfl ?_
      refine wpR_v (OpV_move rfl) rfl ?_
      refine wpR_x (OpX_lit (e := eV) (l := ([SV.of va2, SV.of va3, SV.of va0, SV.of va1] : List SV)) (vs := [va2, va3, va0, va1]) Tryd.underlying44 ti22 rfl rfl rfl (fl_eVc (ha2.now hS.fr).sv (fl_eVc (ha3.now hS.fr).sv (fl_eVc (ha0.now hS.fr).sv (fl_eVc (ha1.now hS.fr).sv rfl)))) (by decide) (by decide) hS) rfl ?_
      rintro v_59 w hS
      obtain ⟨x_61, hx_61, h⟩ := obind_some h
      refine wpR_call (by kernel_rfl) rfl (c_law30_joined _ 5 [a2, a3, a0, a1] v_59 [SV.of va2, SV.of va3, SV.of va0, SV.of va1] (hS.ro 0 rfl).rp ⟨(ha2.now hS.fr).svrp, (ha3.now hS.fr).svrp, (ha0.now hS.fr).svrp, (ha1.now hS.fr).svrp, trivial⟩ _ hx_61) rfl ?_
      rintro v_62 w hS1
      have hS := hS.call hS1
      simp only [List.cons_append, List.nil_append] at hS
      refine wpR_v (OpV_assign rfl) rfl ?_
      refine wpR_nil ?_
      refine QE_then_n ?_
      refine wpC_seq ?_
      refine wpC_region ?_
      refine wpR_v (OpV_move rfl) rfl ?_
      obtain ⟨x_64, hx_64, h⟩ := obind_some h
      refine wpR_call (by kernel_rfl) rfl (c_cbor_Shaped _ x_56 v_57  (hT.now hS.fr) (hS.ro 2 rfl).rp _ hx_64) rfl ?_
      rintro _ w ⟨rfl, hS1⟩
      have hS := hS.call hS1
      simp only [List.cons_append, List.nil_append] at hS
      refine wpR_v (OpV_assign rfl) rfl ?_
      refine wpR_nil ?_
      refine QE_then_n ?_
      refine wpC_seq ?_
      refine wpC_region ?_
      refine wpR_v (OpV_move rfl) rfl ?_
      obtain ⟨x_65, hx_65, h⟩ := obind_some h
      refine wpR_call (by kernel_rfl) rfl (c_cbor_Shaped _ x_61 v_62  (hT.now hS.fr) (hS.ro 0 rfl).rp _ hx_65) rfl ?_
      rintro _ w ⟨rfl, hS1⟩
      have hS := hS.call hS1
      simp only [List.cons_append, List.nil_append] at hS
      refine wpR_v (OpV_assign rfl) rfl ?_
      refine wpR_nil ?_
      refine QE_then_n ?_
      refine wpC_seq ?_
      refine wpC_seq ?_
      refine wpC_region ?_
      refine wpR_v (OpV_move rfl) rfl ?_
      refine wpR_v (OpV_move rfl) rfl ?_
      obtain ⟨x_66, hx_66, h⟩ := obind_some h
      refine wpR_call (by kernel_rfl) rfl (c_law30_same _ a0 a2 va0 va2  (ha0.now hS.fr).rp (ha2.now hS.fr).rp _ hx_66) rfl ?_
      rintro _ w ⟨rfl, hS1⟩
      have hS := hS.call hS1
      simp only [List.cons_append, List.nil_append] at hS
      refine wpR_nil ?_
      refine QE_then_n ?_
      refine wpC_cond rfl (fun hb_99 => ?_) (fun hb_99 => ?_)
      ·have h := if_t h hb_99
       refine wpC_seq ?_
       refine wpC_region ?_
       refine wpR_v (OpV_move rfl) rfl ?_
       refine wpR_v (OpV_un rfl (u_not x_64)) rfl ?_
       refine wpR_v (OpV_move rfl) rfl ?_
       cases hb_67 : (!x_64)
       case true =>
        have h := if_t h hb_67
        try simp only [hb_67]
        refine wpR_gv (t := 101) rfl rfl (OpV_move rfl) rfl ?_
        refine wpR_gv (t := 101) rfl rfl (OpV_un rfl (u_not x_65)) rfl ?_
        refine wpR_v (OpV_pickT rfl rfl) rfl ?_
        refine wpR_v (OpV_assign rfl) rfl ?_
        refine wpR_nil ?_
        refine QE_then_n ?_
        refine wpC_ret ?_
        refine QE_then_r ?_
        cases h
        exact QE_ret1 rfl rfl ⟨rfl, hS.pick [] (by decide) rfl⟩
       case false =>
        have h := if_f h hb_67
        try simp only [hb_67]
        refine wpR_gskip (b := false) (t := 101) rfl rfl rfl rfl ?_
        refine wpR_gskip (b := false) (t := 101) rfl rfl rfl rfl ?_
        refine wpR_v (OpV_pickF rfl rfl) rfl ?_
        refine wpR_v (OpV_assign rfl) rfl ?_
        refine wpR_nil ?_
        refine QE_then_n ?_
        refine wpC_ret ?_
        refine QE_then_r ?_
        cases h
        exact QE_ret1 rfl rfl ⟨rfl, hS.pick [] (by decide) rfl⟩
      ·have h := if_f h hb_99
       refine wpC_skip ?_
       refine QE_then_n ?_
       refine wpC_seq ?_
       refine wpC_seq ?_
       refine wpC_region ?_
       refine wpR_v (OpV_move rfl) rfl ?_
       refine wpR_v (OpV_move rfl) rfl ?_
       refine wpR_v (OpV_bin rfl rfl (b_beql _ x_64 x_65 Tryd.underlying4 rfl)) rfl ?_
       refine wpR_nil ?_
       refine QE_then_n ?_
       refine wpC_cond rfl (fun hb_98 => ?_) (fun hb_98 => ?_)
       ·have h := if_t h hb_98
        refine wpC_seq ?_
        refine wpC_region ?_
        refine wpR_v (OpV_assign rfl) rfl ?_
        refine wpR_nil ?_
        refine QE_then_n ?_
        refine wpC_ret ?_
        refine QE_then_r ?_
        cases h
        exact QE_ret1 rfl rfl ⟨rfl, hS.pick [] (by decide) rfl⟩
       ·have h := if_f h hb_98
        refine wpC_skip ?_
        refine QE_then_n ?_
        refine seq_join (r := r) (fun (g : (List (Int × UInt64 × (List UInt8) × Int))) L w => ∃ (v_70 : Value), L = [(0, va0), (1, va1), (2, va2), (3, va3), (9, v_70), (11, vB x_64)] ∧ St [] w0 w [own (eP eI (eP e64 (eP eS eI))) v_70 g]) (F.law30_CborOrder_K3 a0 a1 a2 a3 x_64) ?_ ?_
        ·rintro x_69 L w hJ h
         try dsimp only at hJ
         obtain ⟨v_70, rfl, hS⟩ := hJ
         unfold F.law30_CborOrder_K3 at h
         refine wpC_seq ?_
         refine wpC_region ?_
         refine wpR_v (OpV_move rfl) rfl ?_
         refine wpR_v (OpV_move rfl) rfl ?_
         obtain ⟨x_73, hx_73, h⟩ := obind_some h
         refine wpR_call (by kernel_rfl) rfl (c_cbor_Member _ x_69 0 a0 v_70 va0  (hT.now hS.fr) (hS.ro 0 rfl).rp (ha0.now hS.fr).rp _ hx_73) rfl ?_
         rintro _ w ⟨rfl, hS1⟩
         have hS := hS.call hS1
         simp only [List.cons_append, List.nil_append] at hS
         refine wpR_v (OpV_assign rfl) rfl ?_
         refine wpR_nil ?_
         refine QE_then_n ?_
         refine wpC_seq ?_
         refine wpC_region ?_
         refine wpR_v (OpV_move rfl) rfl ?_
         refine wpR_v (OpV_move rfl) rfl ?_
         obtain ⟨x_74, hx_74, h⟩ := obind_some h
         refine wpR_call (by kernel_rfl) rfl (c_cbor_Member _ x_69 0 a2 v_70 va2  (hT.now hS.fr) (hS.ro 0 rfl).rp (ha2.now hS.fr).rp _ hx_74) rfl ?_
         rintro _ w ⟨rfl, hS1⟩
         have hS := hS.call hS1
         simp only [List.cons_append, List.nil_append] at hS
         refine wpR_v (OpV_assign rfl) rfl ?_
         refine wpR_nil ?_
         refine QE_then_n ?_
         refine wpC_seq ?_
         refine seq_join (r := r) (fun (g : Bool) L w => L = [(0, va0), (2, va2), (11, vB x_64), (143, vB g)] ∧ St [] w0 w []) (F.law30_CborOrder_K4 a0 a2 x_64) ?_ ?_
         ·rintro x_84 L w hJ h
          try dsimp only at hJ
          obtain ⟨rfl, hS⟩ := hJ
          unfold F.law30_CborOrder_K4 at h
          refine wpC_cond rfl (fun hb_97 => ?_) (fun hb_97 => ?_)
          ·have h := if_t h hb_97
           refine wpC_seq ?_
           refine wpC_region ?_
           refine wpR_v (OpV_assign rfl) rfl ?_
           refine wpR_nil ?_
           refine QE_then_n ?_
           refine wpC_ret ?_
           refine QE_then_r ?_
           cases h
           exact QE_ret1 rfl rfl ⟨rfl, hS⟩
          ·have h := if_f h hb_97
           refine wpC_skip ?_
           refine QE_then_n ?_
           refine wpC_seq ?_
           refine wpC_region ?_
           refine wpR_v (OpV_move rfl) rfl ?_
           obtain ⟨x_86, hx_86, h⟩ := obind_some h
           refine wpR_call (by kernel_rfl) rfl (c_cbor_Print _ a0 va0  (hT.now hS.fr) (ha0.now hS.fr).rp _ hx_86) rfl ?_
           rintro _ w ⟨v_87, rfl, hS1⟩
           have hS := hS.call hS1
           simp only [List.cons_append, List.nil_append] at hS
           refine wpR_v (OpV_move rfl) rfl ?_
           refine wpR_v (OpV_extract rfl rfl) rfl ?_
           refine wpR_v (OpV_extract rfl rfl) rfl ?_
           refine wpR_v (OpV_assign rfl) rfl ?_
           refine wpR_v (OpV_assign rfl) rfl ?_
           refine wpR_nil ?_
           refine QE_then_n ?_
           refine wpC_seq ?_
           refine wpC_region ?_
           refine wpR_v (OpV_move rfl) rfl ?_
           obtain ⟨x_89, hx_89, h⟩ := obind_some h
           refine wpR_call (by kernel_rfl) rfl (c_cbor_Print _ a2 va2  (hT.now hS.fr) (ha2.now hS.fr).rp _ hx_89) rfl ?_
           rintro _ w ⟨v_90, rfl, hS1⟩
           have hS := hS.call hS1
           simp only [List.cons_append, List.nil_append] at hS
           refine wpR_v (OpV_move rfl) rfl ?_
           refine wpR_v (OpV_extract rfl rfl) rfl ?_
           refine wpR_v (OpV_extract rfl rfl) rfl ?_
           refine wpR_v (OpV_assign rfl) rfl ?_
           refine wpR_v (OpV_assign rfl) rfl ?_
           refine wpR_nil ?_
           refine QE_then_n ?_
           refine wpC_seq ?_
           refine seq_join (r := r) (fun (g : Bool) L w => L = [(11, vB x_64), (15, v_87), (17, v_90), (159, vB g)] ∧ St [] w0 w [own e8 v_87 x_86.1, own e8 v_90 x_89.1]) (F.law30_CborOrder_K5 x_64 x_86 x_89) ?_ ?_
           ·rintro x_93 L w hJ h
            try dsimp only at hJ
            obtain ⟨rfl, hS⟩ := hJ
            unfold F.law30_CborOrder_K5 at h
            refine wpC_cond rfl (fun hb_96 => ?_) (fun hb_96 => ?_)
            ·have h := if_t h hb_96
             refine wpC_seq ?_
             refine wpC_region ?_
             refine wpR_v (OpV_assign rfl) rfl ?_
             refine wpR_nil ?_
             refine QE_then_n ?_
             refine wpC_ret ?_
             refine QE_then_r ?_
             cases h
             exact QE_ret1 rfl rfl ⟨rfl, hS.pick [] (by decide) rfl⟩
            ·have h := if_f h hb_96
             refine wpC_skip ?_
             refine QE_then_n ?_
             refine wpC_seq ?_
             refine wpC_region ?_
             refine wpR_v (OpV_move rfl) rfl ?_
             refine wpR_v (OpV_move rfl) rfl ?_
             refine wpR_v (OpV_move rfl) rfl ?_
             obtain ⟨x_95, hx_95, h⟩ := obind_some h
             refine wpR_call (by kernel_rfl) rfl (c_law30_less _ x_86.1 x_89.1 v_87 v_90  (hS.ro 0 rfl).rp (hS.ro 1 rfl).rp _ hx_95) rfl ?_
             rintro _ w ⟨rfl, hS1⟩
             have hS := hS.call hS1
             simp only [List.cons_append, List.nil_append] at hS
             refine wpR_v (OpV_bin rfl rfl (b_beql _ x_64 x_95 Tryd.underlying4 rfl)) rfl ?_
             refine wpR_v (OpV_assign rfl) rfl ?_
             refine wpR_nil ?_
             refine QE_then_n ?_
             refine wpC_ret ?_
             cases h
             exact QE_ret1 rfl rfl ⟨rfl, hS.pick [] (by decide) rfl⟩
           ·intro hK_94
            refine wpC_region ?_
            refine wpR_v (OpV_move rfl) rfl ?_
            refine wpR_v (OpV_bin rfl rfl (b_ineq _ x_86.2 0)) rfl ?_
            refine wpR_v (OpV_move rfl) rfl ?_
            cases hb_92 : (x_86.2 != 0)
            case true =>
             have h := if_t h hb_92
             try simp only [hb_92]
             refine wpR_gskip (b := true) (t := 156) rfl rfl rfl rfl ?_
             refine wpR_gskip (b := true) (t := 156) rfl rfl rfl rfl ?_
             refine wpR_v (OpV_pickT rfl rfl) rfl ?_
             refine wpR_nil ?_
             refine QE_then_n ?_
             exact wpC_le _ (by exact ⟨rfl, rfl, rfl, rfl, trivial⟩) (hK_94 true _ _ ⟨rfl, (hS.pick [1, 0] (by decide) rfl)⟩ h)
            case false =>
             have h := if_f h hb_92
             try simp only [hb_92]
             refine wpR_gv (t := 156) rfl rfl (OpV_move rfl) rfl ?_
             refine wpR_gv (t := 156) rfl rfl (OpV_bin rfl rfl (b_ineq _ x_89.2 0)) rfl ?_
             refine wpR_v (OpV_pickF rfl rfl) rfl ?_
             refine wpR_nil ?_
             refine QE_then_n ?_
             exact wpC_le _ (by exact ⟨rfl, rfl, rfl, rfl, trivial⟩) (hK_94 (x_89.2 != 0) _ _ ⟨rfl, (hS.pick [1, 0] (by decide) rfl)⟩ h)
         ·intro hK_85
          refine wpC_region ?_
          refine wpR_v (OpV_move rfl) rfl ?_
          refine wpR_v (OpV_bin rfl rfl (b_ilss _ x_73 0)) rfl ?_
          refine wpR_v (OpV_move rfl) rfl ?_
          cases hb_75 : (decide (x_73 < 0))
          case true =>
           have h := if_t h hb_75
           try simp only [hb_75]
           refine wpR_gskip (b := true) (t := 118) rfl rfl rfl rfl ?_
           refine wpR_gskip (b := true) (t := 118) rfl rfl rfl rfl ?_
           refine wpR_v (OpV_pickT rfl rfl) rfl ?_
           refine wpR_v (OpV_move rfl) rfl ?_
           refine wpR_gskip (b := true) (t := 122) rfl rfl rfl rfl ?_
           refine wpR_gskip (b := true) (t := 122) rfl rfl rfl rfl ?_
           refine wpR_gskip (b := true) (t := 122) rfl rfl rfl rfl ?_
           refine wpR_gskip (b := true) (t := 122) rfl rfl rfl rfl ?_
           refine wpR_gskip (b := true) (t := 122) rfl rfl rfl rfl ?_
           refine wpR_gskip (b := true) (t := 122) rfl rfl rfl rfl ?_
           refine wpR_gskip (b := true) (t := 122) rfl rfl rfl rfl ?_
           refine wpR_gskip (b := true) (t := 122) rfl rfl rfl rfl ?_
           refine wpR_gskip (b := true) (t := 122) rfl rfl rfl rfl ?_
           refine wpR_v (OpV_pickT rfl rfl) rfl ?_
           refine wpR_v (OpV_move rfl) rfl ?_
           refine wpR_gskip (b := true) (t := 133) rfl rfl rfl rfl ?_
           refine wpR_gskip (b := true) (t := 133) rfl rfl rfl rfl ?_
           refine wpR_gskip (b := true) (t := 133) rfl rfl rfl rfl ?_
           refine wpR_gskip (b := true) (t := 133) rfl rfl rfl rfl ?_
           refine wpR_gskip (b := true) (t := 133) rfl rfl rfl rfl ?_
           refine wpR_gskip (b := true) (t := 133) rfl rfl rfl rfl ?_
           refine wpR_gskip (b := true) (t := 133) rfl rfl rfl rfl ?_
           refine wpR_gskip (b := true) (t := 133) rfl rfl rfl rfl ?_
           refine wpR_gskip (b := true) (t := 133) rfl rfl rfl rfl ?_
           refine wpR_v (OpV_pickT rfl rfl) rfl ?_
           refine wpR_nil ?_
           refine QE_then_n ?_
           exact wpC_le _ (by exact ⟨rfl, rfl, rfl, rfl, trivial⟩) (hK_85 true _ _ ⟨rfl, (hS.pick [] (by decide) rfl)⟩ h)
          case false =>
           have h := if_f h hb_75
           try simp only [hb_75]
           refine wpR_gv (t := 118) rfl rfl (OpV_move rfl) rfl ?_
           refine wpR_gv (t := 118) rfl rfl (OpV_bin rfl rfl (b_ilss _ x_74 0)) rfl ?_
           refine wpR_v (OpV_pickF rfl rfl) rfl ?_
           refine wpR_v (OpV_move rfl) rfl ?_
           cases hb_76 : (decide (x_74 < 0))
           case true =>
            have h := if_t h hb_76
            try simp only [hb_76]
            refine wpR_gskip (b := true) (t := 122) rfl rfl rfl rfl ?_
            refine wpR_gskip (b := true) (t := 122) rfl rfl rfl rfl ?_
            refine wpR_gskip (b := true) (t := 122) rfl rfl rfl rfl ?_
            refine wpR_gskip (b := true) (t := 122) rfl rfl rfl rfl ?_
            refine wpR_gskip (b := true) (t := 122) rfl rfl rfl rfl ?_
            refine wpR_gskip (b := true) (t := 122) rfl rfl rfl rfl ?_
            refine wpR_gskip (b := true) (t := 122) rfl rfl rfl rfl ?_
            refine wpR_gskip (b := true) (t := 122) rfl rfl rfl rfl ?_
            refine wpR_gskip (b := true) (t := 122) rfl rfl rfl rfl ?_
            refine wpR_v (OpV_pickT rfl rfl) rfl ?_
            refine wpR_v (OpV_move rfl) rfl ?_
            refine wpR_gskip (b := true) (t := 133) rfl rfl rfl rfl ?_
            refine wpR_gskip (b := true) (t := 133) rfl rfl rfl rfl ?_
            refine wpR_gskip (b := true) (t := 133) rfl rfl rfl rfl ?_
            refine wpR_gskip (b := true) (t := 133) rfl rfl rfl rfl ?_
            refine wpR_gskip (b := true) (t := 133) rfl rfl rfl rfl ?_
            refine wpR_gskip (b := true) (t := 133) rfl rfl rfl rfl ?_
            refine wpR_gskip (b := true) (t := 133) rfl rfl rfl rfl ?_
            refine wpR_gskip (b := true) (t := 133) rfl rfl rfl rfl ?_
            refine wpR_gskip (b := true) (t := 133) rfl rfl rfl rfl ?_
            refine wpR_v (OpV_pickT rfl rfl) rfl ?_
            refine wpR_nil ?_
            refine QE_then_n ?_
            exact wpC_le _ (by exact ⟨rfl, rfl, rfl, rfl, trivial⟩) (hK_85 true _ _ ⟨rfl, (hS.pick [] (by decide) rfl)⟩ h)
           case false =>
            have h := if_f h hb_76
            try simp only [hb_76]
            refine wpR_gv (t := 122) rfl rfl (OpV_move rfl) rfl ?_
            refine wpR_gv (t := 122) rfl rfl (OpV_move rfl) rfl ?_
            refine wpR_gv (t := 122) rfl rfl (OpV_move rfl) rfl ?_
            refine wpR_gv (t := 122) rfl rfl (OpV_move rfl) rfl ?_
            obtain ⟨x_77, hx_77, h⟩ := obind_some h
            refine wpR_gcall (t := 122) rfl rfl (by kernel_rfl) rfl (c_cbor_Behind _ x_69 x_73 v_70  (hT.now hS.fr) (hS.ro 0 rfl).rp _ hx_77) rfl ?_
            rintro _ w ⟨rfl, hS1⟩
            have hS := hS.call hS1
            simp only [List.cons_append, List.nil_append] at hS
            obtain ⟨x_78, hx_78, h⟩ := obind_some h
            refine wpR_gv (t := 122) rfl rfl (G_sl Tryd.underlying22 ti33 rfl rfl rfl (hS.ro 0 rfl) hx_78) rfl ?_
            refine wpR_gv (t := 122) rfl rfl (OpV_move rfl) rfl ?_
            obtain ⟨x_79, hx_79, h⟩ := obind_some h
            refine wpR_gcall (t := 122) rfl rfl (by kernel_rfl) rfl (c_law30_same _ x_78 a1 (slV v_70 (eP eI (eP e64 (eP eS eI))).sz ((x_73 : Int).toNat) ((x_77 : Int).toNat)) va1  ((hS.ro 0 rfl).g_sl hx_78).rp (ha1.now hS.fr).rp _ hx_79) rfl ?_
            rintro _ w ⟨rfl, hS1⟩
            have hS := hS.call hS1
            simp only [List.cons_append, List.nil_append] at hS
            refine wpR_gv (t := 122) rfl rfl (OpV_un rfl (u_not x_79)) rfl ?_
            refine wpR_v (OpV_pickF rfl rfl) rfl ?_
            refine wpR_v (OpV_move rfl) rfl ?_
            cases hb_80 : (!x_79)
            case true =>
             have h := if_t h hb_80
             try simp only [hb_80]
             refine wpR_gskip (b := true) (t := 133) rfl rfl rfl rfl ?_
             refine wpR_gskip (b := true) (t := 133) rfl rfl rfl rfl ?_
             refine wpR_gskip (b := true) (t := 133) rfl rfl rfl rfl ?_
             refine wpR_gskip (b := true) (t := 133) rfl rfl rfl rfl ?_
             refine wpR_gskip (b := true) (t := 133) rfl rfl rfl rfl ?_
             refine wpR_gskip (b := true) (t := 133) rfl rfl rfl rfl ?_
             refine wpR_gskip (b := true) (t := 133) rfl rfl rfl rfl ?_
             refine wpR_gskip (b := true) (t := 133) rfl rfl rfl rfl ?_
             refine wpR_gskip (b := true) (t := 133) rfl rfl rfl rfl ?_
             refine wpR_v (OpV_pickT rfl rfl) rfl ?_
             refine wpR_nil ?_
             refine QE_then_n ?_
             exact wpC_le _ (by exact ⟨rfl, rfl, rfl, rfl, trivial⟩) (hK_85 true _ _ ⟨rfl, (hS.pick [] (by decide) rfl)⟩ h)
            case false =>
             have h := if_f h hb_80
             try simp only [hb_80]
             refine wpR_gv (t := 133) rfl rfl (OpV_move rfl) rfl ?_
             refine wpR_gv (t := 133) rfl rfl (OpV_move rfl) rfl ?_
             refine wpR_gv (t := 133) rfl rfl (OpV_move rfl) rfl ?_
             refine wpR_gv (t := 133) rfl rfl (OpV_move rfl) rfl ?_
             obtain ⟨x_81, hx_81, h⟩ := obind_some h
             refine wpR_gcall (t := 133) rfl rfl (by kernel_rfl) rfl (c_cbor_Behind _ x_69 x_74 v_70  (hT.now hS.fr) (hS.ro 0 rfl).rp _ hx_81) rfl ?_
             rintro _ w ⟨rfl, hS1⟩
             have hS := hS.call hS1
             simp only [List.cons_append, List.nil_append] at hS
             obtain ⟨x_82, hx_82, h⟩ := obind_some h
             refine wpR_gv (t := 133) rfl rfl (G_sl Tryd.underlying22 ti33 rfl rfl rfl (hS.ro 0 rfl) hx_82) rfl ?_
             refine wpR_gv (t := 133) rfl rfl (OpV_move rfl) rfl ?_
             obtain ⟨x_83, hx_83, h⟩ := obind_some h
             refine wpR_gcall (t := 133) rfl rfl (by kernel_rfl) rfl (c_law30_same _ x_82 a3 (slV v_70 (eP eI (eP e64 (eP eS eI))).sz ((x_74 : Int).toNat) ((x_81 : Int).toNat)) va3  ((hS.ro 0 rfl).g_sl hx_82).rp (ha3.now hS.fr).rp _ hx_83) rfl ?_
             rintro _ w ⟨rfl, hS1⟩
             have hS := hS.call hS1
             simp only [List.cons_append, List.nil_append] at hS
             refine wpR_gv (t := 133) rfl rfl (OpV_un rfl (u_not x_83)) rfl ?_
             refine wpR_v (OpV_pickF rfl rfl) rfl ?_
             refine wpR_nil ?_
             refine QE_then_n ?_
             exact wpC_le _ (by exact ⟨rfl, rfl, rfl, rfl, trivial⟩) (hK_85 (!x_83) _ _ ⟨rfl, (hS.pick [] (by decide) rfl)⟩ h)
        ·intro hK_72
         refine wpC_seq ?_
         refine wpC_region ?_
         refine wpR_v (OpV_move rfl) rfl ?_
         refine wpR_nil ?_
         refine QE_then_n ?_
         refine wpC_cond rfl (fun hb_68 => ?_) (fun hb_68 => ?_)
         ·have h := if_t h hb_68
          refine wpC_region ?_
          refine wpR_v (OpV_move rfl) rfl ?_
          refine wpR_v (OpV_assign rfl) rfl ?_
          refine wpR_nil ?_
          refine QE_then_n ?_
          exact wpC_le _ (by exact ⟨rfl, rfl, rfl, rfl, rfl, rfl, trivial⟩) (hK_72 x_61 _ _ ⟨v_62, rfl, (hS.pick [0] (by decide) rfl)⟩ h)
         ·have h := if_f h hb_68
          refine wpC_skip ?_
          refine QE_then_n ?_
          exact wpC_le _ (by exact ⟨rfl, rfl, rfl, rfl, rfl, rfl, trivial⟩) (hK_72 x_56 _ _ ⟨v_57, rfl, (hS.pick [2] (by decide) rfl)⟩ h)
    ·intro hK_53
     refine wpC_region ?_
     refine wpR_v (OpV_move rfl) rfl ?_
     refine wpR_v (OpV_move rfl) rfl ?_
     refine wpR_v (OpV_move rfl) rfl ?_
     refine wpR_v (OpV_move rfl) rfl ?_
     refine wpR_x (OpX_lit (e := eV) (l := ([SV.of va0, SV.of va1, SV.of va2, SV.of va3] : List SV)) (vs := [va0, va1, va2, va3]) Tryd.underlying44 ti22 rfl rfl rfl (fl_eVc (ha0.now hS.fr).sv (fl_eVc (ha1.now hS.fr).sv (fl_eVc (ha2.now hS.fr).sv (fl_eVc (ha3.now hS.fr).sv rfl)))) (by decide) (by decide) hS) rfl ?_
     rintro v_38 w hS
     obtain ⟨x_40, hx_40, h⟩ := obind_some h
     refine wpR_call (by kernel_rfl) rfl (c_law30_joined _ 4 [a0, a1, a2, a3] v_38 [SV.of va0, SV.of va1, SV.of va2, SV.of va3] (hS.ro 0 rfl).rp ⟨(ha0.now hS.fr).svrp, (ha1.now hS.fr).svrp, (ha2.now hS.fr).svrp, (ha3.now hS.fr).svrp, trivial⟩ _ hx_40) rfl ?_
     rintro v_41 w hS1
     have hS := hS.call hS1
     simp only [List.cons_append, List.nil_append] at hS
     obtain ⟨x_43, hx_43, h⟩ := obind_some h
     refine wpR_call (by kernel_rfl) rfl (c_cbor_Shaped _ x_40 v_41  (hT.now hS.fr) (hS.ro 0 rfl).rp _ hx_43) rfl ?_
     rintro _ w ⟨rfl, hS1⟩
     have hS := hS.call hS1
     simp only [List.cons_append, List.nil_append] at hS
     refine wpR_v (OpV_un rfl (u_not x_43)) rfl ?_
     refine wpR_v (OpV_move rfl) rfl ?_
     cases hb_44 : (!x_43)
     case true =>
      have h := if_t h hb_44
      try simp only [hb_44]
      refine wpR_gskip (b := true) (t := 60) rfl rfl rfl rfl ?_
      refine wpR_gskip (b := true) (t := 60) rfl rfl rfl rfl ?_
      refine wpR_gskip (b := true) (t := 60) rfl rfl rfl rfl ?_
      refine wpR_v (OpV_pickT rfl rfl) rfl ?_
      refine wpR_v (OpV_move rfl) rfl ?_
      refine wpR_gskip (b := true) (t := 65) rfl rfl rfl rfl ?_
      refine wpR_gskip (b := true) (t := 65) rfl rfl rfl rfl ?_
      refine wpR_gskip (b := true) (t := 65) rfl rfl rfl rfl ?_
      refine wpR_v (OpV_pickT rfl rfl) rfl ?_
      refine wpR_v (OpV_move rfl) rfl ?_
      refine wpR_gskip (b := true) (t := 70) rfl rfl rfl rfl ?_
      refine wpR_gskip (b := true) (t := 70) rfl rfl rfl rfl ?_
      refine wpR_gskip (b := true) (t := 70) rfl rfl rfl rfl ?_
      refine wpR_v (OpV_pickT rfl rfl) rfl ?_
      refine wpR_v (OpV_move rfl) rfl ?_
      refine wpR_gskip (b := true) (t := 75) rfl rfl rfl rfl ?_
      refine wpR_gskip (b := true) (t := 75) rfl rfl rfl rfl ?_
      refine wpR_gskip (b := true) (t := 75) rfl rfl rfl rfl ?_
      refine wpR_v (OpV_pickT rfl rfl) rfl ?_
      refine wpR_nil ?_
      refine QE_then_n ?_
      exact wpC_le _ (by exact ⟨rfl, rfl, rfl, rfl, rfl, trivial⟩) (hK_53 true _ _ ⟨rfl, (hS.pick [] (by decide) rfl)⟩ h)
     case false =>
      have h := if_f h hb_44
      try simp only [hb_44]
      refine wpR_gv (t := 60) rfl rfl (OpV_move rfl) rfl ?_
      obtain ⟨x_45, hx_45, h⟩ := obind_some h
      refine wpR_gcall (t := 60) rfl rfl (by kernel_rfl) rfl (c_cbor_Shaped _ a0 va0  (hT.now hS.fr) (ha0.now hS.fr).rp _ hx_45) rfl ?_
      rintro _ w ⟨rfl, hS1⟩
      have hS := hS.call hS1
      simp only [List.cons_append, List.nil_append] at hS
      refine wpR_gv (t := 60) rfl rfl (OpV_un rfl (u_not x_45)) rfl ?_
      refine wpR_v (OpV_pickF rfl rfl) rfl ?_
      refine wpR_v (OpV_move rfl) rfl ?_
      cases hb_46 : (!x_45)
      case true =>
       have h := if_t h hb_46
       try simp only [hb_46]
       refine wpR_gskip (b := true) (t := 65) rfl rfl rfl rfl ?_
       refine wpR_gskip (b := true) (t := 65) rfl rfl rfl rfl ?_
       refine wpR_gskip (b := true) (t := 65) rfl rfl rfl rfl ?_
       refine wpR_v (OpV_pickT rfl rfl) rfl ?_
       refine wpR_v (OpV_move rfl) rfl ?_
       refine wpR_gskip (b := true) (t := 70) rfl rfl rfl rfl ?_
       refine wpR_gskip (b := true) (t := 70) rfl rfl rfl rfl ?_
       refine wpR_gskip (b := true) (t := 70) rfl rfl rfl rfl ?_
       refine wpR_v (OpV_pickT rfl rfl) rfl ?_
       refine wpR_v (OpV_move rfl) rfl ?_
       refine wpR_gskip (b := true) (t := 75) rfl rfl rfl rfl ?_
       refine wpR_gskip (b := true) (t := 75) rfl rfl rfl rfl ?_
       refine wpR_gskip (b := true) (t := 75) rfl rfl rfl rfl ?_
       refine wpR_v (OpV_pickT rfl rfl) rfl ?_
       refine wpR_nil ?_
       refine QE_then_n ?_
       exact wpC_le _ (by exact ⟨rfl, rfl, rfl, rfl, rfl, trivial⟩) (hK_53 true _ _ ⟨rfl, (hS.pick [] (by decide) rfl)⟩ h)
      case false =>
       have h := if_f h hb_46
       try simp only [hb_46]
       refine wpR_gv (t := 65) rfl rfl (OpV_move rfl) rfl ?_
       obtain ⟨x_47, hx_47, h⟩ := obind_some h
       refine wpR_gcall (t := 65) rfl rfl (by kernel_rfl) rfl (c_cbor_Shaped _ a1 va1  (hT.now hS.fr) (ha1.now hS.fr).rp _ hx_47) rfl ?_
       rintro _ w ⟨rfl, hS1⟩
       have hS := hS.call hS1
       simp only [List.cons_append, List.nil_append] at hS
       refine wpR_gv (t := 65) rfl rfl (OpV_un rfl (u_not x_47)) rfl ?_
       refine wpR_v (OpV_pickF rfl rfl) rfl ?_
       refine wpR_v (OpV_move rfl) rfl ?_
       cases hb_48 : (!x_47)
       case true =>
        have h := if_t h hb_48
        try simp only [hb_48]
        refine wpR_gskip (b := true) (t := 70) rfl rfl rfl rfl ?_
        refine wpR_gskip (b := true) (t := 70) rfl rfl rfl rfl ?_
        refine wpR_gskip (b := true) (t := 70) rfl rfl rfl rfl ?_
        refine wpR_v (OpV_pickT rfl rfl) rfl ?_
        refine wpR_v (OpV_move rfl) rfl ?_
        refine wpR_gskip (b := true) (t := 75) rfl rfl rfl rfl ?_
        refine wpR_gskip (b := true) (t := 75) rfl rfl rfl rfl ?_
        refine wpR_gskip (b := true) (t := 75) rfl rfl rfl rfl ?_
        refine wpR_v (OpV_pickT rfl rfl) rfl ?_
        refine wpR_nil ?_
        refine QE_then_n ?_
        exact wpC_le _ (by exact ⟨rfl, rfl, rfl, rfl, rfl, trivial⟩) (hK_53 true _ _ ⟨rfl, (hS.pick [] (by decide) rfl)⟩ h)
       case false =>
        have h := if_f h hb_48
        try simp only [hb_48]
        refine wpR_gv (t := 70) rfl rfl (OpV_move rfl) rfl ?_
        obtain ⟨x_49, hx_49, h⟩ := obind_some h
        refine wpR_gcall (t := 70) rfl rfl (by kernel_rfl) rfl (c_cbor_Shaped _ a2 va2  (hT.now hS.fr) (ha2.now hS.fr).rp _ hx_49) rfl ?_
        rintro _ w ⟨rfl, hS1⟩
        have hS := hS.call hS1
        simp only [List.cons_append, List.nil_append] at hS
        refine wpR_gv (t := 70) rfl rfl (OpV_un rfl (u_not x_49)) rfl ?_
        refine wpR_v (OpV_pickF rfl rfl) rfl ?_
        refine wpR_v (OpV_move rfl) rfl ?_
        cases hb_50 : (!x_49)
        case true =>
         have h := if_t h hb_50
         try simp only [hb_50]
         refine wpR_gskip (b := true) (t := 75) rfl rfl rfl rfl ?_
         refine wpR_gskip (b := true) (t := 75) rfl rfl rfl rfl ?_
         refine wpR_gskip (b := true) (t := 75) rfl rfl rfl rfl ?_
         refine wpR_v (OpV_pickT rfl rfl) rfl ?_
         refine wpR_nil ?_
         refine QE_then_n ?_
         exact wpC_le _ (by exact ⟨rfl, rfl, rfl, rfl, rfl, trivial⟩) (hK_53 true _ _ ⟨rfl, (hS.pick [] (by decide) rfl)⟩ h)
        case false =>
         have h := if_f h hb_50
         try simp only [hb_50]
         refine wpR_gv (t := 75) rfl rfl (OpV_move rfl) rfl ?_
         obtain ⟨x_51, hx_51, h⟩ := obind_some h
         refine wpR_gcall (t := 75) rfl rfl (by kernel_rfl) rfl (c_cbor_Shaped _ a3 va3  (hT.now hS.fr) (ha3.now hS.fr).rp _ hx_51) rfl ?_
         rintro _ w ⟨rfl, hS1⟩
         have hS := hS.call hS1
         simp only [List.cons_append, List.nil_append] at hS
         refine wpR_gv (t := 75) rfl rfl (OpV_un rfl (u_not x_51)) rfl ?_
         refine wpR_v (OpV_pickF rfl rfl) rfl ?_
         refine wpR_nil ?_
         refine QE_then_n ?_
         exact wpC_le _ (by exact ⟨rfl, rfl, rfl, rfl, rfl, trivial⟩) (hK_53 (!x_51) _ _ ⟨rfl, (hS.pick [] (by decide) rfl)⟩ h)
 ·intro hK_36
  refine wpC_region ?_
  refine wpR_v (OpV_move rfl) rfl ?_
  refine wpR_x (OpX_lit (e := eV) (l := ([SV.of va0] : List SV)) (vs := [va0]) Tryd.underlying44 ti22 rfl rfl rfl (fl_eVc (ha0.now hS.fr).sv rfl) (by decide) (by decide) hS) rfl ?_
  rintro v_1 w hS
  obtain ⟨x_3, hx_3, h⟩ := obind_some h
  refine wpR_call (by kernel_rfl) rfl (c_law30_joined _ 4 [a0] v_1 [SV.of va0] (hS.ro 0 rfl).rp ⟨(ha0.now hS.fr).svrp, trivial⟩ _ hx_3) rfl ?_
  rintro v_4 w hS1
  have hS := hS.call hS1
  simp only [List.cons_append, List.nil_append] at hS
  obtain ⟨x_6, hx_6, h⟩ := obind_some h
  refine wpR_call (by kernel_rfl) rfl (c_ref30_Beyond _ x_3 v_4  (hS.ro 0 rfl).rp _ hx_6) rfl ?_
  rintro _ w ⟨rfl, hS1⟩
  have hS := hS.call hS1
  simp only [List.cons_append, List.nil_append] at hS
  refine wpR_v (OpV_move rfl) rfl ?_
  cases hb_7 : x_6
  case true =>
   have h := if_t h hb_7
   try simp only [hb_7]
   refine wpR_gskip (b := true) (t := 23) rfl rfl rfl rfl ?_
   refine wpR_gskip (b := true) (t := 23) rfl rfl rfl rfl ?_
   refine wpR_gskip (b := true) (t := 23) rfl rfl rfl rfl ?_
   refine wpR_gskip (b := true) (t := 23) rfl rfl rfl rfl ?_
   refine wpR_v (OpV_pickT rfl rfl) rfl ?_
   refine wpR_v (OpV_move rfl) rfl ?_
   refine wpR_gskip (b := true) (t := 29) rfl rfl rfl rfl ?_
   refine wpR_gskip (b := true) (t := 29) rfl rfl rfl rfl ?_
   refine wpR_gskip (b := true) (t := 29) rfl rfl rfl rfl ?_
   refine wpR_gskip (b := true) (t := 29) rfl rfl rfl rfl ?_
   refine wpR_v (OpV_pickT rfl rfl) rfl ?_
   refine wpR_v (OpV_move rfl) rfl ?_
   refine wpR_gskip (b := true) (t := 35) rfl rfl rfl rfl ?_
   refine wpR_gskip (b := true) (t := 35) rfl rfl rfl rfl ?_
   refine wpR_gskip (b := true) (t := 35) rfl rfl rfl rfl ?_
   refine wpR_gskip (b := true) (t := 35) rfl rfl rfl rfl ?_
   refine wpR_v (OpV_pickT rfl rfl) rfl ?_
   refine wpR_v (OpV_move rfl) rfl ?_
   refine wpR_gskip (b := true) (t := 41) rfl rfl rfl rfl ?_
   refine wpR_gskip (b := true) (t := 41) rfl rfl rfl rfl ?_
   refine wpR_gskip (b := true) (t := 41) rfl rfl rfl rfl ?_
   refine wpR_gskip (b := true) (t := 41) rfl rfl rfl rfl ?_
   refine wpR_gskip (b := true) (t := 41) rfl rfl rfl rfl ?_
   refine wpR_gskip (b := true) (t := 41) rfl rfl rfl rfl ?_
   refine wpR_gskip (b := true) (t := 41) rfl rfl rfl rfl ?_
   refine wpR_v (OpV_pickT rfl rfl) rfl ?_
   refine wpR_nil ?_
   refine QE_then_n ?_
   exact wpC_le _ (by exact ⟨rfl, rfl, rfl, rfl, rfl, trivial⟩) (hK_36 true _ _ ⟨rfl, (hS.pick [] (by decide) rfl)⟩ h)
  case false =>
   have h := if_f h hb_7
   try simp only [hb_7]
   refine wpR_gv (t := 23) rfl rfl (OpV_move rfl) rfl ?_
   refine wpR_gx (t := 23) rfl rfl (OpX_lit (e := eV) (l := ([SV.of va1] : List SV)) (vs := [va1]) Tryd.underlying44 ti22 rfl rfl rfl (fl_eVc (ha1.now hS.fr).sv rfl) (by decide) (by decide) hS) rfl ?_
   rintro v_8 w hS
   obtain ⟨x_10, hx_10, h⟩ := obind_some h
   refine wpR_gcall (t := 23) rfl rfl (by kernel_rfl) rfl (c_law30_joined _ 4 [a1] v_8 [SV.of va1] (hS.ro 0 rfl).rp ⟨(ha1.now hS.fr).svrp, trivial⟩ _ hx_10) rfl ?_
   rintro v_11 w hS1
   have hS := hS.call hS1
   simp only [List.cons_append, List.nil_append] at hS
   obtain ⟨x_13, hx_13, h⟩ := obind_some h
   refine wpR_gcall (t := 23) rfl rfl (by kernel_rfl) rfl (c_ref30_Beyond _ x_10 v_11  (hS.ro 0 rfl).rp _ hx_13) rfl ?_
   rintro _ w ⟨rfl, hS1⟩
   have hS := hS.call hS1
   simp only [List.cons_append, List.nil_append] at hS
   refine wpR_v (OpV_pickF rfl rfl) rfl ?_
   refine wpR_v (OpV_move rfl) rfl ?_
   cases hb_14 : x_13
   case true =>
    have h := if_t h hb_14
    try simp only [hb_14]
    refine wpR_gskip (b := true) (t := 29) rfl rfl rfl rfl ?_
    refine wpR_gskip (b := true) (t := 29) rfl rfl rfl rfl ?_
    refine wpR_gskip (b := true) (t := 29) rfl rfl rfl rfl ?_
    refine wpR_gskip (b := true) (t := 29) rfl rfl rfl rfl ?_
    refine wpR_v (OpV_pickT rfl rfl) rfl ?_
    refine wpR_v (OpV_move rfl) rfl ?_
    refine wpR_gskip (b := true) (t := 35) rfl rfl rfl rfl ?_
    refine wpR_gskip (b := true) (t := 35) rfl rfl rfl rfl ?_
    refine wpR_gskip (b := true) (t := 35) rfl rfl rfl rfl ?_
    refine wpR_gskip (b := true) (t := 35) rfl rfl rfl rfl ?_
    refine wpR_v (OpV_pickT rfl rfl) rfl ?_
    refine wpR_v (OpV_move rfl) rfl ?_
    refine wpR_gskip (b := true) (t := 41) rfl rfl rfl rfl ?_
    refine wpR_gskip (b := true) (t := 41) rfl rfl rfl rfl ?_
    refine wpR_gskip (b := true) (t := 41) rfl rfl rfl rfl ?_
    refine wpR_gskip (b := true) (t := 41) rfl rfl rfl rfl ?_
    refine wpR_gskip (b := true) (t := 41) rfl rfl rfl rfl ?_
    refine wpR_gskip (b := true) (t := 41) rfl rfl rfl rfl ?_
    refine wpR_gskip (b := true) (t := 41) rfl rfl rfl rfl ?_
    refine wpR_v (OpV_pickT rfl rfl) rfl ?_
    refine wpR_nil ?_
    refine QE_then_n ?_
    exact wpC_le _ (by exact ⟨rfl, rfl, rfl, rfl, rfl, trivial⟩) (hK_36 true _ _ ⟨rfl, (hS.pick [] (by decide) rfl)⟩ h)
   case false =>
    have h := if_f h hb_14
    try simp only [hb_14]
    refine wpR_gv (t := 29) rfl rfl (OpV_move rfl) rfl ?_
    refine wpR_gx (t := 29) rfl rfl (OpX_lit (e := eV) (l := ([SV.of va2] : List SV)) (vs := [va2]) Tryd.underlying44 ti22 rfl rfl rfl (fl_eVc (ha2.now hS.fr).sv rfl) (by decide) (by decide) hS) rfl ?_
    rintro v_15 w hS
    obtain ⟨x_17, hx_17, h⟩ := obind_some h
    refine wpR_gcall (t := 29) rfl rfl (by kernel_rfl) rfl (c_law30_joined _ 4 [a2] v_15 [SV.of va2] (hS.ro 0 rfl).rp ⟨(ha2.now hS.fr).svrp, trivial⟩ _ hx_17) rfl ?_
    rintro v_18 w hS1
    have hS := hS.call hS1
    simp only [List.cons_append, List.nil_append] at hS
    obtain ⟨x_20, hx_20, h⟩ := obind_some h
    refine wpR_gcall (t := 29) rfl rfl (by kernel_rfl) rfl (c_ref30_Beyond _ x_17 v_18  (hS.ro 0 rfl).rp _ hx_20) rfl ?_
    rintro _ w ⟨rfl, hS1⟩
    have hS := hS.call hS1
    simp only [List.cons_append, List.nil_append] at hS
    refine wpR_v (OpV_pickF rfl rfl) rfl ?_
    refine wpR_v (OpV_move rfl) rfl ?_
    cases hb_21 : x_20
    case true =>
     have h := if_t h hb_21
     try simp only [hb_21]
     refine wpR_gskip (b := true) (t := 35) rfl rfl rfl rfl ?_
     refine wpR_gskip (b := true) (t := 35) rfl rfl rfl rfl ?_
     refine wpR_gskip (b := true) (t := 35) rfl rfl rfl rfl ?_
     refine wpR_gskip (b := true) (t := 35) rfl rfl rfl rfl ?_
     refine wpR_v (OpV_pickT rfl rfl) rfl ?_
     refine wpR_v (OpV_move rfl) rfl ?_
     refine wpR_gskip (b := true) (t := 41) rfl rfl rfl rfl ?_
     refine wpR_gskip (b := true) (t := 41) rfl rfl rfl rfl ?_
     refine wpR_gskip (b := true) (t := 41) rfl rfl rfl rfl ?_
     refine wpR_gskip (b := true) (t := 41) rfl rfl rfl rfl ?_
     refine wpR_gskip (b := true) (t := 41) rfl rfl rfl rfl ?_
     refine wpR_gskip (b := true) (t := 41) rfl rfl rfl rfl ?_
     refine wpR_gskip (b := true) (t := 41) rfl rfl rfl rfl ?_
     refine wpR_v (OpV_pickT rfl rfl) rfl ?_
     refine wpR_nil ?_
     refine QE_then_n ?_
     exact wpC_le _ (by exact ⟨rfl, rfl, rfl, rfl, rfl, trivial⟩) (hK_36 true _ _ ⟨rfl, (hS.pick [] (by decide) rfl)⟩ h)
    case false =>
     have h := if_f h hb_21
     try simp only [hb_21]
     refine wpR_gv (t := 35) rfl rfl (OpV_move rfl) rfl ?_
     refine wpR_gx (t := 35) rfl rfl (OpX_lit (e := eV) (l := ([SV.of va3] : List SV)) (vs := [va3]) Tryd.underlying44 ti22 rfl rfl rfl (fl_eVc (ha3.now hS.fr).sv rfl) (by decide) (by decide) hS) rfl ?_
     rintro v_22 w hS
     obtain ⟨x_24, hx_24, h⟩ := obind_some h
     refine wpR_gcall (t := 35) rfl rfl (by kernel_rfl) rfl (c_law30_joined _ 4 [a3] v_22 [SV.of va3] (hS.ro 0 rfl).rp ⟨(ha3.now hS.fr).svrp, trivial⟩ _ hx_24) rfl ?_
     rintro v_25 w hS1
     have hS := hS.call hS1
     simp only [List.cons_append, List.nil_append] at hS
     obtain ⟨x_27, hx_27, h⟩ := obind_some h
     refine wpR_gcall (t := 35) rfl rfl (by kernel_rfl) rfl (c_ref30_Beyond _ x_24 v_25  (hS.ro 0 rfl).rp _ hx_27) rfl ?_
     rintro _ w ⟨rfl, hS1⟩
     have hS := hS.call hS1
     simp only [List.cons_append, List.nil_append] at hS
     refine wpR_v (OpV_pickF rfl rfl) rfl ?_
     refine wpR_v (OpV_move rfl) rfl ?_
     cases hb_28 : x_27
     case true =>
      have h := if_t h hb_28
      try simp only [hb_28]
      refine wpR_gskip (b := true) (t := 41) rfl rfl rfl rfl ?_
      refine wpR_gskip (b := true) (t := 41) rfl rfl rfl rfl ?_
      refine wpR_gskip (b := true) (t := 41) rfl rfl rfl rfl ?_
      refine wpR_gskip (b := true) (t := 41) rfl rfl rfl rfl ?_
      refine wpR_gskip (b := true) (t := 41) rfl rfl rfl rfl ?_
      refine wpR_gskip (b := true) (t := 41) rfl rfl rfl rfl ?_
      refine wpR_gskip (b := true) (t := 41) rfl rfl rfl rfl ?_
      refine wpR_v (OpV_pickT rfl rfl) rfl ?_
      refine wpR_nil ?_
      refine QE_then_n ?_
      exact wpC_le _ (by exact ⟨rfl, rfl, rfl, rfl, rfl, trivial⟩) (hK_36 true _ _ ⟨rfl, (hS.pick [] (by decide) rfl)⟩ h)
     case false =>
      have h := if_f h hb_28
      try simp only [hb_28]
      refine wpR_gv (t := 41) rfl rfl (OpV_move rfl) rfl ?_
      refine wpR_gv (t := 41) rfl rfl (OpV_move rfl) rfl ?_
      refine wpR_gv (t := 41) rfl rfl (OpV_move rfl) rfl ?_
      refine wpR_gv (t := 41) rfl rfl (OpV_move rfl) rfl ?_
      refine wpR_gx (t := 41) rfl rfl (OpX_lit (e := eV) (l := ([SV.of va0, SV.of va1, SV.of va2, SV.of va3] : List SV)) (vs := [va0, va1, va2, va3]) Tryd.underlying44 ti22 rfl rfl rfl (fl_eVc (ha0.now hS.fr).sv (fl_eVc (ha1.now hS.fr).sv (fl_eVc (ha2.now hS.fr).sv (fl_eVc (ha3.now hS.fr).sv rfl)))) (by decide) (by decide) hS) rfl ?_
      rintro v_29 w hS
      obtain ⟨x_31, hx_31, h⟩ := obind_some h
      refine wpR_gcall (t := 41) rfl rfl (by kernel_rfl) rfl (c_law30_joined _ 4 [a0, a1, a2, a3] v_29 [SV.of va0, SV.of va1, SV.of va2, SV.of va3] (hS.ro 0 rfl).rp ⟨(ha0.now hS.fr).svrp, (ha1.now hS.fr).svrp, (ha2.now hS.fr).svrp, (ha3.now hS.fr).svrp, trivial⟩ _ hx_31) rfl ?_
      rintro v_32 w hS1
      have hS := hS.call hS1
      simp only [List.cons_append, List.nil_append] at hS
      obtain ⟨x_34, hx_34, h⟩ := obind_some h
      refine wpR_gcall (t := 41) rfl rfl (by kernel_rfl) rfl (c_ref30_Beyond _ x_31 v_32  (hS.ro 0 rfl).rp _ hx_34) rfl ?_
      rintro _ w ⟨rfl, hS1⟩
      have hS := hS.call hS1
      simp only [List.cons_append, List.nil_append] at hS
      refine wpR_v (OpV_pickF rfl rfl) rfl ?_
      refine wpR_nil ?_
      refine QE_then_n ?_
      exact wpC_le _ (by exact ⟨rfl, rfl, rfl, rfl, rfl, trivial⟩) (hK_36 x_34 _ _ ⟨rfl, (hS.pick [] (by decide) rfl)⟩ h)
end Go.Proofs
