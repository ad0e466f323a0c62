import Derived.Test.YtcdneplfgppapaaDoorWW0
import Derived.Test.YtcdneplfgppapaaDoorGkFlaw30
import Derived.Test.YtcdneplfgppapaaDoorWWcborc
import Derived.Test.YtcdneplfgppapaaDoorWWlaw30b
import Derived.Test.YtcdneplfgppapaaDoorWWref30d
set_option linter.unusedVariables false
set_option linter.unusedSimpArgs false
set_option linter.unusedVariables false
set_option maxRecDepth 4000
namespace Go.Proofs
open Go Go.RowKit Go.Gk
theorem c_law30_CborBack (w0 : World) (a0 : List UInt8) (a1 : List (Int × UInt64 × (List UInt8) × Int)) (va0 : Value) (va1 : Value) (hT : TB [] w0) (ha0 : RP [] w0 e8 va0 a0) (ha1 : RP [] w0 (eP eI (eP e64 (eP eS eI))) va1 a1) (r : Bool)
  (h : F.law30_CborBack a0 a1 = some r) : Calls Tryd.prog 12 #[va0, va1] w0 (Ret fun v w => v = vB r ∧ St [] w0 w []) := by
 refine calls_at 104 Tryd.func12 rfl rfl rfl ?_
 have hS := St.start w0
 refine wpC_le [(0, va0), (1, va1)] ⟨rfl, rfl, trivial⟩ ?_
 unfold F.law30_CborBack at h
 refine wpC_seq ?_
 refine wpC_region ?_
 refine wpR_v (OpV_assign rfl) rfl ?_
 refine wpR_nil ?_
 refine QE_then_n ?_
 refine wpC_seq ?_
 refine wpC_seq ?_
 refine wpC_region ?_
 refine wpR_v (OpV_move rfl) rfl ?_
 obtain ⟨x_1, hx_1, h⟩ := obind_some h
 refine wpR_call (by kernel_rfl) rfl (c_ref30_Beyond _ a1 va1  (ha1.now hS.fr).rp _ hx_1) rfl ?_
 rintro _ w ⟨rfl, hS1⟩
 have hS := hS.call hS1
 simp only [List.cons_append, List.nil_append] at hS
 refine wpR_nil ?_
 refine QE_then_n ?_
 refine wpC_cond rfl (fun hb_39 => ?_) (fun hb_39 => ?_)
 ·have h := if_t h hb_39
  refine wpC_seq ?_
  refine wpC_region ?_
  refine wpR_v (OpV_assign rfl) rfl ?_
  refine wpR_nil ?_
  refine QE_then_n ?_
  refine wpC_ret ?_
  refine QE_then_r ?_
  cases h
  exact QE_ret1 rfl rfl ⟨rfl, hS⟩
 ·have h := if_f h hb_39
  refine wpC_skip ?_
  refine QE_then_n ?_
  refine wpC_seq ?_
  refine wpC_seq ?_
  refine wpC_region ?_
  obtain ⟨x_2, hx_2, h⟩ := obind_some h
  refine wpR_call (by kernel_rfl) rfl (c_law30_awake _    (hT.now hS.fr) _ hx_2) rfl ?_
  rintro _ w ⟨rfl, hS1⟩
  have hS := hS.call hS1
  simp only [List.cons_append, List.nil_append] at hS
  refine wpR_v (OpV_un rfl (u_not x_2)) rfl ?_
  refine wpR_nil ?_
  refine QE_then_n ?_
  refine wpC_cond rfl (fun hb_38 => ?_) (fun hb_38 => ?_)
  ·have h := if_t h hb_38
   refine wpC_seq ?_
   refine wpC_region ?_
   refine wpR_v (OpV_assign rfl) rfl ?_
   refine wpR_nil ?_
   refine QE_then_n ?_
   refine wpC_ret ?_
   refine QE_then_r ?_
   cases h
   exact QE_ret1 rfl rfl ⟨rfl, hS⟩
  ·have h := if_f h hb_38
   refine wpC_skip ?_
   refine QE_then_n ?_
   refine wpC_seq ?_
   refine wpC_region ?_
   refine wpR_v (OpV_move rfl) rfl ?_
   obtain ⟨x_3, hx_3, h⟩ := obind_some h
   refine wpR_call (by kernel_rfl) rfl (c_cbor_Parse _ a0 va0  (hT.now hS.fr) (ha0.now hS.fr).rp _ hx_3) rfl ?_
   rintro _ w ⟨v_4, rfl, hS1⟩
   have hS := hS.call hS1
   simp only [List.cons_append, List.nil_append] at hS
   refine wpR_v (OpV_move rfl) rfl ?_
   refine wpR_v (OpV_extract rfl rfl) rfl ?_
   refine wpR_v (OpV_extract rfl rfl) rfl ?_
   refine wpR_v (OpV_extract rfl rfl) rfl ?_
   refine wpR_v (OpV_assign rfl) rfl ?_
   refine wpR_v (OpV_assign rfl) rfl ?_
   refine wpR_v (OpV_assign rfl) rfl ?_
   refine wpR_nil ?_
   refine QE_then_n ?_
   refine seq_join (r := r) (fun (g : Unit) L w => L = [(1, va1)] ∧ St [] w0 w []) (F.law30_CborBack_K1 a1) ?_ ?_
   ·rintro _g L w hJ h
    try dsimp only at hJ
    obtain ⟨rfl, hS⟩ := hJ
    unfold F.law30_CborBack_K1 at h
    refine wpC_seq ?_
    refine wpC_region ?_
    refine wpR_v (OpV_move rfl) rfl ?_
    obtain ⟨x_26, hx_26, h⟩ := obind_some h
    refine wpR_call (by kernel_rfl) rfl (c_cbor_Print _ a1 va1  (hT.now hS.fr) (ha1.now hS.fr).rp _ hx_26) rfl ?_
    rintro _ w ⟨v_27, rfl, hS1⟩
    have hS := hS.call hS1
    simp only [List.cons_append, List.nil_append] at hS
    refine wpR_v (OpV_move rfl) rfl ?_
    refine wpR_v (OpV_extract rfl rfl) rfl ?_
    refine wpR_v (OpV_extract rfl rfl) rfl ?_
    refine wpR_v (OpV_assign rfl) rfl ?_
    refine wpR_v (OpV_assign rfl) rfl ?_
    refine wpR_nil ?_
    refine QE_then_n ?_
    refine wpC_seq ?_
    refine wpC_seq ?_
    refine wpC_region ?_
    refine wpR_v (OpV_move rfl) rfl ?_
    refine wpR_v (OpV_bin rfl rfl (b_ineq _ x_26.2 0)) rfl ?_
    refine wpR_nil ?_
    refine QE_then_n ?_
    refine wpC_cond rfl (fun hb_37 => ?_) (fun hb_37 => ?_)
    ·have h := if_t h hb_37
     refine wpC_seq ?_
     refine wpC_region ?_
     refine wpR_v (OpV_move rfl) rfl ?_
     refine wpR_v (OpV_len Tryd.underlying25 rfl (hS.ro 0 rfl)) rfl ?_
     refine wpR_v (OpV_bin rfl rfl (b_ieql _ (x_26.1.length : Int) 0)) rfl ?_
     refine wpR_v (OpV_move rfl) rfl ?_
     cases hb_29 : ((x_26.1.length : Int) == 0)
     case true =>
      have h := if_t h hb_29
      try simp only [hb_29]
      refine wpR_gv (t := 79) rfl rfl (OpV_move rfl) rfl ?_
      refine wpR_gv (t := 79) rfl rfl (OpV_bin rfl rfl (b_ieql _ x_26.2 10)) rfl ?_
      refine wpR_gv (t := 79) rfl rfl (OpV_move rfl) rfl ?_
      obtain ⟨x_30, hx_30, h⟩ := obind_some h
      refine wpR_gcall (t := 79) rfl rfl (by kernel_rfl) rfl (c_cbor_Shaped _ a1 va1  (hT.now hS.fr) (ha1.now hS.fr).rp _ hx_30) rfl ?_
      rintro _ w ⟨rfl, hS1⟩
      have hS := hS.call hS1
      simp only [List.cons_append, List.nil_append] at hS
      refine wpR_gv (t := 79) rfl rfl (OpV_bin rfl rfl (b_beql _ (x_26.2 == 10) x_30 Tryd.underlying4 rfl)) rfl ?_
      refine wpR_v (OpV_pickT rfl rfl) rfl ?_
      refine wpR_v (OpV_assign rfl) rfl ?_
      refine wpR_nil ?_
      refine QE_then_n ?_
      refine wpC_ret ?_
      refine QE_then_r ?_
      cases h
      exact QE_ret1 rfl rfl ⟨rfl, hS.pick [] (by decide) rfl⟩
     case false =>
      have h := if_f h hb_29
      try simp only [hb_29]
      refine wpR_gskip (b := false) (t := 79) rfl rfl rfl rfl ?_
      refine wpR_gskip (b := false) (t := 79) rfl rfl rfl rfl ?_
      refine wpR_gskip (b := false) (t := 79) rfl rfl rfl rfl ?_
      refine wpR_gskip (b := false) (t := 79) rfl rfl rfl rfl ?_
      refine wpR_gskip (b := false) (t := 79) rfl rfl rfl rfl ?_
      refine wpR_v (OpV_pickF rfl rfl) rfl ?_
      refine wpR_v (OpV_assign rfl) rfl ?_
      refine wpR_nil ?_
      refine QE_then_n ?_
      refine wpC_ret ?_
      refine QE_then_r ?_
      cases h
      exact QE_ret1 rfl rfl ⟨rfl, hS.pick [] (by decide) rfl⟩
    ·have h := if_f h hb_37
     refine wpC_skip ?_
     refine QE_then_n ?_
     refine wpC_seq ?_
     refine wpC_region ?_
     refine wpR_v (OpV_move rfl) rfl ?_
     obtain ⟨x_31, hx_31, h⟩ := obind_some h
     refine wpR_call (by kernel_rfl) rfl (c_cbor_Parse _ x_26.1 v_27  (hT.now hS.fr) (hS.ro 0 rfl).rp _ hx_31) rfl ?_
     rintro _ w ⟨v_32, rfl, hS1⟩
     have hS := hS.call hS1
     simp only [List.cons_append, List.nil_append] at hS
     refine wpR_v (OpV_move rfl) rfl ?_
     refine wpR_v (OpV_extract rfl rfl) rfl ?_
     refine wpR_v (OpV_extract rfl rfl) rfl ?_
     refine wpR_v (OpV_extract rfl rfl) rfl ?_
     refine wpR_v (OpV_assign rfl) rfl ?_
     refine wpR_v (OpV_assign rfl) rfl ?_
     refine wpR_v (OpV_assign rfl) rfl ?_
     refine wpR_nil ?_
     refine QE_then_n ?_
     refine wpC_seq ?_
     refine wpC_region ?_
     refine wpR_v (OpV_move rfl) rfl ?_
     refine wpR_v (OpV_bin rfl rfl (b_ieql _ x_31.2.1 0)) rfl ?_
     refine wpR_v (OpV_move rfl) rfl ?_
     cases hb_34 : (x_31.2.1 == 0)
     case true =>
      have h := if_t h hb_34
      try simp only [hb_34]
      refine wpR_gv (t := 94) rfl rfl (OpV_move rfl) rfl ?_
      refine wpR_gv (t := 94) rfl rfl (OpV_move rfl) rfl ?_
      obtain ⟨x_35, hx_35, h⟩ := obind_some h
      refine wpR_gcall (t := 94) rfl rfl (by kernel_rfl) rfl (c_law30_same _ x_31.1 a1 v_32 va1  (hS.ro 0 rfl).rp (ha1.now hS.fr).rp _ hx_35) rfl ?_
      rintro _ w ⟨rfl, hS1⟩
      have hS := hS.call hS1
      simp only [List.cons_append, List.nil_append] at hS
      refine wpR_v (OpV_pickT rfl rfl) rfl ?_
      refine wpR_v (OpV_move rfl) rfl ?_
      cases hb_36 : x_35
      case true =>
       have h := if_t h hb_36
       try simp only [hb_36]
       refine wpR_gv (t := 99) rfl rfl (OpV_move rfl) rfl ?_
       refine wpR_gv (t := 99) rfl rfl (OpV_len Tryd.underlying25 rfl (hS.ro 1 rfl)) rfl ?_
       refine wpR_gv (t := 99) rfl rfl (OpV_bin rfl rfl (b_ileq _ (x_26.1.length : Int) 65536)) rfl ?_
       refine wpR_v (OpV_pickT rfl rfl) rfl ?_
       refine wpR_v (OpV_assign rfl) rfl ?_
       refine wpR_nil ?_
       refine QE_then_n ?_
       refine wpC_ret ?_
       cases h
       exact QE_ret1 rfl rfl ⟨rfl, hS.pick [] (by decide) rfl⟩
      case false =>
       have h := if_f h hb_36
       try simp only [hb_36]
       refine wpR_gskip (b := false) (t := 99) rfl rfl rfl rfl ?_
       refine wpR_gskip (b := false) (t := 99) rfl rfl rfl rfl ?_
       refine wpR_gskip (b := false) (t := 99) rfl rfl rfl rfl ?_
       refine wpR_v (OpV_pickF rfl rfl) rfl ?_
       refine wpR_v (OpV_assign rfl) rfl ?_
       refine wpR_nil ?_
       refine QE_then_n ?_
       refine wpC_ret ?_
       cases h
       exact QE_ret1 rfl rfl ⟨rfl, hS.pick [] (by decide) rfl⟩
     case false =>
      have h := if_f h hb_34
      try simp only [hb_34]
      refine wpR_gskip (b := false) (t := 94) rfl rfl rfl rfl ?_
      refine wpR_gskip (b := false) (t := 94) rfl rfl rfl rfl ?_
      refine wpR_gskip (b := false) (t := 94) rfl rfl rfl rfl ?_
      refine wpR_v (OpV_pickF rfl rfl) rfl ?_
      refine wpR_v (OpV_move rfl) rfl ?_
      refine wpR_gskip (b := false) (t := 99) rfl rfl rfl rfl ?_
      refine wpR_gskip (b := false) (t := 99) rfl rfl rfl rfl ?_
      refine wpR_gskip (b := false) (t := 99) rfl rfl rfl rfl ?_
      refine wpR_v (OpV_pickF rfl rfl) rfl ?_
      refine wpR_v (OpV_assign rfl) rfl ?_
      refine wpR_nil ?_
      refine QE_then_n ?_
      refine wpC_ret ?_
      cases h
      exact QE_ret1 rfl rfl ⟨rfl, hS.pick [] (by decide) rfl⟩
   ·intro hK_25
    refine wpC_seq ?_
    refine wpC_region ?_
    refine wpR_v (OpV_move rfl) rfl ?_
    refine wpR_v (OpV_bin rfl rfl (b_ieql _ x_3.2.1 0)) rfl ?_
    refine wpR_nil ?_
    refine QE_then_n ?_
    refine wpC_cond rfl (fun hb_24 => ?_) (fun hb_24 => ?_)
    ·have h := if_t h hb_24
     refine wpC_seq ?_
     refine wpC_region ?_
     refine wpR_v (OpV_move rfl) rfl ?_
     obtain ⟨x_6, hx_6, h⟩ := obind_some h
     refine wpR_call (by kernel_rfl) rfl (c_cbor_Print _ x_3.1 v_4  (hT.now hS.fr) (hS.ro 0 rfl).rp _ hx_6) rfl ?_
     rintro _ w ⟨v_7, rfl, hS1⟩
     have hS := hS.call hS1
     simp only [List.cons_append, List.nil_append] at hS
     refine wpR_v (OpV_move rfl) rfl ?_
     refine wpR_v (OpV_extract rfl rfl) rfl ?_
     refine wpR_v (OpV_extract rfl rfl) rfl ?_
     refine wpR_v (OpV_assign rfl) rfl ?_
     refine wpR_v (OpV_assign rfl) rfl ?_
     refine wpR_nil ?_
     refine QE_then_n ?_
     refine seq_join (r := r) (fun (g : Bool) L w => L = [(1, va1), (55, vB g)] ∧ St [] w0 w []) (F.law30_CborBack_K2 a1) ?_ ?_
     ·rintro x_16 L w hJ h
      try dsimp only at hJ
      obtain ⟨rfl, hS⟩ := hJ
      unfold F.law30_CborBack_K2 at h
      refine wpC_cond rfl (fun hb_18 => ?_) (fun hb_18 => ?_)
      ·have h := if_t h hb_18
       refine wpC_seq ?_
       refine wpC_region ?_
       refine wpR_v (OpV_assign rfl) rfl ?_
       refine wpR_nil ?_
       refine QE_then_n ?_
       refine wpC_ret ?_
       refine QE_then_r ?_
       cases h
       exact QE_ret1 rfl rfl ⟨rfl, hS⟩
      ·have h := if_f h hb_18
       refine wpC_skip ?_
       refine QE_then_n ?_
       exact wpC_le _ (by exact ⟨rfl, trivial⟩) (hK_25 () _ _ ⟨rfl, hS⟩ h)
     ·intro hK_17
      refine wpC_region ?_
      refine wpR_v (OpV_move rfl) rfl ?_
      refine wpR_v (OpV_bin rfl rfl (b_ineq _ x_3.2.2 0)) rfl ?_
      refine wpR_v (OpV_move rfl) rfl ?_
      cases hb_9 : (x_3.2.2 != 0)
      case true =>
       have h := if_t h hb_9
       try simp only [hb_9]
       refine wpR_gskip (b := true) (t := 34) rfl rfl rfl rfl ?_
       refine wpR_gskip (b := true) (t := 34) rfl rfl rfl rfl ?_
       refine wpR_v (OpV_pickT rfl rfl) rfl ?_
       refine wpR_v (OpV_move rfl) rfl ?_
       refine wpR_gskip (b := true) (t := 38) rfl rfl rfl rfl ?_
       refine wpR_gskip (b := true) (t := 38) rfl rfl rfl rfl ?_
       refine wpR_gskip (b := true) (t := 38) rfl rfl rfl rfl ?_
       refine wpR_gskip (b := true) (t := 38) rfl rfl rfl rfl ?_
       refine wpR_v (OpV_pickT rfl rfl) rfl ?_
       refine wpR_v (OpV_move rfl) rfl ?_
       refine wpR_gskip (b := true) (t := 44) rfl rfl rfl rfl ?_
       refine wpR_gskip (b := true) (t := 44) rfl rfl rfl rfl ?_
       refine wpR_gskip (b := true) (t := 44) rfl rfl rfl rfl ?_
       refine wpR_v (OpV_pickT rfl rfl) rfl ?_
       refine wpR_v (OpV_move rfl) rfl ?_
       refine wpR_gskip (b := true) (t := 49) rfl rfl rfl rfl ?_
       refine wpR_gskip (b := true) (t := 49) rfl rfl rfl rfl ?_
       refine wpR_gskip (b := true) (t := 49) rfl rfl rfl rfl ?_
       refine wpR_gskip (b := true) (t := 49) rfl rfl rfl rfl ?_
       refine wpR_gskip (b := true) (t := 49) rfl rfl rfl rfl ?_
       refine wpR_v (OpV_pickT rfl rfl) rfl ?_
       refine wpR_nil ?_
       refine QE_then_n ?_
       exact wpC_le _ (by exact ⟨rfl, rfl, trivial⟩) (hK_17 true _ _ ⟨rfl, (hS.pick [] (by decide) rfl)⟩ h)
      case false =>
       have h := if_f h hb_9
       try simp only [hb_9]
       refine wpR_gv (t := 34) rfl rfl (OpV_move rfl) rfl ?_
       refine wpR_gv (t := 34) rfl rfl (OpV_bin rfl rfl (b_ineq _ x_6.2 0)) rfl ?_
       refine wpR_v (OpV_pickF rfl rfl) rfl ?_
       refine wpR_v (OpV_move rfl) rfl ?_
       cases hb_10 : (x_6.2 != 0)
       case true =>
        have h := if_t h hb_10
        try simp only [hb_10]
        refine wpR_gskip (b := true) (t := 38) rfl rfl rfl rfl ?_
        refine wpR_gskip (b := true) (t := 38) rfl rfl rfl rfl ?_
        refine wpR_gskip (b := true) (t := 38) rfl rfl rfl rfl ?_
        refine wpR_gskip (b := true) (t := 38) rfl rfl rfl rfl ?_
        refine wpR_v (OpV_pickT rfl rfl) rfl ?_
        refine wpR_v (OpV_move rfl) rfl ?_
        refine wpR_gskip (b := true) (t := 44) rfl rfl rfl rfl ?_
        refine wpR_gskip (b := true) (t := 44) rfl rfl rfl rfl ?_
        refine wpR_gskip (b := true) (t := 44) rfl rfl rfl rfl ?_
        refine wpR_v (OpV_pickT rfl rfl) rfl ?_
        refine wpR_v (OpV_move rfl) rfl ?_
        refine wpR_gskip (b := true) (t := 49) rfl rfl rfl rfl ?_
        refine wpR_gskip (b := true) (t := 49) rfl rfl rfl rfl ?_
        refine wpR_gskip (b := true) (t := 49) rfl rfl rfl rfl ?_
        refine wpR_gskip (b := true) (t := 49) rfl rfl rfl rfl ?_
        refine wpR_gskip (b := true) (t := 49) rfl rfl rfl rfl ?_
        refine wpR_v (OpV_pickT rfl rfl) rfl ?_
        refine wpR_nil ?_
        refine QE_then_n ?_
        exact wpC_le _ (by exact ⟨rfl, rfl, trivial⟩) (hK_17 true _ _ ⟨rfl, (hS.pick [] (by decide) rfl)⟩ h)
       case false =>
        have h := if_f h hb_10
        try simp only [hb_10]
        refine wpR_gv (t := 38) rfl rfl (OpV_move rfl) rfl ?_
        refine wpR_gv (t := 38) rfl rfl (OpV_move rfl) rfl ?_
        obtain ⟨x_11, hx_11, h⟩ := obind_some h
        refine wpR_gcall (t := 38) rfl rfl (by kernel_rfl) rfl (c_law30_sameBytes _ x_6.1 a0 v_7 va0  (hS.ro 0 rfl).rp (ha0.now hS.fr).rp _ hx_11) rfl ?_
        rintro _ w ⟨rfl, hS1⟩
        have hS := hS.call hS1
        simp only [List.cons_append, List.nil_append] at hS
        refine wpR_gv (t := 38) rfl rfl (OpV_un rfl (u_not x_11)) rfl ?_
        refine wpR_v (OpV_pickF rfl rfl) rfl ?_
        refine wpR_v (OpV_move rfl) rfl ?_
        cases hb_12 : (!x_11)
        case true =>
         have h := if_t h hb_12
         try simp only [hb_12]
         refine wpR_gskip (b := true) (t := 44) rfl rfl rfl rfl ?_
         refine wpR_gskip (b := true) (t := 44) rfl rfl rfl rfl ?_
         refine wpR_gskip (b := true) (t := 44) rfl rfl rfl rfl ?_
         refine wpR_v (OpV_pickT rfl rfl) rfl ?_
         refine wpR_v (OpV_move rfl) rfl ?_
         refine wpR_gskip (b := true) (t := 49) rfl rfl rfl rfl ?_
         refine wpR_gskip (b := true) (t := 49) rfl rfl rfl rfl ?_
         refine wpR_gskip (b := true) (t := 49) rfl rfl rfl rfl ?_
         refine wpR_gskip (b := true) (t := 49) rfl rfl rfl rfl ?_
         refine wpR_gskip (b := true) (t := 49) rfl rfl rfl rfl ?_
         refine wpR_v (OpV_pickT rfl rfl) rfl ?_
         refine wpR_nil ?_
         refine QE_then_n ?_
         exact wpC_le _ (by exact ⟨rfl, rfl, trivial⟩) (hK_17 true _ _ ⟨rfl, (hS.pick [] (by decide) rfl)⟩ h)
        case false =>
         have h := if_f h hb_12
         try simp only [hb_12]
         refine wpR_gv (t := 44) rfl rfl (OpV_move rfl) rfl ?_
         obtain ⟨x_13, hx_13, h⟩ := obind_some h
         refine wpR_gcall (t := 44) rfl rfl (by kernel_rfl) rfl (c_cbor_Shaped _ x_3.1 v_4  (hT.now hS.fr) (hS.ro 1 rfl).rp _ hx_13) rfl ?_
         rintro _ w ⟨rfl, hS1⟩
         have hS := hS.call hS1
         simp only [List.cons_append, List.nil_append] at hS
         refine wpR_gv (t := 44) rfl rfl (OpV_un rfl (u_not x_13)) rfl ?_
         refine wpR_v (OpV_pickF rfl rfl) rfl ?_
         refine wpR_v (OpV_move rfl) rfl ?_
         cases hb_14 : (!x_13)
         case true =>
          have h := if_t h hb_14
          try simp only [hb_14]
          refine wpR_gskip (b := true) (t := 49) rfl rfl rfl rfl ?_
          refine wpR_gskip (b := true) (t := 49) rfl rfl rfl rfl ?_
          refine wpR_gskip (b := true) (t := 49) rfl rfl rfl rfl ?_
          refine wpR_gskip (b := true) (t := 49) rfl rfl rfl rfl ?_
          refine wpR_gskip (b := true) (t := 49) rfl rfl rfl rfl ?_
          refine wpR_v (OpV_pickT rfl rfl) rfl ?_
          refine wpR_nil ?_
          refine QE_then_n ?_
          exact wpC_le _ (by exact ⟨rfl, rfl, trivial⟩) (hK_17 true _ _ ⟨rfl, (hS.pick [] (by decide) rfl)⟩ h)
         case false =>
          have h := if_f h hb_14
          try simp only [hb_14]
          refine wpR_gv (t := 49) rfl rfl (OpV_move rfl) rfl ?_
          obtain ⟨x_15, hx_15, h⟩ := obind_some h
          refine wpR_gcall (t := 49) rfl rfl (by kernel_rfl) rfl (c_cbor_Behind _ x_3.1 0 v_4  (hT.now hS.fr) (hS.ro 1 rfl).rp _ hx_15) rfl ?_
          rintro _ w ⟨rfl, hS1⟩
          have hS := hS.call hS1
          simp only [List.cons_append, List.nil_append] at hS
          refine wpR_gv (t := 49) rfl rfl (OpV_move rfl) rfl ?_
          refine wpR_gv (t := 49) rfl rfl (OpV_len Tryd.underlying22 rfl (hS.ro 1 rfl)) rfl ?_
          refine wpR_gv (t := 49) rfl rfl (OpV_bin rfl rfl (b_ineq _ x_15 (x_3.1.length : Int))) rfl ?_
          refine wpR_v (OpV_pickF rfl rfl) rfl ?_
          refine wpR_nil ?_
          refine QE_then_n ?_
          exact wpC_le _ (by exact ⟨rfl, rfl, trivial⟩) (hK_17 (x_15 != (x_3.1.length : Int)) _ _ ⟨rfl, (hS.pick [] (by decide) rfl)⟩ h)
    ·have h := if_f h hb_24
     refine seq_join (r := r) (fun (g : Bool) L w => L = [(1, va1), (68, vB g)] ∧ St [] w0 w []) (F.law30_CborBack_K3 a1) ?_ ?_
     ·rintro x_21 L w hJ h
      try dsimp only at hJ
      obtain ⟨rfl, hS⟩ := hJ
      unfold F.law30_CborBack_K3 at h
      refine wpC_cond rfl (fun hb_23 => ?_) (fun hb_23 => ?_)
      ·have h := if_t h hb_23
       refine wpC_seq ?_
       refine wpC_region ?_
       refine wpR_v (OpV_assign rfl) rfl ?_
       refine wpR_nil ?_
       refine QE_then_n ?_
       refine wpC_ret ?_
       refine QE_then_r ?_
       cases h
       exact QE_ret1 rfl rfl ⟨rfl, hS⟩
      ·have h := if_f h hb_23
       refine wpC_skip ?_
       refine QE_then_n ?_
       exact wpC_le _ (by exact ⟨rfl, trivial⟩) (hK_25 () _ _ ⟨rfl, hS⟩ h)
     ·intro hK_22
      refine wpC_region ?_
      refine wpR_v (OpV_move rfl) rfl ?_
      refine wpR_v (OpV_len Tryd.underlying22 rfl (hS.ro 0 rfl)) rfl ?_
      refine wpR_v (OpV_bin rfl rfl (b_ineq _ (x_3.1.length : Int) 0)) rfl ?_
      refine wpR_v (OpV_move rfl) rfl ?_
      cases hb_19 : ((x_3.1.length : Int) != 0)
      case true =>
       have h := if_t h hb_19
       try simp only [hb_19]
       refine wpR_gskip (b := true) (t := 59) rfl rfl rfl rfl ?_
       refine wpR_gskip (b := true) (t := 59) rfl rfl rfl rfl ?_
       refine wpR_v (OpV_pickT rfl rfl) rfl ?_
       refine wpR_v (OpV_move rfl) rfl ?_
       refine wpR_gskip (b := true) (t := 63) rfl rfl rfl rfl ?_
       refine wpR_gskip (b := true) (t := 63) rfl rfl rfl rfl ?_
       refine wpR_gskip (b := true) (t := 63) rfl rfl rfl rfl ?_
       refine wpR_gskip (b := true) (t := 63) rfl rfl rfl rfl ?_
       refine wpR_v (OpV_pickT rfl rfl) rfl ?_
       refine wpR_nil ?_
       refine QE_then_n ?_
       exact wpC_le _ (by exact ⟨rfl, rfl, trivial⟩) (hK_22 true _ _ ⟨rfl, (hS.pick [] (by decide) rfl)⟩ h)
      case false =>
       have h := if_f h hb_19
       try simp only [hb_19]
       refine wpR_gv (t := 59) rfl rfl (OpV_move rfl) rfl ?_
       refine wpR_gv (t := 59) rfl rfl (OpV_bin rfl rfl (b_ilss _ x_3.2.2 0)) rfl ?_
       refine wpR_v (OpV_pickF rfl rfl) rfl ?_
       refine wpR_v (OpV_move rfl) rfl ?_
       cases hb_20 : (decide (x_3.2.2 < 0))
       case true =>
        have h := if_t h hb_20
        try simp only [hb_20]
        refine wpR_gskip (b := true) (t := 63) rfl rfl rfl rfl ?_
        refine wpR_gskip (b := true) (t := 63) rfl rfl rfl rfl ?_
        refine wpR_gskip (b := true) (t := 63) rfl rfl rfl rfl ?_
        refine wpR_gskip (b := true) (t := 63) rfl rfl rfl rfl ?_
        refine wpR_v (OpV_pickT rfl rfl) rfl ?_
        refine wpR_nil ?_
        refine QE_then_n ?_
        exact wpC_le _ (by exact ⟨rfl, rfl, trivial⟩) (hK_22 true _ _ ⟨rfl, (hS.pick [] (by decide) rfl)⟩ h)
       case false =>
        have h := if_f h hb_20
        try simp only [hb_20]
        refine wpR_gv (t := 63) rfl rfl (OpV_move rfl) rfl ?_
        refine wpR_gv (t := 63) rfl rfl (OpV_move rfl) rfl ?_
        refine wpR_gv (t := 63) rfl rfl (OpV_len Tryd.underlying25 rfl (ha0.now hS.fr)) rfl ?_
        refine wpR_gv (t := 63) rfl rfl (OpV_bin rfl rfl (b_igtr _ x_3.2.2 (a0.length : Int))) rfl ?_
        refine wpR_v (OpV_pickF rfl rfl) rfl ?_
        refine wpR_nil ?_
        refine QE_then_n ?_
        exact wpC_le _ (by exact ⟨rfl, rfl, trivial⟩) (hK_22 (decide ((a0.length : Int) < x_3.2.2)) _ _ ⟨rfl, (hS.pick [] (by decide) rfl)⟩ h)
end Go.Proofs
