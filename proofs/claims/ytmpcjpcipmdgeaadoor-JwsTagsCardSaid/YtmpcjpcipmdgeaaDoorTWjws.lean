import Derived.Test.YtmpcjpcipmdgeaaDoorTW0
import Derived.Test.YtmpcjpcipmdgeaaDoorGkFjws
import Derived.Test.YtmpcjpcipmdgeaaDoorTWhmac
import Derived.Test.YtmpcjpcipmdgeaaDoorTWshab
set_option linter.unusedVariables false
set_option linter.unusedSimpArgs false
set_option linter.unusedVariables false
set_option maxRecDepth 4000
namespace Go.Proofs
open Go Go.RowKit Go.Gk
theorem c_jws_kind (w0 : World) (a0 : Int)   (r : Int × Int × Int)
  (h : F.jws_kind a0 = some r) : Calls Tryd.prog 10 #[vI a0] w0 (Ret fun v w => v = .tuple #[vI r.1, vI r.2.1, vI r.2.2] ∧ St [] w0 w []) := by
 refine calls_at 33 Tryd.func10 rfl rfl rfl ?_
 have hS := St.start w0
 refine wpC_le [(0, vI a0)] ⟨rfl, trivial⟩ ?_
 unfold F.jws_kind at h
 refine wpC_seq (wpC_region (wpR_run 3 rfl ?_))
 refine wpR_nil (QE_then_n (wpC_seq (wpC_seq (wpC_region (wpR_run 1 rfl ?_)))))
 refine wpR_nil (QE_then_n (wpC_block ?_))
 refine seq_join (r := r) (fun (g : Bool) L w => L = [(0, vI a0), (5, vI a0), (6, vB g)] ∧ St [] w0 w []) (F.jws_kind_K1 a0) ?_ ?_
 rotate_left
 ·intro hK_4
  refine wpC_seq (wpC_region (wpR_run 2 rfl ?_))
  refine wpR_nil (QE_then_n ?_)
  refine wpC_cond rfl (fun hb_2 => ?_) (fun hb_2 => ?_)
  ·have h := if_t h hb_2
   refine wpC_skip (QE_then_n ?_)
   exact wpC_le _ (by exact ⟨rfl, rfl, rfl, trivial⟩) (hK_4 (a0 == 1) _ _ ⟨rfl, hS⟩ h)
  have h := if_f h hb_2
  refine wpC_seq (wpC_region (wpR_run 2 rfl ?_))
  refine wpR_nil (QE_then_n ?_)
  refine wpC_cond rfl (fun hb_1 => ?_) (fun hb_1 => ?_)
  ·have h := if_t h hb_1
   refine wpC_skip (QE_then_n ?_)
   exact wpC_le _ (by exact ⟨rfl, rfl, rfl, trivial⟩) (hK_4 (a0 == 2) _ _ ⟨rfl, hS⟩ h)
  have h := if_f h hb_1
  refine wpC_region (wpR_run 2 rfl ?_)
  refine wpR_nil (QE_then_n ?_)
  exact wpC_le _ (by exact ⟨rfl, rfl, rfl, trivial⟩) (hK_4 (a0 == 3) _ _ ⟨rfl, hS⟩ h)
 rintro x_3 L w hJ h
 try dsimp only at hJ
 obtain ⟨rfl, hS⟩ := hJ
 unfold F.jws_kind_K1 at h
 refine wpC_cond rfl (fun hb_18 => ?_) (fun hb_18 => ?_)
 ·have h := if_t h hb_18
  refine wpC_seq (wpC_region (wpR_run 6 rfl ?_))
  refine wpR_nil (QE_then_n (wpC_ret (QE_blk_r ?_)))
  refine QE_then_r ?_
  cases h
  exact QE_ret3 rfl rfl rfl rfl ⟨rfl, hS⟩
 have h := if_f h hb_18
 refine seq_join (r := r) (fun (g : Bool) L w => L = [(0, vI a0), (5, vI a0), (13, vB g)] ∧ St [] w0 w []) (F.jws_kind_K2 a0) ?_ ?_
 rotate_left
 ·intro hK_8
  refine wpC_seq (wpC_region (wpR_run 2 rfl ?_))
  refine wpR_nil (QE_then_n ?_)
  refine wpC_cond rfl (fun hb_6 => ?_) (fun hb_6 => ?_)
  ·have h := if_t h hb_6
   refine wpC_skip (QE_then_n ?_)
   exact wpC_le _ (by exact ⟨rfl, rfl, rfl, trivial⟩) (hK_8 (a0 == 4) _ _ ⟨rfl, hS⟩ h)
  have h := if_f h hb_6
  refine wpC_seq (wpC_region (wpR_run 2 rfl ?_))
  refine wpR_nil (QE_then_n ?_)
  refine wpC_cond rfl (fun hb_5 => ?_) (fun hb_5 => ?_)
  ·have h := if_t h hb_5
   refine wpC_skip (QE_then_n ?_)
   exact wpC_le _ (by exact ⟨rfl, rfl, rfl, trivial⟩) (hK_8 (a0 == 5) _ _ ⟨rfl, hS⟩ h)
  have h := if_f h hb_5
  refine wpC_region (wpR_run 2 rfl ?_)
  refine wpR_nil (QE_then_n ?_)
  exact wpC_le _ (by exact ⟨rfl, rfl, rfl, trivial⟩) (hK_8 (a0 == 6) _ _ ⟨rfl, hS⟩ h)
 rintro x_7 L w hJ h
 try dsimp only at hJ
 obtain ⟨rfl, hS⟩ := hJ
 unfold F.jws_kind_K2 at h
 refine wpC_cond rfl (fun hb_17 => ?_) (fun hb_17 => ?_)
 ·have h := if_t h hb_17
  refine wpC_seq (wpC_region (wpR_run 6 rfl ?_))
  refine wpR_nil (QE_then_n (wpC_ret (QE_blk_r ?_)))
  refine QE_then_r ?_
  cases h
  exact QE_ret3 rfl rfl rfl rfl ⟨rfl, hS⟩
 have h := if_f h hb_17
 refine seq_join (r := r) (fun (g : Bool) L w => L = [(0, vI a0), (5, vI a0), (20, vB g)] ∧ St [] w0 w []) (F.jws_kind_K3 a0) ?_ ?_
 rotate_left
 ·intro hK_12
  refine wpC_seq (wpC_region (wpR_run 2 rfl ?_))
  refine wpR_nil (QE_then_n ?_)
  refine wpC_cond rfl (fun hb_10 => ?_) (fun hb_10 => ?_)
  ·have h := if_t h hb_10
   refine wpC_skip (QE_then_n ?_)
   exact wpC_le _ (by exact ⟨rfl, rfl, rfl, trivial⟩) (hK_12 (a0 == 7) _ _ ⟨rfl, hS⟩ h)
  have h := if_f h hb_10
  refine wpC_seq (wpC_region (wpR_run 2 rfl ?_))
  refine wpR_nil (QE_then_n ?_)
  refine wpC_cond rfl (fun hb_9 => ?_) (fun hb_9 => ?_)
  ·have h := if_t h hb_9
   refine wpC_skip (QE_then_n ?_)
   exact wpC_le _ (by exact ⟨rfl, rfl, rfl, trivial⟩) (hK_12 (a0 == 8) _ _ ⟨rfl, hS⟩ h)
  have h := if_f h hb_9
  refine wpC_region (wpR_run 2 rfl ?_)
  refine wpR_nil (QE_then_n ?_)
  exact wpC_le _ (by exact ⟨rfl, rfl, rfl, trivial⟩) (hK_12 (a0 == 9) _ _ ⟨rfl, hS⟩ h)
 rintro x_11 L w hJ h
 try dsimp only at hJ
 obtain ⟨rfl, hS⟩ := hJ
 unfold F.jws_kind_K3 at h
 refine wpC_cond rfl (fun hb_16 => ?_) (fun hb_16 => ?_)
 ·have h := if_t h hb_16
  refine wpC_seq (wpC_region (wpR_run 6 rfl ?_))
  refine wpR_nil (QE_then_n (wpC_ret (QE_blk_r ?_)))
  refine QE_then_r ?_
  cases h
  exact QE_ret3 rfl rfl rfl rfl ⟨rfl, hS⟩
 have h := if_f h hb_16
 refine wpC_seq (wpC_region (wpR_run 2 rfl ?_))
 refine wpR_nil (QE_then_n ?_)
 refine wpC_cond rfl (fun hb_15 => ?_) (fun hb_15 => ?_)
 ·have h := if_t h hb_15
  refine wpC_seq (wpC_region (wpR_run 3 rfl ?_))
  refine wpR_nil (QE_then_n (wpC_ret (QE_blk_r ?_)))
  refine QE_then_r ?_
  cases h
  exact QE_ret3 rfl rfl rfl rfl ⟨rfl, hS⟩
 have h := if_f h hb_15
 refine wpC_seq (wpC_region (wpR_run 2 rfl ?_))
 refine wpR_nil (QE_then_n ?_)
 refine wpC_cond rfl (fun hb_14 => ?_) (fun hb_14 => ?_)
 ·have h := if_t h hb_14
  refine wpC_seq (wpC_region (wpR_run 3 rfl ?_))
  refine wpR_nil (QE_then_n (wpC_ret (QE_blk_r ?_)))
  refine QE_then_r ?_
  cases h
  exact QE_ret3 rfl rfl rfl rfl ⟨rfl, hS⟩
 have h := if_f h hb_14
 refine wpC_seq (wpC_region (wpR_run 2 rfl ?_))
 refine wpR_nil (QE_then_n ?_)
 refine wpC_cond rfl (fun hb_13 => ?_) (fun hb_13 => ?_)
 ·have h := if_t h hb_13
  refine wpC_seq (wpC_region (wpR_run 3 rfl ?_))
  refine wpR_nil (QE_then_n (wpC_ret (QE_blk_r ?_)))
  refine QE_then_r ?_
  cases h
  exact QE_ret3 rfl rfl rfl rfl ⟨rfl, hS⟩
 have h := if_f h hb_13
 refine wpC_skip (QE_blk_n ?_)
 refine QE_then_n (wpC_seq (wpC_region (wpR_run 3 rfl ?_)))
 refine wpR_nil (QE_then_n (wpC_ret ?_))
 cases h
 exact QE_ret3 rfl rfl rfl rfl ⟨rfl, hS⟩
theorem c_jws_Tag (w0 : World) (a0 : Int) (a1 : List UInt8) (a2 : List UInt8) (va1 : Value) (hT : TB [] w0) (ha1 : RP [] w0 e8 va1 a1) (r : List UInt8 × Int)
  (h : F.jws_Tag a0 a1 a2 = some r) : Calls Tryd.prog 5 #[vI a0, va1, vS a2] w0 (Ret fun v w => ∃ u0 : Value, v = .tuple #[u0, vI r.2] ∧ St [] w0 w [own e8 u0 r.1]) := by
 refine calls_at 36 Tryd.func5 rfl rfl rfl ?_
 have hS := St.start w0
 refine wpC_le [(0, vI a0), (1, va1), (2, vS a2)] ⟨rfl, rfl, rfl, trivial⟩ ?_
 unfold F.jws_Tag at h
 refine wpC_seq (wpC_region (wpR_run 2 rfl ?_))
 refine wpR_nil (QE_then_n (wpC_seq (wpC_region (wpR_run 1 rfl ?_))))
 obtain ⟨x_1, hx_1, h⟩ := obind_some h
 refine wpR_call (by kernel_rfl) rfl (c_jws_kind _ a0    _ hx_1) rfl ?_
 rintro _ w ⟨rfl, hS1⟩
 have hS := hS.call hS1
 simp only [List.cons_append, List.nil_append] at hS
 refine wpR_run 7 rfl ?_
 refine wpR_nil (QE_then_n (wpC_seq (wpC_block ?_)))
 refine wpC_seq (wpC_region (wpR_run 3 rfl ?_))
 refine wpR_nil (QE_then_n ?_)
 refine wpC_cond rfl (fun hb_12 => ?_) (fun hb_12 => ?_)
 ·have h := if_t h hb_12
  refine wpC_seq (wpC_region (wpR_run 2 rfl ?_))
  refine wpR_nil (QE_then_n (wpC_ret (QE_blk_r ?_)))
  refine QE_then_r ?_
  cases h
  exact QE_ret2 rfl rfl rfl ⟨.slice none 0 0, rfl, (hS.nil e8).pick [0] (by decide) rfl⟩
 have h := if_f h hb_12
 refine seq_join (r := r) (fun (g : Bool) L w => L = [(1, va1), (2, vS a2), (9, vI x_1.2.1), (20, vB g)] ∧ St [] w0 w []) (F.jws_Tag_K1 a1 a2 x_1) ?_ ?_
 rotate_left
 ·intro hK_5
  refine wpC_region (wpR_run 1 rfl ?_)
  refine wpR_v (OpV_len Tryd.underlying23 rfl (ha1.now hS.fr)) rfl ?_
  refine wpR_run 1 rfl ?_
  obtain ⟨x_2, hx_2, h⟩ := obind_some h
  refine wpR_call (by kernel_rfl) rfl (c_sha_Size _ x_1.2.1    _ hx_2) rfl ?_
  rintro _ w ⟨rfl, hS1⟩
  have hS := hS.call hS1
  simp only [List.cons_append, List.nil_append] at hS
  refine wpR_run 2 rfl ?_
  cases hb_3 : (decide ((a1.length : Int) < x_2))
  case true =>
   have h := if_t h hb_3
   try simp only [hb_3]
   refine wpR_run 5 rfl ?_
   refine wpR_nil (QE_then_n ?_)
   exact wpC_le _ (by exact ⟨rfl, rfl, rfl, rfl, trivial⟩) (hK_5 true _ _ ⟨rfl, hS⟩ h)
  case false =>
   have h := if_f h hb_3
   try simp only [hb_3]
   refine wpR_run 1 rfl ?_
   refine wpR_gv (t := 26) rfl rfl (OpV_len Tryd.underlying23 rfl (ha1.now hS.fr)) rfl ?_
   refine wpR_run 3 rfl ?_
   refine wpR_nil (QE_then_n ?_)
   exact wpC_le _ (by exact ⟨rfl, rfl, rfl, rfl, trivial⟩) (hK_5 (decide ((4096 : Int) < (a1.length : Int))) _ _ ⟨rfl, hS⟩ h)
 rintro x_4 L w hJ h
 try dsimp only at hJ
 obtain ⟨rfl, hS⟩ := hJ
 unfold F.jws_Tag_K1 at h
 refine wpC_cond rfl (fun hb_11 => ?_) (fun hb_11 => ?_)
 ·have h := if_t h hb_11
  refine wpC_seq (wpC_region (wpR_run 2 rfl ?_))
  refine wpR_nil (QE_then_n (wpC_ret (QE_blk_r ?_)))
  refine QE_then_r ?_
  cases h
  exact QE_ret2 rfl rfl rfl ⟨.slice none 0 0, rfl, (hS.nil e8).pick [0] (by decide) rfl⟩
 have h := if_f h hb_11
 refine wpC_skip (QE_blk_n ?_)
 refine QE_then_n (wpC_seq (wpC_region (wpR_run 3 rfl ?_)))
 refine wpR_x (OpX_bytes Tryd.underlying9 Tryd.underlying23 Tryd.underlying5 rfl hS) rfl ?_
 rintro v_6 w hS
 obtain ⟨x_8, hx_8, h⟩ := obind_some h
 refine wpR_call (by kernel_rfl) rfl (c_hmac_Sum _ x_1.2.1 a1 a2 va1 v_6  (hT.now hS.fr) (ha1.now hS.fr).rp (hS.rro 0 rfl).rp _ hx_8) rfl ?_
 rintro v_9 w hS1
 have hS := hS.call hS1
 simp only [List.cons_append, List.nil_append] at hS
 refine wpR_run 2 rfl ?_
 refine wpR_nil (QE_then_n (wpC_ret ?_))
 cases h
 exact QE_ret2 rfl rfl rfl ⟨v_9, rfl, hS.pick [0] (by decide) rfl⟩
end Go.Proofs
