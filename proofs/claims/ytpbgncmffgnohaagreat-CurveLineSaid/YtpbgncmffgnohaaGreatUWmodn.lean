import Derived.Test.YtpbgncmffgnohaaGreatUW0
import Derived.Test.YtpbgncmffgnohaaGreatGkFmodn
import Derived.Test.YtpbgncmffgnohaaGreatUWnatb
set_option linter.unusedVariables false
set_option linter.unusedSimpArgs false
set_option linter.unusedVariables false
set_option maxRecDepth 4000
namespace Go.Proofs
open Go Go.RowKit Go.Gk
theorem c_modn_size (w0 : World) (a0 : List UInt32) (va0 : Value) (ha0 : RP [] w0 e32 va0 a0) (r : Int)
  (h : F.modn_size a0 = some r) : Calls Tryz.prog 122 #[va0] w0 (Ret fun v w => v = vI r ∧ St [] w0 w []) := by
 refine kz 7 Tryz.func122 rfl rfl rfl ?_
 have hS := St.start w0
 refine kn [(0, va0)] ⟨rfl, trivial⟩ ?_
 unfold F.modn_size at h
 refine ke (kc (kb 1 rfl ?_))
 refine kf (ka (ke (kc (kb 1 rfl ?_))))
 obtain ⟨x_1, hx_1, h⟩ := kg h
 refine kk (by kernel_rfl) rfl (c_nat_Bits _ a0 va0  (ha0.now hS.fr).rp _ hx_1) rfl ?_
 rintro _ w ⟨rfl, hS1⟩
 have hS := hS.call hS1
 refine kb 1 rfl ?_
 refine ki (kt rfl rfl (b_iquo _ (wI (x_1 + 31)) 32 (by decide))) rfl ?_
 refine kb 1 rfl ?_
 refine kf (ka (kq ?_))
 cases h
 exact ky rfl rfl ⟨rfl, hS⟩
theorem c_modn_wrong (w0 : World) (a0 : List (List UInt32)) (va0 : Value) (s0 : List SV) (ha0 : RP [] w0 eV va0 s0) (hl0 : AllRP [] w0 e32 s0 a0) (r : Int)
  (h : F.modn_wrong a0 = some r) : Calls Tryz.prog 95 #[va0] w0 (Ret fun v w => v = vI r ∧ St [] w0 w []) := by
 refine kz 23 Tryz.func95 rfl rfl rfl ?_
 have hS := St.start w0
 refine kn [(0, va0)] ⟨rfl, trivial⟩ ?_
 unfold F.modn_wrong at h
 refine ke (kc (kb 1 rfl ?_))
 refine kf (ka (ke (ke (kc (kb 1 rfl ?_)))))
 refine ki (L_len Tryz.underlying121 rfl (ha0.now hS.fr) hl0.len) rfl (kb 1 rfl ?_)
 refine kf (ka (kw ?_))
 refine kn [(0, va0), (5, va0), (6, vI (a0.length : Int)), (7, vI 0)] ⟨rfl, rfl, rfl, rfl, trivial⟩ ?_
 refine kS (F.modn_wrong_L1 a0) (fun (s : Int) L w => L = [(0, va0), (5, va0), (6, vI (a0.length : Int)), (7, vI s)] ∧ St [] w0 w []) ?_ 0 ⟨rfl, hS⟩ h
 rintro k_14 x_1 L w q_4 hI ih_3 h hk_2
 try dsimp only at hI
 obtain ⟨rfl, hS⟩ := hI
 unfold F.modn_wrong_L1 at h
 refine ke (kc (kb 1 rfl ?_))
 refine kf (ka (ke ?_))
 refine ko rfl (fun hb_13 => ?_) (fun hb_13 => ?_)
 ·have h := if_t h hb_13
  refine kr (ka (ke (kw ?_)))
  refine ke (kc ?_)
  obtain ⟨x_5, hx_5, h⟩ := kg h
  obtain ⟨sv_6, hsv_6, hRsv_6⟩ := hl0.get hx_5
  refine ki (G_ix Tryz.underlying121 ti25 rfl rfl (ha0.now hS.fr) hsv_6) rfl (ki (G_load Tryz.underlying25 rfl rfl (ha0.now hS.fr) hsv_6 rfl) rfl (kb 1 rfl ?_))
  refine kf (ka (ke (kc (kb 1 rfl ?_))))
  obtain ⟨x_7, hx_7, h⟩ := kg h
  refine kk (by kernel_rfl) rfl (c_modn_size _ x_5 sv_6.v  (hRsv_6.now hS.fr).rp _ hx_7) rfl ?_
  rintro _ w ⟨rfl, hS1⟩
  have hS := hS.call hS1
  refine kb 1 rfl ?_
  refine kf (ka ?_)
  refine ko rfl (fun hb_8 => ?_) (fun hb_8 => ?_)
  ·have h := if_t h hb_8
   refine ke (kc (kb 1 rfl ?_))
   refine kf (ka (kq (QE_blk_r ?_)))
   refine kv (kv ?_)
   have h := kG h hk_2
   refine QE_blk_r ?_
   refine kv ?_
   cases h
   exact ky rfl rfl ⟨rfl, hS⟩
  have h := if_f h hb_8
  refine kr (kK ?_)
  refine ka (kc (kb 2 rfl ?_))
  refine kf ?_
  exact QE_rnd (wpN_le _ (by exact ⟨rfl, rfl, rfl, rfl, trivial⟩) (ih_3 (wI (x_1 + 1)) _ _ ⟨rfl, hS⟩ (kL h hk_2)))
 have h := if_f h hb_13
 refine kQ ?_
 refine kx (kx ?_)
 have h := kG h hk_2
 refine kR ?_
 refine ka (ke (ke (kc (kb 2 rfl ?_))))
 refine ki (L_len Tryz.underlying121 rfl (ha0.now hS.fr) hl0.len) rfl (kb 1 rfl ?_)
 obtain ⟨x_9, hx_9, h⟩ := kg h
 obtain ⟨sv_10, hsv_10, hRsv_10⟩ := hl0.get hx_9
 refine ki (G_ix Tryz.underlying121 ti25 rfl rfl (ha0.now hS.fr) hsv_10) rfl (ki (G_load Tryz.underlying25 rfl rfl (ha0.now hS.fr) hsv_10 rfl) rfl ?_)
 obtain ⟨x_11, hx_11, h⟩ := kg h
 refine kk (by kernel_rfl) rfl (c_nat_Bits _ x_9 sv_10.v  (hRsv_10.now hS.fr).rp _ hx_11) rfl ?_
 rintro _ w ⟨rfl, hS1⟩
 have hS := hS.call hS1
 refine kb 1 rfl ?_
 refine kf (ka ?_)
 refine ko rfl (fun hb_12 => ?_) (fun hb_12 => ?_)
 ·have h := if_t h hb_12
  refine ke (kc (kb 1 rfl ?_))
  refine kf (ka (kq (kv ?_)))
  cases h
  exact ky rfl rfl ⟨rfl, hS⟩
 have h := if_f h hb_12
 refine kr (ka (ke (kc (kb 1 rfl ?_))))
 refine kf (ka (kq ?_))
 cases h
 exact ky rfl rfl ⟨rfl, hS⟩
theorem c_modn_rest (w0 : World) (a0 : List UInt32) (a1 : List UInt32) (va0 : Value) (va1 : Value) (ha0 : RP [] w0 e32 va0 a0) (ha1 : RP [] w0 e32 va1 a1) (r : List UInt32)
  (h : F.modn_rest a0 a1 = some r) : Calls Tryz.prog 97 #[va0, va1] w0 (Ret fun v w => St [] w0 w [own e32 v r]) := by
 refine kz 16 Tryz.func97 rfl rfl rfl ?_
 have hS := St.start w0
 refine kn [(0, va0), (1, va1)] ⟨rfl, rfl, trivial⟩ ?_
 unfold F.modn_rest at h
 refine ke (kc (kb 1 rfl ?_))
 refine kf (ka (ke (kc (kb 2 rfl ?_))))
 obtain ⟨x_1, hx_1, h⟩ := kg h
 refine kk (by kernel_rfl) rfl (c_nat_DivMod _ a0 a1 va0 va1  (ha0.now hS.fr).rp (ha1.now hS.fr).rp _ hx_1) rfl ?_
 rintro _ w ⟨v_2, v_4, rfl, hS1⟩
 have hS := hS.call hS1
 refine kb 7 rfl ?_
 refine kf (ka (ke (kc (kb 2 rfl ?_))))
 refine kf (ka (kq ?_))
 cases h
 exact ky rfl rfl (hS.pick [1] (by decide) rfl)
theorem c_modn_minus (w0 : World) (a0 : List UInt32) (a1 : List UInt32) (a2 : List UInt32) (va0 : Value) (va1 : Value) (va2 : Value) (ha0 : RP [] w0 e32 va0 a0) (ha1 : RP [] w0 e32 va1 a1) (ha2 : RP [] w0 e32 va2 a2) (r : List UInt32)
  (h : F.modn_minus a0 a1 a2 = some r) : Calls Tryz.prog 96 #[va0, va1, va2] w0 (Ret fun v w => St [] w0 w [own e32 v r]) := by
 refine kz 26 Tryz.func96 rfl rfl rfl ?_
 have hS := St.start w0
 refine kn [(0, va0), (1, va1), (2, va2)] ⟨rfl, rfl, rfl, trivial⟩ ?_
 unfold F.modn_minus at h
 refine ke (kc (kb 1 rfl ?_))
 refine kf (ka (ke (kc (kb 2 rfl ?_))))
 obtain ⟨x_1, hx_1, h⟩ := kg h
 refine kk (by kernel_rfl) rfl (c_nat_Sub _ a0 a1 va0 va1  (ha0.now hS.fr).rp (ha1.now hS.fr).rp _ hx_1) rfl ?_
 rintro _ w ⟨v_2, rfl, hS1⟩
 have hS := hS.call hS1
 refine kb 5 rfl ?_
 refine kf (ka ?_)
 refine kO (r := r) (fun (g : List UInt32) L w => ∃ (v_12 : Value), L = [(7, v_12)] ∧ St [] w0 w [own e32 v_12 g]) (F.modn_minus_K1) ?_ ?_
 rotate_left
 ·intro hK_14
  refine ke (kc (kb 2 rfl ?_))
  refine kf (ka ?_)
  refine ko rfl (fun hb_10 => ?_) (fun hb_10 => ?_)
  ·have h := if_t h hb_10
   refine kc (kb 2 rfl ?_)
   obtain ⟨x_4, hx_4, h⟩ := kg h
   refine kk (by kernel_rfl) rfl (c_nat_Add _ a0 a2 va0 va2  (ha0.now hS.fr).rp (ha2.now hS.fr).rp _ hx_4) rfl ?_
   rintro v_5 w hS1
   have hS := hS.call hS1
   refine kb 1 rfl ?_
   obtain ⟨x_7, hx_7, h⟩ := kg h
   refine kk (by kernel_rfl) rfl (c_nat_Sub _ x_4 a1 v_5 va1  (hS.ro 0 rfl).rp (ha1.now hS.fr).rp _ hx_7) rfl ?_
   rintro _ w ⟨v_8, rfl, hS1⟩
   have hS := hS.call hS1
   refine kb 4 rfl ?_
   refine kf (ka ?_)
   exact kn _ (by exact ⟨rfl, trivial⟩) (hK_14 x_7.1 _ _ ⟨v_8, rfl, (hS.pick [0] (by decide) rfl)⟩ h)
  have h := if_f h hb_10
  refine kr (ka ?_)
  exact kn _ (by exact ⟨rfl, trivial⟩) (hK_14 x_1.1 _ _ ⟨v_2, rfl, hS⟩ h)
 rintro x_11 L w hJ h
 try dsimp only at hJ
 obtain ⟨v_12, rfl, hS⟩ := hJ
 unfold F.modn_minus_K1 at h
 refine ke (kc (kb 2 rfl ?_))
 refine kf (ka (kq ?_))
 cases h
 exact ky rfl rfl (hS.pick [0] (by decide) rfl)
theorem c_modn_Sub (w0 : World) (a0 : List UInt32) (a1 : List UInt32) (a2 : List UInt32) (va0 : Value) (va1 : Value) (va2 : Value) (ha0 : RP [] w0 e32 va0 a0) (ha1 : RP [] w0 e32 va1 a1) (ha2 : RP [] w0 e32 va2 a2) (r : List UInt32 × Int)
  (h : F.modn_Sub a0 a1 a2 = some r) : Calls Tryz.prog 63 #[va0, va1, va2] w0 (Ret fun v w => ∃ u0 : Value, v = .tuple #[u0, vI r.2] ∧ St [] w0 w [own e32 u0 r.1]) := by
 refine kz 25 Tryz.func63 rfl rfl rfl ?_
 have hS := St.start w0
 refine kn [(0, va0), (1, va1), (2, va2)] ⟨rfl, rfl, rfl, trivial⟩ ?_
 unfold F.modn_Sub at h
 refine ke (kc (kb 2 rfl ?_))
 refine kf (ka (ke (ke (kc (kb 3 rfl ?_)))))
 refine kW (OpX_lit (e := eV) (l := ([SV.of va0, SV.of va1, SV.of va2] : List SV)) (vs := [va0, va1, va2]) Tryz.underlying121 ti25 rfl rfl rfl (fl_eVc (ha0.now hS.fr).sv (fl_eVc (ha1.now hS.fr).sv (fl_eVc (ha2.now hS.fr).sv rfl))) (by decide) (by decide) hS) rfl ?_
 rintro v_1 w hS
 obtain ⟨x_3, hx_3, h⟩ := kg h
 refine kk (by kernel_rfl) rfl (c_modn_wrong _ [a0, a1, a2] v_1 [SV.of va0, SV.of va1, SV.of va2] (hS.ro 0 rfl).rp ⟨(ha0.now hS.fr).svrp, (ha1.now hS.fr).svrp, (ha2.now hS.fr).svrp, trivial⟩ _ hx_3) rfl ?_
 rintro _ w ⟨rfl, hS1⟩
 have hS := hS.call hS1
 refine kb 1 rfl ?_
 refine kf (ka (ke (kc (kb 2 rfl ?_))))
 refine kf (ka ?_)
 refine ko rfl (fun hb_13 => ?_) (fun hb_13 => ?_)
 ·have h := if_t h hb_13
  refine ke (kc (kb 3 rfl ?_))
  refine kf (ka (kq (kv ?_)))
  cases h
  exact QE_ret2 rfl rfl rfl ⟨.slice none 0 0, rfl, (hS.nil e32).pick [0] (by decide) rfl⟩
 have h := if_f h hb_13
 refine kr (ka (ke (kc (kb 2 rfl ?_))))
 obtain ⟨x_4, hx_4, h⟩ := kg h
 refine kk (by kernel_rfl) rfl (c_modn_rest _ a0 a2 va0 va2  (ha0.now hS.fr).rp (ha2.now hS.fr).rp _ hx_4) rfl ?_
 rintro v_5 w hS1
 have hS := hS.call hS1
 refine kb 2 rfl ?_
 obtain ⟨x_7, hx_7, h⟩ := kg h
 refine kk (by kernel_rfl) rfl (c_modn_rest _ a1 a2 va1 va2  (ha1.now hS.fr).rp (ha2.now hS.fr).rp _ hx_7) rfl ?_
 rintro v_8 w hS1
 have hS := hS.call hS1
 refine kb 1 rfl ?_
 obtain ⟨x_10, hx_10, h⟩ := kg h
 refine kk (by kernel_rfl) rfl (c_modn_minus _ x_4 x_7 a2 v_5 v_8 va2  (hS.ro 1 rfl).rp (hS.ro 0 rfl).rp (ha2.now hS.fr).rp _ hx_10) rfl ?_
 rintro v_11 w hS1
 have hS := hS.call hS1
 refine kb 2 rfl ?_
 refine kf (ka (kq ?_))
 cases h
 exact QE_ret2 rfl rfl rfl ⟨v_11, rfl, hS.pick [0] (by decide) rfl⟩
theorem c_modn_Add (w0 : World) (a0 : List UInt32) (a1 : List UInt32) (a2 : List UInt32) (va0 : Value) (va1 : Value) (va2 : Value) (ha0 : RP [] w0 e32 va0 a0) (ha1 : RP [] w0 e32 va1 a1) (ha2 : RP [] w0 e32 va2 a2) (r : List UInt32 × Int)
  (h : F.modn_Add a0 a1 a2 = some r) : Calls Tryz.prog 64 #[va0, va1, va2] w0 (Ret fun v w => ∃ u0 : Value, v = .tuple #[u0, vI r.2] ∧ St [] w0 w [own e32 u0 r.1]) := by
 refine kz 22 Tryz.func64 rfl rfl rfl ?_
 have hS := St.start w0
 refine kn [(0, va0), (1, va1), (2, va2)] ⟨rfl, rfl, rfl, trivial⟩ ?_
 unfold F.modn_Add at h
 refine ke (kc (kb 2 rfl ?_))
 refine kf (ka (ke (ke (kc (kb 3 rfl ?_)))))
 refine kW (OpX_lit (e := eV) (l := ([SV.of va0, SV.of va1, SV.of va2] : List SV)) (vs := [va0, va1, va2]) Tryz.underlying121 ti25 rfl rfl rfl (fl_eVc (ha0.now hS.fr).sv (fl_eVc (ha1.now hS.fr).sv (fl_eVc (ha2.now hS.fr).sv rfl))) (by decide) (by decide) hS) rfl ?_
 rintro v_1 w hS
 obtain ⟨x_3, hx_3, h⟩ := kg h
 refine kk (by kernel_rfl) rfl (c_modn_wrong _ [a0, a1, a2] v_1 [SV.of va0, SV.of va1, SV.of va2] (hS.ro 0 rfl).rp ⟨(ha0.now hS.fr).svrp, (ha1.now hS.fr).svrp, (ha2.now hS.fr).svrp, trivial⟩ _ hx_3) rfl ?_
 rintro _ w ⟨rfl, hS1⟩
 have hS := hS.call hS1
 refine kb 1 rfl ?_
 refine kf (ka (ke (kc (kb 2 rfl ?_))))
 refine kf (ka ?_)
 refine ko rfl (fun hb_10 => ?_) (fun hb_10 => ?_)
 ·have h := if_t h hb_10
  refine ke (kc (kb 3 rfl ?_))
  refine kf (ka (kq (kv ?_)))
  cases h
  exact QE_ret2 rfl rfl rfl ⟨.slice none 0 0, rfl, (hS.nil e32).pick [0] (by decide) rfl⟩
 have h := if_f h hb_10
 refine kr (ka (ke (kc (kb 2 rfl ?_))))
 obtain ⟨x_4, hx_4, h⟩ := kg h
 refine kk (by kernel_rfl) rfl (c_nat_Add _ a0 a1 va0 va1  (ha0.now hS.fr).rp (ha1.now hS.fr).rp _ hx_4) rfl ?_
 rintro v_5 w hS1
 have hS := hS.call hS1
 refine kb 1 rfl ?_
 obtain ⟨x_7, hx_7, h⟩ := kg h
 refine kk (by kernel_rfl) rfl (c_modn_rest _ x_4 a2 v_5 va2  (hS.ro 0 rfl).rp (ha2.now hS.fr).rp _ hx_7) rfl ?_
 rintro v_8 w hS1
 have hS := hS.call hS1
 refine kb 2 rfl ?_
 refine kf (ka (kq ?_))
 cases h
 exact QE_ret2 rfl rfl rfl ⟨v_8, rfl, hS.pick [0] (by decide) rfl⟩
theorem c_modn_Mul (w0 : World) (a0 : List UInt32) (a1 : List UInt32) (a2 : List UInt32) (va0 : Value) (va1 : Value) (va2 : Value) (ha0 : RP [] w0 e32 va0 a0) (ha1 : RP [] w0 e32 va1 a1) (ha2 : RP [] w0 e32 va2 a2) (r : List UInt32 × Int)
  (h : F.modn_Mul a0 a1 a2 = some r) : Calls Tryz.prog 65 #[va0, va1, va2] w0 (Ret fun v w => ∃ u0 : Value, v = .tuple #[u0, vI r.2] ∧ St [] w0 w [own e32 u0 r.1]) := by
 refine kz 22 Tryz.func65 rfl rfl rfl ?_
 have hS := St.start w0
 refine kn [(0, va0), (1, va1), (2, va2)] ⟨rfl, rfl, rfl, trivial⟩ ?_
 unfold F.modn_Mul at h
 refine ke (kc (kb 2 rfl ?_))
 refine kf (ka (ke (ke (kc (kb 3 rfl ?_)))))
 refine kW (OpX_lit (e := eV) (l := ([SV.of va0, SV.of va1, SV.of va2] : List SV)) (vs := [va0, va1, va2]) Tryz.underlying121 ti25 rfl rfl rfl (fl_eVc (ha0.now hS.fr).sv (fl_eVc (ha1.now hS.fr).sv (fl_eVc (ha2.now hS.fr).sv rfl))) (by decide) (by decide) hS) rfl ?_
 rintro v_1 w hS
 obtain ⟨x_3, hx_3, h⟩ := kg h
 refine kk (by kernel_rfl) rfl (c_modn_wrong _ [a0, a1, a2] v_1 [SV.of va0, SV.of va1, SV.of va2] (hS.ro 0 rfl).rp ⟨(ha0.now hS.fr).svrp, (ha1.now hS.fr).svrp, (ha2.now hS.fr).svrp, trivial⟩ _ hx_3) rfl ?_
 rintro _ w ⟨rfl, hS1⟩
 have hS := hS.call hS1
 refine kb 1 rfl ?_
 refine kf (ka (ke (kc (kb 2 rfl ?_))))
 refine kf (ka ?_)
 refine ko rfl (fun hb_10 => ?_) (fun hb_10 => ?_)
 ·have h := if_t h hb_10
  refine ke (kc (kb 3 rfl ?_))
  refine kf (ka (kq (kv ?_)))
  cases h
  exact QE_ret2 rfl rfl rfl ⟨.slice none 0 0, rfl, (hS.nil e32).pick [0] (by decide) rfl⟩
 have h := if_f h hb_10
 refine kr (ka (ke (kc (kb 2 rfl ?_))))
 obtain ⟨x_4, hx_4, h⟩ := kg h
 refine kk (by kernel_rfl) rfl (c_nat_Mul _ a0 a1 va0 va1  (ha0.now hS.fr).rp (ha1.now hS.fr).rp _ hx_4) rfl ?_
 rintro v_5 w hS1
 have hS := hS.call hS1
 refine kb 1 rfl ?_
 obtain ⟨x_7, hx_7, h⟩ := kg h
 refine kk (by kernel_rfl) rfl (c_modn_rest _ x_4 a2 v_5 va2  (hS.ro 0 rfl).rp (ha2.now hS.fr).rp _ hx_7) rfl ?_
 rintro v_8 w hS1
 have hS := hS.call hS1
 refine kb 2 rfl ?_
 refine kf (ka (kq ?_))
 cases h
 exact QE_ret2 rfl rfl rfl ⟨v_8, rfl, hS.pick [0] (by decide) rfl⟩
end Go.Proofs
