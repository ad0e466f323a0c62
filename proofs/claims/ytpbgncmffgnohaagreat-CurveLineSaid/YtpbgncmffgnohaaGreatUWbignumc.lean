import Derived.Test.YtpbgncmffgnohaaGreatUW0
import Derived.Test.YtpbgncmffgnohaaGreatGkFbignum
import Derived.Test.YtpbgncmffgnohaaGreatUWbignumb
set_option linter.unusedVariables false
set_option linter.unusedSimpArgs false
set_option linter.unusedVariables false
set_option maxRecDepth 4000
namespace Go.Proofs
open Go Go.RowKit Go.Gk
theorem c_bignum_Int_Cmp (w0 : World) (a0_0 : Bool) (a0_1 : List UInt32) (a1_0 : Bool) (a1_1 : List UInt32) (va0_1 : Value) (va1_1 : Value) (ba0 : Nat) (ba1 : Nat) (ha0_1 : RP [] w0 e32 va0_1 a0_1) (hBa0 : RB [] w0 ba0 [vB a0_0, va0_1]) (ha1_1 : RP [] w0 e32 va1_1 a1_1) (hBa1 : RB [] w0 ba1 [vB a1_0, va1_1]) (r : Int)
  (h : F.bignum_Int_Cmp a0_0 a0_1 a1_0 a1_1 = some r) : Calls Tryz.prog 72 #[pB ba0 0, pB ba1 0] w0 (Ret fun v w => v = vI r ∧ St [] w0 w []) := by
 refine kz 35 Tryz.func72 rfl rfl rfl ?_
 have hS := St.start w0
 refine kn [(0, pB ba0 0), (1, pB ba1 0)] ⟨rfl, rfl, trivial⟩ ?_
 unfold F.bignum_Int_Cmp at h
 refine ke (kc (kb 1 rfl ?_))
 refine kf (ka (ke (ke ?_)))
 refine kN (fun w' => St [] w0 w' []) (fun _ => true) hmix (fun _ _ _ hf => hf.2) (fun _ _ hf => hf) (by kernel_rfl) ?_
 have hS := hS.drew
 show lxE _ _ _ _ _ _ _ [0, 1, 2, 3, 4, 5, 6, 7, 8] _ _
 refine kj hS rfl rfl (fun w hF => km rfl) rfl (kj hS rfl rfl (fun w hF => kJ rfl) rfl (kj hS rfl rfl (fun w hF => kl (k := 0) Tryz.underlying62 rfl rfl nz4 rfl) rfl (kj hS rfl rfl (fun w hF => ku Tryz.underlying4 rfl rfl (hBa0.cell hF.fr 0 rfl)) rfl (kj hS rfl rfl (fun w hF => km rfl) rfl (kj hS rfl rfl (fun w hF => kJ rfl) rfl (kj hS rfl rfl (fun w hF => kl (k := 0) Tryz.underlying62 rfl rfl nz4 rfl) rfl (kj hS rfl rfl (fun w hF => ku Tryz.underlying4 rfl rfl (hBa1.cell hF.fr 0 rfl)) rfl (kj hS rfl rfl (fun w hF => kt rfl rfl (b_bneq _ a0_0 a1_0 Tryz.underlying4 rfl)) rfl ?_))))))))
 refine kY hS ?_
 refine ka ?_
 refine ko rfl (fun hb_4 => ?_) (fun hb_4 => ?_)
 ·have h := if_t h hb_4
  refine ke (ke (kc (kb 1 rfl ?_)))
  refine ki (kJ rfl) rfl (ki (kl (k := 0) Tryz.underlying62 rfl rfl nz4 rfl) rfl (ki (ku Tryz.underlying4 rfl rfl (hBa0.cell hS.fr 0 rfl)) rfl (kf (ka ?_))))
  refine ko rfl (fun hb_1 => ?_) (fun hb_1 => ?_)
  ·have h := if_t h hb_1
   refine ke (kc (kb 1 rfl ?_))
   refine kf (ka (kq (kv (kv ?_))))
   cases h
   exact ky rfl rfl ⟨rfl, hS⟩
  have h := if_f h hb_1
  refine kr (ka (ke (kc (kb 1 rfl ?_))))
  refine kf (ka (kq (kv ?_)))
  cases h
  exact ky rfl rfl ⟨rfl, hS⟩
 have h := if_f h hb_4
 refine kr (ka (ke ?_))
 refine kN (fun w' => St [] w0 w' []) (fun i => !([8].contains i)) hmix (fun _ _ _ hf => hf.2) (fun _ _ hf => hf) (by kernel_rfl) ?_
 have hS := hS.drew
 show lxE _ _ _ _ _ _ _ [0, 1, 2, 3, 4, 5, 6, 7, 8, 9] _ _
 refine kj hS rfl rfl (fun w hF => km rfl) rfl (kj hS rfl rfl (fun w hF => kJ rfl) rfl (kj hS rfl rfl (fun w hF => kl (k := 1) Tryz.underlying62 rfl rfl nz24 rfl) rfl (kj hS rfl rfl (fun w hF => ku Tryz.underlying24 rfl rfl (hBa0.cell hF.fr 1 rfl)) rfl (kj hS rfl rfl (fun w hF => km rfl) rfl (kj hS rfl rfl (fun w hF => kJ rfl) rfl (kj hS rfl rfl (fun w hF => kl (k := 1) Tryz.underlying62 rfl rfl nz24 rfl) rfl (kj hS rfl rfl (fun w hF => ku Tryz.underlying24 rfl rfl (hBa1.cell hF.fr 1 rfl)) rfl ?_)))))))
 obtain ⟨x_2, hx_2, h⟩ := kg h
 refine kP hS rfl rfl (by kernel_rfl) rfl (c_bignum_cmp _ a0_1 a1_1 va0_1 va1_1  (ha0_1.now hS.fr).rp (ha1_1.now hS.fr).rp _ hx_2) rfl ?_
 rintro _ w ⟨rfl, hS1⟩
 have hS := hS.call hS1
 refine kj hS rfl rfl (fun w hF => kA rfl) rfl (kY hS ?_)
 refine ka (ke (ke (kc (kb 1 rfl ?_))))
 refine ki (kJ rfl) rfl (ki (kl (k := 0) Tryz.underlying62 rfl rfl nz4 rfl) rfl (ki (ku Tryz.underlying4 rfl rfl (hBa0.cell hS.fr 0 rfl)) rfl (kf (ka ?_))))
 refine ko rfl (fun hb_3 => ?_) (fun hb_3 => ?_)
 ·have h := if_t h hb_3
  refine ke (kc (kb 1 rfl ?_))
  refine ki (kc1 rfl (u_ineg x_2)) rfl (kb 1 rfl ?_)
  refine kf (ka (kq (kv ?_)))
  cases h
  exact ky rfl rfl ⟨rfl, hS⟩
 have h := if_f h hb_3
 refine kr (ka (ke (kc (kb 2 rfl ?_))))
 refine kf (ka (kq ?_))
 cases h
 exact ky rfl rfl ⟨rfl, hS⟩
theorem c_bignum_Int_Sign (w0 : World) (a0_0 : Bool) (a0_1 : List UInt32) (va0_1 : Value) (ba0 : Nat) (ha0_1 : RP [] w0 e32 va0_1 a0_1) (hBa0 : RB [] w0 ba0 [vB a0_0, va0_1]) (r : Int)
  (h : F.bignum_Int_Sign a0_0 a0_1 = some r) : Calls Tryz.prog 39 #[pB ba0 0] w0 (Ret fun v w => v = vI r ∧ St [] w0 w []) := by
 refine kz 13 Tryz.func39 rfl rfl rfl ?_
 have hS := St.start w0
 refine kn [(0, pB ba0 0)] ⟨rfl, trivial⟩ ?_
 unfold F.bignum_Int_Sign at h
 refine ke (kc (kb 1 rfl ?_))
 refine kf (ka (ke (ke (kc (kb 1 rfl ?_)))))
 refine ki (kJ rfl) rfl (ki (kl (k := 1) Tryz.underlying62 rfl rfl nz24 rfl) rfl (ki (ku Tryz.underlying24 rfl rfl (hBa0.cell hS.fr 1 rfl)) rfl (ki (kB Tryz.underlying24 rfl (ha0_1.now hS.fr)) rfl (kb 1 rfl ?_))))
 refine kf (ka ?_)
 refine ko rfl (fun hb_2 => ?_) (fun hb_2 => ?_)
 ·have h := if_t h hb_2
  refine ke (kc (kb 1 rfl ?_))
  refine kf (ka (kq (kv ?_)))
  cases h
  exact ky rfl rfl ⟨rfl, hS⟩
 have h := if_f h hb_2
 refine kr (ka (ke (ke (kc (kb 1 rfl ?_)))))
 refine ki (kJ rfl) rfl (ki (kl (k := 0) Tryz.underlying62 rfl rfl nz4 rfl) rfl (ki (ku Tryz.underlying4 rfl rfl (hBa0.cell hS.fr 0 rfl)) rfl (kf (ka ?_))))
 refine ko rfl (fun hb_1 => ?_) (fun hb_1 => ?_)
 ·have h := if_t h hb_1
  refine ke (kc (kb 1 rfl ?_))
  refine kf (ka (kq (kv ?_)))
  cases h
  exact ky rfl rfl ⟨rfl, hS⟩
 have h := if_f h hb_1
 refine kr (ka (ke (kc (kb 1 rfl ?_))))
 refine kf (ka (kq ?_))
 cases h
 exact ky rfl rfl ⟨rfl, hS⟩
theorem c_bignum_Int_Bytes (w0 : World) (a0_0 : Bool) (a0_1 : List UInt32) (va0_1 : Value) (ba0 : Nat) (ha0_1 : RP [] w0 e32 va0_1 a0_1) (hBa0 : RB [] w0 ba0 [vB a0_0, va0_1]) (r : List UInt8)
  (h : F.bignum_Int_Bytes a0_0 a0_1 = some r) : Calls Tryz.prog 79 #[pB ba0 0] w0 (Ret fun v w => St [] w0 w [own e8 v r]) := by
 refine kz 41 Tryz.func79 rfl rfl rfl ?_
 have hS := St.start w0
 refine kn [(0, pB ba0 0)] ⟨rfl, trivial⟩ ?_
 unfold F.bignum_Int_Bytes at h
 refine ke (kc (kb 1 rfl ?_))
 refine kf (ka (ke (kc (kb 1 rfl ?_))))
 refine ki (kJ rfl) rfl (ki (kl (k := 1) Tryz.underlying62 rfl rfl nz24 rfl) rfl (ki (ku Tryz.underlying24 rfl rfl (hBa0.cell hS.fr 1 rfl)) rfl ?_))
 obtain ⟨x_1, hx_1, h⟩ := kg h
 refine kk (by kernel_rfl) rfl (c_bignum_length _ a0_1 va0_1  (ha0_1.now hS.fr).rp _ hx_1) rfl ?_
 rintro _ w ⟨rfl, hS1⟩
 have hS := hS.call hS1
 refine kb 1 rfl ?_
 refine ki (kt rfl rfl (b_iquo _ (wI (x_1 + 7)) 8 (by decide))) rfl ?_
 obtain ⟨x_2, hx_2, h⟩ := kI h
 refine ki (kA (v := vI x_2) (by rw [← hx_2]; rfl)) rfl ?_
 refine kf (ka (ke (kc (kb 1 rfl ?_))))
 obtain ⟨x_3, hx_3, h⟩ := kg h
 refine kW (G_make (e := e8) Tryz.underlying23 ti5 rfl rfl rfl hS hx_3) rfl ?_
 rintro v_4 w hS
 refine kb 1 rfl ?_
 refine kf (ka (ke (ke (kc (kb 1 rfl ?_)))))
 refine kf (ka (kw ?_))
 refine kn [(0, pB ba0 0), (3, vI x_2), (4, v_4), (5, vI 0)] ⟨rfl, rfl, rfl, rfl, trivial⟩ ?_
 refine kS (F.bignum_Int_Bytes_L1 a0_1 x_2) (fun (s : Int × List UInt8) L w => L = [(0, pB ba0 0), (3, vI x_2), (4, v_4), (5, vI s.1)] ∧ St [] w0 w [own e8 v_4 s.2]) ?_ (0, x_3) ⟨rfl, hS⟩ h
 rintro k_15 ⟨x_6, x_7⟩ L w q_10 hI ih_9 h hk_8
 try dsimp only at hI
 obtain ⟨rfl, hS⟩ := hI
 unfold F.bignum_Int_Bytes_L1 at h
 refine ke (ke (kc (kb 3 rfl ?_)))
 refine kf (ka ?_)
 refine ko rfl (fun hb_14 => ?_) (fun hb_14 => ?_)
 ·have h := if_t h hb_14
  refine kr (ka (ke (kw ?_)))
  refine kc (kb 6 rfl ?_)
  refine ki (kJ rfl) rfl (ki (kl (k := 1) Tryz.underlying62 rfl rfl nz24 rfl) rfl (ki (ku Tryz.underlying24 rfl rfl (hBa0.cell hS.fr 1 rfl)) rfl (kb 1 rfl ?_)))
  refine ki (kt rfl rfl (b_iquo _ x_6 4 (by decide))) rfl ?_
  obtain ⟨x_11, hx_11, h⟩ := kg h
  refine ki (G_ix Tryz.underlying24 ti52 rfl rfl (ha0_1.now hS.fr) hx_11) rfl (ki (G_load Tryz.underlying52 rfl rfl (ha0_1.now hS.fr) hx_11 rfl) rfl (kb 1 rfl ?_))
  refine ki (kF rfl (cv_i_64 Tryz.underlying3 Tryz.underlying92 x_6)) rfl ?_
  refine ki (kt rfl rfl (b_rem64 _ (UInt64.ofInt x_6) 4 (by decide))) rfl ?_
  refine ki (kt rfl rfl (b_mul64 _ 8 ((UInt64.ofInt x_6) % 4))) rfl (ki (kt rfl rfl (b_shr32_64 _ x_11 (8 * ((UInt64.ofInt x_6) % 4)))) rfl (ki (kF rfl (cv_32_8 Tryz.underlying52 Tryz.underlying5 (shr32 x_11 ((8 * ((UInt64.ofInt x_6) % 4)).toNat)))) rfl ?_))
  obtain ⟨x_12, hx_12, h⟩ := kg h
  refine ki (G_ix Tryz.underlying23 ti5 rfl rfl (hS.ro 0 rfl) hx_12) rfl (kX (G_storeE (t := ((shr32 x_11 ((8 * ((UInt64.ofInt x_6) % 4)).toNat)).toUInt8)) ti5 rfl rfl hS (i := 0) rfl hx_12 rfl) ?_)
  intro w hS
  obtain ⟨x_13, hx_13, h⟩ := kI h
  rw [hx_13] at hS
  refine kf (kK ?_)
  refine ka (kc (kb 3 rfl ?_))
  refine kf ?_
  exact QE_rnd (wpN_le _ (by exact ⟨rfl, rfl, rfl, rfl, trivial⟩) (ih_9 (wI (x_6 + 1), x_13) _ _ ⟨rfl, hS⟩ (kL h hk_8)))
 have h := if_f h hb_14
 refine kQ ?_
 refine kx (kx ?_)
 have h := kG h hk_8
 refine kR ?_
 refine ka (ke (kc (kb 2 rfl ?_)))
 refine kf (ka (kq ?_))
 cases h
 exact ky rfl rfl (hS.pick [0] (by decide) rfl)
theorem c_bignum_Int_Abs (w0 : World) (a0_0 : Bool) (a0_1 : List UInt32) (a1_0 : Bool) (a1_1 : List UInt32) (va0_1 : Value) (va1_1 : Value) (ba0 : Nat) (ba1 : Nat) (S : List Nat) (hS : St S w0 w0 [OE.bx ba0 [vB a0_0, va0_1], own e32 va0_1 a0_1]) (ha1_1 : RP S w0 e32 va1_1 a1_1) (hBa1 : RB S w0 ba1 [vB a1_0, va1_1]) (r : Bool × List UInt32)
  (h : F.bignum_Int_Abs a0_0 a0_1 a1_0 a1_1 = some r) : Calls Tryz.prog 110 #[pB ba0 0, pB ba1 0] w0 (Ret fun v w => ∃ u0_1 : Value, v = pB ba0 0 ∧ St S w0 w [OE.bx ba0 [vB r.1, u0_1], own e32 u0_1 r.2]) := by
 refine kz 12 Tryz.func110 rfl rfl rfl ?_
 refine kn [(0, pB ba0 0), (1, pB ba1 0)] ⟨rfl, rfl, trivial⟩ ?_
 unfold F.bignum_Int_Abs at h
 refine ke (kc (kb 1 rfl ?_))
 refine kf (ka (ke (kc (kb 2 rfl ?_))))
 refine ki (kJ rfl) rfl (ki (kl (k := 1) Tryz.underlying62 rfl rfl nz24 rfl) rfl (ki (ku Tryz.underlying24 rfl rfl (hBa1.cell hS.fr 1 rfl)) rfl ?_))
 obtain ⟨x_3, hx_3, h⟩ := kg h
 refine kk (by kernel_rfl) rfl (c_bignum_twin _ a1_1 va1_1  (ha1_1.now hS.fr).rp _ hx_3) rfl ?_
 rintro v_4 w hS1
 have hS := hS.call hS1
 have hG := hS.pick (os' := [OE.bx ba0 [vB a0_0, va0_1], own e32 va0_1 a0_1, own e32 v_4 x_3] ++ []) [1, 2, 0] (by decide) rfl
 obtain ⟨x_6, hx_6, h⟩ := kg h
 refine kk (by kernel_rfl) rfl (c_bignum_Int_give _ a0_0 a0_1 false x_3 va0_1 v_4 ba0 _ hG.give  _ hx_6) rfl ?_
 rintro _ w ⟨v_7, rfl, hS1⟩
 have hS := hG.back hS1
 refine kb 1 rfl ?_
 refine kf (ka (kq ?_))
 cases h
 exact ky rfl rfl ⟨v_7, rfl, hS.pick [0, 1] (by decide) rfl⟩
theorem c_bignum_Int_Quo_a10 (w0 : World) (a0_0 : Bool) (a0_1 : List UInt32) (a2_0 : Bool) (a2_1 : List UInt32) (va0_1 : Value) (va2_1 : Value) (ba0 : Nat) (ba2 : Nat) (S : List Nat) (hS : St S w0 w0 [OE.bx ba0 [vB a0_0, va0_1], own e32 va0_1 a0_1]) (ha2_1 : RP S w0 e32 va2_1 a2_1) (hBa2 : RB S w0 ba2 [vB a2_0, va2_1]) (r : Bool × List UInt32)
  (h : F.bignum_Int_Quo_a10 a0_0 a0_1 a2_0 a2_1 = some r) : Calls Tryz.prog 133 #[pB ba0 0, pB ba0 0, pB ba2 0] w0 (Ret fun v w => ∃ u0_1 : Value, v = pB ba0 0 ∧ St S w0 w [OE.bx ba0 [vB r.1, u0_1], own e32 u0_1 r.2]) := by
 refine kz 13 Tryz.func133 rfl rfl rfl ?_
 refine kn [(0, pB ba0 0), (1, pB ba0 0), (2, pB ba2 0)] ⟨rfl, rfl, rfl, trivial⟩ ?_
 unfold F.bignum_Int_Quo_a10 at h
 refine ke (kc (kb 1 rfl ?_))
 refine kf (ka (ke (kc (kb 3 rfl ?_))))
 refine kW (kE (cs := [vB false, .slice none 0 0]) tz62 rfl hS) rfl ?_
 rintro _ w ⟨b_3, rfl, hS⟩
 replace hS := hS.nil e32
 have hG := hS.pick (os' := [OE.bx ba0 [vB a0_0, va0_1], own e32 va0_1 a0_1, OE.bx b_3 [vB false, .slice none 0 0], own e32 (.slice none 0 0) []] ++ []) [2, 3, 1, 0] (by decide) rfl
 obtain ⟨x_6, hx_6, h⟩ := kg h
 refine kk (by kernel_rfl) rfl (c_bignum_Int_QuoRem_a10 _ a0_0 a0_1 a2_0 a2_1 false [] va0_1 va2_1 (.slice none 0 0) ba0 ba2 b_3 _ hG.give (ha2_1.give (Nat.le_of_ble_eq_true rfl) hG) (hBa2.give hG) _ hx_6) rfl ?_
 rintro _ w ⟨v_7, v_9, rfl, hS1⟩
 have hS := hG.back hS1
 refine kf (ka (ke (kc (kb 2 rfl ?_))))
 refine kf (ka (kq ?_))
 cases h
 exact ky rfl rfl ⟨v_7, rfl, hS.pick [0, 1] (by decide) rfl⟩
theorem c_bignum_Int_GCD (w0 : World) (a0_0 : Bool) (a0_1 : List UInt32) (a1_0 : Bool) (a1_1 : List UInt32) (a3_0 : Bool) (a3_1 : List UInt32) (a4_0 : Bool) (a4_1 : List UInt32) (va0_1 : Value) (va1_1 : Value) (va3_1 : Value) (va4_1 : Value) (ba0 : Nat) (ba1 : Nat) (ba3 : Nat) (ba4 : Nat) (S : List Nat) (hS : St S w0 w0 [OE.bx ba0 [vB a0_0, va0_1], own e32 va0_1 a0_1, OE.bx ba1 [vB a1_0, va1_1], own e32 va1_1 a1_1]) (ha3_1 : RP S w0 e32 va3_1 a3_1) (hBa3 : RB S w0 ba3 [vB a3_0, va3_1]) (ha4_1 : RP S w0 e32 va4_1 a4_1) (hBa4 : RB S w0 ba4 [vB a4_0, va4_1]) (r : Bool × List UInt32 × Bool × List UInt32)
  (h : F.bignum_Int_GCD a0_0 a0_1 a1_0 a1_1 a3_0 a3_1 a4_0 a4_1 = some r) : Calls Tryz.prog 111 #[pB ba0 0, pB ba1 0, .pointer none, pB ba3 0, pB ba4 0] w0 (Ret fun v w => ∃ u0_1 u1_1 : Value, v = pB ba0 0 ∧ St S w0 w [OE.bx ba0 [vB r.1, u0_1], own e32 u0_1 r.2.1, OE.bx ba1 [vB r.2.2.1, u1_1], own e32 u1_1 r.2.2.2]) := by
 refine kz 161 Tryz.func111 rfl rfl rfl ?_
 have hZ := Fz.start (S := S) (w0 := w0)
 have hTT : TOk S [] w0 := TOk.nil
 have hA : Rds S w0 [OE.bx ba4 [vB a4_0, va4_1], red e32 va4_1 a4_1, OE.bx ba3 [vB a3_0, va3_1], red e32 va3_1 a3_1] := Rds.cons hBa4.kept (Rds.cons (RP.kept (Nat.le_of_ble_eq_true rfl) ha4_1) (Rds.cons hBa3.kept (Rds.cons (RP.kept (Nat.le_of_ble_eq_true rfl) ha3_1) (Rds.nil))))
 have hP : Off [] [OE.bx ba4 [vB a4_0, va4_1], red e32 va4_1 a4_1, OE.bx ba3 [vB a3_0, va3_1], red e32 va3_1 a3_1] := Off.emp
 refine kn [(0, pB ba0 0), (1, pB ba1 0), (2, .pointer none), (3, pB ba3 0), (4, pB ba4 0)] ⟨rfl, rfl, rfl, rfl, rfl, trivial⟩ ?_
 unfold F.bignum_Int_GCD at h
 refine ke (kc (kb 1 rfl ?_))
 refine kf (ka (ke ?_))
 refine kO (r := r) (fun (g : Bool) L w => L = [(0, pB ba0 0), (1, pB ba1 0), (2, .pointer none), (3, pB ba3 0), (4, pB ba4 0), (35, vB g)] ∧ SfT S [] w0 w [OE.bx ba4 [vB a4_0, va4_1], red e32 va4_1 a4_1, OE.bx ba3 [vB a3_0, va3_1], red e32 va3_1 a3_1] [OE.bx ba0 [vB a0_0, va0_1], own e32 va0_1 a0_1, OE.bx ba1 [vB a1_0, va1_1], own e32 va1_1 a1_1]) (F.bignum_Int_GCD_K1 a0_0 a0_1 a3_0 a3_1 a4_0 a4_1 a1_0 a1_1) ?_ ?_
 rotate_left
 ·intro hK_9
  refine kc (kb 1 rfl ?_)
  refine ki (kJ rfl) rfl (ki (kl (k := 1) Tryz.underlying62 rfl rfl nz24 rfl) rfl (ki (ku Tryz.underlying24 rfl rfl ((hA.rb 1 rfl).cell hS.fr 1 rfl)) rfl (ki (kB Tryz.underlying24 rfl ((hA.rp 0 rfl).now hS.fr)) rfl (kb 2 rfl ?_))))
  cases hb_5 : ((a3_1.length : Int) == 0)
  case true =>
   have h := if_t h hb_5
   try simp only [hb_5]
   refine kb 7 rfl ?_
   refine kf (ka ?_)
   exact kn _ (by exact ⟨rfl, rfl, rfl, rfl, rfl, rfl, trivial⟩) (hK_9 true _ _ ⟨rfl, (SfT.mk' hZ (Rds.cons (hA.nth 3 rfl) (Rds.cons (hA.nth 2 rfl) (Rds.cons (hA.nth 1 rfl) (Rds.cons (hA.nth 0 rfl) Rds.nil)))) (Off.cons (hP.nth 3 rfl) (Off.cons (hP.nth 2 rfl) (Off.cons (hP.nth 1 rfl) (Off.cons (hP.nth 0 rfl) Off.nil)))) hS)⟩ h)
  case false =>
   have h := if_f h hb_5
   try simp only [hb_5]
   refine kb 1 rfl ?_
   refine kT (t := 28) rfl rfl (kJ rfl) rfl (kT (t := 28) rfl rfl (kl (k := 1) Tryz.underlying62 rfl rfl nz24 rfl) rfl (kT (t := 28) rfl rfl (ku Tryz.underlying24 rfl rfl ((hA.rb 3 rfl).cell hS.fr 1 rfl)) rfl (kT (t := 28) rfl rfl (kB Tryz.underlying24 rfl ((hA.rp 2 rfl).now hS.fr)) rfl (kb 2 rfl ?_))))
   refine kf (ka ?_)
   exact kn _ (by exact ⟨rfl, rfl, rfl, rfl, rfl, rfl, trivial⟩) (hK_9 ((a4_1.length : Int) == 0) _ _ ⟨rfl, (SfT.mk' hZ (Rds.cons (hA.nth 3 rfl) (Rds.cons (hA.nth 2 rfl) (Rds.cons (hA.nth 1 rfl) (Rds.cons (hA.nth 0 rfl) Rds.nil)))) (Off.cons (hP.nth 3 rfl) (Off.cons (hP.nth 2 rfl) (Off.cons (hP.nth 1 rfl) (Off.cons (hP.nth 0 rfl) Off.nil)))) hS)⟩ h)
 rintro x_8 L w hJ h
 try dsimp only at hJ
 obtain ⟨rfl, ⟨S_6, wb_7, hZ, hA, hP, hS⟩⟩ := hJ
 unfold F.bignum_Int_GCD_K1 at h
 refine ko rfl (fun hb_129 => ?_) (fun hb_129 => ?_)
 ·have h := if_t h hb_129
  refine ke ?_
  refine kN (fun w' => St S_6 wb_7 w' [OE.bx ba0 [vB a0_0, va0_1], own e32 va0_1 a0_1, OE.bx ba1 [vB a1_0, va1_1], own e32 va1_1 a1_1]) (fun _ => true) hmix (fun _ _ _ hf => hf.2) (fun _ _ hf => hf) (by kernel_rfl) ?_
  have hS := hS.drew
  show lxE _ _ _ _ _ _ _ [0, 1, 2, 3, 4, 5, 6, 7, 8, 9, 10, 11] _ _
  refine kj hS rfl rfl (fun w hF => km rfl) rfl (kj hS rfl rfl (fun w hF => kJ rfl) rfl (kj hS rfl rfl (fun w hF => kl (k := 1) Tryz.underlying62 rfl rfl nz24 rfl) rfl (kj hS rfl rfl (fun w hF => ku Tryz.underlying24 rfl rfl ((hA.rb 1 rfl).cell hF.fr 1 rfl)) rfl (kj hS rfl rfl (fun w hF => kB Tryz.underlying24 rfl ((hA.rp 0 rfl).now hF.fr)) rfl (kj hS rfl rfl (fun w hF => km rfl) rfl (kj hS rfl rfl (fun w hF => kJ rfl) rfl (kj hS rfl rfl (fun w hF => kl (k := 1) Tryz.underlying62 rfl rfl nz24 rfl) rfl (kj hS rfl rfl (fun w hF => ku Tryz.underlying24 rfl rfl ((hA.rb 3 rfl).cell hF.fr 1 rfl)) rfl ?_))))))))
  refine kj hS rfl rfl (fun w hF => kB Tryz.underlying24 rfl ((hA.rp 2 rfl).now hF.fr)) rfl (kj hS rfl rfl (fun w hF => kA rfl) rfl (kj hS rfl rfl (fun w hF => kA rfl) rfl (kY hS ?_)))
  refine ka (ke ?_)
  refine kN (fun w' => St S_6 wb_7 w' [OE.bx ba0 [vB a0_0, va0_1], own e32 va0_1 a0_1, OE.bx ba1 [vB a1_0, va1_1], own e32 va1_1 a1_1]) (fun _ => true) hmix (fun _ _ _ hf => hf.2) (fun _ _ hf => hf) (by kernel_rfl) ?_
  have hS := hS.drew
  show lxE _ _ _ _ _ _ _ [0, 1, 2, 3, 4, 5, 6, 7, 8, 9] _ _
  refine kj hS rfl rfl (fun w hF => km rfl) rfl (kj hS rfl rfl (fun w hF => kJ rfl) rfl (kj hS rfl rfl (fun w hF => kl (k := 0) Tryz.underlying62 rfl rfl nz4 rfl) rfl (kj hS rfl rfl (fun w hF => ku Tryz.underlying4 rfl rfl ((hA.rb 1 rfl).cell hF.fr 0 rfl)) rfl (kj hS rfl rfl (fun w hF => km rfl) rfl (kj hS rfl rfl (fun w hF => kJ rfl) rfl (kj hS rfl rfl (fun w hF => kl (k := 0) Tryz.underlying62 rfl rfl nz4 rfl) rfl (kj hS rfl rfl (fun w hF => ku Tryz.underlying4 rfl rfl ((hA.rb 3 rfl).cell hF.fr 0 rfl)) rfl (kj hS rfl rfl (fun w hF => kA rfl) rfl ?_))))))))
  refine kj hS rfl rfl (fun w hF => kA rfl) rfl (kY hS ?_)
  refine ka ?_
  refine kO (r := r) (fun (g : Bool × List UInt32) L w => ∃ (v_21 : Value), L = [(0, pB ba0 0), (1, pB ba1 0), (2, .pointer none), (11, vI (a3_1.length : Int)), (12, vI (a4_1.length : Int)), (13, vB a3_0), (14, vB a4_0)] ∧ SfT S [] w0 w [] [own e32 v_21 g.2, OE.bx ba0 [vB g.1, v_21], OE.bx ba1 [vB a1_0, va1_1], own e32 va1_1 a1_1]) (F.bignum_Int_GCD_K2 a1_0 a1_1 a3_0 a3_1) ?_ ?_
  rotate_left
  ·intro hK_23
   refine ke (kc (kb 2 rfl ?_))
   refine kf (ka ?_)
   refine ko rfl (fun hb_16 => ?_) (fun hb_16 => ?_)
   ·have h := if_t h hb_16
    refine kc (kb 2 rfl ?_)
    have hG := hS.pick (os' := [OE.bx ba0 [vB a0_0, va0_1], own e32 va0_1 a0_1] ++ [OE.bx ba1 [vB a1_0, va1_1], own e32 va1_1 a1_1]) [0, 1, 2, 3] (by decide) rfl
    obtain ⟨x_10, hx_10, h⟩ := kg h
    refine kk (by kernel_rfl) rfl (c_bignum_Int_Abs _ a0_0 a0_1 a4_0 a4_1 va0_1 va4_1 ba0 ba4 _ hG.give ((hA.rp 2 rfl).give (Nat.le_of_ble_eq_true rfl) hG) ((hA.rb 3 rfl).give hG) _ hx_10) rfl ?_
    rintro _ w ⟨v_11, rfl, hS1⟩
    have hS := hG.back hS1
    refine kf (ka ?_)
    exact kn _ (by exact ⟨rfl, rfl, rfl, rfl, rfl, rfl, rfl, trivial⟩) (hK_23 (x_10.1, x_10.2) _ _ ⟨v_11, rfl, (SfT.mk' hZ Rds.nil Off.nil (hS.pick [1, 0, 2, 3] (by decide) rfl))⟩ h)
   have h := if_f h hb_16
   refine kc (kb 2 rfl ?_)
   have hG := hS.pick (os' := [OE.bx ba0 [vB a0_0, va0_1], own e32 va0_1 a0_1] ++ [OE.bx ba1 [vB a1_0, va1_1], own e32 va1_1 a1_1]) [0, 1, 2, 3] (by decide) rfl
   obtain ⟨x_13, hx_13, h⟩ := kg h
   refine kk (by kernel_rfl) rfl (c_bignum_Int_Abs _ a0_0 a0_1 a3_0 a3_1 va0_1 va3_1 ba0 ba3 _ hG.give ((hA.rp 0 rfl).give (Nat.le_of_ble_eq_true rfl) hG) ((hA.rb 1 rfl).give hG) _ hx_13) rfl ?_
   rintro _ w ⟨v_14, rfl, hS1⟩
   have hS := hG.back hS1
   refine kf (ka ?_)
   exact kn _ (by exact ⟨rfl, rfl, rfl, rfl, rfl, rfl, rfl, trivial⟩) (hK_23 (x_13.1, x_13.2) _ _ ⟨v_14, rfl, (SfT.mk' hZ Rds.nil Off.nil (hS.pick [1, 0, 2, 3] (by decide) rfl))⟩ h)
  rintro ⟨x_19, x_20⟩ L w hJ h
  try dsimp only at hJ
  obtain ⟨v_21, rfl, ⟨S_17, wb_18, hZ, hA, hP, hS⟩⟩ := hJ
  unfold F.bignum_Int_GCD_K2 at h
  refine kO (r := r) (fun (g : Bool × List UInt32) L w => ∃ (v_35 : Value), L = [(0, pB ba0 0), (2, .pointer none), (11, vI (a3_1.length : Int)), (12, vI (a4_1.length : Int)), (14, vB a4_0)] ∧ SfT S [] w0 w [] [OE.bx ba0 [vB x_19, v_21], own e32 v_21 x_20, own e32 v_35 g.2, OE.bx ba1 [vB g.1, v_35]]) (F.bignum_Int_GCD_K3 x_19 x_20) ?_ ?_
  rotate_left
  ·intro hK_37
   refine ke (kc (kb 1 rfl ?_))
   refine ki (kt rfl rfl (b_pneN Tryz.underlying56 ba1 0)) rfl (kf (ka (wpC_condT rfl ?_)))
   refine ke (kc (kb 1 rfl ?_))
   have hG := hS.pick (os' := [OE.bx ba1 [vB a1_0, va1_1], own e32 va1_1 a1_1] ++ [own e32 v_21 x_20, OE.bx ba0 [vB x_19, v_21]]) [2, 3, 0, 1] (by decide) rfl
   obtain ⟨x_24, hx_24, h⟩ := kg h
   refine kk (by kernel_rfl) rfl (c_bignum_Int_SetInt64 _ a1_0 a1_1 0 va1_1 ba1 _ hG.give  _ hx_24) rfl ?_
   rintro _ w ⟨v_25, rfl, hS1⟩
   have hS := hG.back hS1
   refine kf (ka (ke (kc (kb 2 rfl ?_))))
   refine kf (ka ?_)
   refine ko rfl (fun hb_30 => ?_) (fun hb_30 => ?_)
   ·have h := if_t h hb_30
    refine ke (kc (kb 1 rfl ?_))
    have hG := hS.pick (os' := [OE.bx ba1 [vB x_24.1, v_25], own e32 v_25 x_24.2] ++ [own e32 v_21 x_20, OE.bx ba0 [vB x_19, v_21]]) [0, 1, 2, 3] (by decide) rfl
    obtain ⟨x_27, hx_27, h⟩ := kg h
    refine kk (by kernel_rfl) rfl (c_bignum_Int_SetInt64 _ x_24.1 x_24.2 1 v_25 ba1 _ hG.give  _ hx_27) rfl ?_
    rintro _ w ⟨v_28, rfl, hS1⟩
    have hS := hG.back hS1
    refine kf (ka (kc (kb 2 rfl ?_)))
    refine ki (kJ rfl) rfl (ki (kl (k := 0) Tryz.underlying62 rfl rfl nz4 rfl) rfl (kX (kM (i := 0) (us := [vB a3_0]) rfl sz4 rfl rfl rfl ⟨rfl, trivial⟩ rfl hS) ?_))
    intro w hS
    refine kf (ka ?_)
    exact kn _ (by exact ⟨rfl, rfl, rfl, rfl, rfl, trivial⟩) (hK_37 (a3_0, x_27.2) _ _ ⟨v_28, rfl, (SfT.mk' hZ Rds.nil Off.nil (hS.pick [3, 2, 1, 0] (by decide) rfl))⟩ h)
   have h := if_f h hb_30
   refine kr (ka ?_)
   exact kn _ (by exact ⟨rfl, rfl, rfl, rfl, rfl, trivial⟩) (hK_37 (x_24.1, x_24.2) _ _ ⟨v_25, rfl, (SfT.mk' hZ Rds.nil Off.nil (hS.pick [3, 2, 1, 0] (by decide) rfl))⟩ h)
  rintro ⟨x_33, x_34⟩ L w hJ h
  try dsimp only at hJ
  obtain ⟨v_35, rfl, ⟨S_31, wb_32, hZ, hA, hP, hS⟩⟩ := hJ
  unfold F.bignum_Int_GCD_K3 at h
  refine ke (ke (kc (kb 1 rfl ?_)))
  refine ki (kt rfl rfl (b_pnnN Tryz.underlying56)) rfl (kf (ka (wpC_condF rfl ?_)))
  refine kr (ka (ke (kc (kb 2 rfl ?_))))
  refine kf (ka (kq (kv ?_)))
  cases h
  replace hS := hZ.st hS
  exact ky rfl rfl ⟨v_21, v_35, rfl, hS.pick [0, 1, 3, 2] (by decide) rfl⟩
 have h := if_f h hb_129
 refine kr (ka (ke (kc (kW (kE (cs := [vB false, .slice none 0 0]) tz62 rfl hS) rfl ?_))))
 rintro _ w ⟨b_38, rfl, hS⟩
 refine kb 1 rfl ?_
 replace hS := hS.nil e32
 have hG := hS.pick (os' := [OE.bx b_38 [vB false, .slice none 0 0], own e32 (.slice none 0 0) []] ++ [OE.bx ba0 [vB a0_0, va0_1], own e32 va0_1 a0_1, OE.bx ba1 [vB a1_0, va1_1], own e32 va1_1 a1_1]) [1, 0, 2, 3, 4, 5] (by decide) rfl
 obtain ⟨x_41, hx_41, h⟩ := kg h
 refine kk (by kernel_rfl) rfl (c_bignum_Int_Abs _ false [] a3_0 a3_1 (.slice none 0 0) va3_1 b_38 ba3 _ hG.give ((hA.rp 0 rfl).give (Nat.le_of_ble_eq_true rfl) hG) ((hA.rb 1 rfl).give hG) _ hx_41) rfl ?_
 rintro _ w ⟨v_42, rfl, hS1⟩
 have hS := hG.back hS1
 refine kW (kE (cs := [vB false, .slice none 0 0]) tz62 rfl hS) rfl ?_
 rintro _ w ⟨b_44, rfl, hS⟩
 refine kb 1 rfl ?_
 replace hS := hS.nil e32
 have hG := hS.pick (os' := [OE.bx b_44 [vB false, .slice none 0 0], own e32 (.slice none 0 0) []] ++ [OE.bx b_38 [vB x_41.1, v_42], own e32 v_42 x_41.2, OE.bx ba0 [vB a0_0, va0_1], own e32 va0_1 a0_1, OE.bx ba1 [vB a1_0, va1_1], own e32 va1_1 a1_1]) [1, 0, 2, 3, 4, 5, 6, 7] (by decide) rfl
 obtain ⟨x_47, hx_47, h⟩ := kg h
 refine kk (by kernel_rfl) rfl (c_bignum_Int_Abs _ false [] a4_0 a4_1 (.slice none 0 0) va4_1 b_44 ba4 _ hG.give ((hA.rp 2 rfl).give (Nat.le_of_ble_eq_true rfl) hG) ((hA.rb 3 rfl).give hG) _ hx_47) rfl ?_
 rintro _ w ⟨v_48, rfl, hS1⟩
 have hS := hG.back hS1
 refine kb 2 rfl ?_
 refine kf (ka (ke (kc ?_)))
 obtain ⟨x_50, hx_50, h⟩ := kg h
 refine kk (by kernel_rfl) rfl (c_bignum_NewInt _ 1    _ hx_50) rfl ?_
 rintro _ w ⟨v_51, b_53, rfl, hS1⟩
 have hS := hS.call hS1
 obtain ⟨x_55, hx_55, h⟩ := kg h
 refine kk (by kernel_rfl) rfl (c_bignum_NewInt _ 0    _ hx_55) rfl ?_
 rintro _ w ⟨v_56, b_58, rfl, hS1⟩
 have hS := hS.call hS1
 refine kb 2 rfl ?_
 refine kf (ka (ke (kw ?_)))
 replace hS := hS.pick (os' := [OE.bx b_58 [vB x_55.1, v_56], own e32 v_56 x_55.2, OE.bx b_53 [vB x_50.1, v_51], own e32 v_51 x_50.2, OE.bx b_44 [vB x_47.1, v_48], own e32 v_48 x_47.2, OE.bx b_38 [vB x_41.1, v_42], own e32 v_42 x_41.2] ++ [OE.bx ba0 [vB a0_0, va0_1], own e32 va0_1 a0_1, OE.bx ba1 [vB a1_0, va1_1], own e32 va1_1 a1_1]) [0, 1, 2, 3, 4, 5, 6, 7, 8, 9, 10, 11] (by decide) rfl
 obtain ⟨S_60, wb_61, hZ, hA, hP, hS⟩ := hZ.frzT hTT hA hP hS
 refine kn [(0, pB ba0 0), (1, pB ba1 0), (2, .pointer none), (3, pB ba3 0), (4, pB ba4 0), (15, pB b_38 0), (16, pB b_44 0), (17, pB b_53 0), (18, pB b_58 0)] ⟨rfl, rfl, rfl, rfl, rfl, rfl, rfl, rfl, rfl, trivial⟩ ?_
 refine kS (F.bignum_Int_GCD_L1 a0_0 a0_1 a1_0 a1_1 a3_0 a3_1 a4_0 a4_1) (fun (s : Bool × List UInt32 × Bool × List UInt32 × Bool × List UInt32 × Bool × List UInt32) L w => ∃ (b_64 : Nat) (v_67 : Value) (b_68 : Nat) (v_71 : Value) (b_72 : Nat) (v_75 : Value) (b_76 : Nat) (v_79 : Value), L = [(0, pB ba0 0), (1, pB ba1 0), (2, .pointer none), (3, pB ba3 0), (4, pB ba4 0), (15, pB b_64 0), (16, pB b_68 0), (17, pB b_72 0), (18, pB b_76 0)] ∧ SfT S [] w0 w [OE.bx b_76 [vB s.2.2.2.2.2.2.1, v_79], red e32 v_79 s.2.2.2.2.2.2.2, OE.bx b_72 [vB s.2.2.2.2.1, v_75], red e32 v_75 s.2.2.2.2.2.1, OE.bx b_68 [vB s.2.2.1, v_71], red e32 v_71 s.2.2.2.1, OE.bx b_64 [vB s.1, v_67], red e32 v_67 s.2.1, OE.bx ba4 [vB a4_0, va4_1], red e32 va4_1 a4_1, OE.bx ba3 [vB a3_0, va3_1], red e32 va3_1 a3_1] [OE.bx ba0 [vB a0_0, va0_1], own e32 va0_1 a0_1, OE.bx ba1 [vB a1_0, va1_1], own e32 va1_1 a1_1]) ?_ (x_41.1, x_41.2, x_47.1, x_47.2, x_50.1, x_50.2, x_55.1, x_55.2) ⟨b_38, v_42, b_44, v_48, b_53, v_51, b_58, v_56, rfl, (SfT.mk' hZ (Rds.cons (hA.nth 11 rfl) (Rds.cons (hA.nth 10 rfl) (Rds.cons (hA.nth 9 rfl) (Rds.cons (hA.nth 8 rfl) (Rds.cons (hA.nth 7 rfl) (Rds.cons (hA.nth 6 rfl) (Rds.cons (hA.nth 5 rfl) (Rds.cons (hA.nth 4 rfl) (Rds.cons (hA.nth 3 rfl) (Rds.cons (hA.nth 2 rfl) (Rds.cons (hA.nth 1 rfl) (Rds.cons (hA.nth 0 rfl) Rds.nil)))))))))))) (Off.cons (hP.nth 11 rfl) (Off.cons (hP.nth 10 rfl) (Off.cons (hP.nth 9 rfl) (Off.cons (hP.nth 8 rfl) (Off.cons (hP.nth 7 rfl) (Off.cons (hP.nth 6 rfl) (Off.cons (hP.nth 5 rfl) (Off.cons (hP.nth 4 rfl) (Off.cons (hP.nth 3 rfl) (Off.cons (hP.nth 2 rfl) (Off.cons (hP.nth 1 rfl) (Off.cons (hP.nth 0 rfl) Off.nil)))))))))))) hS)⟩ h
 rintro k_128 ⟨x_65, x_66, x_69, x_70, x_73, x_74, x_77, x_78⟩ L w q_82 hI ih_81 h hk_80
 try dsimp only at hI
 obtain ⟨b_64, v_67, b_68, v_71, b_72, v_75, b_76, v_79, rfl, ⟨S_62, wb_63, hZ, hA, hP, hS⟩⟩ := hI
 unfold F.bignum_Int_GCD_L1 at h
 refine ke (ke (kc (kb 1 rfl ?_)))
 refine ki (kJ rfl) rfl (ki (kl (k := 1) Tryz.underlying62 rfl rfl nz24 rfl) rfl (ki (ku Tryz.underlying24 rfl rfl ((hA.rb 7 rfl).cell hS.fr 1 rfl)) rfl (ki (kB Tryz.underlying24 rfl ((hA.rp 6 rfl).now hS.fr)) rfl (kb 1 rfl ?_))))
 refine kf (ka ?_)
 refine ko rfl (fun hb_127 => ?_) (fun hb_127 => ?_)
 ·have h := if_t h hb_127
  refine kr (ka (kw ?_))
  refine ke (kc (kW (kE (cs := [vB false, .slice none 0 0]) tz62 rfl hS) rfl ?_))
  rintro _ w ⟨b_83, rfl, hS⟩
  refine kb 2 rfl ?_
  refine kW (kE (cs := [vB false, .slice none 0 0]) tz62 rfl hS) rfl ?_
  rintro _ w ⟨b_85, rfl, hS⟩
  replace hS := hS.nil e32
  replace hS := hS.nil e32
  have hG := hS.pick (os' := [OE.bx b_83 [vB false, .slice none 0 0], own e32 (.slice none 0 0) [], OE.bx b_85 [vB false, .slice none 0 0], own e32 (.slice none 0 0) []] ++ [OE.bx ba0 [vB a0_0, va0_1], own e32 va0_1 a0_1, OE.bx ba1 [vB a1_0, va1_1], own e32 va1_1 a1_1]) [3, 1, 2, 0, 4, 5, 6, 7] (by decide) rfl
  obtain ⟨x_89, hx_89, h⟩ := kg h
  refine kk (by kernel_rfl) rfl (c_bignum_Int_QuoRem _ false [] x_65 x_66 x_69 x_70 false [] (.slice none 0 0) v_67 v_71 (.slice none 0 0) b_83 b_64 b_68 b_85 _ hG.give ((hA.rp 4 rfl).give (Nat.le_of_ble_eq_true rfl) hG) ((hA.rb 5 rfl).give hG) ((hA.rp 6 rfl).give (Nat.le_of_ble_eq_true rfl) hG) ((hA.rb 7 rfl).give hG) _ hx_89) rfl ?_
  rintro _ w ⟨v_90, v_92, rfl, hS1⟩
  have hS := hG.back hS1
  refine kb 5 rfl ?_
  refine kf (ka (ke (kc (kb 4 rfl ?_))))
  refine kf (ka (kc (kb 1 rfl ?_)))
  refine kW (kE (cs := [vB false, .slice none 0 0]) tz62 rfl hS) rfl ?_
  rintro _ w ⟨b_94, rfl, hS⟩
  refine kb 1 rfl ?_
  refine kW (kE (cs := [vB false, .slice none 0 0]) tz62 rfl hS) rfl ?_
  rintro _ w ⟨b_96, rfl, hS⟩
  refine kb 2 rfl ?_
  replace hS := hS.nil e32
  have hG := hS.pick (os' := [OE.bx b_96 [vB false, .slice none 0 0], own e32 (.slice none 0 0) []] ++ [OE.bx b_94 [vB false, .slice none 0 0], OE.bx b_83 [vB x_89.1, v_90], own e32 v_90 x_89.2.1, OE.bx b_85 [vB x_89.2.2.1, v_92], own e32 v_92 x_89.2.2.2, OE.bx ba0 [vB a0_0, va0_1], own e32 va0_1 a0_1, OE.bx ba1 [vB a1_0, va1_1], own e32 va1_1 a1_1]) [1, 0, 2, 3, 4, 5, 6, 7, 8, 9, 10] (by decide) rfl
  obtain ⟨x_99, hx_99, h⟩ := kg h
  refine kk (by kernel_rfl) rfl (c_bignum_Int_Mul _ false [] x_89.1 x_89.2.1 x_77 x_78 (.slice none 0 0) v_90 v_79 b_96 b_83 b_76 _ hG.give (hG.giveO 2 rfl) (hG.giveB 1 rfl) ((hA.rp 10 rfl).give (Nat.le_of_ble_eq_true rfl) hG) ((hA.rb 11 rfl).give hG) _ hx_99) rfl ?_
  rintro _ w ⟨v_100, rfl, hS1⟩
  have hS := hG.back hS1
  replace hS := hS.nil e32
  have hG := hS.pick (os' := [OE.bx b_94 [vB false, .slice none 0 0], own e32 (.slice none 0 0) []] ++ [OE.bx b_96 [vB x_99.1, v_100], own e32 v_100 x_99.2, OE.bx b_83 [vB x_89.1, v_90], own e32 v_90 x_89.2.1, OE.bx b_85 [vB x_89.2.2.1, v_92], own e32 v_92 x_89.2.2.2, OE.bx ba0 [vB a0_0, va0_1], own e32 va0_1 a0_1, OE.bx ba1 [vB a1_0, va1_1], own e32 va1_1 a1_1]) [3, 0, 1, 2, 4, 5, 6, 7, 8, 9, 10, 11] (by decide) rfl
  obtain ⟨x_103, hx_103, h⟩ := kg h
  refine kk (by kernel_rfl) rfl (c_bignum_Int_Sub _ false [] x_73 x_74 x_99.1 x_99.2 (.slice none 0 0) v_75 v_100 b_94 b_72 b_96 _ hG.give ((hA.rp 8 rfl).give (Nat.le_of_ble_eq_true rfl) hG) ((hA.rb 9 rfl).give hG) (hG.giveO 1 rfl) (hG.giveB 0 rfl) _ hx_103) rfl ?_
  rintro _ w ⟨v_104, rfl, hS1⟩
  have hS := hG.back hS1
  refine kb 2 rfl ?_
  refine kf (kK ?_)
  replace hS := hS.pick (os' := [OE.bx b_94 [vB x_103.1, v_104], own e32 v_104 x_103.2, OE.bx b_96 [vB x_99.1, v_100], own e32 v_100 x_99.2, OE.bx b_83 [vB x_89.1, v_90], own e32 v_90 x_89.2.1, OE.bx b_85 [vB x_89.2.2.1, v_92], own e32 v_92 x_89.2.2.2] ++ [OE.bx ba0 [vB a0_0, va0_1], own e32 va0_1 a0_1, OE.bx ba1 [vB a1_0, va1_1], own e32 va1_1 a1_1]) [0, 1, 2, 3, 4, 5, 6, 7, 8, 9, 10, 11] (by decide) rfl
  obtain ⟨S_106, wb_107, hZ, hA, hP, hS⟩ := hZ.frzT hTT hA hP hS
  exact QE_rnd (wpN_le _ (by exact ⟨rfl, rfl, rfl, rfl, rfl, rfl, rfl, rfl, rfl, trivial⟩) (ih_81 (x_69, x_70, x_89.2.2.1, x_89.2.2.2, x_77, x_78, x_103.1, x_103.2) _ _ ⟨b_68, v_71, b_85, v_92, b_76, v_79, b_94, v_104, rfl, (SfT.mk' hZ (Rds.cons (hA.nth 19 rfl) (Rds.cons (hA.nth 18 rfl) (Rds.cons (hA.nth 11 rfl) (Rds.cons (hA.nth 10 rfl) (Rds.cons (hA.nth 13 rfl) (Rds.cons (hA.nth 12 rfl) (Rds.cons (hA.nth 7 rfl) (Rds.cons (hA.nth 6 rfl) (Rds.cons (hA.nth 3 rfl) (Rds.cons (hA.nth 2 rfl) (Rds.cons (hA.nth 1 rfl) (Rds.cons (hA.nth 0 rfl) Rds.nil)))))))))))) (Off.cons (hP.nth 19 rfl) (Off.cons (hP.nth 18 rfl) (Off.cons (hP.nth 11 rfl) (Off.cons (hP.nth 10 rfl) (Off.cons (hP.nth 13 rfl) (Off.cons (hP.nth 12 rfl) (Off.cons (hP.nth 7 rfl) (Off.cons (hP.nth 6 rfl) (Off.cons (hP.nth 3 rfl) (Off.cons (hP.nth 2 rfl) (Off.cons (hP.nth 1 rfl) (Off.cons (hP.nth 0 rfl) Off.nil)))))))))))) hS)⟩ (kL h hk_80)))
 have h := if_f h hb_127
 refine kQ ?_
 refine kx (kx ?_)
 have h := kG h hk_80
 refine kR ?_
 refine ka (ke (ke (kc (kb 1 rfl ?_))))
 refine ki (kt rfl rfl (b_pneN Tryz.underlying56 ba1 0)) rfl (kb 4 rfl ?_)
 refine kf (ka (wpC_condT rfl ?_))
 refine ke (ke (kc (kb 1 rfl ?_)))
 refine ki (kJ rfl) rfl (ki (kl (k := 0) Tryz.underlying62 rfl rfl nz4 rfl) rfl (ki (ku Tryz.underlying4 rfl rfl ((hA.rb 1 rfl).cell hS.fr 0 rfl)) rfl (kf (ka ?_))))
 refine ko rfl (fun hb_126 => ?_) (fun hb_126 => ?_)
 ·have h := if_t h hb_126
  refine kc (kb 2 rfl ?_)
  cases h
 have h := if_f h hb_126
 refine kr (ka (ke (kc (kW (kE (cs := [vB false, .slice none 0 0]) tz62 rfl hS) rfl ?_))))
 rintro _ w ⟨b_108, rfl, hS⟩
 refine kb 2 rfl ?_
 replace hS := hS.nil e32
 have hG := hS.pick (os' := [OE.bx b_108 [vB false, .slice none 0 0], own e32 (.slice none 0 0) []] ++ [OE.bx ba0 [vB a0_0, va0_1], own e32 va0_1 a0_1, OE.bx ba1 [vB a1_0, va1_1], own e32 va1_1 a1_1]) [1, 0, 2, 3, 4, 5] (by decide) rfl
 obtain ⟨x_111, hx_111, h⟩ := kg h
 refine kk (by kernel_rfl) rfl (c_bignum_Int_Mul _ false [] a3_0 a3_1 x_73 x_74 (.slice none 0 0) va3_1 v_75 b_108 ba3 b_72 _ hG.give ((hA.rp 0 rfl).give (Nat.le_of_ble_eq_true rfl) hG) ((hA.rb 1 rfl).give hG) ((hA.rp 8 rfl).give (Nat.le_of_ble_eq_true rfl) hG) ((hA.rb 9 rfl).give hG) _ hx_111) rfl ?_
 rintro _ w ⟨v_112, rfl, hS1⟩
 have hS := hG.back hS1
 refine kb 1 rfl ?_
 refine kf (ka (ke (kc (kb 3 rfl ?_))))
 have hG := hS.pick (os' := [OE.bx b_108 [vB x_111.1, v_112], own e32 v_112 x_111.2] ++ [OE.bx ba0 [vB a0_0, va0_1], own e32 va0_1 a0_1, OE.bx ba1 [vB a1_0, va1_1], own e32 va1_1 a1_1]) [0, 1, 2, 3, 4, 5] (by decide) rfl
 obtain ⟨x_114, hx_114, h⟩ := kg h
 refine kk (by kernel_rfl) rfl (c_bignum_Int_Sub_a20 _ x_111.1 x_111.2 x_65 x_66 v_112 v_67 b_108 b_64 _ hG.give ((hA.rp 4 rfl).give (Nat.le_of_ble_eq_true rfl) hG) ((hA.rb 5 rfl).give hG) _ hx_114) rfl ?_
 rintro _ w ⟨v_115, rfl, hS1⟩
 have hS := hG.back hS1
 refine kf (ka (ke (kc (kb 3 rfl ?_))))
 have hG := hS.pick (os' := [OE.bx b_108 [vB x_114.1, v_115], own e32 v_115 x_114.2] ++ [OE.bx ba0 [vB a0_0, va0_1], own e32 va0_1 a0_1, OE.bx ba1 [vB a1_0, va1_1], own e32 va1_1 a1_1]) [0, 1, 2, 3, 4, 5] (by decide) rfl
 obtain ⟨x_117, hx_117, h⟩ := kg h
 refine kk (by kernel_rfl) rfl (c_bignum_Int_Quo_a10 _ x_114.1 x_114.2 a4_0 a4_1 v_115 va4_1 b_108 ba4 _ hG.give ((hA.rp 2 rfl).give (Nat.le_of_ble_eq_true rfl) hG) ((hA.rb 3 rfl).give hG) _ hx_117) rfl ?_
 rintro _ w ⟨v_118, rfl, hS1⟩
 have hS := hG.back hS1
 refine kf (ka (ke (ke (kc (kb 1 rfl ?_)))))
 refine ki (kt rfl rfl (b_pnnN Tryz.underlying56)) rfl (kf (ka (wpC_condF rfl ?_)))
 refine kr (ka (ke (kc (kb 1 rfl ?_))))
 refine ki (kt rfl rfl (b_pneN Tryz.underlying56 ba1 0)) rfl (kf (ka (wpC_condT rfl ?_)))
 refine kc (kb 2 rfl ?_)
 have hG := hS.pick (os' := [OE.bx ba1 [vB a1_0, va1_1], own e32 va1_1 a1_1] ++ [OE.bx b_108 [vB x_117.1, v_118], own e32 v_118 x_117.2, OE.bx ba0 [vB a0_0, va0_1], own e32 va0_1 a0_1]) [4, 5, 0, 1, 2, 3] (by decide) rfl
 obtain ⟨x_120, hx_120, h⟩ := kg h
 refine kk (by kernel_rfl) rfl (c_bignum_Int_Set _ a1_0 a1_1 x_73 x_74 va1_1 v_75 ba1 b_72 _ hG.give ((hA.rp 8 rfl).give (Nat.le_of_ble_eq_true rfl) hG) ((hA.rb 9 rfl).give hG) _ hx_120) rfl ?_
 rintro _ w ⟨v_121, rfl, hS1⟩
 have hS := hG.back hS1
 refine kf (ka (ke (kc (kb 2 rfl ?_))))
 have hG := hS.pick (os' := [OE.bx ba0 [vB a0_0, va0_1], own e32 va0_1 a0_1] ++ [OE.bx ba1 [vB x_120.1, v_121], own e32 v_121 x_120.2, OE.bx b_108 [vB x_117.1, v_118], own e32 v_118 x_117.2]) [4, 5, 0, 1, 2, 3] (by decide) rfl
 obtain ⟨x_123, hx_123, h⟩ := kg h
 refine kk (by kernel_rfl) rfl (c_bignum_Int_Set _ a0_0 a0_1 x_65 x_66 va0_1 v_67 ba0 b_64 _ hG.give ((hA.rp 4 rfl).give (Nat.le_of_ble_eq_true rfl) hG) ((hA.rb 5 rfl).give hG) _ hx_123) rfl ?_
 rintro _ w ⟨v_124, rfl, hS1⟩
 have hS := hG.back hS1
 refine kb 1 rfl ?_
 refine kf (ka (kq ?_))
 cases h
 replace hS := hZ.st hS
 exact ky rfl rfl ⟨v_124, v_121, rfl, hS.pick [0, 1, 2, 3] (by decide) rfl⟩
theorem c_bignum_Int_ModInverse (w0 : World) (a0_0 : Bool) (a0_1 : List UInt32) (a1_0 : Bool) (a1_1 : List UInt32) (a2_0 : Bool) (a2_1 : List UInt32) (va0_1 : Value) (va1_1 : Value) (va2_1 : Value) (ba0 : Nat) (ba1 : Nat) (ba2 : Nat) (S : List Nat) (hS : St S w0 w0 [OE.bx ba0 [vB a0_0, va0_1], own e32 va0_1 a0_1]) (ha1_1 : RP S w0 e32 va1_1 a1_1) (hBa1 : RB S w0 ba1 [vB a1_0, va1_1]) (ha2_1 : RP S w0 e32 va2_1 a2_1) (hBa2 : RB S w0 ba2 [vB a2_0, va2_1]) (r : Bool × List UInt32)
  (h : F.bignum_Int_ModInverse a0_0 a0_1 a1_0 a1_1 a2_0 a2_1 = some r) : Calls Tryz.prog 84 #[pB ba0 0, pB ba1 0, pB ba2 0] w0 (Ret fun v w => ∃ u0_1 : Value, v = pB ba0 0 ∧ St S w0 w [OE.bx ba0 [vB r.1, u0_1], own e32 u0_1 r.2]) := by
 refine kz 32 Tryz.func84 rfl rfl rfl ?_
 refine kn [(0, pB ba0 0), (1, pB ba1 0), (2, pB ba2 0)] ⟨rfl, rfl, rfl, trivial⟩ ?_
 unfold F.bignum_Int_ModInverse at h
 refine ke (kc (kb 1 rfl ?_))
 refine kf (ka (ke (kc (kW (kE (cs := [vB false, .slice none 0 0]) tz62 rfl hS) rfl ?_))))
 rintro _ w ⟨b_3, rfl, hS⟩
 refine kb 1 rfl ?_
 replace hS := hS.nil e32
 have hG := hS.pick (os' := [OE.bx b_3 [vB false, .slice none 0 0], own e32 (.slice none 0 0) []] ++ [OE.bx ba0 [vB a0_0, va0_1], own e32 va0_1 a0_1]) [1, 0, 2, 3] (by decide) rfl
 obtain ⟨x_6, hx_6, h⟩ := kg h
 refine kk (by kernel_rfl) rfl (c_bignum_Int_Abs _ false [] a2_0 a2_1 (.slice none 0 0) va2_1 b_3 ba2 _ hG.give (ha2_1.give (Nat.le_of_ble_eq_true rfl) hG) (hBa2.give hG) _ hx_6) rfl ?_
 rintro _ w ⟨v_7, rfl, hS1⟩
 have hS := hG.back hS1
 refine kb 1 rfl ?_
 refine kf (ka (ke (kc (kW (kE (cs := [vB false, .slice none 0 0]) tz62 rfl hS) rfl ?_))))
 rintro _ w ⟨b_9, rfl, hS⟩
 refine kb 2 rfl ?_
 replace hS := hS.nil e32
 have hG := hS.pick (os' := [OE.bx b_9 [vB false, .slice none 0 0], own e32 (.slice none 0 0) []] ++ [OE.bx b_3 [vB x_6.1, v_7], own e32 v_7 x_6.2, OE.bx ba0 [vB a0_0, va0_1], own e32 va0_1 a0_1]) [1, 0, 2, 3, 4, 5] (by decide) rfl
 obtain ⟨x_12, hx_12, h⟩ := kg h
 refine kk (by kernel_rfl) rfl (c_bignum_Int_Mod _ false [] a1_0 a1_1 x_6.1 x_6.2 (.slice none 0 0) va1_1 v_7 b_9 ba1 b_3 _ hG.give (ha1_1.give (Nat.le_of_ble_eq_true rfl) hG) (hBa1.give hG) (hG.giveO 1 rfl) (hG.giveB 0 rfl) _ hx_12) rfl ?_
 rintro _ w ⟨v_13, rfl, hS1⟩
 have hS := hG.back hS1
 refine kb 1 rfl ?_
 refine kf (ka (ke (kc (kW (kE (cs := [vB false, .slice none 0 0]) tz62 rfl hS) rfl ?_))))
 rintro _ w ⟨b_15, rfl, hS⟩
 refine kb 1 rfl ?_
 refine kf (ka (ke (kc (kW (kE (cs := [vB false, .slice none 0 0]) tz62 rfl hS) rfl ?_))))
 rintro _ w ⟨b_17, rfl, hS⟩
 refine kb 3 rfl ?_
 replace hS := hS.nil e32
 replace hS := hS.nil e32
 have hG := hS.pick (os' := [OE.bx b_17 [vB false, .slice none 0 0], own e32 (.slice none 0 0) [], OE.bx b_15 [vB false, .slice none 0 0], own e32 (.slice none 0 0) []] ++ [OE.bx b_9 [vB x_12.1, v_13], own e32 v_13 x_12.2, OE.bx b_3 [vB x_6.1, v_7], own e32 v_7 x_6.2, OE.bx ba0 [vB a0_0, va0_1], own e32 va0_1 a0_1]) [2, 1, 3, 0, 4, 5, 6, 7, 8, 9] (by decide) rfl
 obtain ⟨x_21, hx_21, h⟩ := kg h
 refine kk (by kernel_rfl) rfl (c_bignum_Int_GCD _ false [] false [] x_12.1 x_12.2 x_6.1 x_6.2 (.slice none 0 0) (.slice none 0 0) v_13 v_7 b_17 b_15 b_9 b_3 _ hG.give (hG.giveO 1 rfl) (hG.giveB 0 rfl) (hG.giveO 3 rfl) (hG.giveB 2 rfl) _ hx_21) rfl ?_
 rintro _ w ⟨v_22, v_24, rfl, hS1⟩
 have hS := hG.back hS1
 refine kb 1 rfl ?_
 refine kf (ka (ke (ke (kc (kb 1 rfl ?_)))))
 obtain ⟨x_26, hx_26, h⟩ := kg h
 refine kk (by kernel_rfl) rfl (c_bignum_NewInt _ 1    _ hx_26) rfl ?_
 rintro _ w ⟨v_27, b_29, rfl, hS1⟩
 have hS := hS.call hS1
 obtain ⟨x_31, hx_31, h⟩ := kg h
 refine kk (by kernel_rfl) rfl (c_bignum_Int_Cmp _ x_21.1 x_21.2.1 x_26.1 x_26.2 v_22 v_27 b_17 b_29 (hS.ro 3 rfl).rp (hS.rb 2 rfl) (hS.ro 1 rfl).rp (hS.rb 0 rfl) _ hx_31) rfl ?_
 rintro _ w ⟨rfl, hS1⟩
 have hS := hS.call hS1
 refine kb 1 rfl ?_
 refine kf (ka ?_)
 refine ko rfl (fun hb_35 => ?_) (fun hb_35 => ?_)
 ·have h := if_t h hb_35
  refine ke (kc (kb 1 rfl ?_))
  refine kf (ka (kq (kv ?_)))
  cases h
 have h := if_f h hb_35
 refine kr (ka (ke (kc (kb 3 rfl ?_))))
 have hG := hS.pick (os' := [OE.bx ba0 [vB a0_0, va0_1], own e32 va0_1 a0_1] ++ [OE.bx b_29 [vB x_26.1, v_27], own e32 v_27 x_26.2, OE.bx b_17 [vB x_21.1, v_22], own e32 v_22 x_21.2.1, OE.bx b_15 [vB x_21.2.2.1, v_24], own e32 v_24 x_21.2.2.2, OE.bx b_9 [vB x_12.1, v_13], own e32 v_13 x_12.2, OE.bx b_3 [vB x_6.1, v_7], own e32 v_7 x_6.2]) [10, 11, 0, 1, 2, 3, 4, 5, 6, 7, 8, 9] (by decide) rfl
 obtain ⟨x_32, hx_32, h⟩ := kg h
 refine kk (by kernel_rfl) rfl (c_bignum_Int_Mod _ a0_0 a0_1 x_21.2.2.1 x_21.2.2.2 x_6.1 x_6.2 va0_1 v_24 v_7 ba0 b_15 b_3 _ hG.give (hG.giveO 5 rfl) (hG.giveB 4 rfl) (hG.giveO 9 rfl) (hG.giveB 8 rfl) _ hx_32) rfl ?_
 rintro _ w ⟨v_33, rfl, hS1⟩
 have hS := hG.back hS1
 refine kb 1 rfl ?_
 refine kf (ka (kq ?_))
 cases h
 exact ky rfl rfl ⟨v_33, rfl, hS.pick [0, 1] (by decide) rfl⟩
theorem c_bignum_Int_BitLen (w0 : World) (a0_0 : Bool) (a0_1 : List UInt32) (va0_1 : Value) (ba0 : Nat) (ha0_1 : RP [] w0 e32 va0_1 a0_1) (hBa0 : RB [] w0 ba0 [vB a0_0, va0_1]) (r : Int)
  (h : F.bignum_Int_BitLen a0_0 a0_1 = some r) : Calls Tryz.prog 119 #[pB ba0 0] w0 (Ret fun v w => v = vI r ∧ St [] w0 w []) := by
 refine kz 8 Tryz.func119 rfl rfl rfl ?_
 have hS := St.start w0
 refine kn [(0, pB ba0 0)] ⟨rfl, trivial⟩ ?_
 unfold F.bignum_Int_BitLen at h
 refine ke (kc (kb 1 rfl ?_))
 refine kf (ka (ke (kc (kb 1 rfl ?_))))
 refine ki (kJ rfl) rfl (ki (kl (k := 1) Tryz.underlying62 rfl rfl nz24 rfl) rfl (ki (ku Tryz.underlying24 rfl rfl (hBa0.cell hS.fr 1 rfl)) rfl ?_))
 obtain ⟨x_1, hx_1, h⟩ := kg h
 refine kk (by kernel_rfl) rfl (c_bignum_length _ a0_1 va0_1  (ha0_1.now hS.fr).rp _ hx_1) rfl ?_
 rintro _ w ⟨rfl, hS1⟩
 have hS := hS.call hS1
 refine kb 1 rfl ?_
 refine kf (ka (kq ?_))
 cases h
 exact ky rfl rfl ⟨rfl, hS⟩
theorem c_bignum_bit (w0 : World) (a0 : List UInt32) (a1 : Int) (va0 : Value) (ha0 : RP [] w0 e32 va0 a0) (r : UInt64)
  (h : F.bignum_bit a0 a1 = some r) : Calls Tryz.prog 141 #[va0, vI a1] w0 (Ret fun v w => v = v64 r ∧ St [] w0 w []) := by
 refine kz 25 Tryz.func141 rfl rfl rfl ?_
 have hS := St.start w0
 refine kn [(0, va0), (1, vI a1)] ⟨rfl, rfl, trivial⟩ ?_
 unfold F.bignum_bit at h
 refine ke (kc (kb 1 rfl ?_))
 refine kf (ka (ke ?_))
 refine kO (r := r) (fun (g : Bool) L w => L = [(0, va0), (1, vI a1), (13, vB g)] ∧ St [] w0 w []) (F.bignum_bit_K1 a0 a1) ?_ ?_
 rotate_left
 ·intro hK_3
  refine kc (kb 3 rfl ?_)
  cases hb_1 : (decide (a1 < 0))
  case true =>
   have h := if_t h hb_1
   try simp only [hb_1]
   refine kb 6 rfl ?_
   refine kf (ka ?_)
   exact kn _ (by exact ⟨rfl, rfl, rfl, trivial⟩) (hK_3 true _ _ ⟨rfl, hS⟩ h)
  case false =>
   have h := if_f h hb_1
   try simp only [hb_1]
   refine kb 1 rfl ?_
   refine kT (t := 7) rfl rfl (kt rfl rfl (b_iquo _ a1 32 (by decide))) rfl ?_
   refine kb 1 rfl ?_
   refine kT (t := 7) rfl rfl (kB Tryz.underlying24 rfl (ha0.now hS.fr)) rfl (kb 2 rfl ?_)
   refine kf (ka ?_)
   exact kn _ (by exact ⟨rfl, rfl, rfl, trivial⟩) (hK_3 (decide ((a0.length : Int) ≤ (wI (Int.tdiv a1 32)))) _ _ ⟨rfl, hS⟩ h)
 rintro x_2 L w hJ h
 try dsimp only at hJ
 obtain ⟨rfl, hS⟩ := hJ
 unfold F.bignum_bit_K1 at h
 refine ko rfl (fun hb_5 => ?_) (fun hb_5 => ?_)
 ·have h := if_t h hb_5
  refine ke (kc (kb 1 rfl ?_))
  refine kf (ka (kq (kv ?_)))
  cases h
  exact ky rfl rfl ⟨rfl, hS⟩
 have h := if_f h hb_5
 refine kr (ka (ke (kc (kb 2 rfl ?_))))
 refine ki (kt rfl rfl (b_iquo _ a1 32 (by decide))) rfl ?_
 obtain ⟨x_4, hx_4, h⟩ := kg h
 refine ki (G_ix Tryz.underlying24 ti52 rfl rfl (ha0.now hS.fr) hx_4) rfl (ki (G_load Tryz.underlying52 rfl rfl (ha0.now hS.fr) hx_4 rfl) rfl (kb 1 rfl ?_))
 refine ki (kF rfl (cv_i_64 Tryz.underlying3 Tryz.underlying92 a1)) rfl ?_
 refine ki (kt rfl rfl (b_rem64 _ (UInt64.ofInt a1) 32 (by decide))) rfl ?_
 refine ki (kt rfl rfl (b_shr32_64 _ x_4 ((UInt64.ofInt a1) % 32))) rfl (ki (kF rfl (cv_32_64 Tryz.underlying52 Tryz.underlying92 (shr32 x_4 (((UInt64.ofInt a1) % 32).toNat)))) rfl (ki (kt rfl rfl (b_and64 _ ((shr32 x_4 (((UInt64.ofInt a1) % 32).toNat)).toUInt64) 1)) rfl (kb 1 rfl ?_)))
 refine kf (ka (kq ?_))
 cases h
 exact ky rfl rfl ⟨rfl, hS⟩
theorem c_bignum_Int_Bit (w0 : World) (a0_0 : Bool) (a0_1 : List UInt32) (a1 : Int) (va0_1 : Value) (ba0 : Nat) (ha0_1 : RP [] w0 e32 va0_1 a0_1) (hBa0 : RB [] w0 ba0 [vB a0_0, va0_1]) (r : UInt64)
  (h : F.bignum_Int_Bit a0_0 a0_1 a1 = some r) : Calls Tryz.prog 120 #[pB ba0 0, vI a1] w0 (Ret fun v w => v = v64 r ∧ St [] w0 w []) := by
 refine kz 27 Tryz.func120 rfl rfl rfl ?_
 have hS := St.start w0
 refine kn [(0, pB ba0 0), (1, vI a1)] ⟨rfl, rfl, trivial⟩ ?_
 unfold F.bignum_Int_Bit at h
 refine ke (kc (kb 1 rfl ?_))
 refine kf (ka (ke (ke (kc (kb 2 rfl ?_)))))
 refine kf (ka ?_)
 refine ko rfl (fun hb_9 => ?_) (fun hb_9 => ?_)
 ·have h := if_t h hb_9
  refine ke (kc (kb 1 rfl ?_))
  refine kf (ka (kq (kv ?_)))
  cases h
  exact ky rfl rfl ⟨rfl, hS⟩
 have h := if_f h hb_9
 refine kr (ka (ke (ke (kc (kb 1 rfl ?_)))))
 refine ki (kJ rfl) rfl (ki (kl (k := 0) Tryz.underlying62 rfl rfl nz4 rfl) rfl (ki (ku Tryz.underlying4 rfl rfl (hBa0.cell hS.fr 0 rfl)) rfl (kb 1 rfl ?_)))
 refine kf (ka ?_)
 refine ko rfl (fun hb_8 => ?_) (fun hb_8 => ?_)
 ·have h := if_t h hb_8
  refine ke (kc (kb 1 rfl ?_))
  refine ki (kJ rfl) rfl (ki (kl (k := 1) Tryz.underlying62 rfl rfl nz24 rfl) rfl (ki (ku Tryz.underlying24 rfl rfl (hBa0.cell hS.fr 1 rfl)) rfl (kb 1 rfl ?_)))
  obtain ⟨x_1, hx_1, h⟩ := kg h
  refine kk (by kernel_rfl) rfl (c_bignum_bit _ a0_1 a1 va0_1  (ha0_1.now hS.fr).rp _ hx_1) rfl ?_
  rintro _ w ⟨rfl, hS1⟩
  have hS := hS.call hS1
  refine kb 1 rfl ?_
  refine kf (ka (kq (kv ?_)))
  cases h
  exact ky rfl rfl ⟨rfl, hS⟩
 have h := if_f h hb_8
 refine kr (ka (ke (kc (kb 1 rfl ?_))))
 refine ki (kJ rfl) rfl (ki (kl (k := 1) Tryz.underlying62 rfl rfl nz24 rfl) rfl (ki (ku Tryz.underlying24 rfl rfl (hBa0.cell hS.fr 1 rfl)) rfl ?_))
 refine kW (OpX_lit (e := e32) (l := ([1] : List UInt32)) (vs := [v32 1]) Tryz.underlying24 ti52 rfl rfl rfl rfl (by decide) (by decide) hS) rfl ?_
 rintro v_2 w hS
 obtain ⟨x_4, hx_4, h⟩ := kg h
 refine kk (by kernel_rfl) rfl (c_bignum_sub _ a0_1 ([1] : List UInt32) va0_1 v_2  (ha0_1.now hS.fr).rp (hS.ro 0 rfl).rp _ hx_4) rfl ?_
 rintro v_5 w hS1
 have hS := hS.call hS1
 refine kb 1 rfl ?_
 obtain ⟨x_7, hx_7, h⟩ := kg h
 refine kk (by kernel_rfl) rfl (c_bignum_bit _ x_4 a1 v_5  (hS.ro 0 rfl).rp _ hx_7) rfl ?_
 rintro _ w ⟨rfl, hS1⟩
 have hS := hS.call hS1
 refine ki (kt rfl rfl (b_xor64 _ x_7 1)) rfl (kb 1 rfl ?_)
 refine kf (ka (kq ?_))
 cases h
 exact ky rfl rfl ⟨rfl, hS.pick [] (by decide) rfl⟩
end Go.Proofs
