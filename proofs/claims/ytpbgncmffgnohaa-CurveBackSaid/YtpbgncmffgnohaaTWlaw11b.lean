import Derived.Test.YtpbgncmffgnohaaTW0
import Derived.Test.YtpbgncmffgnohaaGkFlaw11
import Derived.Test.YtpbgncmffgnohaaTWcurvee
import Derived.Test.YtpbgncmffgnohaaTWlaw11a
import Derived.Test.YtpbgncmffgnohaaTWnat
set_option linter.unusedVariables false
set_option linter.unusedSimpArgs false
set_option linter.unusedVariables false
set_option maxRecDepth 4000
namespace Go.Proofs
open Go Go.RowKit Go.Gk
theorem c_law11_started (w0 : World)    (r : Bool)
  (h : F.law11_started  = some r) : Calls Try.prog 22 #[] w0 (Ret fun v w => v = vB r ∧ St [] w0 w []) := by
 refine kz 70 Try.func22 rfl rfl rfl ?_
 have hS := St.start w0
 refine km [] trivial ?_
 unfold F.law11_started at h
 refine kd (kc (kb 1 rfl ?_))
 refine ke (ka (kd (kc ?_)))
 obtain ⟨x_1, hx_1, h⟩ := kf h
 refine kj (by kernel_rfl) rfl (c_curve_Base _ 1    _ hx_1) rfl ?_
 rintro _ w ⟨v_2, v_4, rfl, hS1⟩
 have hS := hS.call hS1
 refine kW (kE (cs := [.slice none 0 0, .slice none 0 0, vB false]) tz26 rfl hS) rfl ?_
 rintro _ w ⟨b_6, rfl, hS⟩
 refine kX (kM (i := 0) (us := [v_2, v_4, vB x_1.2.2]) rfl sz26 rfl rfl rfl ⟨(hS.ro 1 rfl).one, (hS.ro 2 rfl).one, rfl, trivial⟩ rfl hS) ?_
 intro w hS
 refine ke (ka (kd (kc (kh (kH (us := [v_2, v_4, vB x_1.2.2]) Try.underlying26 rfl sz26 rfl (hS.bxs 0 rfl rfl)) rfl (kh (kH (us := [v_2, v_4, vB x_1.2.2]) Try.underlying26 rfl sz26 rfl (hS.bxs 0 rfl rfl)) rfl ?_)))))
 obtain ⟨x_8, hx_8, h⟩ := kf h
 refine kj (by kernel_rfl) rfl (c_curve_Add _ 1 x_1.1 x_1.2.1 x_1.2.2 x_1.1 x_1.2.1 x_1.2.2 v_2 v_4 v_2 v_4  (hS.ro 1 rfl).rp (hS.ro 2 rfl).rp (hS.ro 1 rfl).rp (hS.ro 2 rfl).rp _ hx_8) rfl ?_
 rintro _ w ⟨v_9, v_11, rfl, hS1⟩
 have hS := hS.call hS1
 refine kb 3 rfl ?_
 refine kW (kE (cs := [.slice none 0 0, .slice none 0 0, vB false]) tz26 rfl hS) rfl ?_
 rintro _ w ⟨b_13, rfl, hS⟩
 refine kX (kM (i := 0) (us := [v_9, v_11, vB x_8.2.2.1]) rfl sz26 rfl rfl rfl ⟨(hS.ro 1 rfl).one, (hS.ro 2 rfl).one, rfl, trivial⟩ rfl hS) ?_
 intro w hS
 refine kb 1 rfl ?_
 refine ke (ka (kd (kc ?_)))
 refine kW (OpX_lit (e := e32) (l := ([2] : List UInt32)) (vs := [v32 2]) Try.underlying24 ti52 rfl rfl rfl rfl (by decide) (by decide) hS) rfl ?_
 rintro v_15 w hS
 refine kh (kH (us := [v_2, v_4, vB x_1.2.2]) Try.underlying26 rfl sz26 rfl (hS.bxs 4 rfl rfl)) rfl ?_
 obtain ⟨x_17, hx_17, h⟩ := kf h
 refine kj (by kernel_rfl) rfl (c_curve_Mul _ 1 ([2] : List UInt32) x_1.1 x_1.2.1 x_1.2.2 v_15 v_2 v_4  (hS.ro 0 rfl).rp (hS.ro 5 rfl).rp (hS.ro 6 rfl).rp _ hx_17) rfl ?_
 rintro _ w ⟨v_18, v_20, rfl, hS1⟩
 have hS := hS.call hS1
 refine kb 3 rfl ?_
 refine kW (kE (cs := [.slice none 0 0, .slice none 0 0, vB false]) tz26 rfl hS) rfl ?_
 rintro _ w ⟨b_22, rfl, hS⟩
 refine kX (kM (i := 0) (us := [v_18, v_20, vB x_17.2.2.1]) rfl sz26 rfl rfl rfl ⟨(hS.ro 1 rfl).one, (hS.ro 2 rfl).one, rfl, trivial⟩ rfl hS) ?_
 intro w hS
 refine kb 1 rfl ?_
 refine ke (ka (kd (kc (kh (kH (us := [v_2, v_4, vB x_1.2.2]) Try.underlying26 rfl sz26 rfl (hS.bxs 7 rfl rfl)) rfl (kh (OpV_build (vs := []) (cells := [.slice none 0 0, .slice none 0 0, vB false]) rfl lay26 trivial rfl) rfl ?_)))))
 obtain ⟨x_24, hx_24, h⟩ := kf h
 refine kj (by kernel_rfl) rfl (c_curve_Add _ 1 x_1.1 x_1.2.1 x_1.2.2 [] [] false v_2 v_4 (.slice none 0 0) (.slice none 0 0)  (hS.ro 8 rfl).rp (hS.ro 9 rfl).rp (RO.nil _ e32).rp (RO.nil _ e32).rp _ hx_24) rfl ?_
 rintro _ w ⟨v_25, v_27, rfl, hS1⟩
 have hS := hS.call hS1
 refine kb 3 rfl ?_
 refine kW (kE (cs := [.slice none 0 0, .slice none 0 0, vB false]) tz26 rfl hS) rfl ?_
 rintro _ w ⟨b_29, rfl, hS⟩
 refine kX (kM (i := 0) (us := [v_25, v_27, vB x_24.2.2.1]) rfl sz26 rfl rfl rfl ⟨(hS.ro 1 rfl).one, (hS.ro 2 rfl).one, rfl, trivial⟩ rfl hS) ?_
 intro w hS
 refine kb 1 rfl ?_
 refine ke (ka (kd (kc (kb 3 rfl ?_))))
 cases hb_31 : (x_8.2.2.2 == 0)
 case true =>
  have h := if_t h hb_31
  try simp only [hb_31]
  refine kb 4 rfl ?_
  cases hb_32 : (x_17.2.2.2 == 0)
  case true =>
   have h := if_t h hb_32
   try simp only [hb_32]
   refine kb 4 rfl ?_
   cases hb_33 : (x_24.2.2.2 == 93)
   case true =>
    have h := if_t h hb_33
    try simp only [hb_33]
    refine kT (t := 37) rfl rfl (kH (us := [v_9, v_11, vB x_8.2.2.1]) Try.underlying26 rfl sz26 rfl (hS.bxs 7 rfl rfl)) rfl (kT (t := 37) rfl rfl (kH (us := [v_18, v_20, vB x_17.2.2.1]) Try.underlying26 rfl sz26 rfl (hS.bxs 3 rfl rfl)) rfl ?_)
    obtain ⟨x_34, hx_34, h⟩ := kf h
    refine wpR_gcall (t := 37) rfl rfl (by kernel_rfl) rfl (c_law11_same _ x_8.1 x_8.2.1 x_8.2.2.1 x_17.1 x_17.2.1 x_17.2.2.1 v_9 v_11 v_18 v_20  (hS.ro 8 rfl).rp (hS.ro 9 rfl).rp (hS.ro 4 rfl).rp (hS.ro 5 rfl).rp _ hx_34) rfl ?_
    rintro _ w ⟨rfl, hS1⟩
    have hS := hS.call hS1
    refine kb 2 rfl ?_
    cases hb_35 : x_34
    case true =>
     have h := if_t h hb_35
     try simp only [hb_35]
     refine kT (t := 42) rfl rfl (kk (k := 0) Try.underlying26 rfl rfl nz24 rfl) rfl (kT (t := 42) rfl rfl (ku Try.underlying24 rfl rfl (hS.bxc 7 rfl 0)) rfl (kT (t := 42) rfl rfl (kB Try.underlying24 rfl (hS.ro 8 rfl)) rfl (kb 3 rfl ?_)))
     cases hb_36 : ((x_8.1.length : Int) == 8)
     case true =>
      have h := if_t h hb_36
      try simp only [hb_36]
      refine kT (t := 48) rfl rfl (kk (k := 0) Try.underlying26 rfl rfl nz24 rfl) rfl (kT (t := 48) rfl rfl (ku Try.underlying24 rfl rfl (hS.bxc 7 rfl 0)) rfl ?_)
      obtain ⟨x_37, hx_37, h⟩ := kf h
      refine kT (t := 48) rfl rfl (G_ix Try.underlying24 ti52 rfl rfl (hS.ro 8 rfl) hx_37) rfl (kT (t := 48) rfl rfl (G_load Try.underlying52 rfl rfl (hS.ro 8 rfl) hx_37 rfl) rfl (kT (t := 48) rfl rfl (kr rfl rfl (b_eql32 _ x_37 1197906296)) rfl (kb 2 rfl ?_)))
      cases hb_38 : (x_37 == 1197906296)
      case true =>
       have h := if_t h hb_38
       try simp only [hb_38]
       refine kT (t := 55) rfl rfl (kk (k := 1) Try.underlying26 rfl rfl nz24 rfl) rfl (kT (t := 55) rfl rfl (ku Try.underlying24 rfl rfl (hS.bxc 7 rfl 1)) rfl ?_)
       obtain ⟨x_39, hx_39, h⟩ := kf h
       refine kT (t := 55) rfl rfl (G_ix Try.underlying24 ti52 rfl rfl (hS.ro 9 rfl) hx_39) rfl (kT (t := 55) rfl rfl (G_load Try.underlying52 rfl rfl (hS.ro 9 rfl) hx_39 rfl) rfl (kT (t := 55) rfl rfl (kr rfl rfl (b_eql32 _ x_39 578319313)) rfl (kb 2 rfl ?_)))
       cases hb_40 : (x_39 == 578319313)
       case true =>
        have h := if_t h hb_40
        try simp only [hb_40]
        refine kT (t := 62) rfl rfl (kH (us := [v_9, v_11, vB x_8.2.2.1]) Try.underlying26 rfl sz26 rfl (hS.bxs 7 rfl rfl)) rfl ?_
        obtain ⟨x_41, hx_41, h⟩ := kf h
        refine wpR_gcall (t := 62) rfl rfl (by kernel_rfl) rfl (c_curve_On _ 1 x_8.1 x_8.2.1 x_8.2.2.1 v_9 v_11  (hS.ro 8 rfl).rp (hS.ro 9 rfl).rp _ hx_41) rfl ?_
        rintro _ w ⟨rfl, hS1⟩
        have hS := hS.call hS1
        refine kb 2 rfl ?_
        cases hb_42 : x_41
        case true =>
         have h := if_t h hb_42
         try simp only [hb_42]
         obtain ⟨x_43, hx_43, h⟩ := kf h
         refine wpR_gcall (t := 66) rfl rfl (by kernel_rfl) rfl (c_curve_Base _ 2    _ hx_43) rfl ?_
         rintro _ w ⟨v_44, v_46, rfl, hS1⟩
         have hS := hS.call hS1
         obtain ⟨x_48, hx_48, h⟩ := kf h
         refine wpR_gcall (t := 66) rfl rfl (by kernel_rfl) rfl (c_curve_On _ 2 x_43.1 x_43.2.1 x_43.2.2 v_44 v_46  (hS.ro 0 rfl).rp (hS.ro 1 rfl).rp _ hx_48) rfl ?_
         rintro _ w ⟨rfl, hS1⟩
         have hS := hS.call hS1
         refine kb 2 rfl ?_
         refine ke (ka (ko ?_))
         cases h
         exact ky rfl rfl ⟨rfl, hS.pick [] (by decide) rfl⟩
        case false =>
         have h := if_f h hb_42
         try simp only [hb_42]
         refine kb 4 rfl ?_
         refine ke (ka (ko ?_))
         cases h
         exact ky rfl rfl ⟨rfl, hS.pick [] (by decide) rfl⟩
       case false =>
        have h := if_f h hb_40
        try simp only [hb_40]
        refine kb 8 rfl ?_
        refine ke (ka (ko ?_))
        cases h
        exact ky rfl rfl ⟨rfl, hS.pick [] (by decide) rfl⟩
      case false =>
       have h := if_f h hb_38
       try simp only [hb_38]
       refine kb 15 rfl ?_
       refine ke (ka (ko ?_))
       cases h
       exact ky rfl rfl ⟨rfl, hS.pick [] (by decide) rfl⟩
     case false =>
      have h := if_f h hb_36
      try simp only [hb_36]
      refine kb 22 rfl ?_
      refine ke (ka (ko ?_))
      cases h
      exact ky rfl rfl ⟨rfl, hS.pick [] (by decide) rfl⟩
    case false =>
     have h := if_f h hb_35
     try simp only [hb_35]
     refine kb 28 rfl ?_
     refine ke (ka (ko ?_))
     cases h
     exact ky rfl rfl ⟨rfl, hS.pick [] (by decide) rfl⟩
   case false =>
    have h := if_f h hb_33
    try simp only [hb_33]
    refine kb 33 rfl ?_
    refine ke (ka (ko ?_))
    cases h
    exact ky rfl rfl ⟨rfl, hS.pick [] (by decide) rfl⟩
  case false =>
   have h := if_f h hb_32
   try simp only [hb_32]
   refine kb 37 rfl ?_
   refine ke (ka (ko ?_))
   cases h
   exact ky rfl rfl ⟨rfl, hS.pick [] (by decide) rfl⟩
 case false =>
  have h := if_f h hb_31
  try simp only [hb_31]
  refine kb 41 rfl ?_
  refine ke (ka (ko ?_))
  cases h
  exact ky rfl rfl ⟨rfl, hS.pick [] (by decide) rfl⟩
theorem c_law11_sameBytes (w0 : World) (a0 : List UInt8) (a1 : List UInt8) (va0 : Value) (va1 : Value) (ha0 : RP [] w0 e8 va0 a0) (ha1 : RP [] w0 e8 va1 a1) (r : Bool)
  (h : F.law11_sameBytes a0 a1 = some r) : Calls Try.prog 28 #[va0, va1] w0 (Ret fun v w => v = vB r ∧ St [] w0 w []) := by
 refine kz 26 Try.func28 rfl rfl rfl ?_
 have hS := St.start w0
 refine km [(0, va0), (1, va1)] ⟨rfl, rfl, trivial⟩ ?_
 unfold F.law11_sameBytes at h
 refine kd (kc (kb 1 rfl ?_))
 refine ke (ka (kd (kd (kc (kb 1 rfl ?_)))))
 refine kh (kB Try.underlying41 rfl (ha0.now hS.fr)) rfl (kb 1 rfl ?_)
 refine kh (kB Try.underlying41 rfl (ha1.now hS.fr)) rfl (kb 1 rfl ?_)
 refine ke (ka ?_)
 refine kn rfl (fun hb_10 => ?_) (fun hb_10 => ?_)
 ·have h := if_t h hb_10
  refine kd (kc (kb 1 rfl ?_))
  refine ke (ka (ko (kv ?_)))
  cases h
  exact ky rfl rfl ⟨rfl, hS⟩
 have h := if_f h hb_10
 refine kq (ka (kd (kd (kc (kb 1 rfl ?_)))))
 refine ke (ka (kw ?_))
 refine km [(0, va0), (1, va1), (5, vI 0)] ⟨rfl, rfl, rfl, trivial⟩ ?_
 refine kS (F.law11_sameBytes_L1 a0 a1) (fun (s : Int) L w => L = [(0, va0), (1, va1), (5, vI s)] ∧ St [] w0 w []) ?_ 0 ⟨rfl, hS⟩ h
 rintro k_9 x_1 L w q_4 hI ih_3 h hk_2
 try dsimp only at hI
 obtain ⟨rfl, hS⟩ := hI
 unfold F.law11_sameBytes_L1 at h
 refine kd (kd (kc (kb 2 rfl ?_)))
 refine kh (kB Try.underlying41 rfl (ha0.now hS.fr)) rfl (kb 1 rfl ?_)
 refine ke (ka ?_)
 refine kn rfl (fun hb_8 => ?_) (fun hb_8 => ?_)
 ·have h := if_t h hb_8
  refine kq (ka (kd (kw ?_)))
  refine kd ?_
  refine kN (fun w' => St [] w0 w' []) (fun _ => true) hmix (fun _ _ _ hf => hf.2) (fun _ _ hf => hf) (by kernel_rfl) ?_
  have hS := hS.drew
  show lxE _ _ _ _ _ _ _ [0, 1, 2, 3, 4, 5, 6, 7, 8] _ _
  refine ki hS rfl rfl (fun w hF => kl rfl) rfl (ki hS rfl rfl (fun w hF => kl rfl) rfl ?_)
  obtain ⟨x_5, hx_5, h⟩ := kf h
  refine ki hS rfl rfl (fun w hF => G_ix Try.underlying41 ti5 rfl rfl (ha0.now hF.fr) hx_5) rfl (ki hS rfl rfl (fun w hF => G_load Try.underlying5 rfl rfl (ha0.now hF.fr) hx_5 rfl) rfl (ki hS rfl rfl (fun w hF => kl rfl) rfl (ki hS rfl rfl (fun w hF => kl rfl) rfl ?_)))
  obtain ⟨x_6, hx_6, h⟩ := kf h
  refine ki hS rfl rfl (fun w hF => G_ix Try.underlying41 ti5 rfl rfl (ha1.now hF.fr) hx_6) rfl (ki hS rfl rfl (fun w hF => G_load Try.underlying5 rfl rfl (ha1.now hF.fr) hx_6 rfl) rfl (ki hS rfl rfl (fun w hF => kr rfl rfl (b_neq8 _ x_5 x_6)) rfl (kY hS ?_)))
  refine ka ?_
  refine kn rfl (fun hb_7 => ?_) (fun hb_7 => ?_)
  ·have h := if_t h hb_7
   refine kd (kc (kb 1 rfl ?_))
   refine ke (ka (ko (QE_blk_r ?_)))
   refine kv (kv ?_)
   have h := kG h hk_2
   refine QE_blk_r ?_
   refine kv ?_
   cases h
   exact ky rfl rfl ⟨rfl, hS⟩
  have h := if_f h hb_7
  refine kq (kK ?_)
  refine ka (kc (kb 3 rfl ?_))
  refine ke ?_
  exact QE_rnd (wpN_le _ (by exact ⟨rfl, rfl, rfl, trivial⟩) (ih_3 (wI (x_1 + 1)) _ _ ⟨rfl, hS⟩ (kL h hk_2)))
 have h := if_f h hb_8
 refine kQ ?_
 refine kx (kx ?_)
 have h := kG h hk_2
 refine kR ?_
 refine ka (kd (kc (kb 1 rfl ?_)))
 refine ke (ka (ko ?_))
 cases h
 exact ky rfl rfl ⟨rfl, hS⟩
theorem c_law11_CurveBack (w0 : World) (a0 : Int) (a1_0 : List UInt32) (a1_1 : List UInt32) (a1_2 : Bool) (a2 : List UInt8) (a3 : List UInt8) (va1_0 : Value) (va1_1 : Value) (va2 : Value) (va3 : Value) (ha1_0 : RP [] w0 e32 va1_0 a1_0) (ha1_1 : RP [] w0 e32 va1_1 a1_1) (ha2 : RP [] w0 e8 va2 a2) (ha3 : RP [] w0 e8 va3 a3) (r : Bool)
  (h : F.law11_CurveBack a0 a1_0 a1_1 a1_2 a2 a3 = some r) : Calls Try.prog 5 #[vI a0, .agg #[va1_0, va1_1, vB a1_2], va2, va3] w0 (Ret fun v w => v = vB r ∧ St [] w0 w []) := by
 refine kz 128 Try.func5 rfl rfl rfl ?_
 have hS := St.start w0
 refine km [(0, vI a0), (1, .agg #[va1_0, va1_1, vB a1_2]), (2, va2), (3, va3)] ⟨rfl, rfl, rfl, rfl, trivial⟩ ?_
 unfold F.law11_CurveBack at h
 refine kd (kc (kW (OpX_box (cs := [va1_0, va1_1, vB a1_2]) rfl rfl hS) rfl ?_))
 rintro _ w ⟨b_1, rfl, hS⟩
 refine kb 1 rfl ?_
 refine ke (ka (kd (kd (kc ?_))))
 obtain ⟨x_3, hx_3, h⟩ := kf h
 refine kj (by kernel_rfl) rfl (c_law11_started _     _ hx_3) rfl ?_
 rintro _ w ⟨rfl, hS1⟩
 have hS := hS.call hS1
 refine kb 1 rfl ?_
 refine ke (ka ?_)
 refine kn rfl (fun hb_59 => ?_) (fun hb_59 => ?_)
 ·have h := if_t h hb_59
  refine kd (kc (kb 1 rfl ?_))
  refine ke (ka (ko (kv ?_)))
  cases h
  exact ky rfl rfl ⟨rfl, hS.pick [] (by decide) rfl⟩
 have h := if_f h hb_59
 refine kq (ka (kd (kc (kb 1 rfl ?_))))
 refine kh (kH (us := [va1_0, va1_1, vB a1_2]) Try.underlying26 rfl sz26 rfl (hS.bxs 0 rfl rfl)) rfl ?_
 obtain ⟨x_4, hx_4, h⟩ := kf h
 refine kj (by kernel_rfl) rfl (c_curve_Encode _ a0 a1_0 a1_1 a1_2 va1_0 va1_1  (ha1_0.now hS.fr).rp (ha1_1.now hS.fr).rp _ hx_4) rfl ?_
 rintro _ w ⟨v_5, v_7, rfl, hS1⟩
 have hS := hS.call hS1
 refine kb 7 rfl ?_
 refine ke (ka ?_)
 refine kO (r := r) (fun (g : Unit) L w => L = [(0, vI a0), (2, va2), (3, va3)] ∧ St [] w0 w []) (F.law11_CurveBack_K1 a0 a2 a3) ?_ ?_
 rotate_left
 ·intro hK_37
  refine kO (r := r) (fun (g : Bool) L w => L = [(0, vI a0), (2, va2), (3, va3), (5, pB b_1 0), (9, v_5), (10, v_7), (11, vI x_4.2.2), (35, vB g)] ∧ St [] w0 w [OE.bx b_1 [va1_0, va1_1, vB a1_2], own e8 v_5 x_4.1, own e8 v_7 x_4.2.1]) (F.law11_CurveBack_K2 a0 a1_0 a1_1 x_4 a2 a3) ?_ ?_
  rotate_left
  ·intro hK_12
   refine kc (kb 1 rfl ?_)
   refine kh (kH (us := [va1_0, va1_1, vB a1_2]) Try.underlying26 rfl sz26 rfl (hS.bxs 2 rfl rfl)) rfl ?_
   obtain ⟨x_9, hx_9, h⟩ := kf h
   refine kj (by kernel_rfl) rfl (c_curve_On _ a0 a1_0 a1_1 a1_2 va1_0 va1_1  (ha1_0.now hS.fr).rp (ha1_1.now hS.fr).rp _ hx_9) rfl ?_
   rintro _ w ⟨rfl, hS1⟩
   have hS := hS.call hS1
   refine kb 2 rfl ?_
   cases hb_10 : (!x_9)
   case true =>
    have h := if_t h hb_10
    try simp only [hb_10]
    refine kb 3 rfl ?_
    refine ke (ka ?_)
    exact km _ (by exact ⟨rfl, rfl, rfl, rfl, rfl, rfl, rfl, rfl, trivial⟩) (hK_12 true _ _ ⟨rfl, (hS.pick [2, 0, 1] (by decide) rfl)⟩ h)
   case false =>
    have h := if_f h hb_10
    try simp only [hb_10]
    refine kT (t := 32) rfl rfl (kk (k := 2) Try.underlying26 rfl rfl nz4 rfl) rfl (kT (t := 32) rfl rfl (ku Try.underlying4 rfl rfl (hS.bxc 2 rfl 2)) rfl (kb 1 rfl ?_))
    refine ke (ka ?_)
    exact km _ (by exact ⟨rfl, rfl, rfl, rfl, rfl, rfl, rfl, rfl, trivial⟩) (hK_12 a1_2 _ _ ⟨rfl, (hS.pick [2, 0, 1] (by decide) rfl)⟩ h)
  rintro x_11 L w hJ h
  try dsimp only at hJ
  obtain ⟨rfl, hS⟩ := hJ
  unfold F.law11_CurveBack_K2 at h
  refine kn rfl (fun hb_36 => ?_) (fun hb_36 => ?_)
  ·have h := if_t h hb_36
   refine kO (r := r) (fun (g : Bool) L w => L = [(0, vI a0), (2, va2), (3, va3), (47, vB g)] ∧ St [] w0 w []) (F.law11_CurveBack_K3 a0 a2 a3) ?_ ?_
   rotate_left
   ·intro hK_16
    refine kc (kb 3 rfl ?_)
    cases hb_13 : (x_4.2.2 != 93)
    case true =>
     have h := if_t h hb_13
     try simp only [hb_13]
     refine kb 9 rfl ?_
     refine ke (ka ?_)
     exact km _ (by exact ⟨rfl, rfl, rfl, rfl, trivial⟩) (hK_16 true _ _ ⟨rfl, (hS.pick [] (by decide) rfl)⟩ h)
    case false =>
     have h := if_f h hb_13
     try simp only [hb_13]
     refine kb 1 rfl ?_
     refine kT (t := 38) rfl rfl (kB Try.underlying41 rfl (hS.ro 1 rfl)) rfl (kb 3 rfl ?_)
     cases hb_14 : ((x_4.1.length : Int) != 0)
     case true =>
      have h := if_t h hb_14
      try simp only [hb_14]
      refine kb 4 rfl ?_
      refine ke (ka ?_)
      exact km _ (by exact ⟨rfl, rfl, rfl, rfl, trivial⟩) (hK_16 true _ _ ⟨rfl, (hS.pick [] (by decide) rfl)⟩ h)
     case false =>
      have h := if_f h hb_14
      try simp only [hb_14]
      refine kb 1 rfl ?_
      refine kT (t := 43) rfl rfl (kB Try.underlying41 rfl (hS.ro 2 rfl)) rfl (kb 2 rfl ?_)
      refine ke (ka ?_)
      exact km _ (by exact ⟨rfl, rfl, rfl, rfl, trivial⟩) (hK_16 ((x_4.2.1.length : Int) != 0) _ _ ⟨rfl, (hS.pick [] (by decide) rfl)⟩ h)
   rintro x_15 L w hJ h
   try dsimp only at hJ
   obtain ⟨rfl, hS⟩ := hJ
   unfold F.law11_CurveBack_K3 at h
   refine kn rfl (fun hb_17 => ?_) (fun hb_17 => ?_)
   ·have h := if_t h hb_17
    refine kd (kc (kb 1 rfl ?_))
    refine ke (ka (ko (kv ?_)))
    cases h
    exact ky rfl rfl ⟨rfl, hS⟩
   have h := if_f h hb_17
   refine kq (ka ?_)
   exact km _ (by exact ⟨rfl, rfl, rfl, trivial⟩) (hK_37 () _ _ ⟨rfl, hS⟩ h)
  have h := if_f h hb_36
  refine kd (kc (kb 3 rfl ?_))
  obtain ⟨x_18, hx_18, h⟩ := kf h
  refine kj (by kernel_rfl) rfl (c_curve_Decode _ a0 x_4.1 x_4.2.1 v_5 v_7  (hS.ro 1 rfl).rp (hS.ro 2 rfl).rp _ hx_18) rfl ?_
  rintro _ w ⟨v_19, v_21, rfl, hS1⟩
  have hS := hS.call hS1
  refine kb 3 rfl ?_
  refine kW (kE (cs := [.slice none 0 0, .slice none 0 0, vB false]) tz26 rfl hS) rfl ?_
  rintro _ w ⟨b_23, rfl, hS⟩
  refine kX (kM (i := 0) (us := [v_19, v_21, vB x_18.2.2.1]) rfl sz26 rfl rfl rfl ⟨(hS.ro 1 rfl).one, (hS.ro 2 rfl).one, rfl, trivial⟩ rfl hS) ?_
  intro w hS
  refine kb 1 rfl ?_
  refine ke (ka ?_)
  refine kO (r := r) (fun (g : Bool) L w => L = [(0, vI a0), (2, va2), (3, va3), (87, vB g)] ∧ St [] w0 w []) (F.law11_CurveBack_K4 a0 a2 a3) ?_ ?_
  rotate_left
  ·intro hK_34
   refine kc (kb 3 rfl ?_)
   cases hb_25 : (x_4.2.2 != 0)
   case true =>
    have h := if_t h hb_25
    try simp only [hb_25]
    refine kb 30 rfl ?_
    refine ke (ka ?_)
    exact km _ (by exact ⟨rfl, rfl, rfl, rfl, trivial⟩) (hK_34 true _ _ ⟨rfl, (hS.pick [] (by decide) rfl)⟩ h)
   case false =>
    have h := if_f h hb_25
    try simp only [hb_25]
    refine kb 4 rfl ?_
    cases hb_26 : (x_18.2.2.2 != 0)
    case true =>
     have h := if_t h hb_26
     try simp only [hb_26]
     refine kb 26 rfl ?_
     refine ke (ka ?_)
     exact km _ (by exact ⟨rfl, rfl, rfl, rfl, trivial⟩) (hK_34 true _ _ ⟨rfl, (hS.pick [] (by decide) rfl)⟩ h)
    case false =>
     have h := if_f h hb_26
     try simp only [hb_26]
     refine kT (t := 61) rfl rfl (kk (k := 0) Try.underlying26 rfl rfl nz24 rfl) rfl (kT (t := 61) rfl rfl (ku Try.underlying24 rfl rfl (hS.bxc 0 rfl 0)) rfl (kT (t := 61) rfl rfl (kk (k := 0) Try.underlying26 rfl rfl nz24 rfl) rfl (kT (t := 61) rfl rfl (ku Try.underlying24 rfl rfl (hS.bxc 3 rfl 0)) rfl ?_)))
     obtain ⟨x_27, hx_27, h⟩ := kf h
     refine wpR_gcall (t := 61) rfl rfl (by kernel_rfl) rfl (c_nat_Cmp _ x_18.1 a1_0 v_19 va1_0  (hS.ro 1 rfl).rp (ha1_0.now hS.fr).rp _ hx_27) rfl ?_
     rintro _ w ⟨rfl, hS1⟩
     have hS := hS.call hS1
     refine kb 3 rfl ?_
     cases hb_28 : (x_27 != 0)
     case true =>
      have h := if_t h hb_28
      try simp only [hb_28]
      refine kb 18 rfl ?_
      refine ke (ka ?_)
      exact km _ (by exact ⟨rfl, rfl, rfl, rfl, trivial⟩) (hK_34 true _ _ ⟨rfl, (hS.pick [] (by decide) rfl)⟩ h)
     case false =>
      have h := if_f h hb_28
      try simp only [hb_28]
      refine kT (t := 69) rfl rfl (kk (k := 1) Try.underlying26 rfl rfl nz24 rfl) rfl (kT (t := 69) rfl rfl (ku Try.underlying24 rfl rfl (hS.bxc 0 rfl 1)) rfl (kT (t := 69) rfl rfl (kk (k := 1) Try.underlying26 rfl rfl nz24 rfl) rfl (kT (t := 69) rfl rfl (ku Try.underlying24 rfl rfl (hS.bxc 3 rfl 1)) rfl ?_)))
      obtain ⟨x_29, hx_29, h⟩ := kf h
      refine wpR_gcall (t := 69) rfl rfl (by kernel_rfl) rfl (c_nat_Cmp _ x_18.2.1 a1_1 v_21 va1_1  (hS.ro 2 rfl).rp (ha1_1.now hS.fr).rp _ hx_29) rfl ?_
      rintro _ w ⟨rfl, hS1⟩
      have hS := hS.call hS1
      refine kb 3 rfl ?_
      cases hb_30 : (x_29 != 0)
      case true =>
       have h := if_t h hb_30
       try simp only [hb_30]
       refine kb 10 rfl ?_
       refine ke (ka ?_)
       exact km _ (by exact ⟨rfl, rfl, rfl, rfl, trivial⟩) (hK_34 true _ _ ⟨rfl, (hS.pick [] (by decide) rfl)⟩ h)
      case false =>
       have h := if_f h hb_30
       try simp only [hb_30]
       refine kT (t := 77) rfl rfl (kk (k := 2) Try.underlying26 rfl rfl nz4 rfl) rfl (kT (t := 77) rfl rfl (ku Try.underlying4 rfl rfl (hS.bxc 0 rfl 2)) rfl (kb 2 rfl ?_))
       cases hb_31 : x_18.2.2.1
       case true =>
        have h := if_t h hb_31
        try simp only [hb_31]
        refine kb 6 rfl ?_
        refine ke (ka ?_)
        exact km _ (by exact ⟨rfl, rfl, rfl, rfl, trivial⟩) (hK_34 true _ _ ⟨rfl, (hS.pick [] (by decide) rfl)⟩ h)
       case false =>
        have h := if_f h hb_31
        try simp only [hb_31]
        refine kb 1 rfl ?_
        refine kT (t := 81) rfl rfl (kB Try.underlying41 rfl (hS.ro 4 rfl)) rfl (kb 1 rfl ?_)
        obtain ⟨x_32, hx_32, h⟩ := kf h
        refine wpR_gcall (t := 81) rfl rfl (by kernel_rfl) rfl (c_curve_Size _ a0    _ hx_32) rfl ?_
        rintro _ w ⟨rfl, hS1⟩
        have hS := hS.call hS1
        refine kb 2 rfl ?_
        refine ke (ka ?_)
        exact km _ (by exact ⟨rfl, rfl, rfl, rfl, trivial⟩) (hK_34 ((x_4.1.length : Int) != x_32) _ _ ⟨rfl, (hS.pick [] (by decide) rfl)⟩ h)
  rintro x_33 L w hJ h
  try dsimp only at hJ
  obtain ⟨rfl, hS⟩ := hJ
  unfold F.law11_CurveBack_K4 at h
  refine kn rfl (fun hb_35 => ?_) (fun hb_35 => ?_)
  ·have h := if_t h hb_35
   refine kd (kc (kb 1 rfl ?_))
   refine ke (ka (ko (kv ?_)))
   cases h
   exact ky rfl rfl ⟨rfl, hS⟩
  have h := if_f h hb_35
  refine kq (ka ?_)
  exact km _ (by exact ⟨rfl, rfl, rfl, trivial⟩) (hK_37 () _ _ ⟨rfl, hS⟩ h)
 rintro _g L w hJ h
 try dsimp only at hJ
 obtain ⟨rfl, hS⟩ := hJ
 unfold F.law11_CurveBack_K1 at h
 refine kd (kc (kb 3 rfl ?_))
 obtain ⟨x_38, hx_38, h⟩ := kf h
 refine kj (by kernel_rfl) rfl (c_curve_Decode _ a0 a2 a3 va2 va3  (ha2.now hS.fr).rp (ha3.now hS.fr).rp _ hx_38) rfl ?_
 rintro _ w ⟨v_39, v_41, rfl, hS1⟩
 have hS := hS.call hS1
 refine kb 3 rfl ?_
 refine kW (kE (cs := [.slice none 0 0, .slice none 0 0, vB false]) tz26 rfl hS) rfl ?_
 rintro _ w ⟨b_43, rfl, hS⟩
 refine kX (kM (i := 0) (us := [v_39, v_41, vB x_38.2.2.1]) rfl sz26 rfl rfl rfl ⟨(hS.ro 1 rfl).one, (hS.ro 2 rfl).one, rfl, trivial⟩ rfl hS) ?_
 intro w hS
 refine kb 1 rfl ?_
 refine ke (ka (kd (kd (kc (kb 2 rfl ?_)))))
 refine ke (ka ?_)
 refine kn rfl (fun hb_58 => ?_) (fun hb_58 => ?_)
 ·have h := if_t h hb_58
  refine kd (kc (kb 3 rfl ?_))
  cases hb_45 : (x_38.2.2.2 == 93)
  case true =>
   have h := if_t h hb_45
   try simp only [hb_45]
   refine kT (t := 99) rfl rfl (kH (us := [v_39, v_41, vB x_38.2.2.1]) Try.underlying26 rfl sz26 rfl (hS.bxs 0 rfl rfl)) rfl (kT (t := 99) rfl rfl (OpV_build (vs := []) (cells := [.slice none 0 0, .slice none 0 0, vB false]) rfl lay26 trivial rfl) rfl ?_)
   obtain ⟨x_46, hx_46, h⟩ := kf h
   refine wpR_gcall (t := 99) rfl rfl (by kernel_rfl) rfl (c_law11_same _ x_38.1 x_38.2.1 x_38.2.2.1 [] [] false v_39 v_41 (.slice none 0 0) (.slice none 0 0)  (hS.ro 1 rfl).rp (hS.ro 2 rfl).rp (RO.nil _ e32).rp (RO.nil _ e32).rp _ hx_46) rfl ?_
   rintro _ w ⟨rfl, hS1⟩
   have hS := hS.call hS1
   refine kb 2 rfl ?_
   refine ke (ka (ko (kv ?_)))
   cases h
   exact ky rfl rfl ⟨rfl, hS.pick [] (by decide) rfl⟩
  case false =>
   have h := if_f h hb_45
   try simp only [hb_45]
   refine kb 5 rfl ?_
   refine ke (ka (ko (kv ?_)))
   cases h
   exact ky rfl rfl ⟨rfl, hS.pick [] (by decide) rfl⟩
 have h := if_f h hb_58
 refine kq (ka (kd (kc (kb 1 rfl ?_))))
 refine kh (kH (us := [v_39, v_41, vB x_38.2.2.1]) Try.underlying26 rfl sz26 rfl (hS.bxs 0 rfl rfl)) rfl ?_
 obtain ⟨x_47, hx_47, h⟩ := kf h
 refine kj (by kernel_rfl) rfl (c_curve_Encode _ a0 x_38.1 x_38.2.1 x_38.2.2.1 v_39 v_41  (hS.ro 1 rfl).rp (hS.ro 2 rfl).rp _ hx_47) rfl ?_
 rintro _ w ⟨v_48, v_50, rfl, hS1⟩
 have hS := hS.call hS1
 refine kb 7 rfl ?_
 refine ke (ka (kd (kc (kb 3 rfl ?_))))
 cases hb_52 : (x_47.2.2 == 0)
 case true =>
  have h := if_t h hb_52
  try simp only [hb_52]
  refine kb 1 rfl ?_
  refine kT (t := 113) rfl rfl (kH (us := [v_39, v_41, vB x_38.2.2.1]) Try.underlying26 rfl sz26 rfl (hS.bxs 2 rfl rfl)) rfl ?_
  obtain ⟨x_53, hx_53, h⟩ := kf h
  refine wpR_gcall (t := 113) rfl rfl (by kernel_rfl) rfl (c_curve_On _ a0 x_38.1 x_38.2.1 x_38.2.2.1 v_39 v_41  (hS.ro 3 rfl).rp (hS.ro 4 rfl).rp _ hx_53) rfl ?_
  rintro _ w ⟨rfl, hS1⟩
  have hS := hS.call hS1
  refine kb 2 rfl ?_
  cases hb_54 : x_53
  case true =>
   have h := if_t h hb_54
   try simp only [hb_54]
   refine kb 2 rfl ?_
   obtain ⟨x_55, hx_55, h⟩ := kf h
   refine wpR_gcall (t := 118) rfl rfl (by kernel_rfl) rfl (c_law11_sameBytes _ x_47.1 a2 v_48 va2  (hS.ro 0 rfl).rp (ha2.now hS.fr).rp _ hx_55) rfl ?_
   rintro _ w ⟨rfl, hS1⟩
   have hS := hS.call hS1
   refine kb 2 rfl ?_
   cases hb_56 : x_55
   case true =>
    have h := if_t h hb_56
    try simp only [hb_56]
    refine kb 2 rfl ?_
    obtain ⟨x_57, hx_57, h⟩ := kf h
    refine wpR_gcall (t := 123) rfl rfl (by kernel_rfl) rfl (c_law11_sameBytes _ x_47.2.1 a3 v_50 va3  (hS.ro 1 rfl).rp (ha3.now hS.fr).rp _ hx_57) rfl ?_
    rintro _ w ⟨rfl, hS1⟩
    have hS := hS.call hS1
    refine kb 2 rfl ?_
    refine ke (ka (ko ?_))
    cases h
    exact ky rfl rfl ⟨rfl, hS.pick [] (by decide) rfl⟩
   case false =>
    have h := if_f h hb_56
    try simp only [hb_56]
    refine kb 5 rfl ?_
    refine ke (ka (ko ?_))
    cases h
    exact ky rfl rfl ⟨rfl, hS.pick [] (by decide) rfl⟩
  case false =>
   have h := if_f h hb_54
   try simp only [hb_54]
   refine kb 10 rfl ?_
   refine ke (ka (ko ?_))
   cases h
   exact ky rfl rfl ⟨rfl, hS.pick [] (by decide) rfl⟩
 case false =>
  have h := if_f h hb_52
  try simp only [hb_52]
  refine kb 15 rfl ?_
  refine ke (ka (ko ?_))
  cases h
  exact ky rfl rfl ⟨rfl, hS.pick [] (by decide) rfl⟩
end Go.Proofs
