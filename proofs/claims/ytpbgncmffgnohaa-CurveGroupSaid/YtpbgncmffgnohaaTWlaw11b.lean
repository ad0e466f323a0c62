import Derived.Test.YtpbgncmffgnohaaTW0
import Derived.Test.YtpbgncmffgnohaaGkFlaw11
import Derived.Test.YtpbgncmffgnohaaTWcurvee
import Derived.Test.YtpbgncmffgnohaaTWlaw11a
import Derived.Test.YtpbgncmffgnohaaTWnat
set_option linter.unusedVariables false
set_option linter.unusedSimpArgs false
set_option linter.unusedVariables false
set_option maxRecDepth 4000
namespace Go.Proofs
open Go Go.RowKit Go.Gk
theorem c_law11_started (w0 : World)    (r : Bool)
  (h : F.law11_started  = some r) : Calls Try.prog 22 #[] w0 (Ret fun v w => v = vB r ∧ St [] w0 w []) := by
 refine ky 70 Try.func22 rfl rfl rfl ?_
 have hS := St.start w0
 refine km [] trivial ?_
 unfold F.law11_started at h
 refine kd (kc (kb 1 rfl ?_))
 refine ke (ka (kd (kc ?_)))
 obtain ⟨x_1, hx_1, h⟩ := kf h
 refine kj (by kernel_rfl) rfl (c_curve_Base _ 1    _ hx_1) rfl ?_
 rintro _ w ⟨v_2, v_4, rfl, hS1⟩
 have hS := hS.call hS1
 refine kV (kD (cs := [.slice none 0 0, .slice none 0 0, vB false]) tz26 rfl hS) rfl ?_
 rintro _ w ⟨b_6, rfl, hS⟩
 refine kW (kL (i := 0) (us := [v_2, v_4, vB x_1.2.2]) rfl sz26 rfl rfl rfl ⟨(hS.ro 1 rfl).one, (hS.ro 2 rfl).one, rfl, trivial⟩ rfl hS) ?_
 intro w hS
 refine ke (ka (kd (kc (kh (kG (us := [v_2, v_4, vB x_1.2.2]) Try.underlying26 rfl sz26 rfl (hS.bxs 0 rfl rfl)) rfl (kh (kG (us := [v_2, v_4, vB x_1.2.2]) Try.underlying26 rfl sz26 rfl (hS.bxs 0 rfl rfl)) rfl ?_)))))
 obtain ⟨x_8, hx_8, h⟩ := kf h
 refine kj (by kernel_rfl) rfl (c_curve_Add _ 1 x_1.1 x_1.2.1 x_1.2.2 x_1.1 x_1.2.1 x_1.2.2 v_2 v_4 v_2 v_4  (hS.ro 1 rfl).rp (hS.ro 2 rfl).rp (hS.ro 1 rfl).rp (hS.ro 2 rfl).rp _ hx_8) rfl ?_
 rintro _ w ⟨v_9, v_11, rfl, hS1⟩
 have hS := hS.call hS1
 refine kb 3 rfl ?_
 refine kV (kD (cs := [.slice none 0 0, .slice none 0 0, vB false]) tz26 rfl hS) rfl ?_
 rintro _ w ⟨b_13, rfl, hS⟩
 refine kW (kL (i := 0) (us := [v_9, v_11, vB x_8.2.2.1]) rfl sz26 rfl rfl rfl ⟨(hS.ro 1 rfl).one, (hS.ro 2 rfl).one, rfl, trivial⟩ rfl hS) ?_
 intro w hS
 refine kb 1 rfl ?_
 refine ke (ka (kd (kc ?_)))
 refine kV (OpX_lit (e := e32) (l := ([2] : List UInt32)) (vs := [v32 2]) Try.underlying24 ti52 rfl rfl rfl rfl (by decide) (by decide) hS) rfl ?_
 rintro v_15 w hS
 refine kh (kG (us := [v_2, v_4, vB x_1.2.2]) Try.underlying26 rfl sz26 rfl (hS.bxs 4 rfl rfl)) rfl ?_
 obtain ⟨x_17, hx_17, h⟩ := kf h
 refine kj (by kernel_rfl) rfl (c_curve_Mul _ 1 ([2] : List UInt32) x_1.1 x_1.2.1 x_1.2.2 v_15 v_2 v_4  (hS.ro 0 rfl).rp (hS.ro 5 rfl).rp (hS.ro 6 rfl).rp _ hx_17) rfl ?_
 rintro _ w ⟨v_18, v_20, rfl, hS1⟩
 have hS := hS.call hS1
 refine kb 3 rfl ?_
 refine kV (kD (cs := [.slice none 0 0, .slice none 0 0, vB false]) tz26 rfl hS) rfl ?_
 rintro _ w ⟨b_22, rfl, hS⟩
 refine kW (kL (i := 0) (us := [v_18, v_20, vB x_17.2.2.1]) rfl sz26 rfl rfl rfl ⟨(hS.ro 1 rfl).one, (hS.ro 2 rfl).one, rfl, trivial⟩ rfl hS) ?_
 intro w hS
 refine kb 1 rfl ?_
 refine ke (ka (kd (kc (kh (kG (us := [v_2, v_4, vB x_1.2.2]) Try.underlying26 rfl sz26 rfl (hS.bxs 7 rfl rfl)) rfl (kh (OpV_build (vs := []) (cells := [.slice none 0 0, .slice none 0 0, vB false]) rfl lay26 trivial rfl) rfl ?_)))))
 obtain ⟨x_24, hx_24, h⟩ := kf h
 refine kj (by kernel_rfl) rfl (c_curve_Add _ 1 x_1.1 x_1.2.1 x_1.2.2 [] [] false v_2 v_4 (.slice none 0 0) (.slice none 0 0)  (hS.ro 8 rfl).rp (hS.ro 9 rfl).rp (RO.nil _ e32).rp (RO.nil _ e32).rp _ hx_24) rfl ?_
 rintro _ w ⟨v_25, v_27, rfl, hS1⟩
 have hS := hS.call hS1
 refine kb 3 rfl ?_
 refine kV (kD (cs := [.slice none 0 0, .slice none 0 0, vB false]) tz26 rfl hS) rfl ?_
 rintro _ w ⟨b_29, rfl, hS⟩
 refine kW (kL (i := 0) (us := [v_25, v_27, vB x_24.2.2.1]) rfl sz26 rfl rfl rfl ⟨(hS.ro 1 rfl).one, (hS.ro 2 rfl).one, rfl, trivial⟩ rfl hS) ?_
 intro w hS
 refine kb 1 rfl ?_
 refine ke (ka (kd (kc (kb 3 rfl ?_))))
 cases hb_31 : (x_8.2.2.2 == 0)
 case true =>
  have h := if_t h hb_31
  try simp only [hb_31]
  refine kb 4 rfl ?_
  cases hb_32 : (x_17.2.2.2 == 0)
  case true =>
   have h := if_t h hb_32
   try simp only [hb_32]
   refine kb 4 rfl ?_
   cases hb_33 : (x_24.2.2.2 == 93)
   case true =>
    have h := if_t h hb_33
    try simp only [hb_33]
    refine kS (t := 37) rfl rfl (kG (us := [v_9, v_11, vB x_8.2.2.1]) Try.underlying26 rfl sz26 rfl (hS.bxs 7 rfl rfl)) rfl (kS (t := 37) rfl rfl (kG (us := [v_18, v_20, vB x_17.2.2.1]) Try.underlying26 rfl sz26 rfl (hS.bxs 3 rfl rfl)) rfl ?_)
    obtain ⟨x_34, hx_34, h⟩ := kf h
    refine wpR_gcall (t := 37) rfl rfl (by kernel_rfl) rfl (c_law11_same _ x_8.1 x_8.2.1 x_8.2.2.1 x_17.1 x_17.2.1 x_17.2.2.1 v_9 v_11 v_18 v_20  (hS.ro 8 rfl).rp (hS.ro 9 rfl).rp (hS.ro 4 rfl).rp (hS.ro 5 rfl).rp _ hx_34) rfl ?_
    rintro _ w ⟨rfl, hS1⟩
    have hS := hS.call hS1
    refine kb 2 rfl ?_
    cases hb_35 : x_34
    case true =>
     have h := if_t h hb_35
     try simp only [hb_35]
     refine kS (t := 42) rfl rfl (kk (k := 0) Try.underlying26 rfl rfl nz24 rfl) rfl (kS (t := 42) rfl rfl (kt Try.underlying24 rfl rfl (hS.bxc 7 rfl 0)) rfl (kS (t := 42) rfl rfl (kA Try.underlying24 rfl (hS.ro 8 rfl)) rfl (kb 3 rfl ?_)))
     cases hb_36 : ((x_8.1.length : Int) == 8)
     case true =>
      have h := if_t h hb_36
      try simp only [hb_36]
      refine kS (t := 48) rfl rfl (kk (k := 0) Try.underlying26 rfl rfl nz24 rfl) rfl (kS (t := 48) rfl rfl (kt Try.underlying24 rfl rfl (hS.bxc 7 rfl 0)) rfl ?_)
      obtain ⟨x_37, hx_37, h⟩ := kf h
      refine kS (t := 48) rfl rfl (G_ix Try.underlying24 ti52 rfl rfl (hS.ro 8 rfl) hx_37) rfl (kS (t := 48) rfl rfl (G_load Try.underlying52 rfl rfl (hS.ro 8 rfl) hx_37 rfl) rfl (kS (t := 48) rfl rfl (kr rfl rfl (b_eql32 _ x_37 1197906296)) rfl (kb 2 rfl ?_)))
      cases hb_38 : (x_37 == 1197906296)
      case true =>
       have h := if_t h hb_38
       try simp only [hb_38]
       refine kS (t := 55) rfl rfl (kk (k := 1) Try.underlying26 rfl rfl nz24 rfl) rfl (kS (t := 55) rfl rfl (kt Try.underlying24 rfl rfl (hS.bxc 7 rfl 1)) rfl ?_)
       obtain ⟨x_39, hx_39, h⟩ := kf h
       refine kS (t := 55) rfl rfl (G_ix Try.underlying24 ti52 rfl rfl (hS.ro 9 rfl) hx_39) rfl (kS (t := 55) rfl rfl (G_load Try.underlying52 rfl rfl (hS.ro 9 rfl) hx_39 rfl) rfl (kS (t := 55) rfl rfl (kr rfl rfl (b_eql32 _ x_39 578319313)) rfl (kb 2 rfl ?_)))
       cases hb_40 : (x_39 == 578319313)
       case true =>
        have h := if_t h hb_40
        try simp only [hb_40]
        refine kS (t := 62) rfl rfl (kG (us := [v_9, v_11, vB x_8.2.2.1]) Try.underlying26 rfl sz26 rfl (hS.bxs 7 rfl rfl)) rfl ?_
        obtain ⟨x_41, hx_41, h⟩ := kf h
        refine wpR_gcall (t := 62) rfl rfl (by kernel_rfl) rfl (c_curve_On _ 1 x_8.1 x_8.2.1 x_8.2.2.1 v_9 v_11  (hS.ro 8 rfl).rp (hS.ro 9 rfl).rp _ hx_41) rfl ?_
        rintro _ w ⟨rfl, hS1⟩
        have hS := hS.call hS1
        refine kb 2 rfl ?_
        cases hb_42 : x_41
        case true =>
         have h := if_t h hb_42
         try simp only [hb_42]
         obtain ⟨x_43, hx_43, h⟩ := kf h
         refine wpR_gcall (t := 66) rfl rfl (by kernel_rfl) rfl (c_curve_Base _ 2    _ hx_43) rfl ?_
         rintro _ w ⟨v_44, v_46, rfl, hS1⟩
         have hS := hS.call hS1
         obtain ⟨x_48, hx_48, h⟩ := kf h
         refine wpR_gcall (t := 66) rfl rfl (by kernel_rfl) rfl (c_curve_On _ 2 x_43.1 x_43.2.1 x_43.2.2 v_44 v_46  (hS.ro 0 rfl).rp (hS.ro 1 rfl).rp _ hx_48) rfl ?_
         rintro _ w ⟨rfl, hS1⟩
         have hS := hS.call hS1
         refine kb 2 rfl ?_
         refine ke (ka (ko ?_))
         cases h
         exact kx rfl rfl ⟨rfl, hS.pick [] (by decide) rfl⟩
        case false =>
         have h := if_f h hb_42
         try simp only [hb_42]
         refine kb 4 rfl ?_
         refine ke (ka (ko ?_))
         cases h
         exact kx rfl rfl ⟨rfl, hS.pick [] (by decide) rfl⟩
       case false =>
        have h := if_f h hb_40
        try simp only [hb_40]
        refine kb 8 rfl ?_
        refine ke (ka (ko ?_))
        cases h
        exact kx rfl rfl ⟨rfl, hS.pick [] (by decide) rfl⟩
      case false =>
       have h := if_f h hb_38
       try simp only [hb_38]
       refine kb 15 rfl ?_
       refine ke (ka (ko ?_))
       cases h
       exact kx rfl rfl ⟨rfl, hS.pick [] (by decide) rfl⟩
     case false =>
      have h := if_f h hb_36
      try simp only [hb_36]
      refine kb 22 rfl ?_
      refine ke (ka (ko ?_))
      cases h
      exact kx rfl rfl ⟨rfl, hS.pick [] (by decide) rfl⟩
    case false =>
     have h := if_f h hb_35
     try simp only [hb_35]
     refine kb 28 rfl ?_
     refine ke (ka (ko ?_))
     cases h
     exact kx rfl rfl ⟨rfl, hS.pick [] (by decide) rfl⟩
   case false =>
    have h := if_f h hb_33
    try simp only [hb_33]
    refine kb 33 rfl ?_
    refine ke (ka (ko ?_))
    cases h
    exact kx rfl rfl ⟨rfl, hS.pick [] (by decide) rfl⟩
  case false =>
   have h := if_f h hb_32
   try simp only [hb_32]
   refine kb 37 rfl ?_
   refine ke (ka (ko ?_))
   cases h
   exact kx rfl rfl ⟨rfl, hS.pick [] (by decide) rfl⟩
 case false =>
  have h := if_f h hb_31
  try simp only [hb_31]
  refine kb 41 rfl ?_
  refine ke (ka (ko ?_))
  cases h
  exact kx rfl rfl ⟨rfl, hS.pick [] (by decide) rfl⟩
theorem c_law11_CurveGroup (w0 : World) (a0 : Int) (a1_0 : List UInt32) (a1_1 : List UInt32) (a1_2 : Bool) (a2_0 : List UInt32) (a2_1 : List UInt32) (a2_2 : Bool) (a3_0 : List UInt32) (a3_1 : List UInt32) (a3_2 : Bool) (va1_0 : Value) (va1_1 : Value) (va2_0 : Value) (va2_1 : Value) (va3_0 : Value) (va3_1 : Value) (ha1_0 : RP [] w0 e32 va1_0 a1_0) (ha1_1 : RP [] w0 e32 va1_1 a1_1) (ha2_0 : RP [] w0 e32 va2_0 a2_0) (ha2_1 : RP [] w0 e32 va2_1 a2_1) (ha3_0 : RP [] w0 e32 va3_0 a3_0) (ha3_1 : RP [] w0 e32 va3_1 a3_1) (r : Bool)
  (h : F.law11_CurveGroup a0 a1_0 a1_1 a1_2 a2_0 a2_1 a2_2 a3_0 a3_1 a3_2 = some r) : Calls Try.prog 4 #[vI a0, .agg #[va1_0, va1_1, vB a1_2], .agg #[va2_0, va2_1, vB a2_2], .agg #[va3_0, va3_1, vB a3_2]] w0 (Ret fun v w => v = vB r ∧ St [] w0 w []) := by
 refine ky 170 Try.func4 rfl rfl rfl ?_
 have hS := St.start w0
 refine km [(0, vI a0), (1, .agg #[va1_0, va1_1, vB a1_2]), (2, .agg #[va2_0, va2_1, vB a2_2]), (3, .agg #[va3_0, va3_1, vB a3_2])] ⟨rfl, rfl, rfl, rfl, trivial⟩ ?_
 unfold F.law11_CurveGroup at h
 refine kd (kc (kV (OpX_box (cs := [va1_0, va1_1, vB a1_2]) rfl rfl hS) rfl ?_))
 rintro _ w ⟨b_1, rfl, hS⟩
 refine kV (OpX_box (cs := [va2_0, va2_1, vB a2_2]) rfl rfl hS) rfl ?_
 rintro _ w ⟨b_3, rfl, hS⟩
 refine kV (OpX_box (cs := [va3_0, va3_1, vB a3_2]) rfl rfl hS) rfl ?_
 rintro _ w ⟨b_5, rfl, hS⟩
 refine kb 1 rfl ?_
 refine ke (ka (kd (kd (kc ?_))))
 obtain ⟨x_7, hx_7, h⟩ := kf h
 refine kj (by kernel_rfl) rfl (c_law11_started _     _ hx_7) rfl ?_
 rintro _ w ⟨rfl, hS1⟩
 have hS := hS.call hS1
 refine kb 1 rfl ?_
 refine ke (ka ?_)
 refine kn rfl (fun hb_103 => ?_) (fun hb_103 => ?_)
 ·have h := if_t h hb_103
  refine kd (kc (kb 1 rfl ?_))
  refine ke (ka (ko (ku ?_)))
  cases h
  exact kx rfl rfl ⟨rfl, hS.pick [] (by decide) rfl⟩
 have h := if_f h hb_103
 refine kq (ka (kd ?_))
 refine kN (r := r) (fun (g : Bool) L w => L = [(0, vI a0), (5, pB b_1 0), (6, pB b_3 0), (7, pB b_5 0), (46, vB g)] ∧ St [] w0 w [OE.bx b_1 [va1_0, va1_1, vB a1_2], OE.bx b_3 [va2_0, va2_1, vB a2_2], OE.bx b_5 [va3_0, va3_1, vB a3_2]]) (F.law11_CurveGroup_K1 a0 a1_0 a1_1 a1_2 a2_0 a2_1 a2_2 a3_0 a3_1 a3_2) ?_ ?_
 rotate_left
 ·intro hK_14
  refine kc (kb 1 rfl ?_)
  refine kh (kG (us := [va1_0, va1_1, vB a1_2]) Try.underlying26 rfl sz26 rfl (hS.bxs 2 rfl rfl)) rfl ?_
  obtain ⟨x_8, hx_8, h⟩ := kf h
  refine kj (by kernel_rfl) rfl (c_curve_On _ a0 a1_0 a1_1 a1_2 va1_0 va1_1  (ha1_0.now hS.fr).rp (ha1_1.now hS.fr).rp _ hx_8) rfl ?_
  rintro _ w ⟨rfl, hS1⟩
  have hS := hS.call hS1
  refine kb 2 rfl ?_
  cases hb_9 : (!x_8)
  case true =>
   have h := if_t h hb_9
   try simp only [hb_9]
   refine kb 11 rfl ?_
   refine ke (ka ?_)
   exact km _ (by exact ⟨rfl, rfl, rfl, rfl, rfl, trivial⟩) (hK_14 true _ _ ⟨rfl, (hS.pick [2, 1, 0] (by decide) rfl)⟩ h)
  case false =>
   have h := if_f h hb_9
   try simp only [hb_9]
   refine kb 1 rfl ?_
   refine kS (t := 35) rfl rfl (kG (us := [va2_0, va2_1, vB a2_2]) Try.underlying26 rfl sz26 rfl (hS.bxs 1 rfl rfl)) rfl ?_
   obtain ⟨x_10, hx_10, h⟩ := kf h
   refine wpR_gcall (t := 35) rfl rfl (by kernel_rfl) rfl (c_curve_On _ a0 a2_0 a2_1 a2_2 va2_0 va2_1  (ha2_0.now hS.fr).rp (ha2_1.now hS.fr).rp _ hx_10) rfl ?_
   rintro _ w ⟨rfl, hS1⟩
   have hS := hS.call hS1
   refine kb 3 rfl ?_
   cases hb_11 : (!x_10)
   case true =>
    have h := if_t h hb_11
    try simp only [hb_11]
    refine kb 5 rfl ?_
    refine ke (ka ?_)
    exact km _ (by exact ⟨rfl, rfl, rfl, rfl, rfl, trivial⟩) (hK_14 true _ _ ⟨rfl, (hS.pick [2, 1, 0] (by decide) rfl)⟩ h)
   case false =>
    have h := if_f h hb_11
    try simp only [hb_11]
    refine kb 1 rfl ?_
    refine kS (t := 41) rfl rfl (kG (us := [va3_0, va3_1, vB a3_2]) Try.underlying26 rfl sz26 rfl (hS.bxs 0 rfl rfl)) rfl ?_
    obtain ⟨x_12, hx_12, h⟩ := kf h
    refine wpR_gcall (t := 41) rfl rfl (by kernel_rfl) rfl (c_curve_On _ a0 a3_0 a3_1 a3_2 va3_0 va3_1  (ha3_0.now hS.fr).rp (ha3_1.now hS.fr).rp _ hx_12) rfl ?_
    rintro _ w ⟨rfl, hS1⟩
    have hS := hS.call hS1
    refine kb 2 rfl ?_
    refine ke (ka ?_)
    exact km _ (by exact ⟨rfl, rfl, rfl, rfl, rfl, trivial⟩) (hK_14 (!x_12) _ _ ⟨rfl, (hS.pick [2, 1, 0] (by decide) rfl)⟩ h)
 rintro x_13 L w hJ h
 try dsimp only at hJ
 obtain ⟨rfl, hS⟩ := hJ
 unfold F.law11_CurveGroup_K1 at h
 refine kn rfl (fun hb_102 => ?_) (fun hb_102 => ?_)
 ·have h := if_t h hb_102
  refine kd (kc (kb 1 rfl ?_))
  refine ke (ka (ko (ku ?_)))
  cases h
  exact kx rfl rfl ⟨rfl, hS.pick [] (by decide) rfl⟩
 have h := if_f h hb_102
 refine kq (ka (kd (kc (kb 1 rfl ?_))))
 refine kh (kG (us := [va1_0, va1_1, vB a1_2]) Try.underlying26 rfl sz26 rfl (hS.bxs 0 rfl rfl)) rfl (kh (kG (us := [va2_0, va2_1, vB a2_2]) Try.underlying26 rfl sz26 rfl (hS.bxs 1 rfl rfl)) rfl ?_)
 obtain ⟨x_15, hx_15, h⟩ := kf h
 refine kj (by kernel_rfl) rfl (c_curve_Add _ a0 a1_0 a1_1 a1_2 a2_0 a2_1 a2_2 va1_0 va1_1 va2_0 va2_1  (ha1_0.now hS.fr).rp (ha1_1.now hS.fr).rp (ha2_0.now hS.fr).rp (ha2_1.now hS.fr).rp _ hx_15) rfl ?_
 rintro _ w ⟨v_16, v_18, rfl, hS1⟩
 have hS := hS.call hS1
 refine kb 3 rfl ?_
 refine kV (kD (cs := [.slice none 0 0, .slice none 0 0, vB false]) tz26 rfl hS) rfl ?_
 rintro _ w ⟨b_20, rfl, hS⟩
 refine kW (kL (i := 0) (us := [v_16, v_18, vB x_15.2.2.1]) rfl sz26 rfl rfl rfl ⟨(hS.ro 1 rfl).one, (hS.ro 2 rfl).one, rfl, trivial⟩ rfl hS) ?_
 intro w hS
 refine kb 1 rfl ?_
 refine ke (ka (kd (kc (kb 1 rfl ?_))))
 refine kh (kG (us := [va2_0, va2_1, vB a2_2]) Try.underlying26 rfl sz26 rfl (hS.bxs 4 rfl rfl)) rfl (kh (kG (us := [va1_0, va1_1, vB a1_2]) Try.underlying26 rfl sz26 rfl (hS.bxs 3 rfl rfl)) rfl ?_)
 obtain ⟨x_22, hx_22, h⟩ := kf h
 refine kj (by kernel_rfl) rfl (c_curve_Add _ a0 a2_0 a2_1 a2_2 a1_0 a1_1 a1_2 va2_0 va2_1 va1_0 va1_1  (ha2_0.now hS.fr).rp (ha2_1.now hS.fr).rp (ha1_0.now hS.fr).rp (ha1_1.now hS.fr).rp _ hx_22) rfl ?_
 rintro _ w ⟨v_23, v_25, rfl, hS1⟩
 have hS := hS.call hS1
 refine kb 3 rfl ?_
 refine kV (kD (cs := [.slice none 0 0, .slice none 0 0, vB false]) tz26 rfl hS) rfl ?_
 rintro _ w ⟨b_27, rfl, hS⟩
 refine kW (kL (i := 0) (us := [v_23, v_25, vB x_22.2.2.1]) rfl sz26 rfl rfl rfl ⟨(hS.ro 1 rfl).one, (hS.ro 2 rfl).one, rfl, trivial⟩ rfl hS) ?_
 intro w hS
 refine kb 1 rfl ?_
 refine ke (ka (kd (kc (kb 1 rfl ?_))))
 refine kh (kG (us := [v_16, v_18, vB x_15.2.2.1]) Try.underlying26 rfl sz26 rfl (hS.bxs 3 rfl rfl)) rfl (kh (kG (us := [va3_0, va3_1, vB a3_2]) Try.underlying26 rfl sz26 rfl (hS.bxs 8 rfl rfl)) rfl ?_)
 obtain ⟨x_29, hx_29, h⟩ := kf h
 refine kj (by kernel_rfl) rfl (c_curve_Add _ a0 x_15.1 x_15.2.1 x_15.2.2.1 a3_0 a3_1 a3_2 v_16 v_18 va3_0 va3_1  (hS.ro 4 rfl).rp (hS.ro 5 rfl).rp (ha3_0.now hS.fr).rp (ha3_1.now hS.fr).rp _ hx_29) rfl ?_
 rintro _ w ⟨v_30, v_32, rfl, hS1⟩
 have hS := hS.call hS1
 refine kb 3 rfl ?_
 refine kV (kD (cs := [.slice none 0 0, .slice none 0 0, vB false]) tz26 rfl hS) rfl ?_
 rintro _ w ⟨b_34, rfl, hS⟩
 refine kW (kL (i := 0) (us := [v_30, v_32, vB x_29.2.2.1]) rfl sz26 rfl rfl rfl ⟨(hS.ro 1 rfl).one, (hS.ro 2 rfl).one, rfl, trivial⟩ rfl hS) ?_
 intro w hS
 refine kb 1 rfl ?_
 refine ke (ka (kd (kc (kb 1 rfl ?_))))
 refine kh (kG (us := [va2_0, va2_1, vB a2_2]) Try.underlying26 rfl sz26 rfl (hS.bxs 10 rfl rfl)) rfl (kh (kG (us := [va3_0, va3_1, vB a3_2]) Try.underlying26 rfl sz26 rfl (hS.bxs 11 rfl rfl)) rfl ?_)
 obtain ⟨x_36, hx_36, h⟩ := kf h
 refine kj (by kernel_rfl) rfl (c_curve_Add _ a0 a2_0 a2_1 a2_2 a3_0 a3_1 a3_2 va2_0 va2_1 va3_0 va3_1  (ha2_0.now hS.fr).rp (ha2_1.now hS.fr).rp (ha3_0.now hS.fr).rp (ha3_1.now hS.fr).rp _ hx_36) rfl ?_
 rintro _ w ⟨v_37, v_39, rfl, hS1⟩
 have hS := hS.call hS1
 refine kb 3 rfl ?_
 refine kV (kD (cs := [.slice none 0 0, .slice none 0 0, vB false]) tz26 rfl hS) rfl ?_
 rintro _ w ⟨b_41, rfl, hS⟩
 refine kW (kL (i := 0) (us := [v_37, v_39, vB x_36.2.2.1]) rfl sz26 rfl rfl rfl ⟨(hS.ro 1 rfl).one, (hS.ro 2 rfl).one, rfl, trivial⟩ rfl hS) ?_
 intro w hS
 refine kb 1 rfl ?_
 refine ke (ka (kd (kc (kb 1 rfl ?_))))
 refine kh (kG (us := [va1_0, va1_1, vB a1_2]) Try.underlying26 rfl sz26 rfl (hS.bxs 12 rfl rfl)) rfl (kh (kG (us := [v_37, v_39, vB x_36.2.2.1]) Try.underlying26 rfl sz26 rfl (hS.bxs 0 rfl rfl)) rfl ?_)
 obtain ⟨x_43, hx_43, h⟩ := kf h
 refine kj (by kernel_rfl) rfl (c_curve_Add _ a0 a1_0 a1_1 a1_2 x_36.1 x_36.2.1 x_36.2.2.1 va1_0 va1_1 v_37 v_39  (ha1_0.now hS.fr).rp (ha1_1.now hS.fr).rp (hS.ro 1 rfl).rp (hS.ro 2 rfl).rp _ hx_43) rfl ?_
 rintro _ w ⟨v_44, v_46, rfl, hS1⟩
 have hS := hS.call hS1
 refine kb 3 rfl ?_
 refine kV (kD (cs := [.slice none 0 0, .slice none 0 0, vB false]) tz26 rfl hS) rfl ?_
 rintro _ w ⟨b_48, rfl, hS⟩
 refine kW (kL (i := 0) (us := [v_44, v_46, vB x_43.2.2.1]) rfl sz26 rfl rfl rfl ⟨(hS.ro 1 rfl).one, (hS.ro 2 rfl).one, rfl, trivial⟩ rfl hS) ?_
 intro w hS
 refine kb 1 rfl ?_
 refine ke (ka (kd (kc (kb 1 rfl ?_))))
 refine kh (kG (us := [va1_0, va1_1, vB a1_2]) Try.underlying26 rfl sz26 rfl (hS.bxs 15 rfl rfl)) rfl ?_
 obtain ⟨x_50, hx_50, h⟩ := kf h
 refine kj (by kernel_rfl) rfl (c_curve_Neg _ a0 a1_0 a1_1 a1_2 va1_0 va1_1  (ha1_0.now hS.fr).rp (ha1_1.now hS.fr).rp _ hx_50) rfl ?_
 rintro _ w ⟨v_51, v_53, rfl, hS1⟩
 have hS := hS.call hS1
 refine kb 3 rfl ?_
 refine kV (kD (cs := [.slice none 0 0, .slice none 0 0, vB false]) tz26 rfl hS) rfl ?_
 rintro _ w ⟨b_55, rfl, hS⟩
 refine kW (kL (i := 0) (us := [v_51, v_53, vB x_50.2.2.1]) rfl sz26 rfl rfl rfl ⟨(hS.ro 1 rfl).one, (hS.ro 2 rfl).one, rfl, trivial⟩ rfl hS) ?_
 intro w hS
 refine kb 1 rfl ?_
 refine ke (ka (kd (kc (kb 1 rfl ?_))))
 refine kh (kG (us := [va1_0, va1_1, vB a1_2]) Try.underlying26 rfl sz26 rfl (hS.bxs 18 rfl rfl)) rfl (kh (kG (us := [v_51, v_53, vB x_50.2.2.1]) Try.underlying26 rfl sz26 rfl (hS.bxs 0 rfl rfl)) rfl ?_)
 obtain ⟨x_57, hx_57, h⟩ := kf h
 refine kj (by kernel_rfl) rfl (c_curve_Add _ a0 a1_0 a1_1 a1_2 x_50.1 x_50.2.1 x_50.2.2.1 va1_0 va1_1 v_51 v_53  (ha1_0.now hS.fr).rp (ha1_1.now hS.fr).rp (hS.ro 1 rfl).rp (hS.ro 2 rfl).rp _ hx_57) rfl ?_
 rintro _ w ⟨v_58, v_60, rfl, hS1⟩
 have hS := hS.call hS1
 refine kb 3 rfl ?_
 refine kV (kD (cs := [.slice none 0 0, .slice none 0 0, vB false]) tz26 rfl hS) rfl ?_
 rintro _ w ⟨b_62, rfl, hS⟩
 refine kW (kL (i := 0) (us := [v_58, v_60, vB x_57.2.2.1]) rfl sz26 rfl rfl rfl ⟨(hS.ro 1 rfl).one, (hS.ro 2 rfl).one, rfl, trivial⟩ rfl hS) ?_
 intro w hS
 refine kb 1 rfl ?_
 refine ke (ka (kd ?_))
 refine kN (r := r) (fun (g : Bool) L w => L = [(0, vI a0), (6, pB b_3 0), (9, pB b_20 0), (11, pB b_27 0), (13, pB b_34 0), (17, pB b_48 0), (19, pB b_55 0), (21, pB b_62 0), (116, vB g)] ∧ St [] w0 w [OE.bx b_3 [va2_0, va2_1, vB a2_2], OE.bx b_20 [v_16, v_18, vB x_15.2.2.1], own e32 v_16 x_15.1, own e32 v_18 x_15.2.1, OE.bx b_27 [v_23, v_25, vB x_22.2.2.1], own e32 v_23 x_22.1, own e32 v_25 x_22.2.1, OE.bx b_34 [v_30, v_32, vB x_29.2.2.1], own e32 v_30 x_29.1, own e32 v_32 x_29.2.1, OE.bx b_48 [v_44, v_46, vB x_43.2.2.1], own e32 v_44 x_43.1, own e32 v_46 x_43.2.1, OE.bx b_55 [v_51, v_53, vB x_50.2.2.1], own e32 v_51 x_50.1, own e32 v_53 x_50.2.1, OE.bx b_62 [v_58, v_60, vB x_57.2.2.1], own e32 v_58 x_57.1, own e32 v_60 x_57.2.1]) (F.law11_CurveGroup_K2 a0 a2_0 a2_1 a2_2 x_15 x_22 x_29 x_43 x_50 x_57) ?_ ?_
 rotate_left
 ·intro hK_70
  refine kc (kb 3 rfl ?_)
  cases hb_64 : (x_15.2.2.2 != 0)
  case true =>
   have h := if_t h hb_64
   try simp only [hb_64]
   refine kb 19 rfl ?_
   refine ke (ka ?_)
   exact km _ (by exact ⟨rfl, rfl, rfl, rfl, rfl, rfl, rfl, rfl, rfl, trivial⟩) (hK_70 true _ _ ⟨rfl, (hS.pick [22, 18, 19, 20, 15, 16, 17, 12, 13, 14, 6, 7, 8, 3, 4, 5, 0, 1, 2] (by decide) rfl)⟩ h)
  case false =>
   have h := if_f h hb_64
   try simp only [hb_64]
   refine kb 4 rfl ?_
   cases hb_65 : (x_22.2.2.2 != 0)
   case true =>
    have h := if_t h hb_65
    try simp only [hb_65]
    refine kb 15 rfl ?_
    refine ke (ka ?_)
    exact km _ (by exact ⟨rfl, rfl, rfl, rfl, rfl, rfl, rfl, rfl, rfl, trivial⟩) (hK_70 true _ _ ⟨rfl, (hS.pick [22, 18, 19, 20, 15, 16, 17, 12, 13, 14, 6, 7, 8, 3, 4, 5, 0, 1, 2] (by decide) rfl)⟩ h)
   case false =>
    have h := if_f h hb_65
    try simp only [hb_65]
    refine kb 4 rfl ?_
    cases hb_66 : (x_29.2.2.2 != 0)
    case true =>
     have h := if_t h hb_66
     try simp only [hb_66]
     refine kb 11 rfl ?_
     refine ke (ka ?_)
     exact km _ (by exact ⟨rfl, rfl, rfl, rfl, rfl, rfl, rfl, rfl, rfl, trivial⟩) (hK_70 true _ _ ⟨rfl, (hS.pick [22, 18, 19, 20, 15, 16, 17, 12, 13, 14, 6, 7, 8, 3, 4, 5, 0, 1, 2] (by decide) rfl)⟩ h)
    case false =>
     have h := if_f h hb_66
     try simp only [hb_66]
     refine kb 4 rfl ?_
     cases hb_67 : (x_43.2.2.2 != 0)
     case true =>
      have h := if_t h hb_67
      try simp only [hb_67]
      refine kb 7 rfl ?_
      refine ke (ka ?_)
      exact km _ (by exact ⟨rfl, rfl, rfl, rfl, rfl, rfl, rfl, rfl, rfl, trivial⟩) (hK_70 true _ _ ⟨rfl, (hS.pick [22, 18, 19, 20, 15, 16, 17, 12, 13, 14, 6, 7, 8, 3, 4, 5, 0, 1, 2] (by decide) rfl)⟩ h)
     case false =>
      have h := if_f h hb_67
      try simp only [hb_67]
      refine kb 4 rfl ?_
      cases hb_68 : (x_50.2.2.2 != 0)
      case true =>
       have h := if_t h hb_68
       try simp only [hb_68]
       refine kb 3 rfl ?_
       refine ke (ka ?_)
       exact km _ (by exact ⟨rfl, rfl, rfl, rfl, rfl, rfl, rfl, rfl, rfl, trivial⟩) (hK_70 true _ _ ⟨rfl, (hS.pick [22, 18, 19, 20, 15, 16, 17, 12, 13, 14, 6, 7, 8, 3, 4, 5, 0, 1, 2] (by decide) rfl)⟩ h)
      case false =>
       have h := if_f h hb_68
       try simp only [hb_68]
       refine kb 3 rfl ?_
       refine ke (ka ?_)
       exact km _ (by exact ⟨rfl, rfl, rfl, rfl, rfl, rfl, rfl, rfl, rfl, trivial⟩) (hK_70 (x_57.2.2.2 != 0) _ _ ⟨rfl, (hS.pick [22, 18, 19, 20, 15, 16, 17, 12, 13, 14, 6, 7, 8, 3, 4, 5, 0, 1, 2] (by decide) rfl)⟩ h)
 rintro x_69 L w hJ h
 try dsimp only at hJ
 obtain ⟨rfl, hS⟩ := hJ
 unfold F.law11_CurveGroup_K2 at h
 refine kn rfl (fun hb_101 => ?_) (fun hb_101 => ?_)
 ·have h := if_t h hb_101
  refine kd (kc (kb 1 rfl ?_))
  refine ke (ka (ko (ku ?_)))
  cases h
  exact kx rfl rfl ⟨rfl, hS.pick [] (by decide) rfl⟩
 have h := if_f h hb_101
 refine kq (ka (kd (kc (kb 1 rfl ?_))))
 refine kh (kG (us := [v_16, v_18, vB x_15.2.2.1]) Try.underlying26 rfl sz26 rfl (hS.bxs 1 rfl rfl)) rfl (kh (kG (us := [v_58, v_60, vB x_57.2.2.1]) Try.underlying26 rfl sz26 rfl (hS.bxs 16 rfl rfl)) rfl ?_)
 obtain ⟨x_71, hx_71, h⟩ := kf h
 refine kj (by kernel_rfl) rfl (c_curve_Add _ a0 x_15.1 x_15.2.1 x_15.2.2.1 x_57.1 x_57.2.1 x_57.2.2.1 v_16 v_18 v_58 v_60  (hS.ro 2 rfl).rp (hS.ro 3 rfl).rp (hS.ro 17 rfl).rp (hS.ro 18 rfl).rp _ hx_71) rfl ?_
 rintro _ w ⟨v_72, v_74, rfl, hS1⟩
 have hS := hS.call hS1
 refine kb 3 rfl ?_
 refine kV (kD (cs := [.slice none 0 0, .slice none 0 0, vB false]) tz26 rfl hS) rfl ?_
 rintro _ w ⟨b_76, rfl, hS⟩
 refine kW (kL (i := 0) (us := [v_72, v_74, vB x_71.2.2.1]) rfl sz26 rfl rfl rfl ⟨(hS.ro 1 rfl).one, (hS.ro 2 rfl).one, rfl, trivial⟩ rfl hS) ?_
 intro w hS
 refine kb 1 rfl ?_
 refine ke (ka (kd (kc (kb 1 rfl ?_))))
 refine kh (kG (us := [v_16, v_18, vB x_15.2.2.1]) Try.underlying26 rfl sz26 rfl (hS.bxs 4 rfl rfl)) rfl (kh (kG (us := [v_51, v_53, vB x_50.2.2.1]) Try.underlying26 rfl sz26 rfl (hS.bxs 16 rfl rfl)) rfl ?_)
 obtain ⟨x_78, hx_78, h⟩ := kf h
 refine kj (by kernel_rfl) rfl (c_curve_Add _ a0 x_15.1 x_15.2.1 x_15.2.2.1 x_50.1 x_50.2.1 x_50.2.2.1 v_16 v_18 v_51 v_53  (hS.ro 5 rfl).rp (hS.ro 6 rfl).rp (hS.ro 17 rfl).rp (hS.ro 18 rfl).rp _ hx_78) rfl ?_
 rintro _ w ⟨v_79, v_81, rfl, hS1⟩
 have hS := hS.call hS1
 refine kb 3 rfl ?_
 refine kV (kD (cs := [.slice none 0 0, .slice none 0 0, vB false]) tz26 rfl hS) rfl ?_
 rintro _ w ⟨b_83, rfl, hS⟩
 refine kW (kL (i := 0) (us := [v_79, v_81, vB x_78.2.2.1]) rfl sz26 rfl rfl rfl ⟨(hS.ro 1 rfl).one, (hS.ro 2 rfl).one, rfl, trivial⟩ rfl hS) ?_
 intro w hS
 refine kb 1 rfl ?_
 refine ke (ka (kd (kc (kb 1 rfl ?_))))
 refine kh (kG (us := [va2_0, va2_1, vB a2_2]) Try.underlying26 rfl sz26 rfl (hS.bxs 6 rfl rfl)) rfl (kh (OpV_build (vs := [(2, vB true, [vB true])]) (cells := [.slice none 0 0, .slice none 0 0, vB true]) rfl lay26 ⟨rfl, trivial⟩ rfl) rfl ?_)
 obtain ⟨x_85, hx_85, h⟩ := kf h
 refine kj (by kernel_rfl) rfl (c_curve_Add _ a0 a2_0 a2_1 a2_2 [] [] true va2_0 va2_1 (.slice none 0 0) (.slice none 0 0)  (ha2_0.now hS.fr).rp (ha2_1.now hS.fr).rp (RO.nil _ e32).rp (RO.nil _ e32).rp _ hx_85) rfl ?_
 rintro _ w ⟨v_86, v_88, rfl, hS1⟩
 have hS := hS.call hS1
 refine kb 3 rfl ?_
 refine kV (kD (cs := [.slice none 0 0, .slice none 0 0, vB false]) tz26 rfl hS) rfl ?_
 rintro _ w ⟨b_90, rfl, hS⟩
 refine kW (kL (i := 0) (us := [v_86, v_88, vB x_85.2.2.1]) rfl sz26 rfl rfl rfl ⟨(hS.ro 1 rfl).one, (hS.ro 2 rfl).one, rfl, trivial⟩ rfl hS) ?_
 intro w hS
 refine kb 1 rfl ?_
 refine ke (ka (kd (kc (kh (kG (us := [v_16, v_18, vB x_15.2.2.1]) Try.underlying26 rfl sz26 rfl (hS.bxs 10 rfl rfl)) rfl (kh (kG (us := [v_23, v_25, vB x_22.2.2.1]) Try.underlying26 rfl sz26 rfl (hS.bxs 13 rfl rfl)) rfl ?_)))))
 obtain ⟨x_92, hx_92, h⟩ := kf h
 refine kj (by kernel_rfl) rfl (c_law11_same _ x_15.1 x_15.2.1 x_15.2.2.1 x_22.1 x_22.2.1 x_22.2.2.1 v_16 v_18 v_23 v_25  (hS.ro 11 rfl).rp (hS.ro 12 rfl).rp (hS.ro 14 rfl).rp (hS.ro 15 rfl).rp _ hx_92) rfl ?_
 rintro _ w ⟨rfl, hS1⟩
 have hS := hS.call hS1
 refine kb 1 rfl ?_
 cases hb_93 : x_92
 case true =>
  have h := if_t h hb_93
  try simp only [hb_93]
  refine kS (t := 141) rfl rfl (kG (us := [v_30, v_32, vB x_29.2.2.1]) Try.underlying26 rfl sz26 rfl (hS.bxs 16 rfl rfl)) rfl (kS (t := 141) rfl rfl (kG (us := [v_44, v_46, vB x_43.2.2.1]) Try.underlying26 rfl sz26 rfl (hS.bxs 19 rfl rfl)) rfl ?_)
  obtain ⟨x_94, hx_94, h⟩ := kf h
  refine wpR_gcall (t := 141) rfl rfl (by kernel_rfl) rfl (c_law11_same _ x_29.1 x_29.2.1 x_29.2.2.1 x_43.1 x_43.2.1 x_43.2.2.1 v_30 v_32 v_44 v_46  (hS.ro 17 rfl).rp (hS.ro 18 rfl).rp (hS.ro 20 rfl).rp (hS.ro 21 rfl).rp _ hx_94) rfl ?_
  rintro _ w ⟨rfl, hS1⟩
  have hS := hS.call hS1
  refine kb 2 rfl ?_
  cases hb_95 : x_94
  case true =>
   have h := if_t h hb_95
   try simp only [hb_95]
   refine kS (t := 146) rfl rfl (kk (k := 2) Try.underlying26 rfl rfl nz4 rfl) rfl (kS (t := 146) rfl rfl (kt Try.underlying4 rfl rfl (hS.bxc 25 rfl 2)) rfl (kb 2 rfl ?_))
   cases hb_96 : x_57.2.2.1
   case true =>
    have h := if_t h hb_96
    try simp only [hb_96]
    refine kS (t := 150) rfl rfl (kk (k := 0) Try.underlying26 rfl rfl nz24 rfl) rfl (kS (t := 150) rfl rfl (kt Try.underlying24 rfl rfl (hS.bxc 25 rfl 0)) rfl (kS (t := 150) rfl rfl (kA Try.underlying24 rfl (hS.ro 26 rfl)) rfl (kS (t := 150) rfl rfl (kk (k := 1) Try.underlying26 rfl rfl nz24 rfl) rfl (kS (t := 150) rfl rfl (kt Try.underlying24 rfl rfl (hS.bxc 25 rfl 1)) rfl (kS (t := 150) rfl rfl (kA Try.underlying24 rfl (hS.ro 27 rfl)) rfl (kb 4 rfl ?_))))))
    cases hb_97 : ((wI ((x_57.1.length : Int) + (x_57.2.1.length : Int))) == 0)
    case true =>
     have h := if_t h hb_97
     try simp only [hb_97]
     refine kS (t := 160) rfl rfl (kG (us := [v_72, v_74, vB x_71.2.2.1]) Try.underlying26 rfl sz26 rfl (hS.bxs 6 rfl rfl)) rfl (kS (t := 160) rfl rfl (kG (us := [v_16, v_18, vB x_15.2.2.1]) Try.underlying26 rfl sz26 rfl (hS.bxs 10 rfl rfl)) rfl ?_)
     obtain ⟨x_98, hx_98, h⟩ := kf h
     refine wpR_gcall (t := 160) rfl rfl (by kernel_rfl) rfl (c_law11_same _ x_71.1 x_71.2.1 x_71.2.2.1 x_15.1 x_15.2.1 x_15.2.2.1 v_72 v_74 v_16 v_18  (hS.ro 7 rfl).rp (hS.ro 8 rfl).rp (hS.ro 11 rfl).rp (hS.ro 12 rfl).rp _ hx_98) rfl ?_
     rintro _ w ⟨rfl, hS1⟩
     have hS := hS.call hS1
     refine kb 2 rfl ?_
     cases hb_99 : x_98
     case true =>
      have h := if_t h hb_99
      try simp only [hb_99]
      refine kS (t := 165) rfl rfl (kG (us := [v_79, v_81, vB x_78.2.2.1]) Try.underlying26 rfl sz26 rfl (hS.bxs 3 rfl rfl)) rfl (kS (t := 165) rfl rfl (kG (us := [v_86, v_88, vB x_85.2.2.1]) Try.underlying26 rfl sz26 rfl (hS.bxs 0 rfl rfl)) rfl ?_)
      obtain ⟨x_100, hx_100, h⟩ := kf h
      refine wpR_gcall (t := 165) rfl rfl (by kernel_rfl) rfl (c_law11_same _ x_78.1 x_78.2.1 x_78.2.2.1 x_85.1 x_85.2.1 x_85.2.2.1 v_79 v_81 v_86 v_88  (hS.ro 4 rfl).rp (hS.ro 5 rfl).rp (hS.ro 1 rfl).rp (hS.ro 2 rfl).rp _ hx_100) rfl ?_
      rintro _ w ⟨rfl, hS1⟩
      have hS := hS.call hS1
      refine kb 2 rfl ?_
      refine ke (ka (ko ?_))
      cases h
      exact kx rfl rfl ⟨rfl, hS.pick [] (by decide) rfl⟩
     case false =>
      have h := if_f h hb_99
      try simp only [hb_99]
      refine kb 5 rfl ?_
      refine ke (ka (ko ?_))
      cases h
      exact kx rfl rfl ⟨rfl, hS.pick [] (by decide) rfl⟩
    case false =>
     have h := if_f h hb_97
     try simp only [hb_97]
     refine kb 10 rfl ?_
     refine ke (ka (ko ?_))
     cases h
     exact kx rfl rfl ⟨rfl, hS.pick [] (by decide) rfl⟩
   case false =>
    have h := if_f h hb_96
    try simp only [hb_96]
    refine kb 20 rfl ?_
    refine ke (ka (ko ?_))
    cases h
    exact kx rfl rfl ⟨rfl, hS.pick [] (by decide) rfl⟩
  case false =>
   have h := if_f h hb_95
   try simp only [hb_95]
   refine kb 24 rfl ?_
   refine ke (ka (ko ?_))
   cases h
   exact kx rfl rfl ⟨rfl, hS.pick [] (by decide) rfl⟩
 case false =>
  have h := if_f h hb_93
  try simp only [hb_93]
  refine kb 29 rfl ?_
  refine ke (ka (ko ?_))
  cases h
  exact kx rfl rfl ⟨rfl, hS.pick [] (by decide) rfl⟩
end Go.Proofs
