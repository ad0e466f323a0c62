import Derived.Test.YtpbgncmffgnohaaGreatUW0
import Derived.Test.YtpbgncmffgnohaaGreatGkFlaw11
import Derived.Test.YtpbgncmffgnohaaGreatUWcurved
import Derived.Test.YtpbgncmffgnohaaGreatUWlaw11c
import Derived.Test.YtpbgncmffgnohaaGreatUWmodn
import Derived.Test.YtpbgncmffgnohaaGreatUWnatb
set_option linter.unusedVariables false
set_option linter.unusedSimpArgs false
set_option linter.unusedVariables false
set_option maxRecDepth 4000
namespace Go.Proofs
open Go Go.RowKit Go.Gk
theorem c_law11_started (w0 : World)    (r : Bool)
  (h : F.law11_started  = some r) : Calls Tryz.prog 26 #[] w0 (Ret fun v w => v = vB r ∧ St [] w0 w []) := by
 refine kz 70 Tryz.func26 rfl rfl rfl ?_
 have hS := St.start w0
 refine kn [] trivial ?_
 unfold F.law11_started at h
 refine ke (kc (kb 1 rfl ?_))
 refine kf (ka (ke (kc ?_)))
 obtain ⟨x_1, hx_1, h⟩ := kg h
 refine kk (by kernel_rfl) rfl (c_curve_Base _ 1    _ hx_1) rfl ?_
 rintro _ w ⟨v_2, v_4, rfl, hS1⟩
 have hS := hS.call hS1
 refine kW (kE (cs := [.slice none 0 0, .slice none 0 0, vB false]) tz27 rfl hS) rfl ?_
 rintro _ w ⟨b_6, rfl, hS⟩
 refine kX (kM (i := 0) (us := [v_2, v_4, vB x_1.2.2]) rfl sz27 rfl rfl rfl ⟨(hS.ro 1 rfl).one, (hS.ro 2 rfl).one, rfl, trivial⟩ rfl hS) ?_
 intro w hS
 refine kf (ka (ke (kc (ki (kH (us := [v_2, v_4, vB x_1.2.2]) Tryz.underlying27 rfl sz27 rfl (hS.bxs 0 rfl rfl)) rfl (ki (kH (us := [v_2, v_4, vB x_1.2.2]) Tryz.underlying27 rfl sz27 rfl (hS.bxs 0 rfl rfl)) rfl ?_)))))
 obtain ⟨x_8, hx_8, h⟩ := kg h
 refine kk (by kernel_rfl) rfl (c_curve_Add _ 1 x_1.1 x_1.2.1 x_1.2.2 x_1.1 x_1.2.1 x_1.2.2 v_2 v_4 v_2 v_4  (hS.ro 1 rfl).rp (hS.ro 2 rfl).rp (hS.ro 1 rfl).rp (hS.ro 2 rfl).rp _ hx_8) rfl ?_
 rintro _ w ⟨v_9, v_11, rfl, hS1⟩
 have hS := hS.call hS1
 refine kb 3 rfl ?_
 refine kW (kE (cs := [.slice none 0 0, .slice none 0 0, vB false]) tz27 rfl hS) rfl ?_
 rintro _ w ⟨b_13, rfl, hS⟩
 refine kX (kM (i := 0) (us := [v_9, v_11, vB x_8.2.2.1]) rfl sz27 rfl rfl rfl ⟨(hS.ro 1 rfl).one, (hS.ro 2 rfl).one, rfl, trivial⟩ rfl hS) ?_
 intro w hS
 refine kb 1 rfl ?_
 refine kf (ka (ke (kc ?_)))
 refine kW (OpX_lit (e := e32) (l := ([2] : List UInt32)) (vs := [v32 2]) Tryz.underlying25 ti52 rfl rfl rfl rfl (by decide) (by decide) hS) rfl ?_
 rintro v_15 w hS
 refine ki (kH (us := [v_2, v_4, vB x_1.2.2]) Tryz.underlying27 rfl sz27 rfl (hS.bxs 4 rfl rfl)) rfl ?_
 obtain ⟨x_17, hx_17, h⟩ := kg h
 refine kk (by kernel_rfl) rfl (c_curve_Mul _ 1 ([2] : List UInt32) x_1.1 x_1.2.1 x_1.2.2 v_15 v_2 v_4  (hS.ro 0 rfl).rp (hS.ro 5 rfl).rp (hS.ro 6 rfl).rp _ hx_17) rfl ?_
 rintro _ w ⟨v_18, v_20, rfl, hS1⟩
 have hS := hS.call hS1
 refine kb 3 rfl ?_
 refine kW (kE (cs := [.slice none 0 0, .slice none 0 0, vB false]) tz27 rfl hS) rfl ?_
 rintro _ w ⟨b_22, rfl, hS⟩
 refine kX (kM (i := 0) (us := [v_18, v_20, vB x_17.2.2.1]) rfl sz27 rfl rfl rfl ⟨(hS.ro 1 rfl).one, (hS.ro 2 rfl).one, rfl, trivial⟩ rfl hS) ?_
 intro w hS
 refine kb 1 rfl ?_
 refine kf (ka (ke (kc (ki (kH (us := [v_2, v_4, vB x_1.2.2]) Tryz.underlying27 rfl sz27 rfl (hS.bxs 7 rfl rfl)) rfl (ki (OpV_build (vs := []) (cells := [.slice none 0 0, .slice none 0 0, vB false]) rfl lay27 trivial rfl) rfl ?_)))))
 obtain ⟨x_24, hx_24, h⟩ := kg h
 refine kk (by kernel_rfl) rfl (c_curve_Add _ 1 x_1.1 x_1.2.1 x_1.2.2 [] [] false v_2 v_4 (.slice none 0 0) (.slice none 0 0)  (hS.ro 8 rfl).rp (hS.ro 9 rfl).rp (RO.nil _ e32).rp (RO.nil _ e32).rp _ hx_24) rfl ?_
 rintro _ w ⟨v_25, v_27, rfl, hS1⟩
 have hS := hS.call hS1
 refine kb 3 rfl ?_
 refine kW (kE (cs := [.slice none 0 0, .slice none 0 0, vB false]) tz27 rfl hS) rfl ?_
 rintro _ w ⟨b_29, rfl, hS⟩
 refine kX (kM (i := 0) (us := [v_25, v_27, vB x_24.2.2.1]) rfl sz27 rfl rfl rfl ⟨(hS.ro 1 rfl).one, (hS.ro 2 rfl).one, rfl, trivial⟩ rfl hS) ?_
 intro w hS
 refine kb 1 rfl ?_
 refine kf (ka (ke (kc (kb 3 rfl ?_))))
 cases hb_31 : (x_8.2.2.2 == 0)
 case true =>
  have h := if_t h hb_31
  try simp only [hb_31]
  refine kb 4 rfl ?_
  cases hb_32 : (x_17.2.2.2 == 0)
  case true =>
   have h := if_t h hb_32
   try simp only [hb_32]
   refine kb 4 rfl ?_
   cases hb_33 : (x_24.2.2.2 == 93)
   case true =>
    have h := if_t h hb_33
    try simp only [hb_33]
    refine kT (t := 37) rfl rfl (kH (us := [v_9, v_11, vB x_8.2.2.1]) Tryz.underlying27 rfl sz27 rfl (hS.bxs 7 rfl rfl)) rfl (kT (t := 37) rfl rfl (kH (us := [v_18, v_20, vB x_17.2.2.1]) Tryz.underlying27 rfl sz27 rfl (hS.bxs 3 rfl rfl)) rfl ?_)
    obtain ⟨x_34, hx_34, h⟩ := kg h
    refine wpR_gcall (t := 37) rfl rfl (by kernel_rfl) rfl (c_law11_same _ x_8.1 x_8.2.1 x_8.2.2.1 x_17.1 x_17.2.1 x_17.2.2.1 v_9 v_11 v_18 v_20  (hS.ro 8 rfl).rp (hS.ro 9 rfl).rp (hS.ro 4 rfl).rp (hS.ro 5 rfl).rp _ hx_34) rfl ?_
    rintro _ w ⟨rfl, hS1⟩
    have hS := hS.call hS1
    refine kb 2 rfl ?_
    cases hb_35 : x_34
    case true =>
     have h := if_t h hb_35
     try simp only [hb_35]
     refine kT (t := 42) rfl rfl (kl (k := 0) Tryz.underlying27 rfl rfl nz25 rfl) rfl (kT (t := 42) rfl rfl (ku Tryz.underlying25 rfl rfl (hS.bxc 7 rfl 0)) rfl (kT (t := 42) rfl rfl (kB Tryz.underlying25 rfl (hS.ro 8 rfl)) rfl (kb 3 rfl ?_)))
     cases hb_36 : ((x_8.1.length : Int) == 8)
     case true =>
      have h := if_t h hb_36
      try simp only [hb_36]
      refine kT (t := 48) rfl rfl (kl (k := 0) Tryz.underlying27 rfl rfl nz25 rfl) rfl (kT (t := 48) rfl rfl (ku Tryz.underlying25 rfl rfl (hS.bxc 7 rfl 0)) rfl ?_)
      obtain ⟨x_37, hx_37, h⟩ := kg h
      refine kT (t := 48) rfl rfl (G_ix Tryz.underlying25 ti52 rfl rfl (hS.ro 8 rfl) hx_37) rfl (kT (t := 48) rfl rfl (G_load Tryz.underlying52 rfl rfl (hS.ro 8 rfl) hx_37 rfl) rfl (kT (t := 48) rfl rfl (kt rfl rfl (b_eql32 _ x_37 1197906296)) rfl (kb 2 rfl ?_)))
      cases hb_38 : (x_37 == 1197906296)
      case true =>
       have h := if_t h hb_38
       try simp only [hb_38]
       refine kT (t := 55) rfl rfl (kl (k := 1) Tryz.underlying27 rfl rfl nz25 rfl) rfl (kT (t := 55) rfl rfl (ku Tryz.underlying25 rfl rfl (hS.bxc 7 rfl 1)) rfl ?_)
       obtain ⟨x_39, hx_39, h⟩ := kg h
       refine kT (t := 55) rfl rfl (G_ix Tryz.underlying25 ti52 rfl rfl (hS.ro 9 rfl) hx_39) rfl (kT (t := 55) rfl rfl (G_load Tryz.underlying52 rfl rfl (hS.ro 9 rfl) hx_39 rfl) rfl (kT (t := 55) rfl rfl (kt rfl rfl (b_eql32 _ x_39 578319313)) rfl (kb 2 rfl ?_)))
       cases hb_40 : (x_39 == 578319313)
       case true =>
        have h := if_t h hb_40
        try simp only [hb_40]
        refine kT (t := 62) rfl rfl (kH (us := [v_9, v_11, vB x_8.2.2.1]) Tryz.underlying27 rfl sz27 rfl (hS.bxs 7 rfl rfl)) rfl ?_
        obtain ⟨x_41, hx_41, h⟩ := kg h
        refine wpR_gcall (t := 62) rfl rfl (by kernel_rfl) rfl (c_curve_On _ 1 x_8.1 x_8.2.1 x_8.2.2.1 v_9 v_11  (hS.ro 8 rfl).rp (hS.ro 9 rfl).rp _ hx_41) rfl ?_
        rintro _ w ⟨rfl, hS1⟩
        have hS := hS.call hS1
        refine kb 2 rfl ?_
        cases hb_42 : x_41
        case true =>
         have h := if_t h hb_42
         try simp only [hb_42]
         obtain ⟨x_43, hx_43, h⟩ := kg h
         refine wpR_gcall (t := 66) rfl rfl (by kernel_rfl) rfl (c_curve_Base _ 2    _ hx_43) rfl ?_
         rintro _ w ⟨v_44, v_46, rfl, hS1⟩
         have hS := hS.call hS1
         obtain ⟨x_48, hx_48, h⟩ := kg h
         refine wpR_gcall (t := 66) rfl rfl (by kernel_rfl) rfl (c_curve_On _ 2 x_43.1 x_43.2.1 x_43.2.2 v_44 v_46  (hS.ro 0 rfl).rp (hS.ro 1 rfl).rp _ hx_48) rfl ?_
         rintro _ w ⟨rfl, hS1⟩
         have hS := hS.call hS1
         refine kb 2 rfl ?_
         refine kf (ka (kq ?_))
         cases h
         exact ky rfl rfl ⟨rfl, hS.pick [] (by decide) rfl⟩
        case false =>
         have h := if_f h hb_42
         try simp only [hb_42]
         refine kb 4 rfl ?_
         refine kf (ka (kq ?_))
         cases h
         exact ky rfl rfl ⟨rfl, hS.pick [] (by decide) rfl⟩
       case false =>
        have h := if_f h hb_40
        try simp only [hb_40]
        refine kb 8 rfl ?_
        refine kf (ka (kq ?_))
        cases h
        exact ky rfl rfl ⟨rfl, hS.pick [] (by decide) rfl⟩
      case false =>
       have h := if_f h hb_38
       try simp only [hb_38]
       refine kb 15 rfl ?_
       refine kf (ka (kq ?_))
       cases h
       exact ky rfl rfl ⟨rfl, hS.pick [] (by decide) rfl⟩
     case false =>
      have h := if_f h hb_36
      try simp only [hb_36]
      refine kb 22 rfl ?_
      refine kf (ka (kq ?_))
      cases h
      exact ky rfl rfl ⟨rfl, hS.pick [] (by decide) rfl⟩
    case false =>
     have h := if_f h hb_35
     try simp only [hb_35]
     refine kb 28 rfl ?_
     refine kf (ka (kq ?_))
     cases h
     exact ky rfl rfl ⟨rfl, hS.pick [] (by decide) rfl⟩
   case false =>
    have h := if_f h hb_33
    try simp only [hb_33]
    refine kb 33 rfl ?_
    refine kf (ka (kq ?_))
    cases h
    exact ky rfl rfl ⟨rfl, hS.pick [] (by decide) rfl⟩
  case false =>
   have h := if_f h hb_32
   try simp only [hb_32]
   refine kb 37 rfl ?_
   refine kf (ka (kq ?_))
   cases h
   exact ky rfl rfl ⟨rfl, hS.pick [] (by decide) rfl⟩
 case false =>
  have h := if_f h hb_31
  try simp only [hb_31]
  refine kb 41 rfl ?_
  refine kf (ka (kq ?_))
  cases h
  exact ky rfl rfl ⟨rfl, hS.pick [] (by decide) rfl⟩
theorem c_law11_field_sub (w0 : World) (a0_0 : List UInt32) (a1 : List UInt32) (a2 : List UInt32) (va0_0 : Value) (va1 : Value) (va2 : Value) (ha0_0 : RP [] w0 e32 va0_0 a0_0) (ha1 : RP [] w0 e32 va1 a1) (ha2 : RP [] w0 e32 va2 a2) (r : List UInt32)
  (h : F.law11_field_sub a0_0 a1 a2 = some r) : Calls Tryz.prog 30 #[.agg #[va0_0], va1, va2] w0 (Ret fun v w => St [] w0 w [own e32 v r]) := by
 refine kz 18 Tryz.func30 rfl rfl rfl ?_
 have hS := St.start w0
 refine kn [(0, .agg #[va0_0]), (1, va1), (2, va2)] ⟨rfl, rfl, rfl, trivial⟩ ?_
 unfold F.law11_field_sub at h
 refine ke (kc (kW (OpX_box (cs := [va0_0]) rfl rfl hS) rfl ?_))
 rintro _ w ⟨b_1, rfl, hS⟩
 refine kb 1 rfl ?_
 refine kf (ka (ke (kc (kb 2 rfl ?_))))
 refine ki (kl (k := 0) Tryz.underlying49 rfl rfl nz25 rfl) rfl (ki (ku Tryz.underlying25 rfl rfl (hS.bxc 0 rfl 0)) rfl ?_)
 obtain ⟨x_3, hx_3, h⟩ := kg h
 refine kk (by kernel_rfl) rfl (c_modn_Sub _ a1 a2 a0_0 va1 va2 va0_0  (ha1.now hS.fr).rp (ha2.now hS.fr).rp (ha0_0.now hS.fr).rp _ hx_3) rfl ?_
 rintro _ w ⟨v_4, rfl, hS1⟩
 have hS := hS.call hS1
 refine kb 5 rfl ?_
 refine kf (ka (ke (kc (kb 2 rfl ?_))))
 refine kf (ka (kq ?_))
 cases h
 exact ky rfl rfl (hS.pick [0] (by decide) rfl)
theorem c_law11_field_add (w0 : World) (a0_0 : List UInt32) (a1 : List UInt32) (a2 : List UInt32) (va0_0 : Value) (va1 : Value) (va2 : Value) (ha0_0 : RP [] w0 e32 va0_0 a0_0) (ha1 : RP [] w0 e32 va1 a1) (ha2 : RP [] w0 e32 va2 a2) (r : List UInt32)
  (h : F.law11_field_add a0_0 a1 a2 = some r) : Calls Tryz.prog 31 #[.agg #[va0_0], va1, va2] w0 (Ret fun v w => St [] w0 w [own e32 v r]) := by
 refine kz 18 Tryz.func31 rfl rfl rfl ?_
 have hS := St.start w0
 refine kn [(0, .agg #[va0_0]), (1, va1), (2, va2)] ⟨rfl, rfl, rfl, trivial⟩ ?_
 unfold F.law11_field_add at h
 refine ke (kc (kW (OpX_box (cs := [va0_0]) rfl rfl hS) rfl ?_))
 rintro _ w ⟨b_1, rfl, hS⟩
 refine kb 1 rfl ?_
 refine kf (ka (ke (kc (kb 2 rfl ?_))))
 refine ki (kl (k := 0) Tryz.underlying49 rfl rfl nz25 rfl) rfl (ki (ku Tryz.underlying25 rfl rfl (hS.bxc 0 rfl 0)) rfl ?_)
 obtain ⟨x_3, hx_3, h⟩ := kg h
 refine kk (by kernel_rfl) rfl (c_modn_Add _ a1 a2 a0_0 va1 va2 va0_0  (ha1.now hS.fr).rp (ha2.now hS.fr).rp (ha0_0.now hS.fr).rp _ hx_3) rfl ?_
 rintro _ w ⟨v_4, rfl, hS1⟩
 have hS := hS.call hS1
 refine kb 5 rfl ?_
 refine kf (ka (ke (kc (kb 2 rfl ?_))))
 refine kf (ka (kq ?_))
 cases h
 exact ky rfl rfl (hS.pick [0] (by decide) rfl)
theorem c_law11_field_mul (w0 : World) (a0_0 : List UInt32) (a1 : List UInt32) (a2 : List UInt32) (va0_0 : Value) (va1 : Value) (va2 : Value) (ha0_0 : RP [] w0 e32 va0_0 a0_0) (ha1 : RP [] w0 e32 va1 a1) (ha2 : RP [] w0 e32 va2 a2) (r : List UInt32)
  (h : F.law11_field_mul a0_0 a1 a2 = some r) : Calls Tryz.prog 32 #[.agg #[va0_0], va1, va2] w0 (Ret fun v w => St [] w0 w [own e32 v r]) := by
 refine kz 18 Tryz.func32 rfl rfl rfl ?_
 have hS := St.start w0
 refine kn [(0, .agg #[va0_0]), (1, va1), (2, va2)] ⟨rfl, rfl, rfl, trivial⟩ ?_
 unfold F.law11_field_mul at h
 refine ke (kc (kW (OpX_box (cs := [va0_0]) rfl rfl hS) rfl ?_))
 rintro _ w ⟨b_1, rfl, hS⟩
 refine kb 1 rfl ?_
 refine kf (ka (ke (kc (kb 2 rfl ?_))))
 refine ki (kl (k := 0) Tryz.underlying49 rfl rfl nz25 rfl) rfl (ki (ku Tryz.underlying25 rfl rfl (hS.bxc 0 rfl 0)) rfl ?_)
 obtain ⟨x_3, hx_3, h⟩ := kg h
 refine kk (by kernel_rfl) rfl (c_modn_Mul _ a1 a2 a0_0 va1 va2 va0_0  (ha1.now hS.fr).rp (ha2.now hS.fr).rp (ha0_0.now hS.fr).rp _ hx_3) rfl ?_
 rintro _ w ⟨v_4, rfl, hS1⟩
 have hS := hS.call hS1
 refine kb 5 rfl ?_
 refine kf (ka (ke (kc (kb 2 rfl ?_))))
 refine kf (ka (kq ?_))
 cases h
 exact ky rfl rfl (hS.pick [0] (by decide) rfl)
theorem c_law11_line (w0 : World) (a0_0 : List UInt32) (a1_0 : List UInt32) (a1_1 : List UInt32) (a1_2 : Bool) (a2_0 : List UInt32) (a2_1 : List UInt32) (a2_2 : Bool) (a3_0 : List UInt32) (a3_1 : List UInt32) (a3_2 : Bool) (a4 : List UInt32) (a5 : List UInt32) (va0_0 : Value) (va1_0 : Value) (va1_1 : Value) (va2_0 : Value) (va2_1 : Value) (va3_0 : Value) (va3_1 : Value) (va4 : Value) (va5 : Value) (ha0_0 : RP [] w0 e32 va0_0 a0_0) (ha1_0 : RP [] w0 e32 va1_0 a1_0) (ha1_1 : RP [] w0 e32 va1_1 a1_1) (ha2_0 : RP [] w0 e32 va2_0 a2_0) (ha2_1 : RP [] w0 e32 va2_1 a2_1) (ha3_0 : RP [] w0 e32 va3_0 a3_0) (ha3_1 : RP [] w0 e32 va3_1 a3_1) (ha4 : RP [] w0 e32 va4 a4) (ha5 : RP [] w0 e32 va5 a5) (r : Bool)
  (h : F.law11_line a0_0 a1_0 a1_1 a1_2 a2_0 a2_1 a2_2 a3_0 a3_1 a3_2 a4 a5 = some r) : Calls Tryz.prog 29 #[.agg #[va0_0], .agg #[va1_0, va1_1, vB a1_2], .agg #[va2_0, va2_1, vB a2_2], .agg #[va3_0, va3_1, vB a3_2], va4, va5] w0 (Ret fun v w => v = vB r ∧ St [] w0 w []) := by
 refine kz 61 Tryz.func29 rfl rfl rfl ?_
 have hS := St.start w0
 refine kn [(0, .agg #[va0_0]), (1, .agg #[va1_0, va1_1, vB a1_2]), (2, .agg #[va2_0, va2_1, vB a2_2]), (3, .agg #[va3_0, va3_1, vB a3_2]), (4, va4), (5, va5)] ⟨rfl, rfl, rfl, rfl, rfl, rfl, trivial⟩ ?_
 unfold F.law11_line at h
 refine ke (kc (kW (OpX_box (cs := [va0_0]) rfl rfl hS) rfl ?_))
 rintro _ w ⟨b_1, rfl, hS⟩
 refine kW (OpX_box (cs := [va1_0, va1_1, vB a1_2]) rfl rfl hS) rfl ?_
 rintro _ w ⟨b_3, rfl, hS⟩
 refine kW (OpX_box (cs := [va2_0, va2_1, vB a2_2]) rfl rfl hS) rfl ?_
 rintro _ w ⟨b_5, rfl, hS⟩
 refine kW (OpX_box (cs := [va3_0, va3_1, vB a3_2]) rfl rfl hS) rfl ?_
 rintro _ w ⟨b_7, rfl, hS⟩
 refine kb 1 rfl ?_
 refine kf (ka (ke ?_))
 refine kN (fun w' => St [] w0 w' [OE.bx b_7 [va3_0, va3_1, vB a3_2], OE.bx b_5 [va2_0, va2_1, vB a2_2], OE.bx b_3 [va1_0, va1_1, vB a1_2], OE.bx b_1 [va0_0]]) (fun i => !([9, 10, 14, 15].contains i)) hmix (fun _ _ _ hf => hf.2) (fun _ _ hf => hf) (by kernel_rfl) ?_
 have hS := hS.drew
 show lxE _ _ _ _ _ _ _ [0, 1, 2, 3, 4, 5, 6, 7, 8, 9, 10, 11, 12, 13, 14, 15, 16] _ _
 refine kj hS rfl rfl (fun w hF => kH (us := [va0_0]) Tryz.underlying49 rfl sz49 rfl (hF.bxs 3 rfl rfl)) rfl (kj hS rfl rfl (fun w hF => kH (us := [va0_0]) Tryz.underlying49 rfl sz49 rfl (hF.bxs 3 rfl rfl)) rfl (kj hS rfl rfl (fun w hF => kl (k := 0) Tryz.underlying27 rfl rfl nz25 rfl) rfl (kj hS rfl rfl (fun w hF => ku Tryz.underlying25 rfl rfl (hF.bxc 0 rfl 0)) rfl (kj hS rfl rfl (fun w hF => kH (us := [va0_0]) Tryz.underlying49 rfl sz49 rfl (hF.bxs 3 rfl rfl)) rfl (kj hS rfl rfl (fun w hF => kl (k := 0) Tryz.underlying27 rfl rfl nz25 rfl) rfl (kj hS rfl rfl (fun w hF => ku Tryz.underlying25 rfl rfl (hF.bxc 2 rfl 0)) rfl (kj hS rfl rfl (fun w hF => kl (k := 0) Tryz.underlying27 rfl rfl nz25 rfl) rfl (kj hS rfl rfl (fun w hF => ku Tryz.underlying25 rfl rfl (hF.bxc 1 rfl 0)) rfl ?_))))))))
 obtain ⟨x_9, hx_9, h⟩ := kg h
 refine kP hS rfl rfl (by kernel_rfl) rfl (c_law11_field_add _ a0_0 a1_0 a2_0 va0_0 va1_0 va2_0  (ha0_0.now hS.fr).rp (ha1_0.now hS.fr).rp (ha2_0.now hS.fr).rp _ hx_9) rfl ?_
 rintro v_10 w hS1
 have hS := hS.call hS1
 obtain ⟨x_12, hx_12, h⟩ := kg h
 refine kP (hS.pick [1, 2, 3, 4] (by decide) rfl) rfl rfl (by kernel_rfl) rfl (c_law11_field_add _ a0_0 a3_0 x_9 va0_0 va3_0 v_10  (ha0_0.now hS.fr).rp (ha3_0.now hS.fr).rp (hS.ro 0 rfl).rp _ hx_12) rfl ?_
 rintro v_13 w hS1
 have hS := hS.call hS1
 refine kj (hS.pick [2, 3, 4, 5] (by decide) rfl) rfl rfl (fun w hF => kH (us := [va0_0]) Tryz.underlying49 rfl sz49 rfl (hF.bxs 3 rfl rfl)) rfl ?_
 refine kj (hS.pick [2, 3, 4, 5] (by decide) rfl) rfl rfl (fun w hF => km rfl) rfl ?_
 refine kj (hS.pick [2, 3, 4, 5] (by decide) rfl) rfl rfl (fun w hF => km rfl) rfl ?_
 obtain ⟨x_15, hx_15, h⟩ := kg h
 refine kP (hS.pick [2, 3, 4, 5] (by decide) rfl) rfl rfl (by kernel_rfl) rfl (c_law11_field_mul _ a0_0 a5 a5 va0_0 va5 va5  (ha0_0.now hS.fr).rp (ha5.now hS.fr).rp (ha5.now hS.fr).rp _ hx_15) rfl ?_
 rintro v_16 w hS1
 have hS := hS.call hS1
 obtain ⟨x_18, hx_18, h⟩ := kg h
 refine kP (hS.pick [3, 4, 5, 6] (by decide) rfl) rfl rfl (by kernel_rfl) rfl (c_law11_field_mul _ a0_0 x_12 x_15 va0_0 v_13 v_16  (ha0_0.now hS.fr).rp (hS.ro 1 rfl).rp (hS.ro 0 rfl).rp _ hx_18) rfl ?_
 rintro v_19 w hS1
 have hS := hS.call hS1
 refine kj (hS.pick [4, 5, 6, 7] (by decide) rfl) rfl rfl (fun w hF => kA rfl) rfl ?_
 refine kY (hS.pick [4, 5, 6, 7] (by decide) rfl) ?_
 refine ka (ke ?_)
 refine kN (fun w' => St [] w0 w' [own e32 v_19 x_18, own e32 v_16 x_15, own e32 v_13 x_12, own e32 v_10 x_9, OE.bx b_7 [va3_0, va3_1, vB a3_2], OE.bx b_5 [va2_0, va2_1, vB a2_2], OE.bx b_3 [va1_0, va1_1, vB a1_2], OE.bx b_1 [va0_0]]) (fun i => !([6, 8].contains i)) hmix (fun _ _ _ hf => hf.2) (fun _ _ hf => hf) (by kernel_rfl) ?_
 have hS := hS.drew
 show lxE _ _ _ _ _ _ _ [0, 1, 2, 3, 4, 5, 6, 7, 8, 9] _ _
 refine kj hS rfl rfl (fun w hF => kH (us := [va0_0]) Tryz.underlying49 rfl sz49 rfl (hF.bxs 7 rfl rfl)) rfl (kj hS rfl rfl (fun w hF => kH (us := [va0_0]) Tryz.underlying49 rfl sz49 rfl (hF.bxs 7 rfl rfl)) rfl (kj hS rfl rfl (fun w hF => kl (k := 1) Tryz.underlying27 rfl rfl nz25 rfl) rfl (kj hS rfl rfl (fun w hF => ku Tryz.underlying25 rfl rfl (hF.bxc 4 rfl 1)) rfl (kj hS rfl rfl (fun w hF => kl (k := 1) Tryz.underlying27 rfl rfl nz25 rfl) rfl (kj hS rfl rfl (fun w hF => ku Tryz.underlying25 rfl rfl (hF.bxc 6 rfl 1)) rfl ?_)))))
 obtain ⟨x_21, hx_21, h⟩ := kg h
 refine kP hS rfl rfl (by kernel_rfl) rfl (c_law11_field_add _ a0_0 a3_1 a1_1 va0_0 va3_1 va1_1  (ha0_0.now hS.fr).rp (ha3_1.now hS.fr).rp (ha1_1.now hS.fr).rp _ hx_21) rfl ?_
 rintro v_22 w hS1
 have hS := hS.call hS1
 refine kj (hS.pick [1, 2, 3, 4, 5, 6, 7, 8] (by decide) rfl) rfl rfl (fun w hF => km rfl) rfl ?_
 obtain ⟨x_24, hx_24, h⟩ := kg h
 refine kP (hS.pick [1, 2, 3, 4, 5, 6, 7, 8] (by decide) rfl) rfl rfl (by kernel_rfl) rfl (c_law11_field_mul _ a0_0 x_21 a5 va0_0 v_22 va5  (ha0_0.now hS.fr).rp (hS.ro 0 rfl).rp (ha5.now hS.fr).rp _ hx_24) rfl ?_
 rintro v_25 w hS1
 have hS := hS.call hS1
 refine kj (hS.pick [2, 3, 4, 5, 6, 7, 8, 9] (by decide) rfl) rfl rfl (fun w hF => kA rfl) rfl ?_
 refine kY (hS.pick [2, 3, 4, 5, 6, 7, 8, 9] (by decide) rfl) ?_
 refine ka (ke ?_)
 refine kN (fun w' => St [] w0 w' [own e32 v_25 x_24, own e32 v_22 x_21, own e32 v_19 x_18, own e32 v_16 x_15, own e32 v_13 x_12, own e32 v_10 x_9, OE.bx b_7 [va3_0, va3_1, vB a3_2], OE.bx b_5 [va2_0, va2_1, vB a2_2], OE.bx b_3 [va1_0, va1_1, vB a1_2], OE.bx b_1 [va0_0]]) (fun i => !([4, 5, 16, 17, 18].contains i)) hmix (fun _ _ _ hf => hf.2) (fun _ _ hf => hf) (by kernel_rfl) ?_
 have hS := hS.drew
 show lxE _ _ _ _ _ _ _ [0, 1, 2, 3, 4, 5, 6, 7, 8, 9, 10, 11, 12, 13, 14, 15, 16, 17, 18, 19, 20, 21] _ _
 refine kj hS rfl rfl (fun w hF => km rfl) rfl (kj hS rfl rfl (fun w hF => kH (us := [va0_0]) Tryz.underlying49 rfl sz49 rfl (hF.bxs 9 rfl rfl)) rfl (kj hS rfl rfl (fun w hF => km rfl) rfl (kj hS rfl rfl (fun w hF => km rfl) rfl ?_)))
 obtain ⟨x_27, hx_27, h⟩ := kg h
 refine kP hS rfl rfl (by kernel_rfl) rfl (c_law11_field_mul _ a0_0 a4 a4 va0_0 va4 va4  (ha0_0.now hS.fr).rp (ha4.now hS.fr).rp (ha4.now hS.fr).rp _ hx_27) rfl ?_
 rintro v_28 w hS1
 have hS := hS.call hS1
 obtain ⟨x_30, hx_30, h⟩ := kg h
 refine kP (hS.pick [1, 2, 3, 4, 5, 6, 7, 8, 9, 10] (by decide) rfl) rfl rfl (by kernel_rfl) rfl (c_nat_Cmp _ x_18 x_27 v_19 v_28  (hS.ro 3 rfl).rp (hS.ro 0 rfl).rp _ hx_30) rfl ?_
 rintro _ w ⟨rfl, hS1⟩
 have hS := hS.call hS1
 refine kj (hS.pick [1, 2, 3, 4, 5, 6, 7, 8, 9, 10] (by decide) rfl) rfl rfl (fun w hF => kt rfl rfl (b_ieql _ x_30 0)) rfl ?_
 refine kj (hS.pick [1, 2, 3, 4, 5, 6, 7, 8, 9, 10] (by decide) rfl) rfl rfl (fun w hF => km rfl) rfl ?_
 cases hb_31 : (x_30 == 0)
 case true =>
  have h := if_t h hb_31
  try simp only [hb_31]
  refine kb1 (t := 47) (hS.pick [1, 2, 3, 4, 5, 6, 7, 8, 9, 10] (by decide) rfl) rfl rfl rfl rfl (fun w hF => km rfl) rfl ?_
  refine kb1 (t := 47) (hS.pick [1, 2, 3, 4, 5, 6, 7, 8, 9, 10] (by decide) rfl) rfl rfl rfl rfl (fun w hF => kH (us := [va0_0]) Tryz.underlying49 rfl sz49 rfl (hF.bxs 9 rfl rfl)) rfl ?_
  refine kb1 (t := 47) (hS.pick [1, 2, 3, 4, 5, 6, 7, 8, 9, 10] (by decide) rfl) rfl rfl rfl rfl (fun w hF => km rfl) rfl ?_
  refine kb1 (t := 47) (hS.pick [1, 2, 3, 4, 5, 6, 7, 8, 9, 10] (by decide) rfl) rfl rfl rfl rfl (fun w hF => kH (us := [va0_0]) Tryz.underlying49 rfl sz49 rfl (hF.bxs 9 rfl rfl)) rfl ?_
  refine kb1 (t := 47) (hS.pick [1, 2, 3, 4, 5, 6, 7, 8, 9, 10] (by decide) rfl) rfl rfl rfl rfl (fun w hF => kl (k := 0) Tryz.underlying27 rfl rfl nz25 rfl) rfl ?_
  refine kb1 (t := 47) (hS.pick [1, 2, 3, 4, 5, 6, 7, 8, 9, 10] (by decide) rfl) rfl rfl rfl rfl (fun w hF => ku Tryz.underlying25 rfl rfl (hF.bxc 8 rfl 0)) rfl ?_
  refine kb1 (t := 47) (hS.pick [1, 2, 3, 4, 5, 6, 7, 8, 9, 10] (by decide) rfl) rfl rfl rfl rfl (fun w hF => kl (k := 0) Tryz.underlying27 rfl rfl nz25 rfl) rfl ?_
  refine kb1 (t := 47) (hS.pick [1, 2, 3, 4, 5, 6, 7, 8, 9, 10] (by decide) rfl) rfl rfl rfl rfl (fun w hF => ku Tryz.underlying25 rfl rfl (hF.bxc 6 rfl 0)) rfl ?_
  obtain ⟨x_32, hx_32, h⟩ := kg h
  refine lxE_gcall (t := 47) (hS.pick [1, 2, 3, 4, 5, 6, 7, 8, 9, 10] (by decide) rfl) rfl rfl rfl rfl (by kernel_rfl) rfl (c_law11_field_sub _ a0_0 a1_0 a3_0 va0_0 va1_0 va3_0  (ha0_0.now hS.fr).rp (ha1_0.now hS.fr).rp (ha3_0.now hS.fr).rp _ hx_32) rfl ?_
  rintro v_33 w hS1
  have hS := hS.call hS1
  obtain ⟨x_35, hx_35, h⟩ := kg h
  refine lxE_gcall (t := 47) (hS.pick [2, 3, 4, 5, 6, 7, 8, 9, 10, 11] (by decide) rfl) rfl rfl rfl rfl (by kernel_rfl) rfl (c_law11_field_mul _ a0_0 a4 x_32 va0_0 va4 v_33  (ha0_0.now hS.fr).rp (ha4.now hS.fr).rp (hS.ro 0 rfl).rp _ hx_35) rfl ?_
  rintro v_36 w hS1
  have hS := hS.call hS1
  obtain ⟨x_38, hx_38, h⟩ := kg h
  refine lxE_gcall (t := 47) (hS.pick [3, 4, 5, 6, 7, 8, 9, 10, 11, 12] (by decide) rfl) rfl rfl rfl rfl (by kernel_rfl) rfl (c_nat_Cmp _ x_24 x_35 v_25 v_36  (hS.ro 3 rfl).rp (hS.ro 0 rfl).rp _ hx_38) rfl ?_
  rintro _ w ⟨rfl, hS1⟩
  have hS := hS.call hS1
  refine kb1 (t := 47) (hS.pick [3, 4, 5, 6, 7, 8, 9, 10, 11, 12] (by decide) rfl) rfl rfl rfl rfl (fun w hF => kt rfl rfl (b_ieql _ x_38 0)) rfl ?_
  refine kj (hS.pick [3, 4, 5, 6, 7, 8, 9, 10, 11, 12] (by decide) rfl) rfl rfl (fun w hF => kd1 rfl rfl) rfl ?_
  refine kj (hS.pick [3, 4, 5, 6, 7, 8, 9, 10, 11, 12] (by decide) rfl) rfl rfl (fun w hF => kA rfl) rfl ?_
  refine kY (hS.pick [3, 4, 5, 6, 7, 8, 9, 10, 11, 12] (by decide) rfl) ?_
  refine ka (kq ?_)
  cases h
  exact ky rfl rfl ⟨rfl, hS.pick [] (by decide) rfl⟩
 case false =>
  have h := if_f h hb_31
  try simp only [hb_31]
  refine kD (b := false) (t := 47) (hS.pick [1, 2, 3, 4, 5, 6, 7, 8, 9, 10] (by decide) rfl) rfl rfl rfl rfl rfl rfl ?_
  refine kD (b := false) (t := 47) (hS.pick [1, 2, 3, 4, 5, 6, 7, 8, 9, 10] (by decide) rfl) rfl rfl rfl rfl rfl rfl ?_
  refine kD (b := false) (t := 47) (hS.pick [1, 2, 3, 4, 5, 6, 7, 8, 9, 10] (by decide) rfl) rfl rfl rfl rfl rfl rfl ?_
  refine kD (b := false) (t := 47) (hS.pick [1, 2, 3, 4, 5, 6, 7, 8, 9, 10] (by decide) rfl) rfl rfl rfl rfl rfl rfl ?_
  refine kD (b := false) (t := 47) (hS.pick [1, 2, 3, 4, 5, 6, 7, 8, 9, 10] (by decide) rfl) rfl rfl rfl rfl rfl rfl ?_
  refine kD (b := false) (t := 47) (hS.pick [1, 2, 3, 4, 5, 6, 7, 8, 9, 10] (by decide) rfl) rfl rfl rfl rfl rfl rfl ?_
  refine kD (b := false) (t := 47) (hS.pick [1, 2, 3, 4, 5, 6, 7, 8, 9, 10] (by decide) rfl) rfl rfl rfl rfl rfl rfl ?_
  refine kD (b := false) (t := 47) (hS.pick [1, 2, 3, 4, 5, 6, 7, 8, 9, 10] (by decide) rfl) rfl rfl rfl rfl rfl rfl ?_
  refine lxE_gskipL (b := false) (t := 47) (hS.pick [1, 2, 3, 4, 5, 6, 7, 8, 9, 10] (by decide) rfl) rfl rfl rfl rfl rfl rfl ?_
  refine lxE_gskipL (b := false) (t := 47) (hS.pick [1, 2, 3, 4, 5, 6, 7, 8, 9, 10] (by decide) rfl) rfl rfl rfl rfl rfl rfl ?_
  refine lxE_gskipL (b := false) (t := 47) (hS.pick [1, 2, 3, 4, 5, 6, 7, 8, 9, 10] (by decide) rfl) rfl rfl rfl rfl rfl rfl ?_
  refine kD (b := false) (t := 47) (hS.pick [1, 2, 3, 4, 5, 6, 7, 8, 9, 10] (by decide) rfl) rfl rfl rfl rfl rfl rfl ?_
  refine kj (hS.pick [1, 2, 3, 4, 5, 6, 7, 8, 9, 10] (by decide) rfl) rfl rfl (fun w hF => ke1 rfl rfl) rfl ?_
  refine kj (hS.pick [1, 2, 3, 4, 5, 6, 7, 8, 9, 10] (by decide) rfl) rfl rfl (fun w hF => kA rfl) rfl ?_
  refine kY (hS.pick [1, 2, 3, 4, 5, 6, 7, 8, 9, 10] (by decide) rfl) ?_
  refine ka (kq ?_)
  cases h
  exact ky rfl rfl ⟨rfl, hS.pick [] (by decide) rfl⟩
theorem c_law11_CurveLine (w0 : World) (a0 : Int) (a1_0 : List UInt32) (a1_1 : List UInt32) (a1_2 : Bool) (a2_0 : List UInt32) (a2_1 : List UInt32) (a2_2 : Bool) (va1_0 : Value) (va1_1 : Value) (va2_0 : Value) (va2_1 : Value) (ha1_0 : RP [] w0 e32 va1_0 a1_0) (ha1_1 : RP [] w0 e32 va1_1 a1_1) (ha2_0 : RP [] w0 e32 va2_0 a2_0) (ha2_1 : RP [] w0 e32 va2_1 a2_1) (r : Bool)
  (h : F.law11_CurveLine a0 a1_0 a1_1 a1_2 a2_0 a2_1 a2_2 = some r) : Calls Tryz.prog 5 #[vI a0, .agg #[va1_0, va1_1, vB a1_2], .agg #[va2_0, va2_1, vB a2_2]] w0 (Ret fun v w => v = vB r ∧ St [] w0 w []) := by
 refine kz 159 Tryz.func5 rfl rfl rfl ?_
 have hS := St.start w0
 have hZ := Fz.start (S := []) (w0 := w0)
 have hTT : TOk [] [] w0 := TOk.nil
 have hA : Rds [] w0 [red e32 va2_1 a2_1, red e32 va2_0 a2_0, red e32 va1_1 a1_1, red e32 va1_0 a1_0] := Rds.cons (RP.kept (Nat.le_of_ble_eq_true rfl) ha2_1) (Rds.cons (RP.kept (Nat.le_of_ble_eq_true rfl) ha2_0) (Rds.cons (RP.kept (Nat.le_of_ble_eq_true rfl) ha1_1) (Rds.cons (RP.kept (Nat.le_of_ble_eq_true rfl) ha1_0) (Rds.nil))))
 have hP : Off [] [red e32 va2_1 a2_1, red e32 va2_0 a2_0, red e32 va1_1 a1_1, red e32 va1_0 a1_0] := Off.emp
 refine kn [(0, vI a0), (1, .agg #[va1_0, va1_1, vB a1_2]), (2, .agg #[va2_0, va2_1, vB a2_2])] ⟨rfl, rfl, rfl, trivial⟩ ?_
 unfold F.law11_CurveLine at h
 refine ke (kc (kW (OpX_box (cs := [va1_0, va1_1, vB a1_2]) rfl rfl hS) rfl ?_))
 rintro _ w ⟨b_1, rfl, hS⟩
 refine kW (OpX_box (cs := [va2_0, va2_1, vB a2_2]) rfl rfl hS) rfl ?_
 rintro _ w ⟨b_3, rfl, hS⟩
 refine kb 1 rfl ?_
 refine kf (ka (ke (ke (kc ?_))))
 obtain ⟨x_5, hx_5, h⟩ := kg h
 refine kk (by kernel_rfl) rfl (c_law11_started _     _ hx_5) rfl ?_
 rintro _ w ⟨rfl, hS1⟩
 have hS := hS.call hS1
 refine kb 1 rfl ?_
 refine kf (ka ?_)
 refine ko rfl (fun hb_97 => ?_) (fun hb_97 => ?_)
 ·have h := if_t h hb_97
  refine ke (kc (kb 1 rfl ?_))
  refine kf (ka (kq (kv ?_)))
  cases h
  replace hS := hZ.st hS
  exact ky rfl rfl ⟨rfl, hS.pick [] (by decide) rfl⟩
 have h := if_f h hb_97
 refine kr (ka (ke (kc (kb 1 rfl ?_))))
 refine ki (kH (us := [va1_0, va1_1, vB a1_2]) Tryz.underlying27 rfl sz27 rfl (hS.bxs 1 rfl rfl)) rfl (ki (kH (us := [va2_0, va2_1, vB a2_2]) Tryz.underlying27 rfl sz27 rfl (hS.bxs 0 rfl rfl)) rfl ?_)
 obtain ⟨x_6, hx_6, h⟩ := kg h
 refine kk (by kernel_rfl) rfl (c_curve_Add _ a0 a1_0 a1_1 a1_2 a2_0 a2_1 a2_2 va1_0 va1_1 va2_0 va2_1  ((hA.rp 0 rfl).now hS.fr).rp ((hA.rp 1 rfl).now hS.fr).rp ((hA.rp 2 rfl).now hS.fr).rp ((hA.rp 3 rfl).now hS.fr).rp _ hx_6) rfl ?_
 rintro _ w ⟨v_7, v_9, rfl, hS1⟩
 have hS := hS.call hS1
 refine kb 3 rfl ?_
 refine kW (kE (cs := [.slice none 0 0, .slice none 0 0, vB false]) tz27 rfl hS) rfl ?_
 rintro _ w ⟨b_11, rfl, hS⟩
 refine kX (kM (i := 0) (us := [v_7, v_9, vB x_6.2.2.1]) rfl sz27 rfl rfl rfl ⟨(hS.ro 1 rfl).one, (hS.ro 2 rfl).one, rfl, trivial⟩ rfl hS) ?_
 intro w hS
 refine kb 1 rfl ?_
 refine kf (ka (ke ?_))
 refine kO (r := r) (fun (g : Bool) L w => L = [(0, vI a0), (4, pB b_1 0), (5, pB b_3 0), (7, pB b_11 0), (8, vI x_6.2.2.2), (30, vB g)] ∧ SfT [] [] w0 w [red e32 v_9 x_6.2.1, red e32 v_7 x_6.1, red e32 va2_1 a2_1, red e32 va2_0 a2_0, red e32 va1_1 a1_1, red e32 va1_0 a1_0] [OE.bx b_1 [va1_0, va1_1, vB a1_2], OE.bx b_3 [va2_0, va2_1, vB a2_2], OE.bx b_11 [v_7, v_9, vB x_6.2.2.1]]) (F.law11_CurveLine_K1 a0 x_6 a1_2 a2_2 a1_0 a1_1 a2_0 a2_1) ?_ ?_
 rotate_left
 ·intro hK_23
  refine kc (kb 1 rfl ?_)
  refine ki (kH (us := [va1_0, va1_1, vB a1_2]) Tryz.underlying27 rfl sz27 rfl (hS.bxs 4 rfl rfl)) rfl ?_
  obtain ⟨x_13, hx_13, h⟩ := kg h
  refine kk (by kernel_rfl) rfl (c_curve_On _ a0 a1_0 a1_1 a1_2 va1_0 va1_1  ((hA.rp 0 rfl).now hS.fr).rp ((hA.rp 1 rfl).now hS.fr).rp _ hx_13) rfl ?_
  rintro _ w ⟨rfl, hS1⟩
  have hS := hS.call hS1
  refine kb 2 rfl ?_
  cases hb_14 : (!x_13)
  case true =>
   have h := if_t h hb_14
   try simp only [hb_14]
   refine kb 5 rfl ?_
   refine kf (ka ?_)
   replace hS := hS.pick (os' := [own e32 v_7 x_6.1, own e32 v_9 x_6.2.1] ++ [OE.bx b_11 [v_7, v_9, vB x_6.2.2.1], OE.bx b_3 [va2_0, va2_1, vB a2_2], OE.bx b_1 [va1_0, va1_1, vB a1_2]]) [1, 2, 0, 3, 4] (by decide) rfl
   obtain ⟨S_15, wb_16, hZ, hA, hP, hS⟩ := hZ.frzT hTT hA hP hS
   exact kn _ (by exact ⟨rfl, rfl, rfl, rfl, rfl, rfl, trivial⟩) (hK_23 true _ _ ⟨rfl, (SfT.mk' hZ (Rds.cons (hA.nth 4 rfl) (Rds.cons (hA.nth 5 rfl) (Rds.cons (hA.nth 3 rfl) (Rds.cons (hA.nth 2 rfl) (Rds.cons (hA.nth 1 rfl) (Rds.cons (hA.nth 0 rfl) Rds.nil)))))) (Off.cons (hP.nth 4 rfl) (Off.cons (hP.nth 5 rfl) (Off.cons (hP.nth 3 rfl) (Off.cons (hP.nth 2 rfl) (Off.cons (hP.nth 1 rfl) (Off.cons (hP.nth 0 rfl) Off.nil)))))) (hS.pick [2, 1, 0] (by decide) rfl))⟩ h)
  case false =>
   have h := if_f h hb_14
   try simp only [hb_14]
   refine kb 1 rfl ?_
   refine kT (t := 25) rfl rfl (kH (us := [va2_0, va2_1, vB a2_2]) Tryz.underlying27 rfl sz27 rfl (hS.bxs 3 rfl rfl)) rfl ?_
   obtain ⟨x_17, hx_17, h⟩ := kg h
   refine wpR_gcall (t := 25) rfl rfl (by kernel_rfl) rfl (c_curve_On _ a0 a2_0 a2_1 a2_2 va2_0 va2_1  ((hA.rp 2 rfl).now hS.fr).rp ((hA.rp 3 rfl).now hS.fr).rp _ hx_17) rfl ?_
   rintro _ w ⟨rfl, hS1⟩
   have hS := hS.call hS1
   refine kb 2 rfl ?_
   refine kf (ka ?_)
   replace hS := hS.pick (os' := [own e32 v_7 x_6.1, own e32 v_9 x_6.2.1] ++ [OE.bx b_11 [v_7, v_9, vB x_6.2.2.1], OE.bx b_3 [va2_0, va2_1, vB a2_2], OE.bx b_1 [va1_0, va1_1, vB a1_2]]) [1, 2, 0, 3, 4] (by decide) rfl
   obtain ⟨S_18, wb_19, hZ, hA, hP, hS⟩ := hZ.frzT hTT hA hP hS
   exact kn _ (by exact ⟨rfl, rfl, rfl, rfl, rfl, rfl, trivial⟩) (hK_23 (!x_17) _ _ ⟨rfl, (SfT.mk' hZ (Rds.cons (hA.nth 4 rfl) (Rds.cons (hA.nth 5 rfl) (Rds.cons (hA.nth 3 rfl) (Rds.cons (hA.nth 2 rfl) (Rds.cons (hA.nth 1 rfl) (Rds.cons (hA.nth 0 rfl) Rds.nil)))))) (Off.cons (hP.nth 4 rfl) (Off.cons (hP.nth 5 rfl) (Off.cons (hP.nth 3 rfl) (Off.cons (hP.nth 2 rfl) (Off.cons (hP.nth 1 rfl) (Off.cons (hP.nth 0 rfl) Off.nil)))))) (hS.pick [2, 1, 0] (by decide) rfl))⟩ h)
 rintro x_22 L w hJ h
 try dsimp only at hJ
 obtain ⟨rfl, ⟨S_20, wb_21, hZ, hA, hP, hS⟩⟩ := hJ
 unfold F.law11_CurveLine_K1 at h
 refine ko rfl (fun hb_96 => ?_) (fun hb_96 => ?_)
 ·have h := if_t h hb_96
  refine ke (kc (kb 3 rfl ?_))
  cases hb_24 : (x_6.2.2.2 == 93)
  case true =>
   have h := if_t h hb_24
   try simp only [hb_24]
   refine kT (t := 33) rfl rfl (kH (us := [v_7, v_9, vB x_6.2.2.1]) Tryz.underlying27 rfl sz27 rfl (hS.bxs 2 rfl rfl)) rfl (kT (t := 33) rfl rfl (OpV_build (vs := []) (cells := [.slice none 0 0, .slice none 0 0, vB false]) rfl lay27 trivial rfl) rfl ?_)
   obtain ⟨x_25, hx_25, h⟩ := kg h
   refine wpR_gcall (t := 33) rfl rfl (by kernel_rfl) rfl (c_law11_same _ x_6.1 x_6.2.1 x_6.2.2.1 [] [] false v_7 v_9 (.slice none 0 0) (.slice none 0 0)  ((hA.rp 4 rfl).now hS.fr).rp ((hA.rp 5 rfl).now hS.fr).rp (RO.nil _ e32).rp (RO.nil _ e32).rp _ hx_25) rfl ?_
   rintro _ w ⟨rfl, hS1⟩
   have hS := hS.call hS1
   refine kb 2 rfl ?_
   refine kf (ka (kq (kv ?_)))
   cases h
   replace hS := hZ.st hS
   exact ky rfl rfl ⟨rfl, hS.pick [] (by decide) rfl⟩
  case false =>
   have h := if_f h hb_24
   try simp only [hb_24]
   refine kb 5 rfl ?_
   refine kf (ka (kq (kv ?_)))
   cases h
   replace hS := hZ.st hS
   exact ky rfl rfl ⟨rfl, hS.pick [] (by decide) rfl⟩
 have h := if_f h hb_96
 refine kr (ka (ke ?_))
 refine kO (r := r) (fun (g : Bool) L w => L = [(0, vI a0), (4, pB b_1 0), (5, pB b_3 0), (7, pB b_11 0), (45, vB g)] ∧ SfT [] [] w0 w [red e32 v_9 x_6.2.1, red e32 v_7 x_6.1, red e32 va2_1 a2_1, red e32 va2_0 a2_0, red e32 va1_1 a1_1, red e32 va1_0 a1_0] [OE.bx b_1 [va1_0, va1_1, vB a1_2], OE.bx b_3 [va2_0, va2_1, vB a2_2], OE.bx b_11 [v_7, v_9, vB x_6.2.2.1]]) (F.law11_CurveLine_K2 a1_2 a2_2 a0 a1_0 a1_1 a2_0 a2_1 x_6) ?_ ?_
 rotate_left
 ·intro hK_31
  refine kc (kb 3 rfl ?_)
  cases hb_26 : (x_6.2.2.2 != 0)
  case true =>
   have h := if_t h hb_26
   try simp only [hb_26]
   refine kb 5 rfl ?_
   refine kf (ka ?_)
   exact kn _ (by exact ⟨rfl, rfl, rfl, rfl, rfl, trivial⟩) (hK_31 true _ _ ⟨rfl, (SfT.mk' hZ (Rds.cons (hA.nth 5 rfl) (Rds.cons (hA.nth 4 rfl) (Rds.cons (hA.nth 3 rfl) (Rds.cons (hA.nth 2 rfl) (Rds.cons (hA.nth 1 rfl) (Rds.cons (hA.nth 0 rfl) Rds.nil)))))) (Off.cons (hP.nth 5 rfl) (Off.cons (hP.nth 4 rfl) (Off.cons (hP.nth 3 rfl) (Off.cons (hP.nth 2 rfl) (Off.cons (hP.nth 1 rfl) (Off.cons (hP.nth 0 rfl) Off.nil)))))) hS)⟩ h)
  case false =>
   have h := if_f h hb_26
   try simp only [hb_26]
   refine kb 1 rfl ?_
   refine kT (t := 40) rfl rfl (kH (us := [v_7, v_9, vB x_6.2.2.1]) Tryz.underlying27 rfl sz27 rfl (hS.bxs 2 rfl rfl)) rfl ?_
   obtain ⟨x_27, hx_27, h⟩ := kg h
   refine wpR_gcall (t := 40) rfl rfl (by kernel_rfl) rfl (c_curve_On _ a0 x_6.1 x_6.2.1 x_6.2.2.1 v_7 v_9  ((hA.rp 4 rfl).now hS.fr).rp ((hA.rp 5 rfl).now hS.fr).rp _ hx_27) rfl ?_
   rintro _ w ⟨rfl, hS1⟩
   have hS := hS.call hS1
   refine kb 2 rfl ?_
   refine kf (ka ?_)
   exact kn _ (by exact ⟨rfl, rfl, rfl, rfl, rfl, trivial⟩) (hK_31 (!x_27) _ _ ⟨rfl, (SfT.mk' hZ (Rds.cons (hA.nth 5 rfl) (Rds.cons (hA.nth 4 rfl) (Rds.cons (hA.nth 3 rfl) (Rds.cons (hA.nth 2 rfl) (Rds.cons (hA.nth 1 rfl) (Rds.cons (hA.nth 0 rfl) Rds.nil)))))) (Off.cons (hP.nth 5 rfl) (Off.cons (hP.nth 4 rfl) (Off.cons (hP.nth 3 rfl) (Off.cons (hP.nth 2 rfl) (Off.cons (hP.nth 1 rfl) (Off.cons (hP.nth 0 rfl) Off.nil)))))) hS)⟩ h)
 rintro x_30 L w hJ h
 try dsimp only at hJ
 obtain ⟨rfl, ⟨S_28, wb_29, hZ, hA, hP, hS⟩⟩ := hJ
 unfold F.law11_CurveLine_K2 at h
 refine ko rfl (fun hb_95 => ?_) (fun hb_95 => ?_)
 ·have h := if_t h hb_95
  refine ke (kc (kb 1 rfl ?_))
  refine kf (ka (kq (kv ?_)))
  cases h
  replace hS := hZ.st hS
  exact ky rfl rfl ⟨rfl, hS.pick [] (by decide) rfl⟩
 have h := if_f h hb_95
 refine kr (ka (ke ?_))
 refine kO (r := r) (fun (g : Bool) L w => L = [(0, vI a0), (4, pB b_1 0), (5, pB b_3 0), (7, pB b_11 0), (51, vB g)] ∧ SfT [] [] w0 w [red e32 v_9 x_6.2.1, red e32 v_7 x_6.1, red e32 va2_1 a2_1, red e32 va2_0 a2_0, red e32 va1_1 a1_1, red e32 va1_0 a1_0] [OE.bx b_1 [va1_0, va1_1, vB a1_2], OE.bx b_3 [va2_0, va2_1, vB a2_2], OE.bx b_11 [v_7, v_9, vB x_6.2.2.1]]) (F.law11_CurveLine_K3 a0 a1_0 a1_1 a1_2 a2_0 a2_1 a2_2 x_6) ?_ ?_
 rotate_left
 ·intro hK_36
  refine kc (ki (kl (k := 2) Tryz.underlying27 rfl rfl nz4 rfl) rfl (ki (ku Tryz.underlying4 rfl rfl (hS.bxc 0 rfl 2)) rfl (kb 1 rfl ?_)))
  cases hb_32 : a1_2
  case true =>
   have h := if_t h hb_32
   try simp only [hb_32]
   refine kb 3 rfl ?_
   refine kf (ka ?_)
   exact kn _ (by exact ⟨rfl, rfl, rfl, rfl, rfl, trivial⟩) (hK_36 true _ _ ⟨rfl, (SfT.mk' hZ (Rds.cons (hA.nth 5 rfl) (Rds.cons (hA.nth 4 rfl) (Rds.cons (hA.nth 3 rfl) (Rds.cons (hA.nth 2 rfl) (Rds.cons (hA.nth 1 rfl) (Rds.cons (hA.nth 0 rfl) Rds.nil)))))) (Off.cons (hP.nth 5 rfl) (Off.cons (hP.nth 4 rfl) (Off.cons (hP.nth 3 rfl) (Off.cons (hP.nth 2 rfl) (Off.cons (hP.nth 1 rfl) (Off.cons (hP.nth 0 rfl) Off.nil)))))) hS)⟩ h)
  case false =>
   have h := if_f h hb_32
   try simp only [hb_32]
   refine kT (t := 48) rfl rfl (kl (k := 2) Tryz.underlying27 rfl rfl nz4 rfl) rfl (kT (t := 48) rfl rfl (ku Tryz.underlying4 rfl rfl (hS.bxc 1 rfl 2)) rfl (kb 1 rfl ?_))
   refine kf (ka ?_)
   exact kn _ (by exact ⟨rfl, rfl, rfl, rfl, rfl, trivial⟩) (hK_36 a2_2 _ _ ⟨rfl, (SfT.mk' hZ (Rds.cons (hA.nth 5 rfl) (Rds.cons (hA.nth 4 rfl) (Rds.cons (hA.nth 3 rfl) (Rds.cons (hA.nth 2 rfl) (Rds.cons (hA.nth 1 rfl) (Rds.cons (hA.nth 0 rfl) Rds.nil)))))) (Off.cons (hP.nth 5 rfl) (Off.cons (hP.nth 4 rfl) (Off.cons (hP.nth 3 rfl) (Off.cons (hP.nth 2 rfl) (Off.cons (hP.nth 1 rfl) (Off.cons (hP.nth 0 rfl) Off.nil)))))) hS)⟩ h)
 rintro x_35 L w hJ h
 try dsimp only at hJ
 obtain ⟨rfl, ⟨S_33, wb_34, hZ, hA, hP, hS⟩⟩ := hJ
 unfold F.law11_CurveLine_K3 at h
 refine ko rfl (fun hb_94 => ?_) (fun hb_94 => ?_)
 ·have h := if_t h hb_94
  refine ke (kc (ki (kH (us := [va2_0, va2_1, vB a2_2]) Tryz.underlying27 rfl sz27 rfl (hS.bxs 1 rfl rfl)) rfl (kW (kE (cs := [.slice none 0 0, .slice none 0 0, vB false]) tz27 rfl hS) rfl ?_)))
  rintro _ w ⟨b_37, rfl, hS⟩
  refine kX (kM (i := 0) (us := [va2_0, va2_1, vB a2_2]) rfl sz27 rfl rfl rfl ⟨((hA.rp 2 rfl).now hS.fr).one, ((hA.rp 3 rfl).now hS.fr).one, rfl, trivial⟩ rfl hS) ?_
  intro w hS
  refine kf (ka ?_)
  refine kO (r := r) (fun (g : List UInt32 × List UInt32 × Bool) L w => ∃ (v_43 : Value) (v_45 : Value), L = [(7, pB b_11 0), (9, pB b_37 0)] ∧ SfT [] [] w0 w [red e32 v_45 g.2.1, red e32 v_43 g.1, red e32 v_9 x_6.2.1, red e32 v_7 x_6.1] [OE.bx b_11 [v_7, v_9, vB x_6.2.2.1], OE.bx b_37 [v_43, v_45, vB g.2.2]]) (F.law11_CurveLine_K4 x_6) ?_ ?_
  rotate_left
  ·intro hK_47
   refine ke (kc (ki (kl (k := 2) Tryz.underlying27 rfl rfl nz4 rfl) rfl (ki (ku Tryz.underlying4 rfl rfl (hS.bxc 2 rfl 2)) rfl (kf (ka ?_)))))
   refine ko rfl (fun hb_39 => ?_) (fun hb_39 => ?_)
   ·have h := if_t h hb_39
    refine kc (ki (kH (us := [va1_0, va1_1, vB a1_2]) Tryz.underlying27 rfl sz27 rfl (hS.bxs 1 rfl rfl)) rfl (kX (kM (i := 0) (us := [va1_0, va1_1, vB a1_2]) rfl sz27 rfl rfl rfl ⟨((hA.rp 0 rfl).now hS.fr).one, ((hA.rp 1 rfl).now hS.fr).one, rfl, trivial⟩ rfl hS) ?_))
    intro w hS
    refine kf (ka ?_)
    exact kn _ (by exact ⟨rfl, rfl, trivial⟩) (hK_47 (a1_0, a1_1, a1_2) _ _ ⟨va1_0, va1_1, rfl, (SfT.mk' hZ (Rds.cons (hA.nth 1 rfl) (Rds.cons (hA.nth 0 rfl) (Rds.cons (hA.nth 5 rfl) (Rds.cons (hA.nth 4 rfl) Rds.nil)))) (Off.cons (hP.nth 1 rfl) (Off.cons (hP.nth 0 rfl) (Off.cons (hP.nth 5 rfl) (Off.cons (hP.nth 4 rfl) Off.nil)))) (hS.pick [3, 0] (by decide) rfl))⟩ h)
   have h := if_f h hb_39
   refine kr (ka ?_)
   exact kn _ (by exact ⟨rfl, rfl, trivial⟩) (hK_47 (a2_0, a2_1, a2_2) _ _ ⟨va2_0, va2_1, rfl, (SfT.mk' hZ (Rds.cons (hA.nth 3 rfl) (Rds.cons (hA.nth 2 rfl) (Rds.cons (hA.nth 5 rfl) (Rds.cons (hA.nth 4 rfl) Rds.nil)))) (Off.cons (hP.nth 3 rfl) (Off.cons (hP.nth 2 rfl) (Off.cons (hP.nth 5 rfl) (Off.cons (hP.nth 4 rfl) Off.nil)))) (hS.pick [3, 0] (by decide) rfl))⟩ h)
  rintro ⟨x_42, x_44, x_46⟩ L w hJ h
  try dsimp only at hJ
  obtain ⟨v_43, v_45, rfl, ⟨S_40, wb_41, hZ, hA, hP, hS⟩⟩ := hJ
  unfold F.law11_CurveLine_K4 at h
  refine ke (kc (ki (kl (k := 2) Tryz.underlying27 rfl rfl nz4 rfl) rfl (ki (ku Tryz.underlying4 rfl rfl (hS.bxc 0 rfl 2)) rfl (ki (kl (k := 2) Tryz.underlying27 rfl rfl nz4 rfl) rfl (ki (ku Tryz.underlying4 rfl rfl (hS.bxc 1 rfl 2)) rfl (ki (kt rfl rfl (b_beql _ x_6.2.2.1 x_46 Tryz.underlying4 rfl)) rfl (kb 1 rfl ?_)))))))
  cases hb_48 : (x_6.2.2.1 == x_46)
  case true =>
   have h := if_t h hb_48
   try simp only [hb_48]
   refine kT (t := 61) rfl rfl (kl (k := 0) Tryz.underlying27 rfl rfl nz25 rfl) rfl (kT (t := 61) rfl rfl (ku Tryz.underlying25 rfl rfl (hS.bxc 0 rfl 0)) rfl (kT (t := 61) rfl rfl (kl (k := 0) Tryz.underlying27 rfl rfl nz25 rfl) rfl (kT (t := 61) rfl rfl (ku Tryz.underlying25 rfl rfl (hS.bxc 1 rfl 0)) rfl ?_)))
   obtain ⟨x_49, hx_49, h⟩ := kg h
   refine wpR_gcall (t := 61) rfl rfl (by kernel_rfl) rfl (c_nat_Cmp _ x_6.1 x_42 v_7 v_43  ((hA.rp 0 rfl).now hS.fr).rp ((hA.rp 2 rfl).now hS.fr).rp _ hx_49) rfl ?_
   rintro _ w ⟨rfl, hS1⟩
   have hS := hS.call hS1
   refine kb 3 rfl ?_
   cases hb_50 : (x_49 == 0)
   case true =>
    have h := if_t h hb_50
    try simp only [hb_50]
    refine kT (t := 69) rfl rfl (kl (k := 1) Tryz.underlying27 rfl rfl nz25 rfl) rfl (kT (t := 69) rfl rfl (ku Tryz.underlying25 rfl rfl (hS.bxc 0 rfl 1)) rfl (kT (t := 69) rfl rfl (kl (k := 1) Tryz.underlying27 rfl rfl nz25 rfl) rfl (kT (t := 69) rfl rfl (ku Tryz.underlying25 rfl rfl (hS.bxc 1 rfl 1)) rfl ?_)))
    obtain ⟨x_51, hx_51, h⟩ := kg h
    refine wpR_gcall (t := 69) rfl rfl (by kernel_rfl) rfl (c_nat_Cmp _ x_6.2.1 x_44 v_9 v_45  ((hA.rp 1 rfl).now hS.fr).rp ((hA.rp 3 rfl).now hS.fr).rp _ hx_51) rfl ?_
    rintro _ w ⟨rfl, hS1⟩
    have hS := hS.call hS1
    refine kb 3 rfl ?_
    refine kf (ka (kq (kv ?_)))
    cases h
    replace hS := hZ.st hS
    exact ky rfl rfl ⟨rfl, hS.pick [] (by decide) rfl⟩
   case false =>
    have h := if_f h hb_50
    try simp only [hb_50]
    refine kb 8 rfl ?_
    refine kf (ka (kq (kv ?_)))
    cases h
    replace hS := hZ.st hS
    exact ky rfl rfl ⟨rfl, hS.pick [] (by decide) rfl⟩
  case false =>
   have h := if_f h hb_48
   try simp only [hb_48]
   refine kb 16 rfl ?_
   refine kf (ka (kq (kv ?_)))
   cases h
   replace hS := hZ.st hS
   exact ky rfl rfl ⟨rfl, hS.pick [] (by decide) rfl⟩
 have h := if_f h hb_94
 refine kr (ka (ke (kc (kb 1 rfl ?_))))
 obtain ⟨x_52, hx_52, h⟩ := kg h
 refine kk (by kernel_rfl) rfl (c_curve_Field _ a0    _ hx_52) rfl ?_
 rintro v_53 w hS1
 have hS := hS.call hS1
 refine ki (OpV_build (vs := [(0, v_53, [v_53])]) (cells := [v_53]) rfl lay49 ⟨(cells_one (hS.ro 0 rfl).one), trivial⟩ rfl) rfl (kW (kE (cs := [.slice none 0 0]) tz49 rfl hS) rfl ?_)
 rintro _ w ⟨b_55, rfl, hS⟩
 refine kX (kM (i := 0) (us := [v_53]) rfl sz49 rfl rfl rfl ⟨(hS.ro 1 rfl).one, trivial⟩ rfl hS) ?_
 intro w hS
 refine kf (ka (ke (ke (kc (ki (kl (k := 0) Tryz.underlying27 rfl rfl nz25 rfl) rfl (ki (ku Tryz.underlying25 rfl rfl (hS.bxc 2 rfl 0)) rfl (ki (kl (k := 0) Tryz.underlying27 rfl rfl nz25 rfl) rfl (ki (ku Tryz.underlying25 rfl rfl (hS.bxc 3 rfl 0)) rfl ?_))))))))
 obtain ⟨x_57, hx_57, h⟩ := kg h
 refine kk (by kernel_rfl) rfl (c_nat_Cmp _ a1_0 a2_0 va1_0 va2_0  ((hA.rp 0 rfl).now hS.fr).rp ((hA.rp 2 rfl).now hS.fr).rp _ hx_57) rfl ?_
 rintro _ w ⟨rfl, hS1⟩
 have hS := hS.call hS1
 refine kb 1 rfl ?_
 refine kf (ka ?_)
 refine ko rfl (fun hb_93 => ?_) (fun hb_93 => ?_)
 ·have h := if_t h hb_93
  refine ke ?_
  refine kN (fun w' => St S_33 wb_34 w' [OE.bx b_55 [v_53], own e32 v_53 x_52, OE.bx b_1 [va1_0, va1_1, vB a1_2], OE.bx b_3 [va2_0, va2_1, vB a2_2], OE.bx b_11 [v_7, v_9, vB x_6.2.2.1]]) (fun i => !([13, 19, 20].contains i)) hmix (fun _ _ _ hf => hf.2) (fun _ _ hf => hf) (by kernel_rfl) ?_
  have hS := hS.drew
  show lxE _ _ _ _ _ _ _ [0, 1, 2, 3, 4, 5, 6, 7, 8, 9, 10, 11, 12, 13, 14, 15, 16, 17, 18, 19, 20, 21, 22] _ _
  refine kj hS rfl rfl (fun w hF => kl (k := 2) Tryz.underlying27 rfl rfl nz4 rfl) rfl (kj hS rfl rfl (fun w hF => ku Tryz.underlying4 rfl rfl (hF.bxc 4 rfl 2)) rfl (kj hS rfl rfl (fun w hF => kc1 rfl (u_not x_6.2.2.1)) rfl (kj hS rfl rfl (fun w hF => km rfl) rfl ?_)))
  cases hb_58 : (!x_6.2.2.1)
  case true =>
   have h := if_t h hb_58
   try simp only [hb_58]
   refine kb1 (t := 89) hS rfl rfl rfl rfl (fun w hF => kH (us := [v_53]) Tryz.underlying49 rfl sz49 rfl (hF.bxs 0 rfl rfl)) rfl (kb1 (t := 89) hS rfl rfl rfl rfl (fun w hF => kH (us := [va1_0, va1_1, vB a1_2]) Tryz.underlying27 rfl sz27 rfl (hF.bxs 2 rfl rfl)) rfl (kb1 (t := 89) hS rfl rfl rfl rfl (fun w hF => kH (us := [va2_0, va2_1, vB a2_2]) Tryz.underlying27 rfl sz27 rfl (hF.bxs 3 rfl rfl)) rfl (kb1 (t := 89) hS rfl rfl rfl rfl (fun w hF => kH (us := [v_7, v_9, vB x_6.2.2.1]) Tryz.underlying27 rfl sz27 rfl (hF.bxs 4 rfl rfl)) rfl (kb1 (t := 89) hS rfl rfl rfl rfl (fun w hF => kH (us := [v_53]) Tryz.underlying49 rfl sz49 rfl (hF.bxs 0 rfl rfl)) rfl (kb1 (t := 89) hS rfl rfl rfl rfl (fun w hF => kl (k := 1) Tryz.underlying27 rfl rfl nz25 rfl) rfl (kb1 (t := 89) hS rfl rfl rfl rfl (fun w hF => ku Tryz.underlying25 rfl rfl (hF.bxc 3 rfl 1)) rfl (kb1 (t := 89) hS rfl rfl rfl rfl (fun w hF => kl (k := 1) Tryz.underlying27 rfl rfl nz25 rfl) rfl (kb1 (t := 89) hS rfl rfl rfl rfl (fun w hF => ku Tryz.underlying25 rfl rfl (hF.bxc 2 rfl 1)) rfl ?_))))))))
   obtain ⟨x_59, hx_59, h⟩ := kg h
   refine lxE_gcall (t := 89) hS rfl rfl rfl rfl (by kernel_rfl) rfl (c_law11_field_sub _ x_52 a2_1 a1_1 v_53 va2_1 va1_1  (hS.ro 1 rfl).rp ((hA.rp 3 rfl).now hS.fr).rp ((hA.rp 1 rfl).now hS.fr).rp _ hx_59) rfl ?_
   rintro v_60 w hS1
   have hS := hS.call hS1
   refine kb1 (t := 89) (hS.pick [1, 2, 3, 4, 5] (by decide) rfl) rfl rfl rfl rfl (fun w hF => kH (us := [v_53]) Tryz.underlying49 rfl sz49 rfl (hF.bxs 0 rfl rfl)) rfl ?_
   refine kb1 (t := 89) (hS.pick [1, 2, 3, 4, 5] (by decide) rfl) rfl rfl rfl rfl (fun w hF => kl (k := 0) Tryz.underlying27 rfl rfl nz25 rfl) rfl ?_
   refine kb1 (t := 89) (hS.pick [1, 2, 3, 4, 5] (by decide) rfl) rfl rfl rfl rfl (fun w hF => ku Tryz.underlying25 rfl rfl (hF.bxc 3 rfl 0)) rfl ?_
   refine kb1 (t := 89) (hS.pick [1, 2, 3, 4, 5] (by decide) rfl) rfl rfl rfl rfl (fun w hF => kl (k := 0) Tryz.underlying27 rfl rfl nz25 rfl) rfl ?_
   refine kb1 (t := 89) (hS.pick [1, 2, 3, 4, 5] (by decide) rfl) rfl rfl rfl rfl (fun w hF => ku Tryz.underlying25 rfl rfl (hF.bxc 2 rfl 0)) rfl ?_
   obtain ⟨x_62, hx_62, h⟩ := kg h
   refine lxE_gcall (t := 89) (hS.pick [1, 2, 3, 4, 5] (by decide) rfl) rfl rfl rfl rfl (by kernel_rfl) rfl (c_law11_field_sub _ x_52 a2_0 a1_0 v_53 va2_0 va1_0  (hS.ro 2 rfl).rp ((hA.rp 2 rfl).now hS.fr).rp ((hA.rp 0 rfl).now hS.fr).rp _ hx_62) rfl ?_
   rintro v_63 w hS1
   have hS := hS.call hS1
   obtain ⟨x_65, hx_65, h⟩ := kg h
   refine lxE_gcall (t := 89) (hS.pick [2, 3, 4, 5, 6] (by decide) rfl) rfl rfl rfl rfl (by kernel_rfl) rfl (c_law11_line _ x_52 a1_0 a1_1 a1_2 a2_0 a2_1 a2_2 x_6.1 x_6.2.1 x_6.2.2.1 x_59 x_62 v_53 va1_0 va1_1 va2_0 va2_1 v_7 v_9 v_60 v_63  (hS.ro 3 rfl).rp ((hA.rp 0 rfl).now hS.fr).rp ((hA.rp 1 rfl).now hS.fr).rp ((hA.rp 2 rfl).now hS.fr).rp ((hA.rp 3 rfl).now hS.fr).rp ((hA.rp 4 rfl).now hS.fr).rp ((hA.rp 5 rfl).now hS.fr).rp (hS.ro 1 rfl).rp (hS.ro 0 rfl).rp _ hx_65) rfl ?_
   rintro _ w ⟨rfl, hS1⟩
   have hS := hS.call hS1
   refine kj (hS.pick [2, 3, 4, 5, 6] (by decide) rfl) rfl rfl (fun w hF => kd1 rfl rfl) rfl ?_
   refine kj (hS.pick [2, 3, 4, 5, 6] (by decide) rfl) rfl rfl (fun w hF => kA rfl) rfl ?_
   refine kY (hS.pick [2, 3, 4, 5, 6] (by decide) rfl) ?_
   refine ka (kq (kv ?_))
   cases h
   replace hS := hZ.st hS
   exact ky rfl rfl ⟨rfl, hS.pick [] (by decide) rfl⟩
  case false =>
   have h := if_f h hb_58
   try simp only [hb_58]
   refine kD (b := false) (t := 89) hS rfl rfl rfl rfl rfl rfl (kD (b := false) (t := 89) hS rfl rfl rfl rfl rfl rfl (kD (b := false) (t := 89) hS rfl rfl rfl rfl rfl rfl (kD (b := false) (t := 89) hS rfl rfl rfl rfl rfl rfl (kD (b := false) (t := 89) hS rfl rfl rfl rfl rfl rfl (kD (b := false) (t := 89) hS rfl rfl rfl rfl rfl rfl (kD (b := false) (t := 89) hS rfl rfl rfl rfl rfl rfl (kD (b := false) (t := 89) hS rfl rfl rfl rfl rfl rfl (kD (b := false) (t := 89) hS rfl rfl rfl rfl rfl rfl ?_))))))))
   refine lxE_gskipL (b := false) (t := 89) hS rfl rfl rfl rfl rfl rfl ?_
   refine kD (b := false) (t := 89) hS rfl rfl rfl rfl rfl rfl (kD (b := false) (t := 89) hS rfl rfl rfl rfl rfl rfl (kD (b := false) (t := 89) hS rfl rfl rfl rfl rfl rfl (kD (b := false) (t := 89) hS rfl rfl rfl rfl rfl rfl (kD (b := false) (t := 89) hS rfl rfl rfl rfl rfl rfl (lxE_gskipL (b := false) (t := 89) hS rfl rfl rfl rfl rfl rfl ?_)))))
   refine lxE_gskipL (b := false) (t := 89) hS rfl rfl rfl rfl rfl rfl ?_
   refine kj hS rfl rfl (fun w hF => ke1 rfl rfl) rfl (kj hS rfl rfl (fun w hF => kA rfl) rfl (kY hS ?_))
   refine ka (kq (kv ?_))
   cases h
   replace hS := hZ.st hS
   exact ky rfl rfl ⟨rfl, hS.pick [] (by decide) rfl⟩
 have h := if_f h hb_93
 refine kr (ka (ke (ke (kc (ki (kH (us := [v_53]) Tryz.underlying49 rfl sz49 rfl (hS.bxs 0 rfl rfl)) rfl (ki (kl (k := 1) Tryz.underlying27 rfl rfl nz25 rfl) rfl (ki (ku Tryz.underlying25 rfl rfl (hS.bxc 2 rfl 1)) rfl (ki (kl (k := 1) Tryz.underlying27 rfl rfl nz25 rfl) rfl ?_))))))))
 refine ki (ku Tryz.underlying25 rfl rfl (hS.bxc 3 rfl 1)) rfl ?_
 obtain ⟨x_66, hx_66, h⟩ := kg h
 refine kk (by kernel_rfl) rfl (c_law11_field_add _ x_52 a1_1 a2_1 v_53 va1_1 va2_1  (hS.ro 1 rfl).rp ((hA.rp 1 rfl).now hS.fr).rp ((hA.rp 3 rfl).now hS.fr).rp _ hx_66) rfl ?_
 rintro v_67 w hS1
 have hS := hS.call hS1
 obtain ⟨x_69, hx_69, h⟩ := kg h
 refine kk (by kernel_rfl) rfl (c_nat_Cmp _ x_66 [] v_67 (.slice none 0 0)  (hS.ro 0 rfl).rp (RO.nil _ e32).rp _ hx_69) rfl ?_
 rintro _ w ⟨rfl, hS1⟩
 have hS := hS.call hS1
 refine kb 1 rfl ?_
 refine kf (ka ?_)
 refine ko rfl (fun hb_92 => ?_) (fun hb_92 => ?_)
 ·have h := if_t h hb_92
  refine ke (kc (ki (kl (k := 2) Tryz.underlying27 rfl rfl nz4 rfl) rfl (ki (ku Tryz.underlying4 rfl rfl (hS.bxc 5 rfl 2)) rfl (kb 1 rfl ?_))))
  cases hb_70 : x_6.2.2.1
  case true =>
   have h := if_t h hb_70
   try simp only [hb_70]
   refine kT (t := 118) rfl rfl (kl (k := 0) Tryz.underlying27 rfl rfl nz25 rfl) rfl (kT (t := 118) rfl rfl (ku Tryz.underlying25 rfl rfl (hS.bxc 5 rfl 0)) rfl (kT (t := 118) rfl rfl (kB Tryz.underlying25 rfl ((hA.rp 4 rfl).now hS.fr)) rfl (kb 3 rfl ?_)))
   cases hb_71 : ((x_6.1.length : Int) == 0)
   case true =>
    have h := if_t h hb_71
    try simp only [hb_71]
    refine kT (t := 124) rfl rfl (kl (k := 1) Tryz.underlying27 rfl rfl nz25 rfl) rfl (kT (t := 124) rfl rfl (ku Tryz.underlying25 rfl rfl (hS.bxc 5 rfl 1)) rfl (kT (t := 124) rfl rfl (kB Tryz.underlying25 rfl ((hA.rp 5 rfl).now hS.fr)) rfl (kb 3 rfl ?_)))
    refine kf (ka (kq (kv ?_)))
    cases h
    replace hS := hZ.st hS
    exact ky rfl rfl ⟨rfl, hS.pick [] (by decide) rfl⟩
   case false =>
    have h := if_f h hb_71
    try simp only [hb_71]
    refine kb 6 rfl ?_
    refine kf (ka (kq (kv ?_)))
    cases h
    replace hS := hZ.st hS
    exact ky rfl rfl ⟨rfl, hS.pick [] (by decide) rfl⟩
  case false =>
   have h := if_f h hb_70
   try simp only [hb_70]
   refine kb 12 rfl ?_
   refine kf (ka (kq (kv ?_)))
   cases h
   replace hS := hZ.st hS
   exact ky rfl rfl ⟨rfl, hS.pick [] (by decide) rfl⟩
 have h := if_f h hb_92
 refine kr (ka (ke ?_))
 obtain ⟨x_74, hx_74, h⟩ := kg h
 obtain ⟨x_79, hx_79, h⟩ := kg h
 obtain ⟨x_82, hx_82, h⟩ := kg h
 refine wpC_regionM (es := [red e32 v_9 x_6.2.1, red e32 v_7 x_6.1, red e32 va2_1 a2_1, red e32 va2_0 a2_0, red e32 va1_1 a1_1, red e32 va1_0 a1_0]) (os := [own e32 v_67 x_66, OE.bx b_55 [v_53], own e32 v_53 x_52, OE.bx b_1 [va1_0, va1_1, vB a1_2], OE.bx b_3 [va2_0, va2_1, vB a2_2], OE.bx b_11 [v_7, v_9, vB x_6.2.2.1]]) (fun i => [1, 8, 9, 10, 11].contains i) (fun i => if i = 1 then some 11 else if i = 8 then some 10 else if i = 9 then some 10 else if i = 10 then some 11 else none) (fun i => []) (fun i => []) (fun i => []) (fun i => []) (fun i => if i = 1 then (fun h v x y => ∃ v_72 : Value, v = v_72 ∧ x = [own e32 v_72 ([3] : List UInt32)] ∧ y = []) else if i = 8 then (fun h v x y => ∃ v_75 : Value, v = v_75 ∧ x = [own e32 v_75 x_74] ∧ y = []) else if i = 9 then (fun h v x y => ∃ v_77 : Value, v = v_77 ∧ x = [own e32 v_77 ([1] : List UInt32)] ∧ y = []) else if i = 10 then (fun h v x y => ∃ v_80 : Value, v = v_80 ∧ x = [own e32 v_80 x_79] ∧ y = []) else (fun h v x y => ∃ v_83 : Value, v = v_83 ∧ x = [own e32 v_83 x_82] ∧ y = [])) (SfT.mk' hZ hA hP hS) (fun k hk => rfl) hTT rfl (fun i => (ite_ns (by rintro h v x y ⟨_, rfl, rfl, rfl⟩; exact ns_all rfl) (ite_ns (by rintro h v x y ⟨_, rfl, rfl, rfl⟩; exact ns_all rfl) (ite_ns (by rintro h v x y ⟨_, rfl, rfl, rfl⟩; exact ns_all rfl) (ite_ns (by rintro h v x y ⟨_, rfl, rfl, rfl⟩; exact ns_all rfl) (by rintro h v x y ⟨_, rfl, rfl, rfl⟩; exact ns_all rfl)))))) hmix (by kernel_rfl) (by kernel_rfl) ?_
 show lxME _ _ _ _ _ _ _ _ _ _ _ _ _ _ _ _ [0, 1, 2, 3, 4, 5, 6, 7, 8, 9, 10, 11, 12] _ _
 refine lxME_v rfl rfl (fun w Sb wb hZ hA hP hF => kH (us := [v_53]) Tryz.underlying49 rfl sz49 rfl (hF.bxs 1 rfl rfl)) rfl ?_
 refine lxME_new (fun h v x y => ∃ v_72 : Value, v = v_72 ∧ x = [own e32 v_72 ([3] : List UInt32)] ∧ y = []) [] [] [] _ rfl rfl (fun h v x y => rfl) rfl rfl rfl rfl ⟨_, _, _, undef, rfl, rfl, rfl⟩ (fun w Sl Tl hZ hTT hA hP hS => ?_) rfl ?_
 ·refine opx_imp (OpX_lit (e := e32) (l := ([3] : List UInt32)) (vs := [v32 3]) Tryz.underlying25 ti52 rfl rfl rfl rfl (by decide) (by decide) hS) ?_
  rintro v_72 w hS
  exact ⟨_, _, ⟨v_72, rfl, rfl, rfl⟩, SfT.mk' hZ Rds.nil Off.nil hS⟩
 rintro v_72 x_q y_q ⟨_, rfl, rfl, rfl⟩
 refine lxME_v rfl rfl (fun w Sb wb hZ hA hP hF => kH (us := [v_53]) Tryz.underlying49 rfl sz49 rfl (hF.bxs 1 rfl rfl)) rfl (lxME_v rfl rfl (fun w Sb wb hZ hA hP hF => kH (us := [v_53]) Tryz.underlying49 rfl sz49 rfl (hF.bxs 1 rfl rfl)) rfl (lxME_v rfl rfl (fun w Sb wb hZ hA hP hF => kl (k := 0) Tryz.underlying27 rfl rfl nz25 rfl) rfl (lxME_v rfl rfl (fun w Sb wb hZ hA hP hF => ku Tryz.underlying25 rfl rfl (hF.bxc 3 rfl 0)) rfl (lxME_v rfl rfl (fun w Sb wb hZ hA hP hF => kl (k := 0) Tryz.underlying27 rfl rfl nz25 rfl) rfl (lxME_v rfl rfl (fun w Sb wb hZ hA hP hF => ku Tryz.underlying25 rfl rfl (hF.bxc 3 rfl 0)) rfl ?_)))))
 refine lxME_call (fun h v x y => ∃ v_75 : Value, v = v_75 ∧ x = [own e32 v_75 x_74] ∧ y = []) [] [] [] _ rfl rfl (fun h v x y => rfl) rfl rfl rfl rfl ⟨_, _, _, undef, rfl, rfl, rfl⟩ (by kernel_rfl) rfl (fun w Sl Tl hZ hTT hA hP hS => ?_) rfl ?_
 ·refine calls_ret (c_law11_field_mul _ x_52 a1_0 a1_0 v_53 va1_0 va1_0  (hS.ro 2 rfl).rp ((hA.rp 0 rfl).now hS.fr).rp ((hA.rp 0 rfl).now hS.fr).rp _ hx_74) ?_
  rintro v_75 w hS1
  have hS := hS.call hS1
  exact ⟨_, _, ⟨v_75, rfl, rfl, rfl⟩, SfT.mk' hZ Rds.nil Off.nil hS⟩
 rintro v_75 x_q y_q ⟨_, rfl, rfl, rfl⟩
 refine lxME_new (fun h v x y => ∃ v_77 : Value, v = v_77 ∧ x = [own e32 v_77 ([1] : List UInt32)] ∧ y = []) [] [] [] _ rfl rfl (fun h v x y => rfl) rfl rfl rfl rfl ⟨_, _, _, undef, rfl, rfl, rfl⟩ (fun w Sl Tl hZ hTT hA hP hS => ?_) rfl ?_
 ·refine opx_imp (OpX_lit (e := e32) (l := ([1] : List UInt32)) (vs := [v32 1]) Tryz.underlying25 ti52 rfl rfl rfl rfl (by decide) (by decide) hS) ?_
  rintro v_77 w hS
  exact ⟨_, _, ⟨v_77, rfl, rfl, rfl⟩, SfT.mk' hZ Rds.nil Off.nil hS⟩
 rintro v_77 x_q y_q ⟨_, rfl, rfl, rfl⟩
 refine lxME_call (fun h v x y => ∃ v_80 : Value, v = v_80 ∧ x = [own e32 v_80 x_79] ∧ y = []) [] [own e32 v_75 x_74, own e32 v_77 ([1] : List UInt32)] [] _ rfl rfl (fun h v x y => rfl) rfl rfl rfl rfl ⟨_, _, _, undef, rfl, rfl, rfl⟩ (by kernel_rfl) rfl (fun w Sl Tl hZ hTT hA hP hS => ?_) rfl ?_
 ·refine calls_ret (c_law11_field_sub _ x_52 x_74 ([1] : List UInt32) v_53 v_75 v_77  (hS.ro 4 rfl).rp (hS.ro 0 rfl).rp (hS.ro 1 rfl).rp _ hx_79) ?_
  rintro v_80 w hS1
  have hS := hS.call hS1
  exact ⟨_, _, ⟨v_80, rfl, rfl, rfl⟩, SfT.mk' hZ Rds.nil Off.nil (hS.pick [0, 3, 4, 5, 6, 7, 8] (by decide) rfl)⟩
 rintro v_80 x_q y_q ⟨_, rfl, rfl, rfl⟩
 refine lxME_call (fun h v x y => ∃ v_83 : Value, v = v_83 ∧ x = [own e32 v_83 x_82] ∧ y = []) [] [own e32 v_72 ([3] : List UInt32), own e32 v_80 x_79] [] _ rfl rfl (fun h v x y => rfl) rfl rfl rfl rfl ⟨_, _, _, undef, rfl, rfl, rfl⟩ (by kernel_rfl) rfl (fun w Sl Tl hZ hTT hA hP hS => ?_) rfl ?_
 ·refine calls_ret (c_law11_field_mul _ x_52 ([3] : List UInt32) x_79 v_53 v_72 v_80  (hS.ro 4 rfl).rp (hS.ro 0 rfl).rp (hS.ro 1 rfl).rp _ hx_82) ?_
  rintro v_83 w hS1
  have hS := hS.call hS1
  exact ⟨_, _, ⟨v_83, rfl, rfl, rfl⟩, SfT.mk' hZ Rds.nil Off.nil (hS.pick [0, 3, 4, 5, 6, 7, 8] (by decide) rfl)⟩
 rintro v_83 x_q y_q ⟨_, rfl, rfl, rfl⟩
 refine lxME_v rfl rfl (fun w Sb wb hZ hA hP hF => kA rfl) rfl (lxME_nil fun w hQ => ?_)
 obtain ⟨S_85, wb_86, hZ, hA, hP, hS⟩ := hQ
 refine ka (ke ?_)
 refine kN (fun w' => St S_85 wb_86 w' [own e32 v_83 x_82, own e32 v_67 x_66, OE.bx b_55 [v_53], own e32 v_53 x_52, OE.bx b_1 [va1_0, va1_1, vB a1_2], OE.bx b_3 [va2_0, va2_1, vB a2_2], OE.bx b_11 [v_7, v_9, vB x_6.2.2.1]]) (fun i => !([14, 15].contains i)) hmix (fun _ _ _ hf => hf.2) (fun _ _ hf => hf) (by kernel_rfl) ?_
 have hS := hS.drew
 show lxE _ _ _ _ _ _ _ [0, 1, 2, 3, 4, 5, 6, 7, 8, 9, 10, 11, 12, 13, 14, 15, 16, 17] _ _
 refine kj hS rfl rfl (fun w hF => kl (k := 2) Tryz.underlying27 rfl rfl nz4 rfl) rfl (kj hS rfl rfl (fun w hF => ku Tryz.underlying4 rfl rfl (hF.bxc 6 rfl 2)) rfl (kj hS rfl rfl (fun w hF => kc1 rfl (u_not x_6.2.2.1)) rfl (kj hS rfl rfl (fun w hF => km rfl) rfl ?_)))
 cases hb_87 : (!x_6.2.2.1)
 case true =>
  have h := if_t h hb_87
  try simp only [hb_87]
  refine kb1 (t := 145) hS rfl rfl rfl rfl (fun w hF => kH (us := [v_53]) Tryz.underlying49 rfl sz49 rfl (hF.bxs 2 rfl rfl)) rfl (kb1 (t := 145) hS rfl rfl rfl rfl (fun w hF => kH (us := [va1_0, va1_1, vB a1_2]) Tryz.underlying27 rfl sz27 rfl (hF.bxs 4 rfl rfl)) rfl (kb1 (t := 145) hS rfl rfl rfl rfl (fun w hF => kH (us := [va1_0, va1_1, vB a1_2]) Tryz.underlying27 rfl sz27 rfl (hF.bxs 4 rfl rfl)) rfl (kb1 (t := 145) hS rfl rfl rfl rfl (fun w hF => kH (us := [v_7, v_9, vB x_6.2.2.1]) Tryz.underlying27 rfl sz27 rfl (hF.bxs 6 rfl rfl)) rfl (kb1 (t := 145) hS rfl rfl rfl rfl (fun w hF => km rfl) rfl (kb1 (t := 145) hS rfl rfl rfl rfl (fun w hF => kH (us := [v_53]) Tryz.underlying49 rfl sz49 rfl (hF.bxs 2 rfl rfl)) rfl (kb1 (t := 145) hS rfl rfl rfl rfl (fun w hF => kl (k := 1) Tryz.underlying27 rfl rfl nz25 rfl) rfl (kb1 (t := 145) hS rfl rfl rfl rfl (fun w hF => ku Tryz.underlying25 rfl rfl (hF.bxc 4 rfl 1)) rfl (kb1 (t := 145) hS rfl rfl rfl rfl (fun w hF => kl (k := 1) Tryz.underlying27 rfl rfl nz25 rfl) rfl ?_))))))))
  refine kb1 (t := 145) hS rfl rfl rfl rfl (fun w hF => ku Tryz.underlying25 rfl rfl (hF.bxc 4 rfl 1)) rfl ?_
  obtain ⟨x_88, hx_88, h⟩ := kg h
  refine lxE_gcall (t := 145) hS rfl rfl rfl rfl (by kernel_rfl) rfl (c_law11_field_add _ x_52 a1_1 a1_1 v_53 va1_1 va1_1  (hS.ro 3 rfl).rp ((hA.rp 1 rfl).now hS.fr).rp ((hA.rp 1 rfl).now hS.fr).rp _ hx_88) rfl ?_
  rintro v_89 w hS1
  have hS := hS.call hS1
  obtain ⟨x_91, hx_91, h⟩ := kg h
  refine lxE_gcall (t := 145) (hS.pick [1, 2, 3, 4, 5, 6, 7] (by decide) rfl) rfl rfl rfl rfl (by kernel_rfl) rfl (c_law11_line _ x_52 a1_0 a1_1 a1_2 a1_0 a1_1 a1_2 x_6.1 x_6.2.1 x_6.2.2.1 x_82 x_88 v_53 va1_0 va1_1 va1_0 va1_1 v_7 v_9 v_83 v_89  (hS.ro 4 rfl).rp ((hA.rp 0 rfl).now hS.fr).rp ((hA.rp 1 rfl).now hS.fr).rp ((hA.rp 0 rfl).now hS.fr).rp ((hA.rp 1 rfl).now hS.fr).rp ((hA.rp 4 rfl).now hS.fr).rp ((hA.rp 5 rfl).now hS.fr).rp (hS.ro 1 rfl).rp (hS.ro 0 rfl).rp _ hx_91) rfl ?_
  rintro _ w ⟨rfl, hS1⟩
  have hS := hS.call hS1
  refine kj (hS.pick [1, 2, 3, 4, 5, 6, 7] (by decide) rfl) rfl rfl (fun w hF => kd1 rfl rfl) rfl ?_
  refine kj (hS.pick [1, 2, 3, 4, 5, 6, 7] (by decide) rfl) rfl rfl (fun w hF => kA rfl) rfl ?_
  refine kY (hS.pick [1, 2, 3, 4, 5, 6, 7] (by decide) rfl) ?_
  refine ka (kq ?_)
  cases h
  replace hS := hZ.st hS
  exact ky rfl rfl ⟨rfl, hS.pick [] (by decide) rfl⟩
 case false =>
  have h := if_f h hb_87
  try simp only [hb_87]
  refine kD (b := false) (t := 145) hS rfl rfl rfl rfl rfl rfl (kD (b := false) (t := 145) hS rfl rfl rfl rfl rfl rfl (kD (b := false) (t := 145) hS rfl rfl rfl rfl rfl rfl (kD (b := false) (t := 145) hS rfl rfl rfl rfl rfl rfl (kD (b := false) (t := 145) hS rfl rfl rfl rfl rfl rfl (kD (b := false) (t := 145) hS rfl rfl rfl rfl rfl rfl (kD (b := false) (t := 145) hS rfl rfl rfl rfl rfl rfl (kD (b := false) (t := 145) hS rfl rfl rfl rfl rfl rfl (kD (b := false) (t := 145) hS rfl rfl rfl rfl rfl rfl ?_))))))))
  refine kD (b := false) (t := 145) hS rfl rfl rfl rfl rfl rfl (lxE_gskipL (b := false) (t := 145) hS rfl rfl rfl rfl rfl rfl ?_)
  refine lxE_gskipL (b := false) (t := 145) hS rfl rfl rfl rfl rfl rfl ?_
  refine kj hS rfl rfl (fun w hF => ke1 rfl rfl) rfl (kj hS rfl rfl (fun w hF => kA rfl) rfl (kY hS ?_))
  refine ka (kq ?_)
  cases h
  replace hS := hZ.st hS
  exact ky rfl rfl ⟨rfl, hS.pick [] (by decide) rfl⟩
end Go.Proofs
