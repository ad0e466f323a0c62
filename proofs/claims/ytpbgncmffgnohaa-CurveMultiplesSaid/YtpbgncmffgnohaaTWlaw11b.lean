import Derived.Test.YtpbgncmffgnohaaTW0
import Derived.Test.YtpbgncmffgnohaaGkFlaw11
import Derived.Test.YtpbgncmffgnohaaTWcurvee
import Derived.Test.YtpbgncmffgnohaaTWlaw11a
import Derived.Test.YtpbgncmffgnohaaTWnat
set_option linter.unusedVariables false
set_option linter.unusedSimpArgs false
set_option linter.unusedVariables false
set_option maxRecDepth 4000
namespace Go.Proofs
open Go Go.RowKit Go.Gk
theorem c_law11_started (w0 : World)    (r : Bool)
  (h : F.law11_started  = some r) : Calls Try.prog 22 #[] w0 (Ret fun v w => v = vB r ∧ St [] w0 w []) := by
 refine ky 70 Try.func22 rfl rfl rfl ?_
 have hS := St.start w0
 refine km [] trivial ?_
 unfold F.law11_started at h
 refine kd (kc (kb 1 rfl ?_))
 refine ke (ka (kd (kc ?_)))
 obtain ⟨x_1, hx_1, h⟩ := kf h
 refine kj (by kernel_rfl) rfl (c_curve_Base _ 1    _ hx_1) rfl ?_
 rintro _ w ⟨v_2, v_4, rfl, hS1⟩
 have hS := hS.call hS1
 refine kV (kD (cs := [.slice none 0 0, .slice none 0 0, vB false]) tz26 rfl hS) rfl ?_
 rintro _ w ⟨b_6, rfl, hS⟩
 refine kW (kL (i := 0) (us := [v_2, v_4, vB x_1.2.2]) rfl sz26 rfl rfl rfl ⟨(hS.ro 1 rfl).one, (hS.ro 2 rfl).one, rfl, trivial⟩ rfl hS) ?_
 intro w hS
 refine ke (ka (kd (kc (kh (kG (us := [v_2, v_4, vB x_1.2.2]) Try.underlying26 rfl sz26 rfl (hS.bxs 0 rfl rfl)) rfl (kh (kG (us := [v_2, v_4, vB x_1.2.2]) Try.underlying26 rfl sz26 rfl (hS.bxs 0 rfl rfl)) rfl ?_)))))
 obtain ⟨x_8, hx_8, h⟩ := kf h
 refine kj (by kernel_rfl) rfl (c_curve_Add _ 1 x_1.1 x_1.2.1 x_1.2.2 x_1.1 x_1.2.1 x_1.2.2 v_2 v_4 v_2 v_4  (hS.ro 1 rfl).rp (hS.ro 2 rfl).rp (hS.ro 1 rfl).rp (hS.ro 2 rfl).rp _ hx_8) rfl ?_
 rintro _ w ⟨v_9, v_11, rfl, hS1⟩
 have hS := hS.call hS1
 refine kb 3 rfl ?_
 refine kV (kD (cs := [.slice none 0 0, .slice none 0 0, vB false]) tz26 rfl hS) rfl ?_
 rintro _ w ⟨b_13, rfl, hS⟩
 refine kW (kL (i := 0) (us := [v_9, v_11, vB x_8.2.2.1]) rfl sz26 rfl rfl rfl ⟨(hS.ro 1 rfl).one, (hS.ro 2 rfl).one, rfl, trivial⟩ rfl hS) ?_
 intro w hS
 refine kb 1 rfl ?_
 refine ke (ka (kd (kc ?_)))
 refine kV (OpX_lit (e := e32) (l := ([2] : List UInt32)) (vs := [v32 2]) Try.underlying24 ti52 rfl rfl rfl rfl (by decide) (by decide) hS) rfl ?_
 rintro v_15 w hS
 refine kh (kG (us := [v_2, v_4, vB x_1.2.2]) Try.underlying26 rfl sz26 rfl (hS.bxs 4 rfl rfl)) rfl ?_
 obtain ⟨x_17, hx_17, h⟩ := kf h
 refine kj (by kernel_rfl) rfl (c_curve_Mul _ 1 ([2] : List UInt32) x_1.1 x_1.2.1 x_1.2.2 v_15 v_2 v_4  (hS.ro 0 rfl).rp (hS.ro 5 rfl).rp (hS.ro 6 rfl).rp _ hx_17) rfl ?_
 rintro _ w ⟨v_18, v_20, rfl, hS1⟩
 have hS := hS.call hS1
 refine kb 3 rfl ?_
 refine kV (kD (cs := [.slice none 0 0, .slice none 0 0, vB false]) tz26 rfl hS) rfl ?_
 rintro _ w ⟨b_22, rfl, hS⟩
 refine kW (kL (i := 0) (us := [v_18, v_20, vB x_17.2.2.1]) rfl sz26 rfl rfl rfl ⟨(hS.ro 1 rfl).one, (hS.ro 2 rfl).one, rfl, trivial⟩ rfl hS) ?_
 intro w hS
 refine kb 1 rfl ?_
 refine ke (ka (kd (kc (kh (kG (us := [v_2, v_4, vB x_1.2.2]) Try.underlying26 rfl sz26 rfl (hS.bxs 7 rfl rfl)) rfl (kh (OpV_build (vs := []) (cells := [.slice none 0 0, .slice none 0 0, vB false]) rfl lay26 trivial rfl) rfl ?_)))))
 obtain ⟨x_24, hx_24, h⟩ := kf h
 refine kj (by kernel_rfl) rfl (c_curve_Add _ 1 x_1.1 x_1.2.1 x_1.2.2 [] [] false v_2 v_4 (.slice none 0 0) (.slice none 0 0)  (hS.ro 8 rfl).rp (hS.ro 9 rfl).rp (RO.nil _ e32).rp (RO.nil _ e32).rp _ hx_24) rfl ?_
 rintro _ w ⟨v_25, v_27, rfl, hS1⟩
 have hS := hS.call hS1
 refine kb 3 rfl ?_
 refine kV (kD (cs := [.slice none 0 0, .slice none 0 0, vB false]) tz26 rfl hS) rfl ?_
 rintro _ w ⟨b_29, rfl, hS⟩
 refine kW (kL (i := 0) (us := [v_25, v_27, vB x_24.2.2.1]) rfl sz26 rfl rfl rfl ⟨(hS.ro 1 rfl).one, (hS.ro 2 rfl).one, rfl, trivial⟩ rfl hS) ?_
 intro w hS
 refine kb 1 rfl ?_
 refine ke (ka (kd (kc (kb 3 rfl ?_))))
 cases hb_31 : (x_8.2.2.2 == 0)
 case true =>
  have h := if_t h hb_31
  try simp only [hb_31]
  refine kb 4 rfl ?_
  cases hb_32 : (x_17.2.2.2 == 0)
  case true =>
   have h := if_t h hb_32
   try simp only [hb_32]
   refine kb 4 rfl ?_
   cases hb_33 : (x_24.2.2.2 == 93)
   case true =>
    have h := if_t h hb_33
    try simp only [hb_33]
    refine kS (t := 37) rfl rfl (kG (us := [v_9, v_11, vB x_8.2.2.1]) Try.underlying26 rfl sz26 rfl (hS.bxs 7 rfl rfl)) rfl (kS (t := 37) rfl rfl (kG (us := [v_18, v_20, vB x_17.2.2.1]) Try.underlying26 rfl sz26 rfl (hS.bxs 3 rfl rfl)) rfl ?_)
    obtain ⟨x_34, hx_34, h⟩ := kf h
    refine wpR_gcall (t := 37) rfl rfl (by kernel_rfl) rfl (c_law11_same _ x_8.1 x_8.2.1 x_8.2.2.1 x_17.1 x_17.2.1 x_17.2.2.1 v_9 v_11 v_18 v_20  (hS.ro 8 rfl).rp (hS.ro 9 rfl).rp (hS.ro 4 rfl).rp (hS.ro 5 rfl).rp _ hx_34) rfl ?_
    rintro _ w ⟨rfl, hS1⟩
    have hS := hS.call hS1
    refine kb 2 rfl ?_
    cases hb_35 : x_34
    case true =>
     have h := if_t h hb_35
     try simp only [hb_35]
     refine kS (t := 42) rfl rfl (kk (k := 0) Try.underlying26 rfl rfl nz24 rfl) rfl (kS (t := 42) rfl rfl (kt Try.underlying24 rfl rfl (hS.bxc 7 rfl 0)) rfl (kS (t := 42) rfl rfl (kA Try.underlying24 rfl (hS.ro 8 rfl)) rfl (kb 3 rfl ?_)))
     cases hb_36 : ((x_8.1.length : Int) == 8)
     case true =>
      have h := if_t h hb_36
      try simp only [hb_36]
      refine kS (t := 48) rfl rfl (kk (k := 0) Try.underlying26 rfl rfl nz24 rfl) rfl (kS (t := 48) rfl rfl (kt Try.underlying24 rfl rfl (hS.bxc 7 rfl 0)) rfl ?_)
      obtain ⟨x_37, hx_37, h⟩ := kf h
      refine kS (t := 48) rfl rfl (G_ix Try.underlying24 ti52 rfl rfl (hS.ro 8 rfl) hx_37) rfl (kS (t := 48) rfl rfl (G_load Try.underlying52 rfl rfl (hS.ro 8 rfl) hx_37 rfl) rfl (kS (t := 48) rfl rfl (kr rfl rfl (b_eql32 _ x_37 1197906296)) rfl (kb 2 rfl ?_)))
      cases hb_38 : (x_37 == 1197906296)
      case true =>
       have h := if_t h hb_38
       try simp only [hb_38]
       refine kS (t := 55) rfl rfl (kk (k := 1) Try.underlying26 rfl rfl nz24 rfl) rfl (kS (t := 55) rfl rfl (kt Try.underlying24 rfl rfl (hS.bxc 7 rfl 1)) rfl ?_)
       obtain ⟨x_39, hx_39, h⟩ := kf h
       refine kS (t := 55) rfl rfl (G_ix Try.underlying24 ti52 rfl rfl (hS.ro 9 rfl) hx_39) rfl (kS (t := 55) rfl rfl (G_load Try.underlying52 rfl rfl (hS.ro 9 rfl) hx_39 rfl) rfl (kS (t := 55) rfl rfl (kr rfl rfl (b_eql32 _ x_39 578319313)) rfl (kb 2 rfl ?_)))
       cases hb_40 : (x_39 == 578319313)
       case true =>
        have h := if_t h hb_40
        try simp only [hb_40]
        refine kS (t := 62) rfl rfl (kG (us := [v_9, v_11, vB x_8.2.2.1]) Try.underlying26 rfl sz26 rfl (hS.bxs 7 rfl rfl)) rfl ?_
        obtain ⟨x_41, hx_41, h⟩ := kf h
        refine wpR_gcall (t := 62) rfl rfl (by kernel_rfl) rfl (c_curve_On _ 1 x_8.1 x_8.2.1 x_8.2.2.1 v_9 v_11  (hS.ro 8 rfl).rp (hS.ro 9 rfl).rp _ hx_41) rfl ?_
        rintro _ w ⟨rfl, hS1⟩
        have hS := hS.call hS1
        refine kb 2 rfl ?_
        cases hb_42 : x_41
        case true =>
         have h := if_t h hb_42
         try simp only [hb_42]
         obtain ⟨x_43, hx_43, h⟩ := kf h
         refine wpR_gcall (t := 66) rfl rfl (by kernel_rfl) rfl (c_curve_Base _ 2    _ hx_43) rfl ?_
         rintro _ w ⟨v_44, v_46, rfl, hS1⟩
         have hS := hS.call hS1
         obtain ⟨x_48, hx_48, h⟩ := kf h
         refine wpR_gcall (t := 66) rfl rfl (by kernel_rfl) rfl (c_curve_On _ 2 x_43.1 x_43.2.1 x_43.2.2 v_44 v_46  (hS.ro 0 rfl).rp (hS.ro 1 rfl).rp _ hx_48) rfl ?_
         rintro _ w ⟨rfl, hS1⟩
         have hS := hS.call hS1
         refine kb 2 rfl ?_
         refine ke (ka (ko ?_))
         cases h
         exact kx rfl rfl ⟨rfl, hS.pick [] (by decide) rfl⟩
        case false =>
         have h := if_f h hb_42
         try simp only [hb_42]
         refine kb 4 rfl ?_
         refine ke (ka (ko ?_))
         cases h
         exact kx rfl rfl ⟨rfl, hS.pick [] (by decide) rfl⟩
       case false =>
        have h := if_f h hb_40
        try simp only [hb_40]
        refine kb 8 rfl ?_
        refine ke (ka (ko ?_))
        cases h
        exact kx rfl rfl ⟨rfl, hS.pick [] (by decide) rfl⟩
      case false =>
       have h := if_f h hb_38
       try simp only [hb_38]
       refine kb 15 rfl ?_
       refine ke (ka (ko ?_))
       cases h
       exact kx rfl rfl ⟨rfl, hS.pick [] (by decide) rfl⟩
     case false =>
      have h := if_f h hb_36
      try simp only [hb_36]
      refine kb 22 rfl ?_
      refine ke (ka (ko ?_))
      cases h
      exact kx rfl rfl ⟨rfl, hS.pick [] (by decide) rfl⟩
    case false =>
     have h := if_f h hb_35
     try simp only [hb_35]
     refine kb 28 rfl ?_
     refine ke (ka (ko ?_))
     cases h
     exact kx rfl rfl ⟨rfl, hS.pick [] (by decide) rfl⟩
   case false =>
    have h := if_f h hb_33
    try simp only [hb_33]
    refine kb 33 rfl ?_
    refine ke (ka (ko ?_))
    cases h
    exact kx rfl rfl ⟨rfl, hS.pick [] (by decide) rfl⟩
  case false =>
   have h := if_f h hb_32
   try simp only [hb_32]
   refine kb 37 rfl ?_
   refine ke (ka (ko ?_))
   cases h
   exact kx rfl rfl ⟨rfl, hS.pick [] (by decide) rfl⟩
 case false =>
  have h := if_f h hb_31
  try simp only [hb_31]
  refine kb 41 rfl ?_
  refine ke (ka (ko ?_))
  cases h
  exact kx rfl rfl ⟨rfl, hS.pick [] (by decide) rfl⟩
end Go.Proofs
