import Derived.Test.YtkickcbphbgldaaGreatDoorTW0
import Derived.Test.YtkickcbphbgldaaGreatDoorGkFman
set_option linter.unusedVariables false
set_option linter.unusedSimpArgs false
set_option linter.unusedSectionVars false
set_option maxRecDepth 4000
namespace Go.Proofs
open Go Go.RowKit Go.Gk
open Go.Gk renaming aa → Q, ae → N, af → H, ah → M, ai → J
theorem mE {e:World} (a0 a1 a2:UInt32) {r:UInt32×UInt32}
  (h:F.E4 a0 a1 a2=some r) :Calls Tryz.prog 126 #[v32 a0,v32 a1,v32 a2] e (Ret fun v w=>v=.tuple #[v32 r.1,v32 r.2]∧St [] e w []):=by
 refine aN 33 Tryz.func126 Z Z Z ?_
 have a:=St.l e
 refine ar [(0,v32 a0),(1,v32 a1),(2,v32 a2)] ⟨Z,Z,Z,V⟩ ?_
 unfold F.E4 at h
 refine M (H (Q 2 Z ?_))
 refine J (N (M ?_))
 refine bf (r:=r) (fun (g:Bool) L w=>L=[(0,v32 a0),(1,v32 a1),(2,v32 a2),(15,vB g)]∧St [] e w []) (F.Fw a0 a1 a2) ?_ ?_
 rotate_left
 ·intro f
  refine H (Q 1 Z ?_)
  refine al (aq Z Z (ma _ a2 0)) Z (Q 1 Z ?_)
  cases b:(a2 != 0)
  case true=>
   have h:=aJ h b
   try simp only [b]
   refine Q 2 Z ?_
   refine aF (t:=11) Z Z (aq Z Z (zh _ a2 a0)) Z (Q 1 Z ?_)
   refine J (N ?_)
   exact ar _ (by exact ⟨Z,Z,Z,Z,V⟩) (f (decide (a2≤a0)) _ _ ⟨Z,a⟩ h)
  case false=>
   have h:=aI h b
   try simp only [b]
   refine Q 4 Z ?_
   refine J (N ?_)
   exact ar _ (by exact ⟨Z,Z,Z,Z,V⟩) (f false _ _ ⟨Z,a⟩ h)
 rintro q L w hJ h
 try dsimp only at hJ
 obtain ⟨rfl,a⟩:=hJ
 unfold F.Fw at h
 refine av Z (fun d=>?_) (fun d=>?_)
 ·have h:=aJ h d
  cases h
 have h:=aI h d
 refine aw (N (M (H (Q 1 Z ?_))))
 refine al (aK Z (bu u38 u87 a0)) Z (al (aq Z Z (c9 _ a0.toUInt64 32)) Z (Q 1 Z ?_))
 refine al (aK Z (bu u38 u87 a1)) Z (al (aq Z Z (eL _ (br a0.toUInt64 32) a1.toUInt64)) Z ?_)
 obtain ⟨c,i,h⟩:=aQ h
 refine al (aD (v:=v64 c) (by rw [←i]; rfl)) Z ?_
 refine J (N (M ?_))
 refine bb (fun w'=>St [] e w' []) (fun _=>true) bR (fun _ _ _ j=>j.2) (fun _ _ j=>j) (by kernel_rfl) ?_
 have a:=a.drew
 show lxE _ _ _ _ _ _ _ [0,1,2,3,4,5,6,7,8,9,10,11] _ _
 refine am a Z Z (fun w hF=>au Z) Z (am a Z Z (fun w hF=>au Z) Z (am a Z Z (fun w hF=>aK Z (bu u38 u87 a2)) Z ?_))
 obtain ⟨k,h⟩:=bZ h
 refine am a Z Z (fun w hF=>aq Z Z (gI _ c a2.toUInt64 k)) Z (am a Z Z (fun w hF=>aK Z (bQ u87 u38 (c / a2.toUInt64))) Z (am a Z Z (fun w hF=>au Z) Z (am a Z Z (fun w hF=>au Z) Z (am a Z Z (fun w hF=>aK Z (bu u38 u87 a2)) Z ?_))))
 obtain ⟨l,h⟩:=bZ h
 refine am a Z Z (fun w hF=>aq Z Z (eM _ c a2.toUInt64 l)) Z (am a Z Z (fun w hF=>aK Z (bQ u87 u38 (c%a2.toUInt64))) Z ?_)
 obtain ⟨o,m,h⟩:=aQ h
 refine am a Z Z (fun w hF=>aD (v:=v32 o) (by rw [←m]; rfl)) Z ?_
 obtain ⟨p,n,h⟩:=aQ h
 refine am a Z Z (fun w hF=>aD (v:=v32 p) (by rw [←n]; rfl)) Z ?_
 refine bp a ?_
 refine N (ay ?_)
 cases h
 exact bX Z Z Z ⟨Z,a⟩
theorem iH {e:World} (a0:UInt32) {r:Int}
  (h:F.EP a0=some r) :Calls Tryz.prog 64 #[v32 a0] e (Ret fun v w=>v=vI r∧St [] e w []):=by
 refine aN 19 Tryz.func64 Z Z Z ?_
 have a:=St.l e
 refine ar [(0,v32 a0)] ⟨Z,V⟩ ?_
 unfold F.EP at h
 refine M (H (Q 1 Z ?_))
 refine J (N ?_)
 refine bf (r:=r) (fun (g:UInt32×Int) L w=>L=[(0,v32 g.1),(2,vI g.2)]∧St [] e w []) (F.EA) ?_ ?_
 rotate_left
 ·intro f
  refine M (H (Q 1 Z ?_))
  refine al (aq Z Z (tH _ a0 65536)) Z (J (N ?_))
  refine av Z (fun b=>?_) (fun b=>?_)
  ·have h:=aJ h b
   refine M (H (Q 1 Z ?_))
   refine al (aq Z Z (di _ a0 16)) Z (Q 1 Z ?_)
   refine J (N (H (Q 1 Z ?_)))
   refine J (N ?_)
   exact ar _ (by exact ⟨Z,Z,V⟩) (f (bC a0 16,16) _ _ ⟨Z,a⟩ h)
  have h:=aI h b
  refine aw (N ?_)
  exact ar _ (by exact ⟨Z,Z,V⟩) (f (a0,0) _ _ ⟨Z,a⟩ h)
 rintro ⟨d,k⟩ L w hJ h
 try dsimp only at hJ
 obtain ⟨rfl,a⟩:=hJ
 unfold F.EA at h
 refine bf (r:=r) (fun (g:UInt32×Int) L w=>L=[(0,v32 g.1),(2,vI g.2)]∧St [] e w []) (F.Ek) ?_ ?_
 rotate_left
 ·intro i
  refine M (H (Q 1 Z ?_))
  refine al (aq Z Z (tH _ d 256)) Z (J (N ?_))
  refine av Z (fun c=>?_) (fun c=>?_)
  ·have h:=aJ h c
   refine M (H (Q 1 Z ?_))
   refine al (aq Z Z (di _ d 8)) Z (Q 1 Z ?_)
   refine J (N (H (Q 3 Z ?_)))
   refine J (N ?_)
   exact ar _ (by exact ⟨Z,Z,V⟩) (i (bC d 8,wI (k+8)) _ _ ⟨Z,a⟩ h)
  have h:=aI h c
  refine aw (N ?_)
  exact ar _ (by exact ⟨Z,Z,V⟩) (i (d,k) _ _ ⟨Z,a⟩ h)
 rintro ⟨n,p⟩ L w hJ h
 try dsimp only at hJ
 obtain ⟨rfl,a⟩:=hJ
 unfold F.Ek at h
 refine M (H (Q 2 Z ?_))
 refine al (aK Z (gK u38 Tryz.underlying5 n)) Z ?_
 obtain ⟨o,l,h⟩:=aj h
 refine al (ku Tryz.underlying9 Z Z l) Z (al (aK Z (nG Tryz.underlying5 Tryz.underlying3 o)) Z (Q 1 Z ?_))
 obtain ⟨m,j,h⟩:=aQ h
 refine al (aD (v:=vI m) (by rw [←j]; rfl)) Z ?_
 refine J (N (ay ?_))
 cases h
 exact aM Z Z ⟨Z,a⟩
theorem ir {a:World} (a0:UInt32) {r:Int}
  (h:F.Fm a0=some r) :Calls Tryz.prog 127 #[v32 a0] a (Ret fun v w=>v=vI r∧St [] a w []):=by
 refine aN 6 Tryz.func127 Z Z Z ?_
 have b:=St.l a
 refine ar [(0,v32 a0)] ⟨Z,V⟩ ?_
 unfold F.Fm at h
 refine M (H (Q 1 Z ?_))
 refine J (N (M (H (Q 1 Z ?_))))
 obtain ⟨e,c,h⟩:=aj h
 refine ao Z (iH a0 c ) Z ?_
 rintro _ w ⟨rfl,d⟩
 have b:=b.f d
 refine Q 2 Z ?_
 refine J (N (ay ?_))
 cases h
 exact aM Z Z ⟨Z,b⟩
theorem mB {a:World} (a0 a1 a2:UInt32) {r:UInt32×UInt32}
  (h:F.FI a0 a1 a2=some r) :Calls Tryz.prog 121 #[v32 a0,v32 a1,v32 a2] a (Ret fun v w=>v=.tuple #[v32 r.1,v32 r.2]∧St [] a w []):=by
 refine aN 25 Tryz.func121 Z Z Z ?_
 have d:=St.l a
 refine ar [(0,v32 a0),(1,v32 a1),(2,v32 a2)] ⟨Z,Z,Z,V⟩ ?_
 unfold F.FI at h
 refine M (H (Q 2 Z ?_))
 refine J (N (M (H (Q 2 Z ?_))))
 refine al (aq Z Z (s7 _ a0 a1)) Z (Q 1 Z ?_)
 refine al (aq Z Z (s7 _ (a0 - a1) a2)) Z (Q 1 Z ?_)
 refine J (N (M (H (Q 1 Z ?_))))
 refine al (ij Z (tC a0)) Z (Q 1 Z ?_)
 refine al (aq Z Z (iX _ (~~~ a0) a1)) Z (Q 2 Z ?_)
 refine al (aq Z Z (eH _ a0 a1)) Z (al (ij Z (tC (a0 ^^^ a1))) Z (Q 1 Z ?_))
 refine al (aq Z Z (iX _ (~~~ (a0 ^^^ a1)) ((a0 - a1) - a2))) Z (al (aq Z Z (fu _ ((~~~ a0) &&& a1) ((~~~ (a0 ^^^ a1)) &&& ((a0 - a1) - a2)))) Z (al (aq Z Z (di _ (((~~~ a0) &&& a1) ||| ((~~~ (a0 ^^^ a1)) &&& ((a0 - a1) - a2))) 31)) Z ?_))
 obtain ⟨c,b,h⟩:=aQ h
 refine al (aD (v:=v32 c) (by rw [←b]; rfl)) Z ?_
 refine J (N (ay ?_))
 cases h
 exact bX Z Z Z ⟨Z,d⟩
theorem bN {a:World} (a0:UInt32) (a1:Int) {r:UInt32}
  (h:F.BM a0 a1=some r) :Calls Tryz.prog 195 #[v32 a0,vI a1] a (Ret fun v w=>v=v32 r∧St [] a w []):=by
 refine aN 17 Tryz.func195 Z Z Z ?_
 have b:=St.l a
 refine ar [(0,v32 a0),(1,vI a1)] ⟨Z,Z,V⟩ ?_
 unfold F.BM at h
 refine M (H (Q 1 Z ?_))
 refine J (N (M (H (Q 1 Z ?_))))
 refine al (aK Z (eA Tryz.underlying3 u112 a1)) Z (al (aq Z Z (i2 _ (UInt64.ofInt a1) 31)) Z (Q 1 Z ?_))
 refine J (N (M (H (Q 2 Z ?_))))
 refine al (aq Z Z (iR _ a0 ((UInt64.ofInt a1) &&& 31))) Z (Q 2 Z ?_)
 refine al (aq Z Z (el _ 32 ((UInt64.ofInt a1) &&& 31))) Z (al (aq Z Z (di _ a0 (32 - ((UInt64.ofInt a1) &&& 31)))) Z (al (aq Z Z (fu _ (ch a0 (((UInt64.ofInt a1) &&& 31).toNat)) (bC a0 ((32 - ((UInt64.ofInt a1) &&& 31)).toNat)))) Z (Q 1 Z ?_)))
 refine J (N (ay ?_))
 cases h
 exact aM Z Z ⟨Z,b⟩
theorem bM {a:World} (a0:UInt64) (a1:Int) {r:UInt64}
  (h:F.BN a0 a1=some r) :Calls Tryz.prog 196 #[v64 a0,vI a1] a (Ret fun v w=>v=v64 r∧St [] a w []):=by
 refine aN 17 Tryz.func196 Z Z Z ?_
 have b:=St.l a
 refine ar [(0,v64 a0),(1,vI a1)] ⟨Z,Z,V⟩ ?_
 unfold F.BN at h
 refine M (H (Q 1 Z ?_))
 refine J (N (M (H (Q 1 Z ?_))))
 refine al (aK Z (eA Tryz.underlying3 u112 a1)) Z (al (aq Z Z (i2 _ (UInt64.ofInt a1) 63)) Z (Q 1 Z ?_))
 refine J (N (M (H (Q 2 Z ?_))))
 refine al (aq Z Z (c9 _ a0 ((UInt64.ofInt a1) &&& 63))) Z (Q 2 Z ?_)
 refine al (aq Z Z (el _ 64 ((UInt64.ofInt a1) &&& 63))) Z (al (aq Z Z (cq _ a0 (64 - ((UInt64.ofInt a1) &&& 63)))) Z (al (aq Z Z (eL _ (br a0 (((UInt64.ofInt a1) &&& 63).toNat)) (aX a0 ((64 - ((UInt64.ofInt a1) &&& 63)).toNat)))) Z (Q 1 Z ?_)))
 refine J (N (ay ?_))
 cases h
 exact aM Z Z ⟨Z,b⟩
end Go.Proofs
