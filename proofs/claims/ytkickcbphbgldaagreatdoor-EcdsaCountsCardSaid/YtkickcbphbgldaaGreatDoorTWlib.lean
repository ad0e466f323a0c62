import Derived.Test.YtkickcbphbgldaaGreatDoorTW0
import Derived.Test.YtkickcbphbgldaaGreatDoorGkFman
set_option linter.unusedVariables false
set_option linter.unusedSimpArgs false
set_option linter.unusedSectionVars false
set_option maxRecDepth 4000
namespace Go.Proofs
open Go Go.RowKit Go.Gk
open Go.Gk renaming aa → P, ae → O, af → H, ah → J, ai → I
theorem ms {e:World} (a0 a1 a2:UInt32) {r:UInt32×UInt32}
  (h:F.E8 a0 a1 a2=some r) :Calls Tryz.prog 126 #[v32 a0,v32 a1,v32 a2] e (Ret fun v w=>v=.tuple #[v32 r.1,v32 r.2]∧St [] e w []):=by
 refine aH 33 Tryz.func126 Z Z Z ?_
 have a:=St.l e
 refine au [(0,v32 a0),(1,v32 a1),(2,v32 a2)] ⟨Z,Z,Z,V⟩ ?_
 unfold F.E8 at h
 refine J (H (P 2 Z ?_))
 refine I (O (J ?_))
 refine a9 (r:=r) (fun (g:Bool) L w=>L=[(0,v32 a0),(1,v32 a1),(2,v32 a2),(15,vB g)]∧St [] e w []) (F.EN a0 a1 a2) ?_ ?_
 rotate_left
 ·intro f
  refine H (P 1 Z ?_)
  refine am (aq Z Z (jW _ a2 0)) Z (P 1 Z ?_)
  cases b:(a2 != 0)
  case true=>
   have h:=aJ h b
   try simp only [b]
   refine P 2 Z ?_
   refine bo (t:=11) Z Z (aq Z Z (y8 _ a2 a0)) Z (P 1 Z ?_)
   refine I (O ?_)
   exact au _ (by exact ⟨Z,Z,Z,Z,V⟩) (f (decide (a2≤a0)) _ _ ⟨Z,a⟩ h)
  case false=>
   have h:=aI h b
   try simp only [b]
   refine P 4 Z ?_
   refine I (O ?_)
   exact au _ (by exact ⟨Z,Z,Z,Z,V⟩) (f false _ _ ⟨Z,a⟩ h)
 rintro q L w hJ h
 try dsimp only at hJ
 obtain ⟨rfl,a⟩:=hJ
 unfold F.EN at h
 refine aw Z (fun d=>?_) (fun d=>?_)
 ·have h:=aJ h d
  cases h
 have h:=aI h d
 refine az (O (J (H (P 1 Z ?_))))
 refine am (aM Z (bp u38 u87 a0)) Z (am (aq Z Z (c6 _ a0.toUInt64 32)) Z (P 1 Z ?_))
 refine am (aM Z (bp u38 u87 a1)) Z (am (aq Z Z (eG _ (bm a0.toUInt64 32) a1.toUInt64)) Z ?_)
 obtain ⟨c,i,h⟩:=aO h
 refine am (aA (v:=v64 c) (by rw [←i]; rfl)) Z ?_
 refine I (O (J ?_))
 refine aY (fun w'=>St [] e w' []) (fun _=>true) bQ (fun _ _ _ j=>j.2) (fun _ _ j=>j) (by kernel_rfl) ?_
 have a:=a.drew
 show lxE _ _ _ _ _ _ _ [0,1,2,3,4,5,6,7,8,9,10,11] _ _
 refine al a Z Z (fun w hF=>ar Z) Z (al a Z Z (fun w hF=>ar Z) Z (al a Z Z (fun w hF=>aM Z (bp u38 u87 a2)) Z ?_))
 obtain ⟨k,h⟩:=bX h
 refine al a Z Z (fun w hF=>aq Z Z (gE _ c a2.toUInt64 k)) Z (al a Z Z (fun w hF=>aM Z (bO u87 u38 (c / a2.toUInt64))) Z (al a Z Z (fun w hF=>ar Z) Z (al a Z Z (fun w hF=>ar Z) Z (al a Z Z (fun w hF=>aM Z (bp u38 u87 a2)) Z ?_))))
 obtain ⟨l,h⟩:=bX h
 refine al a Z Z (fun w hF=>aq Z Z (ez _ c a2.toUInt64 l)) Z (al a Z Z (fun w hF=>aM Z (bO u87 u38 (c%a2.toUInt64))) Z ?_)
 obtain ⟨o,m,h⟩:=aO h
 refine al a Z Z (fun w hF=>aA (v:=v32 o) (by rw [←m]; rfl)) Z ?_
 obtain ⟨p,n,h⟩:=aO h
 refine al a Z Z (fun w hF=>aA (v:=v32 p) (by rw [←n]; rfl)) Z ?_
 refine bl a ?_
 refine O (ax ?_)
 cases h
 exact bU Z Z Z ⟨Z,a⟩
theorem iB {e:World} (a0:UInt32) {r:Int}
  (h:F.Eh a0=some r) :Calls Tryz.prog 64 #[v32 a0] e (Ret fun v w=>v=vI r∧St [] e w []):=by
 refine aH 19 Tryz.func64 Z Z Z ?_
 have a:=St.l e
 refine au [(0,v32 a0)] ⟨Z,V⟩ ?_
 unfold F.Eh at h
 refine J (H (P 1 Z ?_))
 refine I (O ?_)
 refine a9 (r:=r) (fun (g:UInt32×Int) L w=>L=[(0,v32 g.1),(2,vI g.2)]∧St [] e w []) (F.Em) ?_ ?_
 rotate_left
 ·intro f
  refine J (H (P 1 Z ?_))
  refine am (aq Z Z (tl _ a0 65536)) Z (I (O ?_))
  refine aw Z (fun b=>?_) (fun b=>?_)
  ·have h:=aJ h b
   refine J (H (P 1 Z ?_))
   refine am (aq Z Z (dc _ a0 16)) Z (P 1 Z ?_)
   refine I (O (H (P 1 Z ?_)))
   refine I (O ?_)
   exact au _ (by exact ⟨Z,Z,V⟩) (f (bA a0 16,16) _ _ ⟨Z,a⟩ h)
  have h:=aI h b
  refine az (O ?_)
  exact au _ (by exact ⟨Z,Z,V⟩) (f (a0,0) _ _ ⟨Z,a⟩ h)
 rintro ⟨d,k⟩ L w hJ h
 try dsimp only at hJ
 obtain ⟨rfl,a⟩:=hJ
 unfold F.Em at h
 refine a9 (r:=r) (fun (g:UInt32×Int) L w=>L=[(0,v32 g.1),(2,vI g.2)]∧St [] e w []) (F.En) ?_ ?_
 rotate_left
 ·intro i
  refine J (H (P 1 Z ?_))
  refine am (aq Z Z (tl _ d 256)) Z (I (O ?_))
  refine aw Z (fun c=>?_) (fun c=>?_)
  ·have h:=aJ h c
   refine J (H (P 1 Z ?_))
   refine am (aq Z Z (dc _ d 8)) Z (P 1 Z ?_)
   refine I (O (H (P 3 Z ?_)))
   refine I (O ?_)
   exact au _ (by exact ⟨Z,Z,V⟩) (i (bA d 8,wI (k+8)) _ _ ⟨Z,a⟩ h)
  have h:=aI h c
  refine az (O ?_)
  exact au _ (by exact ⟨Z,Z,V⟩) (i (d,k) _ _ ⟨Z,a⟩ h)
 rintro ⟨n,p⟩ L w hJ h
 try dsimp only at hJ
 obtain ⟨rfl,a⟩:=hJ
 unfold F.En at h
 refine J (H (P 2 Z ?_))
 refine am (aM Z (gz u38 Tryz.underlying5 n)) Z ?_
 obtain ⟨o,l,h⟩:=aj h
 refine am (kF Tryz.underlying9 Z Z l) Z (am (aM Z (nk Tryz.underlying5 Tryz.underlying3 o)) Z (P 1 Z ?_))
 obtain ⟨m,j,h⟩:=aO h
 refine am (aA (v:=vI m) (by rw [←j]; rfl)) Z ?_
 refine I (O (ax ?_))
 cases h
 exact aG Z Z ⟨Z,a⟩
theorem il {a:World} (a0:UInt32) {r:Int}
  (h:F.Fp a0=some r) :Calls Tryz.prog 127 #[v32 a0] a (Ret fun v w=>v=vI r∧St [] a w []):=by
 refine aH 6 Tryz.func127 Z Z Z ?_
 have b:=St.l a
 refine au [(0,v32 a0)] ⟨Z,V⟩ ?_
 unfold F.Fp at h
 refine J (H (P 1 Z ?_))
 refine I (O (J (H (P 1 Z ?_))))
 obtain ⟨e,c,h⟩:=aj h
 refine ao Z (iB a0 c ) Z ?_
 rintro _ w ⟨rfl,d⟩
 have b:=b.f d
 refine P 2 Z ?_
 refine I (O (ax ?_))
 cases h
 exact aG Z Z ⟨Z,b⟩
theorem mr {a:World} (a0 a1 a2:UInt32) {r:UInt32×UInt32}
  (h:F.FL a0 a1 a2=some r) :Calls Tryz.prog 121 #[v32 a0,v32 a1,v32 a2] a (Ret fun v w=>v=.tuple #[v32 r.1,v32 r.2]∧St [] a w []):=by
 refine aH 25 Tryz.func121 Z Z Z ?_
 have d:=St.l a
 refine au [(0,v32 a0),(1,v32 a1),(2,v32 a2)] ⟨Z,Z,Z,V⟩ ?_
 unfold F.FL at h
 refine J (H (P 2 Z ?_))
 refine I (O (J (H (P 2 Z ?_))))
 refine am (aq Z Z (sP _ a0 a1)) Z (P 1 Z ?_)
 refine am (aq Z Z (sP _ (a0 - a1) a2)) Z (P 1 Z ?_)
 refine I (O (J (H (P 1 Z ?_))))
 refine am (gY Z (sH a0)) Z (P 1 Z ?_)
 refine am (aq Z Z (iQ _ (~~~ a0) a1)) Z (P 2 Z ?_)
 refine am (aq Z Z (eB _ a0 a1)) Z (am (gY Z (sH (a0 ^^^ a1))) Z (P 1 Z ?_))
 refine am (aq Z Z (iQ _ (~~~ (a0 ^^^ a1)) ((a0 - a1) - a2))) Z (am (aq Z Z (ff _ ((~~~ a0) &&& a1) ((~~~ (a0 ^^^ a1)) &&& ((a0 - a1) - a2)))) Z (am (aq Z Z (dc _ (((~~~ a0) &&& a1) ||| ((~~~ (a0 ^^^ a1)) &&& ((a0 - a1) - a2))) 31)) Z ?_))
 obtain ⟨c,b,h⟩:=aO h
 refine am (aA (v:=v32 c) (by rw [←b]; rfl)) Z ?_
 refine I (O (ax ?_))
 cases h
 exact bU Z Z Z ⟨Z,d⟩
theorem bM {a:World} (a0:UInt32) (a1:Int) {r:UInt32}
  (h:F.BC a0 a1=some r) :Calls Tryz.prog 195 #[v32 a0,vI a1] a (Ret fun v w=>v=v32 r∧St [] a w []):=by
 refine aH 17 Tryz.func195 Z Z Z ?_
 have b:=St.l a
 refine au [(0,v32 a0),(1,vI a1)] ⟨Z,Z,V⟩ ?_
 unfold F.BC at h
 refine J (H (P 1 Z ?_))
 refine I (O (J (H (P 1 Z ?_))))
 refine am (aM Z (eE Tryz.underlying3 u112 a1)) Z (am (aq Z Z (iS _ (UInt64.ofInt a1) 31)) Z (P 1 Z ?_))
 refine I (O (J (H (P 2 Z ?_))))
 refine am (aq Z Z (iC _ a0 ((UInt64.ofInt a1) &&& 31))) Z (P 2 Z ?_)
 refine am (aq Z Z (ek _ 32 ((UInt64.ofInt a1) &&& 31))) Z (am (aq Z Z (dc _ a0 (32 - ((UInt64.ofInt a1) &&& 31)))) Z (am (aq Z Z (ff _ (cf a0 (((UInt64.ofInt a1) &&& 31).toNat)) (bA a0 ((32 - ((UInt64.ofInt a1) &&& 31)).toNat)))) Z (P 1 Z ?_)))
 refine I (O (ax ?_))
 cases h
 exact aG Z Z ⟨Z,b⟩
theorem bN {a:World} (a0:UInt64) (a1:Int) {r:UInt64}
  (h:F.BD a0 a1=some r) :Calls Tryz.prog 196 #[v64 a0,vI a1] a (Ret fun v w=>v=v64 r∧St [] a w []):=by
 refine aH 17 Tryz.func196 Z Z Z ?_
 have b:=St.l a
 refine au [(0,v64 a0),(1,vI a1)] ⟨Z,Z,V⟩ ?_
 unfold F.BD at h
 refine J (H (P 1 Z ?_))
 refine I (O (J (H (P 1 Z ?_))))
 refine am (aM Z (eE Tryz.underlying3 u112 a1)) Z (am (aq Z Z (iS _ (UInt64.ofInt a1) 63)) Z (P 1 Z ?_))
 refine I (O (J (H (P 2 Z ?_))))
 refine am (aq Z Z (c6 _ a0 ((UInt64.ofInt a1) &&& 63))) Z (P 2 Z ?_)
 refine am (aq Z Z (ek _ 64 ((UInt64.ofInt a1) &&& 63))) Z (am (aq Z Z (cl _ a0 (64 - ((UInt64.ofInt a1) &&& 63)))) Z (am (aq Z Z (eG _ (bm a0 (((UInt64.ofInt a1) &&& 63).toNat)) (aP a0 ((64 - ((UInt64.ofInt a1) &&& 63)).toNat)))) Z (P 1 Z ?_)))
 refine I (O (ax ?_))
 cases h
 exact aG Z Z ⟨Z,b⟩
end Go.Proofs
