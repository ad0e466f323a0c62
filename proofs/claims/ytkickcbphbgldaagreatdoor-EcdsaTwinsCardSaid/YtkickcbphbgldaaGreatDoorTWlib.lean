import Derived.Test.YtkickcbphbgldaaGreatDoorTW0
import Derived.Test.YtkickcbphbgldaaGreatDoorGkFman
set_option linter.unusedVariables false
set_option linter.unusedSimpArgs false
set_option linter.unusedSectionVars false
set_option maxRecDepth 4000
namespace Go.Proofs
open Go Go.RowKit Go.Gk
open Go.Gk renaming aa → P, ae → O, af → H, ah → J, ai → I
theorem mo {e:World} (a0 a1 a2:UInt32) {r:UInt32×UInt32}
  (h:F.EY a0 a1 a2=some r) :Calls Tryz.prog 126 #[v32 a0,v32 a1,v32 a2] e (Ret fun v w=>v=.tuple #[v32 r.1,v32 r.2]∧St [] e w []):=by
 refine aF 33 Tryz.func126 Z Z Z ?_
 have a:=St.l e
 refine au [(0,v32 a0),(1,v32 a1),(2,v32 a2)] ⟨Z,Z,Z,V⟩ ?_
 unfold F.EY at h
 refine J (H (P 2 Z ?_))
 refine I (O (J ?_))
 refine a8 (r:=r) (fun (g:Bool) L w=>L=[(0,v32 a0),(1,v32 a1),(2,v32 a2),(15,vB g)]∧St [] e w []) (F.EG a0 a1 a2) ?_ ?_
 rotate_left
 ·intro f
  refine H (P 1 Z ?_)
  refine am (aq Z Z (lS _ a2 0)) Z (P 1 Z ?_)
  cases b:(a2 != 0)
  case true=>
   have h:=aI h b
   try simp only [b]
   refine P 2 Z ?_
   refine bl (t:=11) Z Z (aq Z Z (yW _ a2 a0)) Z (P 1 Z ?_)
   refine I (O ?_)
   exact au _ (by exact ⟨Z,Z,Z,Z,V⟩) (f (decide (a2≤a0)) _ _ ⟨Z,a⟩ h)
  case false=>
   have h:=aJ h b
   try simp only [b]
   refine P 4 Z ?_
   refine I (O ?_)
   exact au _ (by exact ⟨Z,Z,Z,Z,V⟩) (f false _ _ ⟨Z,a⟩ h)
 rintro q L w hJ h
 try dsimp only at hJ
 obtain ⟨rfl,a⟩:=hJ
 unfold F.EG at h
 refine aw Z (fun d=>?_) (fun d=>?_)
 ·have h:=aI h d
  cases h
 have h:=aJ h d
 refine az (O (J (H (P 1 Z ?_))))
 refine am (aM Z (bo u38 u87 a0)) Z (am (aq Z Z (cW _ a0.toUInt64 32)) Z (P 1 Z ?_))
 refine am (aM Z (bo u38 u87 a1)) Z (am (aq Z Z (ew _ (bm a0.toUInt64 32) a1.toUInt64)) Z ?_)
 obtain ⟨c,i,h⟩:=aO h
 refine am (aB (v:=v64 c) (by rw [←i]; rfl)) Z ?_
 refine I (O (J ?_))
 refine aY (fun w'=>St [] e w' []) (fun _=>true) bQ (fun _ _ _ j=>j.2) (fun _ _ j=>j) (by kernel_rfl) ?_
 have a:=a.drew
 show lxE _ _ _ _ _ _ _ [0,1,2,3,4,5,6,7,8,9,10,11] _ _
 refine al a Z Z (fun w hF=>ar Z) Z (al a Z Z (fun w hF=>ar Z) Z (al a Z Z (fun w hF=>aM Z (bo u38 u87 a2)) Z ?_))
 obtain ⟨k,h⟩:=bZ h
 refine al a Z Z (fun w hF=>aq Z Z (gL _ c a2.toUInt64 k)) Z (al a Z Z (fun w hF=>aM Z (bN u87 u38 (c / a2.toUInt64))) Z (al a Z Z (fun w hF=>ar Z) Z (al a Z Z (fun w hF=>ar Z) Z (al a Z Z (fun w hF=>aM Z (bo u38 u87 a2)) Z ?_))))
 obtain ⟨l,h⟩:=bZ h
 refine al a Z Z (fun w hF=>aq Z Z (eF _ c a2.toUInt64 l)) Z (al a Z Z (fun w hF=>aM Z (bN u87 u38 (c%a2.toUInt64))) Z ?_)
 obtain ⟨o,m,h⟩:=aO h
 refine al a Z Z (fun w hF=>aB (v:=v32 o) (by rw [←m]; rfl)) Z ?_
 obtain ⟨p,n,h⟩:=aO h
 refine al a Z Z (fun w hF=>aB (v:=v32 p) (by rw [←n]; rfl)) Z ?_
 refine bk a ?_
 refine O (ax ?_)
 cases h
 exact bR Z Z Z ⟨Z,a⟩
theorem iu {e:World} (a0:UInt32) {r:Int}
  (h:F.DF a0=some r) :Calls Tryz.prog 64 #[v32 a0] e (Ret fun v w=>v=vI r∧St [] e w []):=by
 refine aF 19 Tryz.func64 Z Z Z ?_
 have a:=St.l e
 refine au [(0,v32 a0)] ⟨Z,V⟩ ?_
 unfold F.DF at h
 refine J (H (P 1 Z ?_))
 refine I (O ?_)
 refine a8 (r:=r) (fun (g:UInt32×Int) L w=>L=[(0,v32 g.1),(2,vI g.2)]∧St [] e w []) (F.En) ?_ ?_
 rotate_left
 ·intro f
  refine J (H (P 1 Z ?_))
  refine am (aq Z Z (sN _ a0 65536)) Z (I (O ?_))
  refine aw Z (fun b=>?_) (fun b=>?_)
  ·have h:=aI h b
   refine J (H (P 1 Z ?_))
   refine am (aq Z Z (de _ a0 16)) Z (P 1 Z ?_)
   refine I (O (H (P 1 Z ?_)))
   refine I (O ?_)
   exact au _ (by exact ⟨Z,Z,V⟩) (f (bz a0 16,16) _ _ ⟨Z,a⟩ h)
  have h:=aJ h b
  refine az (O ?_)
  exact au _ (by exact ⟨Z,Z,V⟩) (f (a0,0) _ _ ⟨Z,a⟩ h)
 rintro ⟨d,k⟩ L w hJ h
 try dsimp only at hJ
 obtain ⟨rfl,a⟩:=hJ
 unfold F.En at h
 refine a8 (r:=r) (fun (g:UInt32×Int) L w=>L=[(0,v32 g.1),(2,vI g.2)]∧St [] e w []) (F.DW) ?_ ?_
 rotate_left
 ·intro i
  refine J (H (P 1 Z ?_))
  refine am (aq Z Z (sN _ d 256)) Z (I (O ?_))
  refine aw Z (fun c=>?_) (fun c=>?_)
  ·have h:=aI h c
   refine J (H (P 1 Z ?_))
   refine am (aq Z Z (de _ d 8)) Z (P 1 Z ?_)
   refine I (O (H (P 3 Z ?_)))
   refine I (O ?_)
   exact au _ (by exact ⟨Z,Z,V⟩) (i (bz d 8,wI (k+8)) _ _ ⟨Z,a⟩ h)
  have h:=aJ h c
  refine az (O ?_)
  exact au _ (by exact ⟨Z,Z,V⟩) (i (d,k) _ _ ⟨Z,a⟩ h)
 rintro ⟨n,p⟩ L w hJ h
 try dsimp only at hJ
 obtain ⟨rfl,a⟩:=hJ
 unfold F.DW at h
 refine J (H (P 2 Z ?_))
 refine am (aM Z (gw u38 Tryz.underlying5 n)) Z ?_
 obtain ⟨o,l,h⟩:=aj h
 refine am (ku Tryz.underlying9 Z Z l) Z (am (aM Z (nu Tryz.underlying5 Tryz.underlying3 o)) Z (P 1 Z ?_))
 obtain ⟨m,j,h⟩:=aO h
 refine am (aB (v:=vI m) (by rw [←j]; rfl)) Z ?_
 refine I (O (ax ?_))
 cases h
 exact aG Z Z ⟨Z,a⟩
theorem iq {a:World} (a0:UInt32) {r:Int}
  (h:F.EE a0=some r) :Calls Tryz.prog 127 #[v32 a0] a (Ret fun v w=>v=vI r∧St [] a w []):=by
 refine aF 6 Tryz.func127 Z Z Z ?_
 have b:=St.l a
 refine au [(0,v32 a0)] ⟨Z,V⟩ ?_
 unfold F.EE at h
 refine J (H (P 1 Z ?_))
 refine I (O (J (H (P 1 Z ?_))))
 obtain ⟨e,c,h⟩:=aj h
 refine ao Z (iu a0 c ) Z ?_
 rintro _ w ⟨rfl,d⟩
 have b:=b.f d
 refine P 2 Z ?_
 refine I (O (ax ?_))
 cases h
 exact aG Z Z ⟨Z,b⟩
theorem ms {a:World} (a0 a1 a2:UInt32) {r:UInt32×UInt32}
  (h:F.FF a0 a1 a2=some r) :Calls Tryz.prog 121 #[v32 a0,v32 a1,v32 a2] a (Ret fun v w=>v=.tuple #[v32 r.1,v32 r.2]∧St [] a w []):=by
 refine aF 25 Tryz.func121 Z Z Z ?_
 have d:=St.l a
 refine au [(0,v32 a0),(1,v32 a1),(2,v32 a2)] ⟨Z,Z,Z,V⟩ ?_
 unfold F.FF at h
 refine J (H (P 2 Z ?_))
 refine I (O (J (H (P 2 Z ?_))))
 refine am (aq Z Z (tx _ a0 a1)) Z (P 1 Z ?_)
 refine am (aq Z Z (tx _ (a0 - a1) a2)) Z (P 1 Z ?_)
 refine I (O (J (H (P 1 Z ?_))))
 refine am (gV Z (sK a0)) Z (P 1 Z ?_)
 refine am (aq Z Z (iP _ (~~~ a0) a1)) Z (P 2 Z ?_)
 refine am (aq Z Z (eD _ a0 a1)) Z (am (gV Z (sK (a0 ^^^ a1))) Z (P 1 Z ?_))
 refine am (aq Z Z (iP _ (~~~ (a0 ^^^ a1)) ((a0 - a1) - a2))) Z (am (aq Z Z (fj _ ((~~~ a0) &&& a1) ((~~~ (a0 ^^^ a1)) &&& ((a0 - a1) - a2)))) Z (am (aq Z Z (de _ (((~~~ a0) &&& a1) ||| ((~~~ (a0 ^^^ a1)) &&& ((a0 - a1) - a2))) 31)) Z ?_))
 obtain ⟨c,b,h⟩:=aO h
 refine am (aB (v:=v32 c) (by rw [←b]; rfl)) Z ?_
 refine I (O (ax ?_))
 cases h
 exact bR Z Z Z ⟨Z,d⟩
theorem bM {a:World} (a0:UInt32) (a1:Int) {r:UInt32}
  (h:F.By a0 a1=some r) :Calls Tryz.prog 195 #[v32 a0,vI a1] a (Ret fun v w=>v=v32 r∧St [] a w []):=by
 refine aF 17 Tryz.func195 Z Z Z ?_
 have b:=St.l a
 refine au [(0,v32 a0),(1,vI a1)] ⟨Z,Z,V⟩ ?_
 unfold F.By at h
 refine J (H (P 1 Z ?_))
 refine I (O (J (H (P 1 Z ?_))))
 refine am (aM Z (eG Tryz.underlying3 u112 a1)) Z (am (aq Z Z (iM _ (UInt64.ofInt a1) 31)) Z (P 1 Z ?_))
 refine I (O (J (H (P 2 Z ?_))))
 refine am (aq Z Z (iD _ a0 ((UInt64.ofInt a1) &&& 31))) Z (P 2 Z ?_)
 refine am (aq Z Z (ej _ 32 ((UInt64.ofInt a1) &&& 31))) Z (am (aq Z Z (de _ a0 (32 - ((UInt64.ofInt a1) &&& 31)))) Z (am (aq Z Z (fj _ (ce a0 (((UInt64.ofInt a1) &&& 31).toNat)) (bz a0 ((32 - ((UInt64.ofInt a1) &&& 31)).toNat)))) Z (P 1 Z ?_)))
 refine I (O (ax ?_))
 cases h
 exact aG Z Z ⟨Z,b⟩
theorem bL {a:World} (a0:UInt64) (a1:Int) {r:UInt64}
  (h:F.Bw a0 a1=some r) :Calls Tryz.prog 196 #[v64 a0,vI a1] a (Ret fun v w=>v=v64 r∧St [] a w []):=by
 refine aF 17 Tryz.func196 Z Z Z ?_
 have b:=St.l a
 refine au [(0,v64 a0),(1,vI a1)] ⟨Z,Z,V⟩ ?_
 unfold F.Bw at h
 refine J (H (P 1 Z ?_))
 refine I (O (J (H (P 1 Z ?_))))
 refine am (aM Z (eG Tryz.underlying3 u112 a1)) Z (am (aq Z Z (iM _ (UInt64.ofInt a1) 63)) Z (P 1 Z ?_))
 refine I (O (J (H (P 2 Z ?_))))
 refine am (aq Z Z (cW _ a0 ((UInt64.ofInt a1) &&& 63))) Z (P 2 Z ?_)
 refine am (aq Z Z (ej _ 64 ((UInt64.ofInt a1) &&& 63))) Z (am (aq Z Z (cj _ a0 (64 - ((UInt64.ofInt a1) &&& 63)))) Z (am (aq Z Z (ew _ (bm a0 (((UInt64.ofInt a1) &&& 63).toNat)) (aP a0 ((64 - ((UInt64.ofInt a1) &&& 63)).toNat)))) Z (P 1 Z ?_)))
 refine I (O (ax ?_))
 cases h
 exact aG Z Z ⟨Z,b⟩
end Go.Proofs
