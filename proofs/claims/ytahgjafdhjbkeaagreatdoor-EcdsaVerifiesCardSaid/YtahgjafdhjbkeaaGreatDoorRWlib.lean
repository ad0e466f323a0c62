import Derived.Test.YtahgjafdhjbkeaaGreatDoorRW0
import Derived.Test.YtahgjafdhjbkeaaGreatDoorGkFman
set_option linter.unusedVariables false
set_option linter.unusedSimpArgs false
set_option linter.unusedSectionVars false
set_option maxRecDepth 4000
namespace Go.Proofs
open Go Go.RowKit Go.Gk
open Go.Gk renaming aa → V, af → J, ag → N, gl3 → Q, gl4 → R, vB → K, vI → H
theorem js {c:World} (a0:UInt32) {r:Int}
  (h:F.G1 a0=some r) :Calls Tryz.prog 111 #[v32 a0] c (Ret fun v w=>v=H r∧St [] c w []):=by
 refine aB 19 Tryz.func111 Z Z Z<|have a:=St.k c;ax [(0,v32 a0)] Z ?_
 unfold F.G1 at h
 refine R<|V 1 Z<|Q ?_
 refine aZ (r:=r) (fun (g:UInt32×Int) L w=>L=[(0,v32 g.1),(2,H g.2)]∧St [] c w []) (F.Gw) ?_ ?_
 rotate_left
 ·intro d
  refine R<|V 1 Z<|N (aj Z Z (uQ _ a0 65536)) Z<|Q ?_
  refine gl9 Z h (fun h=>?_) (fun h=>?_)
  ·exact R<|V 1 Z<|N (aj Z Z (cL _ a0 16)) Z<|V 1 Z<|Q<|al<|V 1 Z<|Q<|aH (d (bu a0 16,16) _ _ ⟨Z,a⟩ h) Z
  exact gl5<|aH (d (a0,0) _ _ ⟨Z,a⟩ h) Z
 rintro ⟨b,j⟩ L w e h
 try dsimp only at e
 obtain ⟨rfl,a⟩:=e
 unfold F.Gw at h
 refine aZ (r:=r) (fun (g:UInt32×Int) L w=>L=[(0,v32 g.1),(2,H g.2)]∧St [] c w []) (F.Gv) ?_ ?_
 rotate_left
 ·intro f
  refine R<|V 1 Z<|N (aj Z Z (uQ _ b 256)) Z<|Q ?_
  refine gl9 Z h (fun h=>?_) (fun h=>?_)
  ·exact R<|V 1 Z<|N (aj Z Z (cL _ b 8)) Z<|V 1 Z<|Q<|al<|V 3 Z<|Q<|aH (f (bu b 8,wI (j+8)) _ _ ⟨Z,a⟩ h) Z
  exact gl5<|aH (f (b,j) _ _ ⟨Z,a⟩ h) Z
 rintro ⟨m,o⟩ L w e h
 try dsimp only at e
 obtain ⟨rfl,a⟩:=e
 unfold F.Gv at h
 refine R<|V 2 Z<|N (aD Z (fG u38 Tryz.underlying5 m)) Z<|J h fun n k h=>N (kw Tryz.underlying9 Z Z k) Z<|N (aD Z (pL Tryz.underlying5 u3 n)) Z<|V 1 Z<|a7 h fun l i h=>N (a9 (v:=H l) (by rw [←i]; rfl)) Z<|Q<|az ?_
 cases h
 exact ay Z Z ⟨Z,a⟩
theorem oh {e:World} (a0 a1 a2:UInt32) {r:UInt32×UInt32}
  (h:F.Ib a0 a1 a2=some r) :Calls Tryz.prog 158 #[v32 a0,v32 a1,v32 a2] e (Ret fun v w=>v=.tuple #[v32 r.1,v32 r.2]∧St [] e w []):=by
 refine aB 33 Tryz.func158 Z Z Z<|have a:=St.k e;ax [(0,v32 a0),(1,v32 a1),(2,v32 a2)] Z ?_
 unfold F.Ib at h
 refine R<|V 2 Z<|gl1 ?_
 refine aZ (r:=r) (fun (g:Bool) L w=>L=[(0,v32 a0),(1,v32 a1),(2,v32 a2),(15,K g)]∧St [] e w []) (F.Hl a0 a1 a2) ?_ ?_
 rotate_left
 ·intro f
  refine al<|V 1 Z<|N (aj Z Z (nO _ a2 0)) Z<|V 1 Z ?_
  cases b:(a2 != 0)
  case true=>
   have h:=cH h b
   try simp only [b]
   exact V 2 Z<|bE (t:=11) Z Z (aj Z Z (AJ _ a2 a0)) Z<|V 1 Z<|Q<|aH (f (decide (a2≤a0)) _ _ ⟨Z,a⟩ h) Z
  case false=>
   have h:=cI h b
   try simp only [b]
   exact V 4 Z<|Q<|aH (f false _ _ ⟨Z,a⟩ h) Z
 rintro s L w o h
 try dsimp only at o
 obtain ⟨rfl,a⟩:=o
 unfold F.Hl at h
 refine gl9 Z h (fun h=>?_) (fun h=>?_)
 ·cases h
 refine gl6<|V 1 Z<|N (aD Z (bD u38 u119 a0)) Z<|N (aj Z Z (dr _ a0.toUInt64 32)) Z<|V 1 Z<|N (aD Z (bD u38 u119 a1)) Z<|N (aj Z Z (eX _ (bB a0.toUInt64 32) a1.toUInt64)) Z<|a7 h fun c i h=>N (a9 (v:=v64 c) (by rw [←i]; rfl)) Z<|gl1<|aX (fun w'=>St [] e w' []) (fun _=>true) bR (fun _ _ _ j=>j.2) (fun _ _ j=>j) (by kernel_rfl)<|have a:=a.drew;show lxE _ _ _ _ _ _ _ [0,1,2,3,4,5,6,7,8,9,10,11] _ _ from an 2 Z a<|ai a Z Z (fun w d=>aD Z (bD u38 u119 a2)) Z<|da h fun k h=>ai a Z Z (fun w d=>aj Z Z (iL _ c a2.toUInt64 k)) Z<|ai a Z Z (fun w d=>aD Z (ca u119 u38 (c / a2.toUInt64))) Z<|an 2 Z a<|ai a Z Z (fun w d=>aD Z (bD u38 u119 a2)) Z<|da h fun l h=>ai a Z Z (fun w d=>aj Z Z (fx _ c a2.toUInt64 l)) Z<|ai a Z Z (fun w d=>aD Z (ca u119 u38 (c%a2.toUInt64))) Z<|a7 h fun p m h=>ai a Z Z (fun w d=>a9 (v:=v32 p) (by rw [←m]; rfl)) Z<|a7 h fun q n h=>ai a Z Z (fun w d=>a9 (v:=v32 q) (by rw [←n]; rfl)) Z<|bn a<|ak ?_
 refine az ?_
 cases h
 exact cf Z Z Z ⟨Z,a⟩
theorem ji {a:World} (a0:UInt32) {r:Int}
  (h:F.HL a0=some r) :Calls Tryz.prog 159 #[v32 a0] a (Ret fun v w=>v=H r∧St [] a w []):=by
 refine aB 6 Tryz.func159 Z Z Z<|have b:=St.k a;ax [(0,v32 a0)] Z ?_
 unfold F.HL at h
 refine R<|V 1 Z<|gl2<|V 1 Z<|J h fun d c h=>bc b Z (js a0 c ) Z fun w b=>V 2 Z<|Q<|az ?_
 cases h
 exact ay Z Z ⟨Z,b⟩
theorem od {a:World} (a0 a1 a2:UInt32) {r:UInt32×UInt32}
  (h:F.IU a0 a1 a2=some r) :Calls Tryz.prog 171 #[v32 a0,v32 a1,v32 a2] a (Ret fun v w=>v=.tuple #[v32 r.1,v32 r.2]∧St [] a w []):=by
 refine aB 25 Tryz.func171 Z Z Z<|have d:=St.k a;ax [(0,v32 a0),(1,v32 a1),(2,v32 a2)] Z ?_
 unfold F.IU at h
 refine R<|V 2 Z<|gl2<|V 2 Z<|N (aj Z Z (ve _ a0 a1)) Z<|V 1 Z<|N (aj Z Z (ve _ (a0 - a1) a2)) Z<|V 1 Z<|gl2<|V 1 Z<|N (i9 Z (pU a0)) Z<|V 1 Z<|N (aj Z Z (eB _ (~~~ a0) a1)) Z<|V 2 Z<|N (aj Z Z (dq _ a0 a1)) Z<|N (i9 Z (pU (a0 ^^^ a1))) Z<|V 1 Z<|N (aj Z Z (eB _ (~~~ (a0 ^^^ a1)) ((a0 - a1) - a2))) Z<|N (aj Z Z (eo _ ((~~~ a0) &&& a1) ((~~~ (a0 ^^^ a1)) &&& ((a0 - a1) - a2)))) Z<|N (aj Z Z (cL _ (((~~~ a0) &&& a1) ||| ((~~~ (a0 ^^^ a1)) &&& ((a0 - a1) - a2))) 31)) Z<|a7 h fun c b h=>N (a9 (v:=v32 c) (by rw [←b]; rfl)) Z<|Q<|az ?_
 cases h
 exact cf Z Z Z ⟨Z,d⟩
theorem ch {a:World} (a0:UInt32) (a1:Int) {r:UInt32}
  (h:F.C1 a0 a1=some r) :Calls Tryz.prog 181 #[v32 a0,H a1] a (Ret fun v w=>v=v32 r∧St [] a w []):=by
 refine aB 17 Tryz.func181 Z Z Z<|have b:=St.k a;ax [(0,v32 a0),(1,H a1)] Z ?_
 unfold F.C1 at h
 refine R<|V 1 Z<|gl2<|V 1 Z<|N (aD Z (dy u3 u87 a1)) Z<|N (aj Z Z (ej _ (UInt64.ofInt a1) 31)) Z<|V 1 Z<|gl2<|V 2 Z<|N (aj Z Z (d9 _ a0 ((UInt64.ofInt a1) &&& 31))) Z<|V 2 Z<|N (aj Z Z (eA _ 32 ((UInt64.ofInt a1) &&& 31))) Z<|N (aj Z Z (cL _ a0 (32 - ((UInt64.ofInt a1) &&& 31)))) Z<|N (aj Z Z (eo _ (bN a0 (((UInt64.ofInt a1) &&& 31).toNat)) (bu a0 ((32 - ((UInt64.ofInt a1) &&& 31)).toNat)))) Z<|V 1 Z<|Q<|az ?_
 cases h
 exact ay Z Z ⟨Z,b⟩
theorem ci {a:World} (a0:UInt64) (a1:Int) {r:UInt64}
  (h:F.C4 a0 a1=some r) :Calls Tryz.prog 182 #[v64 a0,H a1] a (Ret fun v w=>v=v64 r∧St [] a w []):=by
 refine aB 17 Tryz.func182 Z Z Z<|have b:=St.k a;ax [(0,v64 a0),(1,H a1)] Z ?_
 unfold F.C4 at h
 refine R<|V 1 Z<|gl2<|V 1 Z<|N (aD Z (dy u3 u87 a1)) Z<|N (aj Z Z (ej _ (UInt64.ofInt a1) 63)) Z<|V 1 Z<|gl2<|V 2 Z<|N (aj Z Z (dr _ a0 ((UInt64.ofInt a1) &&& 63))) Z<|V 2 Z<|N (aj Z Z (eA _ 64 ((UInt64.ofInt a1) &&& 63))) Z<|N (aj Z Z (cc _ a0 (64 - ((UInt64.ofInt a1) &&& 63)))) Z<|N (aj Z Z (eX _ (bB a0 (((UInt64.ofInt a1) &&& 63).toNat)) (aM a0 ((64 - ((UInt64.ofInt a1) &&& 63)).toNat)))) Z<|V 1 Z<|Q<|az ?_
 cases h
 exact ay Z Z ⟨Z,b⟩
end Go.Proofs
