import Derived.Test.YtkickcbphbgldaaGreatDoorTW0
import Derived.Test.YtkickcbphbgldaaGreatDoorGkFman
import Derived.Test.YtkickcbphbgldaaGreatDoorTWbignumb
set_option linter.unusedVariables false
set_option linter.unusedSimpArgs false
set_option linter.unusedSectionVars false
set_option maxRecDepth 4000
namespace Go.Proofs
open Go Go.RowKit Go.Gk
open Go.Gk renaming Off → I, Rds → P, aa → Q, ae → N, af → H, ah → M, ai → J, e32 → U, own → O, pB → K
open Nat renaming le_of_ble_eq_true → R
open Go.Gk.OE renaming bx → X
open Go.Gk.Off renaming cons → W
open Go.Gk.Rds renaming cons → Y
theorem jc {d:World} {e m n:List UInt32} {a j k:Value} {b o p:Nat} {S:List Nat} (c f g:Bool) {r:Bool×List UInt32}
  (h:F.EL c e f m g n=some r) (i:St S d d [X b [vB c,a],O U a e]) (s:RP S d U j m) (hBa1:RB S d o [vB f,j]) (t:RP S d U k n) (hBa2:RB S d p [vB g,k]):Calls Tryz.prog 75 #[K b 0,K o 0,K p 0] d (Ret fun v w=>∃q:Value,v=K b 0∧St S d w [X b [vB r.1,q],O U q r.2]):=by
 refine aN 13 Tryz.func75 Z Z Z ?_
 refine ar [(0,K b 0),(1,K o 0),(2,K p 0)] ⟨Z,Z,Z,V⟩ ?_
 unfold F.EL at h
 refine M (H (Q 1 Z ?_))
 refine J (N (M (H (aU (bg (cs:=[vB false,.slice none 0 0]) cW Z i) Z ?_))))
 rintro _ w ⟨x,rfl,i⟩
 refine Q 3 Z ?_
 replace i:=i.nil U
 have l:=i.pick (os':=[X x [vB false,.slice none 0 0],O U (.slice none 0 0) [],X b [vB c,a],O U a e]++[]) [1,0,2,3] (by decide) Z
 obtain ⟨A,u,h⟩:=aj h
 refine ao Z (kV false f g c u l.g (s.g (R Z) l) (hBa1.g l) (t.g (R Z) l) (hBa2.g l)) Z ?_
 rintro _ w ⟨B,y,rfl,z⟩
 have i:=l.h z
 refine J (N (M (H (Q 2 Z ?_))))
 refine J (N (ay ?_))
 cases h
 exact aM Z Z ⟨y,Z,i.e [2,3] Z Z⟩
theorem kF {i:World} {d j:List UInt32} {b g:Value} {a k:Nat} {S:List Nat} (c e:Bool) {r:Bool×List UInt32}
  (h:F.EU c d e j=some r) (f:St S i i [X a [vB c,b],O U b d]) (m:RP S i U g j) (hBa2:RB S i k [vB e,g]):Calls Tryz.prog 75 #[K a 0,K a 0,K k 0] i (Ret fun v w=>∃l:Value,v=K a 0∧St S i w [X a [vB r.1,l],O U l r.2]):=by
 refine aN 13 Tryz.func75 Z Z Z ?_
 refine ar [(0,K a 0),(1,K a 0),(2,K k 0)] ⟨Z,Z,Z,V⟩ ?_
 unfold F.EU at h
 refine M (H (Q 1 Z ?_))
 refine J (N (M (H (aU (bg (cs:=[vB false,.slice none 0 0]) cW Z f) Z ?_))))
 rintro _ w ⟨p,rfl,f⟩
 refine Q 3 Z ?_
 replace f:=f.nil U
 have n:=f.pick (os':=[X p [vB false,.slice none 0 0],O U (.slice none 0 0) [],X a [vB c,b],O U b d]++[]) [1,0,2,3] (by decide) Z
 obtain ⟨t,o,h⟩:=aj h
 refine ao Z (jr false e c o n.g (m.g (R Z) n) (hBa2.g n)) Z ?_
 rintro _ w ⟨u,q,rfl,s⟩
 have f:=n.h s
 refine J (N (M (H (Q 2 Z ?_))))
 refine J (N (ay ?_))
 cases h
 exact aM Z Z ⟨q,Z,f.e [2,3] Z Z⟩
theorem eX {b:World} {n o:List UInt32} {l m:Value} {p q:Nat} (c d:Bool) {r:Int}
  (h:F.CA c n d o=some r) (s:RP [] b U l n) (hBa0:RB [] b p [vB c,l]) (t:RP [] b U m o) (hBa1:RB [] b q [vB d,m]):Calls Tryz.prog 141 #[K p 0,K q 0] b (Ret fun v w=>v=vI r∧St [] b w []):=by
 refine aN 35 Tryz.func141 Z Z Z ?_
 have a:=St.l b
 refine ar [(0,K p 0),(1,K q 0)] ⟨Z,Z,V⟩ ?_
 unfold F.CA at h
 refine M (H (Q 1 Z ?_))
 refine J (N (M (M ?_)))
 refine bb (fun w'=>St [] b w' []) (fun _=>true) bR (fun _ _ _ e=>e.2) (fun _ _ e=>e) (by kernel_rfl) ?_
 have a:=a.drew
 show lxE _ _ _ _ _ _ _ [0,1,2,3,4,5,6,7,8] _ _
 refine am a Z Z (fun w hF=>au Z) Z (am a Z Z (fun w hF=>aO Z) Z (am a Z Z (fun w hF=>ax (k:=0) u101 Z Z nz4 Z) Z (am a Z Z (fun w hF=>aH Tryz.underlying4 Z Z (hBa0.cell hF.fr 0 Z)) Z (am a Z Z (fun w hF=>au Z) Z (am a Z Z (fun w hF=>aO Z) Z (am a Z Z (fun w hF=>ax (k:=0) u101 Z Z nz4 Z) Z (am a Z Z (fun w hF=>aH Tryz.underlying4 Z Z (hBa1.cell hF.fr 0 Z)) Z (am a Z Z (fun w hF=>aq Z Z (k5 _ c d Tryz.underlying4 Z)) Z ?_))))))))
 refine bp a ?_
 refine N ?_
 refine av Z (fun f=>?_) (fun f=>?_)
 ·have h:=aJ h f
  refine M (M (H (Q 1 Z ?_)))
  refine al (aO Z) Z (al (ax (k:=0) u101 Z Z nz4 Z) Z (al (aH Tryz.underlying4 Z Z (hBa0.cell a.fr 0 Z)) Z (J (N ?_))))
  refine av Z (fun g=>?_) (fun g=>?_)
  ·have h:=aJ h g
   refine M (H (Q 1 Z ?_))
   refine J (N (ay (aG (aG ?_))))
   cases h
   exact aM Z Z ⟨Z,a⟩
  have h:=aI h g
  refine aw (N (M (H (Q 1 Z ?_))))
  refine J (N (ay (aG ?_)))
  cases h
  exact aM Z Z ⟨Z,a⟩
 have h:=aI h f
 refine aw (N (M ?_))
 refine bb (fun w'=>St [] b w' []) (fun i=>!([8].contains i)) bR (fun _ _ _ e=>e.2) (fun _ _ e=>e) (by kernel_rfl) ?_
 have a:=a.drew
 show lxE _ _ _ _ _ _ _ [0,1,2,3,4,5,6,7,8,9] _ _
 refine am a Z Z (fun w hF=>au Z) Z (am a Z Z (fun w hF=>aO Z) Z (am a Z Z (fun w hF=>ax (k:=1) u101 Z Z da Z) Z (am a Z Z (fun w hF=>aH u30 Z Z (hBa0.cell hF.fr 1 Z)) Z (am a Z Z (fun w hF=>au Z) Z (am a Z Z (fun w hF=>aO Z) Z (am a Z Z (fun w hF=>ax (k:=1) u101 Z Z da Z) Z (am a Z Z (fun w hF=>aH u30 Z Z (hBa1.cell hF.fr 1 Z)) Z ?_)))))))
 obtain ⟨x,u,h⟩:=aj h
 refine bk a Z Z (by kernel_rfl) Z (i4  u (s.d a.fr).rp (t.d a.fr).rp) Z ?_
 rintro _ w ⟨rfl,y⟩
 have a:=a.f y
 refine am a Z Z (fun w hF=>aD Z) Z (bp a ?_)
 refine N (M (M (H (Q 1 Z ?_))))
 refine al (aO Z) Z (al (ax (k:=0) u101 Z Z nz4 Z) Z (al (aH Tryz.underlying4 Z Z (hBa0.cell a.fr 0 Z)) Z (J (N ?_))))
 refine av Z (fun j=>?_) (fun j=>?_)
 ·have h:=aJ h j
  refine M (H (Q 1 Z ?_))
  refine al (ij Z (AU x)) Z (Q 1 Z ?_)
  refine J (N (ay (aG ?_)))
  cases h
  exact aM Z Z ⟨Z,a⟩
 have h:=aI h j
 refine aw (N (M (H (Q 2 Z ?_))))
 refine J (N (ay ?_))
 cases h
 exact aM Z Z ⟨Z,a⟩
theorem gE {b:World} {c:List UInt32} {a:Value} {d:Nat} (e:Bool) {r:Int}
  (h:F.Ef e c=some r) (g:RP [] b U a c) (hBa0:RB [] b d [vB e,a]):Calls Tryz.prog 87 #[K d 0] b (Ret fun v w=>v=vI r∧St [] b w []):=by
 refine aN 8 Tryz.func87 Z Z Z ?_
 have f:=St.l b
 refine ar [(0,K d 0)] ⟨Z,V⟩ ?_
 unfold F.Ef at h
 refine M (H (Q 1 Z ?_))
 refine J (N (M (H (Q 1 Z ?_))))
 refine al (aO Z) Z (al (ax (k:=1) u101 Z Z da Z) Z (al (aH u30 Z Z (hBa0.cell f.fr 1 Z)) Z ?_))
 obtain ⟨l,i,h⟩:=aj h
 refine ao Z (gl  i (g.d f.fr).rp) Z ?_
 rintro _ w ⟨rfl,j⟩
 have f:=f.f j
 refine Q 1 Z ?_
 refine J (N (ay ?_))
 cases h
 exact aM Z Z ⟨Z,f⟩
theorem lg {e:World} {a0:List UInt32} {d:Value} (a1:Int) {r:UInt64}
  (h:F.D8 a0 a1=some r) (f:RP [] e U d a0):Calls Tryz.prog 152 #[d,vI a1] e (Ret fun v w=>v=v64 r∧St [] e w []):=by
 refine aN 25 Tryz.func152 Z Z Z ?_
 have b:=St.l e
 refine ar [(0,d),(1,vI a1)] ⟨Z,Z,V⟩ ?_
 unfold F.D8 at h
 refine M (H (Q 1 Z ?_))
 refine J (N (M ?_))
 refine bf (r:=r) (fun (g:Bool) L w=>L=[(0,d),(1,vI a1),(13,vB g)]∧St [] e w []) (F.E1 a0 a1) ?_ ?_
 rotate_left
 ·intro i
  refine H (Q 3 Z ?_)
  cases a:(decide (a1<0))
  case true=>
   have h:=aJ h a
   try simp only [a]
   refine Q 6 Z ?_
   refine J (N ?_)
   exact ar _ (by exact ⟨Z,Z,Z,V⟩) (i true _ _ ⟨Z,b⟩ h)
  case false=>
   have h:=aI h a
   try simp only [a]
   refine Q 1 Z ?_
   refine aF (t:=7) Z Z (aq Z Z (dR _ a1 32 (by decide))) Z ?_
   refine Q 1 Z ?_
   refine aF (t:=7) Z Z (aL u30 Z (f.d b.fr)) Z (Q 2 Z ?_)
   refine J (N ?_)
   exact ar _ (by exact ⟨Z,Z,Z,V⟩) (i (decide ((a0.length:Int)≤(wI (Int.tdiv a1 32)))) _ _ ⟨Z,b⟩ h)
 rintro l L w hJ h
 try dsimp only at hJ
 obtain ⟨rfl,b⟩:=hJ
 unfold F.E1 at h
 refine av Z (fun c=>?_) (fun c=>?_)
 ·have h:=aJ h c
  refine M (H (Q 1 Z ?_))
  refine J (N (ay (aG ?_)))
  cases h
  exact aM Z Z ⟨Z,b⟩
 have h:=aI h c
 refine aw (N (M (H (Q 2 Z ?_))))
 refine al (aq Z Z (dR _ a1 32 (by decide))) Z ?_
 obtain ⟨j,k,h⟩:=aj h
 refine al (aW u30 aZ Z Z (f.d b.fr) k) Z (al (aR u38 Z Z (f.d b.fr) k Z) Z (Q 1 Z ?_))
 refine al (aK Z (eA Tryz.underlying3 u112 a1)) Z ?_
 refine al (aq Z Z (eM _ (UInt64.ofInt a1) 32 (by decide))) Z ?_
 refine al (aq Z Z (di _ j ((UInt64.ofInt a1)%32))) Z (al (aK Z (bu u38 u112 (bC j (((UInt64.ofInt a1)%32).toNat)))) Z (al (aq Z Z (i2 _ ((bC j (((UInt64.ofInt a1)%32).toNat)).toUInt64) 1)) Z (Q 1 Z ?_)))
 refine J (N (ay ?_))
 cases h
 exact aM Z Z ⟨Z,b⟩
theorem i8 {i:World} {j:List UInt32} {f:Value} {m:Nat} (n:Bool) (a1:Int) {r:UInt64}
  (h:F.DT n j a1=some r) (g:RP [] i U f j) (hBa0:RB [] i m [vB n,f]):Calls Tryz.prog 88 #[K m 0,vI a1] i (Ret fun v w=>v=v64 r∧St [] i w []):=by
 refine aN 27 Tryz.func88 Z Z Z ?_
 have a:=St.l i
 refine ar [(0,K m 0),(1,vI a1)] ⟨Z,Z,V⟩ ?_
 unfold F.DT at h
 refine M (H (Q 1 Z ?_))
 refine J (N (M (M (H (Q 2 Z ?_)))))
 refine J (N ?_)
 refine av Z (fun c=>?_) (fun c=>?_)
 ·have h:=aJ h c
  refine M (H (Q 1 Z ?_))
  refine J (N (ay (aG ?_)))
  cases h
  exact aM Z Z ⟨Z,a⟩
 have h:=aI h c
 refine aw (N (M (M (H (Q 1 Z ?_)))))
 refine al (aO Z) Z (al (ax (k:=0) u101 Z Z nz4 Z) Z (al (aH Tryz.underlying4 Z Z (hBa0.cell a.fr 0 Z)) Z (Q 1 Z ?_)))
 refine J (N ?_)
 refine av Z (fun d=>?_) (fun d=>?_)
 ·have h:=aJ h d
  refine M (H (Q 1 Z ?_))
  refine al (aO Z) Z (al (ax (k:=1) u101 Z Z da Z) Z (al (aH u30 Z Z (hBa0.cell a.fr 1 Z)) Z (Q 1 Z ?_)))
  obtain ⟨t,o,h⟩:=aj h
  refine ao Z (lg a1 o (g.d a.fr).rp) Z ?_
  rintro _ w ⟨rfl,b⟩
  have a:=a.f b
  refine Q 1 Z ?_
  refine J (N (ay (aG ?_)))
  cases h
  exact aM Z Z ⟨Z,a⟩
 have h:=aI h d
 refine aw (N (M (H (Q 1 Z ?_))))
 refine al (aO Z) Z (al (ax (k:=1) u101 Z Z da Z) Z (al (aH u30 Z Z (hBa0.cell a.fr 1 Z)) Z ?_))
 refine aU (ci (e:=U) (l:=([1]:List UInt32)) (vs:=[v32 1]) u30 aZ Z Z Z Z (by decide) (by decide) a) Z ?_
 rintro u w a
 obtain ⟨x,p,h⟩:=aj h
 refine ao Z (jk  p (g.d a.fr).rp (a.ro 0 Z).rp) Z ?_
 rintro y w b
 have a:=a.f b
 refine Q 1 Z ?_
 obtain ⟨s,q,h⟩:=aj h
 refine ao Z (lg a1 q (a.ro 0 Z).rp) Z ?_
 rintro _ w ⟨rfl,b⟩
 have a:=a.f b
 refine al (aq Z Z (eF _ s 1)) Z (Q 1 Z ?_)
 refine J (N (ay ?_))
 cases h
 exact aM Z Z ⟨Z,a.e [] Z Z⟩
theorem eb {g:World} {d i:List UInt32} {a f:Value} {b j:Nat} {S:List Nat} (c l:Bool) {r:Bool×List UInt32}
  (h:F.Cb c d l i=some r) (e:St S g g [X b [vB c,a],O U a d]) (o:RP S g U f i) (hBa1:RB S g j [vB l,f]):Calls Tryz.prog 172 #[K b 0,K j 0] g (Ret fun v w=>∃m:Value,v=K b 0∧St S g w [X b [vB r.1,m],O U m r.2]):=by
 refine aN 12 Tryz.func172 Z Z Z ?_
 refine ar [(0,K b 0),(1,K j 0)] ⟨Z,Z,V⟩ ?_
 unfold F.Cb at h
 refine M (H (Q 1 Z ?_))
 refine J (N (M (H (Q 2 Z ?_))))
 refine al (aO Z) Z (al (ax (k:=1) u101 Z Z da Z) Z (al (aH u30 Z Z (hBa1.cell e.fr 1 Z)) Z ?_))
 obtain ⟨s,p,h⟩:=aj h
 refine ao Z (iu  p (o.d e.fr).rp) Z ?_
 rintro t w n
 have e:=e.f n
 have u:=e.pick (os':=[X b [vB c,a],O U a d,O U t s]++[]) [1,2,0] (by decide) Z
 obtain ⟨y,q,h⟩:=aj h
 refine ao Z (bH c false q u.g ) Z ?_
 rintro _ w ⟨x,rfl,n⟩
 have e:=u.h n
 refine Q 1 Z ?_
 refine J (N (ay ?_))
 cases h
 exact aM Z Z ⟨x,Z,e.e [0,1] Z Z⟩
theorem kL {i:World} {d j:List UInt32} {b g:Value} {a k:Nat} {S:List Nat} (c e:Bool) {r:Bool×List UInt32}
  (h:F.Fc c d e j=some r) (f:St S i i [X a [vB c,b],O U b d]) (m:RP S i U g j) (hBa2:RB S i k [vB e,g]):Calls Tryz.prog 191 #[K a 0,K a 0,K k 0] i (Ret fun v w=>∃l:Value,v=K a 0∧St S i w [X a [vB r.1,l],O U l r.2]):=by
 refine aN 13 Tryz.func191 Z Z Z ?_
 refine ar [(0,K a 0),(1,K a 0),(2,K k 0)] ⟨Z,Z,Z,V⟩ ?_
 unfold F.Fc at h
 refine M (H (Q 1 Z ?_))
 refine J (N (M (H (Q 3 Z ?_))))
 refine aU (bg (cs:=[vB false,.slice none 0 0]) cW Z f) Z ?_
 rintro _ w ⟨p,rfl,f⟩
 replace f:=f.nil U
 have n:=f.pick (os':=[X a [vB c,b],O U b d,X p [vB false,.slice none 0 0],O U (.slice none 0 0) []]++[]) [2,3,1,0] (by decide) Z
 obtain ⟨t,o,h⟩:=aj h
 refine ao Z (jq c e false o n.g (m.g (R Z) n) (hBa2.g n)) Z ?_
 rintro _ w ⟨q,u,rfl,s⟩
 have f:=n.h s
 refine J (N (M (H (Q 2 Z ?_))))
 refine J (N (ay ?_))
 cases h
 exact aM Z Z ⟨q,Z,f.e [0,1] Z Z⟩
theorem mW {E:World} {p m B C:List UInt32} {c b z A:Value} {n l G T:Nat} {S:List Nat} (j f u y:Bool) {r:Bool×List UInt32×Bool×List UInt32}
  (h:F.FP j p f m u B y C=some r) (a:St S E E [X n [vB j,c],O U c p,X l [vB f,b],O U b m]) (b4:RP S E U z B) (hBa3:RB S E G [vB u,z]) (b5:RP S E U A C) (hBa4:RB S E T [vB y,A]):Calls Tryz.prog 173 #[K n 0,K l 0,.pointer none,K G 0,K T 0] E (Ret fun v w=>∃bP bQ:Value,v=K n 0∧St S E w [X n [vB r.1,bP],O U bP r.2.1,X l [vB r.2.2.1,bQ],O U bQ r.2.2.2]):=by
 refine aN 161 Tryz.func173 Z Z Z ?_
 have hZ:=Fz.l (S:=S) (w0:=E)
 have hTT:TOk S [] E:=TOk.nil
 have d:P S E [X T [vB y,A],red U A C,X G [vB u,z],red U z B]:=Y hBa4.i (Y (RP.i (R Z) b5) (Y hBa3.i (Y (RP.i (R Z) b4) (P.nil))))
 have q:I [] [X T [vB y,A],red U A C,X G [vB u,z],red U z B]:=I.emp
 refine ar [(0,K n 0),(1,K l 0),(2,.pointer none),(3,K G 0),(4,K T 0)] ⟨Z,Z,Z,Z,Z,V⟩ ?_
 unfold F.FP at h
 refine M (H (Q 1 Z ?_))
 refine J (N (M ?_))
 refine bf (r:=r) (fun (g:Bool) L w=>L=[(0,K n 0),(1,K l 0),(2,.pointer none),(3,K G 0),(4,K T 0),(35,vB g)]∧SfT S [] E w [X T [vB y,A],red U A C,X G [vB u,z],red U z B] [X n [vB j,c],O U c p,X l [vB f,b],O U b m]) (F.Fs j p u B y C f m) ?_ ?_
 rotate_left
 ·intro bS
  refine H (Q 1 Z ?_)
  refine al (aO Z) Z (al (ax (k:=1) u101 Z Z da Z) Z (al (aH u30 Z Z ((d.rb 1 Z).cell a.fr 1 Z)) Z (al (aL u30 Z ((d.rp 0 Z).d a.fr)) Z (Q 2 Z ?_))))
  cases aX:((B.length:Int) == 0)
  case true=>
   have h:=aJ h aX
   try simp only [aX]
   refine Q 7 Z ?_
   refine J (N ?_)
   exact ar _ (by exact ⟨Z,Z,Z,Z,Z,Z,V⟩) (bS true _ _ ⟨Z,(SfT.mk' hZ (Y (d.b 3 Z) (Y (d.b 2 Z) (Y (d.b 1 Z) (Y (d.b 0 Z) P.nil)))) (W (q.b 3 Z) (W (q.b 2 Z) (W (q.b 1 Z) (W (q.b 0 Z) I.nil)))) a)⟩ h)
  case false=>
   have h:=aI h aX
   try simp only [aX]
   refine Q 1 Z ?_
   refine aF (t:=28) Z Z (aO Z) Z (aF (t:=28) Z Z (ax (k:=1) u101 Z Z da Z) Z (aF (t:=28) Z Z (aH u30 Z Z ((d.rb 3 Z).cell a.fr 1 Z)) Z (aF (t:=28) Z Z (aL u30 Z ((d.rp 2 Z).d a.fr)) Z (Q 2 Z ?_))))
   refine J (N ?_)
   exact ar _ (by exact ⟨Z,Z,Z,Z,Z,Z,V⟩) (bS ((C.length:Int) == 0) _ _ ⟨Z,(SfT.mk' hZ (Y (d.b 3 Z) (Y (d.b 2 Z) (Y (d.b 1 Z) (Y (d.b 0 Z) P.nil)))) (W (q.b 3 Z) (W (q.b 2 Z) (W (q.b 1 Z) (W (q.b 0 Z) I.nil)))) a)⟩ h)
 rintro cJ L w hJ h
 try dsimp only at hJ
 obtain ⟨rfl,⟨ci,bT,hZ,d,q,a⟩⟩:=hJ
 unfold F.Fs at h
 refine av Z (fun aB=>?_) (fun aB=>?_)
 ·have h:=aJ h aB
  refine M ?_
  refine bb (fun w'=>St ci bT w' [X n [vB j,c],O U c p,X l [vB f,b],O U b m]) (fun _=>true) bR (fun _ _ _ hf=>hf.2) (fun _ _ hf=>hf) (by kernel_rfl) ?_
  have a:=a.drew
  show lxE _ _ _ _ _ _ _ [0,1,2,3,4,5,6,7,8,9,10,11] _ _
  refine am a Z Z (fun w hF=>au Z) Z (am a Z Z (fun w hF=>aO Z) Z (am a Z Z (fun w hF=>ax (k:=1) u101 Z Z da Z) Z (am a Z Z (fun w hF=>aH u30 Z Z ((d.rb 1 Z).cell hF.fr 1 Z)) Z (am a Z Z (fun w hF=>aL u30 Z ((d.rp 0 Z).d hF.fr)) Z (am a Z Z (fun w hF=>au Z) Z (am a Z Z (fun w hF=>aO Z) Z (am a Z Z (fun w hF=>ax (k:=1) u101 Z Z da Z) Z (am a Z Z (fun w hF=>aH u30 Z Z ((d.rb 3 Z).cell hF.fr 1 Z)) Z ?_))))))))
  refine am a Z Z (fun w hF=>aL u30 Z ((d.rp 2 Z).d hF.fr)) Z (am a Z Z (fun w hF=>aD Z) Z (am a Z Z (fun w hF=>aD Z) Z (bp a ?_)))
  refine N (M ?_)
  refine bb (fun w'=>St ci bT w' [X n [vB j,c],O U c p,X l [vB f,b],O U b m]) (fun _=>true) bR (fun _ _ _ hf=>hf.2) (fun _ _ hf=>hf) (by kernel_rfl) ?_
  have a:=a.drew
  show lxE _ _ _ _ _ _ _ [0,1,2,3,4,5,6,7,8,9] _ _
  refine am a Z Z (fun w hF=>au Z) Z (am a Z Z (fun w hF=>aO Z) Z (am a Z Z (fun w hF=>ax (k:=0) u101 Z Z nz4 Z) Z (am a Z Z (fun w hF=>aH Tryz.underlying4 Z Z ((d.rb 1 Z).cell hF.fr 0 Z)) Z (am a Z Z (fun w hF=>au Z) Z (am a Z Z (fun w hF=>aO Z) Z (am a Z Z (fun w hF=>ax (k:=0) u101 Z Z nz4 Z) Z (am a Z Z (fun w hF=>aH Tryz.underlying4 Z Z ((d.rb 3 Z).cell hF.fr 0 Z)) Z (am a Z Z (fun w hF=>aD Z) Z ?_))))))))
  refine am a Z Z (fun w hF=>aD Z) Z (bp a ?_)
  refine N ?_
  refine bf (r:=r) (fun (g:Bool×List UInt32) L w=>∃(D:Value),L=[(0,K n 0),(1,K l 0),(2,.pointer none),(11,vI (B.length:Int)),(12,vI (C.length:Int)),(13,vB u),(14,vB y)]∧SfT S [] E w [] [O U D g.2,X n [vB g.1,D],X l [vB f,b],O U b m]) (F.FK f m u B) ?_ ?_
  rotate_left
  ·intro bJ
   refine M (H (Q 2 Z ?_))
   refine J (N ?_)
   refine av Z (fun aZ=>?_) (fun aZ=>?_)
   ·have h:=aJ h aZ
    refine H (Q 2 Z ?_)
    have e:=a.pick (os':=[X n [vB j,c],O U c p]++[X l [vB f,b],O U b m]) [0,1,2,3] (by decide) Z
    obtain ⟨bU,b6,h⟩:=aj h
    refine ao Z (eb j y b6 e.g ((d.rp 2 Z).g (R Z) e) ((d.rb 3 Z).g e)) Z ?_
    rintro _ w ⟨cj,rfl,o⟩
    have a:=e.h o
    refine J (N ?_)
    exact ar _ (by exact ⟨Z,Z,Z,Z,Z,Z,Z,V⟩) (bJ (bU.1,bU.2) _ _ ⟨cj,Z,(SfT.mk' hZ P.nil I.nil (a.e [1,0,2,3] Z Z))⟩ h)
   have h:=aI h aZ
   refine H (Q 2 Z ?_)
   have e:=a.pick (os':=[X n [vB j,c],O U c p]++[X l [vB f,b],O U b m]) [0,1,2,3] (by decide) Z
   obtain ⟨bV,b7,h⟩:=aj h
   refine ao Z (eb j u b7 e.g ((d.rp 0 Z).g (R Z) e) ((d.rb 1 Z).g e)) Z ?_
   rintro _ w ⟨ck,rfl,o⟩
   have a:=e.h o
   refine J (N ?_)
   exact ar _ (by exact ⟨Z,Z,Z,Z,Z,Z,Z,V⟩) (bJ (bV.1,bV.2) _ _ ⟨ck,Z,(SfT.mk' hZ P.nil I.nil (a.e [1,0,2,3] Z Z))⟩ h)
  rintro ⟨a0,a1⟩ L w hJ h
  try dsimp only at hJ
  obtain ⟨D,rfl,⟨cz,cr,hZ,d,q,a⟩⟩:=hJ
  unfold F.FK at h
  refine bf (r:=r) (fun (g:Bool×List UInt32) L w=>∃(a2:Value),L=[(0,K n 0),(2,.pointer none),(11,vI (B.length:Int)),(12,vI (C.length:Int)),(14,vB y)]∧SfT S [] E w [] [X n [vB a0,D],O U D a1,O U a2 g.2,X l [vB g.1,a2]]) (F.FZ a0 a1) ?_ ?_
  rotate_left
  ·intro bK
   refine M (H (Q 1 Z ?_))
   refine al (aq Z Z (j5 u73 l 0)) Z (J (N (cn Z ?_)))
   refine M (H (Q 1 Z ?_))
   have e:=a.pick (os':=[X l [vB f,b],O U b m]++[O U D a1,X n [vB a0,D]]) [2,3,0,1] (by decide) Z
   obtain ⟨aE,b8,h⟩:=aj h
   refine ao Z (eJ f 0 b8 e.g ) Z ?_
   rintro _ w ⟨bt,rfl,o⟩
   have a:=e.h o
   refine J (N (M (H (Q 2 Z ?_))))
   refine J (N ?_)
   refine av Z (fun a3=>?_) (fun a3=>?_)
   ·have h:=aJ h a3
    refine M (H (Q 1 Z ?_))
    have e:=a.pick (os':=[X l [vB aE.1,bt],O U bt aE.2]++[O U D a1,X n [vB a0,D]]) [0,1,2,3] (by decide) Z
    obtain ⟨cl,b9,h⟩:=aj h
    refine ao Z (eJ aE.1 1 b9 e.g ) Z ?_
    rintro _ w ⟨cm,rfl,o⟩
    have a:=e.h o
    refine J (N (H (Q 2 Z ?_)))
    refine al (aO Z) Z (al (ax (k:=0) u101 Z Z nz4 Z) Z (bn (bA (i:=0) (us:=[vB u]) Z sz4 Z Z Z ⟨Z,V⟩ Z a) ?_))
    intro w a
    refine J (N ?_)
    exact ar _ (by exact ⟨Z,Z,Z,Z,Z,V⟩) (bK (u,cl.2) _ _ ⟨cm,Z,(SfT.mk' hZ P.nil I.nil (a.e [3,2,1,0] Z Z))⟩ h)
   have h:=aI h a3
   refine aw (N ?_)
   exact ar _ (by exact ⟨Z,Z,Z,Z,Z,V⟩) (bK (aE.1,aE.2) _ _ ⟨bt,Z,(SfT.mk' hZ P.nil I.nil (a.e [3,2,1,0] Z Z))⟩ h)
  rintro ⟨cA,cB⟩ L w hJ h
  try dsimp only at hJ
  obtain ⟨a2,rfl,⟨cC,ct,hZ,d,q,a⟩⟩:=hJ
  unfold F.FZ at h
  refine M (M (H (Q 1 Z ?_)))
  refine al (aq Z Z (lI u73)) Z (J (N (dV Z ?_)))
  refine aw (N (M (H (Q 2 Z ?_))))
  refine J (N (ay (aG ?_)))
  cases h
  replace a:=hZ.st a
  exact aM Z Z ⟨D,a2,Z,a.e [0,1,3,2] Z Z⟩
 have h:=aI h aB
 refine aw (N (M (H (aU (bg (cs:=[vB false,.slice none 0 0]) cW Z a) Z ?_))))
 rintro _ w ⟨aK,rfl,a⟩
 refine Q 1 Z ?_
 replace a:=a.nil U
 have e:=a.pick (os':=[X aK [vB false,.slice none 0 0],O U (.slice none 0 0) []]++[X n [vB j,c],O U c p,X l [vB f,b],O U b m]) [1,0,2,3,4,5] (by decide) Z
 obtain ⟨ad,ca,h⟩:=aj h
 refine ao Z (eb false u ca e.g ((d.rp 0 Z).g (R Z) e) ((d.rb 1 Z).g e)) Z ?_
 rintro _ w ⟨aQ,rfl,o⟩
 have a:=e.h o
 refine aU (bg (cs:=[vB false,.slice none 0 0]) cW Z a) Z ?_
 rintro _ w ⟨a4,rfl,a⟩
 refine Q 1 Z ?_
 replace a:=a.nil U
 have e:=a.pick (os':=[X a4 [vB false,.slice none 0 0],O U (.slice none 0 0) []]++[X aK [vB ad.1,aQ],O U aQ ad.2,X n [vB j,c],O U c p,X l [vB f,b],O U b m]) [1,0,2,3,4,5,6,7] (by decide) Z
 obtain ⟨a5,cb,h⟩:=aj h
 refine ao Z (eb false y cb e.g ((d.rp 2 Z).g (R Z) e) ((d.rb 3 Z).g e)) Z ?_
 rintro _ w ⟨bu,rfl,o⟩
 have a:=e.h o
 refine Q 2 Z ?_
 refine J (N (M (H ?_)))
 obtain ⟨a6,cc,h⟩:=aj h
 refine ao Z (cG 1 cc ) Z ?_
 rintro _ w ⟨bv,bw,rfl,o⟩
 have a:=a.f o
 obtain ⟨a7,cd,h⟩:=aj h
 refine ao Z (cG 0 cd ) Z ?_
 rintro _ w ⟨bz,bB,rfl,o⟩
 have a:=a.f o
 refine Q 2 Z ?_
 refine J (N (M (az ?_)))
 replace a:=a.pick (os':=[X bB [vB a7.1,bz],O U bz a7.2,X bw [vB a6.1,bv],O U bv a6.2,X a4 [vB a5.1,bu],O U bu a5.2,X aK [vB ad.1,aQ],O U aQ ad.2]++[X n [vB j,c],O U c p,X l [vB f,b],O U b m]) [0,1,2,3,4,5,6,7,8,9,10,11] (by decide) rfl
 obtain ⟨cD,cu,hZ,d,q,a⟩:=hZ.frzT hTT d q a
 refine ar [(0,K n 0),(1,K l 0),(2,.pointer none),(3,K G 0),(4,K T 0),(15,K aK 0),(16,K a4 0),(17,K bw 0),(18,K bB 0)] ⟨Z,Z,Z,Z,Z,Z,Z,Z,Z,V⟩ ?_
 refine bd (F.En j p f m u B y C) (fun (s:Bool×List UInt32×Bool×List UInt32×Bool×List UInt32×Bool×List UInt32) L w=>∃(bC:Nat) (bD:Value) (a8:Nat) (bc:Value) (bE:Nat) (bF:Value) (be:Nat) (bi:Value),L=[(0,K n 0),(1,K l 0),(2,.pointer none),(3,K G 0),(4,K T 0),(15,K bC 0),(16,K a8 0),(17,K bE 0),(18,K be 0)]∧SfT S [] E w [X be [vB s.2.2.2.2.2.2.1,bi],red U bi s.2.2.2.2.2.2.2,X bE [vB s.2.2.2.2.1,bF],red U bF s.2.2.2.2.2.1,X a8 [vB s.2.2.1,bc],red U bc s.2.2.2.1,X bC [vB s.1,bD],red U bD s.2.1,X T [vB y,A],red U A C,X G [vB u,z],red U z B] [X n [vB j,c],O U c p,X l [vB f,b],O U b m]) ?_ (ad.1,ad.2,a5.1,a5.2,a6.1,a6.2,a7.1,a7.2) ⟨aK,aQ,a4,bu,bw,bv,bB,bz,Z,(SfT.mk' hZ (Y (d.b 11 Z) (Y (d.b 10 Z) (Y (d.b 9 Z) (Y (d.b 8 Z) (Y (d.b 7 Z) (Y (d.b 6 Z) (Y (d.b 5 Z) (Y (d.b 4 Z) (Y (d.b 3 Z) (Y (d.b 2 Z) (Y (d.b 1 Z) (Y (d.b 0 Z) P.nil)))))))))))) (W (q.b 11 Z) (W (q.b 10 Z) (W (q.b 9 Z) (W (q.b 8 Z) (W (q.b 7 Z) (W (q.b 6 Z) (W (q.b 5 Z) (W (q.b 4 Z) (W (q.b 3 Z) (W (q.b 2 Z) (W (q.b 1 Z) (W (q.b 0 Z) I.nil)))))))))))) a)⟩ h
 rintro cv ⟨bG,cE,bW,co,bH,cF,bX,cp⟩ L w cH hI ce h bL
 try dsimp only at hI
 obtain ⟨bC,bD,a8,bc,bE,bF,be,bi,rfl,⟨cI,cw,hZ,d,q,a⟩⟩:=hI
 unfold F.En at h
 refine M (M (H (Q 1 Z ?_)))
 refine al (aO Z) Z (al (ax (k:=1) u101 Z Z da Z) Z (al (aH u30 Z Z ((d.rb 7 Z).cell a.fr 1 Z)) Z (al (aL u30 Z ((d.rp 6 Z).d a.fr)) Z (Q 1 Z ?_))))
 refine J (N ?_)
 refine av Z (fun aR=>?_) (fun aR=>?_)
 ·have h:=aJ h aR
  refine aw (N (az ?_))
  refine M (H (aU (bg (cs:=[vB false,.slice none 0 0]) cW Z a) Z ?_))
  rintro _ w ⟨bj,rfl,a⟩
  refine Q 2 Z ?_
  refine aU (bg (cs:=[vB false,.slice none 0 0]) cW Z a) Z ?_
  rintro _ w ⟨aS,rfl,a⟩
  replace a:=a.nil U
  replace a:=a.nil U
  have e:=a.pick (os':=[X bj [vB false,.slice none 0 0],O U (.slice none 0 0) [],X aS [vB false,.slice none 0 0],O U (.slice none 0 0) []]++[X n [vB j,c],O U c p,X l [vB f,b],O U b m]) [3,1,2,0,4,5,6,7] (by decide) Z
  obtain ⟨x,cf,h⟩:=aj h
  refine ao Z (gF false bG bW false cf e.g ((d.rp 4 Z).g (R Z) e) ((d.rb 5 Z).g e) ((d.rp 6 Z).g (R Z) e) ((d.rb 7 Z).g e)) Z ?_
  rintro _ w ⟨ag,ab,rfl,o⟩
  have a:=e.h o
  refine Q 5 Z ?_
  refine J (N (M (H (Q 4 Z ?_))))
  refine J (N (H (Q 1 Z ?_)))
  refine aU (bg (cs:=[vB false,.slice none 0 0]) cW Z a) Z ?_
  rintro _ w ⟨bk,rfl,a⟩
  refine Q 1 Z ?_
  refine aU (bg (cs:=[vB false,.slice none 0 0]) cW Z a) Z ?_
  rintro _ w ⟨bI,rfl,a⟩
  refine Q 2 Z ?_
  replace a:=a.nil U
  have e:=a.pick (os':=[X bI [vB false,.slice none 0 0],O U (.slice none 0 0) []]++[X bk [vB false,.slice none 0 0],X bj [vB x.1,ag],O U ag x.2.1,X aS [vB x.2.2.1,ab],O U ab x.2.2.2,X n [vB j,c],O U c p,X l [vB f,b],O U b m]) [1,0,2,3,4,5,6,7,8,9,10] (by decide) Z
  obtain ⟨aV,cg,h⟩:=aj h
  refine ao Z (f6 false x.1 bX cg e.g (e.giveO 2 Z) (e.giveB 1 Z) ((d.rp 10 Z).g (R Z) e) ((d.rb 11 Z).g e)) Z ?_
  rintro _ w ⟨ak,rfl,o⟩
  have a:=e.h o
  replace a:=a.nil U
  have e:=a.pick (os':=[X bk [vB false,.slice none 0 0],O U (.slice none 0 0) []]++[X bI [vB aV.1,ak],O U ak aV.2,X bj [vB x.1,ag],O U ag x.2.1,X aS [vB x.2.2.1,ab],O U ab x.2.2.2,X n [vB j,c],O U c p,X l [vB f,b],O U b m]) [3,0,1,2,4,5,6,7,8,9,10,11] (by decide) Z
  obtain ⟨an,bY,h⟩:=aj h
  refine ao Z (ji false bH aV.1 bY e.g ((d.rp 8 Z).g (R Z) e) ((d.rb 9 Z).g e) (e.giveO 1 Z) (e.giveB 0 Z)) Z ?_
  rintro _ w ⟨bl,rfl,o⟩
  have a:=e.h o
  refine Q 2 Z ?_
  refine J (aP ?_)
  replace a:=a.pick (os':=[X bk [vB an.1,bl],O U bl an.2,X bI [vB aV.1,ak],O U ak aV.2,X bj [vB x.1,ag],O U ag x.2.1,X aS [vB x.2.2.1,ab],O U ab x.2.2.2]++[X n [vB j,c],O U c p,X l [vB f,b],O U b m]) [0,1,2,3,4,5,6,7,8,9,10,11] (by decide) rfl
  obtain ⟨cx,cq,hZ,d,q,a⟩:=hZ.frzT hTT d q a
  exact bh (bo _ (by exact ⟨Z,Z,Z,Z,Z,Z,Z,Z,Z,V⟩) (ce (bW,co,x.2.2.1,x.2.2.2,bX,cp,an.1,an.2) _ _ ⟨a8,bc,aS,ab,be,bi,bk,bl,Z,(SfT.mk' hZ (Y (d.b 19 Z) (Y (d.b 18 Z) (Y (d.b 11 Z) (Y (d.b 10 Z) (Y (d.b 13 Z) (Y (d.b 12 Z) (Y (d.b 7 Z) (Y (d.b 6 Z) (Y (d.b 3 Z) (Y (d.b 2 Z) (Y (d.b 1 Z) (Y (d.b 0 Z) P.nil)))))))))))) (W (q.b 19 Z) (W (q.b 18 Z) (W (q.b 11 Z) (W (q.b 10 Z) (W (q.b 13 Z) (W (q.b 12 Z) (W (q.b 7 Z) (W (q.b 6 Z) (W (q.b 3 Z) (W (q.b 2 Z) (W (q.b 1 Z) (W (q.b 0 Z) I.nil)))))))))))) a)⟩ (aY h bL)))
 have h:=aI h aR
 refine ba ?_
 refine aC (aC ?_)
 have h:=aT h bL
 refine a9 ?_
 refine N (M (M (H (Q 1 Z ?_))))
 refine al (aq Z Z (j5 u73 l 0)) Z (Q 4 Z ?_)
 refine J (N (cn Z ?_))
 refine M (M (H (Q 1 Z ?_)))
 refine al (aO Z) Z (al (ax (k:=0) u101 Z Z nz4 Z) Z (al (aH Tryz.underlying4 Z Z ((d.rb 1 Z).cell a.fr 0 Z)) Z (J (N ?_))))
 refine av Z (fun aW=>?_) (fun aW=>?_)
 ·have h:=aJ h aW
  refine H (Q 2 Z ?_)
  cases h
 have h:=aI h aW
 refine aw (N (M (H (aU (bg (cs:=[vB false,.slice none 0 0]) cW Z a) Z ?_))))
 rintro _ w ⟨ac,rfl,a⟩
 refine Q 2 Z ?_
 replace a:=a.nil U
 have e:=a.pick (os':=[X ac [vB false,.slice none 0 0],O U (.slice none 0 0) []]++[X n [vB j,c],O U c p,X l [vB f,b],O U b m]) [1,0,2,3,4,5] (by decide) Z
 obtain ⟨bm,bZ,h⟩:=aj h
 refine ao Z (f6 false u bH bZ e.g ((d.rp 0 Z).g (R Z) e) ((d.rb 1 Z).g e) ((d.rp 8 Z).g (R Z) e) ((d.rb 9 Z).g e)) Z ?_
 rintro _ w ⟨bM,rfl,o⟩
 have a:=e.h o
 refine Q 1 Z ?_
 refine J (N (M (H (Q 3 Z ?_))))
 have e:=a.pick (os':=[X ac [vB bm.1,bM],O U bM bm.2]++[X n [vB j,c],O U c p,X l [vB f,b],O U b m]) [0,1,2,3,4,5] (by decide) Z
 obtain ⟨bq,b0,h⟩:=aj h
 refine ao Z (kI bm.1 bG b0 e.g ((d.rp 4 Z).g (R Z) e) ((d.rb 5 Z).g e)) Z ?_
 rintro _ w ⟨bN,rfl,o⟩
 have a:=e.h o
 refine J (N (M (H (Q 3 Z ?_))))
 have e:=a.pick (os':=[X ac [vB bq.1,bN],O U bN bq.2]++[X n [vB j,c],O U c p,X l [vB f,b],O U b m]) [0,1,2,3,4,5] (by decide) Z
 obtain ⟨ap,b1,h⟩:=aj h
 refine ao Z (kL bq.1 y b1 e.g ((d.rp 2 Z).g (R Z) e) ((d.rb 3 Z).g e)) Z ?_
 rintro _ w ⟨aA,rfl,o⟩
 have a:=e.h o
 refine J (N (M (M (H (Q 1 Z ?_)))))
 refine al (aq Z Z (lI u73)) Z (J (N (dV Z ?_)))
 refine aw (N (M (H (Q 1 Z ?_))))
 refine al (aq Z Z (j5 u73 l 0)) Z (J (N (cn Z ?_)))
 refine H (Q 2 Z ?_)
 have e:=a.pick (os':=[X l [vB f,b],O U b m]++[X ac [vB ap.1,aA],O U aA ap.2,X n [vB j,c],O U c p]) [4,5,0,1,2,3] (by decide) Z
 obtain ⟨bO,b2,h⟩:=aj h
 refine ao Z (eY f bH b2 e.g ((d.rp 8 Z).g (R Z) e) ((d.rb 9 Z).g e)) Z ?_
 rintro _ w ⟨br,rfl,o⟩
 have a:=e.h o
 refine J (N (M (H (Q 2 Z ?_))))
 have e:=a.pick (os':=[X n [vB j,c],O U c p]++[X l [vB bO.1,br],O U br bO.2,X ac [vB ap.1,aA],O U aA ap.2]) [4,5,0,1,2,3] (by decide) Z
 obtain ⟨cy,b3,h⟩:=aj h
 refine ao Z (eY j bG b3 e.g ((d.rp 4 Z).g (R Z) e) ((d.rb 5 Z).g e)) Z ?_
 rintro _ w ⟨ch,rfl,o⟩
 have a:=e.h o
 refine Q 1 Z ?_
 refine J (N (ay ?_))
 cases h
 replace a:=hZ.st a
 exact aM Z Z ⟨ch,br,Z,a.e [0,1,2,3] Z Z⟩
theorem js {o:World} {i y z:List UInt32} {b t u:Value} {f A B:Nat} {S:List Nat} (e p q:Bool) {r:Bool×List UInt32}
  (h:F.D5 e i p y q z=some r) (a:St S o o [X f [vB e,b],O U b i]) (ac:RP S o U t y) (hBa1:RB S o A [vB p,t]) (ad:RP S o U u z) (hBa2:RB S o B [vB q,u]):Calls Tryz.prog 134 #[K f 0,K A 0,K B 0] o (Ret fun v w=>∃C:Value,v=K f 0∧St S o w [X f [vB r.1,C],O U C r.2]):=by
 refine aN 32 Tryz.func134 Z Z Z ?_
 refine ar [(0,K f 0),(1,K A 0),(2,K B 0)] ⟨Z,Z,Z,V⟩ ?_
 unfold F.D5 at h
 refine M (H (Q 1 Z ?_))
 refine J (N (M (H (aU (bg (cs:=[vB false,.slice none 0 0]) cW Z a) Z ?_))))
 rintro _ w ⟨x,rfl,a⟩
 refine Q 1 Z ?_
 replace a:=a.nil U
 have c:=a.pick (os':=[X x [vB false,.slice none 0 0],O U (.slice none 0 0) []]++[X f [vB e,b],O U b i]) [1,0,2,3] (by decide) Z
 obtain ⟨g,ap,h⟩:=aj h
 refine ao Z (eb false q ap c.g (ad.g (R Z) c) (hBa2.g c)) Z ?_
 rintro _ w ⟨l,rfl,d⟩
 have a:=c.h d
 refine Q 1 Z ?_
 refine J (N (M (H (aU (bg (cs:=[vB false,.slice none 0 0]) cW Z a) Z ?_))))
 rintro _ w ⟨D,rfl,a⟩
 refine Q 2 Z ?_
 replace a:=a.nil U
 have c:=a.pick (os':=[X D [vB false,.slice none 0 0],O U (.slice none 0 0) []]++[X x [vB g.1,l],O U l g.2,X f [vB e,b],O U b i]) [1,0,2,3,4,5] (by decide) Z
 obtain ⟨k,ag,h⟩:=aj h
 refine ao Z (jc false p g.1 ag c.g (ac.g (R Z) c) (hBa1.g c) (c.giveO 1 Z) (c.giveB 0 Z)) Z ?_
 rintro _ w ⟨m,rfl,d⟩
 have a:=c.h d
 refine Q 1 Z ?_
 refine J (N (M (H (aU (bg (cs:=[vB false,.slice none 0 0]) cW Z a) Z ?_))))
 rintro _ w ⟨E,rfl,a⟩
 refine Q 1 Z ?_
 refine J (N (M (H (aU (bg (cs:=[vB false,.slice none 0 0]) cW Z a) Z ?_))))
 rintro _ w ⟨G,rfl,a⟩
 refine Q 3 Z ?_
 replace a:=a.nil U
 replace a:=a.nil U
 have c:=a.pick (os':=[X G [vB false,.slice none 0 0],O U (.slice none 0 0) [],X E [vB false,.slice none 0 0],O U (.slice none 0 0) []]++[X D [vB k.1,m],O U m k.2,X x [vB g.1,l],O U l g.2,X f [vB e,b],O U b i]) [2,1,3,0,4,5,6,7,8,9] (by decide) Z
 obtain ⟨j,ak,h⟩:=aj h
 refine ao Z (mW false false k.1 g.1 ak c.g (c.giveO 1 Z) (c.giveB 0 Z) (c.giveO 3 Z) (c.giveB 2 Z)) Z ?_
 rintro _ w ⟨L,T,rfl,d⟩
 have a:=c.h d
 refine Q 1 Z ?_
 refine J (N (M (M (H (Q 1 Z ?_)))))
 obtain ⟨s,al,h⟩:=aj h
 refine ao Z (cG 1 al ) Z ?_
 rintro _ w ⟨ab,aq,rfl,d⟩
 have a:=a.f d
 obtain ⟨ax,am,h⟩:=aj h
 refine ao Z (eX j.1 s.1 am (a.ro 3 Z).rp (a.rb 2 Z) (a.ro 1 Z).rp (a.rb 0 Z)) Z ?_
 rintro _ w ⟨rfl,d⟩
 have a:=a.f d
 refine Q 1 Z ?_
 refine J (N ?_)
 refine av Z (fun n=>?_) (fun n=>?_)
 ·have h:=aJ h n
  refine M (H (Q 1 Z ?_))
  refine J (N (ay (aG ?_)))
  cases h
 have h:=aI h n
 refine aw (N (M (H (Q 3 Z ?_))))
 have c:=a.pick (os':=[X f [vB e,b],O U b i]++[X aq [vB s.1,ab],O U ab s.2,X G [vB j.1,L],O U L j.2.1,X E [vB j.2.2.1,T],O U T j.2.2.2,X D [vB k.1,m],O U m k.2,X x [vB g.1,l],O U l g.2]) [10,11,0,1,2,3,4,5,6,7,8,9] (by decide) Z
 obtain ⟨az,an,h⟩:=aj h
 refine ao Z (jc e j.2.2.1 g.1 an c.g (c.giveO 5 Z) (c.giveB 4 Z) (c.giveO 9 Z) (c.giveB 8 Z)) Z ?_
 rintro _ w ⟨au,rfl,d⟩
 have a:=c.h d
 refine Q 1 Z ?_
 refine J (N (ay ?_))
 cases h
 exact aM Z Z ⟨au,Z,a.e [0,1] Z Z⟩
end Go.Proofs
