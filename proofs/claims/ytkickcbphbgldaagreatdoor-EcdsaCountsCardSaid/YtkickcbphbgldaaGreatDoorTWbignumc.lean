import Derived.Test.YtkickcbphbgldaaGreatDoorTW0
import Derived.Test.YtkickcbphbgldaaGreatDoorGkFman
import Derived.Test.YtkickcbphbgldaaGreatDoorTWbignumb
set_option linter.unusedVariables false
set_option linter.unusedSimpArgs false
set_option linter.unusedSectionVars false
set_option maxRecDepth 4000
namespace Go.Proofs
open Go Go.RowKit Go.Gk
open Go.Gk renaming Off → K, Rds → Q, aa → P, ae → O, af → H, ah → J, ai → I, e32 → U, own → N, pB → M
open Nat renaming le_of_ble_eq_true → R
open Go.Gk.OE renaming bx → W
open Go.Gk.Off renaming cons → X
open Go.Gk.Rds renaming cons → Y
theorem iX {d:World} {e m n:List UInt32} {a j k:Value} {b o p:Nat} {S:List Nat} (c f g:Bool) {r:Bool×List UInt32}
  (h:F.DI c e f m g n=some r) (i:St S d d [W b [vB c,a],N U a e]) (s:RP S d U j m) (hBa1:RB S d o [vB f,j]) (t:RP S d U k n) (hBa2:RB S d p [vB g,k]):Calls Tryz.prog 75 #[M b 0,M o 0,M p 0] d (Ret fun v w=>∃q:Value,v=M b 0∧St S d w [W b [vB r.1,q],N U q r.2]):=by
 refine aH 13 Tryz.func75 Z Z Z ?_
 refine au [(0,M b 0),(1,M o 0),(2,M p 0)] ⟨Z,Z,Z,V⟩ ?_
 unfold F.DI at h
 refine J (H (P 1 Z ?_))
 refine I (O (J (H (aV (ba (cs:=[vB false,.slice none 0 0]) cT Z i) Z ?_))))
 rintro _ w ⟨x,rfl,i⟩
 refine P 3 Z ?_
 replace i:=i.nil U
 have l:=i.pick (os':=[W x [vB false,.slice none 0 0],N U (.slice none 0 0) [],W b [vB c,a],N U a e]++[]) [1,0,2,3] (by decide) Z
 obtain ⟨A,u,h⟩:=aj h
 refine ao Z (kM false f g c u l.g (s.g (R Z) l) (hBa1.g l) (t.g (R Z) l) (hBa2.g l)) Z ?_
 rintro _ w ⟨B,y,rfl,z⟩
 have i:=l.h z
 refine I (O (J (H (P 2 Z ?_))))
 refine I (O (ax ?_))
 cases h
 exact aG Z Z ⟨y,Z,i.e [2,3] Z Z⟩
theorem kh {i:World} {d j:List UInt32} {b g:Value} {a k:Nat} {S:List Nat} (c e:Bool) {r:Bool×List UInt32}
  (h:F.Fl c d e j=some r) (f:St S i i [W a [vB c,b],N U b d]) (m:RP S i U g j) (hBa2:RB S i k [vB e,g]):Calls Tryz.prog 75 #[M a 0,M a 0,M k 0] i (Ret fun v w=>∃l:Value,v=M a 0∧St S i w [W a [vB r.1,l],N U l r.2]):=by
 refine aH 13 Tryz.func75 Z Z Z ?_
 refine au [(0,M a 0),(1,M a 0),(2,M k 0)] ⟨Z,Z,Z,V⟩ ?_
 unfold F.Fl at h
 refine J (H (P 1 Z ?_))
 refine I (O (J (H (aV (ba (cs:=[vB false,.slice none 0 0]) cT Z f) Z ?_))))
 rintro _ w ⟨p,rfl,f⟩
 refine P 3 Z ?_
 replace f:=f.nil U
 have n:=f.pick (os':=[W p [vB false,.slice none 0 0],N U (.slice none 0 0) [],W a [vB c,b],N U b d]++[]) [1,0,2,3] (by decide) Z
 obtain ⟨t,o,h⟩:=aj h
 refine ao Z (jk false e c o n.g (m.g (R Z) n) (hBa2.g n)) Z ?_
 rintro _ w ⟨u,q,rfl,s⟩
 have f:=n.h s
 refine I (O (J (H (P 2 Z ?_))))
 refine I (O (ax ?_))
 cases h
 exact aG Z Z ⟨q,Z,f.e [2,3] Z Z⟩
theorem eP {b:World} {n o:List UInt32} {l m:Value} {p q:Nat} (c d:Bool) {r:Int}
  (h:F.Cf c n d o=some r) (s:RP [] b U l n) (hBa0:RB [] b p [vB c,l]) (t:RP [] b U m o) (hBa1:RB [] b q [vB d,m]):Calls Tryz.prog 141 #[M p 0,M q 0] b (Ret fun v w=>v=vI r∧St [] b w []):=by
 refine aH 35 Tryz.func141 Z Z Z ?_
 have a:=St.l b
 refine au [(0,M p 0),(1,M q 0)] ⟨Z,Z,V⟩ ?_
 unfold F.Cf at h
 refine J (H (P 1 Z ?_))
 refine I (O (J (J ?_)))
 refine aY (fun w'=>St [] b w' []) (fun _=>true) bQ (fun _ _ _ e=>e.2) (fun _ _ e=>e) (by kernel_rfl) ?_
 have a:=a.drew
 show lxE _ _ _ _ _ _ _ [0,1,2,3,4,5,6,7,8] _ _
 refine al a Z Z (fun w hF=>ar Z) Z (al a Z Z (fun w hF=>aL Z) Z (al a Z Z (fun w hF=>av (k:=0) u101 Z Z nz4 Z) Z (al a Z Z (fun w hF=>aC Tryz.underlying4 Z Z (hBa0.cell hF.fr 0 Z)) Z (al a Z Z (fun w hF=>ar Z) Z (al a Z Z (fun w hF=>aL Z) Z (al a Z Z (fun w hF=>av (k:=0) u101 Z Z nz4 Z) Z (al a Z Z (fun w hF=>aC Tryz.underlying4 Z Z (hBa1.cell hF.fr 0 Z)) Z (al a Z Z (fun w hF=>aq Z Z (lH _ c d Tryz.underlying4 Z)) Z ?_))))))))
 refine bl a ?_
 refine O ?_
 refine aw Z (fun f=>?_) (fun f=>?_)
 ·have h:=aJ h f
  refine J (J (H (P 1 Z ?_)))
  refine am (aL Z) Z (am (av (k:=0) u101 Z Z nz4 Z) Z (am (aC Tryz.underlying4 Z Z (hBa0.cell a.fr 0 Z)) Z (I (O ?_))))
  refine aw Z (fun g=>?_) (fun g=>?_)
  ·have h:=aJ h g
   refine J (H (P 1 Z ?_))
   refine I (O (ax (aE (aE ?_))))
   cases h
   exact aG Z Z ⟨Z,a⟩
  have h:=aI h g
  refine az (O (J (H (P 1 Z ?_))))
  refine I (O (ax (aE ?_)))
  cases h
  exact aG Z Z ⟨Z,a⟩
 have h:=aI h f
 refine az (O (J ?_))
 refine aY (fun w'=>St [] b w' []) (fun i=>!([8].contains i)) bQ (fun _ _ _ e=>e.2) (fun _ _ e=>e) (by kernel_rfl) ?_
 have a:=a.drew
 show lxE _ _ _ _ _ _ _ [0,1,2,3,4,5,6,7,8,9] _ _
 refine al a Z Z (fun w hF=>ar Z) Z (al a Z Z (fun w hF=>aL Z) Z (al a Z Z (fun w hF=>av (k:=1) u101 Z Z cZ Z) Z (al a Z Z (fun w hF=>aC u30 Z Z (hBa0.cell hF.fr 1 Z)) Z (al a Z Z (fun w hF=>ar Z) Z (al a Z Z (fun w hF=>aL Z) Z (al a Z Z (fun w hF=>av (k:=1) u101 Z Z cZ Z) Z (al a Z Z (fun w hF=>aC u30 Z Z (hBa1.cell hF.fr 1 Z)) Z ?_)))))))
 obtain ⟨x,u,h⟩:=aj h
 refine bf a Z Z (by kernel_rfl) Z (i9  u (s.d a.fr).rp (t.d a.fr).rp) Z ?_
 rintro _ w ⟨rfl,y⟩
 have a:=a.f y
 refine al a Z Z (fun w hF=>aA Z) Z (bl a ?_)
 refine O (J (J (H (P 1 Z ?_))))
 refine am (aL Z) Z (am (av (k:=0) u101 Z Z nz4 Z) Z (am (aC Tryz.underlying4 Z Z (hBa0.cell a.fr 0 Z)) Z (I (O ?_))))
 refine aw Z (fun j=>?_) (fun j=>?_)
 ·have h:=aJ h j
  refine J (H (P 1 Z ?_))
  refine am (gY Z (Ax x)) Z (P 1 Z ?_)
  refine I (O (ax (aE ?_)))
  cases h
  exact aG Z Z ⟨Z,a⟩
 have h:=aI h j
 refine az (O (J (H (P 2 Z ?_))))
 refine I (O (ax ?_))
 cases h
 exact aG Z Z ⟨Z,a⟩
theorem gu {b:World} {c:List UInt32} {a:Value} {d:Nat} (e:Bool) {r:Int}
  (h:F.D4 e c=some r) (g:RP [] b U a c) (hBa0:RB [] b d [vB e,a]):Calls Tryz.prog 87 #[M d 0] b (Ret fun v w=>v=vI r∧St [] b w []):=by
 refine aH 8 Tryz.func87 Z Z Z ?_
 have f:=St.l b
 refine au [(0,M d 0)] ⟨Z,V⟩ ?_
 unfold F.D4 at h
 refine J (H (P 1 Z ?_))
 refine I (O (J (H (P 1 Z ?_))))
 refine am (aL Z) Z (am (av (k:=1) u101 Z Z cZ Z) Z (am (aC u30 Z Z (hBa0.cell f.fr 1 Z)) Z ?_))
 obtain ⟨l,i,h⟩:=aj h
 refine ao Z (gf  i (g.d f.fr).rp) Z ?_
 rintro _ w ⟨rfl,j⟩
 have f:=f.f j
 refine P 1 Z ?_
 refine I (O (ax ?_))
 cases h
 exact aG Z Z ⟨Z,f⟩
theorem kZ {e:World} {a0:List UInt32} {d:Value} (a1:Int) {r:UInt64}
  (h:F.Ed a0 a1=some r) (f:RP [] e U d a0):Calls Tryz.prog 152 #[d,vI a1] e (Ret fun v w=>v=v64 r∧St [] e w []):=by
 refine aH 25 Tryz.func152 Z Z Z ?_
 have b:=St.l e
 refine au [(0,d),(1,vI a1)] ⟨Z,Z,V⟩ ?_
 unfold F.Ed at h
 refine J (H (P 1 Z ?_))
 refine I (O (J ?_))
 refine a9 (r:=r) (fun (g:Bool) L w=>L=[(0,d),(1,vI a1),(13,vB g)]∧St [] e w []) (F.EO a0 a1) ?_ ?_
 rotate_left
 ·intro i
  refine H (P 3 Z ?_)
  cases a:(decide (a1<0))
  case true=>
   have h:=aJ h a
   try simp only [a]
   refine P 6 Z ?_
   refine I (O ?_)
   exact au _ (by exact ⟨Z,Z,Z,V⟩) (i true _ _ ⟨Z,b⟩ h)
  case false=>
   have h:=aI h a
   try simp only [a]
   refine P 1 Z ?_
   refine bo (t:=7) Z Z (aq Z Z (dI _ a1 32 (by decide))) Z ?_
   refine P 1 Z ?_
   refine bo (t:=7) Z Z (aN u30 Z (f.d b.fr)) Z (P 2 Z ?_)
   refine I (O ?_)
   exact au _ (by exact ⟨Z,Z,Z,V⟩) (i (decide ((a0.length:Int)≤(wI (Int.tdiv a1 32)))) _ _ ⟨Z,b⟩ h)
 rintro l L w hJ h
 try dsimp only at hJ
 obtain ⟨rfl,b⟩:=hJ
 unfold F.EO at h
 refine aw Z (fun c=>?_) (fun c=>?_)
 ·have h:=aJ h c
  refine J (H (P 1 Z ?_))
  refine I (O (ax (aE ?_)))
  cases h
  exact aG Z Z ⟨Z,b⟩
 have h:=aI h c
 refine az (O (J (H (P 2 Z ?_))))
 refine am (aq Z Z (dI _ a1 32 (by decide))) Z ?_
 obtain ⟨j,k,h⟩:=aj h
 refine am (bk u30 aU Z Z (f.d b.fr) k) Z (am (bb u38 Z Z (f.d b.fr) k Z) Z (P 1 Z ?_))
 refine am (aM Z (eE Tryz.underlying3 u112 a1)) Z ?_
 refine am (aq Z Z (ez _ (UInt64.ofInt a1) 32 (by decide))) Z ?_
 refine am (aq Z Z (dc _ j ((UInt64.ofInt a1)%32))) Z (am (aM Z (bp u38 u112 (bA j (((UInt64.ofInt a1)%32).toNat)))) Z (am (aq Z Z (iS _ ((bA j (((UInt64.ofInt a1)%32).toNat)).toUInt64) 1)) Z (P 1 Z ?_)))
 refine I (O (ax ?_))
 cases h
 exact aG Z Z ⟨Z,b⟩
theorem jg {i:World} {j:List UInt32} {f:Value} {m:Nat} (n:Bool) (a1:Int) {r:UInt64}
  (h:F.Ek n j a1=some r) (g:RP [] i U f j) (hBa0:RB [] i m [vB n,f]):Calls Tryz.prog 88 #[M m 0,vI a1] i (Ret fun v w=>v=v64 r∧St [] i w []):=by
 refine aH 27 Tryz.func88 Z Z Z ?_
 have a:=St.l i
 refine au [(0,M m 0),(1,vI a1)] ⟨Z,Z,V⟩ ?_
 unfold F.Ek at h
 refine J (H (P 1 Z ?_))
 refine I (O (J (J (H (P 2 Z ?_)))))
 refine I (O ?_)
 refine aw Z (fun c=>?_) (fun c=>?_)
 ·have h:=aJ h c
  refine J (H (P 1 Z ?_))
  refine I (O (ax (aE ?_)))
  cases h
  exact aG Z Z ⟨Z,a⟩
 have h:=aI h c
 refine az (O (J (J (H (P 1 Z ?_)))))
 refine am (aL Z) Z (am (av (k:=0) u101 Z Z nz4 Z) Z (am (aC Tryz.underlying4 Z Z (hBa0.cell a.fr 0 Z)) Z (P 1 Z ?_)))
 refine I (O ?_)
 refine aw Z (fun d=>?_) (fun d=>?_)
 ·have h:=aJ h d
  refine J (H (P 1 Z ?_))
  refine am (aL Z) Z (am (av (k:=1) u101 Z Z cZ Z) Z (am (aC u30 Z Z (hBa0.cell a.fr 1 Z)) Z (P 1 Z ?_)))
  obtain ⟨t,o,h⟩:=aj h
  refine ao Z (kZ a1 o (g.d a.fr).rp) Z ?_
  rintro _ w ⟨rfl,b⟩
  have a:=a.f b
  refine P 1 Z ?_
  refine I (O (ax (aE ?_)))
  cases h
  exact aG Z Z ⟨Z,a⟩
 have h:=aI h d
 refine az (O (J (H (P 1 Z ?_))))
 refine am (aL Z) Z (am (av (k:=1) u101 Z Z cZ Z) Z (am (aC u30 Z Z (hBa0.cell a.fr 1 Z)) Z ?_))
 refine aV (cL (e:=U) (l:=([1]:List UInt32)) (vs:=[v32 1]) u30 aU Z Z Z Z (by decide) (by decide) a) Z ?_
 rintro u w a
 obtain ⟨x,p,h⟩:=aj h
 refine ao Z (i4  p (g.d a.fr).rp (a.ro 0 Z).rp) Z ?_
 rintro y w b
 have a:=a.f b
 refine P 1 Z ?_
 obtain ⟨s,q,h⟩:=aj h
 refine ao Z (kZ a1 q (a.ro 0 Z).rp) Z ?_
 rintro _ w ⟨rfl,b⟩
 have a:=a.f b
 refine am (aq Z Z (eI _ s 1)) Z (P 1 Z ?_)
 refine I (O (ax ?_))
 cases h
 exact aG Z Z ⟨Z,a.e [] Z Z⟩
theorem d9 {g:World} {d i:List UInt32} {a f:Value} {b j:Nat} {S:List Nat} (c l:Bool) {r:Bool×List UInt32}
  (h:F.B3 c d l i=some r) (e:St S g g [W b [vB c,a],N U a d]) (o:RP S g U f i) (hBa1:RB S g j [vB l,f]):Calls Tryz.prog 172 #[M b 0,M j 0] g (Ret fun v w=>∃m:Value,v=M b 0∧St S g w [W b [vB r.1,m],N U m r.2]):=by
 refine aH 12 Tryz.func172 Z Z Z ?_
 refine au [(0,M b 0),(1,M j 0)] ⟨Z,Z,V⟩ ?_
 unfold F.B3 at h
 refine J (H (P 1 Z ?_))
 refine I (O (J (H (P 2 Z ?_))))
 refine am (aL Z) Z (am (av (k:=1) u101 Z Z cZ Z) Z (am (aC u30 Z Z (hBa1.cell e.fr 1 Z)) Z ?_))
 obtain ⟨s,p,h⟩:=aj h
 refine ao Z (ip  p (o.d e.fr).rp) Z ?_
 rintro t w n
 have e:=e.f n
 have u:=e.pick (os':=[W b [vB c,a],N U a d,N U t s]++[]) [1,2,0] (by decide) Z
 obtain ⟨y,q,h⟩:=aj h
 refine ao Z (bG c false q u.g ) Z ?_
 rintro _ w ⟨x,rfl,n⟩
 have e:=u.h n
 refine P 1 Z ?_
 refine I (O (ax ?_))
 cases h
 exact aG Z Z ⟨x,Z,e.e [0,1] Z Z⟩
theorem kq {i:World} {d j:List UInt32} {b g:Value} {a k:Nat} {S:List Nat} (c e:Bool) {r:Bool×List UInt32}
  (h:F.EY c d e j=some r) (f:St S i i [W a [vB c,b],N U b d]) (m:RP S i U g j) (hBa2:RB S i k [vB e,g]):Calls Tryz.prog 191 #[M a 0,M a 0,M k 0] i (Ret fun v w=>∃l:Value,v=M a 0∧St S i w [W a [vB r.1,l],N U l r.2]):=by
 refine aH 13 Tryz.func191 Z Z Z ?_
 refine au [(0,M a 0),(1,M a 0),(2,M k 0)] ⟨Z,Z,Z,V⟩ ?_
 unfold F.EY at h
 refine J (H (P 1 Z ?_))
 refine I (O (J (H (P 3 Z ?_))))
 refine aV (ba (cs:=[vB false,.slice none 0 0]) cT Z f) Z ?_
 rintro _ w ⟨p,rfl,f⟩
 replace f:=f.nil U
 have n:=f.pick (os':=[W a [vB c,b],N U b d,W p [vB false,.slice none 0 0],N U (.slice none 0 0) []]++[]) [2,3,1,0] (by decide) Z
 obtain ⟨t,o,h⟩:=aj h
 refine ao Z (jl c e false o n.g (m.g (R Z) n) (hBa2.g n)) Z ?_
 rintro _ w ⟨q,u,rfl,s⟩
 have f:=n.h s
 refine I (O (J (H (P 2 Z ?_))))
 refine I (O (ax ?_))
 cases h
 exact aG Z Z ⟨q,Z,f.e [0,1] Z Z⟩
theorem mQ {E:World} {p m B C:List UInt32} {c b z A:Value} {n l G T:Nat} {S:List Nat} (j f u y:Bool) {r:Bool×List UInt32×Bool×List UInt32}
  (h:F.FC j p f m u B y C=some r) (a:St S E E [W n [vB j,c],N U c p,W l [vB f,b],N U b m]) (b4:RP S E U z B) (hBa3:RB S E G [vB u,z]) (b5:RP S E U A C) (hBa4:RB S E T [vB y,A]):Calls Tryz.prog 173 #[M n 0,M l 0,.pointer none,M G 0,M T 0] E (Ret fun v w=>∃bP bR:Value,v=M n 0∧St S E w [W n [vB r.1,bP],N U bP r.2.1,W l [vB r.2.2.1,bR],N U bR r.2.2.2]):=by
 refine aH 161 Tryz.func173 Z Z Z ?_
 have hZ:=Fz.l (S:=S) (w0:=E)
 have hTT:TOk S [] E:=TOk.nil
 have d:Q S E [W T [vB y,A],red U A C,W G [vB u,z],red U z B]:=Y hBa4.i (Y (RP.i (R Z) b5) (Y hBa3.i (Y (RP.i (R Z) b4) (Q.nil))))
 have q:K [] [W T [vB y,A],red U A C,W G [vB u,z],red U z B]:=K.emp
 refine au [(0,M n 0),(1,M l 0),(2,.pointer none),(3,M G 0),(4,M T 0)] ⟨Z,Z,Z,Z,Z,V⟩ ?_
 unfold F.FC at h
 refine J (H (P 1 Z ?_))
 refine I (O (J ?_))
 refine a9 (r:=r) (fun (g:Bool) L w=>L=[(0,M n 0),(1,M l 0),(2,.pointer none),(3,M G 0),(4,M T 0),(35,vB g)]∧SfT S [] E w [W T [vB y,A],red U A C,W G [vB u,z],red U z B] [W n [vB j,c],N U c p,W l [vB f,b],N U b m]) (F.EX j p u B y C f m) ?_ ?_
 rotate_left
 ·intro bS
  refine H (P 1 Z ?_)
  refine am (aL Z) Z (am (av (k:=1) u101 Z Z cZ Z) Z (am (aC u30 Z Z ((d.rb 1 Z).cell a.fr 1 Z)) Z (am (aN u30 Z ((d.rp 0 Z).d a.fr)) Z (P 2 Z ?_))))
  cases aU:((B.length:Int) == 0)
  case true=>
   have h:=aJ h aU
   try simp only [aU]
   refine P 7 Z ?_
   refine I (O ?_)
   exact au _ (by exact ⟨Z,Z,Z,Z,Z,Z,V⟩) (bS true _ _ ⟨Z,(SfT.mk' hZ (Y (d.b 3 Z) (Y (d.b 2 Z) (Y (d.b 1 Z) (Y (d.b 0 Z) Q.nil)))) (X (q.b 3 Z) (X (q.b 2 Z) (X (q.b 1 Z) (X (q.b 0 Z) K.nil)))) a)⟩ h)
  case false=>
   have h:=aI h aU
   try simp only [aU]
   refine P 1 Z ?_
   refine bo (t:=28) Z Z (aL Z) Z (bo (t:=28) Z Z (av (k:=1) u101 Z Z cZ Z) Z (bo (t:=28) Z Z (aC u30 Z Z ((d.rb 3 Z).cell a.fr 1 Z)) Z (bo (t:=28) Z Z (aN u30 Z ((d.rp 2 Z).d a.fr)) Z (P 2 Z ?_))))
   refine I (O ?_)
   exact au _ (by exact ⟨Z,Z,Z,Z,Z,Z,V⟩) (bS ((C.length:Int) == 0) _ _ ⟨Z,(SfT.mk' hZ (Y (d.b 3 Z) (Y (d.b 2 Z) (Y (d.b 1 Z) (Y (d.b 0 Z) Q.nil)))) (X (q.b 3 Z) (X (q.b 2 Z) (X (q.b 1 Z) (X (q.b 0 Z) K.nil)))) a)⟩ h)
 rintro cI L w hJ h
 try dsimp only at hJ
 obtain ⟨rfl,⟨ci,bT,hZ,d,q,a⟩⟩:=hJ
 unfold F.EX at h
 refine aw Z (fun aB=>?_) (fun aB=>?_)
 ·have h:=aJ h aB
  refine J ?_
  refine aY (fun w'=>St ci bT w' [W n [vB j,c],N U c p,W l [vB f,b],N U b m]) (fun _=>true) bQ (fun _ _ _ hf=>hf.2) (fun _ _ hf=>hf) (by kernel_rfl) ?_
  have a:=a.drew
  show lxE _ _ _ _ _ _ _ [0,1,2,3,4,5,6,7,8,9,10,11] _ _
  refine al a Z Z (fun w hF=>ar Z) Z (al a Z Z (fun w hF=>aL Z) Z (al a Z Z (fun w hF=>av (k:=1) u101 Z Z cZ Z) Z (al a Z Z (fun w hF=>aC u30 Z Z ((d.rb 1 Z).cell hF.fr 1 Z)) Z (al a Z Z (fun w hF=>aN u30 Z ((d.rp 0 Z).d hF.fr)) Z (al a Z Z (fun w hF=>ar Z) Z (al a Z Z (fun w hF=>aL Z) Z (al a Z Z (fun w hF=>av (k:=1) u101 Z Z cZ Z) Z (al a Z Z (fun w hF=>aC u30 Z Z ((d.rb 3 Z).cell hF.fr 1 Z)) Z ?_))))))))
  refine al a Z Z (fun w hF=>aN u30 Z ((d.rp 2 Z).d hF.fr)) Z (al a Z Z (fun w hF=>aA Z) Z (al a Z Z (fun w hF=>aA Z) Z (bl a ?_)))
  refine O (J ?_)
  refine aY (fun w'=>St ci bT w' [W n [vB j,c],N U c p,W l [vB f,b],N U b m]) (fun _=>true) bQ (fun _ _ _ hf=>hf.2) (fun _ _ hf=>hf) (by kernel_rfl) ?_
  have a:=a.drew
  show lxE _ _ _ _ _ _ _ [0,1,2,3,4,5,6,7,8,9] _ _
  refine al a Z Z (fun w hF=>ar Z) Z (al a Z Z (fun w hF=>aL Z) Z (al a Z Z (fun w hF=>av (k:=0) u101 Z Z nz4 Z) Z (al a Z Z (fun w hF=>aC Tryz.underlying4 Z Z ((d.rb 1 Z).cell hF.fr 0 Z)) Z (al a Z Z (fun w hF=>ar Z) Z (al a Z Z (fun w hF=>aL Z) Z (al a Z Z (fun w hF=>av (k:=0) u101 Z Z nz4 Z) Z (al a Z Z (fun w hF=>aC Tryz.underlying4 Z Z ((d.rb 3 Z).cell hF.fr 0 Z)) Z (al a Z Z (fun w hF=>aA Z) Z ?_))))))))
  refine al a Z Z (fun w hF=>aA Z) Z (bl a ?_)
  refine O ?_
  refine a9 (r:=r) (fun (g:Bool×List UInt32) L w=>∃(D:Value),L=[(0,M n 0),(1,M l 0),(2,.pointer none),(11,vI (B.length:Int)),(12,vI (C.length:Int)),(13,vB u),(14,vB y)]∧SfT S [] E w [] [N U D g.2,W n [vB g.1,D],W l [vB f,b],N U b m]) (F.FB f m u B) ?_ ?_
  rotate_left
  ·intro bJ
   refine J (H (P 2 Z ?_))
   refine I (O ?_)
   refine aw Z (fun aX=>?_) (fun aX=>?_)
   ·have h:=aJ h aX
    refine H (P 2 Z ?_)
    have e:=a.pick (os':=[W n [vB j,c],N U c p]++[W l [vB f,b],N U b m]) [0,1,2,3] (by decide) Z
    obtain ⟨bU,b6,h⟩:=aj h
    refine ao Z (d9 j y b6 e.g ((d.rp 2 Z).g (R Z) e) ((d.rb 3 Z).g e)) Z ?_
    rintro _ w ⟨cj,rfl,o⟩
    have a:=e.h o
    refine I (O ?_)
    exact au _ (by exact ⟨Z,Z,Z,Z,Z,Z,Z,V⟩) (bJ (bU.1,bU.2) _ _ ⟨cj,Z,(SfT.mk' hZ Q.nil K.nil (a.e [1,0,2,3] Z Z))⟩ h)
   have h:=aI h aX
   refine H (P 2 Z ?_)
   have e:=a.pick (os':=[W n [vB j,c],N U c p]++[W l [vB f,b],N U b m]) [0,1,2,3] (by decide) Z
   obtain ⟨bV,b7,h⟩:=aj h
   refine ao Z (d9 j u b7 e.g ((d.rp 0 Z).g (R Z) e) ((d.rb 1 Z).g e)) Z ?_
   rintro _ w ⟨ck,rfl,o⟩
   have a:=e.h o
   refine I (O ?_)
   exact au _ (by exact ⟨Z,Z,Z,Z,Z,Z,Z,V⟩) (bJ (bV.1,bV.2) _ _ ⟨ck,Z,(SfT.mk' hZ Q.nil K.nil (a.e [1,0,2,3] Z Z))⟩ h)
  rintro ⟨aZ,a0⟩ L w hJ h
  try dsimp only at hJ
  obtain ⟨D,rfl,⟨cy,cq,hZ,d,q,a⟩⟩:=hJ
  unfold F.FB at h
  refine a9 (r:=r) (fun (g:Bool×List UInt32) L w=>∃(a1:Value),L=[(0,M n 0),(2,.pointer none),(11,vI (B.length:Int)),(12,vI (C.length:Int)),(14,vB y)]∧SfT S [] E w [] [W n [vB aZ,D],N U D a0,N U a1 g.2,W l [vB g.1,a1]]) (F.FN aZ a0) ?_ ?_
  rotate_left
  ·intro bK
   refine J (H (P 1 Z ?_))
   refine am (aq Z Z (jY u73 l 0)) Z (I (O (dM Z ?_)))
   refine J (H (P 1 Z ?_))
   have e:=a.pick (os':=[W l [vB f,b],N U b m]++[N U D a0,W n [vB aZ,D]]) [2,3,0,1] (by decide) Z
   obtain ⟨aK,b8,h⟩:=aj h
   refine ao Z (eJ f 0 b8 e.g ) Z ?_
   rintro _ w ⟨bs,rfl,o⟩
   have a:=e.h o
   refine I (O (J (H (P 2 Z ?_))))
   refine I (O ?_)
   refine aw Z (fun a2=>?_) (fun a2=>?_)
   ·have h:=aJ h a2
    refine J (H (P 1 Z ?_))
    have e:=a.pick (os':=[W l [vB aK.1,bs],N U bs aK.2]++[N U D a0,W n [vB aZ,D]]) [0,1,2,3] (by decide) Z
    obtain ⟨cl,b9,h⟩:=aj h
    refine ao Z (eJ aK.1 1 b9 e.g ) Z ?_
    rintro _ w ⟨cm,rfl,o⟩
    have a:=e.h o
    refine I (O (H (P 2 Z ?_)))
    refine am (aL Z) Z (am (av (k:=0) u101 Z Z nz4 Z) Z (bn (br (i:=0) (us:=[vB u]) Z sz4 Z Z Z ⟨Z,V⟩ Z a) ?_))
    intro w a
    refine I (O ?_)
    exact au _ (by exact ⟨Z,Z,Z,Z,Z,V⟩) (bK (u,cl.2) _ _ ⟨cm,Z,(SfT.mk' hZ Q.nil K.nil (a.e [3,2,1,0] Z Z))⟩ h)
   have h:=aI h a2
   refine az (O ?_)
   exact au _ (by exact ⟨Z,Z,Z,Z,Z,V⟩) (bK (aK.1,aK.2) _ _ ⟨bs,Z,(SfT.mk' hZ Q.nil K.nil (a.e [3,2,1,0] Z Z))⟩ h)
  rintro ⟨cz,cA⟩ L w hJ h
  try dsimp only at hJ
  obtain ⟨a1,rfl,⟨cB,cr,hZ,d,q,a⟩⟩:=hJ
  unfold F.FN at h
  refine J (J (H (P 1 Z ?_)))
  refine am (aq Z Z (kX u73)) Z (I (O (fi Z ?_)))
  refine az (O (J (H (P 2 Z ?_))))
  refine I (O (ax (aE ?_)))
  cases h
  replace a:=hZ.st a
  exact aG Z Z ⟨D,a1,Z,a.e [0,1,3,2] Z Z⟩
 have h:=aI h aB
 refine az (O (J (H (aV (ba (cs:=[vB false,.slice none 0 0]) cT Z a) Z ?_))))
 rintro _ w ⟨aM,rfl,a⟩
 refine P 1 Z ?_
 replace a:=a.nil U
 have e:=a.pick (os':=[W aM [vB false,.slice none 0 0],N U (.slice none 0 0) []]++[W n [vB j,c],N U c p,W l [vB f,b],N U b m]) [1,0,2,3,4,5] (by decide) Z
 obtain ⟨ad,ca,h⟩:=aj h
 refine ao Z (d9 false u ca e.g ((d.rp 0 Z).g (R Z) e) ((d.rb 1 Z).g e)) Z ?_
 rintro _ w ⟨aO,rfl,o⟩
 have a:=e.h o
 refine aV (ba (cs:=[vB false,.slice none 0 0]) cT Z a) Z ?_
 rintro _ w ⟨a3,rfl,a⟩
 refine P 1 Z ?_
 replace a:=a.nil U
 have e:=a.pick (os':=[W a3 [vB false,.slice none 0 0],N U (.slice none 0 0) []]++[W aM [vB ad.1,aO],N U aO ad.2,W n [vB j,c],N U c p,W l [vB f,b],N U b m]) [1,0,2,3,4,5,6,7] (by decide) Z
 obtain ⟨a4,cb,h⟩:=aj h
 refine ao Z (d9 false y cb e.g ((d.rp 2 Z).g (R Z) e) ((d.rb 3 Z).g e)) Z ?_
 rintro _ w ⟨bt,rfl,o⟩
 have a:=e.h o
 refine P 2 Z ?_
 refine I (O (J (H ?_)))
 obtain ⟨a5,cc,h⟩:=aj h
 refine ao Z (cC 1 cc ) Z ?_
 rintro _ w ⟨bu,bw,rfl,o⟩
 have a:=a.f o
 obtain ⟨a6,cd,h⟩:=aj h
 refine ao Z (cC 0 cd ) Z ?_
 rintro _ w ⟨bA,bB,rfl,o⟩
 have a:=a.f o
 refine P 2 Z ?_
 refine I (O (J (aD ?_)))
 replace a:=a.pick (os':=[W bB [vB a6.1,bA],N U bA a6.2,W bw [vB a5.1,bu],N U bu a5.2,W a3 [vB a4.1,bt],N U bt a4.2,W aM [vB ad.1,aO],N U aO ad.2]++[W n [vB j,c],N U c p,W l [vB f,b],N U b m]) [0,1,2,3,4,5,6,7,8,9,10,11] (by decide) rfl
 obtain ⟨cD,ct,hZ,d,q,a⟩:=hZ.frzT hTT d q a
 refine au [(0,M n 0),(1,M l 0),(2,.pointer none),(3,M G 0),(4,M T 0),(15,M aM 0),(16,M a3 0),(17,M bw 0),(18,M bB 0)] ⟨Z,Z,Z,Z,Z,Z,Z,Z,Z,V⟩ ?_
 refine bj (F.EF j p f m u B y C) (fun (s:Bool×List UInt32×Bool×List UInt32×Bool×List UInt32×Bool×List UInt32) L w=>∃(bC:Nat) (bD:Value) (a7:Nat) (bb:Value) (bE:Nat) (bF:Value) (bc:Nat) (be:Value),L=[(0,M n 0),(1,M l 0),(2,.pointer none),(3,M G 0),(4,M T 0),(15,M bC 0),(16,M a7 0),(17,M bE 0),(18,M bc 0)]∧SfT S [] E w [W bc [vB s.2.2.2.2.2.2.1,be],red U be s.2.2.2.2.2.2.2,W bE [vB s.2.2.2.2.1,bF],red U bF s.2.2.2.2.2.1,W a7 [vB s.2.2.1,bb],red U bb s.2.2.2.1,W bC [vB s.1,bD],red U bD s.2.1,W T [vB y,A],red U A C,W G [vB u,z],red U z B] [W n [vB j,c],N U c p,W l [vB f,b],N U b m]) ?_ (ad.1,ad.2,a4.1,a4.2,a5.1,a5.2,a6.1,a6.2) ⟨aM,aO,a3,bt,bw,bu,bB,bA,Z,(SfT.mk' hZ (Y (d.b 11 Z) (Y (d.b 10 Z) (Y (d.b 9 Z) (Y (d.b 8 Z) (Y (d.b 7 Z) (Y (d.b 6 Z) (Y (d.b 5 Z) (Y (d.b 4 Z) (Y (d.b 3 Z) (Y (d.b 2 Z) (Y (d.b 1 Z) (Y (d.b 0 Z) Q.nil)))))))))))) (X (q.b 11 Z) (X (q.b 10 Z) (X (q.b 9 Z) (X (q.b 8 Z) (X (q.b 7 Z) (X (q.b 6 Z) (X (q.b 5 Z) (X (q.b 4 Z) (X (q.b 3 Z) (X (q.b 2 Z) (X (q.b 1 Z) (X (q.b 0 Z) K.nil)))))))))))) a)⟩ h
 rintro cu ⟨bG,cE,bW,cn,bH,cF,bX,co⟩ L w cG hI ce h bL
 try dsimp only at hI
 obtain ⟨bC,bD,a7,bb,bE,bF,bc,be,rfl,⟨cH,cv,hZ,d,q,a⟩⟩:=hI
 unfold F.EF at h
 refine J (J (H (P 1 Z ?_)))
 refine am (aL Z) Z (am (av (k:=1) u101 Z Z cZ Z) Z (am (aC u30 Z Z ((d.rb 7 Z).cell a.fr 1 Z)) Z (am (aN u30 Z ((d.rp 6 Z).d a.fr)) Z (P 1 Z ?_))))
 refine I (O ?_)
 refine aw Z (fun aP=>?_) (fun aP=>?_)
 ·have h:=aJ h aP
  refine az (O (aD ?_))
  refine J (H (aV (ba (cs:=[vB false,.slice none 0 0]) cT Z a) Z ?_))
  rintro _ w ⟨bf,rfl,a⟩
  refine P 2 Z ?_
  refine aV (ba (cs:=[vB false,.slice none 0 0]) cT Z a) Z ?_
  rintro _ w ⟨aQ,rfl,a⟩
  replace a:=a.nil U
  replace a:=a.nil U
  have e:=a.pick (os':=[W bf [vB false,.slice none 0 0],N U (.slice none 0 0) [],W aQ [vB false,.slice none 0 0],N U (.slice none 0 0) []]++[W n [vB j,c],N U c p,W l [vB f,b],N U b m]) [3,1,2,0,4,5,6,7] (by decide) Z
  obtain ⟨x,cf,h⟩:=aj h
  refine ao Z (gv false bG bW false cf e.g ((d.rp 4 Z).g (R Z) e) ((d.rb 5 Z).g e) ((d.rp 6 Z).g (R Z) e) ((d.rb 7 Z).g e)) Z ?_
  rintro _ w ⟨ag,ab,rfl,o⟩
  have a:=e.h o
  refine P 5 Z ?_
  refine I (O (J (H (P 4 Z ?_))))
  refine I (O (H (P 1 Z ?_)))
  refine aV (ba (cs:=[vB false,.slice none 0 0]) cT Z a) Z ?_
  rintro _ w ⟨bh,rfl,a⟩
  refine P 1 Z ?_
  refine aV (ba (cs:=[vB false,.slice none 0 0]) cT Z a) Z ?_
  rintro _ w ⟨bI,rfl,a⟩
  refine P 2 Z ?_
  replace a:=a.nil U
  have e:=a.pick (os':=[W bI [vB false,.slice none 0 0],N U (.slice none 0 0) []]++[W bh [vB false,.slice none 0 0],W bf [vB x.1,ag],N U ag x.2.1,W aQ [vB x.2.2.1,ab],N U ab x.2.2.2,W n [vB j,c],N U c p,W l [vB f,b],N U b m]) [1,0,2,3,4,5,6,7,8,9,10] (by decide) Z
  obtain ⟨aS,cg,h⟩:=aj h
  refine ao Z (fU false x.1 bX cg e.g (e.giveO 2 Z) (e.giveB 1 Z) ((d.rp 10 Z).g (R Z) e) ((d.rb 11 Z).g e)) Z ?_
  rintro _ w ⟨ak,rfl,o⟩
  have a:=e.h o
  replace a:=a.nil U
  have e:=a.pick (os':=[W bh [vB false,.slice none 0 0],N U (.slice none 0 0) []]++[W bI [vB aS.1,ak],N U ak aS.2,W bf [vB x.1,ag],N U ag x.2.1,W aQ [vB x.2.2.1,ab],N U ab x.2.2.2,W n [vB j,c],N U c p,W l [vB f,b],N U b m]) [3,0,1,2,4,5,6,7,8,9,10,11] (by decide) Z
  obtain ⟨an,bY,h⟩:=aj h
  refine ao Z (ji false bH aS.1 bY e.g ((d.rp 8 Z).g (R Z) e) ((d.rb 9 Z).g e) (e.giveO 1 Z) (e.giveB 0 Z)) Z ?_
  rintro _ w ⟨bi,rfl,o⟩
  have a:=e.h o
  refine P 2 Z ?_
  refine I (aR ?_)
  replace a:=a.pick (os':=[W bh [vB an.1,bi],N U bi an.2,W bI [vB aS.1,ak],N U ak aS.2,W bf [vB x.1,ag],N U ag x.2.1,W aQ [vB x.2.2.1,ab],N U ab x.2.2.2]++[W n [vB j,c],N U c p,W l [vB f,b],N U b m]) [0,1,2,3,4,5,6,7,8,9,10,11] (by decide) rfl
  obtain ⟨cw,cp,hZ,d,q,a⟩:=hZ.frzT hTT d q a
  exact bv (bz _ (by exact ⟨Z,Z,Z,Z,Z,Z,Z,Z,Z,V⟩) (ce (bW,cn,x.2.2.1,x.2.2.2,bX,co,an.1,an.2) _ _ ⟨a7,bb,aQ,ab,bc,be,bh,bi,Z,(SfT.mk' hZ (Y (d.b 19 Z) (Y (d.b 18 Z) (Y (d.b 11 Z) (Y (d.b 10 Z) (Y (d.b 13 Z) (Y (d.b 12 Z) (Y (d.b 7 Z) (Y (d.b 6 Z) (Y (d.b 3 Z) (Y (d.b 2 Z) (Y (d.b 1 Z) (Y (d.b 0 Z) Q.nil)))))))))))) (X (q.b 19 Z) (X (q.b 18 Z) (X (q.b 11 Z) (X (q.b 10 Z) (X (q.b 13 Z) (X (q.b 12 Z) (X (q.b 7 Z) (X (q.b 6 Z) (X (q.b 3 Z) (X (q.b 2 Z) (X (q.b 1 Z) (X (q.b 0 Z) K.nil)))))))))))) a)⟩ (a8 h bL)))
 have h:=aI h aP
 refine bg ?_
 refine aF (aF ?_)
 have h:=aW h bL
 refine bd ?_
 refine O (J (J (H (P 1 Z ?_))))
 refine am (aq Z Z (jY u73 l 0)) Z (P 4 Z ?_)
 refine I (O (dM Z ?_))
 refine J (J (H (P 1 Z ?_)))
 refine am (aL Z) Z (am (av (k:=0) u101 Z Z nz4 Z) Z (am (aC Tryz.underlying4 Z Z ((d.rb 1 Z).cell a.fr 0 Z)) Z (I (O ?_))))
 refine aw Z (fun aT=>?_) (fun aT=>?_)
 ·have h:=aJ h aT
  refine H (P 2 Z ?_)
  cases h
 have h:=aI h aT
 refine az (O (J (H (aV (ba (cs:=[vB false,.slice none 0 0]) cT Z a) Z ?_))))
 rintro _ w ⟨ac,rfl,a⟩
 refine P 2 Z ?_
 replace a:=a.nil U
 have e:=a.pick (os':=[W ac [vB false,.slice none 0 0],N U (.slice none 0 0) []]++[W n [vB j,c],N U c p,W l [vB f,b],N U b m]) [1,0,2,3,4,5] (by decide) Z
 obtain ⟨bk,bZ,h⟩:=aj h
 refine ao Z (fU false u bH bZ e.g ((d.rp 0 Z).g (R Z) e) ((d.rb 1 Z).g e) ((d.rp 8 Z).g (R Z) e) ((d.rb 9 Z).g e)) Z ?_
 rintro _ w ⟨bM,rfl,o⟩
 have a:=e.h o
 refine P 1 Z ?_
 refine I (O (J (H (P 3 Z ?_))))
 have e:=a.pick (os':=[W ac [vB bk.1,bM],N U bM bk.2]++[W n [vB j,c],N U c p,W l [vB f,b],N U b m]) [0,1,2,3,4,5] (by decide) Z
 obtain ⟨bm,b0,h⟩:=aj h
 refine ao Z (kx bk.1 bG b0 e.g ((d.rp 4 Z).g (R Z) e) ((d.rb 5 Z).g e)) Z ?_
 rintro _ w ⟨bN,rfl,o⟩
 have a:=e.h o
 refine I (O (J (H (P 3 Z ?_))))
 have e:=a.pick (os':=[W ac [vB bm.1,bN],N U bN bm.2]++[W n [vB j,c],N U c p,W l [vB f,b],N U b m]) [0,1,2,3,4,5] (by decide) Z
 obtain ⟨ap,b1,h⟩:=aj h
 refine ao Z (kq bm.1 y b1 e.g ((d.rp 2 Z).g (R Z) e) ((d.rb 3 Z).g e)) Z ?_
 rintro _ w ⟨ay,rfl,o⟩
 have a:=e.h o
 refine I (O (J (J (H (P 1 Z ?_)))))
 refine am (aq Z Z (kX u73)) Z (I (O (fi Z ?_)))
 refine az (O (J (H (P 1 Z ?_))))
 refine am (aq Z Z (jY u73 l 0)) Z (I (O (dM Z ?_)))
 refine H (P 2 Z ?_)
 have e:=a.pick (os':=[W l [vB f,b],N U b m]++[W ac [vB ap.1,ay],N U ay ap.2,W n [vB j,c],N U c p]) [4,5,0,1,2,3] (by decide) Z
 obtain ⟨bO,b2,h⟩:=aj h
 refine ao Z (eW f bH b2 e.g ((d.rp 8 Z).g (R Z) e) ((d.rb 9 Z).g e)) Z ?_
 rintro _ w ⟨bp,rfl,o⟩
 have a:=e.h o
 refine I (O (J (H (P 2 Z ?_))))
 have e:=a.pick (os':=[W n [vB j,c],N U c p]++[W l [vB bO.1,bp],N U bp bO.2,W ac [vB ap.1,ay],N U ay ap.2]) [4,5,0,1,2,3] (by decide) Z
 obtain ⟨cx,b3,h⟩:=aj h
 refine ao Z (eW j bG b3 e.g ((d.rp 4 Z).g (R Z) e) ((d.rb 5 Z).g e)) Z ?_
 rintro _ w ⟨ch,rfl,o⟩
 have a:=e.h o
 refine P 1 Z ?_
 refine I (O (ax ?_))
 cases h
 replace a:=hZ.st a
 exact aG Z Z ⟨ch,bp,Z,a.e [0,1,2,3] Z Z⟩
theorem jm {o:World} {i y z:List UInt32} {b t u:Value} {f A B:Nat} {S:List Nat} (e p q:Bool) {r:Bool×List UInt32}
  (h:F.Ez e i p y q z=some r) (a:St S o o [W f [vB e,b],N U b i]) (ac:RP S o U t y) (hBa1:RB S o A [vB p,t]) (ad:RP S o U u z) (hBa2:RB S o B [vB q,u]):Calls Tryz.prog 134 #[M f 0,M A 0,M B 0] o (Ret fun v w=>∃C:Value,v=M f 0∧St S o w [W f [vB r.1,C],N U C r.2]):=by
 refine aH 32 Tryz.func134 Z Z Z ?_
 refine au [(0,M f 0),(1,M A 0),(2,M B 0)] ⟨Z,Z,Z,V⟩ ?_
 unfold F.Ez at h
 refine J (H (P 1 Z ?_))
 refine I (O (J (H (aV (ba (cs:=[vB false,.slice none 0 0]) cT Z a) Z ?_))))
 rintro _ w ⟨x,rfl,a⟩
 refine P 1 Z ?_
 replace a:=a.nil U
 have c:=a.pick (os':=[W x [vB false,.slice none 0 0],N U (.slice none 0 0) []]++[W f [vB e,b],N U b i]) [1,0,2,3] (by decide) Z
 obtain ⟨g,ap,h⟩:=aj h
 refine ao Z (d9 false q ap c.g (ad.g (R Z) c) (hBa2.g c)) Z ?_
 rintro _ w ⟨l,rfl,d⟩
 have a:=c.h d
 refine P 1 Z ?_
 refine I (O (J (H (aV (ba (cs:=[vB false,.slice none 0 0]) cT Z a) Z ?_))))
 rintro _ w ⟨D,rfl,a⟩
 refine P 2 Z ?_
 replace a:=a.nil U
 have c:=a.pick (os':=[W D [vB false,.slice none 0 0],N U (.slice none 0 0) []]++[W x [vB g.1,l],N U l g.2,W f [vB e,b],N U b i]) [1,0,2,3,4,5] (by decide) Z
 obtain ⟨k,ag,h⟩:=aj h
 refine ao Z (iX false p g.1 ag c.g (ac.g (R Z) c) (hBa1.g c) (c.giveO 1 Z) (c.giveB 0 Z)) Z ?_
 rintro _ w ⟨m,rfl,d⟩
 have a:=c.h d
 refine P 1 Z ?_
 refine I (O (J (H (aV (ba (cs:=[vB false,.slice none 0 0]) cT Z a) Z ?_))))
 rintro _ w ⟨E,rfl,a⟩
 refine P 1 Z ?_
 refine I (O (J (H (aV (ba (cs:=[vB false,.slice none 0 0]) cT Z a) Z ?_))))
 rintro _ w ⟨G,rfl,a⟩
 refine P 3 Z ?_
 replace a:=a.nil U
 replace a:=a.nil U
 have c:=a.pick (os':=[W G [vB false,.slice none 0 0],N U (.slice none 0 0) [],W E [vB false,.slice none 0 0],N U (.slice none 0 0) []]++[W D [vB k.1,m],N U m k.2,W x [vB g.1,l],N U l g.2,W f [vB e,b],N U b i]) [2,1,3,0,4,5,6,7,8,9] (by decide) Z
 obtain ⟨j,ak,h⟩:=aj h
 refine ao Z (mQ false false k.1 g.1 ak c.g (c.giveO 1 Z) (c.giveB 0 Z) (c.giveO 3 Z) (c.giveB 2 Z)) Z ?_
 rintro _ w ⟨L,T,rfl,d⟩
 have a:=c.h d
 refine P 1 Z ?_
 refine I (O (J (J (H (P 1 Z ?_)))))
 obtain ⟨s,al,h⟩:=aj h
 refine ao Z (cC 1 al ) Z ?_
 rintro _ w ⟨ab,aq,rfl,d⟩
 have a:=a.f d
 obtain ⟨av,am,h⟩:=aj h
 refine ao Z (eP j.1 s.1 am (a.ro 3 Z).rp (a.rb 2 Z) (a.ro 1 Z).rp (a.rb 0 Z)) Z ?_
 rintro _ w ⟨rfl,d⟩
 have a:=a.f d
 refine P 1 Z ?_
 refine I (O ?_)
 refine aw Z (fun n=>?_) (fun n=>?_)
 ·have h:=aJ h n
  refine J (H (P 1 Z ?_))
  refine I (O (ax (aE ?_)))
  cases h
 have h:=aI h n
 refine az (O (J (H (P 3 Z ?_))))
 have c:=a.pick (os':=[W f [vB e,b],N U b i]++[W aq [vB s.1,ab],N U ab s.2,W G [vB j.1,L],N U L j.2.1,W E [vB j.2.2.1,T],N U T j.2.2.2,W D [vB k.1,m],N U m k.2,W x [vB g.1,l],N U l g.2]) [10,11,0,1,2,3,4,5,6,7,8,9] (by decide) Z
 obtain ⟨ay,an,h⟩:=aj h
 refine ao Z (iX e j.2.2.1 g.1 an c.g (c.giveO 5 Z) (c.giveB 4 Z) (c.giveO 9 Z) (c.giveB 8 Z)) Z ?_
 rintro _ w ⟨ar,rfl,d⟩
 have a:=c.h d
 refine P 1 Z ?_
 refine I (O (ax ?_))
 cases h
 exact aG Z Z ⟨ar,Z,a.e [0,1] Z Z⟩
end Go.Proofs
