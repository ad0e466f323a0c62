import Derived.Test.YtkickcbphbgldaaGreatDoorTW0
import Derived.Test.YtkickcbphbgldaaGreatDoorGkFman
import Derived.Test.YtkickcbphbgldaaGreatDoorTWbignumb
set_option linter.unusedVariables false
set_option linter.unusedSimpArgs false
set_option linter.unusedSectionVars false
set_option maxRecDepth 4000
namespace Go.Proofs
open Go Go.RowKit Go.Gk
open Go.Gk renaming Off → K, Rds → Q, aa → P, ae → O, ah → J, ai → H, e32 → U, own → M, pB → N, vB → I
open Nat renaming le_of_ble_eq_true → R
open Go.Gk.OE renaming bx → X
open Go.Gk.Off renaming cons → W
open Go.Gk.Rds renaming cons → Y
theorem jq {d:World} {e m n:List UInt32} {a j k:Value} {b o p:Nat} {S:List Nat} (c f g:Bool) {r:Bool×List UInt32}
  (h:F.Ed c e f m g n=some r) (i:St S d d [X b [I c,a],M U a e]) (s:RP S d U j m) (hBa1:RB S d o [I f,j]) (t:RP S d U k n) (hBa2:RB S d p [I g,k]):Calls Tryz.prog 75 #[N b 0,N o 0,N p 0] d (Ret fun v w=>∃q:Value,v=N b 0∧St S d w [X b [I r.1,q],M U q r.2]):=by
 refine aJ 13 Tryz.func75 Z Z Z ?_
 refine au [(0,N b 0),(1,N o 0),(2,N p 0)] ⟨Z,Z,Z,V⟩ ?_
 unfold F.Ed at h
 refine J (af (P 1 Z ?_))
 refine H (O (J (af (aT (aY (cs:=[I false,.slice none 0 0]) c6 Z i) Z ?_))))
 rintro _ w ⟨x,rfl,i⟩
 refine P 3 Z ?_
 replace i:=i.nil U
 have l:=i.pick (os':=[X x [I false,.slice none 0 0],M U (.slice none 0 0) [],X b [I c,a],M U a e]++[]) [1,0,2,3] (by decide) Z
 obtain ⟨A,u,h⟩:=aj h
 refine ao Z (k7 false f g c u l.g (s.g (R Z) l) (hBa1.g l) (t.g (R Z) l) (hBa2.g l)) Z ?_
 rintro _ w ⟨B,y,rfl,z⟩
 have i:=l.h z
 refine H (O (J (af (P 2 Z ?_))))
 refine H (O (aw ?_))
 cases h
 exact aF Z Z ⟨y,Z,i.e [2,3] Z Z⟩
theorem gy {i:World} {d j:List UInt32} {b g:Value} {a k:Nat} {S:List Nat} (c e:Bool) {r:Bool×List UInt32}
  (h:F.Dx c d e j=some r) (f:St S i i [X a [I c,b],M U b d]) (m:RP S i U g j) (hBa2:RB S i k [I e,g]):Calls Tryz.prog 75 #[N a 0,N a 0,N k 0] i (Ret fun v w=>∃l:Value,v=N a 0∧St S i w [X a [I r.1,l],M U l r.2]):=by
 refine aJ 13 Tryz.func75 Z Z Z ?_
 refine au [(0,N a 0),(1,N a 0),(2,N k 0)] ⟨Z,Z,Z,V⟩ ?_
 unfold F.Dx at h
 refine J (af (P 1 Z ?_))
 refine H (O (J (af (aT (aY (cs:=[I false,.slice none 0 0]) c6 Z f) Z ?_))))
 rintro _ w ⟨p,rfl,f⟩
 refine P 3 Z ?_
 replace f:=f.nil U
 have n:=f.pick (os':=[X p [I false,.slice none 0 0],M U (.slice none 0 0) [],X a [I c,b],M U b d]++[]) [1,0,2,3] (by decide) Z
 obtain ⟨t,o,h⟩:=aj h
 refine ao Z (jy false e c o n.g (m.g (R Z) n) (hBa2.g n)) Z ?_
 rintro _ w ⟨u,q,rfl,s⟩
 have f:=n.h s
 refine H (O (J (af (P 2 Z ?_))))
 refine H (O (aw ?_))
 cases h
 exact aF Z Z ⟨q,Z,f.e [2,3] Z Z⟩
theorem fk {b:World} {n o:List UInt32} {l m:Value} {p q:Nat} (c d:Bool) {r:Int}
  (h:F.CN c n d o=some r) (s:RP [] b U l n) (hBa0:RB [] b p [I c,l]) (t:RP [] b U m o) (hBa1:RB [] b q [I d,m]):Calls Tryz.prog 141 #[N p 0,N q 0] b (Ret fun v w=>v=vI r∧St [] b w []):=by
 refine aJ 35 Tryz.func141 Z Z Z ?_
 have a:=St.l b
 refine au [(0,N p 0),(1,N q 0)] ⟨Z,Z,V⟩ ?_
 unfold F.CN at h
 refine J (af (P 1 Z ?_))
 refine H (O (J (J ?_)))
 refine aZ (fun w'=>St [] b w' []) (fun _=>true) bS (fun _ _ _ e=>e.2) (fun _ _ e=>e) (by kernel_rfl) ?_
 have a:=a.drew
 show lxE _ _ _ _ _ _ _ [0,1,2,3,4,5,6,7,8] _ _
 refine al a Z Z (fun w hF=>ar Z) Z (al a Z Z (fun w hF=>aK Z) Z (al a Z Z (fun w hF=>av (k:=0) u101 Z Z nz4 Z) Z (al a Z Z (fun w hF=>aC Tryz.underlying4 Z Z (hBa0.cell hF.fr 0 Z)) Z (al a Z Z (fun w hF=>ar Z) Z (al a Z Z (fun w hF=>aK Z) Z (al a Z Z (fun w hF=>av (k:=0) u101 Z Z nz4 Z) Z (al a Z Z (fun w hF=>aC Tryz.underlying4 Z Z (hBa1.cell hF.fr 0 Z)) Z (al a Z Z (fun w hF=>aq Z Z (l7 _ c d Tryz.underlying4 Z)) Z ?_))))))))
 refine bn a ?_
 refine O ?_
 refine ax Z (fun f=>?_) (fun f=>?_)
 ·have h:=aI h f
  refine J (J (af (P 1 Z ?_)))
  refine am (aK Z) Z (am (av (k:=0) u101 Z Z nz4 Z) Z (am (aC Tryz.underlying4 Z Z (hBa0.cell a.fr 0 Z)) Z (H (O ?_))))
  refine ax Z (fun g=>?_) (fun g=>?_)
  ·have h:=aI h g
   refine J (af (P 1 Z ?_))
   refine H (O (aw (aE (aE ?_))))
   cases h
   exact aF Z Z ⟨Z,a⟩
  have h:=aH h g
  refine ay (O (J (af (P 1 Z ?_))))
  refine H (O (aw (aE ?_)))
  cases h
  exact aF Z Z ⟨Z,a⟩
 have h:=aH h f
 refine ay (O (J ?_))
 refine aZ (fun w'=>St [] b w' []) (fun i=>!([8].contains i)) bS (fun _ _ _ e=>e.2) (fun _ _ e=>e) (by kernel_rfl) ?_
 have a:=a.drew
 show lxE _ _ _ _ _ _ _ [0,1,2,3,4,5,6,7,8,9] _ _
 refine al a Z Z (fun w hF=>ar Z) Z (al a Z Z (fun w hF=>aK Z) Z (al a Z Z (fun w hF=>av (k:=1) u101 Z Z dc Z) Z (al a Z Z (fun w hF=>aC u30 Z Z (hBa0.cell hF.fr 1 Z)) Z (al a Z Z (fun w hF=>ar Z) Z (al a Z Z (fun w hF=>aK Z) Z (al a Z Z (fun w hF=>av (k:=1) u101 Z Z dc Z) Z (al a Z Z (fun w hF=>aC u30 Z Z (hBa1.cell hF.fr 1 Z)) Z ?_)))))))
 obtain ⟨x,u,h⟩:=aj h
 refine bg a Z Z (by kernel_rfl) Z (jo  u (s.d a.fr).rp (t.d a.fr).rp) Z ?_
 rintro _ w ⟨rfl,y⟩
 have a:=a.f y
 refine al a Z Z (fun w hF=>aB Z) Z (bn a ?_)
 refine O (J (J (af (P 1 Z ?_))))
 refine am (aK Z) Z (am (av (k:=0) u101 Z Z nz4 Z) Z (am (aC Tryz.underlying4 Z Z (hBa0.cell a.fr 0 Z)) Z (H (O ?_))))
 refine ax Z (fun j=>?_) (fun j=>?_)
 ·have h:=aI h j
  refine J (af (P 1 Z ?_))
  refine am (iu Z (AM x)) Z (P 1 Z ?_)
  refine H (O (aw (aE ?_)))
  cases h
  exact aF Z Z ⟨Z,a⟩
 have h:=aH h j
 refine ay (O (J (af (P 2 Z ?_))))
 refine H (O (aw ?_))
 cases h
 exact aF Z Z ⟨Z,a⟩
theorem fC {b:World} {c:List UInt32} {a:Value} {d:Nat} (e:Bool) {r:Int}
  (h:F.DF e c=some r) (g:RP [] b U a c) (hBa0:RB [] b d [I e,a]):Calls Tryz.prog 87 #[N d 0] b (Ret fun v w=>v=vI r∧St [] b w []):=by
 refine aJ 8 Tryz.func87 Z Z Z ?_
 have f:=St.l b
 refine au [(0,N d 0)] ⟨Z,V⟩ ?_
 unfold F.DF at h
 refine J (af (P 1 Z ?_))
 refine H (O (J (af (P 1 Z ?_))))
 refine am (aK Z) Z (am (av (k:=1) u101 Z Z dc Z) Z (am (aC u30 Z Z (hBa0.cell f.fr 1 Z)) Z ?_))
 obtain ⟨l,i,h⟩:=aj h
 refine ao Z (gI  i (g.d f.fr).rp) Z ?_
 rintro _ w ⟨rfl,j⟩
 have f:=f.f j
 refine P 1 Z ?_
 refine H (O (aw ?_))
 cases h
 exact aF Z Z ⟨Z,f⟩
theorem me {e:World} {a0:List UInt32} {d:Value} (a1:Int) {r:UInt64}
  (h:F.EB a0 a1=some r) (f:RP [] e U d a0):Calls Tryz.prog 152 #[d,vI a1] e (Ret fun v w=>v=v64 r∧St [] e w []):=by
 refine aJ 25 Tryz.func152 Z Z Z ?_
 have b:=St.l e
 refine au [(0,d),(1,vI a1)] ⟨Z,Z,V⟩ ?_
 unfold F.EB at h
 refine J (af (P 1 Z ?_))
 refine H (O (J ?_))
 refine a9 (r:=r) (fun (g:Bool) L w=>L=[(0,d),(1,vI a1),(13,I g)]∧St [] e w []) (F.E4 a0 a1) ?_ ?_
 rotate_left
 ·intro i
  refine af (P 3 Z ?_)
  cases a:(decide (a1<0))
  case true=>
   have h:=aI h a
   try simp only [a]
   refine P 6 Z ?_
   refine H (O ?_)
   exact au _ (by exact ⟨Z,Z,Z,V⟩) (i true _ _ ⟨Z,b⟩ h)
  case false=>
   have h:=aH h a
   try simp only [a]
   refine P 1 Z ?_
   refine ba (t:=7) Z Z (aq Z Z (dS _ a1 32 (by decide))) Z ?_
   refine P 1 Z ?_
   refine ba (t:=7) Z Z (aN u30 Z (f.d b.fr)) Z (P 2 Z ?_)
   refine H (O ?_)
   exact au _ (by exact ⟨Z,Z,Z,V⟩) (i (decide ((a0.length:Int)≤(wI (Int.tdiv a1 32)))) _ _ ⟨Z,b⟩ h)
 rintro l L w hJ h
 try dsimp only at hJ
 obtain ⟨rfl,b⟩:=hJ
 unfold F.E4 at h
 refine ax Z (fun c=>?_) (fun c=>?_)
 ·have h:=aI h c
  refine J (af (P 1 Z ?_))
  refine H (O (aw (aE ?_)))
  cases h
  exact aF Z Z ⟨Z,b⟩
 have h:=aH h c
 refine ay (O (J (af (P 2 Z ?_))))
 refine am (aq Z Z (dS _ a1 32 (by decide))) Z ?_
 obtain ⟨j,k,h⟩:=aj h
 refine am (bm u30 aV Z Z (f.d b.fr) k) Z (am (bb u38 Z Z (f.d b.fr) k Z) Z (P 1 Z ?_))
 refine am (aM Z (ff Tryz.underlying3 u112 a1)) Z ?_
 refine am (aq Z Z (fe _ (UInt64.ofInt a1) 32 (by decide))) Z ?_
 refine am (aq Z Z (dk _ j ((UInt64.ofInt a1)%32))) Z (am (aM Z (bp u38 u112 (bB j (((UInt64.ofInt a1)%32).toNat)))) Z (am (aq Z Z (i4 _ ((bB j (((UInt64.ofInt a1)%32).toNat)).toUInt64) 1)) Z (P 1 Z ?_)))
 refine H (O (aw ?_))
 cases h
 exact aF Z Z ⟨Z,b⟩
theorem gf {i:World} {j:List UInt32} {f:Value} {m:Nat} (n:Bool) (a1:Int) {r:UInt64}
  (h:F.DQ n j a1=some r) (g:RP [] i U f j) (hBa0:RB [] i m [I n,f]):Calls Tryz.prog 88 #[N m 0,vI a1] i (Ret fun v w=>v=v64 r∧St [] i w []):=by
 refine aJ 27 Tryz.func88 Z Z Z ?_
 have a:=St.l i
 refine au [(0,N m 0),(1,vI a1)] ⟨Z,Z,V⟩ ?_
 unfold F.DQ at h
 refine J (af (P 1 Z ?_))
 refine H (O (J (J (af (P 2 Z ?_)))))
 refine H (O ?_)
 refine ax Z (fun c=>?_) (fun c=>?_)
 ·have h:=aI h c
  refine J (af (P 1 Z ?_))
  refine H (O (aw (aE ?_)))
  cases h
  exact aF Z Z ⟨Z,a⟩
 have h:=aH h c
 refine ay (O (J (J (af (P 1 Z ?_)))))
 refine am (aK Z) Z (am (av (k:=0) u101 Z Z nz4 Z) Z (am (aC Tryz.underlying4 Z Z (hBa0.cell a.fr 0 Z)) Z (P 1 Z ?_)))
 refine H (O ?_)
 refine ax Z (fun d=>?_) (fun d=>?_)
 ·have h:=aI h d
  refine J (af (P 1 Z ?_))
  refine am (aK Z) Z (am (av (k:=1) u101 Z Z dc Z) Z (am (aC u30 Z Z (hBa0.cell a.fr 1 Z)) Z (P 1 Z ?_)))
  obtain ⟨t,o,h⟩:=aj h
  refine ao Z (me a1 o (g.d a.fr).rp) Z ?_
  rintro _ w ⟨rfl,b⟩
  have a:=a.f b
  refine P 1 Z ?_
  refine H (O (aw (aE ?_)))
  cases h
  exact aF Z Z ⟨Z,a⟩
 have h:=aH h d
 refine ay (O (J (af (P 1 Z ?_))))
 refine am (aK Z) Z (am (av (k:=1) u101 Z Z dc Z) Z (am (aC u30 Z Z (hBa0.cell a.fr 1 Z)) Z ?_))
 refine aT (cV (e:=U) (l:=([1]:List UInt32)) (vs:=[v32 1]) u30 aV Z Z Z Z (by decide) (by decide) a) Z ?_
 rintro u w a
 obtain ⟨x,p,h⟩:=aj h
 refine ao Z (jm  p (g.d a.fr).rp (a.ro 0 Z).rp) Z ?_
 rintro y w b
 have a:=a.f b
 refine P 1 Z ?_
 obtain ⟨s,q,h⟩:=aj h
 refine ao Z (me a1 q (a.ro 0 Z).rp) Z ?_
 rintro _ w ⟨rfl,b⟩
 have a:=a.f b
 refine am (aq Z Z (eZ _ s 1)) Z (P 1 Z ?_)
 refine H (O (aw ?_))
 cases h
 exact aF Z Z ⟨Z,a.e [] Z Z⟩
theorem eg {g:World} {d i:List UInt32} {a f:Value} {b j:Nat} {S:List Nat} (c l:Bool) {r:Bool×List UInt32}
  (h:F.Ce c d l i=some r) (e:St S g g [X b [I c,a],M U a d]) (o:RP S g U f i) (hBa1:RB S g j [I l,f]):Calls Tryz.prog 172 #[N b 0,N j 0] g (Ret fun v w=>∃m:Value,v=N b 0∧St S g w [X b [I r.1,m],M U m r.2]):=by
 refine aJ 12 Tryz.func172 Z Z Z ?_
 refine au [(0,N b 0),(1,N j 0)] ⟨Z,Z,V⟩ ?_
 unfold F.Ce at h
 refine J (af (P 1 Z ?_))
 refine H (O (J (af (P 2 Z ?_))))
 refine am (aK Z) Z (am (av (k:=1) u101 Z Z dc Z) Z (am (aC u30 Z Z (hBa1.cell e.fr 1 Z)) Z ?_))
 obtain ⟨s,p,h⟩:=aj h
 refine ao Z (iF  p (o.d e.fr).rp) Z ?_
 rintro t w n
 have e:=e.f n
 have u:=e.pick (os':=[X b [I c,a],M U a d,M U t s]++[]) [1,2,0] (by decide) Z
 obtain ⟨y,q,h⟩:=aj h
 refine ao Z (bH c false q u.g ) Z ?_
 rintro _ w ⟨x,rfl,n⟩
 have e:=u.h n
 refine P 1 Z ?_
 refine H (O (aw ?_))
 cases h
 exact aF Z Z ⟨x,Z,e.e [0,1] Z Z⟩
theorem kU {i:World} {d j:List UInt32} {b g:Value} {a k:Nat} {S:List Nat} (c e:Bool) {r:Bool×List UInt32}
  (h:F.Fm c d e j=some r) (f:St S i i [X a [I c,b],M U b d]) (m:RP S i U g j) (hBa2:RB S i k [I e,g]):Calls Tryz.prog 191 #[N a 0,N a 0,N k 0] i (Ret fun v w=>∃l:Value,v=N a 0∧St S i w [X a [I r.1,l],M U l r.2]):=by
 refine aJ 13 Tryz.func191 Z Z Z ?_
 refine au [(0,N a 0),(1,N a 0),(2,N k 0)] ⟨Z,Z,Z,V⟩ ?_
 unfold F.Fm at h
 refine J (af (P 1 Z ?_))
 refine H (O (J (af (P 3 Z ?_))))
 refine aT (aY (cs:=[I false,.slice none 0 0]) c6 Z f) Z ?_
 rintro _ w ⟨p,rfl,f⟩
 replace f:=f.nil U
 have n:=f.pick (os':=[X a [I c,b],M U b d,X p [I false,.slice none 0 0],M U (.slice none 0 0) []]++[]) [2,3,1,0] (by decide) Z
 obtain ⟨t,o,h⟩:=aj h
 refine ao Z (jv c e false o n.g (m.g (R Z) n) (hBa2.g n)) Z ?_
 rintro _ w ⟨q,u,rfl,s⟩
 have f:=n.h s
 refine H (O (J (af (P 2 Z ?_))))
 refine H (O (aw ?_))
 cases h
 exact aF Z Z ⟨q,Z,f.e [0,1] Z Z⟩
theorem nK {E:World} {p m B C:List UInt32} {c b z A:Value} {n l G T:Nat} {S:List Nat} (j f u y:Bool) {r:Bool×List UInt32×Bool×List UInt32}
  (h:F.FS j p f m u B y C=some r) (a:St S E E [X n [I j,c],M U c p,X l [I f,b],M U b m]) (b4:RP S E U z B) (hBa3:RB S E G [I u,z]) (b5:RP S E U A C) (hBa4:RB S E T [I y,A]):Calls Tryz.prog 173 #[N n 0,N l 0,.pointer none,N G 0,N T 0] E (Ret fun v w=>∃bP bQ:Value,v=N n 0∧St S E w [X n [I r.1,bP],M U bP r.2.1,X l [I r.2.2.1,bQ],M U bQ r.2.2.2]):=by
 refine aJ 161 Tryz.func173 Z Z Z ?_
 have hZ:=Fz.l (S:=S) (w0:=E)
 have hTT:TOk S [] E:=TOk.nil
 have d:Q S E [X T [I y,A],red U A C,X G [I u,z],red U z B]:=Y hBa4.i (Y (RP.i (R Z) b5) (Y hBa3.i (Y (RP.i (R Z) b4) (Q.nil))))
 have q:K [] [X T [I y,A],red U A C,X G [I u,z],red U z B]:=K.emp
 refine au [(0,N n 0),(1,N l 0),(2,.pointer none),(3,N G 0),(4,N T 0)] ⟨Z,Z,Z,Z,Z,V⟩ ?_
 unfold F.FS at h
 refine J (af (P 1 Z ?_))
 refine H (O (J ?_))
 refine a9 (r:=r) (fun (g:Bool) L w=>L=[(0,N n 0),(1,N l 0),(2,.pointer none),(3,N G 0),(4,N T 0),(35,I g)]∧SfT S [] E w [X T [I y,A],red U A C,X G [I u,z],red U z B] [X n [I j,c],M U c p,X l [I f,b],M U b m]) (F.E3 j p u B y C f m) ?_ ?_
 rotate_left
 ·intro bR
  refine af (P 1 Z ?_)
  refine am (aK Z) Z (am (av (k:=1) u101 Z Z dc Z) Z (am (aC u30 Z Z ((d.rb 1 Z).cell a.fr 1 Z)) Z (am (aN u30 Z ((d.rp 0 Z).d a.fr)) Z (P 2 Z ?_))))
  cases aV:((B.length:Int) == 0)
  case true=>
   have h:=aI h aV
   try simp only [aV]
   refine P 7 Z ?_
   refine H (O ?_)
   exact au _ (by exact ⟨Z,Z,Z,Z,Z,Z,V⟩) (bR true _ _ ⟨Z,(SfT.mk' hZ (Y (d.b 3 Z) (Y (d.b 2 Z) (Y (d.b 1 Z) (Y (d.b 0 Z) Q.nil)))) (W (q.b 3 Z) (W (q.b 2 Z) (W (q.b 1 Z) (W (q.b 0 Z) K.nil)))) a)⟩ h)
  case false=>
   have h:=aH h aV
   try simp only [aV]
   refine P 1 Z ?_
   refine ba (t:=28) Z Z (aK Z) Z (ba (t:=28) Z Z (av (k:=1) u101 Z Z dc Z) Z (ba (t:=28) Z Z (aC u30 Z Z ((d.rb 3 Z).cell a.fr 1 Z)) Z (ba (t:=28) Z Z (aN u30 Z ((d.rp 2 Z).d a.fr)) Z (P 2 Z ?_))))
   refine H (O ?_)
   exact au _ (by exact ⟨Z,Z,Z,Z,Z,Z,V⟩) (bR ((C.length:Int) == 0) _ _ ⟨Z,(SfT.mk' hZ (Y (d.b 3 Z) (Y (d.b 2 Z) (Y (d.b 1 Z) (Y (d.b 0 Z) Q.nil)))) (W (q.b 3 Z) (W (q.b 2 Z) (W (q.b 1 Z) (W (q.b 0 Z) K.nil)))) a)⟩ h)
 rintro cI L w hJ h
 try dsimp only at hJ
 obtain ⟨rfl,⟨ci,bT,hZ,d,q,a⟩⟩:=hJ
 unfold F.E3 at h
 refine ax Z (fun aA=>?_) (fun aA=>?_)
 ·have h:=aI h aA
  refine J ?_
  refine aZ (fun w'=>St ci bT w' [X n [I j,c],M U c p,X l [I f,b],M U b m]) (fun _=>true) bS (fun _ _ _ hf=>hf.2) (fun _ _ hf=>hf) (by kernel_rfl) ?_
  have a:=a.drew
  show lxE _ _ _ _ _ _ _ [0,1,2,3,4,5,6,7,8,9,10,11] _ _
  refine al a Z Z (fun w hF=>ar Z) Z (al a Z Z (fun w hF=>aK Z) Z (al a Z Z (fun w hF=>av (k:=1) u101 Z Z dc Z) Z (al a Z Z (fun w hF=>aC u30 Z Z ((d.rb 1 Z).cell hF.fr 1 Z)) Z (al a Z Z (fun w hF=>aN u30 Z ((d.rp 0 Z).d hF.fr)) Z (al a Z Z (fun w hF=>ar Z) Z (al a Z Z (fun w hF=>aK Z) Z (al a Z Z (fun w hF=>av (k:=1) u101 Z Z dc Z) Z (al a Z Z (fun w hF=>aC u30 Z Z ((d.rb 3 Z).cell hF.fr 1 Z)) Z ?_))))))))
  refine al a Z Z (fun w hF=>aN u30 Z ((d.rp 2 Z).d hF.fr)) Z (al a Z Z (fun w hF=>aB Z) Z (al a Z Z (fun w hF=>aB Z) Z (bn a ?_)))
  refine O (J ?_)
  refine aZ (fun w'=>St ci bT w' [X n [I j,c],M U c p,X l [I f,b],M U b m]) (fun _=>true) bS (fun _ _ _ hf=>hf.2) (fun _ _ hf=>hf) (by kernel_rfl) ?_
  have a:=a.drew
  show lxE _ _ _ _ _ _ _ [0,1,2,3,4,5,6,7,8,9] _ _
  refine al a Z Z (fun w hF=>ar Z) Z (al a Z Z (fun w hF=>aK Z) Z (al a Z Z (fun w hF=>av (k:=0) u101 Z Z nz4 Z) Z (al a Z Z (fun w hF=>aC Tryz.underlying4 Z Z ((d.rb 1 Z).cell hF.fr 0 Z)) Z (al a Z Z (fun w hF=>ar Z) Z (al a Z Z (fun w hF=>aK Z) Z (al a Z Z (fun w hF=>av (k:=0) u101 Z Z nz4 Z) Z (al a Z Z (fun w hF=>aC Tryz.underlying4 Z Z ((d.rb 3 Z).cell hF.fr 0 Z)) Z (al a Z Z (fun w hF=>aB Z) Z ?_))))))))
  refine al a Z Z (fun w hF=>aB Z) Z (bn a ?_)
  refine O ?_
  refine a9 (r:=r) (fun (g:Bool×List UInt32) L w=>∃(D:Value),L=[(0,N n 0),(1,N l 0),(2,.pointer none),(11,vI (B.length:Int)),(12,vI (C.length:Int)),(13,I u),(14,I y)]∧SfT S [] E w [] [M U D g.2,X n [I g.1,D],X l [I f,b],M U b m]) (F.FW f m u B) ?_ ?_
  rotate_left
  ·intro bJ
   refine J (af (P 2 Z ?_))
   refine H (O ?_)
   refine ax Z (fun aX=>?_) (fun aX=>?_)
   ·have h:=aI h aX
    refine af (P 2 Z ?_)
    have e:=a.pick (os':=[X n [I j,c],M U c p]++[X l [I f,b],M U b m]) [0,1,2,3] (by decide) Z
    obtain ⟨bU,b6,h⟩:=aj h
    refine ao Z (eg j y b6 e.g ((d.rp 2 Z).g (R Z) e) ((d.rb 3 Z).g e)) Z ?_
    rintro _ w ⟨cj,rfl,o⟩
    have a:=e.h o
    refine H (O ?_)
    exact au _ (by exact ⟨Z,Z,Z,Z,Z,Z,Z,V⟩) (bJ (bU.1,bU.2) _ _ ⟨cj,Z,(SfT.mk' hZ Q.nil K.nil (a.e [1,0,2,3] Z Z))⟩ h)
   have h:=aH h aX
   refine af (P 2 Z ?_)
   have e:=a.pick (os':=[X n [I j,c],M U c p]++[X l [I f,b],M U b m]) [0,1,2,3] (by decide) Z
   obtain ⟨bV,b7,h⟩:=aj h
   refine ao Z (eg j u b7 e.g ((d.rp 0 Z).g (R Z) e) ((d.rb 1 Z).g e)) Z ?_
   rintro _ w ⟨ck,rfl,o⟩
   have a:=e.h o
   refine H (O ?_)
   exact au _ (by exact ⟨Z,Z,Z,Z,Z,Z,Z,V⟩) (bJ (bV.1,bV.2) _ _ ⟨ck,Z,(SfT.mk' hZ Q.nil K.nil (a.e [1,0,2,3] Z Z))⟩ h)
  rintro ⟨a0,a1⟩ L w hJ h
  try dsimp only at hJ
  obtain ⟨D,rfl,⟨cy,cq,hZ,d,q,a⟩⟩:=hJ
  unfold F.FW at h
  refine a9 (r:=r) (fun (g:Bool×List UInt32) L w=>∃(a2:Value),L=[(0,N n 0),(2,.pointer none),(11,vI (B.length:Int)),(12,vI (C.length:Int)),(14,I y)]∧SfT S [] E w [] [X n [I a0,D],M U D a1,M U a2 g.2,X l [I g.1,a2]]) (F.FX a0 a1) ?_ ?_
  rotate_left
  ·intro bK
   refine J (af (P 1 Z ?_))
   refine am (aq Z Z (kl u73 l 0)) Z (H (O (dZ Z ?_)))
   refine J (af (P 1 Z ?_))
   have e:=a.pick (os':=[X l [I f,b],M U b m]++[M U D a1,X n [I a0,D]]) [2,3,0,1] (by decide) Z
   obtain ⟨aL,b8,h⟩:=aj h
   refine ao Z (fc f 0 b8 e.g ) Z ?_
   rintro _ w ⟨bs,rfl,o⟩
   have a:=e.h o
   refine H (O (J (af (P 2 Z ?_))))
   refine H (O ?_)
   refine ax Z (fun a3=>?_) (fun a3=>?_)
   ·have h:=aI h a3
    refine J (af (P 1 Z ?_))
    have e:=a.pick (os':=[X l [I aL.1,bs],M U bs aL.2]++[M U D a1,X n [I a0,D]]) [0,1,2,3] (by decide) Z
    obtain ⟨cl,b9,h⟩:=aj h
    refine ao Z (fc aL.1 1 b9 e.g ) Z ?_
    rintro _ w ⟨cm,rfl,o⟩
    have a:=e.h o
    refine H (O (af (P 2 Z ?_)))
    refine am (aK Z) Z (am (av (k:=0) u101 Z Z nz4 Z) Z (bk (bl (i:=0) (us:=[I u]) Z sz4 Z Z Z ⟨Z,V⟩ Z a) ?_))
    intro w a
    refine H (O ?_)
    exact au _ (by exact ⟨Z,Z,Z,Z,Z,V⟩) (bK (u,cl.2) _ _ ⟨cm,Z,(SfT.mk' hZ Q.nil K.nil (a.e [3,2,1,0] Z Z))⟩ h)
   have h:=aH h a3
   refine ay (O ?_)
   exact au _ (by exact ⟨Z,Z,Z,Z,Z,V⟩) (bK (aL.1,aL.2) _ _ ⟨bs,Z,(SfT.mk' hZ Q.nil K.nil (a.e [3,2,1,0] Z Z))⟩ h)
  rintro ⟨cz,cA⟩ L w hJ h
  try dsimp only at hJ
  obtain ⟨a2,rfl,⟨cB,cr,hZ,d,q,a⟩⟩:=hJ
  unfold F.FX at h
  refine J (J (af (P 1 Z ?_)))
  refine am (aq Z Z (lT u73)) Z (H (O (fE Z ?_)))
  refine ay (O (J (af (P 2 Z ?_))))
  refine H (O (aw (aE ?_)))
  cases h
  replace a:=hZ.st a
  exact aF Z Z ⟨D,a2,Z,a.e [0,1,3,2] Z Z⟩
 have h:=aH h aA
 refine ay (O (J (af (aT (aY (cs:=[I false,.slice none 0 0]) c6 Z a) Z ?_))))
 rintro _ w ⟨aM,rfl,a⟩
 refine P 1 Z ?_
 replace a:=a.nil U
 have e:=a.pick (os':=[X aM [I false,.slice none 0 0],M U (.slice none 0 0) []]++[X n [I j,c],M U c p,X l [I f,b],M U b m]) [1,0,2,3,4,5] (by decide) Z
 obtain ⟨ad,ca,h⟩:=aj h
 refine ao Z (eg false u ca e.g ((d.rp 0 Z).g (R Z) e) ((d.rb 1 Z).g e)) Z ?_
 rintro _ w ⟨aO,rfl,o⟩
 have a:=e.h o
 refine aT (aY (cs:=[I false,.slice none 0 0]) c6 Z a) Z ?_
 rintro _ w ⟨a4,rfl,a⟩
 refine P 1 Z ?_
 replace a:=a.nil U
 have e:=a.pick (os':=[X a4 [I false,.slice none 0 0],M U (.slice none 0 0) []]++[X aM [I ad.1,aO],M U aO ad.2,X n [I j,c],M U c p,X l [I f,b],M U b m]) [1,0,2,3,4,5,6,7] (by decide) Z
 obtain ⟨a5,cb,h⟩:=aj h
 refine ao Z (eg false y cb e.g ((d.rp 2 Z).g (R Z) e) ((d.rb 3 Z).g e)) Z ?_
 rintro _ w ⟨bt,rfl,o⟩
 have a:=e.h o
 refine P 2 Z ?_
 refine H (O (J (af ?_)))
 obtain ⟨a6,cc,h⟩:=aj h
 refine ao Z (cG 1 cc ) Z ?_
 rintro _ w ⟨bu,bv,rfl,o⟩
 have a:=a.f o
 obtain ⟨a7,cd,h⟩:=aj h
 refine ao Z (cG 0 cd ) Z ?_
 rintro _ w ⟨bw,bB,rfl,o⟩
 have a:=a.f o
 refine P 2 Z ?_
 refine H (O (J (aD ?_)))
 replace a:=a.pick (os':=[X bB [I a7.1,bw],M U bw a7.2,X bv [I a6.1,bu],M U bu a6.2,X a4 [I a5.1,bt],M U bt a5.2,X aM [I ad.1,aO],M U aO ad.2]++[X n [I j,c],M U c p,X l [I f,b],M U b m]) [0,1,2,3,4,5,6,7,8,9,10,11] (by decide) rfl
 obtain ⟨cC,ct,hZ,d,q,a⟩:=hZ.frzT hTT d q a
 refine au [(0,N n 0),(1,N l 0),(2,.pointer none),(3,N G 0),(4,N T 0),(15,N aM 0),(16,N a4 0),(17,N bv 0),(18,N bB 0)] ⟨Z,Z,Z,Z,Z,Z,Z,Z,Z,V⟩ ?_
 refine bj (F.EG j p f m u B y C) (fun (s:Bool×List UInt32×Bool×List UInt32×Bool×List UInt32×Bool×List UInt32) L w=>∃(bC:Nat) (bD:Value) (bb:Nat) (bc:Value) (bE:Nat) (bF:Value) (be:Nat) (bg:Value),L=[(0,N n 0),(1,N l 0),(2,.pointer none),(3,N G 0),(4,N T 0),(15,N bC 0),(16,N bb 0),(17,N bE 0),(18,N be 0)]∧SfT S [] E w [X be [I s.2.2.2.2.2.2.1,bg],red U bg s.2.2.2.2.2.2.2,X bE [I s.2.2.2.2.1,bF],red U bF s.2.2.2.2.2.1,X bb [I s.2.2.1,bc],red U bc s.2.2.2.1,X bC [I s.1,bD],red U bD s.2.1,X T [I y,A],red U A C,X G [I u,z],red U z B] [X n [I j,c],M U c p,X l [I f,b],M U b m]) ?_ (ad.1,ad.2,a5.1,a5.2,a6.1,a6.2,a7.1,a7.2) ⟨aM,aO,a4,bt,bv,bu,bB,bw,Z,(SfT.mk' hZ (Y (d.b 11 Z) (Y (d.b 10 Z) (Y (d.b 9 Z) (Y (d.b 8 Z) (Y (d.b 7 Z) (Y (d.b 6 Z) (Y (d.b 5 Z) (Y (d.b 4 Z) (Y (d.b 3 Z) (Y (d.b 2 Z) (Y (d.b 1 Z) (Y (d.b 0 Z) Q.nil)))))))))))) (W (q.b 11 Z) (W (q.b 10 Z) (W (q.b 9 Z) (W (q.b 8 Z) (W (q.b 7 Z) (W (q.b 6 Z) (W (q.b 5 Z) (W (q.b 4 Z) (W (q.b 3 Z) (W (q.b 2 Z) (W (q.b 1 Z) (W (q.b 0 Z) K.nil)))))))))))) a)⟩ h
 rintro cu ⟨bG,cD,bW,cn,bH,cE,bX,co⟩ L w cF hI ce h bL
 try dsimp only at hI
 obtain ⟨bC,bD,bb,bc,bE,bF,be,bg,rfl,⟨cH,cv,hZ,d,q,a⟩⟩:=hI
 unfold F.EG at h
 refine J (J (af (P 1 Z ?_)))
 refine am (aK Z) Z (am (av (k:=1) u101 Z Z dc Z) Z (am (aC u30 Z Z ((d.rb 7 Z).cell a.fr 1 Z)) Z (am (aN u30 Z ((d.rp 6 Z).d a.fr)) Z (P 1 Z ?_))))
 refine H (O ?_)
 refine ax Z (fun aP=>?_) (fun aP=>?_)
 ·have h:=aI h aP
  refine ay (O (aD ?_))
  refine J (af (aT (aY (cs:=[I false,.slice none 0 0]) c6 Z a) Z ?_))
  rintro _ w ⟨bh,rfl,a⟩
  refine P 2 Z ?_
  refine aT (aY (cs:=[I false,.slice none 0 0]) c6 Z a) Z ?_
  rintro _ w ⟨aQ,rfl,a⟩
  replace a:=a.nil U
  replace a:=a.nil U
  have e:=a.pick (os':=[X bh [I false,.slice none 0 0],M U (.slice none 0 0) [],X aQ [I false,.slice none 0 0],M U (.slice none 0 0) []]++[X n [I j,c],M U c p,X l [I f,b],M U b m]) [3,1,2,0,4,5,6,7] (by decide) Z
  obtain ⟨x,cf,h⟩:=aj h
  refine ao Z (gN false bG bW false cf e.g ((d.rp 4 Z).g (R Z) e) ((d.rb 5 Z).g e) ((d.rp 6 Z).g (R Z) e) ((d.rb 7 Z).g e)) Z ?_
  rintro _ w ⟨ag,ab,rfl,o⟩
  have a:=e.h o
  refine P 5 Z ?_
  refine H (O (J (af (P 4 Z ?_))))
  refine H (O (af (P 1 Z ?_)))
  refine aT (aY (cs:=[I false,.slice none 0 0]) c6 Z a) Z ?_
  rintro _ w ⟨bi,rfl,a⟩
  refine P 1 Z ?_
  refine aT (aY (cs:=[I false,.slice none 0 0]) c6 Z a) Z ?_
  rintro _ w ⟨bI,rfl,a⟩
  refine P 2 Z ?_
  replace a:=a.nil U
  have e:=a.pick (os':=[X bI [I false,.slice none 0 0],M U (.slice none 0 0) []]++[X bi [I false,.slice none 0 0],X bh [I x.1,ag],M U ag x.2.1,X aQ [I x.2.2.1,ab],M U ab x.2.2.2,X n [I j,c],M U c p,X l [I f,b],M U b m]) [1,0,2,3,4,5,6,7,8,9,10] (by decide) Z
  obtain ⟨aS,cg,h⟩:=aj h
  refine ao Z (gi false x.1 bX cg e.g (e.giveO 2 Z) (e.giveB 1 Z) ((d.rp 10 Z).g (R Z) e) ((d.rb 11 Z).g e)) Z ?_
  rintro _ w ⟨ak,rfl,o⟩
  have a:=e.h o
  replace a:=a.nil U
  have e:=a.pick (os':=[X bi [I false,.slice none 0 0],M U (.slice none 0 0) []]++[X bI [I aS.1,ak],M U ak aS.2,X bh [I x.1,ag],M U ag x.2.1,X aQ [I x.2.2.1,ab],M U ab x.2.2.2,X n [I j,c],M U c p,X l [I f,b],M U b m]) [3,0,1,2,4,5,6,7,8,9,10,11] (by decide) Z
  obtain ⟨an,bY,h⟩:=aj h
  refine ao Z (jn false bH aS.1 bY e.g ((d.rp 8 Z).g (R Z) e) ((d.rb 9 Z).g e) (e.giveO 1 Z) (e.giveB 0 Z)) Z ?_
  rintro _ w ⟨bm,rfl,o⟩
  have a:=e.h o
  refine P 2 Z ?_
  refine H (aR ?_)
  replace a:=a.pick (os':=[X bi [I an.1,bm],M U bm an.2,X bI [I aS.1,ak],M U ak aS.2,X bh [I x.1,ag],M U ag x.2.1,X aQ [I x.2.2.1,ab],M U ab x.2.2.2]++[X n [I j,c],M U c p,X l [I f,b],M U b m]) [0,1,2,3,4,5,6,7,8,9,10,11] (by decide) rfl
  obtain ⟨cw,cp,hZ,d,q,a⟩:=hZ.frzT hTT d q a
  exact bA (bz _ (by exact ⟨Z,Z,Z,Z,Z,Z,Z,Z,Z,V⟩) (ce (bW,cn,x.2.2.1,x.2.2.2,bX,co,an.1,an.2) _ _ ⟨bb,bc,aQ,ab,be,bg,bi,bm,Z,(SfT.mk' hZ (Y (d.b 19 Z) (Y (d.b 18 Z) (Y (d.b 11 Z) (Y (d.b 10 Z) (Y (d.b 13 Z) (Y (d.b 12 Z) (Y (d.b 7 Z) (Y (d.b 6 Z) (Y (d.b 3 Z) (Y (d.b 2 Z) (Y (d.b 1 Z) (Y (d.b 0 Z) Q.nil)))))))))))) (W (q.b 19 Z) (W (q.b 18 Z) (W (q.b 11 Z) (W (q.b 10 Z) (W (q.b 13 Z) (W (q.b 12 Z) (W (q.b 7 Z) (W (q.b 6 Z) (W (q.b 3 Z) (W (q.b 2 Z) (W (q.b 1 Z) (W (q.b 0 Z) K.nil)))))))))))) a)⟩ (a8 h bL)))
 have h:=aH h aP
 refine bd ?_
 refine aG (aG ?_)
 have h:=aW h bL
 refine bf ?_
 refine O (J (J (af (P 1 Z ?_))))
 refine am (aq Z Z (kl u73 l 0)) Z (P 4 Z ?_)
 refine H (O (dZ Z ?_))
 refine J (J (af (P 1 Z ?_)))
 refine am (aK Z) Z (am (av (k:=0) u101 Z Z nz4 Z) Z (am (aC Tryz.underlying4 Z Z ((d.rb 1 Z).cell a.fr 0 Z)) Z (H (O ?_))))
 refine ax Z (fun aU=>?_) (fun aU=>?_)
 ·have h:=aI h aU
  refine af (P 2 Z ?_)
  cases h
 have h:=aH h aU
 refine ay (O (J (af (aT (aY (cs:=[I false,.slice none 0 0]) c6 Z a) Z ?_))))
 rintro _ w ⟨ac,rfl,a⟩
 refine P 2 Z ?_
 replace a:=a.nil U
 have e:=a.pick (os':=[X ac [I false,.slice none 0 0],M U (.slice none 0 0) []]++[X n [I j,c],M U c p,X l [I f,b],M U b m]) [1,0,2,3,4,5] (by decide) Z
 obtain ⟨bo,bZ,h⟩:=aj h
 refine ao Z (gi false u bH bZ e.g ((d.rp 0 Z).g (R Z) e) ((d.rb 1 Z).g e) ((d.rp 8 Z).g (R Z) e) ((d.rb 9 Z).g e)) Z ?_
 rintro _ w ⟨bM,rfl,o⟩
 have a:=e.h o
 refine P 1 Z ?_
 refine H (O (J (af (P 3 Z ?_))))
 have e:=a.pick (os':=[X ac [I bo.1,bM],M U bM bo.2]++[X n [I j,c],M U c p,X l [I f,b],M U b m]) [0,1,2,3,4,5] (by decide) Z
 obtain ⟨bp,b0,h⟩:=aj h
 refine ao Z (ky bo.1 bG b0 e.g ((d.rp 4 Z).g (R Z) e) ((d.rb 5 Z).g e)) Z ?_
 rintro _ w ⟨bN,rfl,o⟩
 have a:=e.h o
 refine H (O (J (af (P 3 Z ?_))))
 have e:=a.pick (os':=[X ac [I bp.1,bN],M U bN bp.2]++[X n [I j,c],M U c p,X l [I f,b],M U b m]) [0,1,2,3,4,5] (by decide) Z
 obtain ⟨ap,b1,h⟩:=aj h
 refine ao Z (kU bp.1 y b1 e.g ((d.rp 2 Z).g (R Z) e) ((d.rb 3 Z).g e)) Z ?_
 rintro _ w ⟨az,rfl,o⟩
 have a:=e.h o
 refine H (O (J (J (af (P 1 Z ?_)))))
 refine am (aq Z Z (lT u73)) Z (H (O (fE Z ?_)))
 refine ay (O (J (af (P 1 Z ?_))))
 refine am (aq Z Z (kl u73 l 0)) Z (H (O (dZ Z ?_)))
 refine af (P 2 Z ?_)
 have e:=a.pick (os':=[X l [I f,b],M U b m]++[X ac [I ap.1,az],M U az ap.2,X n [I j,c],M U c p]) [4,5,0,1,2,3] (by decide) Z
 obtain ⟨bO,b2,h⟩:=aj h
 refine ao Z (fh f bH b2 e.g ((d.rp 8 Z).g (R Z) e) ((d.rb 9 Z).g e)) Z ?_
 rintro _ w ⟨bq,rfl,o⟩
 have a:=e.h o
 refine H (O (J (af (P 2 Z ?_))))
 have e:=a.pick (os':=[X n [I j,c],M U c p]++[X l [I bO.1,bq],M U bq bO.2,X ac [I ap.1,az],M U az ap.2]) [4,5,0,1,2,3] (by decide) Z
 obtain ⟨cx,b3,h⟩:=aj h
 refine ao Z (fh j bG b3 e.g ((d.rp 4 Z).g (R Z) e) ((d.rb 5 Z).g e)) Z ?_
 rintro _ w ⟨ch,rfl,o⟩
 have a:=e.h o
 refine P 1 Z ?_
 refine H (O (aw ?_))
 cases h
 replace a:=hZ.st a
 exact aF Z Z ⟨ch,bq,Z,a.e [0,1,2,3] Z Z⟩
theorem jw {o:World} {i y z:List UInt32} {b t u:Value} {f A B:Nat} {S:List Nat} (e p q:Bool) {r:Bool×List UInt32}
  (h:F.EL e i p y q z=some r) (a:St S o o [X f [I e,b],M U b i]) (ac:RP S o U t y) (hBa1:RB S o A [I p,t]) (ad:RP S o U u z) (hBa2:RB S o B [I q,u]):Calls Tryz.prog 134 #[N f 0,N A 0,N B 0] o (Ret fun v w=>∃C:Value,v=N f 0∧St S o w [X f [I r.1,C],M U C r.2]):=by
 refine aJ 32 Tryz.func134 Z Z Z ?_
 refine au [(0,N f 0),(1,N A 0),(2,N B 0)] ⟨Z,Z,Z,V⟩ ?_
 unfold F.EL at h
 refine J (af (P 1 Z ?_))
 refine H (O (J (af (aT (aY (cs:=[I false,.slice none 0 0]) c6 Z a) Z ?_))))
 rintro _ w ⟨x,rfl,a⟩
 refine P 1 Z ?_
 replace a:=a.nil U
 have c:=a.pick (os':=[X x [I false,.slice none 0 0],M U (.slice none 0 0) []]++[X f [I e,b],M U b i]) [1,0,2,3] (by decide) Z
 obtain ⟨g,ap,h⟩:=aj h
 refine ao Z (eg false q ap c.g (ad.g (R Z) c) (hBa2.g c)) Z ?_
 rintro _ w ⟨l,rfl,d⟩
 have a:=c.h d
 refine P 1 Z ?_
 refine H (O (J (af (aT (aY (cs:=[I false,.slice none 0 0]) c6 Z a) Z ?_))))
 rintro _ w ⟨D,rfl,a⟩
 refine P 2 Z ?_
 replace a:=a.nil U
 have c:=a.pick (os':=[X D [I false,.slice none 0 0],M U (.slice none 0 0) []]++[X x [I g.1,l],M U l g.2,X f [I e,b],M U b i]) [1,0,2,3,4,5] (by decide) Z
 obtain ⟨k,ag,h⟩:=aj h
 refine ao Z (jq false p g.1 ag c.g (ac.g (R Z) c) (hBa1.g c) (c.giveO 1 Z) (c.giveB 0 Z)) Z ?_
 rintro _ w ⟨m,rfl,d⟩
 have a:=c.h d
 refine P 1 Z ?_
 refine H (O (J (af (aT (aY (cs:=[I false,.slice none 0 0]) c6 Z a) Z ?_))))
 rintro _ w ⟨E,rfl,a⟩
 refine P 1 Z ?_
 refine H (O (J (af (aT (aY (cs:=[I false,.slice none 0 0]) c6 Z a) Z ?_))))
 rintro _ w ⟨G,rfl,a⟩
 refine P 3 Z ?_
 replace a:=a.nil U
 replace a:=a.nil U
 have c:=a.pick (os':=[X G [I false,.slice none 0 0],M U (.slice none 0 0) [],X E [I false,.slice none 0 0],M U (.slice none 0 0) []]++[X D [I k.1,m],M U m k.2,X x [I g.1,l],M U l g.2,X f [I e,b],M U b i]) [2,1,3,0,4,5,6,7,8,9] (by decide) Z
 obtain ⟨j,ak,h⟩:=aj h
 refine ao Z (nK false false k.1 g.1 ak c.g (c.giveO 1 Z) (c.giveB 0 Z) (c.giveO 3 Z) (c.giveB 2 Z)) Z ?_
 rintro _ w ⟨L,T,rfl,d⟩
 have a:=c.h d
 refine P 1 Z ?_
 refine H (O (J (J (af (P 1 Z ?_)))))
 obtain ⟨s,al,h⟩:=aj h
 refine ao Z (cG 1 al ) Z ?_
 rintro _ w ⟨ab,aq,rfl,d⟩
 have a:=a.f d
 obtain ⟨av,am,h⟩:=aj h
 refine ao Z (fk j.1 s.1 am (a.ro 3 Z).rp (a.rb 2 Z) (a.ro 1 Z).rp (a.rb 0 Z)) Z ?_
 rintro _ w ⟨rfl,d⟩
 have a:=a.f d
 refine P 1 Z ?_
 refine H (O ?_)
 refine ax Z (fun n=>?_) (fun n=>?_)
 ·have h:=aI h n
  refine J (af (P 1 Z ?_))
  refine H (O (aw (aE ?_)))
  cases h
 have h:=aH h n
 refine ay (O (J (af (P 3 Z ?_))))
 have c:=a.pick (os':=[X f [I e,b],M U b i]++[X aq [I s.1,ab],M U ab s.2,X G [I j.1,L],M U L j.2.1,X E [I j.2.2.1,T],M U T j.2.2.2,X D [I k.1,m],M U m k.2,X x [I g.1,l],M U l g.2]) [10,11,0,1,2,3,4,5,6,7,8,9] (by decide) Z
 obtain ⟨az,an,h⟩:=aj h
 refine ao Z (jq e j.2.2.1 g.1 an c.g (c.giveO 5 Z) (c.giveB 4 Z) (c.giveO 9 Z) (c.giveB 8 Z)) Z ?_
 rintro _ w ⟨ar,rfl,d⟩
 have a:=c.h d
 refine P 1 Z ?_
 refine H (O (aw ?_))
 cases h
 exact aF Z Z ⟨ar,Z,a.e [0,1] Z Z⟩
end Go.Proofs
