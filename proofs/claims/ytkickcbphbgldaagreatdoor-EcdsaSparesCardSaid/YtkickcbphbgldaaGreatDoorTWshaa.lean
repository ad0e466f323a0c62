import Derived.Test.YtkickcbphbgldaaGreatDoorTW0
import Derived.Test.YtkickcbphbgldaaGreatDoorGkFman
import Derived.Test.YtkickcbphbgldaaGreatDoorTWlib
set_option linter.unusedVariables false
set_option linter.unusedSimpArgs false
set_option linter.unusedSectionVars false
set_option maxRecDepth 4000
namespace Go.Proofs
open Go Go.RowKit Go.Gk
open Go.Gk renaming aa → Q, ae → N, af → H, ah → M, ai → J, e32 → U, pB → K
open Go.Gk.OE renaming bx → X
theorem gq {e:World} (a0:Int) {r:Int}
  (h:F.B4 a0=some r) :Calls Tryz.prog 27 #[vI a0] e (Ret fun v w=>v=vI r∧St [] e w []):=by
 refine aN 10 Tryz.func27 Z Z Z ?_
 have d:=St.l e
 refine ar [(0,vI a0)] ⟨Z,V⟩ ?_
 unfold F.B4 at h
 refine M (H (Q 1 Z ?_))
 refine J (N (M (M (H (Q 1 Z ?_)))))
 refine J (N (az ?_))
 refine M (H (Q 2 Z ?_))
 refine J (N ?_)
 refine av Z (fun a=>?_) (fun a=>?_)
 ·have h:=aJ h a
  refine M (H (Q 1 Z ?_))
  refine J (N (ay (bz ?_)))
  refine aG ?_
  cases h
  exact aM Z Z ⟨Z,d⟩
 have h:=aI h a
 refine M (H (Q 2 Z ?_))
 refine J (N ?_)
 refine av Z (fun b=>?_) (fun b=>?_)
 ·have h:=aJ h b
  refine M (H (Q 1 Z ?_))
  refine J (N (ay (bz ?_)))
  refine aG ?_
  cases h
  exact aM Z Z ⟨Z,d⟩
 have h:=aI h b
 refine M (H (Q 2 Z ?_))
 refine J (N ?_)
 refine av Z (fun c=>?_) (fun c=>?_)
 ·have h:=aJ h c
  refine M (H (Q 1 Z ?_))
  refine J (N (ay (bz ?_)))
  refine aG ?_
  cases h
  exact aM Z Z ⟨Z,d⟩
 have h:=aI h c
 refine aw (aP ?_)
 refine N (M (H (Q 1 Z ?_)))
 refine J (N (ay ?_))
 cases h
 exact aM Z Z ⟨Z,d⟩
theorem wD {j:World} (a0:Int) {r:Option (Int×List UInt32×List UInt64×List UInt8×UInt64)}
  (h:F.FO a0=some r) (n:TB [] j):Calls Tryz.prog 123 #[vI a0] j (Ret fun v w=>∃u0:Value,v=u0∧xa u0 (r.map (fun c=>[vI c.1]++(U.fl c.2.1++(e64.fl c.2.2.1++(e8.fl c.2.2.2.1++[v64 c.2.2.2.2])))))∧(∀c,r=some c→c.2.1.length=8∧c.2.2.1.length=8∧c.2.2.2.1.length=128)∧St [] j w (yl u0 (r.map (fun c=>[vI c.1]++(U.fl c.2.1++(e64.fl c.2.2.1++(e8.fl c.2.2.2.1++[v64 c.2.2.2.2])))))++[])):=by
 refine aN 27 Tryz.func123 Z Z Z ?_
 have a:=St.l j
 refine ar [(0,vI a0)] ⟨Z,V⟩ ?_
 unfold F.FO at h
 refine M (H (Q 1 Z ?_))
 refine J (N (M (H (Q 1 Z ?_))))
 refine al (cl (vs:=[(0,vI a0,[vI a0])]) (cells:=[vI a0]++(U.fl (List.replicate 8 0)++(e64.fl (List.replicate 8 0)++(e8.fl (List.replicate 128 0)++[v64 0])))) Z Au ⟨Z,V⟩ (by kernel_rfl)) Z ?_
 refine aU (dy (cs:=[vI a0]++(U.fl (List.replicate 8 0)++(e64.fl (List.replicate 8 0)++(e8.fl (List.replicate 128 0)++[v64 0])))) Z Z a) Z ?_
 rintro _ w ⟨l,rfl,a⟩
 refine Q 1 Z ?_
 refine J (N ?_)
 refine bf (r:=r) (fun (g:List UInt32×List UInt64) L w=>L=[(3,K l 0)]∧g.1.length=8∧g.2.length=8∧St [] j w [X l ([vI a0]++(U.fl g.1++(e64.fl g.2++(e8.fl (List.replicate 128 0)++[v64 0]))))]) (F.FC a0) ?_ ?_
 rotate_left
 ·intro b
  refine M (H (Q 1 Z ?_))
  refine J (N (az ?_))
  refine M (H (Q 2 Z ?_))
  refine J (N ?_)
  refine av Z (fun d=>?_) (fun d=>?_)
  ·have h:=aJ h d
   refine H (Q 1 Z ?_)
   refine al (iY (us:=U.fl F.BY) u165 Z ux (bj (show F.BY.length=8 from Z) Z) Z (n.sha_start256.cells a.fr)) Z ?_
   refine al (aO Z) Z (al (ax (k:=1) u168 Z Z fU Z) Z ?_)
   refine bn (eD (m:=8) (xs:=U.fl (List.replicate 8 0)) (xs':=U.fl F.BY) (i:=0) Z ux Z Z Z (Up.o (k:=1) Z Up.p Z) (bj List.length_replicate Z) (bj (show F.BY.length=8 from Z) Z) j6 a) ?_
   intro w a
   refine J (aP ?_)
   refine N ?_
   exact ar _ (by exact ⟨Z,V⟩) (b (F.BY,(List.replicate 8 0)) _ _ ⟨Z,(show F.BY.length=8 from Z),List.length_replicate,a⟩ h)
  have h:=aI h d
  refine M (H (Q 2 Z ?_))
  refine J (N ?_)
  refine av Z (fun e=>?_) (fun e=>?_)
  ·have h:=aJ h e
   refine H (Q 1 Z ?_)
   refine al (iY (us:=e64.fl F.BV) u160 Z nP (bj (show F.BV.length=8 from Z) Z) Z (n.sha_start384.cells a.fr)) Z ?_
   refine al (aO Z) Z (al (ax (k:=9) u168 Z Z fy Z) Z ?_)
   refine bn (eD (m:=8) (xs:=e64.fl (List.replicate 8 0)) (xs':=e64.fl F.BV) (i:=0) Z nP Z Z Z (Up.o (k:=1) Z (Up.o (k:=8) (bj List.length_replicate Z) Up.p Z) Z) (bj List.length_replicate Z) (bj (show F.BV.length=8 from Z) Z) j6 a) ?_
   intro w a
   refine J (aP ?_)
   refine N ?_
   exact ar _ (by exact ⟨Z,V⟩) (b ((List.replicate 8 0),F.BV) _ _ ⟨Z,List.length_replicate,(show F.BV.length=8 from Z),a⟩ h)
  have h:=aI h e
  refine M (H (Q 2 Z ?_))
  refine J (N ?_)
  refine av Z (fun f=>?_) (fun f=>?_)
  ·have h:=aJ h f
   refine H (Q 1 Z ?_)
   refine al (iY (us:=e64.fl F.BX) u160 Z nP (bj (show F.BX.length=8 from Z) Z) Z (n.sha_start512.cells a.fr)) Z ?_
   refine al (aO Z) Z (al (ax (k:=9) u168 Z Z fy Z) Z ?_)
   refine bn (eD (m:=8) (xs:=e64.fl (List.replicate 8 0)) (xs':=e64.fl F.BX) (i:=0) Z nP Z Z Z (Up.o (k:=1) Z (Up.o (k:=8) (bj List.length_replicate Z) Up.p Z) Z) (bj List.length_replicate Z) (bj (show F.BX.length=8 from Z) Z) j6 a) ?_
   intro w a
   refine J (aP ?_)
   refine N ?_
   exact ar _ (by exact ⟨Z,V⟩) (b ((List.replicate 8 0),F.BX) _ _ ⟨Z,List.length_replicate,(show F.BX.length=8 from Z),a⟩ h)
  have h:=aI h f
  refine M (H (Q 1 Z ?_))
  refine J (N (ay (bz ?_)))
  refine aG ?_
  cases h
  exact aM Z Z ⟨.pointer none,Z,Z,(fun c hc=>by cases hc),a.e [] Z Z⟩
 rintro ⟨q,s⟩ L w hJ h
 try dsimp only at hJ
 obtain ⟨rfl,o,p,a⟩:=hJ
 unfold F.FC at h
 refine M (H (Q 2 Z ?_))
 refine J (N (ay ?_))
 cases h
 exact aM Z Z ⟨K l 0,Z,⟨_,Z⟩,(fun c hc=>by cases hc; exact ⟨o,p,List.length_replicate⟩),a.e [0] Z Z⟩
theorem mS {f:World} (a0:Int) {r:Int}
  (h:F.FB a0=some r) :Calls Tryz.prog 169 #[vI a0] f (Ret fun v w=>v=vI r∧St [] f w []):=by
 refine aN 9 Tryz.func169 Z Z Z ?_
 have d:=St.l f
 refine ar [(0,vI a0)] ⟨Z,V⟩ ?_
 unfold F.FB at h
 refine M (H (Q 1 Z ?_))
 refine J (N (M (M (H (Q 1 Z ?_)))))
 refine J (N (az ?_))
 refine M (H (Q 2 Z ?_))
 refine J (N ?_)
 refine av Z (fun a=>?_) (fun a=>?_)
 ·have h:=aJ h a
  refine M (H (Q 1 Z ?_))
  refine J (N (ay (bz ?_)))
  refine aG ?_
  cases h
  exact aM Z Z ⟨Z,d⟩
 have h:=aI h a
 refine bf (r:=r) (fun (g:Bool) L w=>L=[(6,vB g)]∧St [] f w []) (F.FX) ?_ ?_
 rotate_left
 ·intro e
  refine M (H (Q 2 Z ?_))
  refine J (N ?_)
  refine av Z (fun b=>?_) (fun b=>?_)
  ·have h:=aJ h b
   refine aw (N ?_)
   exact ar _ (by exact ⟨Z,V⟩) (e (a0 == 2) _ _ ⟨Z,d⟩ h)
  have h:=aI h b
  refine H (Q 2 Z ?_)
  refine J (N ?_)
  exact ar _ (by exact ⟨Z,V⟩) (e (a0 == 3) _ _ ⟨Z,d⟩ h)
 rintro i L w hJ h
 try dsimp only at hJ
 obtain ⟨rfl,d⟩:=hJ
 unfold F.FX at h
 refine av Z (fun c=>?_) (fun c=>?_)
 ·have h:=aJ h c
  refine M (H (Q 1 Z ?_))
  refine J (N (ay (bz ?_)))
  refine aG ?_
  cases h
  exact aM Z Z ⟨Z,d⟩
 have h:=aI h c
 refine aw (aP ?_)
 refine N (M (H (Q 1 Z ?_)))
 refine J (N (ay ?_))
 cases h
 exact aM Z Z ⟨Z,d⟩
theorem kW {T:World} {j:Nat} {S:List Nat} (l:Int) (p:List UInt32) (f:List UInt64) (g:List UInt8) (n:UInt64) {r:Int×List UInt32×List UInt64×List UInt8×UInt64}
  (h:F.Fl l p f g n=some r) (a:St S T T [X j ([vI l]++(U.fl p++(e64.fl f++(e8.fl g++[v64 n]))))]) (hT:TB S T) (b:p.length=8) (y:f.length=8) (x:g.length=128):Calls Tryz.prog 187 #[K j 0] T (Ret fun v w=>v=.tuple #[]∧r.2.1.length=8∧r.2.2.1.length=8∧r.2.2.2.1.length=128∧St S T w [X j ([vI r.1]++(U.fl r.2.1++(e64.fl r.2.2.1++(e8.fl r.2.2.2.1++[v64 r.2.2.2.2]))))]):=by
 refine aN 221 Tryz.func187 Z Z Z ?_
 refine ar [(0,K j 0)] ⟨Z,V⟩ ?_
 unfold F.Fl at h
 refine M (H ?_)
 refine aU (bg (cs:=U.fl (List.replicate 64 0)) Bo (by kernel_rfl) a) Z ?_
 rintro _ w ⟨D,rfl,a⟩
 refine J (N (M (M (H (Q 1 Z ?_)))))
 refine J (N (az ?_))
 refine ar [(0,K j 0),(2,K D 0),(21,vI 0)] ⟨Z,Z,Z,V⟩ ?_
 refine bd (F.Fp g p l f n) (fun (s:Int×List UInt32) L w=>L=[(0,K j 0),(2,K D 0),(21,vI s.1)]∧s.2.length=64∧St S T w [X j ([vI l]++(U.fl p++(e64.fl f++(e8.fl g++[v64 n])))),X D (U.fl s.2)]) ?_ (0,(List.replicate 64 0)) ⟨Z,List.length_replicate,(a.e [1,0] Z Z)⟩ h
 rintro cy ⟨cm,cn⟩ L w cJ hI co h bS
 try dsimp only at hI
 obtain ⟨rfl,a3,a⟩:=hI
 unfold F.Fp at h
 refine M (H (Q 1 Z ?_))
 refine J (N (M ?_))
 refine av Z (fun aM=>?_) (fun aM=>?_)
 ·have h:=aJ h aM
  refine aw (N (M (az ?_)))
  refine M (H (Q 2 Z ?_))
  refine J (N (M (H (Q 1 Z ?_))))
  refine al (aO Z) Z (al (ax (k:=17) u168 Z Z un Z) Z (Q 1 Z ?_))
  refine al (aq Z Z (fj _ 4 cm)) Z ?_
  obtain ⟨cz,z,h⟩:=aj h
  refine al (Bc (e:=e8) u166 sz5 Z Z Z x z) Z (Q 1 Z ?_)
  refine J (N ?_)
  refine dU (fun w'=>St S T w' [X j ([vI l]++(U.fl p++(e64.fl f++(e8.fl g++[v64 n])))),X D (U.fl cn)]) (fun i=>!([24].contains i)) bR (fun _ _ _ A=>A.2) (fun _ _ A=>A) (by kernel_rfl) ?_
  have a:=a.drew
  show lxE _ _ _ _ _ _ _ [0,1,2,3,4,5,6,7,8,9,10,11,12,13,14,15,16,17,18,19,20,21,22,23,24] _ _
  refine am a Z Z (fun w hF=>au Z) Z (am a Z Z (fun w hF=>au Z) Z ?_)
  obtain ⟨ac,a8,h⟩:=aj h
  refine am a Z Z (fun w hF=>aW u24 ti5 Z Z ((hF.bxroA 0 Z x (Up.o (k:=1) Z (Up.o (k:=8) (bj b Z) (Up.o (k:=8) (bj y Z) Up.p Z) Z) Z)).g_sll z) a8) Z ?_
  refine am a Z Z (fun w hF=>aR Tryz.underlying5 Z Z ((hF.bxroA 0 Z x (Up.o (k:=1) Z (Up.o (k:=8) (bj b Z) (Up.o (k:=8) (bj y Z) Up.p Z) Z) Z)).g_sll z) a8 Z) Z ?_
  refine am a Z Z (fun w hF=>aK Z (ka Tryz.underlying5 u38 ac)) Z (am a Z Z (fun w hF=>aq Z Z (iR _ ac.toUInt32 24)) Z (am a Z Z (fun w hF=>au Z) Z ?_))
  obtain ⟨ad,bc,h⟩:=aj h
  refine am a Z Z (fun w hF=>aW u24 ti5 Z Z ((hF.bxroA 0 Z x (Up.o (k:=1) Z (Up.o (k:=8) (bj b Z) (Up.o (k:=8) (bj y Z) Up.p Z) Z) Z)).g_sll z) bc) Z ?_
  refine am a Z Z (fun w hF=>aR Tryz.underlying5 Z Z ((hF.bxroA 0 Z x (Up.o (k:=1) Z (Up.o (k:=8) (bj b Z) (Up.o (k:=8) (bj y Z) Up.p Z) Z) Z)).g_sll z) bc Z) Z ?_
  refine am a Z Z (fun w hF=>aK Z (ka Tryz.underlying5 u38 ad)) Z (am a Z Z (fun w hF=>aq Z Z (iR _ ad.toUInt32 16)) Z (am a Z Z (fun w hF=>aq Z Z (fu _ (ch ac.toUInt32 24) (ch ad.toUInt32 16))) Z (am a Z Z (fun w hF=>au Z) Z ?_)))
  obtain ⟨aA,be,h⟩:=aj h
  refine am a Z Z (fun w hF=>aW u24 ti5 Z Z ((hF.bxroA 0 Z x (Up.o (k:=1) Z (Up.o (k:=8) (bj b Z) (Up.o (k:=8) (bj y Z) Up.p Z) Z) Z)).g_sll z) be) Z ?_
  refine am a Z Z (fun w hF=>aR Tryz.underlying5 Z Z ((hF.bxroA 0 Z x (Up.o (k:=1) Z (Up.o (k:=8) (bj b Z) (Up.o (k:=8) (bj y Z) Up.p Z) Z) Z)).g_sll z) be Z) Z ?_
  refine am a Z Z (fun w hF=>aK Z (ka Tryz.underlying5 u38 aA)) Z (am a Z Z (fun w hF=>aq Z Z (iR _ aA.toUInt32 8)) Z (am a Z Z (fun w hF=>aq Z Z (fu _ ((ch ac.toUInt32 24) ||| (ch ad.toUInt32 16)) (ch aA.toUInt32 8))) Z (am a Z Z (fun w hF=>au Z) Z ?_)))
  obtain ⟨a4,bf,h⟩:=aj h
  refine am a Z Z (fun w hF=>aW u24 ti5 Z Z ((hF.bxroA 0 Z x (Up.o (k:=1) Z (Up.o (k:=8) (bj b Z) (Up.o (k:=8) (bj y Z) Up.p Z) Z) Z)).g_sll z) bf) Z ?_
  refine am a Z Z (fun w hF=>aR Tryz.underlying5 Z Z ((hF.bxroA 0 Z x (Up.o (k:=1) Z (Up.o (k:=8) (bj b Z) (Up.o (k:=8) (bj y Z) Up.p Z) Z) Z)).g_sll z) bf Z) Z ?_
  refine am a Z Z (fun w hF=>aK Z (ka Tryz.underlying5 u38 a4)) Z (am a Z Z (fun w hF=>aq Z Z (fu _ (((ch ac.toUInt32 24) ||| (ch ad.toUInt32 16)) ||| (ch aA.toUInt32 8)) a4.toUInt32)) Z ?_)
  obtain ⟨cA,bi,h⟩:=aj h
  refine am a Z Z (fun w hF=>bL u177 ea Z Z (bJ bi a3)) Z (iK a Z Z (eD (m:=1) Z ea Z Z Z (Up.elt (t':=((((ch ac.toUInt32 24) ||| (ch ad.toUInt32 16)) ||| (ch aA.toUInt32 8)) ||| a4.toUInt32)) Up.last bi Z Z) Z Z (fx Z) a (i:=1)) ?_)
  intro w a
  obtain ⟨cp,bl,h⟩:=aQ h
  rw [bl]at a
  refine bp V ?_
  refine aP ?_
  refine N (H (Q 2 Z ?_))
  refine J ?_
  exact bh (bo _ (by exact ⟨Z,Z,Z,V⟩) (co (wI (cm+1),cp) _ _ ⟨Z,(by rw [←bl,List.length_set]; exact a3),a⟩ (aY h bS)))
 have h:=aI h aM
 refine ba ?_
 refine aC (aC ?_)
 have h:=aT h bS
 refine a9 ?_
 refine N (M (M (H (Q 1 Z ?_))))
 refine J (N (az ?_))
 refine ar [(0,K j 0),(2,K D 0),(5,vI 16)] ⟨Z,Z,Z,V⟩ ?_
 refine bd (F.Dn p l f g n) (fun (s:Int×List UInt32) L w=>L=[(0,K j 0),(2,K D 0),(5,vI s.1)]∧s.2.length=64∧St S T w [X j ([vI l]++(U.fl p++(e64.fl f++(e8.fl g++[v64 n])))),X D (U.fl s.2)]) ?_ (16,cn) ⟨Z,a3,a⟩ h
 rintro cB ⟨aB,ag⟩ L w cC hI b5 h bm
 try dsimp only at hI
 obtain ⟨rfl,E,a⟩:=hI
 unfold F.Dn at h
 refine M (M (H (Q 2 Z ?_)))
 refine J (N ?_)
 refine av Z (fun aS=>?_) (fun aS=>?_)
 ·have h:=aJ h aS
  refine aw (N (M (az ?_)))
  refine M ?_
  refine bb (fun w'=>St S T w' [X j ([vI l]++(U.fl p++(e64.fl f++(e8.fl g++[v64 n])))),X D (U.fl ag)]) (fun _=>true) bR (fun _ _ _ A=>A.2) (fun _ _ A=>A) (by kernel_rfl) ?_
  have a:=a.drew
  show lxE _ _ _ _ _ _ _ [0,1,2,3,4,5,6,7,8,9] _ _
  refine am a Z Z (fun w hF=>au Z) Z (am a Z Z (fun w hF=>aq Z Z (dI _ aB 15)) Z ?_)
  obtain ⟨ab,bn,h⟩:=aj h
  refine am a Z Z (fun w hF=>bL u177 ea Z Z (bJ bn E)) Z (am a Z Z (fun w hF=>aH u38 Z Z (hF.s 1 Z (Up.elr Up.last bn Z))) Z (am a Z Z (fun w hF=>au Z) Z (am a Z Z (fun w hF=>aq Z Z (dI _ aB 2)) Z ?_)))
  obtain ⟨ak,bq,h⟩:=aj h
  refine am a Z Z (fun w hF=>bL u177 ea Z Z (bJ bq E)) Z (am a Z Z (fun w hF=>aH u38 Z Z (hF.s 1 Z (Up.elr Up.last bq Z))) Z (am a Z Z (fun w hF=>aD Z) Z (am a Z Z (fun w hF=>aD Z) Z (bp a ?_))))
  refine N ?_
  refine dU (fun w'=>St S T w' [X j ([vI l]++(U.fl p++(e64.fl f++(e8.fl g++[v64 n])))),X D (U.fl ag)]) (fun i=>!([11,13,20,22,29].contains i)) bR (fun _ _ _ A=>A.2) (fun _ _ A=>A) (by kernel_rfl) ?_
  have a:=a.drew
  show lxE _ _ _ _ _ _ _ [0,1,2,3,4,5,6,7,8,9,10,11,12,13,14,15,16,17,18,19,20,21,22,23,24,25,26,27,28,29] _ _
  refine am a Z Z (fun w hF=>au Z) Z (am a Z Z (fun w hF=>au Z) Z (am a Z Z (fun w hF=>aq Z Z (dI _ aB 16)) Z ?_))
  obtain ⟨aV,br,h⟩:=aj h
  refine am a Z Z (fun w hF=>bL u177 ea Z Z (bJ br E)) Z (am a Z Z (fun w hF=>aH u38 Z Z (hF.s 1 Z (Up.elr Up.last br Z))) Z (am a Z Z (fun w hF=>au Z) Z (am a Z Z (fun w hF=>aq Z Z (dI _ aB 7)) Z ?_)))
  obtain ⟨aX,bs,h⟩:=aj h
  refine am a Z Z (fun w hF=>bL u177 ea Z Z (bJ bs E)) Z (am a Z Z (fun w hF=>aH u38 Z Z (hF.s 1 Z (Up.elr Up.last bs Z))) Z (am a Z Z (fun w hF=>aq Z Z (em _ aV aX)) Z (am a Z Z (fun w hF=>au Z) Z ?_)))
  obtain ⟨aE,b6,h⟩:=aj h
  refine bk a Z Z (by kernel_rfl) Z (bN ab (-7) b6 ) Z ?_
  rintro _ w ⟨rfl,t⟩
  have a:=a.f t
  refine am a Z Z (fun w hF=>au Z) Z ?_
  obtain ⟨aF,b7,h⟩:=aj h
  refine bk a Z Z (by kernel_rfl) Z (bN ab (-18) b7 ) Z ?_
  rintro _ w ⟨rfl,t⟩
  have a:=a.f t
  refine am a Z Z (fun w hF=>aq Z Z (eH _ aE aF)) Z (am a Z Z (fun w hF=>au Z) Z (am a Z Z (fun w hF=>aq Z Z (di _ ab 3)) Z (am a Z Z (fun w hF=>aq Z Z (eH _ (aE ^^^ aF) (bC ab 3))) Z (am a Z Z (fun w hF=>aq Z Z (em _ (aV+aX) ((aE ^^^ aF) ^^^ (bC ab 3)))) Z (am a Z Z (fun w hF=>au Z) Z ?_)))))
  obtain ⟨aZ,b8,h⟩:=aj h
  refine bk a Z Z (by kernel_rfl) Z (bN ak (-17) b8 ) Z ?_
  rintro _ w ⟨rfl,t⟩
  have a:=a.f t
  refine am a Z Z (fun w hF=>au Z) Z ?_
  obtain ⟨a0,b9,h⟩:=aj h
  refine bk a Z Z (by kernel_rfl) Z (bN ak (-19) b9 ) Z ?_
  rintro _ w ⟨rfl,t⟩
  have a:=a.f t
  refine am a Z Z (fun w hF=>aq Z Z (eH _ aZ a0)) Z (am a Z Z (fun w hF=>au Z) Z (am a Z Z (fun w hF=>aq Z Z (di _ ak 10)) Z (am a Z Z (fun w hF=>aq Z Z (eH _ (aZ ^^^ a0) (bC ak 10))) Z (am a Z Z (fun w hF=>aq Z Z (em _ ((aV+aX)+((aE ^^^ aF) ^^^ (bC ab 3))) ((aZ ^^^ a0) ^^^ (bC ak 10)))) Z ?_))))
  obtain ⟨cD,bt,h⟩:=aj h
  refine am a Z Z (fun w hF=>bL u177 ea Z Z (bJ bt E)) Z (iK a Z Z (eD (m:=1) Z ea Z Z Z (Up.elt (t':=(((aV+aX)+((aE ^^^ aF) ^^^ (bC ab 3)))+((aZ ^^^ a0) ^^^ (bC ak 10)))) Up.last bt Z Z) Z Z (fx Z) a (i:=1)) ?_)
  intro w a
  obtain ⟨cq,bu,h⟩:=aQ h
  rw [bu]at a
  refine bp V ?_
  refine aP ?_
  refine N (H (Q 3 Z ?_))
  refine J ?_
  exact bh (bo _ (by exact ⟨Z,Z,Z,V⟩) (b5 (wI (aB+1),cq) _ _ ⟨Z,(by rw [←bu,List.length_set]; exact E),a⟩ (aY h bm)))
 have h:=aI h aS
 refine ba ?_
 refine aC (aC ?_)
 have h:=aT h bm
 refine a9 ?_
 refine N (M ?_)
 refine bb (fun w'=>St S T w' [X j ([vI l]++(U.fl p++(e64.fl f++(e8.fl g++[v64 n])))),X D (U.fl ag)]) (fun _=>true) bR (fun _ _ _ A=>A.2) (fun _ _ A=>A) (by kernel_rfl) ?_
 have a:=a.drew
 show lxE _ _ _ _ _ _ _ [0,1,2,3,4,5,6,7,8,9,10,11,12,13,14,15,16,17,18,19,20,21,22,23,24,25,26,27,28,29,30,31,32,33,34,35,36,37,38,39,40,41,42,43,44,45,46,47] _ _
 refine am a Z Z (fun w hF=>au Z) Z (am a Z Z (fun w hF=>aO Z) Z (am a Z Z (fun w hF=>ax (k:=1) u168 Z Z fU Z) Z ?_))
 obtain ⟨bT,bv,h⟩:=aj h
 refine am a Z Z (fun w hF=>bL u165 ea Z Z (bJ bv b)) Z (am a Z Z (fun w hF=>aH u38 Z Z (hF.s 0 Z (Up.elr (Up.o (k:=1) Z Up.p Z) bv Z))) Z (am a Z Z (fun w hF=>au Z) Z (am a Z Z (fun w hF=>aO Z) Z (am a Z Z (fun w hF=>ax (k:=1) u168 Z Z fU Z) Z ?_))))
 obtain ⟨bU,bw,h⟩:=aj h
 refine am a Z Z (fun w hF=>bL u165 ea Z Z (bJ bw b)) Z (am a Z Z (fun w hF=>aH u38 Z Z (hF.s 0 Z (Up.elr (Up.o (k:=1) Z Up.p Z) bw Z))) Z (am a Z Z (fun w hF=>au Z) Z (am a Z Z (fun w hF=>aO Z) Z (am a Z Z (fun w hF=>ax (k:=1) u168 Z Z fU Z) Z ?_))))
 obtain ⟨bV,bz,h⟩:=aj h
 refine am a Z Z (fun w hF=>bL u165 ea Z Z (bJ bz b)) Z (am a Z Z (fun w hF=>aH u38 Z Z (hF.s 0 Z (Up.elr (Up.o (k:=1) Z Up.p Z) bz Z))) Z (am a Z Z (fun w hF=>au Z) Z (am a Z Z (fun w hF=>aO Z) Z (am a Z Z (fun w hF=>ax (k:=1) u168 Z Z fU Z) Z ?_))))
 obtain ⟨bW,bA,h⟩:=aj h
 refine am a Z Z (fun w hF=>bL u165 ea Z Z (bJ bA b)) Z (am a Z Z (fun w hF=>aH u38 Z Z (hF.s 0 Z (Up.elr (Up.o (k:=1) Z Up.p Z) bA Z))) Z (am a Z Z (fun w hF=>au Z) Z (am a Z Z (fun w hF=>aO Z) Z (am a Z Z (fun w hF=>ax (k:=1) u168 Z Z fU Z) Z ?_))))
 obtain ⟨bX,bB,h⟩:=aj h
 refine am a Z Z (fun w hF=>bL u165 ea Z Z (bJ bB b)) Z (am a Z Z (fun w hF=>aH u38 Z Z (hF.s 0 Z (Up.elr (Up.o (k:=1) Z Up.p Z) bB Z))) Z (am a Z Z (fun w hF=>au Z) Z (am a Z Z (fun w hF=>aO Z) Z (am a Z Z (fun w hF=>ax (k:=1) u168 Z Z fU Z) Z ?_))))
 obtain ⟨bY,bD,h⟩:=aj h
 refine am a Z Z (fun w hF=>bL u165 ea Z Z (bJ bD b)) Z (am a Z Z (fun w hF=>aH u38 Z Z (hF.s 0 Z (Up.elr (Up.o (k:=1) Z Up.p Z) bD Z))) Z (am a Z Z (fun w hF=>au Z) Z (am a Z Z (fun w hF=>aO Z) Z (am a Z Z (fun w hF=>ax (k:=1) u168 Z Z fU Z) Z ?_))))
 obtain ⟨bZ,bE,h⟩:=aj h
 refine am a Z Z (fun w hF=>bL u165 ea Z Z (bJ bE b)) Z (am a Z Z (fun w hF=>aH u38 Z Z (hF.s 0 Z (Up.elr (Up.o (k:=1) Z Up.p Z) bE Z))) Z (am a Z Z (fun w hF=>au Z) Z (am a Z Z (fun w hF=>aO Z) Z (am a Z Z (fun w hF=>ax (k:=1) u168 Z Z fU Z) Z ?_))))
 obtain ⟨b0,bF,h⟩:=aj h
 refine am a Z Z (fun w hF=>bL u165 ea Z Z (bJ bF b)) Z (am a Z Z (fun w hF=>aH u38 Z Z (hF.s 0 Z (Up.elr (Up.o (k:=1) Z Up.p Z) bF Z))) Z (am a Z Z (fun w hF=>aD Z) Z (am a Z Z (fun w hF=>aD Z) Z (am a Z Z (fun w hF=>aD Z) Z (am a Z Z (fun w hF=>aD Z) Z (am a Z Z (fun w hF=>aD Z) Z (am a Z Z (fun w hF=>aD Z) Z (am a Z Z (fun w hF=>aD Z) Z ?_))))))))
 refine am a Z Z (fun w hF=>aD Z) Z (bp a ?_)
 refine N (M (M (H (Q 1 Z ?_))))
 refine J (N (az ?_))
 refine ar [(0,K j 0),(2,K D 0),(8,v32 bT),(9,v32 bU),(10,v32 bV),(11,v32 bW),(12,v32 bX),(13,v32 bY),(14,v32 bZ),(15,v32 b0),(136,vI 0)] ⟨Z,Z,Z,Z,Z,Z,Z,Z,Z,Z,Z,V⟩ ?_
 refine bd (F.DX p ag l f g n) (fun (s:UInt32×UInt32×UInt32×UInt32×UInt32×UInt32×UInt32×UInt32×Int) L w=>L=[(0,K j 0),(2,K D 0),(8,v32 s.1),(9,v32 s.2.1),(10,v32 s.2.2.1),(11,v32 s.2.2.2.1),(12,v32 s.2.2.2.2.1),(13,v32 s.2.2.2.2.2.1),(14,v32 s.2.2.2.2.2.2.1),(15,v32 s.2.2.2.2.2.2.2.1),(136,vI s.2.2.2.2.2.2.2.2)]∧St S T w [X j ([vI l]++(U.fl p++(e64.fl f++(e8.fl g++[v64 n])))),X D (U.fl ag)]) ?_ (bT,bU,bV,bW,bX,bY,bZ,b0,0) ⟨Z,a⟩ h
 rintro cE ⟨c,q,B,G,o,u,d,C,cr⟩ L w cF hI ca h bG
 try dsimp only at hI
 obtain ⟨rfl,a⟩:=hI
 unfold F.DX at h
 refine M (H (Q 1 Z ?_))
 refine J (N (M ?_))
 refine av Z (fun a1=>?_) (fun a1=>?_)
 ·have h:=aJ h a1
  refine aw (N (M (az ?_)))
  refine M (H (Q 2 Z ?_))
  refine J (N (M ?_))
  refine bb (fun w'=>St S T w' [X j ([vI l]++(U.fl p++(e64.fl f++(e8.fl g++[v64 n])))),X D (U.fl ag)]) (fun i=>!([2,4,7].contains i)) bR (fun _ _ _ A=>A.2) (fun _ _ A=>A) (by kernel_rfl) ?_
  have a:=a.drew
  show lxE _ _ _ _ _ _ _ [0,1,2,3,4,5,6,7,8,9,10,11,12,13,14,15,16,17,18,19,20,21,22,23,24,25,26] _ _
  refine am a Z Z (fun w hF=>au Z) Z (am a Z Z (fun w hF=>au Z) Z ?_)
  obtain ⟨an,cb,h⟩:=aj h
  refine bk a Z Z (by kernel_rfl) Z (bN o (-6) cb ) Z ?_
  rintro _ w ⟨rfl,t⟩
  have a:=a.f t
  refine am a Z Z (fun w hF=>au Z) Z ?_
  obtain ⟨ap,cc,h⟩:=aj h
  refine bk a Z Z (by kernel_rfl) Z (bN o (-11) cc ) Z ?_
  rintro _ w ⟨rfl,t⟩
  have a:=a.f t
  refine am a Z Z (fun w hF=>aq Z Z (eH _ an ap)) Z (am a Z Z (fun w hF=>au Z) Z ?_)
  obtain ⟨aG,cd,h⟩:=aj h
  refine bk a Z Z (by kernel_rfl) Z (bN o (-25) cd ) Z ?_
  rintro _ w ⟨rfl,t⟩
  have a:=a.f t
  refine am a Z Z (fun w hF=>aq Z Z (eH _ (an ^^^ ap) aG)) Z (am a Z Z (fun w hF=>aq Z Z (em _ C ((an ^^^ ap) ^^^ aG))) Z (am a Z Z (fun w hF=>au Z) Z (am a Z Z (fun w hF=>au Z) Z (am a Z Z (fun w hF=>au Z) Z (am a Z Z (fun w hF=>au Z) Z (am a Z Z (fun w hF=>aq Z Z (eH _ u d)) Z (am a Z Z (fun w hF=>aq Z Z (iX _ o (u ^^^ d))) Z (am a Z Z (fun w hF=>aq Z Z (eH _ d (o &&& (u ^^^ d)))) Z ?_))))))))
  refine am a Z Z (fun w hF=>aq Z Z (em _ (C+((an ^^^ ap) ^^^ aG)) (d ^^^ (o &&& (u ^^^ d))))) Z (am a Z Z (fun w hF=>au Z) Z ?_)
  obtain ⟨b1,bH,h⟩:=aj h
  refine am a Z Z (fun w hF=>bL u177 ea Z Z (bJ bH (show F.Cm.length=64 from Z))) Z (am a Z Z (fun w hF=>aH u38 Z Z (hT.sha_k256.cell hF.fr bH Z)) Z (am a Z Z (fun w hF=>aq Z Z (em _ ((C+((an ^^^ ap) ^^^ aG))+(d ^^^ (o &&& (u ^^^ d)))) b1)) Z (am a Z Z (fun w hF=>au Z) Z ?_)))
  obtain ⟨ct,bI,h⟩:=aj h
  refine am a Z Z (fun w hF=>bL u177 ea Z Z (bJ bI E)) Z (am a Z Z (fun w hF=>aH u38 Z Z (hF.s 1 Z (Up.elr Up.last bI Z))) Z (am a Z Z (fun w hF=>aq Z Z (em _ (((C+((an ^^^ ap) ^^^ aG))+(d ^^^ (o &&& (u ^^^ d))))+b1) ct)) Z ?_))
  obtain ⟨aL,ce,h⟩:=aQ h
  refine am a Z Z (fun w hF=>aD (v:=v32 aL) (by rw [←ce]; rfl)) Z ?_
  refine bp a ?_
  refine N (M (H (Q 1 Z ?_)))
  obtain ⟨a5,cf,h⟩:=aj h
  refine ao Z (bN c (-2) cf ) Z ?_
  rintro _ w ⟨rfl,t⟩
  have a:=a.f t
  refine Q 1 Z ?_
  obtain ⟨a6,cg,h⟩:=aj h
  refine ao Z (bN c (-13) cg ) Z ?_
  rintro _ w ⟨rfl,t⟩
  have a:=a.f t
  refine al (aq Z Z (eH _ a5 a6)) Z (Q 1 Z ?_)
  obtain ⟨b2,ci,h⟩:=aj h
  refine ao Z (bN c (-22) ci ) Z ?_
  rintro _ w ⟨rfl,t⟩
  have a:=a.f t
  refine al (aq Z Z (eH _ (a5 ^^^ a6) b2)) Z (Q 2 Z ?_)
  refine al (aq Z Z (iX _ c q)) Z (Q 3 Z ?_)
  refine al (aq Z Z (fu _ c q)) Z (al (aq Z Z (iX _ B (c ||| q))) Z (al (aq Z Z (fu _ (c &&& q) (B &&& (c ||| q)))) Z (al (aq Z Z (em _ ((a5 ^^^ a6) ^^^ b2) ((c &&& q) ||| (B &&& (c ||| q))))) Z ?_)))
  obtain ⟨a7,cj,h⟩:=aQ h
  refine al (aD (v:=v32 a7) (by rw [←cj]; rfl)) Z ?_
  refine J (N (H (Q 5 Z ?_)))
  refine al (aq Z Z (em _ G aL)) Z (Q 5 Z ?_)
  refine al (aq Z Z (em _ aL a7)) Z (Q 8 Z ?_)
  refine J (aP ?_)
  refine N (H (Q 2 Z ?_))
  refine J ?_
  exact bh (bo _ (by exact ⟨Z,Z,Z,Z,Z,Z,Z,Z,Z,Z,Z,V⟩) (ca (aL+a7,c,q,B,G+aL,o,u,d,wI (cr+1)) _ _ ⟨Z,a⟩ (aY h bG)))
 have h:=aI h a1
 refine ba ?_
 refine aC (aC ?_)
 have h:=aT h bG
 refine a9 ?_
 refine N (M (H (Q 8 Z ?_)))
 refine al (cl (vs:=[(0,v32 c,[v32 c]),(1,v32 q,[v32 q]),(2,v32 B,[v32 B]),(3,v32 G,[v32 G]),(4,v32 o,[v32 o]),(5,v32 u,[v32 u]),(6,v32 d,[v32 d]),(7,v32 C,[v32 C])]) (cells:=[v32 c,v32 q,v32 B,v32 G,v32 o,v32 u,v32 d,v32 C]) Z Aw ⟨Z,Z,Z,Z,Z,Z,Z,Z,V⟩ (by kernel_rfl)) Z ?_
 refine Q 1 Z ?_
 refine J (N (az ?_))
 refine ar [(0,K j 0),(204,.agg #[v32 c,v32 q,v32 B,v32 G,v32 o,v32 u,v32 d,v32 C]),(205,vI 0)] ⟨Z,Z,Z,V⟩ ?_
 refine bd (F.EJ l f g n c q B G o u d C) (fun (s:Int×List UInt32) L w=>L=[(0,K j 0),(204,.agg #[v32 c,v32 q,v32 B,v32 G,v32 o,v32 u,v32 d,v32 C]),(205,vI s.1)]∧s.2.length=8∧St S T w [X j ([vI l]++(U.fl s.2++(e64.fl f++(e8.fl g++[v64 n]))))]) ?_ (0,p) ⟨Z,b,(a.e [0] Z Z)⟩ h
 rintro cG ⟨cu,cv⟩ L w cH hI ck h bK
 try dsimp only at hI
 obtain ⟨rfl,ay,a⟩:=hI
 unfold F.EJ at h
 refine M (H (Q 1 Z ?_))
 refine J (N (M ?_))
 refine av Z (fun a2=>?_) (fun a2=>?_)
 ·have h:=aJ h a2
  refine aw (N (M (az ?_)))
  refine M (H (Q 1 Z ?_))
  obtain ⟨b3,bM,h⟩:=aj h
  refine al (kn (cs:=(U.fl ([c,q,B,G,o,u,d,C]:List UInt32)).toArray) u165 u38 Z ea Z Z (bJ bM Z) (mi bM Z)) Z ?_
  refine Q 2 Z ?_
  refine J (N ?_)
  refine dU (fun w'=>St S T w' [X j ([vI l]++(U.fl cv++(e64.fl f++(e8.fl g++[v64 n]))))]) (fun i=>!([11].contains i)) bR (fun _ _ _ A=>A.2) (fun _ _ A=>A) (by kernel_rfl) ?_
  have a:=a.drew
  show lxE _ _ _ _ _ _ _ [0,1,2,3,4,5,6,7,8,9,10,11] _ _
  refine am a Z Z (fun w hF=>au Z) Z (am a Z Z (fun w hF=>au Z) Z (am a Z Z (fun w hF=>aO Z) Z (am a Z Z (fun w hF=>ax (k:=1) u168 Z Z fU Z) Z ?_)))
  obtain ⟨b4,bO,h⟩:=aj h
  refine am a Z Z (fun w hF=>bL u165 ea Z Z (bJ bO ay)) Z (am a Z Z (fun w hF=>aH u38 Z Z (hF.s 0 Z (Up.elr (Up.o (k:=1) Z Up.p Z) bO Z))) Z (am a Z Z (fun w hF=>au Z) Z (am a Z Z (fun w hF=>aq Z Z (em _ b4 b3)) Z (am a Z Z (fun w hF=>aO Z) Z (am a Z Z (fun w hF=>ax (k:=1) u168 Z Z fU Z) Z ?_)))))
  obtain ⟨cI,bP,h⟩:=aj h
  refine am a Z Z (fun w hF=>bL u165 ea Z Z (bJ bP ay)) Z (iK a Z Z (eD (m:=1) Z ea Z Z Z (Up.elt (t':=(b4+b3)) (Up.o (k:=1) Z Up.p Z) bP Z Z) Z Z (fx Z) a (i:=0)) ?_)
  intro w a
  obtain ⟨cw,bQ,h⟩:=aQ h
  rw [bQ]at a
  refine bp V ?_
  refine aP ?_
  refine N (H (Q 2 Z ?_))
  refine J ?_
  exact bh (bo _ (by exact ⟨Z,Z,Z,V⟩) (ck (wI (cu+1),cw) _ _ ⟨Z,(by rw [←bQ,List.length_set]; exact ay),a⟩ (aY h bK)))
 have h:=aI h a2
 refine ba ?_
 refine aC (aC ?_)
 have h:=aT h bK
 refine a9 ?_
 cases h
 exact gd Z ⟨Z,ay,y,x,a.e [0] Z Z⟩
theorem kX {G:World} {b:Nat} {S:List Nat} (l:Int) (g:List UInt32) (q:List UInt64) (j:List UInt8) (n:UInt64) {r:Int×List UInt32×List UInt64×List UInt8×UInt64}
  (h:F.Fh l g q j n=some r) (a:St S G G [X b ([vI l]++(U.fl g++(e64.fl q++(e8.fl j++[v64 n]))))]) (hT:TB S G) (f:g.length=8) (p:q.length=8) (ab:j.length=128):Calls Tryz.prog 188 #[K b 0] G (Ret fun v w=>v=.tuple #[]∧r.2.1.length=8∧r.2.2.1.length=8∧r.2.2.2.1.length=128∧St S G w [X b ([vI r.1]++(U.fl r.2.1++(e64.fl r.2.2.1++(e8.fl r.2.2.2.1++[v64 r.2.2.2.2]))))]):=by
 refine aN 216 Tryz.func188 Z Z Z ?_
 refine ar [(0,K b 0)] ⟨Z,V⟩ ?_
 unfold F.Fh at h
 refine M (H ?_)
 refine aU (bg (cs:=e64.fl (List.replicate 80 0)) Bf (by kernel_rfl) a) Z ?_
 rintro _ w ⟨y,rfl,a⟩
 refine J (N (M (M (H (Q 1 Z ?_)))))
 refine J (N (az ?_))
 refine ar [(0,K b 0),(2,K y 0),(22,vI 0)] ⟨Z,Z,Z,V⟩ ?_
 refine bd (F.E7 j q l g n) (fun (s:Int×List UInt64) L w=>L=[(0,K b 0),(2,K y 0),(22,vI s.1)]∧s.2.length=80∧St S G w [X b ([vI l]++(U.fl g++(e64.fl q++(e8.fl j++[v64 n])))),X y (e64.fl s.2)]) ?_ (0,(List.replicate 80 0)) ⟨Z,List.length_replicate,(a.e [1,0] Z Z)⟩ h
 rintro cF ⟨E,cr⟩ L w cR hI ct h bV
 try dsimp only at hI
 obtain ⟨rfl,bW,a⟩:=hI
 unfold F.E7 at h
 refine M (H (Q 1 Z ?_))
 refine J (N (M ?_))
 refine av Z (fun aM=>?_) (fun aM=>?_)
 ·have h:=aJ h aM
  refine aw (N (M (az ?_)))
  refine M (H (Q 2 Z ?_))
  refine J (N (M (H (Q 1 Z ?_))))
  refine al (aO Z) Z (al (ax (k:=17) u168 Z Z un Z) Z (Q 1 Z ?_))
  refine al (aq Z Z (fj _ 8 E)) Z (Q 1 Z ?_)
  refine al (aq Z Z (fj _ 8 E)) Z (Q 1 Z ?_)
  obtain ⟨a5,an,h⟩:=aj h
  refine al (Ab (e:=e8) u166 sz5 Z Z Z Z ab an) Z (al (aL u24 Z ((a.bxroA 0 Z ab (Up.o (k:=1) Z (Up.o (k:=8) (bj f Z) (Up.o (k:=8) (bj p Z) Up.p Z) Z) Z)).g_sl an)) Z ?_)
  refine Q 1 Z ?_
  refine J (N (az ?_))
  refine ar [(0,K b 0),(2,K y 0),(3,vI E),(22,vI E),(33,slV (.slice (some ⟨b,17,none⟩) 128 128) e8.sz ((wI (8*E):Int).toNat) ((wI ((wI (8*E))+8):Int).toNat)),(34,vI (a5.length:Int)),(35,vI 0)] ⟨Z,Z,Z,Z,Z,Z,Z,V⟩ ?_
  refine bd (F.Ej E a5) (fun (s:Int×List UInt64) L w=>L=[(0,K b 0),(2,K y 0),(3,vI E),(22,vI E),(33,slV (.slice (some ⟨b,17,none⟩) 128 128) e8.sz ((wI (8*E):Int).toNat) ((wI ((wI (8*E))+8):Int).toNat)),(34,vI (a5.length:Int)),(35,vI s.1)]∧s.2.length=80∧St S G w [X b ([vI l]++(U.fl g++(e64.fl q++(e8.fl j++[v64 n])))),X y (e64.fl s.2)]) ?_ (0,cr) ⟨Z,bW,a⟩ h
  rintro cG ⟨cu,cw⟩ L w cH hI b9 h bf
  try dsimp only at hI
  obtain ⟨rfl,ap,a⟩:=hI
  unfold F.Ej at h
  refine M (H (Q 1 Z ?_))
  refine J (N (M ?_))
  refine av Z (fun aS=>?_) (fun aS=>?_)
  ·have h:=aJ h aS
   refine aw (N (M (az ?_)))
   refine M (H ?_)
   obtain ⟨a6,bi,h⟩:=aj h
   refine al (aW u24 ti5 Z Z ((a.bxroA 0 Z ab (Up.o (k:=1) Z (Up.o (k:=8) (bj f Z) (Up.o (k:=8) (bj p Z) Up.p Z) Z) Z)).g_sl an) bi) Z ?_
   refine al (aR Tryz.underlying5 Z Z ((a.bxroA 0 Z ab (Up.o (k:=1) Z (Up.o (k:=8) (bj f Z) (Up.o (k:=8) (bj p Z) Up.p Z) Z) Z)).g_sl an) bi Z) Z ?_
   refine Q 1 Z ?_
   refine J (N (H (Q 2 Z ?_)))
   obtain ⟨a7,bl,h⟩:=aj h
   refine al (bL u179 dO Z Z (bJ bl ap)) Z (al (aH u87 Z Z (a.s 1 Z (Up.elr Up.last bl Z))) Z (al (aq Z Z (c9 _ a7 8)) Z (Q 1 Z ?_)))
   refine al (aK Z (tx Tryz.underlying5 u87 a6)) Z (al (aq Z Z (eL _ (br a7 8) a6.toUInt64)) Z ?_)
   obtain ⟨cI,bm,h⟩:=aj h
   refine al (bL u179 dO Z Z (bJ bm ap)) Z (bn (eD (m:=1) Z dO Z Z Z (Up.elt (t':=((br a7 8) ||| a6.toUInt64)) Up.last bm Z Z) Z Z (fx Z) a (i:=1)) ?_)
   intro w a
   obtain ⟨cx,bq,h⟩:=aQ h
   rw [bq]at a
   refine J (aP ?_)
   refine N (H (Q 2 Z ?_))
   refine J ?_
   exact bh (bo _ (by exact ⟨Z,Z,Z,Z,Z,Z,Z,V⟩) (b9 (wI (cu+1),cx) _ _ ⟨Z,(by rw [←bq,List.length_set]; exact ap),a⟩ (aY h bf)))
  have h:=aI h aS
  refine ba ?_
  refine aC (aC ?_)
  have h:=aT h bf
  refine a9 ?_
  refine aP ?_
  refine N (H (Q 2 Z ?_))
  refine J ?_
  exact bh (bo _ (by exact ⟨Z,Z,Z,V⟩) (ct (wI (E+1),cw) _ _ ⟨Z,ap,a⟩ (aY h bV)))
 have h:=aI h aM
 refine ba ?_
 refine aC (aC ?_)
 have h:=aT h bV
 refine a9 ?_
 refine N (M (M (H (Q 1 Z ?_))))
 refine J (N (az ?_))
 refine ar [(0,K b 0),(2,K y 0),(6,vI 16)] ⟨Z,Z,Z,V⟩ ?_
 refine bd (F.De q l g j n) (fun (s:Int×List UInt64) L w=>L=[(0,K b 0),(2,K y 0),(6,vI s.1)]∧s.2.length=80∧St S G w [X b ([vI l]++(U.fl g++(e64.fl q++(e8.fl j++[v64 n])))),X y (e64.fl s.2)]) ?_ (16,cr) ⟨Z,bW,a⟩ h
 rintro cJ ⟨aA,ac⟩ L w cK hI ca h bs
 try dsimp only at hI
 obtain ⟨rfl,B,a⟩:=hI
 unfold F.De at h
 refine M (M (H (Q 2 Z ?_)))
 refine J (N ?_)
 refine av Z (fun aV=>?_) (fun aV=>?_)
 ·have h:=aJ h aV
  refine aw (N (M (az ?_)))
  refine M ?_
  refine bb (fun w'=>St S G w' [X b ([vI l]++(U.fl g++(e64.fl q++(e8.fl j++[v64 n])))),X y (e64.fl ac)]) (fun _=>true) bR (fun _ _ _ C=>C.2) (fun _ _ C=>C) (by kernel_rfl) ?_
  have a:=a.drew
  show lxE _ _ _ _ _ _ _ [0,1,2,3,4,5,6,7,8,9] _ _
  refine am a Z Z (fun w hF=>au Z) Z (am a Z Z (fun w hF=>aq Z Z (dI _ aA 15)) Z ?_)
  obtain ⟨T,bt,h⟩:=aj h
  refine am a Z Z (fun w hF=>bL u179 dO Z Z (bJ bt B)) Z (am a Z Z (fun w hF=>aH u87 Z Z (hF.s 1 Z (Up.elr Up.last bt Z))) Z (am a Z Z (fun w hF=>au Z) Z (am a Z Z (fun w hF=>aq Z Z (dI _ aA 2)) Z ?_)))
  obtain ⟨ad,bu,h⟩:=aj h
  refine am a Z Z (fun w hF=>bL u179 dO Z Z (bJ bu B)) Z (am a Z Z (fun w hF=>aH u87 Z Z (hF.s 1 Z (Up.elr Up.last bu Z))) Z (am a Z Z (fun w hF=>aD Z) Z (am a Z Z (fun w hF=>aD Z) Z (bp a ?_))))
  refine N ?_
  refine dU (fun w'=>St S G w' [X b ([vI l]++(U.fl g++(e64.fl q++(e8.fl j++[v64 n])))),X y (e64.fl ac)]) (fun i=>!([11,13,20,22,29].contains i)) bR (fun _ _ _ C=>C.2) (fun _ _ C=>C) (by kernel_rfl) ?_
  have a:=a.drew
  show lxE _ _ _ _ _ _ _ [0,1,2,3,4,5,6,7,8,9,10,11,12,13,14,15,16,17,18,19,20,21,22,23,24,25,26,27,28,29] _ _
  refine am a Z Z (fun w hF=>au Z) Z (am a Z Z (fun w hF=>au Z) Z (am a Z Z (fun w hF=>aq Z Z (dI _ aA 16)) Z ?_))
  obtain ⟨aZ,bv,h⟩:=aj h
  refine am a Z Z (fun w hF=>bL u179 dO Z Z (bJ bv B)) Z (am a Z Z (fun w hF=>aH u87 Z Z (hF.s 1 Z (Up.elr Up.last bv Z))) Z (am a Z Z (fun w hF=>au Z) Z (am a Z Z (fun w hF=>aq Z Z (dI _ aA 7)) Z ?_)))
  obtain ⟨a0,bw,h⟩:=aj h
  refine am a Z Z (fun w hF=>bL u179 dO Z Z (bJ bw B)) Z (am a Z Z (fun w hF=>aH u87 Z Z (hF.s 1 Z (Up.elr Up.last bw Z))) Z (am a Z Z (fun w hF=>aq Z Z (cv _ aZ a0)) Z (am a Z Z (fun w hF=>au Z) Z ?_)))
  obtain ⟨aB,cb,h⟩:=aj h
  refine bk a Z Z (by kernel_rfl) Z (bM T (-1) cb ) Z ?_
  rintro _ w ⟨rfl,u⟩
  have a:=a.f u
  refine am a Z Z (fun w hF=>au Z) Z ?_
  obtain ⟨aE,cc,h⟩:=aj h
  refine bk a Z Z (by kernel_rfl) Z (bM T (-8) cc ) Z ?_
  rintro _ w ⟨rfl,u⟩
  have a:=a.f u
  refine am a Z Z (fun w hF=>aq Z Z (eF _ aB aE)) Z (am a Z Z (fun w hF=>au Z) Z (am a Z Z (fun w hF=>aq Z Z (cq _ T 7)) Z (am a Z Z (fun w hF=>aq Z Z (eF _ (aB ^^^ aE) (aX T 7))) Z (am a Z Z (fun w hF=>aq Z Z (cv _ (aZ+a0) ((aB ^^^ aE) ^^^ (aX T 7)))) Z (am a Z Z (fun w hF=>au Z) Z ?_)))))
  obtain ⟨a1,cd,h⟩:=aj h
  refine bk a Z Z (by kernel_rfl) Z (bM ad (-19) cd ) Z ?_
  rintro _ w ⟨rfl,u⟩
  have a:=a.f u
  refine am a Z Z (fun w hF=>au Z) Z ?_
  obtain ⟨a2,ce,h⟩:=aj h
  refine bk a Z Z (by kernel_rfl) Z (bM ad (-61) ce ) Z ?_
  rintro _ w ⟨rfl,u⟩
  have a:=a.f u
  refine am a Z Z (fun w hF=>aq Z Z (eF _ a1 a2)) Z (am a Z Z (fun w hF=>au Z) Z (am a Z Z (fun w hF=>aq Z Z (cq _ ad 6)) Z (am a Z Z (fun w hF=>aq Z Z (eF _ (a1 ^^^ a2) (aX ad 6))) Z (am a Z Z (fun w hF=>aq Z Z (cv _ ((aZ+a0)+((aB ^^^ aE) ^^^ (aX T 7))) ((a1 ^^^ a2) ^^^ (aX ad 6)))) Z ?_))))
  obtain ⟨cL,bz,h⟩:=aj h
  refine am a Z Z (fun w hF=>bL u179 dO Z Z (bJ bz B)) Z (iK a Z Z (eD (m:=1) Z dO Z Z Z (Up.elt (t':=(((aZ+a0)+((aB ^^^ aE) ^^^ (aX T 7)))+((a1 ^^^ a2) ^^^ (aX ad 6)))) Up.last bz Z Z) Z Z (fx Z) a (i:=1)) ?_)
  intro w a
  obtain ⟨cy,bA,h⟩:=aQ h
  rw [bA]at a
  refine bp V ?_
  refine aP ?_
  refine N (H (Q 3 Z ?_))
  refine J ?_
  exact bh (bo _ (by exact ⟨Z,Z,Z,V⟩) (ca (wI (aA+1),cy) _ _ ⟨Z,(by rw [←bA,List.length_set]; exact B),a⟩ (aY h bs)))
 have h:=aI h aV
 refine ba ?_
 refine aC (aC ?_)
 have h:=aT h bs
 refine a9 ?_
 refine N (M ?_)
 refine bb (fun w'=>St S G w' [X b ([vI l]++(U.fl g++(e64.fl q++(e8.fl j++[v64 n])))),X y (e64.fl ac)]) (fun _=>true) bR (fun _ _ _ C=>C.2) (fun _ _ C=>C) (by kernel_rfl) ?_
 have a:=a.drew
 show lxE _ _ _ _ _ _ _ [0,1,2,3,4,5,6,7,8,9,10,11,12,13,14,15,16,17,18,19,20,21,22,23,24,25,26,27,28,29,30,31,32,33,34,35,36,37,38,39,40,41,42,43,44,45,46,47] _ _
 refine am a Z Z (fun w hF=>au Z) Z (am a Z Z (fun w hF=>aO Z) Z (am a Z Z (fun w hF=>ax (k:=9) u168 Z Z fy Z) Z ?_))
 obtain ⟨bX,bB,h⟩:=aj h
 refine am a Z Z (fun w hF=>bL u160 dO Z Z (bJ bB p)) Z (am a Z Z (fun w hF=>aH u87 Z Z (hF.s 0 Z (Up.elr (Up.o (k:=1) Z (Up.o (k:=8) (bj f Z) Up.p Z) Z) bB Z))) Z ?_)
 refine am a Z Z (fun w hF=>au Z) Z (am a Z Z (fun w hF=>aO Z) Z (am a Z Z (fun w hF=>ax (k:=9) u168 Z Z fy Z) Z ?_))
 obtain ⟨bY,bC,h⟩:=aj h
 refine am a Z Z (fun w hF=>bL u160 dO Z Z (bJ bC p)) Z (am a Z Z (fun w hF=>aH u87 Z Z (hF.s 0 Z (Up.elr (Up.o (k:=1) Z (Up.o (k:=8) (bj f Z) Up.p Z) Z) bC Z))) Z ?_)
 refine am a Z Z (fun w hF=>au Z) Z (am a Z Z (fun w hF=>aO Z) Z (am a Z Z (fun w hF=>ax (k:=9) u168 Z Z fy Z) Z ?_))
 obtain ⟨bZ,bD,h⟩:=aj h
 refine am a Z Z (fun w hF=>bL u160 dO Z Z (bJ bD p)) Z (am a Z Z (fun w hF=>aH u87 Z Z (hF.s 0 Z (Up.elr (Up.o (k:=1) Z (Up.o (k:=8) (bj f Z) Up.p Z) Z) bD Z))) Z ?_)
 refine am a Z Z (fun w hF=>au Z) Z (am a Z Z (fun w hF=>aO Z) Z (am a Z Z (fun w hF=>ax (k:=9) u168 Z Z fy Z) Z ?_))
 obtain ⟨b0,bE,h⟩:=aj h
 refine am a Z Z (fun w hF=>bL u160 dO Z Z (bJ bE p)) Z (am a Z Z (fun w hF=>aH u87 Z Z (hF.s 0 Z (Up.elr (Up.o (k:=1) Z (Up.o (k:=8) (bj f Z) Up.p Z) Z) bE Z))) Z ?_)
 refine am a Z Z (fun w hF=>au Z) Z (am a Z Z (fun w hF=>aO Z) Z (am a Z Z (fun w hF=>ax (k:=9) u168 Z Z fy Z) Z ?_))
 obtain ⟨b1,bF,h⟩:=aj h
 refine am a Z Z (fun w hF=>bL u160 dO Z Z (bJ bF p)) Z (am a Z Z (fun w hF=>aH u87 Z Z (hF.s 0 Z (Up.elr (Up.o (k:=1) Z (Up.o (k:=8) (bj f Z) Up.p Z) Z) bF Z))) Z ?_)
 refine am a Z Z (fun w hF=>au Z) Z (am a Z Z (fun w hF=>aO Z) Z (am a Z Z (fun w hF=>ax (k:=9) u168 Z Z fy Z) Z ?_))
 obtain ⟨b2,bG,h⟩:=aj h
 refine am a Z Z (fun w hF=>bL u160 dO Z Z (bJ bG p)) Z (am a Z Z (fun w hF=>aH u87 Z Z (hF.s 0 Z (Up.elr (Up.o (k:=1) Z (Up.o (k:=8) (bj f Z) Up.p Z) Z) bG Z))) Z ?_)
 refine am a Z Z (fun w hF=>au Z) Z (am a Z Z (fun w hF=>aO Z) Z (am a Z Z (fun w hF=>ax (k:=9) u168 Z Z fy Z) Z ?_))
 obtain ⟨b3,bH,h⟩:=aj h
 refine am a Z Z (fun w hF=>bL u160 dO Z Z (bJ bH p)) Z (am a Z Z (fun w hF=>aH u87 Z Z (hF.s 0 Z (Up.elr (Up.o (k:=1) Z (Up.o (k:=8) (bj f Z) Up.p Z) Z) bH Z))) Z ?_)
 refine am a Z Z (fun w hF=>au Z) Z (am a Z Z (fun w hF=>aO Z) Z (am a Z Z (fun w hF=>ax (k:=9) u168 Z Z fy Z) Z ?_))
 obtain ⟨b4,bI,h⟩:=aj h
 refine am a Z Z (fun w hF=>bL u160 dO Z Z (bJ bI p)) Z (am a Z Z (fun w hF=>aH u87 Z Z (hF.s 0 Z (Up.elr (Up.o (k:=1) Z (Up.o (k:=8) (bj f Z) Up.p Z) Z) bI Z))) Z ?_)
 refine am a Z Z (fun w hF=>aD Z) Z (am a Z Z (fun w hF=>aD Z) Z (am a Z Z (fun w hF=>aD Z) Z (am a Z Z (fun w hF=>aD Z) Z (am a Z Z (fun w hF=>aD Z) Z (am a Z Z (fun w hF=>aD Z) Z (am a Z Z (fun w hF=>aD Z) Z (am a Z Z (fun w hF=>aD Z) Z (bp a ?_))))))))
 refine N (M (M (H (Q 1 Z ?_))))
 refine J (N (az ?_))
 refine ar [(0,K b 0),(2,K y 0),(9,v64 bX),(10,v64 bY),(11,v64 bZ),(12,v64 b0),(13,v64 b1),(14,v64 b2),(15,v64 b3),(16,v64 b4),(131,vI 0)] ⟨Z,Z,Z,Z,Z,Z,Z,Z,Z,Z,Z,V⟩ ?_
 refine bd (F.EM q ac l g j n) (fun (s:UInt64×UInt64×UInt64×UInt64×UInt64×UInt64×UInt64×UInt64×Int) L w=>L=[(0,K b 0),(2,K y 0),(9,v64 s.1),(10,v64 s.2.1),(11,v64 s.2.2.1),(12,v64 s.2.2.2.1),(13,v64 s.2.2.2.2.1),(14,v64 s.2.2.2.2.2.1),(15,v64 s.2.2.2.2.2.2.1),(16,v64 s.2.2.2.2.2.2.2.1),(131,vI s.2.2.2.2.2.2.2.2)]∧St S G w [X b ([vI l]++(U.fl g++(e64.fl q++(e8.fl j++[v64 n])))),X y (e64.fl ac)]) ?_ (bX,bY,bZ,b0,b1,b2,b3,b4,0) ⟨Z,a⟩ h
 rintro cM ⟨c,t,z,D,o,x,d,A,cz⟩ L w cN hI cf h bK
 try dsimp only at hI
 obtain ⟨rfl,a⟩:=hI
 unfold F.EM at h
 refine M (H (Q 1 Z ?_))
 refine J (N (M ?_))
 refine av Z (fun a3=>?_) (fun a3=>?_)
 ·have h:=aJ h a3
  refine aw (N (M (az ?_)))
  refine M (H (Q 2 Z ?_))
  refine J (N (M ?_))
  refine bb (fun w'=>St S G w' [X b ([vI l]++(U.fl g++(e64.fl q++(e8.fl j++[v64 n])))),X y (e64.fl ac)]) (fun i=>!([2,4,7].contains i)) bR (fun _ _ _ C=>C.2) (fun _ _ C=>C) (by kernel_rfl) ?_
  have a:=a.drew
  show lxE _ _ _ _ _ _ _ [0,1,2,3,4,5,6,7,8,9,10,11,12,13,14,15,16,17,18,19,20,21,22,23,24,25,26] _ _
  refine am a Z Z (fun w hF=>au Z) Z (am a Z Z (fun w hF=>au Z) Z ?_)
  obtain ⟨ag,cg,h⟩:=aj h
  refine bk a Z Z (by kernel_rfl) Z (bM o (-14) cg ) Z ?_
  rintro _ w ⟨rfl,u⟩
  have a:=a.f u
  refine am a Z Z (fun w hF=>au Z) Z ?_
  obtain ⟨ak,ch,h⟩:=aj h
  refine bk a Z Z (by kernel_rfl) Z (bM o (-18) ch ) Z ?_
  rintro _ w ⟨rfl,u⟩
  have a:=a.f u
  refine am a Z Z (fun w hF=>aq Z Z (eF _ ag ak)) Z (am a Z Z (fun w hF=>au Z) Z ?_)
  obtain ⟨aF,ci,h⟩:=aj h
  refine bk a Z Z (by kernel_rfl) Z (bM o (-41) ci ) Z ?_
  rintro _ w ⟨rfl,u⟩
  have a:=a.f u
  refine am a Z Z (fun w hF=>aq Z Z (eF _ (ag ^^^ ak) aF)) Z (am a Z Z (fun w hF=>aq Z Z (cv _ A ((ag ^^^ ak) ^^^ aF))) Z (am a Z Z (fun w hF=>au Z) Z (am a Z Z (fun w hF=>au Z) Z (am a Z Z (fun w hF=>au Z) Z (am a Z Z (fun w hF=>au Z) Z (am a Z Z (fun w hF=>aq Z Z (eF _ x d)) Z (am a Z Z (fun w hF=>aq Z Z (i2 _ o (x ^^^ d))) Z (am a Z Z (fun w hF=>aq Z Z (eF _ d (o &&& (x ^^^ d)))) Z ?_))))))))
  refine am a Z Z (fun w hF=>aq Z Z (cv _ (A+((ag ^^^ ak) ^^^ aF)) (d ^^^ (o &&& (x ^^^ d))))) Z (am a Z Z (fun w hF=>au Z) Z ?_)
  obtain ⟨b5,bN,h⟩:=aj h
  refine am a Z Z (fun w hF=>bL u179 dO Z Z (bJ bN (show F.Cy.length=80 from Z))) Z (am a Z Z (fun w hF=>aH u87 Z Z (hT.sha_k512.cell hF.fr bN Z)) Z (am a Z Z (fun w hF=>aq Z Z (cv _ ((A+((ag ^^^ ak) ^^^ aF))+(d ^^^ (o &&& (x ^^^ d)))) b5)) Z (am a Z Z (fun w hF=>au Z) Z ?_)))
  obtain ⟨cA,bO,h⟩:=aj h
  refine am a Z Z (fun w hF=>bL u179 dO Z Z (bJ bO B)) Z (am a Z Z (fun w hF=>aH u87 Z Z (hF.s 1 Z (Up.elr Up.last bO Z))) Z (am a Z Z (fun w hF=>aq Z Z (cv _ (((A+((ag ^^^ ak) ^^^ aF))+(d ^^^ (o &&& (x ^^^ d))))+b5) cA)) Z ?_))
  obtain ⟨aG,cj,h⟩:=aQ h
  refine am a Z Z (fun w hF=>aD (v:=v64 aG) (by rw [←cj]; rfl)) Z ?_
  refine bp a ?_
  refine N (M (H (Q 1 Z ?_)))
  obtain ⟨a8,ck,h⟩:=aj h
  refine ao Z (bM c (-28) ck ) Z ?_
  rintro _ w ⟨rfl,u⟩
  have a:=a.f u
  refine Q 1 Z ?_
  obtain ⟨bc,cm,h⟩:=aj h
  refine ao Z (bM c (-34) cm ) Z ?_
  rintro _ w ⟨rfl,u⟩
  have a:=a.f u
  refine al (aq Z Z (eF _ a8 bc)) Z (Q 1 Z ?_)
  obtain ⟨b6,cn,h⟩:=aj h
  refine ao Z (bM c (-39) cn ) Z ?_
  rintro _ w ⟨rfl,u⟩
  have a:=a.f u
  refine al (aq Z Z (eF _ (a8 ^^^ bc) b6)) Z (Q 2 Z ?_)
  refine al (aq Z Z (i2 _ c t)) Z (Q 3 Z ?_)
  refine al (aq Z Z (eL _ c t)) Z (al (aq Z Z (i2 _ z (c ||| t))) Z (al (aq Z Z (eL _ (c &&& t) (z &&& (c ||| t)))) Z (al (aq Z Z (cv _ ((a8 ^^^ bc) ^^^ b6) ((c &&& t) ||| (z &&& (c ||| t))))) Z ?_)))
  obtain ⟨be,co,h⟩:=aQ h
  refine al (aD (v:=v64 be) (by rw [←co]; rfl)) Z ?_
  refine J (N (H (Q 5 Z ?_)))
  refine al (aq Z Z (cv _ D aG)) Z (Q 5 Z ?_)
  refine al (aq Z Z (cv _ aG be)) Z (Q 8 Z ?_)
  refine J (aP ?_)
  refine N (H (Q 2 Z ?_))
  refine J ?_
  exact bh (bo _ (by exact ⟨Z,Z,Z,Z,Z,Z,Z,Z,Z,Z,Z,V⟩) (cf (aG+be,c,t,z,D+aG,o,x,d,wI (cz+1)) _ _ ⟨Z,a⟩ (aY h bK)))
 have h:=aI h a3
 refine ba ?_
 refine aC (aC ?_)
 have h:=aT h bK
 refine a9 ?_
 refine N (M (H (Q 8 Z ?_)))
 refine al (cl (vs:=[(0,v64 c,[v64 c]),(1,v64 t,[v64 t]),(2,v64 z,[v64 z]),(3,v64 D,[v64 D]),(4,v64 o,[v64 o]),(5,v64 x,[v64 x]),(6,v64 d,[v64 d]),(7,v64 A,[v64 A])]) (cells:=[v64 c,v64 t,v64 z,v64 D,v64 o,v64 x,v64 d,v64 A]) Z Am ⟨Z,Z,Z,Z,Z,Z,Z,Z,V⟩ (by kernel_rfl)) Z ?_
 refine Q 1 Z ?_
 refine J (N (az ?_))
 refine ar [(0,K b 0),(199,.agg #[v64 c,v64 t,v64 z,v64 D,v64 o,v64 x,v64 d,v64 A]),(200,vI 0)] ⟨Z,Z,Z,V⟩ ?_
 refine bd (F.Eu l g j n c t z D o x d A) (fun (s:Int×List UInt64) L w=>L=[(0,K b 0),(199,.agg #[v64 c,v64 t,v64 z,v64 D,v64 o,v64 x,v64 d,v64 A]),(200,vI s.1)]∧s.2.length=8∧St S G w [X b ([vI l]++(U.fl g++(e64.fl s.2++(e8.fl j++[v64 n]))))]) ?_ (0,q) ⟨Z,p,(a.e [0] Z Z)⟩ h
 rintro cO ⟨cB,cC⟩ L w cP hI cp h bP
 try dsimp only at hI
 obtain ⟨rfl,ay,a⟩:=hI
 unfold F.Eu at h
 refine M (H (Q 1 Z ?_))
 refine J (N (M ?_))
 refine av Z (fun a4=>?_) (fun a4=>?_)
 ·have h:=aJ h a4
  refine aw (N (M (az ?_)))
  refine M (H (Q 1 Z ?_))
  obtain ⟨b7,bQ,h⟩:=aj h
  refine al (kn (cs:=(e64.fl ([c,t,z,D,o,x,d,A]:List UInt64)).toArray) u160 u87 Z dO Z Z (bJ bQ Z) (mi bQ Z)) Z ?_
  refine Q 2 Z ?_
  refine J (N ?_)
  refine dU (fun w'=>St S G w' [X b ([vI l]++(U.fl g++(e64.fl cC++(e8.fl j++[v64 n]))))]) (fun i=>!([11].contains i)) bR (fun _ _ _ C=>C.2) (fun _ _ C=>C) (by kernel_rfl) ?_
  have a:=a.drew
  show lxE _ _ _ _ _ _ _ [0,1,2,3,4,5,6,7,8,9,10,11] _ _
  refine am a Z Z (fun w hF=>au Z) Z (am a Z Z (fun w hF=>au Z) Z (am a Z Z (fun w hF=>aO Z) Z (am a Z Z (fun w hF=>ax (k:=9) u168 Z Z fy Z) Z ?_)))
  obtain ⟨b8,bS,h⟩:=aj h
  refine am a Z Z (fun w hF=>bL u160 dO Z Z (bJ bS ay)) Z (am a Z Z (fun w hF=>aH u87 Z Z (hF.s 0 Z (Up.elr (Up.o (k:=1) Z (Up.o (k:=8) (bj f Z) Up.p Z) Z) bS Z))) Z ?_)
  refine am a Z Z (fun w hF=>au Z) Z (am a Z Z (fun w hF=>aq Z Z (cv _ b8 b7)) Z (am a Z Z (fun w hF=>aO Z) Z (am a Z Z (fun w hF=>ax (k:=9) u168 Z Z fy Z) Z ?_)))
  obtain ⟨cQ,bT,h⟩:=aj h
  refine am a Z Z (fun w hF=>bL u160 dO Z Z (bJ bT ay)) Z (iK a Z Z (eD (m:=1) Z dO Z Z Z (Up.elt (t':=(b8+b7)) (Up.o (k:=1) Z (Up.o (k:=8) (bj f Z) Up.p Z) Z) bT Z Z) Z Z (fx Z) a (i:=0)) ?_)
  intro w a
  obtain ⟨cD,bU,h⟩:=aQ h
  rw [bU]at a
  refine bp V ?_
  refine aP ?_
  refine N (H (Q 2 Z ?_))
  refine J ?_
  exact bh (bo _ (by exact ⟨Z,Z,Z,V⟩) (cp (wI (cB+1),cD) _ _ ⟨Z,(by rw [←bU,List.length_set]; exact ay),a⟩ (aY h bP)))
 have h:=aI h a4
 refine ba ?_
 refine aC (aC ?_)
 have h:=aT h bP
 refine a9 ?_
 cases h
 exact gd Z ⟨Z,f,ay,ab,a.e [0] Z Z⟩
theorem mF {o:World} {f:Nat} {S:List Nat} (d:Int) (a:List UInt32) (b:List UInt64) (c:List UInt8) (e:UInt64) {r:Int×List UInt32×List UInt64×List UInt8×UInt64}
  (h:F.D6 d a b c e=some r) (i:St S o o [X f ([vI d]++(U.fl a++(e64.fl b++(e8.fl c++[v64 e]))))]) (B:TB S o) (l:a.length=8) (m:b.length=8) (n:c.length=128):Calls Tryz.prog 170 #[K f 0] o (Ret fun v w=>v=.tuple #[]∧r.2.1.length=8∧r.2.2.1.length=8∧r.2.2.2.1.length=128∧St S o w [X f ([vI r.1]++(U.fl r.2.1++(e64.fl r.2.2.1++(e8.fl r.2.2.2.1++[v64 r.2.2.2.2]))))]):=by
 refine aN 11 Tryz.func170 Z Z Z ?_
 refine ar [(0,K f 0)] ⟨Z,V⟩ ?_
 unfold F.D6 at h
 refine M (H (Q 1 Z ?_))
 refine al (aO Z) Z (al (ax (k:=0) u168 Z Z oZ Z) Z (al (aH u22 Z Z (i.s 0 Z (Up.get0 Up.p))) Z (Q 1 Z ?_)))
 refine J (N ?_)
 refine av Z (fun g=>?_) (fun g=>?_)
 ·have h:=aJ h g
  refine H (Q 1 Z ?_)
  have j:=i.pick (os':=[X f ([vI d]++(U.fl a++(e64.fl b++(e8.fl c++[v64 e]))))]++[]) [0] (by decide) Z
  obtain ⟨C,q,h⟩:=aj h
  refine ao Z (kW d a b c e q j.g (B.g j) l m n) Z ?_
  rintro _ w ⟨rfl,s,t,u,p⟩
  have i:=j.h p
  refine J ?_
  cases h
  exact gd Z ⟨Z,s,t,u,i.e [0] Z Z⟩
 have h:=aI h g
 refine H (Q 1 Z ?_)
 have j:=i.pick (os':=[X f ([vI d]++(U.fl a++(e64.fl b++(e8.fl c++[v64 e]))))]++[]) [0] (by decide) Z
 obtain ⟨D,x,h⟩:=aj h
 refine ao Z (kX d a b c e x j.g (B.g j) l m n) Z ?_
 rintro _ w ⟨rfl,y,z,A,p⟩
 have i:=j.h p
 refine J ?_
 cases h
 exact gd Z ⟨Z,y,z,A,i.e [0] Z Z⟩
theorem iJ {D:World} {a1:List UInt8} {E:Value} {n:Nat} {S:List Nat} (t:Int) (u:List UInt32) (x:List UInt64) (y:List UInt8) (T:UInt64) {r:Int×List UInt32×List UInt64×List UInt8×UInt64}
  (h:F.CL t u x y T a1=some r) (c:St S D D [X n ([vI t]++(U.fl u++(e64.fl x++(e8.fl y++[v64 T]))))]) (hT:TB S D) (ap:u.length=8) (au:x.length=8) (ay:y.length=128) (aZ:RP S D e8 E a1):Calls Tryz.prog 124 #[K n 0,E] D (Ret fun v w=>v=.tuple #[]∧r.2.1.length=8∧r.2.2.1.length=8∧r.2.2.2.1.length=128∧St S D w [X n ([vI r.1]++(U.fl r.2.1++(e64.fl r.2.2.1++(e8.fl r.2.2.2.1++[v64 r.2.2.2.2]))))]):=by
 refine aN 50 Tryz.func124 Z Z Z ?_
 refine ar [(0,K n 0),(1,E)] ⟨Z,Z,V⟩ ?_
 unfold F.CL at h
 refine M (H (Q 1 Z ?_))
 refine al (aO Z) Z (al (ax (k:=0) u168 Z Z oZ Z) Z (al (aH u22 Z Z (c.s 0 Z (Up.get0 Up.p))) Z ?_))
 obtain ⟨q,aV,h⟩:=aj h
 refine ao Z (mS t aV ) Z ?_
 rintro _ w ⟨rfl,ad⟩
 have c:=c.f ad
 refine Q 1 Z ?_
 refine J (N (az ?_))
 refine ar [(0,K n 0),(1,E),(4,vI q)] ⟨Z,Z,Z,V⟩ ?_
 refine bd (F.DK q) (fun (s:List UInt8×Int×List UInt32×List UInt64×List UInt8×UInt64) L w=>∃(G:Value),L=[(0,K n 0),(1,G),(4,vI q)]∧RP S D e8 G s.1∧s.2.2.1.length=8∧s.2.2.2.1.length=8∧s.2.2.2.2.1.length=128∧St S D w [X n ([vI s.2.1]++(U.fl s.2.2.1++(e64.fl s.2.2.2.1++(e8.fl s.2.2.2.2.1++[v64 s.2.2.2.2.2]))))]) ?_ (a1,t,u,x,y,T) ⟨E,Z,aZ,ap,au,ay,c⟩ h
 rintro a2 ⟨aS,ag,ak,am,a3,g⟩ L w a4 hI ac h z
 try dsimp only at hI
 obtain ⟨G,rfl,o,j,d,b,c⟩:=hI
 unfold F.DK at h
 refine M (M (H (Q 1 Z ?_)))
 refine al (aL u24 Z (o.d c.fr)) Z (Q 1 Z ?_)
 refine J (N ?_)
 refine av Z (fun A=>?_) (fun A=>?_)
 ·have h:=aJ h A
  refine aw (N (az ?_))
  refine M (H (Q 1 Z ?_))
  refine al (aO Z) Z (al (ax (k:=145) u168 Z Z uf Z) Z (al (aH u87 Z Z (c.s 0 Z (Up.get0 (Up.o (k:=1) Z (Up.o (k:=8) (bj j Z) (Up.o (k:=8) (bj d Z) (Up.o (k:=128) (bj b Z) Up.last Z) Z) Z) Z)))) Z ?_))
  refine Q 1 Z ?_
  refine al (aK Z (eA Tryz.underlying3 u87 q)) Z ?_
  obtain ⟨aA,h⟩:=bZ h
  refine al (aq Z Z (eM _ g (UInt64.ofInt q) aA)) Z (al (aK Z (l8 u87 Tryz.underlying3 (g%(UInt64.ofInt q)))) Z ?_)
  obtain ⟨aW,aB,h⟩:=aQ h
  refine al (aD (v:=vI aW) (by rw [←aB]; rfl)) Z ?_
  refine J (N (M (H (Q 1 Z ?_))))
  refine al (aO Z) Z (al (ax (k:=17) u168 Z Z un Z) Z (Q 2 Z ?_))
  obtain ⟨a5,a,h⟩:=aj h
  refine al (Ab (e:=e8) u166 sz5 Z Z Z Z b a) Z (Q 1 Z ?_)
  refine aU (wC (e:=e8) u24 ti5 Z Z Z c (i:=0) Z b (Up.o (k:=1) Z (Up.o (k:=8) (bj j Z) (Up.o (k:=8) (bj d Z) Up.p Z) Z) Z) (o.d c.fr) (by have:=(cy a).1; omega) (cy a).1.2.2) Z ?_
  rintro v_q w ⟨hv_q,c⟩
  subst v_q
  obtain ⟨ab,l,h⟩:=aQ h
  rw [l]at c
  obtain ⟨f,aE,h⟩:=aQ h
  refine al (aD (v:=vI f) (by rw [←aE]; rfl)) Z ?_
  refine J (N (M (H (Q 1 Z ?_))))
  refine al (aO Z) Z (al (ax (k:=145) u168 Z Z uf Z) Z ?_)
  refine al (aH u87 Z Z (c.s 0 Z (Up.get0 (Up.o (k:=1) Z (Up.o (k:=8) (bj j Z) (Up.o (k:=8) (bj d Z) (Up.o (k:=128) (bj (by rw [←l,et _ _ _ _ (by have:=(cy a).1; omega) (cy a).1.2.2]; exact b) Z) Up.last Z) Z) Z) Z)))) Z ?_
  refine Q 1 Z ?_
  refine al (aK Z (eA Tryz.underlying3 u87 f)) Z (al (aq Z Z (cv _ g (UInt64.ofInt f))) Z (al (aO Z) Z (al (ax (k:=145) u168 Z Z uf Z) Z ?_)))
  refine bn (eD (m:=1) (xs:=[v64 g]) (xs':=[v64 (g+(UInt64.ofInt f))]) (i:=0) Z dO Z Z Z (Up.o (k:=1) Z (Up.o (k:=8) (bj j Z) (Up.o (k:=8) (bj d Z) (Up.o (k:=128) (bj (by rw [←l,et _ _ _ _ (by have:=(cy a).1; omega) (cy a).1.2.2]; exact b) Z) Up.last Z) Z) Z) Z) Z Z (fx Z) c) ?_
  intro w c
  refine J (N (M (H (Q 2 Z ?_))))
  obtain ⟨an,B,h⟩:=aj h
  refine al (uT u24 ti5 Z Z (o.d c.fr) B) Z (Q 1 Z ?_)
  refine J (N (M (H (Q 5 Z ?_))))
  refine J (N ?_)
  refine av Z (fun C=>?_) (fun C=>?_)
  ·have h:=aJ h C
   refine H (Q 1 Z ?_)
   have hG:=c.pick (os':=[X n ([vI ag]++(U.fl ak++(e64.fl am++(e8.fl ab++[v64 (g+(UInt64.ofInt f))]))))]++[]) [0] (by decide) Z
   obtain ⟨p,aF,h⟩:=aj h
   refine ao Z (mF ag ak am ab (g+(UInt64.ofInt f)) aF hG.g (hT.g hG) j d (by rw [←l,et _ _ _ _ (by have:=(cy a).1; omega) (cy a).1.2.2]; exact b)) Z ?_
   rintro _ w ⟨rfl,aG,aM,aR,ad⟩
   have c:=hG.h ad
   refine J (aP ?_)
   exact bh (bo _ (by exact ⟨Z,Z,Z,V⟩) (ac (an,p.1,p.2.1,p.2.2.1,p.2.2.2.1,p.2.2.2.2) _ _ ⟨slV G e8.sz ((f:Int).toNat) aS.length,Z,(o.g_sll B),aG,aM,aR,c⟩ (aY h z)))
  have h:=aI h C
  refine aw (aP ?_)
  exact bh (bo _ (by exact ⟨Z,Z,Z,V⟩) (ac (an,ag,ak,am,ab,g+(UInt64.ofInt f)) _ _ ⟨slV G e8.sz ((f:Int).toNat) aS.length,Z,(o.g_sll B),j,d,(by rw [←l,et _ _ _ _ (by have:=(cy a).1; omega) (cy a).1.2.2]; exact b),c⟩ (aY h z)))
 have h:=aI h A
 refine ba ?_
 refine aC (aC ?_)
 have h:=aT h z
 refine a9 ?_
 cases h
 exact gd Z ⟨Z,j,d,b,c.e [0] Z Z⟩
end Go.Proofs
