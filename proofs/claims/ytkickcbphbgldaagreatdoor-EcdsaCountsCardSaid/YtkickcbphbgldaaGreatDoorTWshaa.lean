import Derived.Test.YtkickcbphbgldaaGreatDoorTW0
import Derived.Test.YtkickcbphbgldaaGreatDoorGkFman
import Derived.Test.YtkickcbphbgldaaGreatDoorTWlib
set_option linter.unusedVariables false
set_option linter.unusedSimpArgs false
set_option linter.unusedSectionVars false
set_option maxRecDepth 4000
namespace Go.Proofs
open Go Go.RowKit Go.Gk
open Go.Gk renaming aa → P, ae → O, af → H, ah → J, ai → I, e32 → U, pB → M
open Go.Gk.OE renaming bx → W
theorem eQ {e:World} (a0:Int) {r:Int}
  (h:F.BQ a0=some r) :Calls Tryz.prog 27 #[vI a0] e (Ret fun v w=>v=vI r∧St [] e w []):=by
 refine aH 10 Tryz.func27 Z Z Z ?_
 have d:=St.l e
 refine au [(0,vI a0)] ⟨Z,V⟩ ?_
 unfold F.BQ at h
 refine J (H (P 1 Z ?_))
 refine I (O (J (J (H (P 1 Z ?_)))))
 refine I (O (aD ?_))
 refine J (H (P 2 Z ?_))
 refine I (O ?_)
 refine aw Z (fun a=>?_) (fun a=>?_)
 ·have h:=aJ h a
  refine J (H (P 1 Z ?_))
  refine I (O (ax (bP ?_)))
  refine aE ?_
  cases h
  exact aG Z Z ⟨Z,d⟩
 have h:=aI h a
 refine J (H (P 2 Z ?_))
 refine I (O ?_)
 refine aw Z (fun b=>?_) (fun b=>?_)
 ·have h:=aJ h b
  refine J (H (P 1 Z ?_))
  refine I (O (ax (bP ?_)))
  refine aE ?_
  cases h
  exact aG Z Z ⟨Z,d⟩
 have h:=aI h b
 refine J (H (P 2 Z ?_))
 refine I (O ?_)
 refine aw Z (fun c=>?_) (fun c=>?_)
 ·have h:=aJ h c
  refine J (H (P 1 Z ?_))
  refine I (O (ax (bP ?_)))
  refine aE ?_
  cases h
  exact aG Z Z ⟨Z,d⟩
 have h:=aI h c
 refine az (aR ?_)
 refine O (J (H (P 1 Z ?_)))
 refine I (O (ax ?_))
 cases h
 exact aG Z Z ⟨Z,d⟩
theorem vJ {j:World} (a0:Int) {r:Option (Int×List UInt32×List UInt64×List UInt8×UInt64)}
  (h:F.FJ a0=some r) (n:TB [] j):Calls Tryz.prog 123 #[vI a0] j (Ret fun v w=>∃u0:Value,v=u0∧xK u0 (r.map (fun c=>[vI c.1]++(U.fl c.2.1++(e64.fl c.2.2.1++(e8.fl c.2.2.2.1++[v64 c.2.2.2.2])))))∧(∀c,r=some c→c.2.1.length=8∧c.2.2.1.length=8∧c.2.2.2.1.length=128)∧St [] j w (yf u0 (r.map (fun c=>[vI c.1]++(U.fl c.2.1++(e64.fl c.2.2.1++(e8.fl c.2.2.2.1++[v64 c.2.2.2.2])))))++[])):=by
 refine aH 27 Tryz.func123 Z Z Z ?_
 have a:=St.l j
 refine au [(0,vI a0)] ⟨Z,V⟩ ?_
 unfold F.FJ at h
 refine J (H (P 1 Z ?_))
 refine I (O (J (H (P 1 Z ?_))))
 refine am (ci (vs:=[(0,vI a0,[vI a0])]) (cells:=[vI a0]++(U.fl (List.replicate 8 0)++(e64.fl (List.replicate 8 0)++(e8.fl (List.replicate 128 0)++[v64 0])))) Z An ⟨Z,V⟩ (by kernel_rfl)) Z ?_
 refine aV (dv (cs:=[vI a0]++(U.fl (List.replicate 8 0)++(e64.fl (List.replicate 8 0)++(e8.fl (List.replicate 128 0)++[v64 0])))) Z Z a) Z ?_
 rintro _ w ⟨l,rfl,a⟩
 refine P 1 Z ?_
 refine I (O ?_)
 refine a9 (r:=r) (fun (g:List UInt32×List UInt64) L w=>L=[(3,M l 0)]∧g.1.length=8∧g.2.length=8∧St [] j w [W l ([vI a0]++(U.fl g.1++(e64.fl g.2++(e8.fl (List.replicate 128 0)++[v64 0]))))]) (F.E3 a0) ?_ ?_
 rotate_left
 ·intro b
  refine J (H (P 1 Z ?_))
  refine I (O (aD ?_))
  refine J (H (P 2 Z ?_))
  refine I (O ?_)
  refine aw Z (fun d=>?_) (fun d=>?_)
  ·have h:=aJ h d
   refine H (P 1 Z ?_)
   refine am (iO (us:=U.fl F.BN) u165 Z ul (bc (show F.BN.length=8 from Z) Z) Z (n.sha_start256.cells a.fr)) Z ?_
   refine am (aL Z) Z (am (av (k:=1) u168 Z Z fR Z) Z ?_)
   refine bn (eH (m:=8) (xs:=U.fl (List.replicate 8 0)) (xs':=U.fl F.BN) (i:=0) Z ul Z Z Z (Up.o (k:=1) Z Up.p Z) (bc List.length_replicate Z) (bc (show F.BN.length=8 from Z) Z) jN a) ?_
   intro w a
   refine I (aR ?_)
   refine O ?_
   exact au _ (by exact ⟨Z,V⟩) (b (F.BN,(List.replicate 8 0)) _ _ ⟨Z,(show F.BN.length=8 from Z),List.length_replicate,a⟩ h)
  have h:=aI h d
  refine J (H (P 2 Z ?_))
  refine I (O ?_)
  refine aw Z (fun e=>?_) (fun e=>?_)
  ·have h:=aJ h e
   refine H (P 1 Z ?_)
   refine am (iO (us:=e64.fl F.BO) u160 Z nE (bc (show F.BO.length=8 from Z) Z) Z (n.sha_start384.cells a.fr)) Z ?_
   refine am (aL Z) Z (am (av (k:=9) u168 Z Z fv Z) Z ?_)
   refine bn (eH (m:=8) (xs:=e64.fl (List.replicate 8 0)) (xs':=e64.fl F.BO) (i:=0) Z nE Z Z Z (Up.o (k:=1) Z (Up.o (k:=8) (bc List.length_replicate Z) Up.p Z) Z) (bc List.length_replicate Z) (bc (show F.BO.length=8 from Z) Z) jN a) ?_
   intro w a
   refine I (aR ?_)
   refine O ?_
   exact au _ (by exact ⟨Z,V⟩) (b ((List.replicate 8 0),F.BO) _ _ ⟨Z,List.length_replicate,(show F.BO.length=8 from Z),a⟩ h)
  have h:=aI h e
  refine J (H (P 2 Z ?_))
  refine I (O ?_)
  refine aw Z (fun f=>?_) (fun f=>?_)
  ·have h:=aJ h f
   refine H (P 1 Z ?_)
   refine am (iO (us:=e64.fl F.BR) u160 Z nE (bc (show F.BR.length=8 from Z) Z) Z (n.sha_start512.cells a.fr)) Z ?_
   refine am (aL Z) Z (am (av (k:=9) u168 Z Z fv Z) Z ?_)
   refine bn (eH (m:=8) (xs:=e64.fl (List.replicate 8 0)) (xs':=e64.fl F.BR) (i:=0) Z nE Z Z Z (Up.o (k:=1) Z (Up.o (k:=8) (bc List.length_replicate Z) Up.p Z) Z) (bc List.length_replicate Z) (bc (show F.BR.length=8 from Z) Z) jN a) ?_
   intro w a
   refine I (aR ?_)
   refine O ?_
   exact au _ (by exact ⟨Z,V⟩) (b ((List.replicate 8 0),F.BR) _ _ ⟨Z,List.length_replicate,(show F.BR.length=8 from Z),a⟩ h)
  have h:=aI h f
  refine J (H (P 1 Z ?_))
  refine I (O (ax (bP ?_)))
  refine aE ?_
  cases h
  exact aG Z Z ⟨.pointer none,Z,Z,(fun c hc=>by cases hc),a.e [] Z Z⟩
 rintro ⟨q,s⟩ L w hJ h
 try dsimp only at hJ
 obtain ⟨rfl,o,p,a⟩:=hJ
 unfold F.E3 at h
 refine J (H (P 2 Z ?_))
 refine I (O (ax ?_))
 cases h
 exact aG Z Z ⟨M l 0,Z,⟨_,Z⟩,(fun c hc=>by cases hc; exact ⟨o,p,List.length_replicate⟩),a.e [0] Z Z⟩
theorem mA {f:World} (a0:Int) {r:Int}
  (h:F.ET a0=some r) :Calls Tryz.prog 169 #[vI a0] f (Ret fun v w=>v=vI r∧St [] f w []):=by
 refine aH 9 Tryz.func169 Z Z Z ?_
 have d:=St.l f
 refine au [(0,vI a0)] ⟨Z,V⟩ ?_
 unfold F.ET at h
 refine J (H (P 1 Z ?_))
 refine I (O (J (J (H (P 1 Z ?_)))))
 refine I (O (aD ?_))
 refine J (H (P 2 Z ?_))
 refine I (O ?_)
 refine aw Z (fun a=>?_) (fun a=>?_)
 ·have h:=aJ h a
  refine J (H (P 1 Z ?_))
  refine I (O (ax (bP ?_)))
  refine aE ?_
  cases h
  exact aG Z Z ⟨Z,d⟩
 have h:=aI h a
 refine a9 (r:=r) (fun (g:Bool) L w=>L=[(6,vB g)]∧St [] f w []) (F.FH) ?_ ?_
 rotate_left
 ·intro e
  refine J (H (P 2 Z ?_))
  refine I (O ?_)
  refine aw Z (fun b=>?_) (fun b=>?_)
  ·have h:=aJ h b
   refine az (O ?_)
   exact au _ (by exact ⟨Z,V⟩) (e (a0 == 2) _ _ ⟨Z,d⟩ h)
  have h:=aI h b
  refine H (P 2 Z ?_)
  refine I (O ?_)
  exact au _ (by exact ⟨Z,V⟩) (e (a0 == 3) _ _ ⟨Z,d⟩ h)
 rintro i L w hJ h
 try dsimp only at hJ
 obtain ⟨rfl,d⟩:=hJ
 unfold F.FH at h
 refine aw Z (fun c=>?_) (fun c=>?_)
 ·have h:=aJ h c
  refine J (H (P 1 Z ?_))
  refine I (O (ax (bP ?_)))
  refine aE ?_
  cases h
  exact aG Z Z ⟨Z,d⟩
 have h:=aI h c
 refine az (aR ?_)
 refine O (J (H (P 1 Z ?_)))
 refine I (O (ax ?_))
 cases h
 exact aG Z Z ⟨Z,d⟩
theorem kL {T:World} {j:Nat} {S:List Nat} (l:Int) (p:List UInt32) (f:List UInt64) (g:List UInt8) (n:UInt64) {r:Int×List UInt32×List UInt64×List UInt8×UInt64}
  (h:F.EU l p f g n=some r) (a:St S T T [W j ([vI l]++(U.fl p++(e64.fl f++(e8.fl g++[v64 n]))))]) (hT:TB S T) (b:p.length=8) (y:f.length=8) (x:g.length=128):Calls Tryz.prog 187 #[M j 0] T (Ret fun v w=>v=.tuple #[]∧r.2.1.length=8∧r.2.2.1.length=8∧r.2.2.2.1.length=128∧St S T w [W j ([vI r.1]++(U.fl r.2.1++(e64.fl r.2.2.1++(e8.fl r.2.2.2.1++[v64 r.2.2.2.2]))))]):=by
 refine aH 221 Tryz.func187 Z Z Z ?_
 refine au [(0,M j 0)] ⟨Z,V⟩ ?_
 unfold F.EU at h
 refine J (H ?_)
 refine aV (ba (cs:=U.fl (List.replicate 64 0)) AS (by kernel_rfl) a) Z ?_
 rintro _ w ⟨D,rfl,a⟩
 refine I (O (J (J (H (P 1 Z ?_)))))
 refine I (O (aD ?_))
 refine au [(0,M j 0),(2,M D 0),(21,vI 0)] ⟨Z,Z,Z,V⟩ ?_
 refine bj (F.ES g p l f n) (fun (s:Int×List UInt32) L w=>L=[(0,M j 0),(2,M D 0),(21,vI s.1)]∧s.2.length=64∧St S T w [W j ([vI l]++(U.fl p++(e64.fl f++(e8.fl g++[v64 n])))),W D (U.fl s.2)]) ?_ (0,(List.replicate 64 0)) ⟨Z,List.length_replicate,(a.e [1,0] Z Z)⟩ h
 rintro cy ⟨cm,cn⟩ L w cJ hI co h bS
 try dsimp only at hI
 obtain ⟨rfl,a1,a⟩:=hI
 unfold F.ES at h
 refine J (H (P 1 Z ?_))
 refine I (O (J ?_))
 refine aw Z (fun aP=>?_) (fun aP=>?_)
 ·have h:=aJ h aP
  refine az (O (J (aD ?_)))
  refine J (H (P 2 Z ?_))
  refine I (O (J (H (P 1 Z ?_))))
  refine am (aL Z) Z (am (av (k:=17) u168 Z Z tW Z) Z (P 1 Z ?_))
  refine am (aq Z Z (fq _ 4 cm)) Z ?_
  obtain ⟨cz,z,h⟩:=aj h
  refine am (A2 (e:=e8) u166 sz5 Z Z Z x z) Z (P 1 Z ?_)
  refine I (O ?_)
  refine dK (fun w'=>St S T w' [W j ([vI l]++(U.fl p++(e64.fl f++(e8.fl g++[v64 n])))),W D (U.fl cn)]) (fun i=>!([24].contains i)) bQ (fun _ _ _ A=>A.2) (fun _ _ A=>A) (by kernel_rfl) ?_
  have a:=a.drew
  show lxE _ _ _ _ _ _ _ [0,1,2,3,4,5,6,7,8,9,10,11,12,13,14,15,16,17,18,19,20,21,22,23,24] _ _
  refine al a Z Z (fun w hF=>ar Z) Z (al a Z Z (fun w hF=>ar Z) Z ?_)
  obtain ⟨ac,a6,h⟩:=aj h
  refine al a Z Z (fun w hF=>bk u24 ti5 Z Z ((hF.bxroA 0 Z x (Up.o (k:=1) Z (Up.o (k:=8) (bc b Z) (Up.o (k:=8) (bc y Z) Up.p Z) Z) Z)).g_sll z) a6) Z ?_
  refine al a Z Z (fun w hF=>bb Tryz.underlying5 Z Z ((hF.bxroA 0 Z x (Up.o (k:=1) Z (Up.o (k:=8) (bc b Z) (Up.o (k:=8) (bc y Z) Up.p Z) Z) Z)).g_sll z) a6 Z) Z ?_
  refine al a Z Z (fun w hF=>aM Z (jV Tryz.underlying5 u38 ac)) Z (al a Z Z (fun w hF=>aq Z Z (iC _ ac.toUInt32 24)) Z (al a Z Z (fun w hF=>ar Z) Z ?_))
  obtain ⟨ad,a7,h⟩:=aj h
  refine al a Z Z (fun w hF=>bk u24 ti5 Z Z ((hF.bxroA 0 Z x (Up.o (k:=1) Z (Up.o (k:=8) (bc b Z) (Up.o (k:=8) (bc y Z) Up.p Z) Z) Z)).g_sll z) a7) Z ?_
  refine al a Z Z (fun w hF=>bb Tryz.underlying5 Z Z ((hF.bxroA 0 Z x (Up.o (k:=1) Z (Up.o (k:=8) (bc b Z) (Up.o (k:=8) (bc y Z) Up.p Z) Z) Z)).g_sll z) a7 Z) Z ?_
  refine al a Z Z (fun w hF=>aM Z (jV Tryz.underlying5 u38 ad)) Z (al a Z Z (fun w hF=>aq Z Z (iC _ ad.toUInt32 16)) Z (al a Z Z (fun w hF=>aq Z Z (ff _ (cf ac.toUInt32 24) (cf ad.toUInt32 16))) Z (al a Z Z (fun w hF=>ar Z) Z ?_)))
  obtain ⟨ay,a9,h⟩:=aj h
  refine al a Z Z (fun w hF=>bk u24 ti5 Z Z ((hF.bxroA 0 Z x (Up.o (k:=1) Z (Up.o (k:=8) (bc b Z) (Up.o (k:=8) (bc y Z) Up.p Z) Z) Z)).g_sll z) a9) Z ?_
  refine al a Z Z (fun w hF=>bb Tryz.underlying5 Z Z ((hF.bxroA 0 Z x (Up.o (k:=1) Z (Up.o (k:=8) (bc b Z) (Up.o (k:=8) (bc y Z) Up.p Z) Z) Z)).g_sll z) a9 Z) Z ?_
  refine al a Z Z (fun w hF=>aM Z (jV Tryz.underlying5 u38 ay)) Z (al a Z Z (fun w hF=>aq Z Z (iC _ ay.toUInt32 8)) Z (al a Z Z (fun w hF=>aq Z Z (ff _ ((cf ac.toUInt32 24) ||| (cf ad.toUInt32 16)) (cf ay.toUInt32 8))) Z (al a Z Z (fun w hF=>ar Z) Z ?_)))
  obtain ⟨a2,be,h⟩:=aj h
  refine al a Z Z (fun w hF=>bk u24 ti5 Z Z ((hF.bxroA 0 Z x (Up.o (k:=1) Z (Up.o (k:=8) (bc b Z) (Up.o (k:=8) (bc y Z) Up.p Z) Z) Z)).g_sll z) be) Z ?_
  refine al a Z Z (fun w hF=>bb Tryz.underlying5 Z Z ((hF.bxroA 0 Z x (Up.o (k:=1) Z (Up.o (k:=8) (bc b Z) (Up.o (k:=8) (bc y Z) Up.p Z) Z) Z)).g_sll z) be Z) Z ?_
  refine al a Z Z (fun w hF=>aM Z (jV Tryz.underlying5 u38 a2)) Z (al a Z Z (fun w hF=>aq Z Z (ff _ (((cf ac.toUInt32 24) ||| (cf ad.toUInt32 16)) ||| (cf ay.toUInt32 8)) a2.toUInt32)) Z ?_)
  obtain ⟨cA,bh,h⟩:=aj h
  refine al a Z Z (fun w hF=>bL u177 dZ Z Z (bH bh a1)) Z (iH a Z Z (eH (m:=1) Z dZ Z Z Z (Up.elt (t':=((((cf ac.toUInt32 24) ||| (cf ad.toUInt32 16)) ||| (cf ay.toUInt32 8)) ||| a2.toUInt32)) Up.last bh Z Z) Z Z (fE Z) a (i:=1)) ?_)
  intro w a
  obtain ⟨cp,bi,h⟩:=aO h
  rw [bi]at a
  refine bl V ?_
  refine aR ?_
  refine O (H (P 2 Z ?_))
  refine I ?_
  exact bv (bz _ (by exact ⟨Z,Z,Z,V⟩) (co (wI (cm+1),cp) _ _ ⟨Z,(by rw [←bi,List.length_set]; exact a1),a⟩ (a8 h bS)))
 have h:=aI h aP
 refine bg ?_
 refine aF (aF ?_)
 have h:=aW h bS
 refine bd ?_
 refine O (J (J (H (P 1 Z ?_))))
 refine I (O (aD ?_))
 refine au [(0,M j 0),(2,M D 0),(5,vI 16)] ⟨Z,Z,Z,V⟩ ?_
 refine bj (F.CM p l f g n) (fun (s:Int×List UInt32) L w=>L=[(0,M j 0),(2,M D 0),(5,vI s.1)]∧s.2.length=64∧St S T w [W j ([vI l]++(U.fl p++(e64.fl f++(e8.fl g++[v64 n])))),W D (U.fl s.2)]) ?_ (16,cn) ⟨Z,a1,a⟩ h
 rintro cB ⟨aB,ag⟩ L w cC hI b5 h bm
 try dsimp only at hI
 obtain ⟨rfl,E,a⟩:=hI
 unfold F.CM at h
 refine J (J (H (P 2 Z ?_)))
 refine I (O ?_)
 refine aw Z (fun aQ=>?_) (fun aQ=>?_)
 ·have h:=aJ h aQ
  refine az (O (J (aD ?_)))
  refine J ?_
  refine aY (fun w'=>St S T w' [W j ([vI l]++(U.fl p++(e64.fl f++(e8.fl g++[v64 n])))),W D (U.fl ag)]) (fun _=>true) bQ (fun _ _ _ A=>A.2) (fun _ _ A=>A) (by kernel_rfl) ?_
  have a:=a.drew
  show lxE _ _ _ _ _ _ _ [0,1,2,3,4,5,6,7,8,9] _ _
  refine al a Z Z (fun w hF=>ar Z) Z (al a Z Z (fun w hF=>aq Z Z (dC _ aB 15)) Z ?_)
  obtain ⟨ab,bn,h⟩:=aj h
  refine al a Z Z (fun w hF=>bL u177 dZ Z Z (bH bn E)) Z (al a Z Z (fun w hF=>aC u38 Z Z (hF.s 1 Z (Up.elr Up.last bn Z))) Z (al a Z Z (fun w hF=>ar Z) Z (al a Z Z (fun w hF=>aq Z Z (dC _ aB 2)) Z ?_)))
  obtain ⟨ak,bo,h⟩:=aj h
  refine al a Z Z (fun w hF=>bL u177 dZ Z Z (bH bo E)) Z (al a Z Z (fun w hF=>aC u38 Z Z (hF.s 1 Z (Up.elr Up.last bo Z))) Z (al a Z Z (fun w hF=>aA Z) Z (al a Z Z (fun w hF=>aA Z) Z (bl a ?_))))
  refine O ?_
  refine dK (fun w'=>St S T w' [W j ([vI l]++(U.fl p++(e64.fl f++(e8.fl g++[v64 n])))),W D (U.fl ag)]) (fun i=>!([11,13,20,22,29].contains i)) bQ (fun _ _ _ A=>A.2) (fun _ _ A=>A) (by kernel_rfl) ?_
  have a:=a.drew
  show lxE _ _ _ _ _ _ _ [0,1,2,3,4,5,6,7,8,9,10,11,12,13,14,15,16,17,18,19,20,21,22,23,24,25,26,27,28,29] _ _
  refine al a Z Z (fun w hF=>ar Z) Z (al a Z Z (fun w hF=>ar Z) Z (al a Z Z (fun w hF=>aq Z Z (dC _ aB 16)) Z ?_))
  obtain ⟨aS,bp,h⟩:=aj h
  refine al a Z Z (fun w hF=>bL u177 dZ Z Z (bH bp E)) Z (al a Z Z (fun w hF=>aC u38 Z Z (hF.s 1 Z (Up.elr Up.last bp Z))) Z (al a Z Z (fun w hF=>ar Z) Z (al a Z Z (fun w hF=>aq Z Z (dC _ aB 7)) Z ?_)))
  obtain ⟨aT,bq,h⟩:=aj h
  refine al a Z Z (fun w hF=>bL u177 dZ Z Z (bH bq E)) Z (al a Z Z (fun w hF=>aC u38 Z Z (hF.s 1 Z (Up.elr Up.last bq Z))) Z (al a Z Z (fun w hF=>aq Z Z (ej _ aS aT)) Z (al a Z Z (fun w hF=>ar Z) Z ?_)))
  obtain ⟨aE,b6,h⟩:=aj h
  refine bf a Z Z (by kernel_rfl) Z (bM ab (-7) b6 ) Z ?_
  rintro _ w ⟨rfl,t⟩
  have a:=a.f t
  refine al a Z Z (fun w hF=>ar Z) Z ?_
  obtain ⟨aG,b7,h⟩:=aj h
  refine bf a Z Z (by kernel_rfl) Z (bM ab (-18) b7 ) Z ?_
  rintro _ w ⟨rfl,t⟩
  have a:=a.f t
  refine al a Z Z (fun w hF=>aq Z Z (eB _ aE aG)) Z (al a Z Z (fun w hF=>ar Z) Z (al a Z Z (fun w hF=>aq Z Z (dc _ ab 3)) Z (al a Z Z (fun w hF=>aq Z Z (eB _ (aE ^^^ aG) (bA ab 3))) Z (al a Z Z (fun w hF=>aq Z Z (ej _ (aS+aT) ((aE ^^^ aG) ^^^ (bA ab 3)))) Z (al a Z Z (fun w hF=>ar Z) Z ?_)))))
  obtain ⟨aU,b8,h⟩:=aj h
  refine bf a Z Z (by kernel_rfl) Z (bM ak (-17) b8 ) Z ?_
  rintro _ w ⟨rfl,t⟩
  have a:=a.f t
  refine al a Z Z (fun w hF=>ar Z) Z ?_
  obtain ⟨aX,b9,h⟩:=aj h
  refine bf a Z Z (by kernel_rfl) Z (bM ak (-19) b9 ) Z ?_
  rintro _ w ⟨rfl,t⟩
  have a:=a.f t
  refine al a Z Z (fun w hF=>aq Z Z (eB _ aU aX)) Z (al a Z Z (fun w hF=>ar Z) Z (al a Z Z (fun w hF=>aq Z Z (dc _ ak 10)) Z (al a Z Z (fun w hF=>aq Z Z (eB _ (aU ^^^ aX) (bA ak 10))) Z (al a Z Z (fun w hF=>aq Z Z (ej _ ((aS+aT)+((aE ^^^ aG) ^^^ (bA ab 3))) ((aU ^^^ aX) ^^^ (bA ak 10)))) Z ?_))))
  obtain ⟨cD,br,h⟩:=aj h
  refine al a Z Z (fun w hF=>bL u177 dZ Z Z (bH br E)) Z (iH a Z Z (eH (m:=1) Z dZ Z Z Z (Up.elt (t':=(((aS+aT)+((aE ^^^ aG) ^^^ (bA ab 3)))+((aU ^^^ aX) ^^^ (bA ak 10)))) Up.last br Z Z) Z Z (fE Z) a (i:=1)) ?_)
  intro w a
  obtain ⟨cq,bs,h⟩:=aO h
  rw [bs]at a
  refine bl V ?_
  refine aR ?_
  refine O (H (P 3 Z ?_))
  refine I ?_
  exact bv (bz _ (by exact ⟨Z,Z,Z,V⟩) (b5 (wI (aB+1),cq) _ _ ⟨Z,(by rw [←bs,List.length_set]; exact E),a⟩ (a8 h bm)))
 have h:=aI h aQ
 refine bg ?_
 refine aF (aF ?_)
 have h:=aW h bm
 refine bd ?_
 refine O (J ?_)
 refine aY (fun w'=>St S T w' [W j ([vI l]++(U.fl p++(e64.fl f++(e8.fl g++[v64 n])))),W D (U.fl ag)]) (fun _=>true) bQ (fun _ _ _ A=>A.2) (fun _ _ A=>A) (by kernel_rfl) ?_
 have a:=a.drew
 show lxE _ _ _ _ _ _ _ [0,1,2,3,4,5,6,7,8,9,10,11,12,13,14,15,16,17,18,19,20,21,22,23,24,25,26,27,28,29,30,31,32,33,34,35,36,37,38,39,40,41,42,43,44,45,46,47] _ _
 refine al a Z Z (fun w hF=>ar Z) Z (al a Z Z (fun w hF=>aL Z) Z (al a Z Z (fun w hF=>av (k:=1) u168 Z Z fR Z) Z ?_))
 obtain ⟨bT,bt,h⟩:=aj h
 refine al a Z Z (fun w hF=>bL u165 dZ Z Z (bH bt b)) Z (al a Z Z (fun w hF=>aC u38 Z Z (hF.s 0 Z (Up.elr (Up.o (k:=1) Z Up.p Z) bt Z))) Z (al a Z Z (fun w hF=>ar Z) Z (al a Z Z (fun w hF=>aL Z) Z (al a Z Z (fun w hF=>av (k:=1) u168 Z Z fR Z) Z ?_))))
 obtain ⟨bU,bu,h⟩:=aj h
 refine al a Z Z (fun w hF=>bL u165 dZ Z Z (bH bu b)) Z (al a Z Z (fun w hF=>aC u38 Z Z (hF.s 0 Z (Up.elr (Up.o (k:=1) Z Up.p Z) bu Z))) Z (al a Z Z (fun w hF=>ar Z) Z (al a Z Z (fun w hF=>aL Z) Z (al a Z Z (fun w hF=>av (k:=1) u168 Z Z fR Z) Z ?_))))
 obtain ⟨bV,bw,h⟩:=aj h
 refine al a Z Z (fun w hF=>bL u165 dZ Z Z (bH bw b)) Z (al a Z Z (fun w hF=>aC u38 Z Z (hF.s 0 Z (Up.elr (Up.o (k:=1) Z Up.p Z) bw Z))) Z (al a Z Z (fun w hF=>ar Z) Z (al a Z Z (fun w hF=>aL Z) Z (al a Z Z (fun w hF=>av (k:=1) u168 Z Z fR Z) Z ?_))))
 obtain ⟨bW,bB,h⟩:=aj h
 refine al a Z Z (fun w hF=>bL u165 dZ Z Z (bH bB b)) Z (al a Z Z (fun w hF=>aC u38 Z Z (hF.s 0 Z (Up.elr (Up.o (k:=1) Z Up.p Z) bB Z))) Z (al a Z Z (fun w hF=>ar Z) Z (al a Z Z (fun w hF=>aL Z) Z (al a Z Z (fun w hF=>av (k:=1) u168 Z Z fR Z) Z ?_))))
 obtain ⟨bX,bC,h⟩:=aj h
 refine al a Z Z (fun w hF=>bL u165 dZ Z Z (bH bC b)) Z (al a Z Z (fun w hF=>aC u38 Z Z (hF.s 0 Z (Up.elr (Up.o (k:=1) Z Up.p Z) bC Z))) Z (al a Z Z (fun w hF=>ar Z) Z (al a Z Z (fun w hF=>aL Z) Z (al a Z Z (fun w hF=>av (k:=1) u168 Z Z fR Z) Z ?_))))
 obtain ⟨bY,bD,h⟩:=aj h
 refine al a Z Z (fun w hF=>bL u165 dZ Z Z (bH bD b)) Z (al a Z Z (fun w hF=>aC u38 Z Z (hF.s 0 Z (Up.elr (Up.o (k:=1) Z Up.p Z) bD Z))) Z (al a Z Z (fun w hF=>ar Z) Z (al a Z Z (fun w hF=>aL Z) Z (al a Z Z (fun w hF=>av (k:=1) u168 Z Z fR Z) Z ?_))))
 obtain ⟨bZ,bE,h⟩:=aj h
 refine al a Z Z (fun w hF=>bL u165 dZ Z Z (bH bE b)) Z (al a Z Z (fun w hF=>aC u38 Z Z (hF.s 0 Z (Up.elr (Up.o (k:=1) Z Up.p Z) bE Z))) Z (al a Z Z (fun w hF=>ar Z) Z (al a Z Z (fun w hF=>aL Z) Z (al a Z Z (fun w hF=>av (k:=1) u168 Z Z fR Z) Z ?_))))
 obtain ⟨b0,bF,h⟩:=aj h
 refine al a Z Z (fun w hF=>bL u165 dZ Z Z (bH bF b)) Z (al a Z Z (fun w hF=>aC u38 Z Z (hF.s 0 Z (Up.elr (Up.o (k:=1) Z Up.p Z) bF Z))) Z (al a Z Z (fun w hF=>aA Z) Z (al a Z Z (fun w hF=>aA Z) Z (al a Z Z (fun w hF=>aA Z) Z (al a Z Z (fun w hF=>aA Z) Z (al a Z Z (fun w hF=>aA Z) Z (al a Z Z (fun w hF=>aA Z) Z (al a Z Z (fun w hF=>aA Z) Z ?_))))))))
 refine al a Z Z (fun w hF=>aA Z) Z (bl a ?_)
 refine O (J (J (H (P 1 Z ?_))))
 refine I (O (aD ?_))
 refine au [(0,M j 0),(2,M D 0),(8,v32 bT),(9,v32 bU),(10,v32 bV),(11,v32 bW),(12,v32 bX),(13,v32 bY),(14,v32 bZ),(15,v32 b0),(136,vI 0)] ⟨Z,Z,Z,Z,Z,Z,Z,Z,Z,Z,Z,V⟩ ?_
 refine bj (F.DR p ag l f g n) (fun (s:UInt32×UInt32×UInt32×UInt32×UInt32×UInt32×UInt32×UInt32×Int) L w=>L=[(0,M j 0),(2,M D 0),(8,v32 s.1),(9,v32 s.2.1),(10,v32 s.2.2.1),(11,v32 s.2.2.2.1),(12,v32 s.2.2.2.2.1),(13,v32 s.2.2.2.2.2.1),(14,v32 s.2.2.2.2.2.2.1),(15,v32 s.2.2.2.2.2.2.2.1),(136,vI s.2.2.2.2.2.2.2.2)]∧St S T w [W j ([vI l]++(U.fl p++(e64.fl f++(e8.fl g++[v64 n])))),W D (U.fl ag)]) ?_ (bT,bU,bV,bW,bX,bY,bZ,b0,0) ⟨Z,a⟩ h
 rintro cE ⟨c,q,B,G,o,u,d,C,cr⟩ L w cF hI ca h bG
 try dsimp only at hI
 obtain ⟨rfl,a⟩:=hI
 unfold F.DR at h
 refine J (H (P 1 Z ?_))
 refine I (O (J ?_))
 refine aw Z (fun aZ=>?_) (fun aZ=>?_)
 ·have h:=aJ h aZ
  refine az (O (J (aD ?_)))
  refine J (H (P 2 Z ?_))
  refine I (O (J ?_))
  refine aY (fun w'=>St S T w' [W j ([vI l]++(U.fl p++(e64.fl f++(e8.fl g++[v64 n])))),W D (U.fl ag)]) (fun i=>!([2,4,7].contains i)) bQ (fun _ _ _ A=>A.2) (fun _ _ A=>A) (by kernel_rfl) ?_
  have a:=a.drew
  show lxE _ _ _ _ _ _ _ [0,1,2,3,4,5,6,7,8,9,10,11,12,13,14,15,16,17,18,19,20,21,22,23,24,25,26] _ _
  refine al a Z Z (fun w hF=>ar Z) Z (al a Z Z (fun w hF=>ar Z) Z ?_)
  obtain ⟨an,cb,h⟩:=aj h
  refine bf a Z Z (by kernel_rfl) Z (bM o (-6) cb ) Z ?_
  rintro _ w ⟨rfl,t⟩
  have a:=a.f t
  refine al a Z Z (fun w hF=>ar Z) Z ?_
  obtain ⟨ap,cc,h⟩:=aj h
  refine bf a Z Z (by kernel_rfl) Z (bM o (-11) cc ) Z ?_
  rintro _ w ⟨rfl,t⟩
  have a:=a.f t
  refine al a Z Z (fun w hF=>aq Z Z (eB _ an ap)) Z (al a Z Z (fun w hF=>ar Z) Z ?_)
  obtain ⟨aK,cd,h⟩:=aj h
  refine bf a Z Z (by kernel_rfl) Z (bM o (-25) cd ) Z ?_
  rintro _ w ⟨rfl,t⟩
  have a:=a.f t
  refine al a Z Z (fun w hF=>aq Z Z (eB _ (an ^^^ ap) aK)) Z (al a Z Z (fun w hF=>aq Z Z (ej _ C ((an ^^^ ap) ^^^ aK))) Z (al a Z Z (fun w hF=>ar Z) Z (al a Z Z (fun w hF=>ar Z) Z (al a Z Z (fun w hF=>ar Z) Z (al a Z Z (fun w hF=>ar Z) Z (al a Z Z (fun w hF=>aq Z Z (eB _ u d)) Z (al a Z Z (fun w hF=>aq Z Z (iQ _ o (u ^^^ d))) Z (al a Z Z (fun w hF=>aq Z Z (eB _ d (o &&& (u ^^^ d)))) Z ?_))))))))
  refine al a Z Z (fun w hF=>aq Z Z (ej _ (C+((an ^^^ ap) ^^^ aK)) (d ^^^ (o &&& (u ^^^ d))))) Z (al a Z Z (fun w hF=>ar Z) Z ?_)
  obtain ⟨b1,bI,h⟩:=aj h
  refine al a Z Z (fun w hF=>bL u177 dZ Z Z (bH bI (show F.Cm.length=64 from Z))) Z (al a Z Z (fun w hF=>aC u38 Z Z (hT.sha_k256.cell hF.fr bI Z)) Z (al a Z Z (fun w hF=>aq Z Z (ej _ ((C+((an ^^^ ap) ^^^ aK))+(d ^^^ (o &&& (u ^^^ d)))) b1)) Z (al a Z Z (fun w hF=>ar Z) Z ?_)))
  obtain ⟨ct,bJ,h⟩:=aj h
  refine al a Z Z (fun w hF=>bL u177 dZ Z Z (bH bJ E)) Z (al a Z Z (fun w hF=>aC u38 Z Z (hF.s 1 Z (Up.elr Up.last bJ Z))) Z (al a Z Z (fun w hF=>aq Z Z (ej _ (((C+((an ^^^ ap) ^^^ aK))+(d ^^^ (o &&& (u ^^^ d))))+b1) ct)) Z ?_))
  obtain ⟨aN,ce,h⟩:=aO h
  refine al a Z Z (fun w hF=>aA (v:=v32 aN) (by rw [←ce]; rfl)) Z ?_
  refine bl a ?_
  refine O (J (H (P 1 Z ?_)))
  obtain ⟨a3,cg,h⟩:=aj h
  refine ao Z (bM c (-2) cg ) Z ?_
  rintro _ w ⟨rfl,t⟩
  have a:=a.f t
  refine P 1 Z ?_
  obtain ⟨a4,ch,h⟩:=aj h
  refine ao Z (bM c (-13) ch ) Z ?_
  rintro _ w ⟨rfl,t⟩
  have a:=a.f t
  refine am (aq Z Z (eB _ a3 a4)) Z (P 1 Z ?_)
  obtain ⟨b2,cj,h⟩:=aj h
  refine ao Z (bM c (-22) cj ) Z ?_
  rintro _ w ⟨rfl,t⟩
  have a:=a.f t
  refine am (aq Z Z (eB _ (a3 ^^^ a4) b2)) Z (P 2 Z ?_)
  refine am (aq Z Z (iQ _ c q)) Z (P 3 Z ?_)
  refine am (aq Z Z (ff _ c q)) Z (am (aq Z Z (iQ _ B (c ||| q))) Z (am (aq Z Z (ff _ (c &&& q) (B &&& (c ||| q)))) Z (am (aq Z Z (ej _ ((a3 ^^^ a4) ^^^ b2) ((c &&& q) ||| (B &&& (c ||| q))))) Z ?_)))
  obtain ⟨a5,ck,h⟩:=aO h
  refine am (aA (v:=v32 a5) (by rw [←ck]; rfl)) Z ?_
  refine I (O (H (P 5 Z ?_)))
  refine am (aq Z Z (ej _ G aN)) Z (P 5 Z ?_)
  refine am (aq Z Z (ej _ aN a5)) Z (P 8 Z ?_)
  refine I (aR ?_)
  refine O (H (P 2 Z ?_))
  refine I ?_
  exact bv (bz _ (by exact ⟨Z,Z,Z,Z,Z,Z,Z,Z,Z,Z,Z,V⟩) (ca (aN+a5,c,q,B,G+aN,o,u,d,wI (cr+1)) _ _ ⟨Z,a⟩ (a8 h bG)))
 have h:=aI h aZ
 refine bg ?_
 refine aF (aF ?_)
 have h:=aW h bG
 refine bd ?_
 refine O (J (H (P 8 Z ?_)))
 refine am (ci (vs:=[(0,v32 c,[v32 c]),(1,v32 q,[v32 q]),(2,v32 B,[v32 B]),(3,v32 G,[v32 G]),(4,v32 o,[v32 o]),(5,v32 u,[v32 u]),(6,v32 d,[v32 d]),(7,v32 C,[v32 C])]) (cells:=[v32 c,v32 q,v32 B,v32 G,v32 o,v32 u,v32 d,v32 C]) Z Ap ⟨Z,Z,Z,Z,Z,Z,Z,Z,V⟩ (by kernel_rfl)) Z ?_
 refine P 1 Z ?_
 refine I (O (aD ?_))
 refine au [(0,M j 0),(204,.agg #[v32 c,v32 q,v32 B,v32 G,v32 o,v32 u,v32 d,v32 C]),(205,vI 0)] ⟨Z,Z,Z,V⟩ ?_
 refine bj (F.DY l f g n c q B G o u d C) (fun (s:Int×List UInt32) L w=>L=[(0,M j 0),(204,.agg #[v32 c,v32 q,v32 B,v32 G,v32 o,v32 u,v32 d,v32 C]),(205,vI s.1)]∧s.2.length=8∧St S T w [W j ([vI l]++(U.fl s.2++(e64.fl f++(e8.fl g++[v64 n]))))]) ?_ (0,p) ⟨Z,b,(a.e [0] Z Z)⟩ h
 rintro cG ⟨cu,cv⟩ L w cH hI cl h bK
 try dsimp only at hI
 obtain ⟨rfl,ax,a⟩:=hI
 unfold F.DY at h
 refine J (H (P 1 Z ?_))
 refine I (O (J ?_))
 refine aw Z (fun a0=>?_) (fun a0=>?_)
 ·have h:=aJ h a0
  refine az (O (J (aD ?_)))
  refine J (H (P 1 Z ?_))
  obtain ⟨b3,bN,h⟩:=aj h
  refine am (kA (cs:=(U.fl ([c,q,B,G,o,u,d,C]:List UInt32)).toArray) u165 u38 Z dZ Z Z (bH bN Z) (lS bN Z)) Z ?_
  refine P 2 Z ?_
  refine I (O ?_)
  refine dK (fun w'=>St S T w' [W j ([vI l]++(U.fl cv++(e64.fl f++(e8.fl g++[v64 n]))))]) (fun i=>!([11].contains i)) bQ (fun _ _ _ A=>A.2) (fun _ _ A=>A) (by kernel_rfl) ?_
  have a:=a.drew
  show lxE _ _ _ _ _ _ _ [0,1,2,3,4,5,6,7,8,9,10,11] _ _
  refine al a Z Z (fun w hF=>ar Z) Z (al a Z Z (fun w hF=>ar Z) Z (al a Z Z (fun w hF=>aL Z) Z (al a Z Z (fun w hF=>av (k:=1) u168 Z Z fR Z) Z ?_)))
  obtain ⟨b4,bO,h⟩:=aj h
  refine al a Z Z (fun w hF=>bL u165 dZ Z Z (bH bO ax)) Z (al a Z Z (fun w hF=>aC u38 Z Z (hF.s 0 Z (Up.elr (Up.o (k:=1) Z Up.p Z) bO Z))) Z (al a Z Z (fun w hF=>ar Z) Z (al a Z Z (fun w hF=>aq Z Z (ej _ b4 b3)) Z (al a Z Z (fun w hF=>aL Z) Z (al a Z Z (fun w hF=>av (k:=1) u168 Z Z fR Z) Z ?_)))))
  obtain ⟨cI,bP,h⟩:=aj h
  refine al a Z Z (fun w hF=>bL u165 dZ Z Z (bH bP ax)) Z (iH a Z Z (eH (m:=1) Z dZ Z Z Z (Up.elt (t':=(b4+b3)) (Up.o (k:=1) Z Up.p Z) bP Z Z) Z Z (fE Z) a (i:=0)) ?_)
  intro w a
  obtain ⟨cw,bR,h⟩:=aO h
  rw [bR]at a
  refine bl V ?_
  refine aR ?_
  refine O (H (P 2 Z ?_))
  refine I ?_
  exact bv (bz _ (by exact ⟨Z,Z,Z,V⟩) (cl (wI (cu+1),cw) _ _ ⟨Z,(by rw [←bR,List.length_set]; exact ax),a⟩ (a8 h bK)))
 have h:=aI h a0
 refine bg ?_
 refine aF (aF ?_)
 have h:=aW h bK
 refine bd ?_
 cases h
 exact f5 Z ⟨Z,ax,y,x,a.e [0] Z Z⟩
theorem kN {G:World} {b:Nat} {S:List Nat} (l:Int) (g:List UInt32) (q:List UInt64) (j:List UInt8) (n:UInt64) {r:Int×List UInt32×List UInt64×List UInt8×UInt64}
  (h:F.EW l g q j n=some r) (a:St S G G [W b ([vI l]++(U.fl g++(e64.fl q++(e8.fl j++[v64 n]))))]) (hT:TB S G) (f:g.length=8) (p:q.length=8) (ab:j.length=128):Calls Tryz.prog 188 #[M b 0] G (Ret fun v w=>v=.tuple #[]∧r.2.1.length=8∧r.2.2.1.length=8∧r.2.2.2.1.length=128∧St S G w [W b ([vI r.1]++(U.fl r.2.1++(e64.fl r.2.2.1++(e8.fl r.2.2.2.1++[v64 r.2.2.2.2]))))]):=by
 refine aH 216 Tryz.func188 Z Z Z ?_
 refine au [(0,M b 0)] ⟨Z,V⟩ ?_
 unfold F.EW at h
 refine J (H ?_)
 refine aV (ba (cs:=e64.fl (List.replicate 80 0)) A9 (by kernel_rfl) a) Z ?_
 rintro _ w ⟨y,rfl,a⟩
 refine I (O (J (J (H (P 1 Z ?_)))))
 refine I (O (aD ?_))
 refine au [(0,M b 0),(2,M y 0),(22,vI 0)] ⟨Z,Z,Z,V⟩ ?_
 refine bj (F.Fe j q l g n) (fun (s:Int×List UInt64) L w=>L=[(0,M b 0),(2,M y 0),(22,vI s.1)]∧s.2.length=80∧St S G w [W b ([vI l]++(U.fl g++(e64.fl q++(e8.fl j++[v64 n])))),W y (e64.fl s.2)]) ?_ (0,(List.replicate 80 0)) ⟨Z,List.length_replicate,(a.e [1,0] Z Z)⟩ h
 rintro cF ⟨E,ct⟩ L w cR hI cu h bV
 try dsimp only at hI
 obtain ⟨rfl,bW,a⟩:=hI
 unfold F.Fe at h
 refine J (H (P 1 Z ?_))
 refine I (O (J ?_))
 refine aw Z (fun aQ=>?_) (fun aQ=>?_)
 ·have h:=aJ h aQ
  refine az (O (J (aD ?_)))
  refine J (H (P 2 Z ?_))
  refine I (O (J (H (P 1 Z ?_))))
  refine am (aL Z) Z (am (av (k:=17) u168 Z Z tW Z) Z (P 1 Z ?_))
  refine am (aq Z Z (fq _ 8 E)) Z (P 1 Z ?_)
  refine am (aq Z Z (fq _ 8 E)) Z (P 1 Z ?_)
  obtain ⟨a3,an,h⟩:=aj h
  refine am (z5 (e:=e8) u166 sz5 Z Z Z Z ab an) Z (am (aN u24 Z ((a.bxroA 0 Z ab (Up.o (k:=1) Z (Up.o (k:=8) (bc f Z) (Up.o (k:=8) (bc p Z) Up.p Z) Z) Z)).g_sl an)) Z ?_)
  refine P 1 Z ?_
  refine I (O (aD ?_))
  refine au [(0,M b 0),(2,M y 0),(3,vI E),(22,vI E),(33,slV (.slice (some ⟨b,17,none⟩) 128 128) e8.sz ((wI (8*E):Int).toNat) ((wI ((wI (8*E))+8):Int).toNat)),(34,vI (a3.length:Int)),(35,vI 0)] ⟨Z,Z,Z,Z,Z,Z,Z,V⟩ ?_
  refine bj (F.Eo E a3) (fun (s:Int×List UInt64) L w=>L=[(0,M b 0),(2,M y 0),(3,vI E),(22,vI E),(33,slV (.slice (some ⟨b,17,none⟩) 128 128) e8.sz ((wI (8*E):Int).toNat) ((wI ((wI (8*E))+8):Int).toNat)),(34,vI (a3.length:Int)),(35,vI s.1)]∧s.2.length=80∧St S G w [W b ([vI l]++(U.fl g++(e64.fl q++(e8.fl j++[v64 n])))),W y (e64.fl s.2)]) ?_ (0,ct) ⟨Z,bW,a⟩ h
  rintro cG ⟨cv,cw⟩ L w cH hI b9 h be
  try dsimp only at hI
  obtain ⟨rfl,ap,a⟩:=hI
  unfold F.Eo at h
  refine J (H (P 1 Z ?_))
  refine I (O (J ?_))
  refine aw Z (fun aS=>?_) (fun aS=>?_)
  ·have h:=aJ h aS
   refine az (O (J (aD ?_)))
   refine J (H ?_)
   obtain ⟨a4,bh,h⟩:=aj h
   refine am (bk u24 ti5 Z Z ((a.bxroA 0 Z ab (Up.o (k:=1) Z (Up.o (k:=8) (bc f Z) (Up.o (k:=8) (bc p Z) Up.p Z) Z) Z)).g_sl an) bh) Z ?_
   refine am (bb Tryz.underlying5 Z Z ((a.bxroA 0 Z ab (Up.o (k:=1) Z (Up.o (k:=8) (bc f Z) (Up.o (k:=8) (bc p Z) Up.p Z) Z) Z)).g_sl an) bh Z) Z ?_
   refine P 1 Z ?_
   refine I (O (H (P 2 Z ?_)))
   obtain ⟨a5,bi,h⟩:=aj h
   refine am (bL u179 dF Z Z (bH bi ap)) Z (am (aC u87 Z Z (a.s 1 Z (Up.elr Up.last bi Z))) Z (am (aq Z Z (c6 _ a5 8)) Z (P 1 Z ?_)))
   refine am (aM Z (tB Tryz.underlying5 u87 a4)) Z (am (aq Z Z (eG _ (bm a5 8) a4.toUInt64)) Z ?_)
   obtain ⟨cI,bo,h⟩:=aj h
   refine am (bL u179 dF Z Z (bH bo ap)) Z (bn (eH (m:=1) Z dF Z Z Z (Up.elt (t':=((bm a5 8) ||| a4.toUInt64)) Up.last bo Z Z) Z Z (fE Z) a (i:=1)) ?_)
   intro w a
   obtain ⟨cx,bp,h⟩:=aO h
   rw [bp]at a
   refine I (aR ?_)
   refine O (H (P 2 Z ?_))
   refine I ?_
   exact bv (bz _ (by exact ⟨Z,Z,Z,Z,Z,Z,Z,V⟩) (b9 (wI (cv+1),cx) _ _ ⟨Z,(by rw [←bp,List.length_set]; exact ap),a⟩ (a8 h be)))
  have h:=aI h aS
  refine bg ?_
  refine aF (aF ?_)
  have h:=aW h be
  refine bd ?_
  refine aR ?_
  refine O (H (P 2 Z ?_))
  refine I ?_
  exact bv (bz _ (by exact ⟨Z,Z,Z,V⟩) (cu (wI (E+1),cw) _ _ ⟨Z,ap,a⟩ (a8 h bV)))
 have h:=aI h aQ
 refine bg ?_
 refine aF (aF ?_)
 have h:=aW h bV
 refine bd ?_
 refine O (J (J (H (P 1 Z ?_))))
 refine I (O (aD ?_))
 refine au [(0,M b 0),(2,M y 0),(6,vI 16)] ⟨Z,Z,Z,V⟩ ?_
 refine bj (F.Dw q l g j n) (fun (s:Int×List UInt64) L w=>L=[(0,M b 0),(2,M y 0),(6,vI s.1)]∧s.2.length=80∧St S G w [W b ([vI l]++(U.fl g++(e64.fl q++(e8.fl j++[v64 n])))),W y (e64.fl s.2)]) ?_ (16,ct) ⟨Z,bW,a⟩ h
 rintro cJ ⟨ay,ac⟩ L w cK hI ca h bq
 try dsimp only at hI
 obtain ⟨rfl,B,a⟩:=hI
 unfold F.Dw at h
 refine J (J (H (P 2 Z ?_)))
 refine I (O ?_)
 refine aw Z (fun aT=>?_) (fun aT=>?_)
 ·have h:=aJ h aT
  refine az (O (J (aD ?_)))
  refine J ?_
  refine aY (fun w'=>St S G w' [W b ([vI l]++(U.fl g++(e64.fl q++(e8.fl j++[v64 n])))),W y (e64.fl ac)]) (fun _=>true) bQ (fun _ _ _ C=>C.2) (fun _ _ C=>C) (by kernel_rfl) ?_
  have a:=a.drew
  show lxE _ _ _ _ _ _ _ [0,1,2,3,4,5,6,7,8,9] _ _
  refine al a Z Z (fun w hF=>ar Z) Z (al a Z Z (fun w hF=>aq Z Z (dC _ ay 15)) Z ?_)
  obtain ⟨T,br,h⟩:=aj h
  refine al a Z Z (fun w hF=>bL u179 dF Z Z (bH br B)) Z (al a Z Z (fun w hF=>aC u87 Z Z (hF.s 1 Z (Up.elr Up.last br Z))) Z (al a Z Z (fun w hF=>ar Z) Z (al a Z Z (fun w hF=>aq Z Z (dC _ ay 2)) Z ?_)))
  obtain ⟨ad,bs,h⟩:=aj h
  refine al a Z Z (fun w hF=>bL u179 dF Z Z (bH bs B)) Z (al a Z Z (fun w hF=>aC u87 Z Z (hF.s 1 Z (Up.elr Up.last bs Z))) Z (al a Z Z (fun w hF=>aA Z) Z (al a Z Z (fun w hF=>aA Z) Z (bl a ?_))))
  refine O ?_
  refine dK (fun w'=>St S G w' [W b ([vI l]++(U.fl g++(e64.fl q++(e8.fl j++[v64 n])))),W y (e64.fl ac)]) (fun i=>!([11,13,20,22,29].contains i)) bQ (fun _ _ _ C=>C.2) (fun _ _ C=>C) (by kernel_rfl) ?_
  have a:=a.drew
  show lxE _ _ _ _ _ _ _ [0,1,2,3,4,5,6,7,8,9,10,11,12,13,14,15,16,17,18,19,20,21,22,23,24,25,26,27,28,29] _ _
  refine al a Z Z (fun w hF=>ar Z) Z (al a Z Z (fun w hF=>ar Z) Z (al a Z Z (fun w hF=>aq Z Z (dC _ ay 16)) Z ?_))
  obtain ⟨aU,bt,h⟩:=aj h
  refine al a Z Z (fun w hF=>bL u179 dF Z Z (bH bt B)) Z (al a Z Z (fun w hF=>aC u87 Z Z (hF.s 1 Z (Up.elr Up.last bt Z))) Z (al a Z Z (fun w hF=>ar Z) Z (al a Z Z (fun w hF=>aq Z Z (dC _ ay 7)) Z ?_)))
  obtain ⟨aX,bu,h⟩:=aj h
  refine al a Z Z (fun w hF=>bL u179 dF Z Z (bH bu B)) Z (al a Z Z (fun w hF=>aC u87 Z Z (hF.s 1 Z (Up.elr Up.last bu Z))) Z (al a Z Z (fun w hF=>aq Z Z (cq _ aU aX)) Z (al a Z Z (fun w hF=>ar Z) Z ?_)))
  obtain ⟨aB,cb,h⟩:=aj h
  refine bf a Z Z (by kernel_rfl) Z (bN T (-1) cb ) Z ?_
  rintro _ w ⟨rfl,u⟩
  have a:=a.f u
  refine al a Z Z (fun w hF=>ar Z) Z ?_
  obtain ⟨aE,cc,h⟩:=aj h
  refine bf a Z Z (by kernel_rfl) Z (bN T (-8) cc ) Z ?_
  rintro _ w ⟨rfl,u⟩
  have a:=a.f u
  refine al a Z Z (fun w hF=>aq Z Z (eI _ aB aE)) Z (al a Z Z (fun w hF=>ar Z) Z (al a Z Z (fun w hF=>aq Z Z (cl _ T 7)) Z (al a Z Z (fun w hF=>aq Z Z (eI _ (aB ^^^ aE) (aP T 7))) Z (al a Z Z (fun w hF=>aq Z Z (cq _ (aU+aX) ((aB ^^^ aE) ^^^ (aP T 7)))) Z (al a Z Z (fun w hF=>ar Z) Z ?_)))))
  obtain ⟨aZ,cd,h⟩:=aj h
  refine bf a Z Z (by kernel_rfl) Z (bN ad (-19) cd ) Z ?_
  rintro _ w ⟨rfl,u⟩
  have a:=a.f u
  refine al a Z Z (fun w hF=>ar Z) Z ?_
  obtain ⟨a0,ce,h⟩:=aj h
  refine bf a Z Z (by kernel_rfl) Z (bN ad (-61) ce ) Z ?_
  rintro _ w ⟨rfl,u⟩
  have a:=a.f u
  refine al a Z Z (fun w hF=>aq Z Z (eI _ aZ a0)) Z (al a Z Z (fun w hF=>ar Z) Z (al a Z Z (fun w hF=>aq Z Z (cl _ ad 6)) Z (al a Z Z (fun w hF=>aq Z Z (eI _ (aZ ^^^ a0) (aP ad 6))) Z (al a Z Z (fun w hF=>aq Z Z (cq _ ((aU+aX)+((aB ^^^ aE) ^^^ (aP T 7))) ((aZ ^^^ a0) ^^^ (aP ad 6)))) Z ?_))))
  obtain ⟨cL,bw,h⟩:=aj h
  refine al a Z Z (fun w hF=>bL u179 dF Z Z (bH bw B)) Z (iH a Z Z (eH (m:=1) Z dF Z Z Z (Up.elt (t':=(((aU+aX)+((aB ^^^ aE) ^^^ (aP T 7)))+((aZ ^^^ a0) ^^^ (aP ad 6)))) Up.last bw Z Z) Z Z (fE Z) a (i:=1)) ?_)
  intro w a
  obtain ⟨cy,bA,h⟩:=aO h
  rw [bA]at a
  refine bl V ?_
  refine aR ?_
  refine O (H (P 3 Z ?_))
  refine I ?_
  exact bv (bz _ (by exact ⟨Z,Z,Z,V⟩) (ca (wI (ay+1),cy) _ _ ⟨Z,(by rw [←bA,List.length_set]; exact B),a⟩ (a8 h bq)))
 have h:=aI h aT
 refine bg ?_
 refine aF (aF ?_)
 have h:=aW h bq
 refine bd ?_
 refine O (J ?_)
 refine aY (fun w'=>St S G w' [W b ([vI l]++(U.fl g++(e64.fl q++(e8.fl j++[v64 n])))),W y (e64.fl ac)]) (fun _=>true) bQ (fun _ _ _ C=>C.2) (fun _ _ C=>C) (by kernel_rfl) ?_
 have a:=a.drew
 show lxE _ _ _ _ _ _ _ [0,1,2,3,4,5,6,7,8,9,10,11,12,13,14,15,16,17,18,19,20,21,22,23,24,25,26,27,28,29,30,31,32,33,34,35,36,37,38,39,40,41,42,43,44,45,46,47] _ _
 refine al a Z Z (fun w hF=>ar Z) Z (al a Z Z (fun w hF=>aL Z) Z (al a Z Z (fun w hF=>av (k:=9) u168 Z Z fv Z) Z ?_))
 obtain ⟨bX,bB,h⟩:=aj h
 refine al a Z Z (fun w hF=>bL u160 dF Z Z (bH bB p)) Z (al a Z Z (fun w hF=>aC u87 Z Z (hF.s 0 Z (Up.elr (Up.o (k:=1) Z (Up.o (k:=8) (bc f Z) Up.p Z) Z) bB Z))) Z ?_)
 refine al a Z Z (fun w hF=>ar Z) Z (al a Z Z (fun w hF=>aL Z) Z (al a Z Z (fun w hF=>av (k:=9) u168 Z Z fv Z) Z ?_))
 obtain ⟨bY,bC,h⟩:=aj h
 refine al a Z Z (fun w hF=>bL u160 dF Z Z (bH bC p)) Z (al a Z Z (fun w hF=>aC u87 Z Z (hF.s 0 Z (Up.elr (Up.o (k:=1) Z (Up.o (k:=8) (bc f Z) Up.p Z) Z) bC Z))) Z ?_)
 refine al a Z Z (fun w hF=>ar Z) Z (al a Z Z (fun w hF=>aL Z) Z (al a Z Z (fun w hF=>av (k:=9) u168 Z Z fv Z) Z ?_))
 obtain ⟨bZ,bD,h⟩:=aj h
 refine al a Z Z (fun w hF=>bL u160 dF Z Z (bH bD p)) Z (al a Z Z (fun w hF=>aC u87 Z Z (hF.s 0 Z (Up.elr (Up.o (k:=1) Z (Up.o (k:=8) (bc f Z) Up.p Z) Z) bD Z))) Z ?_)
 refine al a Z Z (fun w hF=>ar Z) Z (al a Z Z (fun w hF=>aL Z) Z (al a Z Z (fun w hF=>av (k:=9) u168 Z Z fv Z) Z ?_))
 obtain ⟨b0,bE,h⟩:=aj h
 refine al a Z Z (fun w hF=>bL u160 dF Z Z (bH bE p)) Z (al a Z Z (fun w hF=>aC u87 Z Z (hF.s 0 Z (Up.elr (Up.o (k:=1) Z (Up.o (k:=8) (bc f Z) Up.p Z) Z) bE Z))) Z ?_)
 refine al a Z Z (fun w hF=>ar Z) Z (al a Z Z (fun w hF=>aL Z) Z (al a Z Z (fun w hF=>av (k:=9) u168 Z Z fv Z) Z ?_))
 obtain ⟨b1,bF,h⟩:=aj h
 refine al a Z Z (fun w hF=>bL u160 dF Z Z (bH bF p)) Z (al a Z Z (fun w hF=>aC u87 Z Z (hF.s 0 Z (Up.elr (Up.o (k:=1) Z (Up.o (k:=8) (bc f Z) Up.p Z) Z) bF Z))) Z ?_)
 refine al a Z Z (fun w hF=>ar Z) Z (al a Z Z (fun w hF=>aL Z) Z (al a Z Z (fun w hF=>av (k:=9) u168 Z Z fv Z) Z ?_))
 obtain ⟨b2,bG,h⟩:=aj h
 refine al a Z Z (fun w hF=>bL u160 dF Z Z (bH bG p)) Z (al a Z Z (fun w hF=>aC u87 Z Z (hF.s 0 Z (Up.elr (Up.o (k:=1) Z (Up.o (k:=8) (bc f Z) Up.p Z) Z) bG Z))) Z ?_)
 refine al a Z Z (fun w hF=>ar Z) Z (al a Z Z (fun w hF=>aL Z) Z (al a Z Z (fun w hF=>av (k:=9) u168 Z Z fv Z) Z ?_))
 obtain ⟨b3,bI,h⟩:=aj h
 refine al a Z Z (fun w hF=>bL u160 dF Z Z (bH bI p)) Z (al a Z Z (fun w hF=>aC u87 Z Z (hF.s 0 Z (Up.elr (Up.o (k:=1) Z (Up.o (k:=8) (bc f Z) Up.p Z) Z) bI Z))) Z ?_)
 refine al a Z Z (fun w hF=>ar Z) Z (al a Z Z (fun w hF=>aL Z) Z (al a Z Z (fun w hF=>av (k:=9) u168 Z Z fv Z) Z ?_))
 obtain ⟨b4,bJ,h⟩:=aj h
 refine al a Z Z (fun w hF=>bL u160 dF Z Z (bH bJ p)) Z (al a Z Z (fun w hF=>aC u87 Z Z (hF.s 0 Z (Up.elr (Up.o (k:=1) Z (Up.o (k:=8) (bc f Z) Up.p Z) Z) bJ Z))) Z ?_)
 refine al a Z Z (fun w hF=>aA Z) Z (al a Z Z (fun w hF=>aA Z) Z (al a Z Z (fun w hF=>aA Z) Z (al a Z Z (fun w hF=>aA Z) Z (al a Z Z (fun w hF=>aA Z) Z (al a Z Z (fun w hF=>aA Z) Z (al a Z Z (fun w hF=>aA Z) Z (al a Z Z (fun w hF=>aA Z) Z (bl a ?_))))))))
 refine O (J (J (H (P 1 Z ?_))))
 refine I (O (aD ?_))
 refine au [(0,M b 0),(2,M y 0),(9,v64 bX),(10,v64 bY),(11,v64 bZ),(12,v64 b0),(13,v64 b1),(14,v64 b2),(15,v64 b3),(16,v64 b4),(131,vI 0)] ⟨Z,Z,Z,Z,Z,Z,Z,Z,Z,Z,Z,V⟩ ?_
 refine bj (F.DK q ac l g j n) (fun (s:UInt64×UInt64×UInt64×UInt64×UInt64×UInt64×UInt64×UInt64×Int) L w=>L=[(0,M b 0),(2,M y 0),(9,v64 s.1),(10,v64 s.2.1),(11,v64 s.2.2.1),(12,v64 s.2.2.2.1),(13,v64 s.2.2.2.2.1),(14,v64 s.2.2.2.2.2.1),(15,v64 s.2.2.2.2.2.2.1),(16,v64 s.2.2.2.2.2.2.2.1),(131,vI s.2.2.2.2.2.2.2.2)]∧St S G w [W b ([vI l]++(U.fl g++(e64.fl q++(e8.fl j++[v64 n])))),W y (e64.fl ac)]) ?_ (bX,bY,bZ,b0,b1,b2,b3,b4,0) ⟨Z,a⟩ h
 rintro cM ⟨c,t,z,D,o,x,d,A,cz⟩ L w cN hI cf h bK
 try dsimp only at hI
 obtain ⟨rfl,a⟩:=hI
 unfold F.DK at h
 refine J (H (P 1 Z ?_))
 refine I (O (J ?_))
 refine aw Z (fun a1=>?_) (fun a1=>?_)
 ·have h:=aJ h a1
  refine az (O (J (aD ?_)))
  refine J (H (P 2 Z ?_))
  refine I (O (J ?_))
  refine aY (fun w'=>St S G w' [W b ([vI l]++(U.fl g++(e64.fl q++(e8.fl j++[v64 n])))),W y (e64.fl ac)]) (fun i=>!([2,4,7].contains i)) bQ (fun _ _ _ C=>C.2) (fun _ _ C=>C) (by kernel_rfl) ?_
  have a:=a.drew
  show lxE _ _ _ _ _ _ _ [0,1,2,3,4,5,6,7,8,9,10,11,12,13,14,15,16,17,18,19,20,21,22,23,24,25,26] _ _
  refine al a Z Z (fun w hF=>ar Z) Z (al a Z Z (fun w hF=>ar Z) Z ?_)
  obtain ⟨ag,cg,h⟩:=aj h
  refine bf a Z Z (by kernel_rfl) Z (bN o (-14) cg ) Z ?_
  rintro _ w ⟨rfl,u⟩
  have a:=a.f u
  refine al a Z Z (fun w hF=>ar Z) Z ?_
  obtain ⟨ak,ch,h⟩:=aj h
  refine bf a Z Z (by kernel_rfl) Z (bN o (-18) ch ) Z ?_
  rintro _ w ⟨rfl,u⟩
  have a:=a.f u
  refine al a Z Z (fun w hF=>aq Z Z (eI _ ag ak)) Z (al a Z Z (fun w hF=>ar Z) Z ?_)
  obtain ⟨aG,cj,h⟩:=aj h
  refine bf a Z Z (by kernel_rfl) Z (bN o (-41) cj ) Z ?_
  rintro _ w ⟨rfl,u⟩
  have a:=a.f u
  refine al a Z Z (fun w hF=>aq Z Z (eI _ (ag ^^^ ak) aG)) Z (al a Z Z (fun w hF=>aq Z Z (cq _ A ((ag ^^^ ak) ^^^ aG))) Z (al a Z Z (fun w hF=>ar Z) Z (al a Z Z (fun w hF=>ar Z) Z (al a Z Z (fun w hF=>ar Z) Z (al a Z Z (fun w hF=>ar Z) Z (al a Z Z (fun w hF=>aq Z Z (eI _ x d)) Z (al a Z Z (fun w hF=>aq Z Z (iS _ o (x ^^^ d))) Z (al a Z Z (fun w hF=>aq Z Z (eI _ d (o &&& (x ^^^ d)))) Z ?_))))))))
  refine al a Z Z (fun w hF=>aq Z Z (cq _ (A+((ag ^^^ ak) ^^^ aG)) (d ^^^ (o &&& (x ^^^ d))))) Z (al a Z Z (fun w hF=>ar Z) Z ?_)
  obtain ⟨b5,bM,h⟩:=aj h
  refine al a Z Z (fun w hF=>bL u179 dF Z Z (bH bM (show F.CB.length=80 from Z))) Z (al a Z Z (fun w hF=>aC u87 Z Z (hT.sha_k512.cell hF.fr bM Z)) Z (al a Z Z (fun w hF=>aq Z Z (cq _ ((A+((ag ^^^ ak) ^^^ aG))+(d ^^^ (o &&& (x ^^^ d)))) b5)) Z (al a Z Z (fun w hF=>ar Z) Z ?_)))
  obtain ⟨cA,bO,h⟩:=aj h
  refine al a Z Z (fun w hF=>bL u179 dF Z Z (bH bO B)) Z (al a Z Z (fun w hF=>aC u87 Z Z (hF.s 1 Z (Up.elr Up.last bO Z))) Z (al a Z Z (fun w hF=>aq Z Z (cq _ (((A+((ag ^^^ ak) ^^^ aG))+(d ^^^ (o &&& (x ^^^ d))))+b5) cA)) Z ?_))
  obtain ⟨aK,ck,h⟩:=aO h
  refine al a Z Z (fun w hF=>aA (v:=v64 aK) (by rw [←ck]; rfl)) Z ?_
  refine bl a ?_
  refine O (J (H (P 1 Z ?_)))
  obtain ⟨a6,cm,h⟩:=aj h
  refine ao Z (bN c (-28) cm ) Z ?_
  rintro _ w ⟨rfl,u⟩
  have a:=a.f u
  refine P 1 Z ?_
  obtain ⟨a7,cn,h⟩:=aj h
  refine ao Z (bN c (-34) cn ) Z ?_
  rintro _ w ⟨rfl,u⟩
  have a:=a.f u
  refine am (aq Z Z (eI _ a6 a7)) Z (P 1 Z ?_)
  obtain ⟨b6,co,h⟩:=aj h
  refine ao Z (bN c (-39) co ) Z ?_
  rintro _ w ⟨rfl,u⟩
  have a:=a.f u
  refine am (aq Z Z (eI _ (a6 ^^^ a7) b6)) Z (P 2 Z ?_)
  refine am (aq Z Z (iS _ c t)) Z (P 3 Z ?_)
  refine am (aq Z Z (eG _ c t)) Z (am (aq Z Z (iS _ z (c ||| t))) Z (am (aq Z Z (eG _ (c &&& t) (z &&& (c ||| t)))) Z (am (aq Z Z (cq _ ((a6 ^^^ a7) ^^^ b6) ((c &&& t) ||| (z &&& (c ||| t))))) Z ?_)))
  obtain ⟨a9,cp,h⟩:=aO h
  refine am (aA (v:=v64 a9) (by rw [←cp]; rfl)) Z ?_
  refine I (O (H (P 5 Z ?_)))
  refine am (aq Z Z (cq _ D aK)) Z (P 5 Z ?_)
  refine am (aq Z Z (cq _ aK a9)) Z (P 8 Z ?_)
  refine I (aR ?_)
  refine O (H (P 2 Z ?_))
  refine I ?_
  exact bv (bz _ (by exact ⟨Z,Z,Z,Z,Z,Z,Z,Z,Z,Z,Z,V⟩) (cf (aK+a9,c,t,z,D+aK,o,x,d,wI (cz+1)) _ _ ⟨Z,a⟩ (a8 h bK)))
 have h:=aI h a1
 refine bg ?_
 refine aF (aF ?_)
 have h:=aW h bK
 refine bd ?_
 refine O (J (H (P 8 Z ?_)))
 refine am (ci (vs:=[(0,v64 c,[v64 c]),(1,v64 t,[v64 t]),(2,v64 z,[v64 z]),(3,v64 D,[v64 D]),(4,v64 o,[v64 o]),(5,v64 x,[v64 x]),(6,v64 d,[v64 d]),(7,v64 A,[v64 A])]) (cells:=[v64 c,v64 t,v64 z,v64 D,v64 o,v64 x,v64 d,v64 A]) Z Aq ⟨Z,Z,Z,Z,Z,Z,Z,Z,V⟩ (by kernel_rfl)) Z ?_
 refine P 1 Z ?_
 refine I (O (aD ?_))
 refine au [(0,M b 0),(199,.agg #[v64 c,v64 t,v64 z,v64 D,v64 o,v64 x,v64 d,v64 A]),(200,vI 0)] ⟨Z,Z,Z,V⟩ ?_
 refine bj (F.DP l g j n c t z D o x d A) (fun (s:Int×List UInt64) L w=>L=[(0,M b 0),(199,.agg #[v64 c,v64 t,v64 z,v64 D,v64 o,v64 x,v64 d,v64 A]),(200,vI s.1)]∧s.2.length=8∧St S G w [W b ([vI l]++(U.fl g++(e64.fl s.2++(e8.fl j++[v64 n]))))]) ?_ (0,q) ⟨Z,p,(a.e [0] Z Z)⟩ h
 rintro cO ⟨cB,cC⟩ L w cP hI cr h bP
 try dsimp only at hI
 obtain ⟨rfl,ax,a⟩:=hI
 unfold F.DP at h
 refine J (H (P 1 Z ?_))
 refine I (O (J ?_))
 refine aw Z (fun a2=>?_) (fun a2=>?_)
 ·have h:=aJ h a2
  refine az (O (J (aD ?_)))
  refine J (H (P 1 Z ?_))
  obtain ⟨b7,bR,h⟩:=aj h
  refine am (kA (cs:=(e64.fl ([c,t,z,D,o,x,d,A]:List UInt64)).toArray) u160 u87 Z dF Z Z (bH bR Z) (lS bR Z)) Z ?_
  refine P 2 Z ?_
  refine I (O ?_)
  refine dK (fun w'=>St S G w' [W b ([vI l]++(U.fl g++(e64.fl cC++(e8.fl j++[v64 n]))))]) (fun i=>!([11].contains i)) bQ (fun _ _ _ C=>C.2) (fun _ _ C=>C) (by kernel_rfl) ?_
  have a:=a.drew
  show lxE _ _ _ _ _ _ _ [0,1,2,3,4,5,6,7,8,9,10,11] _ _
  refine al a Z Z (fun w hF=>ar Z) Z (al a Z Z (fun w hF=>ar Z) Z (al a Z Z (fun w hF=>aL Z) Z (al a Z Z (fun w hF=>av (k:=9) u168 Z Z fv Z) Z ?_)))
  obtain ⟨b8,bS,h⟩:=aj h
  refine al a Z Z (fun w hF=>bL u160 dF Z Z (bH bS ax)) Z (al a Z Z (fun w hF=>aC u87 Z Z (hF.s 0 Z (Up.elr (Up.o (k:=1) Z (Up.o (k:=8) (bc f Z) Up.p Z) Z) bS Z))) Z ?_)
  refine al a Z Z (fun w hF=>ar Z) Z (al a Z Z (fun w hF=>aq Z Z (cq _ b8 b7)) Z (al a Z Z (fun w hF=>aL Z) Z (al a Z Z (fun w hF=>av (k:=9) u168 Z Z fv Z) Z ?_)))
  obtain ⟨cQ,bT,h⟩:=aj h
  refine al a Z Z (fun w hF=>bL u160 dF Z Z (bH bT ax)) Z (iH a Z Z (eH (m:=1) Z dF Z Z Z (Up.elt (t':=(b8+b7)) (Up.o (k:=1) Z (Up.o (k:=8) (bc f Z) Up.p Z) Z) bT Z Z) Z Z (fE Z) a (i:=0)) ?_)
  intro w a
  obtain ⟨cD,bU,h⟩:=aO h
  rw [bU]at a
  refine bl V ?_
  refine aR ?_
  refine O (H (P 2 Z ?_))
  refine I ?_
  exact bv (bz _ (by exact ⟨Z,Z,Z,V⟩) (cr (wI (cB+1),cD) _ _ ⟨Z,(by rw [←bU,List.length_set]; exact ax),a⟩ (a8 h bP)))
 have h:=aI h a2
 refine bg ?_
 refine aF (aF ?_)
 have h:=aW h bP
 refine bd ?_
 cases h
 exact f5 Z ⟨Z,f,ax,ab,a.e [0] Z Z⟩
theorem mw {o:World} {f:Nat} {S:List Nat} (d:Int) (a:List UInt32) (b:List UInt64) (c:List UInt8) (e:UInt64) {r:Int×List UInt32×List UInt64×List UInt8×UInt64}
  (h:F.DO d a b c e=some r) (i:St S o o [W f ([vI d]++(U.fl a++(e64.fl b++(e8.fl c++[v64 e]))))]) (B:TB S o) (l:a.length=8) (m:b.length=8) (n:c.length=128):Calls Tryz.prog 170 #[M f 0] o (Ret fun v w=>v=.tuple #[]∧r.2.1.length=8∧r.2.2.1.length=8∧r.2.2.2.1.length=128∧St S o w [W f ([vI r.1]++(U.fl r.2.1++(e64.fl r.2.2.1++(e8.fl r.2.2.2.1++[v64 r.2.2.2.2]))))]):=by
 refine aH 11 Tryz.func170 Z Z Z ?_
 refine au [(0,M f 0)] ⟨Z,V⟩ ?_
 unfold F.DO at h
 refine J (H (P 1 Z ?_))
 refine am (aL Z) Z (am (av (k:=0) u168 Z Z oo Z) Z (am (aC u22 Z Z (i.s 0 Z (Up.get0 Up.p))) Z (P 1 Z ?_)))
 refine I (O ?_)
 refine aw Z (fun g=>?_) (fun g=>?_)
 ·have h:=aJ h g
  refine H (P 1 Z ?_)
  have j:=i.pick (os':=[W f ([vI d]++(U.fl a++(e64.fl b++(e8.fl c++[v64 e]))))]++[]) [0] (by decide) Z
  obtain ⟨C,q,h⟩:=aj h
  refine ao Z (kL d a b c e q j.g (B.g j) l m n) Z ?_
  rintro _ w ⟨rfl,s,t,u,p⟩
  have i:=j.h p
  refine I ?_
  cases h
  exact f5 Z ⟨Z,s,t,u,i.e [0] Z Z⟩
 have h:=aI h g
 refine H (P 1 Z ?_)
 have j:=i.pick (os':=[W f ([vI d]++(U.fl a++(e64.fl b++(e8.fl c++[v64 e]))))]++[]) [0] (by decide) Z
 obtain ⟨D,x,h⟩:=aj h
 refine ao Z (kN d a b c e x j.g (B.g j) l m n) Z ?_
 rintro _ w ⟨rfl,y,z,A,p⟩
 have i:=j.h p
 refine I ?_
 cases h
 exact f5 Z ⟨Z,y,z,A,i.e [0] Z Z⟩
theorem iA {D:World} {a1:List UInt8} {E:Value} {n:Nat} {S:List Nat} (t:Int) (u:List UInt32) (x:List UInt64) (y:List UInt8) (T:UInt64) {r:Int×List UInt32×List UInt64×List UInt8×UInt64}
  (h:F.Ce t u x y T a1=some r) (c:St S D D [W n ([vI t]++(U.fl u++(e64.fl x++(e8.fl y++[v64 T]))))]) (hT:TB S D) (ap:u.length=8) (ar:x.length=8) (ax:y.length=128) (aY:RP S D e8 E a1):Calls Tryz.prog 124 #[M n 0,E] D (Ret fun v w=>v=.tuple #[]∧r.2.1.length=8∧r.2.2.1.length=8∧r.2.2.2.1.length=128∧St S D w [W n ([vI r.1]++(U.fl r.2.1++(e64.fl r.2.2.1++(e8.fl r.2.2.2.1++[v64 r.2.2.2.2]))))]):=by
 refine aH 50 Tryz.func124 Z Z Z ?_
 refine au [(0,M n 0),(1,E)] ⟨Z,Z,V⟩ ?_
 unfold F.Ce at h
 refine J (H (P 1 Z ?_))
 refine am (aL Z) Z (am (av (k:=0) u168 Z Z oo Z) Z (am (aC u22 Z Z (c.s 0 Z (Up.get0 Up.p))) Z ?_))
 obtain ⟨q,aT,h⟩:=aj h
 refine ao Z (mA t aT ) Z ?_
 rintro _ w ⟨rfl,ad⟩
 have c:=c.f ad
 refine P 1 Z ?_
 refine I (O (aD ?_))
 refine au [(0,M n 0),(1,E),(4,vI q)] ⟨Z,Z,Z,V⟩ ?_
 refine bj (F.CP q) (fun (s:List UInt8×Int×List UInt32×List UInt64×List UInt8×UInt64) L w=>∃(G:Value),L=[(0,M n 0),(1,G),(4,vI q)]∧RP S D e8 G s.1∧s.2.2.1.length=8∧s.2.2.2.1.length=8∧s.2.2.2.2.1.length=128∧St S D w [W n ([vI s.2.1]++(U.fl s.2.2.1++(e64.fl s.2.2.2.1++(e8.fl s.2.2.2.2.1++[v64 s.2.2.2.2.2]))))]) ?_ (a1,t,u,x,y,T) ⟨E,Z,aY,ap,ar,ax,c⟩ h
 rintro a0 ⟨aS,ag,ak,al,a2,g⟩ L w a3 hI ac h z
 try dsimp only at hI
 obtain ⟨G,rfl,o,j,d,b,c⟩:=hI
 unfold F.CP at h
 refine J (J (H (P 1 Z ?_)))
 refine am (aN u24 Z (o.d c.fr)) Z (P 1 Z ?_)
 refine I (O ?_)
 refine aw Z (fun A=>?_) (fun A=>?_)
 ·have h:=aJ h A
  refine az (O (aD ?_))
  refine J (H (P 1 Z ?_))
  refine am (aL Z) Z (am (av (k:=145) u168 Z Z tJ Z) Z (am (aC u87 Z Z (c.s 0 Z (Up.get0 (Up.o (k:=1) Z (Up.o (k:=8) (bc j Z) (Up.o (k:=8) (bc d Z) (Up.o (k:=128) (bc b Z) Up.last Z) Z) Z) Z)))) Z ?_))
  refine P 1 Z ?_
  refine am (aM Z (eE Tryz.underlying3 u87 q)) Z ?_
  obtain ⟨ay,h⟩:=bX h
  refine am (aq Z Z (ez _ g (UInt64.ofInt q) ay)) Z (am (aM Z (l9 u87 Tryz.underlying3 (g%(UInt64.ofInt q)))) Z ?_)
  obtain ⟨aU,aB,h⟩:=aO h
  refine am (aA (v:=vI aU) (by rw [←aB]; rfl)) Z ?_
  refine I (O (J (H (P 1 Z ?_))))
  refine am (aL Z) Z (am (av (k:=17) u168 Z Z tW Z) Z (P 2 Z ?_))
  obtain ⟨a4,a,h⟩:=aj h
  refine am (z5 (e:=e8) u166 sz5 Z Z Z Z b a) Z (P 1 Z ?_)
  refine aV (vN (e:=e8) u24 ti5 Z Z Z c (i:=0) Z b (Up.o (k:=1) Z (Up.o (k:=8) (bc j Z) (Up.o (k:=8) (bc d Z) Up.p Z) Z) Z) (o.d c.fr) (by have:=(cw a).1; omega) (cw a).1.2.2) Z ?_
  rintro v_q w ⟨hv_q,c⟩
  subst v_q
  obtain ⟨ab,l,h⟩:=aO h
  rw [l]at c
  obtain ⟨f,aE,h⟩:=aO h
  refine am (aA (v:=vI f) (by rw [←aE]; rfl)) Z ?_
  refine I (O (J (H (P 1 Z ?_))))
  refine am (aL Z) Z (am (av (k:=145) u168 Z Z tJ Z) Z ?_)
  refine am (aC u87 Z Z (c.s 0 Z (Up.get0 (Up.o (k:=1) Z (Up.o (k:=8) (bc j Z) (Up.o (k:=8) (bc d Z) (Up.o (k:=128) (bc (by rw [←l,en _ _ _ _ (by have:=(cw a).1; omega) (cw a).1.2.2]; exact b) Z) Up.last Z) Z) Z) Z)))) Z ?_
  refine P 1 Z ?_
  refine am (aM Z (eE Tryz.underlying3 u87 f)) Z (am (aq Z Z (cq _ g (UInt64.ofInt f))) Z (am (aL Z) Z (am (av (k:=145) u168 Z Z tJ Z) Z ?_)))
  refine bn (eH (m:=1) (xs:=[v64 g]) (xs':=[v64 (g+(UInt64.ofInt f))]) (i:=0) Z dF Z Z Z (Up.o (k:=1) Z (Up.o (k:=8) (bc j Z) (Up.o (k:=8) (bc d Z) (Up.o (k:=128) (bc (by rw [←l,en _ _ _ _ (by have:=(cw a).1; omega) (cw a).1.2.2]; exact b) Z) Up.last Z) Z) Z) Z) Z Z (fE Z) c) ?_
  intro w c
  refine I (O (J (H (P 2 Z ?_))))
  obtain ⟨an,B,h⟩:=aj h
  refine am (ug u24 ti5 Z Z (o.d c.fr) B) Z (P 1 Z ?_)
  refine I (O (J (H (P 5 Z ?_))))
  refine I (O ?_)
  refine aw Z (fun C=>?_) (fun C=>?_)
  ·have h:=aJ h C
   refine H (P 1 Z ?_)
   have hG:=c.pick (os':=[W n ([vI ag]++(U.fl ak++(e64.fl al++(e8.fl ab++[v64 (g+(UInt64.ofInt f))]))))]++[]) [0] (by decide) Z
   obtain ⟨p,aG,h⟩:=aj h
   refine ao Z (mw ag ak al ab (g+(UInt64.ofInt f)) aG hG.g (hT.g hG) j d (by rw [←l,en _ _ _ _ (by have:=(cw a).1; omega) (cw a).1.2.2]; exact b)) Z ?_
   rintro _ w ⟨rfl,aK,aP,aQ,ad⟩
   have c:=hG.h ad
   refine I (aR ?_)
   exact bv (bz _ (by exact ⟨Z,Z,Z,V⟩) (ac (an,p.1,p.2.1,p.2.2.1,p.2.2.2.1,p.2.2.2.2) _ _ ⟨slV G e8.sz ((f:Int).toNat) aS.length,Z,(o.g_sll B),aK,aP,aQ,c⟩ (a8 h z)))
  have h:=aI h C
  refine az (aR ?_)
  exact bv (bz _ (by exact ⟨Z,Z,Z,V⟩) (ac (an,ag,ak,al,ab,g+(UInt64.ofInt f)) _ _ ⟨slV G e8.sz ((f:Int).toNat) aS.length,Z,(o.g_sll B),j,d,(by rw [←l,en _ _ _ _ (by have:=(cw a).1; omega) (cw a).1.2.2]; exact b),c⟩ (a8 h z)))
 have h:=aI h A
 refine bg ?_
 refine aF (aF ?_)
 have h:=aW h z
 refine bd ?_
 cases h
 exact f5 Z ⟨Z,j,d,b,c.e [0] Z Z⟩
end Go.Proofs
