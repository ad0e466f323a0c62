import Derived.Test.YtkickcbphbgldaaGreatDoorTW0
import Derived.Test.YtkickcbphbgldaaGreatDoorGkFman
import Derived.Test.YtkickcbphbgldaaGreatDoorTWlib
set_option linter.unusedVariables false
set_option linter.unusedSimpArgs false
set_option linter.unusedSectionVars false
set_option maxRecDepth 4000
namespace Go.Proofs
open Go Go.RowKit Go.Gk
open Go.Gk renaming aa → P, ae → O, ah → J, ai → H, e32 → U, pB → N, vB → I
open Go.Gk.OE renaming bx → X
theorem gw {e:World} (a0:Int) {r:Int}
  (h:F.Cc a0=some r) :Calls Tryz.prog 27 #[vI a0] e (Ret fun v w=>v=vI r∧St [] e w []):=by
 refine aJ 10 Tryz.func27 Z Z Z ?_
 have d:=St.l e
 refine au [(0,vI a0)] ⟨Z,V⟩ ?_
 unfold F.Cc at h
 refine J (af (P 1 Z ?_))
 refine H (O (J (J (af (P 1 Z ?_)))))
 refine H (O (aD ?_))
 refine J (af (P 2 Z ?_))
 refine H (O ?_)
 refine ax Z (fun a=>?_) (fun a=>?_)
 ·have h:=aI h a
  refine J (af (P 1 Z ?_))
  refine H (O (aw (bM ?_)))
  refine aE ?_
  cases h
  exact aF Z Z ⟨Z,d⟩
 have h:=aH h a
 refine J (af (P 2 Z ?_))
 refine H (O ?_)
 refine ax Z (fun b=>?_) (fun b=>?_)
 ·have h:=aI h b
  refine J (af (P 1 Z ?_))
  refine H (O (aw (bM ?_)))
  refine aE ?_
  cases h
  exact aF Z Z ⟨Z,d⟩
 have h:=aH h b
 refine J (af (P 2 Z ?_))
 refine H (O ?_)
 refine ax Z (fun c=>?_) (fun c=>?_)
 ·have h:=aI h c
  refine J (af (P 1 Z ?_))
  refine H (O (aw (bM ?_)))
  refine aE ?_
  cases h
  exact aF Z Z ⟨Z,d⟩
 have h:=aH h c
 refine ay (aR ?_)
 refine O (J (af (P 1 Z ?_)))
 refine H (O (aw ?_))
 cases h
 exact aF Z Z ⟨Z,d⟩
theorem vK {j:World} (a0:Int) {r:Option (Int×List UInt32×List UInt64×List UInt8×UInt64)}
  (h:F.FN a0=some r) (n:TB [] j):Calls Tryz.prog 123 #[vI a0] j (Ret fun v w=>∃u0:Value,v=u0∧yr u0 (r.map (fun c=>[vI c.1]++(U.fl c.2.1++(e64.fl c.2.2.1++(e8.fl c.2.2.2.1++[v64 c.2.2.2.2])))))∧(∀c,r=some c→c.2.1.length=8∧c.2.2.1.length=8∧c.2.2.2.1.length=128)∧St [] j w (xp u0 (r.map (fun c=>[vI c.1]++(U.fl c.2.1++(e64.fl c.2.2.1++(e8.fl c.2.2.2.1++[v64 c.2.2.2.2])))))++[])):=by
 refine aJ 27 Tryz.func123 Z Z Z ?_
 have a:=St.l j
 refine au [(0,vI a0)] ⟨Z,V⟩ ?_
 unfold F.FN at h
 refine J (af (P 1 Z ?_))
 refine H (O (J (af (P 1 Z ?_))))
 refine am (bY (vs:=[(0,vI a0,[vI a0])]) (cells:=[vI a0]++(U.fl (List.replicate 8 0)++(e64.fl (List.replicate 8 0)++(e8.fl (List.replicate 128 0)++[v64 0])))) Z AU ⟨Z,V⟩ (by kernel_rfl)) Z ?_
 refine aT (da (cs:=[vI a0]++(U.fl (List.replicate 8 0)++(e64.fl (List.replicate 8 0)++(e8.fl (List.replicate 128 0)++[v64 0])))) Z Z a) Z ?_
 rintro _ w ⟨l,rfl,a⟩
 refine P 1 Z ?_
 refine H (O ?_)
 refine a9 (r:=r) (fun (g:List UInt32×List UInt64) L w=>L=[(3,N l 0)]∧g.1.length=8∧g.2.length=8∧St [] j w [X l ([vI a0]++(U.fl g.1++(e64.fl g.2++(e8.fl (List.replicate 128 0)++[v64 0]))))]) (F.Fc a0) ?_ ?_
 rotate_left
 ·intro b
  refine J (af (P 1 Z ?_))
  refine H (O (aD ?_))
  refine J (af (P 2 Z ?_))
  refine H (O ?_)
  refine ax Z (fun d=>?_) (fun d=>?_)
  ·have h:=aI h d
   refine af (P 1 Z ?_)
   refine am (i3 (us:=U.fl F.B4) u165 Z uh (bc (show F.B4.length=8 from Z) Z) Z (n.sha_start256.cells a.fr)) Z ?_
   refine am (aK Z) Z (am (av (k:=1) u168 Z Z f6 Z) Z ?_)
   refine bk (eX (m:=8) (xs:=U.fl (List.replicate 8 0)) (xs':=U.fl F.B4) (i:=0) Z uh Z Z Z (Up.o (k:=1) Z Up.p Z) (bc List.length_replicate Z) (bc (show F.B4.length=8 from Z) Z) ka a) ?_
   intro w a
   refine H (aR ?_)
   refine O ?_
   exact au _ (by exact ⟨Z,V⟩) (b (F.B4,(List.replicate 8 0)) _ _ ⟨Z,(show F.B4.length=8 from Z),List.length_replicate,a⟩ h)
  have h:=aH h d
  refine J (af (P 2 Z ?_))
  refine H (O ?_)
  refine ax Z (fun e=>?_) (fun e=>?_)
  ·have h:=aI h e
   refine af (P 1 Z ?_)
   refine am (i3 (us:=e64.fl F.BZ) u160 Z oD (bc (show F.BZ.length=8 from Z) Z) Z (n.sha_start384.cells a.fr)) Z ?_
   refine am (aK Z) Z (am (av (k:=9) u168 Z Z fM Z) Z ?_)
   refine bk (eX (m:=8) (xs:=e64.fl (List.replicate 8 0)) (xs':=e64.fl F.BZ) (i:=0) Z oD Z Z Z (Up.o (k:=1) Z (Up.o (k:=8) (bc List.length_replicate Z) Up.p Z) Z) (bc List.length_replicate Z) (bc (show F.BZ.length=8 from Z) Z) ka a) ?_
   intro w a
   refine H (aR ?_)
   refine O ?_
   exact au _ (by exact ⟨Z,V⟩) (b ((List.replicate 8 0),F.BZ) _ _ ⟨Z,List.length_replicate,(show F.BZ.length=8 from Z),a⟩ h)
  have h:=aH h e
  refine J (af (P 2 Z ?_))
  refine H (O ?_)
  refine ax Z (fun f=>?_) (fun f=>?_)
  ·have h:=aI h f
   refine af (P 1 Z ?_)
   refine am (i3 (us:=e64.fl F.BY) u160 Z oD (bc (show F.BY.length=8 from Z) Z) Z (n.sha_start512.cells a.fr)) Z ?_
   refine am (aK Z) Z (am (av (k:=9) u168 Z Z fM Z) Z ?_)
   refine bk (eX (m:=8) (xs:=e64.fl (List.replicate 8 0)) (xs':=e64.fl F.BY) (i:=0) Z oD Z Z Z (Up.o (k:=1) Z (Up.o (k:=8) (bc List.length_replicate Z) Up.p Z) Z) (bc List.length_replicate Z) (bc (show F.BY.length=8 from Z) Z) ka a) ?_
   intro w a
   refine H (aR ?_)
   refine O ?_
   exact au _ (by exact ⟨Z,V⟩) (b ((List.replicate 8 0),F.BY) _ _ ⟨Z,List.length_replicate,(show F.BY.length=8 from Z),a⟩ h)
  have h:=aH h f
  refine J (af (P 1 Z ?_))
  refine H (O (aw (bM ?_)))
  refine aE ?_
  cases h
  exact aF Z Z ⟨.pointer none,Z,Z,(fun c hc=>by cases hc),a.e [] Z Z⟩
 rintro ⟨q,s⟩ L w hJ h
 try dsimp only at hJ
 obtain ⟨rfl,o,p,a⟩:=hJ
 unfold F.Fc at h
 refine J (af (P 2 Z ?_))
 refine H (O (aw ?_))
 cases h
 exact aF Z Z ⟨N l 0,Z,⟨_,Z⟩,(fun c hc=>by cases hc; exact ⟨o,p,List.length_replicate⟩),a.e [0] Z Z⟩
theorem m0 {f:World} (a0:Int) {r:Int}
  (h:F.E1 a0=some r) :Calls Tryz.prog 169 #[vI a0] f (Ret fun v w=>v=vI r∧St [] f w []):=by
 refine aJ 9 Tryz.func169 Z Z Z ?_
 have d:=St.l f
 refine au [(0,vI a0)] ⟨Z,V⟩ ?_
 unfold F.E1 at h
 refine J (af (P 1 Z ?_))
 refine H (O (J (J (af (P 1 Z ?_)))))
 refine H (O (aD ?_))
 refine J (af (P 2 Z ?_))
 refine H (O ?_)
 refine ax Z (fun a=>?_) (fun a=>?_)
 ·have h:=aI h a
  refine J (af (P 1 Z ?_))
  refine H (O (aw (bM ?_)))
  refine aE ?_
  cases h
  exact aF Z Z ⟨Z,d⟩
 have h:=aH h a
 refine a9 (r:=r) (fun (g:Bool) L w=>L=[(6,I g)]∧St [] f w []) (F.FV) ?_ ?_
 rotate_left
 ·intro e
  refine J (af (P 2 Z ?_))
  refine H (O ?_)
  refine ax Z (fun b=>?_) (fun b=>?_)
  ·have h:=aI h b
   refine ay (O ?_)
   exact au _ (by exact ⟨Z,V⟩) (e (a0 == 2) _ _ ⟨Z,d⟩ h)
  have h:=aH h b
  refine af (P 2 Z ?_)
  refine H (O ?_)
  exact au _ (by exact ⟨Z,V⟩) (e (a0 == 3) _ _ ⟨Z,d⟩ h)
 rintro i L w hJ h
 try dsimp only at hJ
 obtain ⟨rfl,d⟩:=hJ
 unfold F.FV at h
 refine ax Z (fun c=>?_) (fun c=>?_)
 ·have h:=aI h c
  refine J (af (P 1 Z ?_))
  refine H (O (aw (bM ?_)))
  refine aE ?_
  cases h
  exact aF Z Z ⟨Z,d⟩
 have h:=aH h c
 refine ay (aR ?_)
 refine O (J (af (P 1 Z ?_)))
 refine H (O (aw ?_))
 cases h
 exact aF Z Z ⟨Z,d⟩
theorem k5 {T:World} {j:Nat} {S:List Nat} (l:Int) (p:List UInt32) (f:List UInt64) (g:List UInt8) (n:UInt64) {r:Int×List UInt32×List UInt64×List UInt8×UInt64}
  (h:F.Fl l p f g n=some r) (a:St S T T [X j ([vI l]++(U.fl p++(e64.fl f++(e8.fl g++[v64 n]))))]) (hT:TB S T) (b:p.length=8) (y:f.length=8) (x:g.length=128):Calls Tryz.prog 187 #[N j 0] T (Ret fun v w=>v=.tuple #[]∧r.2.1.length=8∧r.2.2.1.length=8∧r.2.2.2.1.length=128∧St S T w [X j ([vI r.1]++(U.fl r.2.1++(e64.fl r.2.2.1++(e8.fl r.2.2.2.1++[v64 r.2.2.2.2]))))]):=by
 refine aJ 221 Tryz.func187 Z Z Z ?_
 refine au [(0,N j 0)] ⟨Z,V⟩ ?_
 unfold F.Fl at h
 refine J (af ?_)
 refine aT (aY (cs:=U.fl (List.replicate 64 0)) A6 (by kernel_rfl) a) Z ?_
 rintro _ w ⟨D,rfl,a⟩
 refine H (O (J (J (af (P 1 Z ?_)))))
 refine H (O (aD ?_))
 refine au [(0,N j 0),(2,N D 0),(21,vI 0)] ⟨Z,Z,Z,V⟩ ?_
 refine bj (F.Fj g p l f n) (fun (s:Int×List UInt32) L w=>L=[(0,N j 0),(2,N D 0),(21,vI s.1)]∧s.2.length=64∧St S T w [X j ([vI l]++(U.fl p++(e64.fl f++(e8.fl g++[v64 n])))),X D (U.fl s.2)]) ?_ (0,(List.replicate 64 0)) ⟨Z,List.length_replicate,(a.e [1,0] Z Z)⟩ h
 rintro cy ⟨cm,cn⟩ L w cJ hI co h bP
 try dsimp only at hI
 obtain ⟨rfl,a2,a⟩:=hI
 unfold F.Fj at h
 refine J (af (P 1 Z ?_))
 refine H (O (J ?_))
 refine ax Z (fun aP=>?_) (fun aP=>?_)
 ·have h:=aI h aP
  refine ay (O (J (aD ?_)))
  refine J (af (P 2 Z ?_))
  refine H (O (J (af (P 1 Z ?_))))
  refine am (aK Z) Z (am (av (k:=17) u168 Z Z vb Z) Z (P 1 Z ?_))
  refine am (aq Z Z (fF _ 4 cm)) Z ?_
  obtain ⟨cz,z,h⟩:=aj h
  refine am (A4 (e:=e8) u166 sz5 Z Z Z x z) Z (P 1 Z ?_)
  refine H (O ?_)
  refine d6 (fun w'=>St S T w' [X j ([vI l]++(U.fl p++(e64.fl f++(e8.fl g++[v64 n])))),X D (U.fl cn)]) (fun i=>!([24].contains i)) bS (fun _ _ _ A=>A.2) (fun _ _ A=>A) (by kernel_rfl) ?_
  have a:=a.drew
  show lxE _ _ _ _ _ _ _ [0,1,2,3,4,5,6,7,8,9,10,11,12,13,14,15,16,17,18,19,20,21,22,23,24] _ _
  refine al a Z Z (fun w hF=>ar Z) Z (al a Z Z (fun w hF=>ar Z) Z ?_)
  obtain ⟨ac,a7,h⟩:=aj h
  refine al a Z Z (fun w hF=>bm u24 ti5 Z Z ((hF.bxroA 0 Z x (Up.o (k:=1) Z (Up.o (k:=8) (bc b Z) (Up.o (k:=8) (bc y Z) Up.p Z) Z) Z)).g_sll z) a7) Z ?_
  refine al a Z Z (fun w hF=>bb Tryz.underlying5 Z Z ((hF.bxroA 0 Z x (Up.o (k:=1) Z (Up.o (k:=8) (bc b Z) (Up.o (k:=8) (bc y Z) Up.p Z) Z) Z)).g_sll z) a7 Z) Z ?_
  refine al a Z Z (fun w hF=>aM Z (kw Tryz.underlying5 u38 ac)) Z (al a Z Z (fun w hF=>aq Z Z (iZ _ ac.toUInt32 24)) Z (al a Z Z (fun w hF=>ar Z) Z ?_))
  obtain ⟨ad,a9,h⟩:=aj h
  refine al a Z Z (fun w hF=>bm u24 ti5 Z Z ((hF.bxroA 0 Z x (Up.o (k:=1) Z (Up.o (k:=8) (bc b Z) (Up.o (k:=8) (bc y Z) Up.p Z) Z) Z)).g_sll z) a9) Z ?_
  refine al a Z Z (fun w hF=>bb Tryz.underlying5 Z Z ((hF.bxroA 0 Z x (Up.o (k:=1) Z (Up.o (k:=8) (bc b Z) (Up.o (k:=8) (bc y Z) Up.p Z) Z) Z)).g_sll z) a9 Z) Z ?_
  refine al a Z Z (fun w hF=>aM Z (kw Tryz.underlying5 u38 ad)) Z (al a Z Z (fun w hF=>aq Z Z (iZ _ ad.toUInt32 16)) Z (al a Z Z (fun w hF=>aq Z Z (fH _ (ci ac.toUInt32 24) (ci ad.toUInt32 16))) Z (al a Z Z (fun w hF=>ar Z) Z ?_)))
  obtain ⟨az,ba,h⟩:=aj h
  refine al a Z Z (fun w hF=>bm u24 ti5 Z Z ((hF.bxroA 0 Z x (Up.o (k:=1) Z (Up.o (k:=8) (bc b Z) (Up.o (k:=8) (bc y Z) Up.p Z) Z) Z)).g_sll z) ba) Z ?_
  refine al a Z Z (fun w hF=>bb Tryz.underlying5 Z Z ((hF.bxroA 0 Z x (Up.o (k:=1) Z (Up.o (k:=8) (bc b Z) (Up.o (k:=8) (bc y Z) Up.p Z) Z) Z)).g_sll z) ba Z) Z ?_
  refine al a Z Z (fun w hF=>aM Z (kw Tryz.underlying5 u38 az)) Z (al a Z Z (fun w hF=>aq Z Z (iZ _ az.toUInt32 8)) Z (al a Z Z (fun w hF=>aq Z Z (fH _ ((ci ac.toUInt32 24) ||| (ci ad.toUInt32 16)) (ci az.toUInt32 8))) Z (al a Z Z (fun w hF=>ar Z) Z ?_)))
  obtain ⟨a3,be,h⟩:=aj h
  refine al a Z Z (fun w hF=>bm u24 ti5 Z Z ((hF.bxroA 0 Z x (Up.o (k:=1) Z (Up.o (k:=8) (bc b Z) (Up.o (k:=8) (bc y Z) Up.p Z) Z) Z)).g_sll z) be) Z ?_
  refine al a Z Z (fun w hF=>bb Tryz.underlying5 Z Z ((hF.bxroA 0 Z x (Up.o (k:=1) Z (Up.o (k:=8) (bc b Z) (Up.o (k:=8) (bc y Z) Up.p Z) Z) Z)).g_sll z) be Z) Z ?_
  refine al a Z Z (fun w hF=>aM Z (kw Tryz.underlying5 u38 a3)) Z (al a Z Z (fun w hF=>aq Z Z (fH _ (((ci ac.toUInt32 24) ||| (ci ad.toUInt32 16)) ||| (ci az.toUInt32 8)) a3.toUInt32)) Z ?_)
  obtain ⟨cA,bh,h⟩:=aj h
  refine al a Z Z (fun w hF=>bQ u177 em Z Z (bK bh a2)) Z (iU a Z Z (eX (m:=1) Z em Z Z Z (Up.elt (t':=((((ci ac.toUInt32 24) ||| (ci ad.toUInt32 16)) ||| (ci az.toUInt32 8)) ||| a3.toUInt32)) Up.last bh Z Z) Z Z (fV Z) a (i:=1)) ?_)
  intro w a
  obtain ⟨cp,bi,h⟩:=aO h
  rw [bi]at a
  refine bn V ?_
  refine aR ?_
  refine O (af (P 2 Z ?_))
  refine H ?_
  exact bA (bz _ (by exact ⟨Z,Z,Z,V⟩) (co (wI (cm+1),cp) _ _ ⟨Z,(by rw [←bi,List.length_set]; exact a2),a⟩ (a8 h bP)))
 have h:=aH h aP
 refine bd ?_
 refine aG (aG ?_)
 have h:=aW h bP
 refine bf ?_
 refine O (J (J (af (P 1 Z ?_))))
 refine H (O (aD ?_))
 refine au [(0,N j 0),(2,N D 0),(5,vI 16)] ⟨Z,Z,Z,V⟩ ?_
 refine bj (F.Dp p l f g n) (fun (s:Int×List UInt32) L w=>L=[(0,N j 0),(2,N D 0),(5,vI s.1)]∧s.2.length=64∧St S T w [X j ([vI l]++(U.fl p++(e64.fl f++(e8.fl g++[v64 n])))),X D (U.fl s.2)]) ?_ (16,cn) ⟨Z,a2,a⟩ h
 rintro cB ⟨aA,ag⟩ L w cC hI b6 h bk
 try dsimp only at hI
 obtain ⟨rfl,E,a⟩:=hI
 unfold F.Dp at h
 refine J (J (af (P 2 Z ?_)))
 refine H (O ?_)
 refine ax Z (fun aQ=>?_) (fun aQ=>?_)
 ·have h:=aI h aQ
  refine ay (O (J (aD ?_)))
  refine J ?_
  refine aZ (fun w'=>St S T w' [X j ([vI l]++(U.fl p++(e64.fl f++(e8.fl g++[v64 n])))),X D (U.fl ag)]) (fun _=>true) bS (fun _ _ _ A=>A.2) (fun _ _ A=>A) (by kernel_rfl) ?_
  have a:=a.drew
  show lxE _ _ _ _ _ _ _ [0,1,2,3,4,5,6,7,8,9] _ _
  refine al a Z Z (fun w hF=>ar Z) Z (al a Z Z (fun w hF=>aq Z Z (dM _ aA 15)) Z ?_)
  obtain ⟨ab,bl,h⟩:=aj h
  refine al a Z Z (fun w hF=>bQ u177 em Z Z (bK bl E)) Z (al a Z Z (fun w hF=>aC u38 Z Z (hF.s 1 Z (Up.elr Up.last bl Z))) Z (al a Z Z (fun w hF=>ar Z) Z (al a Z Z (fun w hF=>aq Z Z (dM _ aA 2)) Z ?_)))
  obtain ⟨ak,bo,h⟩:=aj h
  refine al a Z Z (fun w hF=>bQ u177 em Z Z (bK bo E)) Z (al a Z Z (fun w hF=>aC u38 Z Z (hF.s 1 Z (Up.elr Up.last bo Z))) Z (al a Z Z (fun w hF=>aB Z) Z (al a Z Z (fun w hF=>aB Z) Z (bn a ?_))))
  refine O ?_
  refine d6 (fun w'=>St S T w' [X j ([vI l]++(U.fl p++(e64.fl f++(e8.fl g++[v64 n])))),X D (U.fl ag)]) (fun i=>!([11,13,20,22,29].contains i)) bS (fun _ _ _ A=>A.2) (fun _ _ A=>A) (by kernel_rfl) ?_
  have a:=a.drew
  show lxE _ _ _ _ _ _ _ [0,1,2,3,4,5,6,7,8,9,10,11,12,13,14,15,16,17,18,19,20,21,22,23,24,25,26,27,28,29] _ _
  refine al a Z Z (fun w hF=>ar Z) Z (al a Z Z (fun w hF=>ar Z) Z (al a Z Z (fun w hF=>aq Z Z (dM _ aA 16)) Z ?_))
  obtain ⟨aS,bp,h⟩:=aj h
  refine al a Z Z (fun w hF=>bQ u177 em Z Z (bK bp E)) Z (al a Z Z (fun w hF=>aC u38 Z Z (hF.s 1 Z (Up.elr Up.last bp Z))) Z (al a Z Z (fun w hF=>ar Z) Z (al a Z Z (fun w hF=>aq Z Z (dM _ aA 7)) Z ?_)))
  obtain ⟨aU,bq,h⟩:=aj h
  refine al a Z Z (fun w hF=>bQ u177 em Z Z (bK bq E)) Z (al a Z Z (fun w hF=>aC u38 Z Z (hF.s 1 Z (Up.elr Up.last bq Z))) Z (al a Z Z (fun w hF=>aq Z Z (eE _ aS aU)) Z (al a Z Z (fun w hF=>ar Z) Z ?_)))
  obtain ⟨aE,b7,h⟩:=aj h
  refine bg a Z Z (by kernel_rfl) Z (bU ab (-7) b7 ) Z ?_
  rintro _ w ⟨rfl,t⟩
  have a:=a.f t
  refine al a Z Z (fun w hF=>ar Z) Z ?_
  obtain ⟨aF,b8,h⟩:=aj h
  refine bg a Z Z (by kernel_rfl) Z (bU ab (-18) b8 ) Z ?_
  rintro _ w ⟨rfl,t⟩
  have a:=a.f t
  refine al a Z Z (fun w hF=>aq Z Z (fg _ aE aF)) Z (al a Z Z (fun w hF=>ar Z) Z (al a Z Z (fun w hF=>aq Z Z (dk _ ab 3)) Z (al a Z Z (fun w hF=>aq Z Z (fg _ (aE ^^^ aF) (bB ab 3))) Z (al a Z Z (fun w hF=>aq Z Z (eE _ (aS+aU) ((aE ^^^ aF) ^^^ (bB ab 3)))) Z (al a Z Z (fun w hF=>ar Z) Z ?_)))))
  obtain ⟨aV,b9,h⟩:=aj h
  refine bg a Z Z (by kernel_rfl) Z (bU ak (-17) b9 ) Z ?_
  rintro _ w ⟨rfl,t⟩
  have a:=a.f t
  refine al a Z Z (fun w hF=>ar Z) Z ?_
  obtain ⟨aX,ca,h⟩:=aj h
  refine bg a Z Z (by kernel_rfl) Z (bU ak (-19) ca ) Z ?_
  rintro _ w ⟨rfl,t⟩
  have a:=a.f t
  refine al a Z Z (fun w hF=>aq Z Z (fg _ aV aX)) Z (al a Z Z (fun w hF=>ar Z) Z (al a Z Z (fun w hF=>aq Z Z (dk _ ak 10)) Z (al a Z Z (fun w hF=>aq Z Z (fg _ (aV ^^^ aX) (bB ak 10))) Z (al a Z Z (fun w hF=>aq Z Z (eE _ ((aS+aU)+((aE ^^^ aF) ^^^ (bB ab 3))) ((aV ^^^ aX) ^^^ (bB ak 10)))) Z ?_))))
  obtain ⟨cD,br,h⟩:=aj h
  refine al a Z Z (fun w hF=>bQ u177 em Z Z (bK br E)) Z (iU a Z Z (eX (m:=1) Z em Z Z Z (Up.elt (t':=(((aS+aU)+((aE ^^^ aF) ^^^ (bB ab 3)))+((aV ^^^ aX) ^^^ (bB ak 10)))) Up.last br Z Z) Z Z (fV Z) a (i:=1)) ?_)
  intro w a
  obtain ⟨cq,bs,h⟩:=aO h
  rw [bs]at a
  refine bn V ?_
  refine aR ?_
  refine O (af (P 3 Z ?_))
  refine H ?_
  exact bA (bz _ (by exact ⟨Z,Z,Z,V⟩) (b6 (wI (aA+1),cq) _ _ ⟨Z,(by rw [←bs,List.length_set]; exact E),a⟩ (a8 h bk)))
 have h:=aH h aQ
 refine bd ?_
 refine aG (aG ?_)
 have h:=aW h bk
 refine bf ?_
 refine O (J ?_)
 refine aZ (fun w'=>St S T w' [X j ([vI l]++(U.fl p++(e64.fl f++(e8.fl g++[v64 n])))),X D (U.fl ag)]) (fun _=>true) bS (fun _ _ _ A=>A.2) (fun _ _ A=>A) (by kernel_rfl) ?_
 have a:=a.drew
 show lxE _ _ _ _ _ _ _ [0,1,2,3,4,5,6,7,8,9,10,11,12,13,14,15,16,17,18,19,20,21,22,23,24,25,26,27,28,29,30,31,32,33,34,35,36,37,38,39,40,41,42,43,44,45,46,47] _ _
 refine al a Z Z (fun w hF=>ar Z) Z (al a Z Z (fun w hF=>aK Z) Z (al a Z Z (fun w hF=>av (k:=1) u168 Z Z f6 Z) Z ?_))
 obtain ⟨bR,bt,h⟩:=aj h
 refine al a Z Z (fun w hF=>bQ u165 em Z Z (bK bt b)) Z (al a Z Z (fun w hF=>aC u38 Z Z (hF.s 0 Z (Up.elr (Up.o (k:=1) Z Up.p Z) bt Z))) Z (al a Z Z (fun w hF=>ar Z) Z (al a Z Z (fun w hF=>aK Z) Z (al a Z Z (fun w hF=>av (k:=1) u168 Z Z f6 Z) Z ?_))))
 obtain ⟨bT,bu,h⟩:=aj h
 refine al a Z Z (fun w hF=>bQ u165 em Z Z (bK bu b)) Z (al a Z Z (fun w hF=>aC u38 Z Z (hF.s 0 Z (Up.elr (Up.o (k:=1) Z Up.p Z) bu Z))) Z (al a Z Z (fun w hF=>ar Z) Z (al a Z Z (fun w hF=>aK Z) Z (al a Z Z (fun w hF=>av (k:=1) u168 Z Z f6 Z) Z ?_))))
 obtain ⟨bV,bv,h⟩:=aj h
 refine al a Z Z (fun w hF=>bQ u165 em Z Z (bK bv b)) Z (al a Z Z (fun w hF=>aC u38 Z Z (hF.s 0 Z (Up.elr (Up.o (k:=1) Z Up.p Z) bv Z))) Z (al a Z Z (fun w hF=>ar Z) Z (al a Z Z (fun w hF=>aK Z) Z (al a Z Z (fun w hF=>av (k:=1) u168 Z Z f6 Z) Z ?_))))
 obtain ⟨bW,bw,h⟩:=aj h
 refine al a Z Z (fun w hF=>bQ u165 em Z Z (bK bw b)) Z (al a Z Z (fun w hF=>aC u38 Z Z (hF.s 0 Z (Up.elr (Up.o (k:=1) Z Up.p Z) bw Z))) Z (al a Z Z (fun w hF=>ar Z) Z (al a Z Z (fun w hF=>aK Z) Z (al a Z Z (fun w hF=>av (k:=1) u168 Z Z f6 Z) Z ?_))))
 obtain ⟨bX,bC,h⟩:=aj h
 refine al a Z Z (fun w hF=>bQ u165 em Z Z (bK bC b)) Z (al a Z Z (fun w hF=>aC u38 Z Z (hF.s 0 Z (Up.elr (Up.o (k:=1) Z Up.p Z) bC Z))) Z (al a Z Z (fun w hF=>ar Z) Z (al a Z Z (fun w hF=>aK Z) Z (al a Z Z (fun w hF=>av (k:=1) u168 Z Z f6 Z) Z ?_))))
 obtain ⟨bZ,bD,h⟩:=aj h
 refine al a Z Z (fun w hF=>bQ u165 em Z Z (bK bD b)) Z (al a Z Z (fun w hF=>aC u38 Z Z (hF.s 0 Z (Up.elr (Up.o (k:=1) Z Up.p Z) bD Z))) Z (al a Z Z (fun w hF=>ar Z) Z (al a Z Z (fun w hF=>aK Z) Z (al a Z Z (fun w hF=>av (k:=1) u168 Z Z f6 Z) Z ?_))))
 obtain ⟨b0,bE,h⟩:=aj h
 refine al a Z Z (fun w hF=>bQ u165 em Z Z (bK bE b)) Z (al a Z Z (fun w hF=>aC u38 Z Z (hF.s 0 Z (Up.elr (Up.o (k:=1) Z Up.p Z) bE Z))) Z (al a Z Z (fun w hF=>ar Z) Z (al a Z Z (fun w hF=>aK Z) Z (al a Z Z (fun w hF=>av (k:=1) u168 Z Z f6 Z) Z ?_))))
 obtain ⟨b1,bF,h⟩:=aj h
 refine al a Z Z (fun w hF=>bQ u165 em Z Z (bK bF b)) Z (al a Z Z (fun w hF=>aC u38 Z Z (hF.s 0 Z (Up.elr (Up.o (k:=1) Z Up.p Z) bF Z))) Z (al a Z Z (fun w hF=>aB Z) Z (al a Z Z (fun w hF=>aB Z) Z (al a Z Z (fun w hF=>aB Z) Z (al a Z Z (fun w hF=>aB Z) Z (al a Z Z (fun w hF=>aB Z) Z (al a Z Z (fun w hF=>aB Z) Z (al a Z Z (fun w hF=>aB Z) Z ?_))))))))
 refine al a Z Z (fun w hF=>aB Z) Z (bn a ?_)
 refine O (J (J (af (P 1 Z ?_))))
 refine H (O (aD ?_))
 refine au [(0,N j 0),(2,N D 0),(8,v32 bR),(9,v32 bT),(10,v32 bV),(11,v32 bW),(12,v32 bX),(13,v32 bZ),(14,v32 b0),(15,v32 b1),(136,vI 0)] ⟨Z,Z,Z,Z,Z,Z,Z,Z,Z,Z,Z,V⟩ ?_
 refine bj (F.Ej p ag l f g n) (fun (s:UInt32×UInt32×UInt32×UInt32×UInt32×UInt32×UInt32×UInt32×Int) L w=>L=[(0,N j 0),(2,N D 0),(8,v32 s.1),(9,v32 s.2.1),(10,v32 s.2.2.1),(11,v32 s.2.2.2.1),(12,v32 s.2.2.2.2.1),(13,v32 s.2.2.2.2.2.1),(14,v32 s.2.2.2.2.2.2.1),(15,v32 s.2.2.2.2.2.2.2.1),(136,vI s.2.2.2.2.2.2.2.2)]∧St S T w [X j ([vI l]++(U.fl p++(e64.fl f++(e8.fl g++[v64 n])))),X D (U.fl ag)]) ?_ (bR,bT,bV,bW,bX,bZ,b0,b1,0) ⟨Z,a⟩ h
 rintro cE ⟨c,q,B,G,o,u,d,C,cr⟩ L w cF hI cb h bG
 try dsimp only at hI
 obtain ⟨rfl,a⟩:=hI
 unfold F.Ej at h
 refine J (af (P 1 Z ?_))
 refine H (O (J ?_))
 refine ax Z (fun a0=>?_) (fun a0=>?_)
 ·have h:=aI h a0
  refine ay (O (J (aD ?_)))
  refine J (af (P 2 Z ?_))
  refine H (O (J ?_))
  refine aZ (fun w'=>St S T w' [X j ([vI l]++(U.fl p++(e64.fl f++(e8.fl g++[v64 n])))),X D (U.fl ag)]) (fun i=>!([2,4,7].contains i)) bS (fun _ _ _ A=>A.2) (fun _ _ A=>A) (by kernel_rfl) ?_
  have a:=a.drew
  show lxE _ _ _ _ _ _ _ [0,1,2,3,4,5,6,7,8,9,10,11,12,13,14,15,16,17,18,19,20,21,22,23,24,25,26] _ _
  refine al a Z Z (fun w hF=>ar Z) Z (al a Z Z (fun w hF=>ar Z) Z ?_)
  obtain ⟨an,cc,h⟩:=aj h
  refine bg a Z Z (by kernel_rfl) Z (bU o (-6) cc ) Z ?_
  rintro _ w ⟨rfl,t⟩
  have a:=a.f t
  refine al a Z Z (fun w hF=>ar Z) Z ?_
  obtain ⟨ap,cd,h⟩:=aj h
  refine bg a Z Z (by kernel_rfl) Z (bU o (-11) cd ) Z ?_
  rintro _ w ⟨rfl,t⟩
  have a:=a.f t
  refine al a Z Z (fun w hF=>aq Z Z (fg _ an ap)) Z (al a Z Z (fun w hF=>ar Z) Z ?_)
  obtain ⟨aL,ce,h⟩:=aj h
  refine bg a Z Z (by kernel_rfl) Z (bU o (-25) ce ) Z ?_
  rintro _ w ⟨rfl,t⟩
  have a:=a.f t
  refine al a Z Z (fun w hF=>aq Z Z (fg _ (an ^^^ ap) aL)) Z (al a Z Z (fun w hF=>aq Z Z (eE _ C ((an ^^^ ap) ^^^ aL))) Z (al a Z Z (fun w hF=>ar Z) Z (al a Z Z (fun w hF=>ar Z) Z (al a Z Z (fun w hF=>ar Z) Z (al a Z Z (fun w hF=>ar Z) Z (al a Z Z (fun w hF=>aq Z Z (fg _ u d)) Z (al a Z Z (fun w hF=>aq Z Z (ja _ o (u ^^^ d))) Z (al a Z Z (fun w hF=>aq Z Z (fg _ d (o &&& (u ^^^ d)))) Z ?_))))))))
  refine al a Z Z (fun w hF=>aq Z Z (eE _ (C+((an ^^^ ap) ^^^ aL)) (d ^^^ (o &&& (u ^^^ d))))) Z (al a Z Z (fun w hF=>ar Z) Z ?_)
  obtain ⟨b2,bH,h⟩:=aj h
  refine al a Z Z (fun w hF=>bQ u177 em Z Z (bK bH (show F.CO.length=64 from Z))) Z (al a Z Z (fun w hF=>aC u38 Z Z (hT.sha_k256.cell hF.fr bH Z)) Z (al a Z Z (fun w hF=>aq Z Z (eE _ ((C+((an ^^^ ap) ^^^ aL))+(d ^^^ (o &&& (u ^^^ d)))) b2)) Z (al a Z Z (fun w hF=>ar Z) Z ?_)))
  obtain ⟨ct,bI,h⟩:=aj h
  refine al a Z Z (fun w hF=>bQ u177 em Z Z (bK bI E)) Z (al a Z Z (fun w hF=>aC u38 Z Z (hF.s 1 Z (Up.elr Up.last bI Z))) Z (al a Z Z (fun w hF=>aq Z Z (eE _ (((C+((an ^^^ ap) ^^^ aL))+(d ^^^ (o &&& (u ^^^ d))))+b2) ct)) Z ?_))
  obtain ⟨aN,cf,h⟩:=aO h
  refine al a Z Z (fun w hF=>aB (v:=v32 aN) (by rw [←cf]; rfl)) Z ?_
  refine bn a ?_
  refine O (J (af (P 1 Z ?_)))
  obtain ⟨a4,cg,h⟩:=aj h
  refine ao Z (bU c (-2) cg ) Z ?_
  rintro _ w ⟨rfl,t⟩
  have a:=a.f t
  refine P 1 Z ?_
  obtain ⟨a5,ch,h⟩:=aj h
  refine ao Z (bU c (-13) ch ) Z ?_
  rintro _ w ⟨rfl,t⟩
  have a:=a.f t
  refine am (aq Z Z (fg _ a4 a5)) Z (P 1 Z ?_)
  obtain ⟨b3,cj,h⟩:=aj h
  refine ao Z (bU c (-22) cj ) Z ?_
  rintro _ w ⟨rfl,t⟩
  have a:=a.f t
  refine am (aq Z Z (fg _ (a4 ^^^ a5) b3)) Z (P 2 Z ?_)
  refine am (aq Z Z (ja _ c q)) Z (P 3 Z ?_)
  refine am (aq Z Z (fH _ c q)) Z (am (aq Z Z (ja _ B (c ||| q))) Z (am (aq Z Z (fH _ (c &&& q) (B &&& (c ||| q)))) Z (am (aq Z Z (eE _ ((a4 ^^^ a5) ^^^ b3) ((c &&& q) ||| (B &&& (c ||| q))))) Z ?_)))
  obtain ⟨a6,ck,h⟩:=aO h
  refine am (aB (v:=v32 a6) (by rw [←ck]; rfl)) Z ?_
  refine H (O (af (P 5 Z ?_)))
  refine am (aq Z Z (eE _ G aN)) Z (P 5 Z ?_)
  refine am (aq Z Z (eE _ aN a6)) Z (P 8 Z ?_)
  refine H (aR ?_)
  refine O (af (P 2 Z ?_))
  refine H ?_
  exact bA (bz _ (by exact ⟨Z,Z,Z,Z,Z,Z,Z,Z,Z,Z,Z,V⟩) (cb (aN+a6,c,q,B,G+aN,o,u,d,wI (cr+1)) _ _ ⟨Z,a⟩ (a8 h bG)))
 have h:=aH h a0
 refine bd ?_
 refine aG (aG ?_)
 have h:=aW h bG
 refine bf ?_
 refine O (J (af (P 8 Z ?_)))
 refine am (bY (vs:=[(0,v32 c,[v32 c]),(1,v32 q,[v32 q]),(2,v32 B,[v32 B]),(3,v32 G,[v32 G]),(4,v32 o,[v32 o]),(5,v32 u,[v32 u]),(6,v32 d,[v32 d]),(7,v32 C,[v32 C])]) (cells:=[v32 c,v32 q,v32 B,v32 G,v32 o,v32 u,v32 d,v32 C]) Z AD ⟨Z,Z,Z,Z,Z,Z,Z,Z,V⟩ (by kernel_rfl)) Z ?_
 refine P 1 Z ?_
 refine H (O (aD ?_))
 refine au [(0,N j 0),(204,.agg #[v32 c,v32 q,v32 B,v32 G,v32 o,v32 u,v32 d,v32 C]),(205,vI 0)] ⟨Z,Z,Z,V⟩ ?_
 refine bj (F.Ew l f g n c q B G o u d C) (fun (s:Int×List UInt32) L w=>L=[(0,N j 0),(204,.agg #[v32 c,v32 q,v32 B,v32 G,v32 o,v32 u,v32 d,v32 C]),(205,vI s.1)]∧s.2.length=8∧St S T w [X j ([vI l]++(U.fl s.2++(e64.fl f++(e8.fl g++[v64 n]))))]) ?_ (0,p) ⟨Z,b,(a.e [0] Z Z)⟩ h
 rintro cG ⟨cu,cv⟩ L w cH hI cl h bJ
 try dsimp only at hI
 obtain ⟨rfl,aw,a⟩:=hI
 unfold F.Ew at h
 refine J (af (P 1 Z ?_))
 refine H (O (J ?_))
 refine ax Z (fun a1=>?_) (fun a1=>?_)
 ·have h:=aI h a1
  refine ay (O (J (aD ?_)))
  refine J (af (P 1 Z ?_))
  obtain ⟨b4,bL,h⟩:=aj h
  refine am (kC (cs:=(U.fl ([c,q,B,G,o,u,d,C]:List UInt32)).toArray) u165 u38 Z em Z Z (bK bL Z) (mh bL Z)) Z ?_
  refine P 2 Z ?_
  refine H (O ?_)
  refine d6 (fun w'=>St S T w' [X j ([vI l]++(U.fl cv++(e64.fl f++(e8.fl g++[v64 n]))))]) (fun i=>!([11].contains i)) bS (fun _ _ _ A=>A.2) (fun _ _ A=>A) (by kernel_rfl) ?_
  have a:=a.drew
  show lxE _ _ _ _ _ _ _ [0,1,2,3,4,5,6,7,8,9,10,11] _ _
  refine al a Z Z (fun w hF=>ar Z) Z (al a Z Z (fun w hF=>ar Z) Z (al a Z Z (fun w hF=>aK Z) Z (al a Z Z (fun w hF=>av (k:=1) u168 Z Z f6 Z) Z ?_)))
  obtain ⟨b5,bM,h⟩:=aj h
  refine al a Z Z (fun w hF=>bQ u165 em Z Z (bK bM aw)) Z (al a Z Z (fun w hF=>aC u38 Z Z (hF.s 0 Z (Up.elr (Up.o (k:=1) Z Up.p Z) bM Z))) Z (al a Z Z (fun w hF=>ar Z) Z (al a Z Z (fun w hF=>aq Z Z (eE _ b5 b4)) Z (al a Z Z (fun w hF=>aK Z) Z (al a Z Z (fun w hF=>av (k:=1) u168 Z Z f6 Z) Z ?_)))))
  obtain ⟨cI,bN,h⟩:=aj h
  refine al a Z Z (fun w hF=>bQ u165 em Z Z (bK bN aw)) Z (iU a Z Z (eX (m:=1) Z em Z Z Z (Up.elt (t':=(b5+b4)) (Up.o (k:=1) Z Up.p Z) bN Z Z) Z Z (fV Z) a (i:=0)) ?_)
  intro w a
  obtain ⟨cw,bO,h⟩:=aO h
  rw [bO]at a
  refine bn V ?_
  refine aR ?_
  refine O (af (P 2 Z ?_))
  refine H ?_
  exact bA (bz _ (by exact ⟨Z,Z,Z,V⟩) (cl (wI (cu+1),cw) _ _ ⟨Z,(by rw [←bO,List.length_set]; exact aw),a⟩ (a8 h bJ)))
 have h:=aH h a1
 refine bd ?_
 refine aG (aG ?_)
 have h:=aW h bJ
 refine bf ?_
 cases h
 exact gq Z ⟨Z,aw,y,x,a.e [0] Z Z⟩
theorem k6 {G:World} {b:Nat} {S:List Nat} (l:Int) (g:List UInt32) (q:List UInt64) (j:List UInt8) (n:UInt64) {r:Int×List UInt32×List UInt64×List UInt8×UInt64}
  (h:F.Fo l g q j n=some r) (a:St S G G [X b ([vI l]++(U.fl g++(e64.fl q++(e8.fl j++[v64 n]))))]) (hT:TB S G) (f:g.length=8) (p:q.length=8) (ab:j.length=128):Calls Tryz.prog 188 #[N b 0] G (Ret fun v w=>v=.tuple #[]∧r.2.1.length=8∧r.2.2.1.length=8∧r.2.2.2.1.length=128∧St S G w [X b ([vI r.1]++(U.fl r.2.1++(e64.fl r.2.2.1++(e8.fl r.2.2.2.1++[v64 r.2.2.2.2]))))]):=by
 refine aJ 216 Tryz.func188 Z Z Z ?_
 refine au [(0,N b 0)] ⟨Z,V⟩ ?_
 unfold F.Fo at h
 refine J (af ?_)
 refine aT (aY (cs:=e64.fl (List.replicate 80 0)) Bb (by kernel_rfl) a) Z ?_
 rintro _ w ⟨y,rfl,a⟩
 refine H (O (J (J (af (P 1 Z ?_)))))
 refine H (O (aD ?_))
 refine au [(0,N b 0),(2,N y 0),(22,vI 0)] ⟨Z,Z,Z,V⟩ ?_
 refine bj (F.FK j q l g n) (fun (s:Int×List UInt64) L w=>L=[(0,N b 0),(2,N y 0),(22,vI s.1)]∧s.2.length=80∧St S G w [X b ([vI l]++(U.fl g++(e64.fl q++(e8.fl j++[v64 n])))),X y (e64.fl s.2)]) ?_ (0,(List.replicate 80 0)) ⟨Z,List.length_replicate,(a.e [1,0] Z Z)⟩ h
 rintro cF ⟨E,cr⟩ L w cR hI ct h bV
 try dsimp only at hI
 obtain ⟨rfl,bW,a⟩:=hI
 unfold F.FK at h
 refine J (af (P 1 Z ?_))
 refine H (O (J ?_))
 refine ax Z (fun aQ=>?_) (fun aQ=>?_)
 ·have h:=aI h aQ
  refine ay (O (J (aD ?_)))
  refine J (af (P 2 Z ?_))
  refine H (O (J (af (P 1 Z ?_))))
  refine am (aK Z) Z (am (av (k:=17) u168 Z Z vb Z) Z (P 1 Z ?_))
  refine am (aq Z Z (fF _ 8 E)) Z (P 1 Z ?_)
  refine am (aq Z Z (fF _ 8 E)) Z (P 1 Z ?_)
  obtain ⟨a4,an,h⟩:=aj h
  refine am (AI (e:=e8) u166 sz5 Z Z Z Z ab an) Z (am (aN u24 Z ((a.bxroA 0 Z ab (Up.o (k:=1) Z (Up.o (k:=8) (bc f Z) (Up.o (k:=8) (bc p Z) Up.p Z) Z) Z)).g_sl an)) Z ?_)
  refine P 1 Z ?_
  refine H (O (aD ?_))
  refine au [(0,N b 0),(2,N y 0),(3,vI E),(22,vI E),(33,slV (.slice (some ⟨b,17,none⟩) 128 128) e8.sz ((wI (8*E):Int).toNat) ((wI ((wI (8*E))+8):Int).toNat)),(34,vI (a4.length:Int)),(35,vI 0)] ⟨Z,Z,Z,Z,Z,Z,Z,V⟩ ?_
  refine bj (F.Em E a4) (fun (s:Int×List UInt64) L w=>L=[(0,N b 0),(2,N y 0),(3,vI E),(22,vI E),(33,slV (.slice (some ⟨b,17,none⟩) 128 128) e8.sz ((wI (8*E):Int).toNat) ((wI ((wI (8*E))+8):Int).toNat)),(34,vI (a4.length:Int)),(35,vI s.1)]∧s.2.length=80∧St S G w [X b ([vI l]++(U.fl g++(e64.fl q++(e8.fl j++[v64 n])))),X y (e64.fl s.2)]) ?_ (0,cr) ⟨Z,bW,a⟩ h
  rintro cG ⟨cu,cw⟩ L w cH hI ca h be
  try dsimp only at hI
  obtain ⟨rfl,ap,a⟩:=hI
  unfold F.Em at h
  refine J (af (P 1 Z ?_))
  refine H (O (J ?_))
  refine ax Z (fun aS=>?_) (fun aS=>?_)
  ·have h:=aI h aS
   refine ay (O (J (aD ?_)))
   refine J (af ?_)
   obtain ⟨a5,bh,h⟩:=aj h
   refine am (bm u24 ti5 Z Z ((a.bxroA 0 Z ab (Up.o (k:=1) Z (Up.o (k:=8) (bc f Z) (Up.o (k:=8) (bc p Z) Up.p Z) Z) Z)).g_sl an) bh) Z ?_
   refine am (bb Tryz.underlying5 Z Z ((a.bxroA 0 Z ab (Up.o (k:=1) Z (Up.o (k:=8) (bc f Z) (Up.o (k:=8) (bc p Z) Up.p Z) Z) Z)).g_sl an) bh Z) Z ?_
   refine P 1 Z ?_
   refine H (O (af (P 2 Z ?_)))
   obtain ⟨a6,bi,h⟩:=aj h
   refine am (bQ u179 dP Z Z (bK bi ap)) Z (am (aC u87 Z Z (a.s 1 Z (Up.elr Up.last bi Z))) Z (am (aq Z Z (c9 _ a6 8)) Z (P 1 Z ?_)))
   refine am (aM Z (tA Tryz.underlying5 u87 a5)) Z (am (aq Z Z (fa _ (bo a6 8) a5.toUInt64)) Z ?_)
   obtain ⟨cI,bl,h⟩:=aj h
   refine am (bQ u179 dP Z Z (bK bl ap)) Z (bk (eX (m:=1) Z dP Z Z Z (Up.elt (t':=((bo a6 8) ||| a5.toUInt64)) Up.last bl Z Z) Z Z (fV Z) a (i:=1)) ?_)
   intro w a
   obtain ⟨cx,bp,h⟩:=aO h
   rw [bp]at a
   refine H (aR ?_)
   refine O (af (P 2 Z ?_))
   refine H ?_
   exact bA (bz _ (by exact ⟨Z,Z,Z,Z,Z,Z,Z,V⟩) (ca (wI (cu+1),cx) _ _ ⟨Z,(by rw [←bp,List.length_set]; exact ap),a⟩ (a8 h be)))
  have h:=aH h aS
  refine bd ?_
  refine aG (aG ?_)
  have h:=aW h be
  refine bf ?_
  refine aR ?_
  refine O (af (P 2 Z ?_))
  refine H ?_
  exact bA (bz _ (by exact ⟨Z,Z,Z,V⟩) (ct (wI (E+1),cw) _ _ ⟨Z,ap,a⟩ (a8 h bV)))
 have h:=aH h aQ
 refine bd ?_
 refine aG (aG ?_)
 have h:=aW h bV
 refine bf ?_
 refine O (J (J (af (P 1 Z ?_))))
 refine H (O (aD ?_))
 refine au [(0,N b 0),(2,N y 0),(6,vI 16)] ⟨Z,Z,Z,V⟩ ?_
 refine bj (F.Ds q l g j n) (fun (s:Int×List UInt64) L w=>L=[(0,N b 0),(2,N y 0),(6,vI s.1)]∧s.2.length=80∧St S G w [X b ([vI l]++(U.fl g++(e64.fl q++(e8.fl j++[v64 n])))),X y (e64.fl s.2)]) ?_ (16,cr) ⟨Z,bW,a⟩ h
 rintro cJ ⟨az,ac⟩ L w cK hI cb h bq
 try dsimp only at hI
 obtain ⟨rfl,B,a⟩:=hI
 unfold F.Ds at h
 refine J (J (af (P 2 Z ?_)))
 refine H (O ?_)
 refine ax Z (fun aU=>?_) (fun aU=>?_)
 ·have h:=aI h aU
  refine ay (O (J (aD ?_)))
  refine J ?_
  refine aZ (fun w'=>St S G w' [X b ([vI l]++(U.fl g++(e64.fl q++(e8.fl j++[v64 n])))),X y (e64.fl ac)]) (fun _=>true) bS (fun _ _ _ C=>C.2) (fun _ _ C=>C) (by kernel_rfl) ?_
  have a:=a.drew
  show lxE _ _ _ _ _ _ _ [0,1,2,3,4,5,6,7,8,9] _ _
  refine al a Z Z (fun w hF=>ar Z) Z (al a Z Z (fun w hF=>aq Z Z (dM _ az 15)) Z ?_)
  obtain ⟨T,br,h⟩:=aj h
  refine al a Z Z (fun w hF=>bQ u179 dP Z Z (bK br B)) Z (al a Z Z (fun w hF=>aC u87 Z Z (hF.s 1 Z (Up.elr Up.last br Z))) Z (al a Z Z (fun w hF=>ar Z) Z (al a Z Z (fun w hF=>aq Z Z (dM _ az 2)) Z ?_)))
  obtain ⟨ad,bs,h⟩:=aj h
  refine al a Z Z (fun w hF=>bQ u179 dP Z Z (bK bs B)) Z (al a Z Z (fun w hF=>aC u87 Z Z (hF.s 1 Z (Up.elr Up.last bs Z))) Z (al a Z Z (fun w hF=>aB Z) Z (al a Z Z (fun w hF=>aB Z) Z (bn a ?_))))
  refine O ?_
  refine d6 (fun w'=>St S G w' [X b ([vI l]++(U.fl g++(e64.fl q++(e8.fl j++[v64 n])))),X y (e64.fl ac)]) (fun i=>!([11,13,20,22,29].contains i)) bS (fun _ _ _ C=>C.2) (fun _ _ C=>C) (by kernel_rfl) ?_
  have a:=a.drew
  show lxE _ _ _ _ _ _ _ [0,1,2,3,4,5,6,7,8,9,10,11,12,13,14,15,16,17,18,19,20,21,22,23,24,25,26,27,28,29] _ _
  refine al a Z Z (fun w hF=>ar Z) Z (al a Z Z (fun w hF=>ar Z) Z (al a Z Z (fun w hF=>aq Z Z (dM _ az 16)) Z ?_))
  obtain ⟨aV,bt,h⟩:=aj h
  refine al a Z Z (fun w hF=>bQ u179 dP Z Z (bK bt B)) Z (al a Z Z (fun w hF=>aC u87 Z Z (hF.s 1 Z (Up.elr Up.last bt Z))) Z (al a Z Z (fun w hF=>ar Z) Z (al a Z Z (fun w hF=>aq Z Z (dM _ az 7)) Z ?_)))
  obtain ⟨aX,bu,h⟩:=aj h
  refine al a Z Z (fun w hF=>bQ u179 dP Z Z (bK bu B)) Z (al a Z Z (fun w hF=>aC u87 Z Z (hF.s 1 Z (Up.elr Up.last bu Z))) Z (al a Z Z (fun w hF=>aq Z Z (cv _ aV aX)) Z (al a Z Z (fun w hF=>ar Z) Z ?_)))
  obtain ⟨aA,cc,h⟩:=aj h
  refine bg a Z Z (by kernel_rfl) Z (bR T (-1) cc ) Z ?_
  rintro _ w ⟨rfl,u⟩
  have a:=a.f u
  refine al a Z Z (fun w hF=>ar Z) Z ?_
  obtain ⟨aE,cd,h⟩:=aj h
  refine bg a Z Z (by kernel_rfl) Z (bR T (-8) cd ) Z ?_
  rintro _ w ⟨rfl,u⟩
  have a:=a.f u
  refine al a Z Z (fun w hF=>aq Z Z (eZ _ aA aE)) Z (al a Z Z (fun w hF=>ar Z) Z (al a Z Z (fun w hF=>aq Z Z (cp _ T 7)) Z (al a Z Z (fun w hF=>aq Z Z (eZ _ (aA ^^^ aE) (aP T 7))) Z (al a Z Z (fun w hF=>aq Z Z (cv _ (aV+aX) ((aA ^^^ aE) ^^^ (aP T 7)))) Z (al a Z Z (fun w hF=>ar Z) Z ?_)))))
  obtain ⟨a0,ce,h⟩:=aj h
  refine bg a Z Z (by kernel_rfl) Z (bR ad (-19) ce ) Z ?_
  rintro _ w ⟨rfl,u⟩
  have a:=a.f u
  refine al a Z Z (fun w hF=>ar Z) Z ?_
  obtain ⟨a1,cf,h⟩:=aj h
  refine bg a Z Z (by kernel_rfl) Z (bR ad (-61) cf ) Z ?_
  rintro _ w ⟨rfl,u⟩
  have a:=a.f u
  refine al a Z Z (fun w hF=>aq Z Z (eZ _ a0 a1)) Z (al a Z Z (fun w hF=>ar Z) Z (al a Z Z (fun w hF=>aq Z Z (cp _ ad 6)) Z (al a Z Z (fun w hF=>aq Z Z (eZ _ (a0 ^^^ a1) (aP ad 6))) Z (al a Z Z (fun w hF=>aq Z Z (cv _ ((aV+aX)+((aA ^^^ aE) ^^^ (aP T 7))) ((a0 ^^^ a1) ^^^ (aP ad 6)))) Z ?_))))
  obtain ⟨cL,bv,h⟩:=aj h
  refine al a Z Z (fun w hF=>bQ u179 dP Z Z (bK bv B)) Z (iU a Z Z (eX (m:=1) Z dP Z Z Z (Up.elt (t':=(((aV+aX)+((aA ^^^ aE) ^^^ (aP T 7)))+((a0 ^^^ a1) ^^^ (aP ad 6)))) Up.last bv Z Z) Z Z (fV Z) a (i:=1)) ?_)
  intro w a
  obtain ⟨cy,bw,h⟩:=aO h
  rw [bw]at a
  refine bn V ?_
  refine aR ?_
  refine O (af (P 3 Z ?_))
  refine H ?_
  exact bA (bz _ (by exact ⟨Z,Z,Z,V⟩) (cb (wI (az+1),cy) _ _ ⟨Z,(by rw [←bw,List.length_set]; exact B),a⟩ (a8 h bq)))
 have h:=aH h aU
 refine bd ?_
 refine aG (aG ?_)
 have h:=aW h bq
 refine bf ?_
 refine O (J ?_)
 refine aZ (fun w'=>St S G w' [X b ([vI l]++(U.fl g++(e64.fl q++(e8.fl j++[v64 n])))),X y (e64.fl ac)]) (fun _=>true) bS (fun _ _ _ C=>C.2) (fun _ _ C=>C) (by kernel_rfl) ?_
 have a:=a.drew
 show lxE _ _ _ _ _ _ _ [0,1,2,3,4,5,6,7,8,9,10,11,12,13,14,15,16,17,18,19,20,21,22,23,24,25,26,27,28,29,30,31,32,33,34,35,36,37,38,39,40,41,42,43,44,45,46,47] _ _
 refine al a Z Z (fun w hF=>ar Z) Z (al a Z Z (fun w hF=>aK Z) Z (al a Z Z (fun w hF=>av (k:=9) u168 Z Z fM Z) Z ?_))
 obtain ⟨bX,bB,h⟩:=aj h
 refine al a Z Z (fun w hF=>bQ u160 dP Z Z (bK bB p)) Z (al a Z Z (fun w hF=>aC u87 Z Z (hF.s 0 Z (Up.elr (Up.o (k:=1) Z (Up.o (k:=8) (bc f Z) Up.p Z) Z) bB Z))) Z ?_)
 refine al a Z Z (fun w hF=>ar Z) Z (al a Z Z (fun w hF=>aK Z) Z (al a Z Z (fun w hF=>av (k:=9) u168 Z Z fM Z) Z ?_))
 obtain ⟨bZ,bC,h⟩:=aj h
 refine al a Z Z (fun w hF=>bQ u160 dP Z Z (bK bC p)) Z (al a Z Z (fun w hF=>aC u87 Z Z (hF.s 0 Z (Up.elr (Up.o (k:=1) Z (Up.o (k:=8) (bc f Z) Up.p Z) Z) bC Z))) Z ?_)
 refine al a Z Z (fun w hF=>ar Z) Z (al a Z Z (fun w hF=>aK Z) Z (al a Z Z (fun w hF=>av (k:=9) u168 Z Z fM Z) Z ?_))
 obtain ⟨b0,bD,h⟩:=aj h
 refine al a Z Z (fun w hF=>bQ u160 dP Z Z (bK bD p)) Z (al a Z Z (fun w hF=>aC u87 Z Z (hF.s 0 Z (Up.elr (Up.o (k:=1) Z (Up.o (k:=8) (bc f Z) Up.p Z) Z) bD Z))) Z ?_)
 refine al a Z Z (fun w hF=>ar Z) Z (al a Z Z (fun w hF=>aK Z) Z (al a Z Z (fun w hF=>av (k:=9) u168 Z Z fM Z) Z ?_))
 obtain ⟨b1,bE,h⟩:=aj h
 refine al a Z Z (fun w hF=>bQ u160 dP Z Z (bK bE p)) Z (al a Z Z (fun w hF=>aC u87 Z Z (hF.s 0 Z (Up.elr (Up.o (k:=1) Z (Up.o (k:=8) (bc f Z) Up.p Z) Z) bE Z))) Z ?_)
 refine al a Z Z (fun w hF=>ar Z) Z (al a Z Z (fun w hF=>aK Z) Z (al a Z Z (fun w hF=>av (k:=9) u168 Z Z fM Z) Z ?_))
 obtain ⟨b2,bF,h⟩:=aj h
 refine al a Z Z (fun w hF=>bQ u160 dP Z Z (bK bF p)) Z (al a Z Z (fun w hF=>aC u87 Z Z (hF.s 0 Z (Up.elr (Up.o (k:=1) Z (Up.o (k:=8) (bc f Z) Up.p Z) Z) bF Z))) Z ?_)
 refine al a Z Z (fun w hF=>ar Z) Z (al a Z Z (fun w hF=>aK Z) Z (al a Z Z (fun w hF=>av (k:=9) u168 Z Z fM Z) Z ?_))
 obtain ⟨b3,bG,h⟩:=aj h
 refine al a Z Z (fun w hF=>bQ u160 dP Z Z (bK bG p)) Z (al a Z Z (fun w hF=>aC u87 Z Z (hF.s 0 Z (Up.elr (Up.o (k:=1) Z (Up.o (k:=8) (bc f Z) Up.p Z) Z) bG Z))) Z ?_)
 refine al a Z Z (fun w hF=>ar Z) Z (al a Z Z (fun w hF=>aK Z) Z (al a Z Z (fun w hF=>av (k:=9) u168 Z Z fM Z) Z ?_))
 obtain ⟨b4,bH,h⟩:=aj h
 refine al a Z Z (fun w hF=>bQ u160 dP Z Z (bK bH p)) Z (al a Z Z (fun w hF=>aC u87 Z Z (hF.s 0 Z (Up.elr (Up.o (k:=1) Z (Up.o (k:=8) (bc f Z) Up.p Z) Z) bH Z))) Z ?_)
 refine al a Z Z (fun w hF=>ar Z) Z (al a Z Z (fun w hF=>aK Z) Z (al a Z Z (fun w hF=>av (k:=9) u168 Z Z fM Z) Z ?_))
 obtain ⟨b5,bI,h⟩:=aj h
 refine al a Z Z (fun w hF=>bQ u160 dP Z Z (bK bI p)) Z (al a Z Z (fun w hF=>aC u87 Z Z (hF.s 0 Z (Up.elr (Up.o (k:=1) Z (Up.o (k:=8) (bc f Z) Up.p Z) Z) bI Z))) Z ?_)
 refine al a Z Z (fun w hF=>aB Z) Z (al a Z Z (fun w hF=>aB Z) Z (al a Z Z (fun w hF=>aB Z) Z (al a Z Z (fun w hF=>aB Z) Z (al a Z Z (fun w hF=>aB Z) Z (al a Z Z (fun w hF=>aB Z) Z (al a Z Z (fun w hF=>aB Z) Z (al a Z Z (fun w hF=>aB Z) Z (bn a ?_))))))))
 refine O (J (J (af (P 1 Z ?_))))
 refine H (O (aD ?_))
 refine au [(0,N b 0),(2,N y 0),(9,v64 bX),(10,v64 bZ),(11,v64 b0),(12,v64 b1),(13,v64 b2),(14,v64 b3),(15,v64 b4),(16,v64 b5),(131,vI 0)] ⟨Z,Z,Z,Z,Z,Z,Z,Z,Z,Z,Z,V⟩ ?_
 refine bj (F.EA q ac l g j n) (fun (s:UInt64×UInt64×UInt64×UInt64×UInt64×UInt64×UInt64×UInt64×Int) L w=>L=[(0,N b 0),(2,N y 0),(9,v64 s.1),(10,v64 s.2.1),(11,v64 s.2.2.1),(12,v64 s.2.2.2.1),(13,v64 s.2.2.2.2.1),(14,v64 s.2.2.2.2.2.1),(15,v64 s.2.2.2.2.2.2.1),(16,v64 s.2.2.2.2.2.2.2.1),(131,vI s.2.2.2.2.2.2.2.2)]∧St S G w [X b ([vI l]++(U.fl g++(e64.fl q++(e8.fl j++[v64 n])))),X y (e64.fl ac)]) ?_ (bX,bZ,b0,b1,b2,b3,b4,b5,0) ⟨Z,a⟩ h
 rintro cM ⟨c,t,z,D,o,x,d,A,cz⟩ L w cN hI cg h bJ
 try dsimp only at hI
 obtain ⟨rfl,a⟩:=hI
 unfold F.EA at h
 refine J (af (P 1 Z ?_))
 refine H (O (J ?_))
 refine ax Z (fun a2=>?_) (fun a2=>?_)
 ·have h:=aI h a2
  refine ay (O (J (aD ?_)))
  refine J (af (P 2 Z ?_))
  refine H (O (J ?_))
  refine aZ (fun w'=>St S G w' [X b ([vI l]++(U.fl g++(e64.fl q++(e8.fl j++[v64 n])))),X y (e64.fl ac)]) (fun i=>!([2,4,7].contains i)) bS (fun _ _ _ C=>C.2) (fun _ _ C=>C) (by kernel_rfl) ?_
  have a:=a.drew
  show lxE _ _ _ _ _ _ _ [0,1,2,3,4,5,6,7,8,9,10,11,12,13,14,15,16,17,18,19,20,21,22,23,24,25,26] _ _
  refine al a Z Z (fun w hF=>ar Z) Z (al a Z Z (fun w hF=>ar Z) Z ?_)
  obtain ⟨ag,ch,h⟩:=aj h
  refine bg a Z Z (by kernel_rfl) Z (bR o (-14) ch ) Z ?_
  rintro _ w ⟨rfl,u⟩
  have a:=a.f u
  refine al a Z Z (fun w hF=>ar Z) Z ?_
  obtain ⟨ak,ci,h⟩:=aj h
  refine bg a Z Z (by kernel_rfl) Z (bR o (-18) ci ) Z ?_
  rintro _ w ⟨rfl,u⟩
  have a:=a.f u
  refine al a Z Z (fun w hF=>aq Z Z (eZ _ ag ak)) Z (al a Z Z (fun w hF=>ar Z) Z ?_)
  obtain ⟨aF,cj,h⟩:=aj h
  refine bg a Z Z (by kernel_rfl) Z (bR o (-41) cj ) Z ?_
  rintro _ w ⟨rfl,u⟩
  have a:=a.f u
  refine al a Z Z (fun w hF=>aq Z Z (eZ _ (ag ^^^ ak) aF)) Z (al a Z Z (fun w hF=>aq Z Z (cv _ A ((ag ^^^ ak) ^^^ aF))) Z (al a Z Z (fun w hF=>ar Z) Z (al a Z Z (fun w hF=>ar Z) Z (al a Z Z (fun w hF=>ar Z) Z (al a Z Z (fun w hF=>ar Z) Z (al a Z Z (fun w hF=>aq Z Z (eZ _ x d)) Z (al a Z Z (fun w hF=>aq Z Z (i4 _ o (x ^^^ d))) Z (al a Z Z (fun w hF=>aq Z Z (eZ _ d (o &&& (x ^^^ d)))) Z ?_))))))))
  refine al a Z Z (fun w hF=>aq Z Z (cv _ (A+((ag ^^^ ak) ^^^ aF)) (d ^^^ (o &&& (x ^^^ d))))) Z (al a Z Z (fun w hF=>ar Z) Z ?_)
  obtain ⟨b6,bL,h⟩:=aj h
  refine al a Z Z (fun w hF=>bQ u179 dP Z Z (bK bL (show F.CU.length=80 from Z))) Z (al a Z Z (fun w hF=>aC u87 Z Z (hT.sha_k512.cell hF.fr bL Z)) Z (al a Z Z (fun w hF=>aq Z Z (cv _ ((A+((ag ^^^ ak) ^^^ aF))+(d ^^^ (o &&& (x ^^^ d)))) b6)) Z (al a Z Z (fun w hF=>ar Z) Z ?_)))
  obtain ⟨cA,bM,h⟩:=aj h
  refine al a Z Z (fun w hF=>bQ u179 dP Z Z (bK bM B)) Z (al a Z Z (fun w hF=>aC u87 Z Z (hF.s 1 Z (Up.elr Up.last bM Z))) Z (al a Z Z (fun w hF=>aq Z Z (cv _ (((A+((ag ^^^ ak) ^^^ aF))+(d ^^^ (o &&& (x ^^^ d))))+b6) cA)) Z ?_))
  obtain ⟨aL,ck,h⟩:=aO h
  refine al a Z Z (fun w hF=>aB (v:=v64 aL) (by rw [←ck]; rfl)) Z ?_
  refine bn a ?_
  refine O (J (af (P 1 Z ?_)))
  obtain ⟨a7,cl,h⟩:=aj h
  refine ao Z (bR c (-28) cl ) Z ?_
  rintro _ w ⟨rfl,u⟩
  have a:=a.f u
  refine P 1 Z ?_
  obtain ⟨a9,cm,h⟩:=aj h
  refine ao Z (bR c (-34) cm ) Z ?_
  rintro _ w ⟨rfl,u⟩
  have a:=a.f u
  refine am (aq Z Z (eZ _ a7 a9)) Z (P 1 Z ?_)
  obtain ⟨b7,cn,h⟩:=aj h
  refine ao Z (bR c (-39) cn ) Z ?_
  rintro _ w ⟨rfl,u⟩
  have a:=a.f u
  refine am (aq Z Z (eZ _ (a7 ^^^ a9) b7)) Z (P 2 Z ?_)
  refine am (aq Z Z (i4 _ c t)) Z (P 3 Z ?_)
  refine am (aq Z Z (fa _ c t)) Z (am (aq Z Z (i4 _ z (c ||| t))) Z (am (aq Z Z (fa _ (c &&& t) (z &&& (c ||| t)))) Z (am (aq Z Z (cv _ ((a7 ^^^ a9) ^^^ b7) ((c &&& t) ||| (z &&& (c ||| t))))) Z ?_)))
  obtain ⟨ba,co,h⟩:=aO h
  refine am (aB (v:=v64 ba) (by rw [←co]; rfl)) Z ?_
  refine H (O (af (P 5 Z ?_)))
  refine am (aq Z Z (cv _ D aL)) Z (P 5 Z ?_)
  refine am (aq Z Z (cv _ aL ba)) Z (P 8 Z ?_)
  refine H (aR ?_)
  refine O (af (P 2 Z ?_))
  refine H ?_
  exact bA (bz _ (by exact ⟨Z,Z,Z,Z,Z,Z,Z,Z,Z,Z,Z,V⟩) (cg (aL+ba,c,t,z,D+aL,o,x,d,wI (cz+1)) _ _ ⟨Z,a⟩ (a8 h bJ)))
 have h:=aH h a2
 refine bd ?_
 refine aG (aG ?_)
 have h:=aW h bJ
 refine bf ?_
 refine O (J (af (P 8 Z ?_)))
 refine am (bY (vs:=[(0,v64 c,[v64 c]),(1,v64 t,[v64 t]),(2,v64 z,[v64 z]),(3,v64 D,[v64 D]),(4,v64 o,[v64 o]),(5,v64 x,[v64 x]),(6,v64 d,[v64 d]),(7,v64 A,[v64 A])]) (cells:=[v64 c,v64 t,v64 z,v64 D,v64 o,v64 x,v64 d,v64 A]) Z Av ⟨Z,Z,Z,Z,Z,Z,Z,Z,V⟩ (by kernel_rfl)) Z ?_
 refine P 1 Z ?_
 refine H (O (aD ?_))
 refine au [(0,N b 0),(199,.agg #[v64 c,v64 t,v64 z,v64 D,v64 o,v64 x,v64 d,v64 A]),(200,vI 0)] ⟨Z,Z,Z,V⟩ ?_
 refine bj (F.EM l g j n c t z D o x d A) (fun (s:Int×List UInt64) L w=>L=[(0,N b 0),(199,.agg #[v64 c,v64 t,v64 z,v64 D,v64 o,v64 x,v64 d,v64 A]),(200,vI s.1)]∧s.2.length=8∧St S G w [X b ([vI l]++(U.fl g++(e64.fl s.2++(e8.fl j++[v64 n]))))]) ?_ (0,q) ⟨Z,p,(a.e [0] Z Z)⟩ h
 rintro cO ⟨cB,cC⟩ L w cP hI cq h bN
 try dsimp only at hI
 obtain ⟨rfl,aw,a⟩:=hI
 unfold F.EM at h
 refine J (af (P 1 Z ?_))
 refine H (O (J ?_))
 refine ax Z (fun a3=>?_) (fun a3=>?_)
 ·have h:=aI h a3
  refine ay (O (J (aD ?_)))
  refine J (af (P 1 Z ?_))
  obtain ⟨b8,bO,h⟩:=aj h
  refine am (kC (cs:=(e64.fl ([c,t,z,D,o,x,d,A]:List UInt64)).toArray) u160 u87 Z dP Z Z (bK bO Z) (mh bO Z)) Z ?_
  refine P 2 Z ?_
  refine H (O ?_)
  refine d6 (fun w'=>St S G w' [X b ([vI l]++(U.fl g++(e64.fl cC++(e8.fl j++[v64 n]))))]) (fun i=>!([11].contains i)) bS (fun _ _ _ C=>C.2) (fun _ _ C=>C) (by kernel_rfl) ?_
  have a:=a.drew
  show lxE _ _ _ _ _ _ _ [0,1,2,3,4,5,6,7,8,9,10,11] _ _
  refine al a Z Z (fun w hF=>ar Z) Z (al a Z Z (fun w hF=>ar Z) Z (al a Z Z (fun w hF=>aK Z) Z (al a Z Z (fun w hF=>av (k:=9) u168 Z Z fM Z) Z ?_)))
  obtain ⟨b9,bP,h⟩:=aj h
  refine al a Z Z (fun w hF=>bQ u160 dP Z Z (bK bP aw)) Z (al a Z Z (fun w hF=>aC u87 Z Z (hF.s 0 Z (Up.elr (Up.o (k:=1) Z (Up.o (k:=8) (bc f Z) Up.p Z) Z) bP Z))) Z ?_)
  refine al a Z Z (fun w hF=>ar Z) Z (al a Z Z (fun w hF=>aq Z Z (cv _ b9 b8)) Z (al a Z Z (fun w hF=>aK Z) Z (al a Z Z (fun w hF=>av (k:=9) u168 Z Z fM Z) Z ?_)))
  obtain ⟨cQ,bT,h⟩:=aj h
  refine al a Z Z (fun w hF=>bQ u160 dP Z Z (bK bT aw)) Z (iU a Z Z (eX (m:=1) Z dP Z Z Z (Up.elt (t':=(b9+b8)) (Up.o (k:=1) Z (Up.o (k:=8) (bc f Z) Up.p Z) Z) bT Z Z) Z Z (fV Z) a (i:=0)) ?_)
  intro w a
  obtain ⟨cD,bU,h⟩:=aO h
  rw [bU]at a
  refine bn V ?_
  refine aR ?_
  refine O (af (P 2 Z ?_))
  refine H ?_
  exact bA (bz _ (by exact ⟨Z,Z,Z,V⟩) (cq (wI (cB+1),cD) _ _ ⟨Z,(by rw [←bU,List.length_set]; exact aw),a⟩ (a8 h bN)))
 have h:=aH h a3
 refine bd ?_
 refine aG (aG ?_)
 have h:=aW h bN
 refine bf ?_
 cases h
 exact gq Z ⟨Z,f,aw,ab,a.e [0] Z Z⟩
theorem mN {o:World} {f:Nat} {S:List Nat} (d:Int) (a:List UInt32) (b:List UInt64) (c:List UInt8) (e:UInt64) {r:Int×List UInt32×List UInt64×List UInt8×UInt64}
  (h:F.Ex d a b c e=some r) (i:St S o o [X f ([vI d]++(U.fl a++(e64.fl b++(e8.fl c++[v64 e]))))]) (B:TB S o) (l:a.length=8) (m:b.length=8) (n:c.length=128):Calls Tryz.prog 170 #[N f 0] o (Ret fun v w=>v=.tuple #[]∧r.2.1.length=8∧r.2.2.1.length=8∧r.2.2.2.1.length=128∧St S o w [X f ([vI r.1]++(U.fl r.2.1++(e64.fl r.2.2.1++(e8.fl r.2.2.2.1++[v64 r.2.2.2.2]))))]):=by
 refine aJ 11 Tryz.func170 Z Z Z ?_
 refine au [(0,N f 0)] ⟨Z,V⟩ ?_
 unfold F.Ex at h
 refine J (af (P 1 Z ?_))
 refine am (aK Z) Z (am (av (k:=0) u168 Z Z pf Z) Z (am (aC u22 Z Z (i.s 0 Z (Up.get0 Up.p))) Z (P 1 Z ?_)))
 refine H (O ?_)
 refine ax Z (fun g=>?_) (fun g=>?_)
 ·have h:=aI h g
  refine af (P 1 Z ?_)
  have j:=i.pick (os':=[X f ([vI d]++(U.fl a++(e64.fl b++(e8.fl c++[v64 e]))))]++[]) [0] (by decide) Z
  obtain ⟨C,q,h⟩:=aj h
  refine ao Z (k5 d a b c e q j.g (B.g j) l m n) Z ?_
  rintro _ w ⟨rfl,s,t,u,p⟩
  have i:=j.h p
  refine H ?_
  cases h
  exact gq Z ⟨Z,s,t,u,i.e [0] Z Z⟩
 have h:=aH h g
 refine af (P 1 Z ?_)
 have j:=i.pick (os':=[X f ([vI d]++(U.fl a++(e64.fl b++(e8.fl c++[v64 e]))))]++[]) [0] (by decide) Z
 obtain ⟨D,x,h⟩:=aj h
 refine ao Z (k6 d a b c e x j.g (B.g j) l m n) Z ?_
 rintro _ w ⟨rfl,y,z,A,p⟩
 have i:=j.h p
 refine H ?_
 cases h
 exact gq Z ⟨Z,y,z,A,i.e [0] Z Z⟩
theorem iS {D:World} {a1:List UInt8} {E:Value} {n:Nat} {S:List Nat} (t:Int) (u:List UInt32) (x:List UInt64) (y:List UInt8) (T:UInt64) {r:Int×List UInt32×List UInt64×List UInt8×UInt64}
  (h:F.CH t u x y T a1=some r) (c:St S D D [X n ([vI t]++(U.fl u++(e64.fl x++(e8.fl y++[v64 T]))))]) (hT:TB S D) (ap:u.length=8) (ar:x.length=8) (aw:y.length=128) (aY:RP S D e8 E a1):Calls Tryz.prog 124 #[N n 0,E] D (Ret fun v w=>v=.tuple #[]∧r.2.1.length=8∧r.2.2.1.length=8∧r.2.2.2.1.length=128∧St S D w [X n ([vI r.1]++(U.fl r.2.1++(e64.fl r.2.2.1++(e8.fl r.2.2.2.1++[v64 r.2.2.2.2]))))]):=by
 refine aJ 50 Tryz.func124 Z Z Z ?_
 refine au [(0,N n 0),(1,E)] ⟨Z,Z,V⟩ ?_
 unfold F.CH at h
 refine J (af (P 1 Z ?_))
 refine am (aK Z) Z (am (av (k:=0) u168 Z Z pf Z) Z (am (aC u22 Z Z (c.s 0 Z (Up.get0 Up.p))) Z ?_))
 obtain ⟨q,aU,h⟩:=aj h
 refine ao Z (m0 t aU ) Z ?_
 rintro _ w ⟨rfl,ad⟩
 have c:=c.f ad
 refine P 1 Z ?_
 refine H (O (aD ?_))
 refine au [(0,N n 0),(1,E),(4,vI q)] ⟨Z,Z,Z,V⟩ ?_
 refine bj (F.DP q) (fun (s:List UInt8×Int×List UInt32×List UInt64×List UInt8×UInt64) L w=>∃(G:Value),L=[(0,N n 0),(1,G),(4,vI q)]∧RP S D e8 G s.1∧s.2.2.1.length=8∧s.2.2.2.1.length=8∧s.2.2.2.2.1.length=128∧St S D w [X n ([vI s.2.1]++(U.fl s.2.2.1++(e64.fl s.2.2.2.1++(e8.fl s.2.2.2.2.1++[v64 s.2.2.2.2.2]))))]) ?_ (a1,t,u,x,y,T) ⟨E,Z,aY,ap,ar,aw,c⟩ h
 rintro a0 ⟨aS,ag,ak,al,a2,g⟩ L w a3 hI ac h z
 try dsimp only at hI
 obtain ⟨G,rfl,o,j,d,b,c⟩:=hI
 unfold F.DP at h
 refine J (J (af (P 1 Z ?_)))
 refine am (aN u24 Z (o.d c.fr)) Z (P 1 Z ?_)
 refine H (O ?_)
 refine ax Z (fun A=>?_) (fun A=>?_)
 ·have h:=aI h A
  refine ay (O (aD ?_))
  refine J (af (P 1 Z ?_))
  refine am (aK Z) Z (am (av (k:=145) u168 Z Z ut Z) Z (am (aC u87 Z Z (c.s 0 Z (Up.get0 (Up.o (k:=1) Z (Up.o (k:=8) (bc j Z) (Up.o (k:=8) (bc d Z) (Up.o (k:=128) (bc b Z) Up.last Z) Z) Z) Z)))) Z ?_))
  refine P 1 Z ?_
  refine am (aM Z (ff Tryz.underlying3 u87 q)) Z ?_
  obtain ⟨az,h⟩:=bZ h
  refine am (aq Z Z (fe _ g (UInt64.ofInt q) az)) Z (am (aM Z (mi u87 Tryz.underlying3 (g%(UInt64.ofInt q)))) Z ?_)
  obtain ⟨aV,aA,h⟩:=aO h
  refine am (aB (v:=vI aV) (by rw [←aA]; rfl)) Z ?_
  refine H (O (J (af (P 1 Z ?_))))
  refine am (aK Z) Z (am (av (k:=17) u168 Z Z vb Z) Z (P 2 Z ?_))
  obtain ⟨a4,a,h⟩:=aj h
  refine am (AI (e:=e8) u166 sz5 Z Z Z Z b a) Z (P 1 Z ?_)
  refine aT (wB (e:=e8) u24 ti5 Z Z Z c (i:=0) Z b (Up.o (k:=1) Z (Up.o (k:=8) (bc j Z) (Up.o (k:=8) (bc d Z) Up.p Z) Z) Z) (o.d c.fr) (by have:=(cx a).1; omega) (cx a).1.2.2) Z ?_
  rintro v_q w ⟨hv_q,c⟩
  subst v_q
  obtain ⟨ab,l,h⟩:=aO h
  rw [l]at c
  obtain ⟨f,aE,h⟩:=aO h
  refine am (aB (v:=vI f) (by rw [←aE]; rfl)) Z ?_
  refine H (O (J (af (P 1 Z ?_))))
  refine am (aK Z) Z (am (av (k:=145) u168 Z Z ut Z) Z ?_)
  refine am (aC u87 Z Z (c.s 0 Z (Up.get0 (Up.o (k:=1) Z (Up.o (k:=8) (bc j Z) (Up.o (k:=8) (bc d Z) (Up.o (k:=128) (bc (by rw [←l,eL _ _ _ _ (by have:=(cx a).1; omega) (cx a).1.2.2]; exact b) Z) Up.last Z) Z) Z) Z)))) Z ?_
  refine P 1 Z ?_
  refine am (aM Z (ff Tryz.underlying3 u87 f)) Z (am (aq Z Z (cv _ g (UInt64.ofInt f))) Z (am (aK Z) Z (am (av (k:=145) u168 Z Z ut Z) Z ?_)))
  refine bk (eX (m:=1) (xs:=[v64 g]) (xs':=[v64 (g+(UInt64.ofInt f))]) (i:=0) Z dP Z Z Z (Up.o (k:=1) Z (Up.o (k:=8) (bc j Z) (Up.o (k:=8) (bc d Z) (Up.o (k:=128) (bc (by rw [←l,eL _ _ _ _ (by have:=(cx a).1; omega) (cx a).1.2.2]; exact b) Z) Up.last Z) Z) Z) Z) Z Z (fV Z) c) ?_
  intro w c
  refine H (O (J (af (P 2 Z ?_))))
  obtain ⟨an,B,h⟩:=aj h
  refine am (u9 u24 ti5 Z Z (o.d c.fr) B) Z (P 1 Z ?_)
  refine H (O (J (af (P 5 Z ?_))))
  refine H (O ?_)
  refine ax Z (fun C=>?_) (fun C=>?_)
  ·have h:=aI h C
   refine af (P 1 Z ?_)
   have hG:=c.pick (os':=[X n ([vI ag]++(U.fl ak++(e64.fl al++(e8.fl ab++[v64 (g+(UInt64.ofInt f))]))))]++[]) [0] (by decide) Z
   obtain ⟨p,aF,h⟩:=aj h
   refine ao Z (mN ag ak al ab (g+(UInt64.ofInt f)) aF hG.g (hT.g hG) j d (by rw [←l,eL _ _ _ _ (by have:=(cx a).1; omega) (cx a).1.2.2]; exact b)) Z ?_
   rintro _ w ⟨rfl,aL,aP,aQ,ad⟩
   have c:=hG.h ad
   refine H (aR ?_)
   exact bA (bz _ (by exact ⟨Z,Z,Z,V⟩) (ac (an,p.1,p.2.1,p.2.2.1,p.2.2.2.1,p.2.2.2.2) _ _ ⟨slV G e8.sz ((f:Int).toNat) aS.length,Z,(o.g_sll B),aL,aP,aQ,c⟩ (a8 h z)))
  have h:=aH h C
  refine ay (aR ?_)
  exact bA (bz _ (by exact ⟨Z,Z,Z,V⟩) (ac (an,ag,ak,al,ab,g+(UInt64.ofInt f)) _ _ ⟨slV G e8.sz ((f:Int).toNat) aS.length,Z,(o.g_sll B),j,d,(by rw [←l,eL _ _ _ _ (by have:=(cx a).1; omega) (cx a).1.2.2]; exact b),c⟩ (a8 h z)))
 have h:=aH h A
 refine bd ?_
 refine aG (aG ?_)
 have h:=aW h z
 refine bf ?_
 cases h
 exact gq Z ⟨Z,j,d,b,c.e [0] Z Z⟩
end Go.Proofs
