import Derived.Test.YtkickcbphbgldaaGreatDoorTW0
import Derived.Test.YtkickcbphbgldaaGreatDoorGkFman
import Derived.Test.YtkickcbphbgldaaGreatDoorTWlib
set_option linter.unusedVariables false
set_option linter.unusedSimpArgs false
set_option linter.unusedSectionVars false
set_option maxRecDepth 4000
namespace Go.Proofs
open Go Go.RowKit Go.Gk
open Go.Gk renaming aa → Q, ae → N, af → H, ah → M, ai → J, e32 → U, own → O
open Nat renaming le_of_ble_eq_true → R
theorem dh {l:World} {a0:List UInt32} {d:Value} {r:Nat}
  (h:F.BU a0=some r) (a:RP [] l U d a0):Calls Tryz.prog 62 #[d] l (Ret fun v w=>v=slV3 d U.sz 0 r r∧r≤a0.length∧St [] l w []):=by
 refine aN 26 Tryz.func62 Z Z Z ?_
 have b:=St.l l
 refine ar [(0,d)] ⟨Z,V⟩ ?_
 unfold F.BU at h
 refine M (H (Q 1 Z ?_))
 refine J (N (M (az ?_)))
 refine ar [(0,slV d U.sz 0 a0.length)] ⟨(congrArg some a.1.full),V⟩ ?_
 refine bd (F.ED a0) (fun (s:Nat) L w=>L=[(0,slV d U.sz 0 s)]∧s≤a0.length∧St [] l w []) ?_ a0.length ⟨Z,(Nat.le_refl _),b⟩ h
 rintro x i L w u hI q h m
 try dsimp only at hI
 obtain ⟨rfl,c,b⟩:=hI
 unfold F.ED at h
 refine M ?_
 refine bf (r:=u) (fun (g:Bool) L w=>L=[(0,slV d U.sz 0 i),(14,vB g)]∧St [] l w []) (F.CJ a0 i) ?_ ?_
 rotate_left
 ·intro n
  refine H (Q 1 Z ?_)
  refine al (aL u30 Z ((a.d b.fr).tk c)) Z (Q 2 Z ?_)
  cases e:(decide ((0:Int)<((a0.take i).length:Int)))
  case true=>
   have h:=aJ h e
   try simp only [e]
   refine Q 2 Z ?_
   refine aF (t:=6) Z Z (aL u30 Z ((a.d b.fr).tk c)) Z (Q 1 Z ?_)
   obtain ⟨p,o,h⟩:=aj h
   refine aF (t:=6) Z Z (vh u30 aZ Z Z (a.d b.fr) c o) Z (aF (t:=6) Z Z (aR u38 Z Z (a.d b.fr) (uZ o) Z) Z (aF (t:=6) Z Z (aq Z Z (oJ _ p 0)) Z (Q 1 Z ?_)))
   refine J (N ?_)
   exact ar _ (by exact ⟨Z,Z,V⟩) (n (p == 0) _ _ ⟨Z,b⟩ h)
  case false=>
   have h:=aI h e
   try simp only [e]
   refine Q 8 Z ?_
   refine J (N ?_)
   exact ar _ (by exact ⟨Z,Z,V⟩) (n false _ _ ⟨Z,b⟩ h)
 rintro y L w hJ h
 try dsimp only at hJ
 obtain ⟨rfl,b⟩:=hJ
 unfold F.CJ at h
 refine av Z (fun f=>?_) (fun f=>?_)
 ·have h:=aJ h f
  refine aw (N (az ?_))
  refine H (Q 2 Z ?_)
  refine al (aL u30 Z ((a.d b.fr).tk c)) Z (Q 1 Z ?_)
  obtain ⟨j,h⟩:=bZ h
  refine al (uw u30 aZ Z Z (a.d b.fr) (kY j)) Z (Q 1 Z ?_)
  refine J (aP ?_)
  exact bh (bo _ (by exact ⟨Z,V⟩) (q ((wI (((a0.take i).length:Int) - 1):Int).toNat) _ _ ⟨Z,j.2,b⟩ (aY h m)))
 have h:=aI h f
 refine ba ?_
 refine aC (aC ?_)
 have h:=aT h m
 refine a9 ?_
 refine N (M (H (Q 2 Z ?_)))
 refine al (aL u30 Z ((a.d b.fr).tk c)) Z (Q 1 Z ?_)
 refine al (aL u30 Z ((a.d b.fr).tk c)) Z ?_
 obtain ⟨k,h⟩:=bZ h
 refine al (rK u30 aZ Z Z Z ((a.d b.fr).tk c) k) Z (Q 1 Z ?_)
 refine J (N (ay ?_))
 cases h
 exact aM Z Z ⟨(a.1.cut3 _ _),(Nat.le_trans k.2.1 (sO _ _)),b⟩
theorem dL {m:World} {a0:List UInt8} {c:Value} {r:List UInt32}
  (h:F.B5 a0=some r) (f:RP [] m e8 c a0):Calls Tryz.prog 22 #[c] m (Ret fun v w=>St [] m w [O U v r]):=by
 refine aN 40 Tryz.func22 Z Z Z ?_
 have a:=St.l m
 refine ar [(0,c)] ⟨Z,V⟩ ?_
 unfold F.B5 at h
 refine M (H (Q 1 Z ?_))
 refine J (N (M (H (Q 1 Z ?_))))
 refine al (aL u24 Z (f.d a.fr)) Z (Q 1 Z ?_)
 refine al (aq Z Z (dR _ (wI ((a0.length:Int)+3)) 4 (by decide))) Z ?_
 obtain ⟨E,A,h⟩:=aj h
 refine aU (cZ (e:=U) u30 aZ Z Z Z a A) Z ?_
 rintro g w a
 refine Q 1 Z ?_
 refine J (N (M (M (H (Q 1 Z ?_)))))
 refine al (aL u24 Z (f.d a.fr)) Z (Q 1 Z ?_)
 refine J (N (az ?_))
 refine ar [(0,c),(3,g),(12,c),(13,vI (a0.length:Int)),(14,vI 0)] ⟨Z,Z,Z,Z,Z,V⟩ ?_
 refine bd (F.Ei a0) (fun (s:Int×List UInt32) L w=>L=[(0,c),(3,g),(12,c),(13,vI (a0.length:Int)),(14,vI s.1)]∧St [] m w [O U g s.2]) ?_ (0,E) ⟨Z,a⟩ h
 rintro ab ⟨G,S⟩ L w ag hI B h n
 try dsimp only at hI
 obtain ⟨rfl,a⟩:=hI
 unfold F.Ei at h
 refine M (H (Q 1 Z ?_))
 refine J (N (M ?_))
 refine av Z (fun d=>?_) (fun d=>?_)
 ·have h:=aJ h d
  refine aw (N (M (az ?_)))
  refine M (H (Q 1 Z ?_))
  obtain ⟨j,o,h⟩:=aj h
  refine al (aW u24 ti5 Z Z (f.d a.fr) o) Z (al (aR Tryz.underlying5 Z Z (f.d a.fr) o Z) Z (Q 2 Z ?_))
  refine J (N (M (H (Q 1 Z ?_))))
  refine al (aL u24 Z (f.d a.fr)) Z (Q 3 Z ?_)
  obtain ⟨b,q,h⟩:=aQ h
  refine al (aD (v:=vI b) (by rw [←q]; rfl)) Z ?_
  refine J (N ?_)
  refine dU (fun w'=>St [] m w' [O U g S]) (fun i=>!([13].contains i)) bR (fun _ _ _ C=>C.2) (fun _ _ C=>C) (by kernel_rfl) ?_
  have a:=a.drew
  show lxE _ _ _ _ _ _ _ [0,1,2,3,4,5,6,7,8,9,10,11,12,13] _ _
  refine am a Z Z (fun w hF=>au Z) Z (am a Z Z (fun w hF=>au Z) Z ?_)
  refine am a Z Z (fun w hF=>aq Z Z (dR _ b 4 (by decide))) Z ?_
  obtain ⟨p,k,h⟩:=aj h
  refine am a Z Z (fun w hF=>aW u30 aZ Z Z (hF.ro 0 Z) k) Z (am a Z Z (fun w hF=>aR u38 Z Z (hF.ro 0 Z) k Z) Z (am a Z Z (fun w hF=>au Z) Z (am a Z Z (fun w hF=>aK Z (ka Tryz.underlying5 u38 j)) Z (am a Z Z (fun w hF=>au Z) Z ?_))))
  refine am a Z Z (fun w hF=>aq Z Z (jX _ b 4 (by decide))) Z ?_
  refine am a Z Z (fun w hF=>aq Z Z (fj _ 8 (Int.tmod b 4))) Z ?_
  obtain ⟨u,h⟩:=bZ h
  refine am a Z Z (fun w hF=>aq Z Z (pq _ j.toUInt32 (wI (8*(Int.tmod b 4))) u)) Z (am a Z Z (fun w hF=>aq Z Z (fu _ p (ch j.toUInt32 (((wI (8*(Int.tmod b 4)))).toNat)))) Z ?_)
  obtain ⟨ac,l,h⟩:=aj h
  refine am a Z Z (fun w hF=>aW u30 aZ Z Z (hF.ro 0 Z) l) Z (iK a Z Z (bP (t:=(p ||| (ch j.toUInt32 (((wI (8*(Int.tmod b 4)))).toNat)))) aZ Z Z a (i:=0) Z l Z) ?_)
  intro w a
  obtain ⟨D,x,h⟩:=aQ h
  rw [x]at a
  refine bp V ?_
  refine aP ?_
  refine N (H (Q 2 Z ?_))
  refine J ?_
  exact bh (bo _ (by exact ⟨Z,Z,Z,Z,Z,V⟩) (B (wI (G+1),D) _ _ ⟨Z,a⟩ (aY h n)))
 have h:=aI h d
 refine ba ?_
 refine aC (aC ?_)
 have h:=aT h n
 refine a9 ?_
 refine N (M (H (Q 1 Z ?_)))
 obtain ⟨ad,y,h⟩:=aj h
 refine ao Z (dh  y (a.ro 0 Z).rp) Z ?_
 rintro _ w ⟨rfl,z,T⟩
 have a:=a.f T
 refine Q 1 Z ?_
 refine J (N (ay ?_))
 cases h
 replace a:=a.trunc3 (i:=0) rfl z
 exact aM Z Z (a.e [0] Z Z)
theorem cH {b:World} {a0:List UInt32} {a:Value} {r:Nat}
  (h:F.BQ a0=some r) (f:RP [] b U a a0):Calls Tryz.prog 63 #[a] b (Ret fun v w=>v=slV3 a U.sz 0 r r∧r≤a0.length∧St [] b w []):=by
 refine aN 5 Tryz.func63 Z Z Z ?_
 have c:=St.l b
 refine ar [(0,a)] ⟨Z,V⟩ ?_
 unfold F.BQ at h
 refine M (H (Q 1 Z ?_))
 refine J (N (M (H (Q 1 Z ?_))))
 obtain ⟨i,d,h⟩:=aj h
 refine ao Z (dh  d (f.d c.fr).rp) Z ?_
 rintro _ w ⟨rfl,e,g⟩
 have c:=c.f g
 refine Q 1 Z ?_
 refine J (N (ay ?_))
 cases h
 exact aM Z Z ⟨Z,e,c⟩
theorem f9 {m:World} {a0 a1:List UInt32} {n o:Value} {r:Int}
  (h:F.B7 a0 a1=some r) (d:RP [] m U n a0) (e:RP [] m U o a1):Calls Tryz.prog 24 #[n,o] m (Ret fun v w=>v=vI r∧St [] m w []):=by
 refine aN 51 Tryz.func24 Z Z Z ?_
 have a:=St.l m
 refine ar [(0,n),(1,o)] ⟨Z,Z,V⟩ ?_
 unfold F.B7 at h
 refine M (H (Q 1 Z ?_))
 refine J (N (M (H (Q 1 Z ?_))))
 obtain ⟨p,C,h⟩:=aj h
 refine ao Z (cH  C (d.d a.fr).rp) Z ?_
 rintro _ w ⟨rfl,b,A⟩
 have a:=a.f A
 refine Q 1 Z ?_
 obtain ⟨q,D,h⟩:=aj h
 refine ao Z (cH  D (e.d a.fr).rp) Z ?_
 rintro _ w ⟨rfl,c,A⟩
 have a:=a.f A
 refine Q 2 Z ?_
 refine J (N (M (az ?_)))
 refine M (H (Q 1 Z ?_))
 refine al (aL u30 Z ((d.tk3 b).d a.fr)) Z (Q 1 Z ?_)
 refine al (aL u30 Z ((e.tk3 c).d a.fr)) Z (Q 2 Z ?_)
 refine J (N ?_)
 refine av Z (fun f=>?_) (fun f=>?_)
 ·have h:=aJ h f
  refine M (H (Q 1 Z ?_))
  refine J (N (ay (bz ?_)))
  refine aG ?_
  cases h
  exact aM Z Z ⟨Z,a⟩
 have h:=aI h f
 refine M (H (Q 1 Z ?_))
 refine al (aL u30 Z ((d.tk3 b).d a.fr)) Z (Q 1 Z ?_)
 refine al (aL u30 Z ((e.tk3 c).d a.fr)) Z (Q 2 Z ?_)
 refine J (N ?_)
 refine av Z (fun g=>?_) (fun g=>?_)
 ·have h:=aJ h g
  refine M (H (Q 1 Z ?_))
  refine J (N (ay (bz ?_)))
  refine aG ?_
  cases h
  exact aM Z Z ⟨Z,a⟩
 have h:=aI h g
 refine aw (aP ?_)
 refine N (M (M (H (Q 1 Z ?_))))
 refine al (aL u30 Z ((d.tk3 b).d a.fr)) Z (Q 1 Z ?_)
 obtain ⟨B,E,h⟩:=aQ h
 refine al (aD (v:=vI B) (by rw [←E]; rfl)) Z ?_
 refine J (N (az ?_))
 refine ar [(5,slV3 n U.sz 0 p p),(6,slV3 o U.sz 0 q q),(7,vI B)] ⟨Z,Z,Z,V⟩ ?_
 refine bd (F.DH a0 a1 p q) (fun (s:Int) L w=>L=[(5,slV3 n U.sz 0 p p),(6,slV3 o U.sz 0 q q),(7,vI s)]∧St [] m w []) ?_ B ⟨Z,a⟩ h
 rintro ag ad L w ak hI G h i
 try dsimp only at hI
 obtain ⟨rfl,a⟩:=hI
 unfold F.DH at h
 refine M (M (H (Q 2 Z ?_)))
 refine J (N ?_)
 refine av Z (fun j=>?_) (fun j=>?_)
 ·have h:=aJ h j
  refine aw (N (M (az ?_)))
  refine az ?_
  refine M ?_
  refine bb (fun w'=>St [] m w' []) (fun _=>true) bR (fun _ _ _ t=>t.2) (fun _ _ t=>t) (by kernel_rfl) ?_
  have a:=a.drew
  show lxE _ _ _ _ _ _ _ [0,1,2,3,4,5,6,7,8,9] _ _
  refine am a Z Z (fun w hF=>au Z) Z (am a Z Z (fun w hF=>au Z) Z ?_)
  obtain ⟨S,u,h⟩:=aj h
  refine am a Z Z (fun w hF=>aW u30 aZ Z Z ((d.tk3 b).d hF.fr) u) Z (am a Z Z (fun w hF=>aR u38 Z Z ((d.tk3 b).d hF.fr) u Z) Z (am a Z Z (fun w hF=>au Z) Z (am a Z Z (fun w hF=>au Z) Z ?_)))
  obtain ⟨T,x,h⟩:=aj h
  refine am a Z Z (fun w hF=>aW u30 aZ Z Z ((e.tk3 c).d hF.fr) x) Z (am a Z Z (fun w hF=>aR u38 Z Z ((e.tk3 c).d hF.fr) x Z) Z (am a Z Z (fun w hF=>aq Z Z (oT _ S T)) Z (am a Z Z (fun w hF=>aD Z) Z (bp a ?_))))
  refine N ?_
  refine av Z (fun k=>?_) (fun k=>?_)
  ·have h:=aJ h k
   refine M (H (Q 1 Z ?_))
   refine J (N (ay (bz ?_)))
   refine bz ?_
   refine aG (aG ?_)
   have h:=aT h i
   refine bz ?_
   refine aG ?_
   cases h
   exact aM Z Z ⟨Z,a⟩
  have h:=aI h k
  refine M ?_
  refine bb (fun w'=>St [] m w' []) (fun _=>true) bR (fun _ _ _ t=>t.2) (fun _ _ t=>t) (by kernel_rfl) ?_
  have a:=a.drew
  show lxE _ _ _ _ _ _ _ [0,1,2,3,4,5,6,7,8,9] _ _
  refine am a Z Z (fun w hF=>au Z) Z (am a Z Z (fun w hF=>au Z) Z ?_)
  obtain ⟨ab,y,h⟩:=aj h
  refine am a Z Z (fun w hF=>aW u30 aZ Z Z ((d.tk3 b).d hF.fr) y) Z (am a Z Z (fun w hF=>aR u38 Z Z ((d.tk3 b).d hF.fr) y Z) Z (am a Z Z (fun w hF=>au Z) Z (am a Z Z (fun w hF=>au Z) Z ?_)))
  obtain ⟨ac,z,h⟩:=aj h
  refine am a Z Z (fun w hF=>aW u30 aZ Z Z ((e.tk3 c).d hF.fr) z) Z (am a Z Z (fun w hF=>aR u38 Z Z ((e.tk3 c).d hF.fr) z Z) Z (am a Z Z (fun w hF=>aq Z Z (zl _ ab ac)) Z (am a Z Z (fun w hF=>aD Z) Z (bp a ?_))))
  refine N ?_
  refine av Z (fun l=>?_) (fun l=>?_)
  ·have h:=aJ h l
   refine M (H (Q 1 Z ?_))
   refine J (N (ay (bz ?_)))
   refine bz ?_
   refine aG (aG ?_)
   have h:=aT h i
   refine bz ?_
   refine aG ?_
   cases h
   exact aM Z Z ⟨Z,a⟩
  have h:=aI h l
  refine aw (aP ?_)
  refine aP ?_
  refine N (H (Q 3 Z ?_))
  refine J ?_
  exact bh (bo _ (by exact ⟨Z,Z,Z,V⟩) (G (wI (ad - 1)) _ _ ⟨Z,a⟩ (aY h i)))
 have h:=aI h j
 refine ba ?_
 refine aC (aC ?_)
 have h:=aT h i
 refine a9 ?_
 refine N (M (H (Q 1 Z ?_)))
 refine J (N (ay ?_))
 cases h
 exact aM Z Z ⟨Z,a⟩
theorem sM {k:World} {a0:List UInt32} {c:Value} (a1:UInt32) {r:List UInt32×UInt32}
  (h:F.FF a0 a1=some r) (d:RP [] k U c a0):Calls Tryz.prog 68 #[c,v32 a1] k (Ret fun v w=>∃u0:Value,v=.tuple #[u0,v32 r.2]∧St [] k w [O U u0 r.1]):=by
 refine aN 34 Tryz.func68 Z Z Z ?_
 have a:=St.l k
 refine ar [(0,c),(1,v32 a1)] ⟨Z,Z,V⟩ ?_
 unfold F.FF at h
 refine M (H (Q 2 Z ?_))
 refine J (N (M (H (Q 1 Z ?_))))
 refine al (aL u30 Z (d.d a.fr)) Z ?_
 obtain ⟨A,q,h⟩:=aj h
 refine aU (cZ (e:=U) u30 aZ Z Z Z a q) Z ?_
 rintro f w a
 refine Q 1 Z ?_
 refine J (N (M (H (Q 1 Z ?_))))
 refine J (N (M (M (H (Q 1 Z ?_)))))
 refine al (aL u30 Z (d.d a.fr)) Z (Q 1 Z ?_)
 obtain ⟨l,u,h⟩:=aQ h
 refine al (aD (v:=vI l) (by rw [←u]; rfl)) Z ?_
 refine J (N (az ?_))
 refine ar [(0,c),(1,v32 a1),(6,f),(7,v32 0),(8,vI l)] ⟨Z,Z,Z,Z,Z,V⟩ ?_
 refine bd (F.Df a0 a1) (fun (s:UInt32×Int×List UInt32) L w=>L=[(0,c),(1,v32 a1),(6,f),(7,v32 s.1),(8,vI s.2.1)]∧St [] k w [O U f s.2.2]) ?_ (0,l,A) ⟨Z,a⟩ h
 rintro E ⟨B,C,T⟩ L w G hI x h m
 try dsimp only at hI
 obtain ⟨rfl,a⟩:=hI
 unfold F.Df at h
 refine M (M (H (Q 2 Z ?_)))
 refine J (N ?_)
 refine av Z (fun b=>?_) (fun b=>?_)
 ·have h:=aJ h b
  refine aw (N (M (az ?_)))
  refine H (Q 5 Z ?_)
  obtain ⟨y,g,h⟩:=aj h
  refine al (aW u30 aZ Z Z (d.d a.fr) g) Z (al (aR u38 Z Z (d.d a.fr) g Z) Z (Q 1 Z ?_))
  obtain ⟨n,o,h⟩:=aj h
  refine ao Z (mE B y a1 o ) Z ?_
  rintro _ w ⟨rfl,D⟩
  have a:=a.f D
  refine Q 3 Z ?_
  obtain ⟨S,j,h⟩:=aj h
  refine al (aW u30 aZ Z Z (a.ro 0 Z) j) Z (bn (bP (t:=n.1) aZ Z Z a (i:=0) Z j Z) ?_)
  intro w a
  obtain ⟨z,p,h⟩:=aQ h
  rw [p]at a
  refine Q 1 Z ?_
  refine J (aP ?_)
  refine N (H (Q 3 Z ?_))
  refine J ?_
  exact bh (bo _ (by exact ⟨Z,Z,Z,Z,Z,V⟩) (x (n.2,wI (C - 1),z) _ _ ⟨Z,a⟩ (aY h m)))
 have h:=aI h b
 refine ba ?_
 refine aC (aC ?_)
 have h:=aT h m
 refine a9 ?_
 refine N (M (H (Q 4 Z ?_)))
 refine J (N (ay ?_))
 cases h
 exact bX Z Z Z ⟨f,Z,a.e [0] Z Z⟩
theorem oW {b:World} (a0:UInt64) {r:List UInt32}
  (h:F.E5 a0=some r) :Calls Tryz.prog 69 #[v64 a0] b (Ret fun v w=>St [] b w [O U v r]):=by
 refine aN 10 Tryz.func69 Z Z Z ?_
 have a:=St.l b
 refine ar [(0,v64 a0)] ⟨Z,V⟩ ?_
 unfold F.E5 at h
 refine M (H (Q 1 Z ?_))
 refine J (N (M (H (Q 1 Z ?_))))
 refine al (aK Z (bQ u87 u38 a0)) Z (Q 1 Z ?_)
 refine al (aq Z Z (cq _ a0 32)) Z (al (aK Z (bQ u87 u38 (aX a0 32))) Z ?_)
 refine aU (ci (e:=U) (l:=([a0.toUInt32,(aX a0 32).toUInt32]:List UInt32)) (vs:=[v32 a0.toUInt32,v32 ((aX a0 32).toUInt32)]) u30 aZ Z Z Z Z (by decide) (by decide) a) Z ?_
 rintro g w a
 obtain ⟨j,c,h⟩:=aj h
 refine ao Z (dh  c (a.ro 0 Z).rp) Z ?_
 rintro _ w ⟨rfl,d,f⟩
 have a:=a.f f
 refine Q 1 Z ?_
 refine J (N (ay ?_))
 cases h
 replace a:=a.trunc3 (i:=0) rfl d
 exact aM Z Z (a.e [0] Z Z)
theorem sq {l:World} {a0 a1:List UInt32} {k e f:Value} {S:List Nat} (a d:Nat) (a2:Int) {r:List UInt32}
  (h:F.El a0 a d a1 a2=some r) (b:St S l l [O U k a0]) (u:lW k U.sz a d f) (x:RP S l U e a1):Calls Tryz.prog 128 #[f,e,vI a2] l (Ret fun v w=>v=.tuple #[]∧St S l w [O U k r]):=by
 refine aN 37 Tryz.func128 Z Z Z ?_
 refine ar [(0,f),(1,e),(2,vI a2)] ⟨Z,Z,Z,V⟩ ?_
 unfold F.El at h
 refine M (H (Q 1 Z ?_))
 refine J (N (M (H (Q 1 Z ?_))))
 refine al (aL u30 Z ((b.ro 0 Z).po u)) Z (Q 1 Z ?_)
 refine J (N (az ?_))
 refine ar [(0,f),(1,e),(2,vI a2),(6,v32 0),(10,vI (((a0.drop a).take (d - a)).length:Int)),(11,vI 0)] ⟨Z,Z,Z,Z,Z,Z,V⟩ ?_
 refine bd (F.C9 a d a0 a1 a2) (fun (s:UInt32×Int×List UInt32) L w=>L=[(0,f),(1,e),(2,vI a2),(6,v32 s.1),(10,vI (((a0.drop a).take (d - a)).length:Int)),(11,vI s.2.1)]∧St S l w [O U k s.2.2]) ?_ (0,0,a0) ⟨Z,b⟩ h
 rintro ag ⟨n,o,G⟩ L w ac hI T h y
 try dsimp only at hI
 obtain ⟨rfl,b⟩:=hI
 unfold F.C9 at h
 refine M (H (Q 1 Z ?_))
 refine J (N (M ?_))
 refine av Z (fun j=>?_) (fun j=>?_)
 ·have h:=aJ h j
  refine aw (N (M (az ?_)))
  refine M (H (Q 2 Z ?_))
  refine J (N (M (H (Q 1 Z ?_))))
  refine J (N ?_)
  refine bf (r:=ac) (fun (g:UInt32) L w=>L=[(0,f),(1,e),(2,vI a2),(6,v32 n),(7,vI o),(8,v32 g),(10,vI (((a0.drop a).take (d - a)).length:Int)),(11,vI o)]∧St S l w [O U k G]) (F.Ed a d a2 n o G) ?_ ?_
  rotate_left
  ·intro p
   refine M (H (Q 2 Z ?_))
   refine al (aL u30 Z (x.d b.fr)) Z (Q 1 Z ?_)
   refine J (N ?_)
   refine av Z (fun m=>?_) (fun m=>?_)
   ·have h:=aJ h m
    refine H (Q 2 Z ?_)
    obtain ⟨ad,z,h⟩:=aj h
    refine al (aW u30 aZ Z Z (x.d b.fr) z) Z (al (aR u38 Z Z (x.d b.fr) z Z) Z (Q 1 Z ?_))
    refine J (N ?_)
    exact ar _ (by exact ⟨Z,Z,Z,Z,Z,Z,Z,Z,V⟩) (p ad _ _ ⟨Z,b⟩ h)
   have h:=aI h m
   refine aw (N ?_)
   exact ar _ (by exact ⟨Z,Z,Z,Z,Z,Z,Z,Z,V⟩) (p 0 _ _ ⟨Z,b⟩ h)
  rintro c L w hJ h
  try dsimp only at hJ
  obtain ⟨rfl,b⟩:=hJ
  unfold F.Ed at h
  refine M (H (Q 4 Z ?_))
  obtain ⟨B,h⟩:=bZ h
  refine al (aq Z Z (pq _ c a2 B)) Z (Q 1 Z ?_)
  refine al (aq Z Z (fu _ (ch c ((a2).toNat)) n)) Z ?_
  obtain ⟨ak,q,h⟩:=aj h
  refine al (aW u30 aZ Z Z ((b.ro 0 Z).po u) q) Z (bn (rE (t:=((ch c ((a2).toNat)) ||| n)) aZ Z Z b (i:=0) Z u q Z) ?_)
  intro w b
  obtain ⟨ab,C,h⟩:=aQ h
  rw [C]at b
  refine J (N (H (Q 1 Z ?_)))
  refine al (aK Z (bu u38 u87 c)) Z (Q 1 Z ?_)
  obtain ⟨D,h⟩:=bZ h
  refine al (aq Z Z (ww _ c.toUInt64 a2 D)) Z (al (aq Z Z (cq _ (br c.toUInt64 ((a2).toNat)) 32)) Z (al (aK Z (bQ u87 u38 (aX (br c.toUInt64 ((a2).toNat)) 32))) Z ?_))
  obtain ⟨A,E,h⟩:=aQ h
  refine al (aD (v:=v32 A) (by rw [←E]; rfl)) Z ?_
  refine J (aP ?_)
  refine N (H (Q 2 Z ?_))
  refine J ?_
  exact bh (bo _ (by exact ⟨Z,Z,Z,Z,Z,Z,V⟩) (T (A,wI (o+1),ab) _ _ ⟨Z,b⟩ (aY h y)))
 have h:=aI h j
 refine ba ?_
 refine aC (aC ?_)
 have h:=aT h y
 refine a9 ?_
 cases h
 exact gd Z ⟨Z,b.e [0] Z Z⟩
theorem ou {i:World} {a0 a1:List UInt32} {l m:Value} {r:UInt64}
  (h:F.FA a0 a1=some r) (n:RP [] i U l a0) (d:RP [] i U m a1):Calls Tryz.prog 129 #[l,m] i (Ret fun v w=>v=v64 r∧St [] i w []):=by
 refine aN 75 Tryz.func129 Z Z Z ?_
 have a:=St.l i
 refine ar [(0,l),(1,m)] ⟨Z,Z,V⟩ ?_
 unfold F.FA at h
 refine M (H (Q 1 Z ?_))
 refine J (N (M (H (Q 1 Z ?_))))
 refine al (aL u30 Z (d.d a.fr)) Z (Q 1 Z ?_)
 refine J (N (M ?_))
 refine bb (fun w'=>St [] i w' []) (fun _=>true) bR (fun _ _ _ j=>j.2) (fun _ _ j=>j) (by kernel_rfl) ?_
 have a:=a.drew
 show lxE _ _ _ _ _ _ _ [0,1,2,3,4,5,6,7,8,9,10,11,12,13] _ _
 refine am a Z Z (fun w hF=>au Z) Z (am a Z Z (fun w hF=>au Z) Z ?_)
 obtain ⟨S,T,h⟩:=aj h
 refine am a Z Z (fun w hF=>aW u30 aZ Z Z (n.d hF.fr) T) Z (am a Z Z (fun w hF=>aR u38 Z Z (n.d hF.fr) T Z) Z (am a Z Z (fun w hF=>aK Z (bu u38 u87 S)) Z (am a Z Z (fun w hF=>aq Z Z (c9 _ S.toUInt64 32)) Z (am a Z Z (fun w hF=>au Z) Z (am a Z Z (fun w hF=>au Z) Z (am a Z Z (fun w hF=>aq Z Z (dI _ (a1.length:Int) 1)) Z ?_))))))
 obtain ⟨ak,ab,h⟩:=aj h
 refine am a Z Z (fun w hF=>aW u30 aZ Z Z (n.d hF.fr) ab) Z (am a Z Z (fun w hF=>aR u38 Z Z (n.d hF.fr) ab Z) Z (am a Z Z (fun w hF=>aK Z (bu u38 u87 ak)) Z (am a Z Z (fun w hF=>aq Z Z (eL _ (br S.toUInt64 32) ak.toUInt64)) Z ?_)))
 obtain ⟨k,an,h⟩:=aQ h
 refine am a Z Z (fun w hF=>aD (v:=v64 k) (by rw [←an]; rfl)) Z ?_
 refine bp a ?_
 refine N (M ?_)
 refine bb (fun w'=>St [] i w' []) (fun _=>true) bR (fun _ _ _ j=>j.2) (fun _ _ j=>j) (by kernel_rfl) ?_
 have a:=a.drew
 show lxE _ _ _ _ _ _ _ [0,1,2,3,4,5,6,7,8,9,10,11,12,13,14,15,16,17] _ _
 refine am a Z Z (fun w hF=>au Z) Z (am a Z Z (fun w hF=>au Z) Z (am a Z Z (fun w hF=>au Z) Z (am a Z Z (fun w hF=>aq Z Z (dI _ (a1.length:Int) 1)) Z ?_)))
 obtain ⟨z,ac,h⟩:=aj h
 refine am a Z Z (fun w hF=>aW u30 aZ Z Z (d.d hF.fr) ac) Z (am a Z Z (fun w hF=>aR u38 Z Z (d.d hF.fr) ac Z) Z (am a Z Z (fun w hF=>aK Z (bu u38 u87 z)) Z ?_))
 obtain ⟨ao,h⟩:=bZ h
 refine am a Z Z (fun w hF=>aq Z Z (gI _ k z.toUInt64 ao)) Z (am a Z Z (fun w hF=>au Z) Z (am a Z Z (fun w hF=>au Z) Z (am a Z Z (fun w hF=>au Z) Z (am a Z Z (fun w hF=>aq Z Z (dI _ (a1.length:Int) 1)) Z ?_))))
 obtain ⟨A,ad,h⟩:=aj h
 refine am a Z Z (fun w hF=>aW u30 aZ Z Z (d.d hF.fr) ad) Z (am a Z Z (fun w hF=>aR u38 Z Z (d.d hF.fr) ad Z) Z (am a Z Z (fun w hF=>aK Z (bu u38 u87 A)) Z ?_))
 obtain ⟨ap,h⟩:=bZ h
 refine am a Z Z (fun w hF=>aq Z Z (eM _ k A.toUInt64 ap)) Z (am a Z Z (fun w hF=>aD Z) Z (am a Z Z (fun w hF=>aD Z) Z (bp a ?_)))
 refine N ?_
 refine bf (r:=r) (fun (g:UInt64) L w=>L=[(7,v64 g)]∧St [] i w []) (F.FQ) ?_ ?_
 rotate_left
 ·intro B
  refine az ?_
  refine ar [(0,l),(1,m),(5,vI (a1.length:Int)),(7,v64 (k / z.toUInt64)),(8,v64 (k%A.toUInt64))] ⟨Z,Z,Z,Z,Z,V⟩ ?_
  refine bd (F.B9 a0 a1) (fun (s:UInt64×UInt64) L w=>L=[(0,l),(1,m),(5,vI (a1.length:Int)),(7,v64 s.1),(8,v64 s.2)]∧St [] i w []) ?_ (k / z.toUInt64,k%A.toUInt64) ⟨Z,a⟩ h
  rintro aA ⟨c,e⟩ L w ax hI ag h o
  try dsimp only at hI
  obtain ⟨rfl,a⟩:=hI
  unfold F.B9 at h
  refine M ?_
  refine bf (r:=ax) (fun (g:Bool) L w=>L=[(0,l),(1,m),(5,vI (a1.length:Int)),(7,v64 c),(8,v64 e),(61,vB g)]∧St [] i w []) (F.CR a1 c e) ?_ ?_
  rotate_left
  ·intro C
   refine bb (fun w'=>St [] i w' []) (fun _=>true) bR (fun _ _ _ j=>j.2) (fun _ _ j=>j) (by kernel_rfl) ?_
   have a:=a.drew
   show lxE _ _ _ _ _ _ _ [0,1,2,3,4,5,6,7,8,9,10,11,12,13,14,15,16,17,18,19,20,21] _ _
   refine am a Z Z (fun w hF=>au Z) Z (am a Z Z (fun w hF=>aq Z Z (tu _ c 4294967296)) Z (am a Z Z (fun w hF=>au Z) Z ?_))
   cases f:(decide ((4294967296:UInt64)≤c))
   case true=>
    have h:=aJ h f
    try simp only [f]
    refine cD (b:=true) (t:=42) a Z Z Z Z Z Z (cD (b:=true) (t:=42) a Z Z Z Z Z Z (cD (b:=true) (t:=42) a Z Z Z Z Z Z (cD (b:=true) (t:=42) a Z Z Z Z Z Z (cD (b:=true) (t:=42) a Z Z Z Z Z Z (cD (b:=true) (t:=42) a Z Z Z Z Z Z (cD (b:=true) (t:=42) a Z Z Z Z Z Z (cD (b:=true) (t:=42) a Z Z Z Z Z Z (cD (b:=true) (t:=42) a Z Z Z Z Z Z ?_))))))))
    refine cD (b:=true) (t:=42) a Z Z Z Z Z Z (cD (b:=true) (t:=42) a Z Z Z Z Z Z (cD (b:=true) (t:=42) a Z Z Z Z Z Z (cD (b:=true) (t:=42) a Z Z Z Z Z Z (cD (b:=true) (t:=42) a Z Z Z Z Z Z (cD (b:=true) (t:=42) a Z Z Z Z Z Z (cD (b:=true) (t:=42) a Z Z Z Z Z Z (cD (b:=true) (t:=42) a Z Z Z Z Z Z (cD (b:=true) (t:=42) a Z Z Z Z Z Z ?_))))))))
    refine am a Z Z (fun w hF=>pe Z Z) Z (bp a ?_)
    refine N ?_
    exact ar _ (by exact ⟨Z,Z,Z,Z,Z,Z,V⟩) (C true _ _ ⟨Z,a⟩ h)
   case false=>
    have h:=aI h f
    try simp only [f]
    refine dA (t:=42) a Z Z Z Z (fun w hF=>au Z) Z (dA (t:=42) a Z Z Z Z (fun w hF=>au Z) Z (dA (t:=42) a Z Z Z Z (fun w hF=>au Z) Z (dA (t:=42) a Z Z Z Z (fun w hF=>aq Z Z (dI _ (a1.length:Int) 2)) Z ?_)))
    obtain ⟨p,D,h⟩:=aj h
    refine dA (t:=42) a Z Z Z Z (fun w hF=>aW u30 aZ Z Z (d.d hF.fr) D) Z (dA (t:=42) a Z Z Z Z (fun w hF=>aR u38 Z Z (d.d hF.fr) D Z) Z (dA (t:=42) a Z Z Z Z (fun w hF=>aK Z (bu u38 u87 p)) Z (dA (t:=42) a Z Z Z Z (fun w hF=>aq Z Z (gX _ c p.toUInt64)) Z (dA (t:=42) a Z Z Z Z (fun w hF=>au Z) Z (dA (t:=42) a Z Z Z Z (fun w hF=>aq Z Z (c9 _ e 32)) Z (dA (t:=42) a Z Z Z Z (fun w hF=>au Z) Z (dA (t:=42) a Z Z Z Z (fun w hF=>au Z) Z (dA (t:=42) a Z Z Z Z (fun w hF=>aq Z Z (dI _ (a1.length:Int) 2)) Z ?_))))))))
    obtain ⟨q,E,h⟩:=aj h
    refine dA (t:=42) a Z Z Z Z (fun w hF=>aW u30 aZ Z Z (n.d hF.fr) E) Z (dA (t:=42) a Z Z Z Z (fun w hF=>aR u38 Z Z (n.d hF.fr) E Z) Z (dA (t:=42) a Z Z Z Z (fun w hF=>aK Z (bu u38 u87 q)) Z (dA (t:=42) a Z Z Z Z (fun w hF=>aq Z Z (eL _ (br e 32) q.toUInt64)) Z (dA (t:=42) a Z Z Z Z (fun w hF=>aq Z Z (my _ (c*p.toUInt64) ((br e 32) ||| q.toUInt64))) Z (am a Z Z (fun w hF=>pi Z Z) Z (bp a ?_))))))
    refine N ?_
    exact ar _ (by exact ⟨Z,Z,Z,Z,Z,Z,V⟩) (C (decide (((br e 32) ||| q.toUInt64)<(c*p.toUInt64))) _ _ ⟨Z,a⟩ h)
  rintro aB L w hJ h
  try dsimp only at hJ
  obtain ⟨rfl,a⟩:=hJ
  unfold F.CR at h
  refine av Z (fun u=>?_) (fun u=>?_)
  ·have h:=aJ h u
   refine aw (N (az ?_))
   refine M (H (Q 1 Z ?_))
   refine al (aq Z Z (el _ c 1)) Z (Q 1 Z ?_)
   refine J (N (M (H (Q 4 Z ?_))))
   obtain ⟨x,G,h⟩:=aj h
   refine al (aW u30 aZ Z Z (d.d a.fr) G) Z (al (aR u38 Z Z (d.d a.fr) G Z) Z (al (aK Z (bu u38 u87 x)) Z (al (aq Z Z (cv _ e x.toUInt64)) Z (Q 1 Z ?_))))
   refine J (N (M (H (Q 1 Z ?_))))
   refine al (aq Z Z (tu _ (e+x.toUInt64) 4294967296)) Z (J (N ?_))
   refine av Z (fun y=>?_) (fun y=>?_)
   ·have h:=aJ h y
    refine ba ?_
    refine nq Z ?_
    refine aC ?_
    have h:=aT h o
    refine a9 ?_
    refine N ?_
    exact ar _ (by exact ⟨Z,V⟩) (B (c - 1) _ _ ⟨Z,a⟩ h)
   have h:=aI h y
   refine aw (aP ?_)
   exact bh (bo _ (by exact ⟨Z,Z,Z,Z,Z,V⟩) (ag (c - 1,e+x.toUInt64) _ _ ⟨Z,a⟩ (aY h o)))
  have h:=aI h u
  refine ba ?_
  refine aC (aC ?_)
  have h:=aT h o
  refine a9 ?_
  refine N ?_
  exact ar _ (by exact ⟨Z,V⟩) (B c _ _ ⟨Z,a⟩ h)
 rintro aE L w hJ h
 try dsimp only at hJ
 obtain ⟨rfl,a⟩:=hJ
 unfold F.FQ at h
 refine M (H (Q 2 Z ?_))
 refine J (N (ay ?_))
 cases h
 exact aM Z Z ⟨Z,a⟩
theorem sD {d:World} {a0 a1:List UInt32} {e f:Value} {r:Bool}
  (h:F.C8 a0 a1=some r) (g:RP [] d U e a0) (k:RP [] d U f a1):Calls Tryz.prog 130 #[e,f] d (Ret fun v w=>v=vB r∧St [] d w []):=by
 refine aN 31 Tryz.func130 Z Z Z ?_
 have a:=St.l d
 refine ar [(0,e),(1,f)] ⟨Z,Z,V⟩ ?_
 unfold F.C8 at h
 refine M (H (Q 1 Z ?_))
 refine J (N (M (M (H (Q 1 Z ?_)))))
 refine al (aL u30 Z (g.d a.fr)) Z (Q 1 Z ?_)
 obtain ⟨l,q,h⟩:=aQ h
 refine al (aD (v:=vI l) (by rw [←q]; rfl)) Z ?_
 refine J (N (az ?_))
 refine ar [(0,e),(1,f),(5,vI l)] ⟨Z,Z,Z,V⟩ ?_
 refine bd (F.Cf a0 a1) (fun (s:Int) L w=>L=[(0,e),(1,f),(5,vI s)]∧St [] d w []) ?_ l ⟨Z,a⟩ h
 rintro B u L w C hI t h i
 try dsimp only at hI
 obtain ⟨rfl,a⟩:=hI
 unfold F.Cf at h
 refine M (M (H (Q 2 Z ?_)))
 refine J (N ?_)
 refine av Z (fun b=>?_) (fun b=>?_)
 ·have h:=aJ h b
  refine aw (N (M (az ?_)))
  refine M ?_
  refine bb (fun w'=>St [] d w' []) (fun _=>true) bR (fun _ _ _ j=>j.2) (fun _ _ j=>j) (by kernel_rfl) ?_
  have a:=a.drew
  show lxE _ _ _ _ _ _ _ [0,1,2,3,4,5,6,7,8] _ _
  refine am a Z Z (fun w hF=>au Z) Z (am a Z Z (fun w hF=>au Z) Z ?_)
  obtain ⟨x,m,h⟩:=aj h
  refine am a Z Z (fun w hF=>aW u30 aZ Z Z (g.d hF.fr) m) Z (am a Z Z (fun w hF=>aR u38 Z Z (g.d hF.fr) m Z) Z (am a Z Z (fun w hF=>au Z) Z (am a Z Z (fun w hF=>au Z) Z ?_)))
  obtain ⟨y,n,h⟩:=aj h
  refine am a Z Z (fun w hF=>aW u30 aZ Z Z (k.d hF.fr) n) Z (am a Z Z (fun w hF=>aR u38 Z Z (k.d hF.fr) n Z) Z (am a Z Z (fun w hF=>aq Z Z (ma _ x y)) Z (bp a ?_)))
  refine N ?_
  refine av Z (fun c=>?_) (fun c=>?_)
  ·have h:=aJ h c
   refine M ?_
   refine bb (fun w'=>St [] d w' []) (fun _=>true) bR (fun _ _ _ j=>j.2) (fun _ _ j=>j) (by kernel_rfl) ?_
   have a:=a.drew
   show lxE _ _ _ _ _ _ _ [0,1,2,3,4,5,6,7,8,9] _ _
   refine am a Z Z (fun w hF=>au Z) Z (am a Z Z (fun w hF=>au Z) Z ?_)
   obtain ⟨z,o,h⟩:=aj h
   refine am a Z Z (fun w hF=>aW u30 aZ Z Z (g.d hF.fr) o) Z (am a Z Z (fun w hF=>aR u38 Z Z (g.d hF.fr) o Z) Z (am a Z Z (fun w hF=>au Z) Z (am a Z Z (fun w hF=>au Z) Z ?_)))
   obtain ⟨A,p,h⟩:=aj h
   refine am a Z Z (fun w hF=>aW u30 aZ Z Z (k.d hF.fr) p) Z (am a Z Z (fun w hF=>aR u38 Z Z (k.d hF.fr) p Z) Z (am a Z Z (fun w hF=>aq Z Z (oT _ z A)) Z (am a Z Z (fun w hF=>aD Z) Z (bp a ?_))))
   refine N (ay (bz ?_))
   refine aG (aG ?_)
   have h:=aT h i
   refine bz ?_
   refine aG ?_
   cases h
   exact aM Z Z ⟨Z,a⟩
  have h:=aI h c
  refine aw (aP ?_)
  refine N (H (Q 3 Z ?_))
  refine J ?_
  exact bh (bo _ (by exact ⟨Z,Z,Z,V⟩) (t (wI (u - 1)) _ _ ⟨Z,a⟩ (aY h i)))
 have h:=aI h b
 refine ba ?_
 refine aC (aC ?_)
 have h:=aT h i
 refine a9 ?_
 refine N (M (H (Q 1 Z ?_)))
 refine J (N (ay ?_))
 cases h
 exact aM Z Z ⟨Z,a⟩
theorem ol {l:World} {a0 a1:List UInt32} {j d e:Value} {S:List Nat} (b c:Nat) {r:UInt32×List UInt32}
  (h:F.Cs a0 b c a1=some r) (a:St S l l [O U j a0]) (k:lW j U.sz b c e) (u:RP S l U d a1):Calls Tryz.prog 65 #[e,d] l (Ret fun v w=>v=v32 r.1∧St S l w [O U j r.2]):=by
 refine aN 36 Tryz.func65 Z Z Z ?_
 refine ar [(0,e),(1,d)] ⟨Z,Z,V⟩ ?_
 unfold F.Cs at h
 refine M (H (Q 1 Z ?_))
 refine J (N (M (H (Q 1 Z ?_))))
 refine J (N (M (M (H (Q 1 Z ?_)))))
 refine al (aL u30 Z ((a.ro 0 Z).po k)) Z (Q 1 Z ?_)
 refine J (N (az ?_))
 refine ar [(0,e),(1,d),(5,v32 0),(9,vI (((a0.drop b).take (c - b)).length:Int)),(10,vI 0)] ⟨Z,Z,Z,Z,Z,V⟩ ?_
 refine bd (F.Db b c a0 a1) (fun (s:UInt32×Int×List UInt32) L w=>L=[(0,e),(1,d),(5,v32 s.1),(9,vI (((a0.drop b).take (c - b)).length:Int)),(10,vI s.2.1)]∧St S l w [O U j s.2.2]) ?_ (0,0,a0) ⟨Z,a⟩ h
 rintro ak ⟨x,n,D⟩ L w ac hI E h y
 try dsimp only at hI
 obtain ⟨rfl,a⟩:=hI
 unfold F.Db at h
 refine M (H (Q 1 Z ?_))
 refine J (N (M ?_))
 refine av Z (fun f=>?_) (fun f=>?_)
 ·have h:=aJ h f
  refine aw (N (M (az ?_)))
  refine M (H (Q 2 Z ?_))
  refine J (N (M (H (Q 1 Z ?_))))
  refine J (N ?_)
  refine bf (r:=ac) (fun (g:UInt32) L w=>L=[(0,e),(1,d),(5,v32 x),(6,vI n),(7,v32 g),(9,vI (((a0.drop b).take (c - b)).length:Int)),(10,vI n)]∧St S l w [O U j D]) (F.DR b c x n D) ?_ ?_
  rotate_left
  ·intro o
   refine M (H (Q 2 Z ?_))
   refine al (aL u30 Z (u.d a.fr)) Z (Q 1 Z ?_)
   refine J (N ?_)
   refine av Z (fun m=>?_) (fun m=>?_)
   ·have h:=aJ h m
    refine H (Q 2 Z ?_)
    obtain ⟨ad,z,h⟩:=aj h
    refine al (aW u30 aZ Z Z (u.d a.fr) z) Z (al (aR u38 Z Z (u.d a.fr) z Z) Z (Q 1 Z ?_))
    refine J (N ?_)
    exact ar _ (by exact ⟨Z,Z,Z,Z,Z,Z,Z,V⟩) (o ad _ _ ⟨Z,a⟩ h)
   have h:=aI h m
   refine aw (N ?_)
   exact ar _ (by exact ⟨Z,Z,Z,Z,Z,Z,Z,V⟩) (o 0 _ _ ⟨Z,a⟩ h)
  rintro G L w hJ h
  try dsimp only at hJ
  obtain ⟨rfl,a⟩:=hJ
  unfold F.DR at h
  refine H (Q 4 Z ?_)
  obtain ⟨T,p,h⟩:=aj h
  refine al (aW u30 aZ Z Z ((a.ro 0 Z).po k) p) Z (al (aR u38 Z Z ((a.ro 0 Z).po k) p Z) Z (Q 2 Z ?_))
  obtain ⟨A,B,h⟩:=aj h
  refine ao Z (mB T G x B ) Z ?_
  rintro _ w ⟨rfl,ag⟩
  have a:=a.f ag
  refine Q 3 Z ?_
  obtain ⟨am,q,h⟩:=aj h
  refine al (aW u30 aZ Z Z ((a.ro 0 Z).po k) q) Z (bn (rE (t:=A.1) aZ Z Z a (i:=0) Z k q Z) ?_)
  intro w a
  obtain ⟨ab,C,h⟩:=aQ h
  rw [C]at a
  refine Q 1 Z ?_
  refine J (aP ?_)
  refine N (H (Q 2 Z ?_))
  refine J ?_
  exact bh (bo _ (by exact ⟨Z,Z,Z,Z,Z,V⟩) (E (A.2,wI (n+1),ab) _ _ ⟨Z,a⟩ (aY h y)))
 have h:=aI h f
 refine ba ?_
 refine aC (aC ?_)
 have h:=aT h y
 refine a9 ?_
 refine N (M (H (Q 2 Z ?_)))
 refine J (N (ay ?_))
 cases h
 exact aM Z Z ⟨Z,a.e [0] Z Z⟩
theorem om {l:World} {a0:List UInt32} {b:Value} {S:List Nat} (a1:Int) {r:List UInt32}
  (h:F.Fe a0 a1=some r) (a:St S l l [O U b a0]):Calls Tryz.prog 131 #[b,vI a1] l (Ret fun v w=>v=.tuple #[]∧St S l w [O U b r]):=by
 refine aN 38 Tryz.func131 Z Z Z ?_
 refine ar [(0,b),(1,vI a1)] ⟨Z,Z,V⟩ ?_
 unfold F.Fe at h
 refine M (H (Q 1 Z ?_))
 refine al (aL u30 Z (a.ro 0 Z)) Z (Q 1 Z ?_)
 refine J (N (az ?_))
 refine ar [(0,b),(1,vI a1),(7,vI (a0.length:Int)),(8,vI 0)] ⟨Z,Z,Z,Z,V⟩ ?_
 refine bd (F.DN a0 a1) (fun (s:Int×List UInt32) L w=>L=[(0,b),(1,vI a1),(7,vI (a0.length:Int)),(8,vI s.1)]∧St S l w [O U b s.2]) ?_ (0,a0) ⟨Z,a⟩ h
 rintro E ⟨f,y⟩ L w D hI A h m
 try dsimp only at hI
 obtain ⟨rfl,a⟩:=hI
 unfold F.DN at h
 refine M (H (Q 1 Z ?_))
 refine J (N (M ?_))
 refine av Z (fun c=>?_) (fun c=>?_)
 ·have h:=aJ h c
  refine aw (N (M (az ?_)))
  refine M (H (Q 2 Z ?_))
  refine J (N (M (H (Q 2 Z ?_))))
  obtain ⟨n,o,h⟩:=aj h
  refine al (aW u30 aZ Z Z (a.ro 0 Z) o) Z (al (aR u38 Z Z (a.ro 0 Z) o Z) Z (al (aK Z (bu u38 u87 n)) Z (Q 1 Z ?_)))
  refine J (N ?_)
  refine bf (r:=D) (fun (g:UInt64) L w=>L=[(0,b),(1,vI a1),(4,vI f),(5,v64 g),(7,vI (a0.length:Int)),(8,vI f)]∧St S l w [O U b y]) (F.Ez a1 f y) ?_ ?_
  rotate_left
  ·intro j
   refine M (H (Q 3 Z ?_))
   refine al (aL u30 Z (a.ro 0 Z)) Z (Q 1 Z ?_)
   refine J (N ?_)
   refine av Z (fun d=>?_) (fun d=>?_)
   ·have h:=aJ h d
    refine H (Q 4 Z ?_)
    obtain ⟨p,q,h⟩:=aj h
    refine al (aW u30 aZ Z Z (a.ro 0 Z) q) Z (al (aR u38 Z Z (a.ro 0 Z) q Z) Z (al (aK Z (bu u38 u87 p)) Z (al (aq Z Z (c9 _ p.toUInt64 32)) Z (al (aq Z Z (eL _ n.toUInt64 (br p.toUInt64 32))) Z ?_))))
    obtain ⟨z,B,h⟩:=aQ h
    refine al (aD (v:=v64 z) (by rw [←B]; rfl)) Z ?_
    refine J (N ?_)
    exact ar _ (by exact ⟨Z,Z,Z,Z,Z,Z,V⟩) (j z _ _ ⟨Z,a⟩ h)
   have h:=aI h d
   refine aw (N ?_)
   exact ar _ (by exact ⟨Z,Z,Z,Z,Z,Z,V⟩) (j n.toUInt64 _ _ ⟨Z,a⟩ h)
  rintro e L w hJ h
  try dsimp only at hJ
  obtain ⟨rfl,a⟩:=hJ
  unfold F.Ez at h
  refine H (Q 4 Z ?_)
  obtain ⟨u,h⟩:=bZ h
  refine al (aq Z Z (kZ _ e a1 u)) Z (al (aK Z (bQ u87 u38 (aX e ((a1).toNat)))) Z ?_)
  obtain ⟨G,k,h⟩:=aj h
  refine al (aW u30 aZ Z Z (a.ro 0 Z) k) Z (bn (bP (t:=((aX e ((a1).toNat)).toUInt32)) aZ Z Z a (i:=0) Z k Z) ?_)
  intro w a
  obtain ⟨C,x,h⟩:=aQ h
  rw [x]at a
  refine J (aP ?_)
  refine N (H (Q 2 Z ?_))
  refine J ?_
  exact bh (bo _ (by exact ⟨Z,Z,Z,Z,V⟩) (A (wI (f+1),C) _ _ ⟨Z,a⟩ (aY h m)))
 have h:=aI h c
 refine ba ?_
 refine aC (aC ?_)
 have h:=aT h m
 refine a9 ?_
 cases h
 exact gd Z ⟨Z,a.e [0] Z Z⟩
theorem t6 {u:World} {a0 a1:List UInt32} {aB aE:Value} {r:List UInt32×(List UInt32×Nat)}
  (h:F.EY a0 a1=some r) (aF:RP [] u U aB a0) (B:RP [] u U aE a1):Calls Tryz.prog 70 #[aB,aE] u (Ret fun v w=>∃u0 u1:Value,v=.tuple #[u0,slV u1 U.sz 0 r.2.2]∧r.2.2≤r.2.1.length∧St [] u w [O U u0 r.1,O U u1 r.2.1]):=by
 refine aN 125 Tryz.func70 Z Z Z ?_
 have a:=St.l u
 refine ar [(0,aB),(1,aE)] ⟨Z,Z,V⟩ ?_
 unfold F.EY at h
 refine M (H (Q 2 Z ?_))
 refine J (N (M (H (Q 2 Z ?_))))
 refine al (aL u30 Z (B.d a.fr)) Z (Q 1 Z ?_)
 obtain ⟨bD,aG,h⟩:=aj h
 refine al (aW u30 aZ Z Z (B.d a.fr) aG) Z (al (aR u38 Z Z (B.d a.fr) aG Z) Z ?_)
 obtain ⟨m,bk,h⟩:=aj h
 refine ao Z (ir bD bk ) Z ?_
 rintro _ w ⟨rfl,j⟩
 have a:=a.f j
 refine Q 1 Z ?_
 refine J (N (M (H (Q 1 Z ?_))))
 refine al (aL u30 Z (B.d a.fr)) Z ?_
 obtain ⟨bi,bl,h⟩:=aj h
 refine aU (cZ (e:=U) u30 aZ Z Z Z a bl) Z ?_
 rintro f w a
 refine Q 1 Z ?_
 refine J (N (M (H (Q 3 Z ?_))))
 have o:=a.pick (os':=[O U f bi]++[]) [0] (by decide) Z
 obtain ⟨b,bm,h⟩:=aj h
 refine ao Z (sq 0 bi.length m bm o.g (a.ro 0 Z).whole (B.g (R Z) o)) Z ?_
 rintro _ w ⟨rfl,j⟩
 have a:=o.h j
 refine J (N (M (H (Q 1 Z ?_))))
 refine al (aL u30 Z (aF.d a.fr)) Z (Q 1 Z ?_)
 obtain ⟨bj,bq,h⟩:=aj h
 refine aU (cZ (e:=U) u30 aZ Z Z Z a bq) Z ?_
 rintro g w a
 refine Q 1 Z ?_
 refine J (N (M (H (Q 3 Z ?_))))
 have o:=a.pick (os':=[O U g bj]++[O U f b]) [0,1] (by decide) Z
 obtain ⟨br,aM,h⟩:=aj h
 refine ao Z (sq 0 bj.length m aM o.g (a.ro 0 Z).whole (aF.g (R Z) o)) Z ?_
 rintro _ w ⟨rfl,j⟩
 have a:=o.h j
 refine J (N (M (H (Q 1 Z ?_))))
 refine al (aL u30 Z (a.ro 1 Z)) Z (Q 1 Z ?_)
 refine J (N (M (H (Q 1 Z ?_))))
 refine al (aL u30 Z (aF.d a.fr)) Z (Q 3 Z ?_)
 obtain ⟨bs,aO,h⟩:=aj h
 refine aU (cZ (e:=U) u30 aZ Z Z Z a aO) Z ?_
 rintro c w a
 refine Q 1 Z ?_
 refine J (N (M (H (Q 2 Z ?_))))
 obtain ⟨bt,aS,h⟩:=aj h
 refine aU (cZ (e:=U) u30 aZ Z Z Z a aS) Z ?_
 rintro d w a
 refine Q 1 Z ?_
 refine J (N (M (M (H (Q 1 Z ?_)))))
 refine al (aL u30 Z (a.ro 1 Z)) Z (Q 1 Z ?_)
 obtain ⟨C,aV,h⟩:=aQ h
 refine al (aD (v:=vI C) (by rw [←aV]; rfl)) Z ?_
 refine J (N (az ?_))
 refine ar [(6,vI m),(7,f),(8,g),(9,vI (b.length:Int)),(10,c),(11,d),(12,vI C)] ⟨Z,Z,Z,Z,Z,Z,Z,V⟩ ?_
 refine bd (F.C5 m b) (fun (s:Int×List UInt32×List UInt32×List UInt32) L w=>L=[(6,vI m),(7,f),(8,g),(9,vI (b.length:Int)),(10,c),(11,d),(12,vI s.1)]∧St [] u w [O U f b,O U g s.2.1,O U c s.2.2.1,O U d s.2.2.2]) ?_ (C,br,bs,bt) ⟨Z,(a.e [3,2,1,0] Z Z)⟩ h
 rintro bE ⟨k,p,n,D⟩ L w bF hI a2 h T
 try dsimp only at hI
 obtain ⟨rfl,a⟩:=hI
 unfold F.C5 at h
 refine M (M (H (Q 2 Z ?_)))
 refine J (N ?_)
 refine av Z (fun x=>?_) (fun x=>?_)
 ·have h:=aJ h x
  refine aw (N (M (az ?_)))
  refine v7 ?_
  refine M (H (Q 6 Z ?_))
  obtain ⟨bG,ab,h⟩:=aj h
  refine al (wN u30 aZ Z Z Z (a.ro 1 Z) ab) Z (Q 1 Z ?_)
  obtain ⟨aH,a3,h⟩:=aj h
  refine ao Z (ou  a3 ((a.ro 1 Z).g_sl ab).rp (a.ro 0 Z).rp) Z ?_
  rintro _ w ⟨rfl,j⟩
  have a:=a.f j
  refine Q 1 Z ?_
  refine J (N (M (vt ?_)))
  refine N (M (az ?_))
  refine ar [(6,vI m),(7,f),(8,g),(9,vI (b.length:Int)),(10,c),(11,d),(12,vI k),(13,v64 aH)] ⟨Z,Z,Z,Z,Z,Z,Z,Z,V⟩ ?_
  refine bd (F.Dk b k p n) (fun (s:UInt64×List UInt32) L w=>L=[(6,vI m),(7,f),(8,g),(9,vI (b.length:Int)),(10,c),(11,d),(12,vI k),(13,v64 s.1)]∧St [] u w [O U f b,O U g p,O U c n,O U d s.2]) ?_ (aH,D) ⟨Z,a⟩ h
  rintro bH ⟨l,bv⟩ L w bI hI a4 h ac
  try dsimp only at hI
  obtain ⟨rfl,a⟩:=hI
  unfold F.Dk at h
  refine az ?_
  refine M (H (Q 1 Z ?_))
  refine J (N (M (M (H (Q 1 Z ?_)))))
  refine al (aL u30 Z (a.ro 0 Z)) Z (Q 1 Z ?_)
  refine J (N (az ?_))
  refine ar [(6,vI m),(7,f),(8,g),(9,vI (b.length:Int)),(10,c),(11,d),(12,vI k),(13,v64 l),(14,v64 0),(66,f),(67,vI (b.length:Int)),(68,vI 0)] ⟨Z,Z,Z,Z,Z,Z,Z,Z,Z,Z,Z,Z,V⟩ ?_
  refine bd (F.CU b k p n l) (fun (s:UInt64×Int×List UInt32) L w=>L=[(6,vI m),(7,f),(8,g),(9,vI (b.length:Int)),(10,c),(11,d),(12,vI k),(13,v64 l),(14,v64 s.1),(66,f),(67,vI (b.length:Int)),(68,vI s.2.1)]∧St [] u w [O U f b,O U g p,O U c n,O U d s.2.2]) ?_ (0,0,bv) ⟨Z,a⟩ h
  rintro bJ ⟨E,bw,bK⟩ L w bL hI a5 h ad
  try dsimp only at hI
  obtain ⟨rfl,a⟩:=hI
  unfold F.CU at h
  refine M (H (Q 1 Z ?_))
  refine J (N (M ?_))
  refine av Z (fun y=>?_) (fun y=>?_)
  ·have h:=aJ h y
   refine aw (N (M (az ?_)))
   refine M (H (Q 1 Z ?_))
   obtain ⟨G,ag,h⟩:=aj h
   refine al (aW u30 aZ Z Z (a.ro 0 Z) ag) Z (al (aR u38 Z Z (a.ro 0 Z) ag Z) Z (Q 2 Z ?_))
   refine J (N (M (H (Q 3 Z ?_))))
   refine al (aK Z (bu u38 u87 G)) Z (al (aq Z Z (gX _ l G.toUInt64)) Z (al (aq Z Z (cv _ E (l*G.toUInt64))) Z ?_))
   obtain ⟨q,a6,h⟩:=aQ h
   refine al (aD (v:=v64 q) (by rw [←a6]; rfl)) Z ?_
   refine J (N (M (H (Q 3 Z ?_))))
   refine al (aK Z (bQ u87 u38 q)) Z ?_
   obtain ⟨bM,ak,h⟩:=aj h
   refine al (aW u30 aZ Z Z (a.ro 3 Z) ak) Z (bn (bP (t:=q.toUInt32) aZ Z Z a (i:=3) Z ak Z) ?_)
   intro w a
   obtain ⟨bx,a7,h⟩:=aQ h
   rw [a7]at a
   refine J (N (H (Q 1 Z ?_)))
   refine al (aq Z Z (cq _ q 32)) Z (Q 1 Z ?_)
   refine J (aP ?_)
   refine N (H (Q 2 Z ?_))
   refine J ?_
   exact bh (bo _ (by exact ⟨Z,Z,Z,Z,Z,Z,Z,Z,Z,Z,Z,Z,V⟩) (a5 (aX q 32,wI (bw+1),bx) _ _ ⟨Z,a⟩ (aY h ad)))
  have h:=aI h y
  refine ba ?_
  refine aC (aC ?_)
  have h:=aT h ad
  refine a9 ?_
  refine N (M (H (Q 3 Z ?_)))
  refine al (aK Z (bQ u87 u38 E)) Z ?_
  obtain ⟨bN,an,h⟩:=aj h
  refine al (aW u30 aZ Z Z (a.ro 3 Z) an) Z (bn (bP (t:=E.toUInt32) aZ Z Z a (i:=3) Z an Z) ?_)
  intro w a
  obtain ⟨S,a8,h⟩:=aQ h
  rw [a8]at a
  refine J (N (M (M (H (Q 6 Z ?_)))))
  obtain ⟨bO,ap,h⟩:=aj h
  refine al (wN u30 aZ Z Z Z (a.ro 1 Z) ap) Z (Q 1 Z ?_)
  obtain ⟨bS,bc,h⟩:=aj h
  refine ao Z (sD  bc ((a.ro 1 Z).g_sl ap).rp (a.ro 3 Z).rp) Z ?_
  rintro _ w ⟨rfl,j⟩
  have a:=a.f j
  refine Q 1 Z ?_
  refine J (N ?_)
  refine av Z (fun z=>?_) (fun z=>?_)
  ·have h:=aJ h z
   refine ba ?_
   refine aC (nq Z ?_)
   refine aC ?_
   have h:=aT h ac
   refine a9 ?_
   refine N (M (H (Q 6 Z ?_)))
   obtain ⟨bT,A,h⟩:=aj h
   refine al (wN u30 aZ Z Z Z (a.ro 1 Z) A) Z (Q 1 Z ?_)
   have o:=a.pick (os':=[O U g p]++[O U f b,O U c n,O U d S]) [1,0,2,3] (by decide) Z
   obtain ⟨bz,be,h⟩:=aj h
   refine ao Z (ol ((k:Int).toNat) ((wI ((wI (k+(b.length:Int)))+1):Int).toNat) be o.g ((a.ro 1 Z).part (by have:=(cy A).1; omega) (cy A).1.2.2) (o.giveO 2 Z)) Z ?_
   rintro _ w ⟨rfl,j⟩
   have a:=o.h j
   refine J (N (H (Q 3 Z ?_)))
   refine al (aK Z (bQ u87 u38 l)) Z ?_
   obtain ⟨bU,ax,h⟩:=aj h
   refine al (aW u30 aZ Z Z (a.ro 2 Z) ax) Z (bn (bP (t:=l.toUInt32) aZ Z Z a (i:=2) Z ax Z) ?_)
   intro w a
   obtain ⟨bA,bf,h⟩:=aQ h
   rw [bf]at a
   refine J (yj ?_)
   refine aP ?_
   refine N (H (Q 3 Z ?_))
   refine J ?_
   exact bh (bo _ (by exact ⟨Z,Z,Z,Z,Z,Z,Z,V⟩) (a2 (wI (k - 1),bz.2,bA,S) _ _ ⟨Z,(a.e [1,0,2,3] Z Z)⟩ (aY h T)))
  have h:=aI h z
  refine aw (N (H (Q 1 Z ?_)))
  refine al (aq Z Z (el _ l 1)) Z (Q 1 Z ?_)
  refine J (aP ?_)
  exact bh (bo _ (by exact ⟨Z,Z,Z,Z,Z,Z,Z,Z,V⟩) (a4 (l - 1,S) _ _ ⟨Z,a⟩ (aY h ac)))
 have h:=aI h x
 refine ba ?_
 refine aC (aC ?_)
 have h:=aT h T
 refine a9 ?_
 refine N (M (H (Q 2 Z ?_)))
 have o:=a.pick (os':=[O U g p]++[O U f b,O U c n,O U d D]) [1,0,2,3] (by decide) Z
 obtain ⟨bB,bg,h⟩:=aj h
 refine ao Z (om m bg o.g ) Z ?_
 rintro _ w ⟨rfl,j⟩
 have a:=o.h j
 refine J (N (M ?_))
 refine bb (fun w'=>St [] u w' [O U g bB,O U f b,O U c n,O U d D]) (fun _=>true) bR (fun _ _ _ hf=>hf.2) (fun _ _ hf=>hf) (by kernel_rfl) ?_
 have a:=a.drew
 show lxE _ _ _ _ _ _ _ [0,1,2,3,4,5] _ _
 refine am a Z Z (fun w hF=>au Z) Z (am a Z Z (fun w hF=>au Z) Z (am a Z Z (fun w hF=>au Z) Z ?_))
 obtain ⟨aA,h⟩:=bZ h
 refine am a Z Z (fun w hF=>pX u30 aZ Z Z (hF.ro 0 Z) (kY aA)) Z (am a Z Z (fun w hF=>aD Z) Z (am a Z Z (fun w hF=>aD Z) Z (bp a ?_)))
 refine N (ay ?_)
 cases h
 exact bX Z Z Z ⟨c,g,Z,aA.2,a.e [2,0] Z Z⟩
theorem gA {l:World} {a0 a1:List UInt32} {m n:Value} {r:List UInt32×List UInt32×Int}
  (h:F.Cp a0 a1=some r) (j:RP [] l U m a0) (c:RP [] l U n a1):Calls Tryz.prog 31 #[m,n] l (Ret fun v w=>∃u0 u1:Value,v=.tuple #[u0,u1,vI r.2.2]∧St [] l w [O U u0 r.1,O U u1 r.2.1]):=by
 refine aN 55 Tryz.func31 Z Z Z ?_
 have a:=St.l l
 refine ar [(0,m),(1,n)] ⟨Z,Z,V⟩ ?_
 unfold F.Cp at h
 refine M (H (Q 3 Z ?_))
 refine J (N (M (H (Q 1 Z ?_))))
 obtain ⟨au,L,h⟩:=aj h
 refine ao Z (cH  L (j.d a.fr).rp) Z ?_
 rintro _ w ⟨rfl,k,b⟩
 have a:=a.f b
 refine Q 1 Z ?_
 obtain ⟨ax,S,h⟩:=aj h
 refine ao Z (cH  S (c.d a.fr).rp) Z ?_
 rintro _ w ⟨rfl,d,b⟩
 have a:=a.f b
 refine Q 2 Z ?_
 refine J (N (M (az ?_)))
 refine M (H (Q 1 Z ?_))
 refine al (aL u30 Z ((c.tk3 d).d a.fr)) Z (Q 2 Z ?_)
 refine J (N ?_)
 refine av Z (fun e=>?_) (fun e=>?_)
 ·have h:=aJ h e
  refine M (H (Q 3 Z ?_))
  refine J (N (ay (bz ?_)))
  refine aG ?_
  cases h
  exact dZ Z Z Z Z ⟨.slice none 0 0,.slice none 0 0,Z,((a.nil U).nil U).e [1,0] Z Z⟩
 have h:=aI h e
 refine M (H (Q 2 Z ?_))
 obtain ⟨aA,T,h⟩:=aj h
 refine ao Z (f9  T (j.d a.fr).rp (c.d a.fr).rp) Z ?_
 rintro _ w ⟨rfl,b⟩
 have a:=a.f b
 refine Q 2 Z ?_
 refine J (N ?_)
 refine av Z (fun f=>?_) (fun f=>?_)
 ·have h:=aJ h f
  refine M (H (Q 1 Z ?_))
  obtain ⟨aB,ab,h⟩:=aj h
  refine aU (uK u31 u30 aZ Z Z Z a ((j.tk3 k).d a.fr) ab) Z ?_
  rintro an w a
  refine Q 3 Z ?_
  refine J (N (ay (bz ?_)))
  refine aG ?_
  cases h
  exact dZ Z Z Z Z ⟨.slice none 0 0,an,Z,(a.nil U).e [0,1] Z Z⟩
 have h:=aI h f
 refine M (H (Q 1 Z ?_))
 refine al (aL u30 Z ((c.tk3 d).d a.fr)) Z (Q 2 Z ?_)
 refine J (N ?_)
 refine av Z (fun g=>?_) (fun g=>?_)
 ·have h:=aJ h g
  refine M (H (Q 2 Z ?_))
  obtain ⟨ap,o,h⟩:=aj h
  refine al (aW u30 aZ Z Z ((c.tk3 d).d a.fr) o) Z (al (aR u38 Z Z ((c.tk3 d).d a.fr) o Z) Z ?_)
  obtain ⟨p,u,h⟩:=aj h
  refine ao Z (sM ap u ((j.tk3 k).d a.fr).rp) Z ?_
  rintro _ w ⟨ac,rfl,b⟩
  have a:=a.f b
  refine Q 5 Z ?_
  refine J (N (M (H (Q 1 Z ?_))))
  obtain ⟨q,x,h⟩:=aj h
  refine ao Z (dh  x (a.ro 0 Z).rp) Z ?_
  rintro _ w ⟨rfl,y,b⟩
  have a:=a.f b
  refine Q 1 Z ?_
  refine al (aK Z (bu u38 u87 p.2)) Z ?_
  obtain ⟨aq,z,h⟩:=aj h
  refine ao Z (oW p.2.toUInt64 z ) Z ?_
  rintro ad w b
  have a:=a.f b
  refine Q 3 Z ?_
  refine J (N (ay (bz ?_)))
  refine aG ?_
  cases h
  replace a:=a.trunc3 (i:=1) rfl y
  exact dZ Z Z Z Z ⟨slV3 ac U.sz 0 q q,ad,Z,a.e [1,0] Z Z⟩
 have h:=aI h g
 refine aw (aP ?_)
 refine N (M (H (Q 2 Z ?_)))
 obtain ⟨ag,A,h⟩:=aj h
 refine ao Z (t6  A ((j.tk3 k).d a.fr).rp ((c.tk3 d).d a.fr).rp) Z ?_
 rintro _ w ⟨ak,am,rfl,B,b⟩
 have a:=a.f b
 refine Q 5 Z ?_
 refine J (N (M (H (Q 1 Z ?_))))
 obtain ⟨s,C,h⟩:=aj h
 refine ao Z (dh  C (a.ro 0 Z).rp) Z ?_
 rintro _ w ⟨rfl,D,b⟩
 have a:=a.f b
 refine Q 1 Z ?_
 replace a:=a.trunc (i:=1) rfl B
 obtain ⟨t,E,h⟩:=aj h
 refine ao Z (dh  E (a.ro 1 Z).rp) Z ?_
 rintro _ w ⟨rfl,G,b⟩
 have a:=a.f b
 refine Q 3 Z ?_
 refine J (N (ay ?_))
 cases h
 replace a:=a.trunc3 (i:=0) rfl D
 replace a:=a.trunc3 (i:=1) rfl G
 exact dZ Z Z Z Z ⟨slV3 ak U.sz 0 s s,slV3 (slV am U.sz 0 ag.2.2) U.sz 0 t t,Z,a.e [0,1] Z Z⟩
theorem eQ {i:World} {a0:List UInt32} {e:Value} {r:Int}
  (h:F.B0 a0=some r) (c:RP [] i U e a0):Calls Tryz.prog 23 #[e] i (Ret fun v w=>v=vI r∧St [] i w []):=by
 refine aN 21 Tryz.func23 Z Z Z ?_
 have a:=St.l i
 refine ar [(0,e)] ⟨Z,V⟩ ?_
 unfold F.B0 at h
 refine M (H (Q 1 Z ?_))
 refine J (N (M (H (Q 1 Z ?_))))
 obtain ⟨l,j,h⟩:=aj h
 refine ao Z (cH  j (c.d a.fr).rp) Z ?_
 rintro _ w ⟨rfl,b,f⟩
 have a:=a.f f
 refine Q 1 Z ?_
 refine J (N (M (M (H (Q 1 Z ?_)))))
 refine al (aL u30 Z ((c.tk3 b).d a.fr)) Z (Q 1 Z ?_)
 refine J (N ?_)
 refine av Z (fun d=>?_) (fun d=>?_)
 ·have h:=aJ h d
  refine M (H (Q 1 Z ?_))
  refine J (N (ay (aG ?_)))
  cases h
  exact aM Z Z ⟨Z,a⟩
 have h:=aI h d
 refine aw (N (M (H (Q 1 Z ?_))))
 refine al (aL u30 Z ((c.tk3 b).d a.fr)) Z (Q 1 Z ?_)
 refine al (aq Z Z (fj _ 32 (wI (((a0.take l).length:Int) - 1)))) Z (Q 2 Z ?_)
 refine al (aL u30 Z ((c.tk3 b).d a.fr)) Z (Q 1 Z ?_)
 obtain ⟨m,g,h⟩:=aj h
 refine al (aW u30 aZ Z Z ((c.tk3 b).d a.fr) g) Z (al (aR u38 Z Z ((c.tk3 b).d a.fr) g Z) Z ?_)
 obtain ⟨n,k,h⟩:=aj h
 refine ao Z (iH m k ) Z ?_
 rintro _ w ⟨rfl,f⟩
 have a:=a.f f
 refine Q 2 Z ?_
 refine J (N (ay ?_))
 cases h
 exact aM Z Z ⟨Z,a⟩
theorem nQ {j:World} {a0:List UInt8} {a1:List UInt32} {b d:Value} {S:List Nat} {r:List UInt8}
  (h:F.EH a0 a1=some r) (a:St S j j [O e8 b a0]) (o:RP S j U d a1):Calls Tryz.prog 122 #[b,d] j (Ret fun v w=>v=.tuple #[]∧St S j w [O e8 b r]):=by
 refine aN 38 Tryz.func122 Z Z Z ?_
 refine ar [(0,b),(1,d)] ⟨Z,Z,V⟩ ?_
 unfold F.EH at h
 refine M (H (Q 1 Z ?_))
 refine al (aL u24 Z (a.ro 0 Z)) Z (Q 1 Z ?_)
 refine J (N (az ?_))
 refine ar [(0,b),(1,d),(7,vI (a0.length:Int)),(8,vI 0)] ⟨Z,Z,Z,Z,V⟩ ?_
 refine bd (F.Ex a0 a1) (fun (s:Int×List UInt8) L w=>L=[(0,b),(1,d),(7,vI (a0.length:Int)),(8,vI s.1)]∧St S j w [O e8 b s.2]) ?_ (0,a0) ⟨Z,a⟩ h
 rintro T ⟨p,ac⟩ L w E hI z h q
 try dsimp only at hI
 obtain ⟨rfl,a⟩:=hI
 unfold F.Ex at h
 refine M (H (Q 1 Z ?_))
 refine J (N (M ?_))
 refine av Z (fun e=>?_) (fun e=>?_)
 ·have h:=aJ h e
  refine aw (N ?_)
  refine bf (r:=E) (fun (g:List UInt8) L w=>L=[(0,b),(1,d),(7,vI (a0.length:Int)),(8,vI p)]∧St S j w [O e8 b g]) (F.Eh p) ?_ ?_
  rotate_left
  ·intro l
   refine az ?_
   refine M (H (Q 2 Z ?_))
   refine J (N (M (H (Q 1 Z ?_))))
   refine al (aL u24 Z (a.ro 0 Z)) Z (Q 3 Z ?_)
   obtain ⟨c,A,h⟩:=aQ h
   refine al (aD (v:=vI c) (by rw [←A]; rfl)) Z ?_
   refine J (N (M (H (Q 2 Z ?_))))
   obtain ⟨ad,u,h⟩:=aj h
   refine al (aW u24 ti5 Z Z (a.ro 0 Z) u) Z (bn (bP (t:=0) ti5 Z Z a (i:=0) Z u Z) ?_)
   intro w a
   obtain ⟨G,B,h⟩:=aQ h
   rw [B]at a
   refine J (N (M (H (Q 1 Z ?_))))
   refine al (aq Z Z (dR _ c 4 (by decide))) Z ?_
   refine Q 1 Z ?_
   refine al (aL u30 Z (o.d a.fr)) Z (Q 1 Z ?_)
   refine J (N ?_)
   refine av Z (fun f=>?_) (fun f=>?_)
   ·have h:=aJ h f
    refine H (Q 4 Z ?_)
    refine al (aq Z Z (dR _ c 4 (by decide))) Z ?_
    obtain ⟨k,m,h⟩:=aj h
    refine al (aW u30 aZ Z Z (o.d a.fr) m) Z (al (aR u38 Z Z (o.d a.fr) m Z) Z (Q 1 Z ?_))
    refine al (aq Z Z (jX _ c 4 (by decide))) Z ?_
    refine al (aq Z Z (fj _ 8 (Int.tmod c 4))) Z ?_
    obtain ⟨x,h⟩:=bZ h
    refine al (aq Z Z (pu _ k (wI (8*(Int.tmod c 4))) x)) Z (al (aK Z (gK u38 Tryz.underlying5 (bC k (((wI (8*(Int.tmod c 4)))).toNat)))) Z ?_)
    obtain ⟨ab,n,h⟩:=aj h
    refine al (aW u24 ti5 Z Z (a.ro 0 Z) n) Z (bn (bP (t:=((bC k (((wI (8*(Int.tmod c 4)))).toNat)).toUInt8)) ti5 Z Z a (i:=0) Z n Z) ?_)
    intro w a
    obtain ⟨C,y,h⟩:=aQ h
    rw [y]at a
    refine J (aP ?_)
    refine N ?_
    exact ar _ (by exact ⟨Z,Z,Z,Z,V⟩) (l C _ _ ⟨Z,a⟩ h)
   have h:=aI h f
   refine aw (aP ?_)
   refine N ?_
   exact ar _ (by exact ⟨Z,Z,Z,Z,V⟩) (l G _ _ ⟨Z,a⟩ h)
  rintro D L w hJ h
  try dsimp only at hJ
  obtain ⟨rfl,a⟩:=hJ
  unfold F.Eh at h
  refine H (Q 2 Z ?_)
  refine J ?_
  exact bh (bo _ (by exact ⟨Z,Z,Z,Z,V⟩) (z (wI (p+1),D) _ _ ⟨Z,a⟩ (aY h q)))
 have h:=aI h e
 refine ba ?_
 refine aC (aC ?_)
 have h:=aT h q
 refine a9 ?_
 cases h
 exact gd Z ⟨Z,a.e [0] Z Z⟩
theorem sF {f:World} {a0:List UInt32} {c:Value} {r:List UInt8}
  (h:F.Fo a0=some r) (d:RP [] f U c a0):Calls Tryz.prog 171 #[c] f (Ret fun v w=>St [] f w [O e8 v r]):=by
 refine aN 16 Tryz.func171 Z Z Z ?_
 have a:=St.l f
 refine ar [(0,c)] ⟨Z,V⟩ ?_
 unfold F.Fo at h
 refine M (H (Q 1 Z ?_))
 refine J (N (M (H (Q 1 Z ?_))))
 obtain ⟨o,g,h⟩:=aj h
 refine ao Z (eQ  g (d.d a.fr).rp) Z ?_
 rintro _ w ⟨rfl,b⟩
 have a:=a.f b
 refine Q 1 Z ?_
 refine al (aq Z Z (dR _ (wI (o+7)) 8 (by decide))) Z ?_
 obtain ⟨p,i,h⟩:=aQ h
 refine al (aD (v:=vI p) (by rw [←i]; rfl)) Z ?_
 refine J (N (M (H (Q 1 Z ?_))))
 obtain ⟨q,j,h⟩:=aj h
 refine aU (cZ (e:=e8) u24 ti5 Z Z Z a j) Z ?_
 rintro s w a
 refine Q 1 Z ?_
 refine J (N (M (H (Q 2 Z ?_))))
 obtain ⟨t,k,h⟩:=aj h
 refine ao Z (cH  k (d.d a.fr).rp) Z ?_
 rintro _ w ⟨rfl,l,b⟩
 have a:=a.f b
 have m:=a.pick (os':=[O e8 s q]++[]) [0] (by decide) Z
 obtain ⟨u,n,h⟩:=aj h
 refine ao Z (nQ  n m.g ((d.tk3 l).g (R Z) m)) Z ?_
 rintro _ w ⟨rfl,b⟩
 have a:=m.h b
 refine J (N (M (H (Q 2 Z ?_))))
 refine J (N (ay ?_))
 cases h
 exact aM Z Z (a.e [0] Z Z)
theorem jw {i:World} {a0:List UInt32} {d:Value} (a1:Int) {r:Bool}
  (h:F.CS a0 a1=some r) (e:RP [] i U d a0):Calls Tryz.prog 80 #[d,vI a1] i (Ret fun v w=>v=vB r∧St [] i w []):=by
 refine aN 26 Tryz.func80 Z Z Z ?_
 have c:=St.l i
 refine ar [(0,d),(1,vI a1)] ⟨Z,Z,V⟩ ?_
 unfold F.CS at h
 refine M (H (Q 1 Z ?_))
 refine J (N (M (H (Q 3 Z ?_))))
 cases a:(decide ((0:Int)≤a1))
 case true=>
  have h:=aJ h a
  try simp only [a]
  refine Q 1 Z ?_
  refine aF (t:=7) Z Z (aq Z Z (dR _ a1 32 (by decide))) Z ?_
  refine Q 1 Z ?_
  refine aF (t:=7) Z Z (aL u31 Z (e.d c.fr)) Z (Q 3 Z ?_)
  cases b:(decide ((wI (Int.tdiv a1 32))<(a0.length:Int)))
  case true=>
   have h:=aJ h b
   try simp only [b]
   refine Q 2 Z ?_
   refine aF (t:=14) Z Z (aq Z Z (dR _ a1 32 (by decide))) Z ?_
   obtain ⟨f,g,h⟩:=aj h
   refine aF (t:=14) Z Z (aW u31 aZ Z Z (e.d c.fr) g) Z (aF (t:=14) Z Z (aR u38 Z Z (e.d c.fr) g Z) Z (Q 1 Z ?_))
   refine aF (t:=14) Z Z (aq Z Z (jX _ a1 32 (by decide))) Z ?_
   obtain ⟨j,h⟩:=bZ h
   refine aF (t:=14) Z Z (aq Z Z (pu _ f (Int.tmod a1 32) j)) Z (aF (t:=14) Z Z (aq Z Z (iX _ (bC f (((Int.tmod a1 32)).toNat)) 1)) Z (aF (t:=14) Z Z (aq Z Z (oJ _ ((bC f (((Int.tmod a1 32)).toNat)) &&& 1) 1)) Z (Q 2 Z ?_)))
   refine J (N (ay ?_))
   cases h
   exact aM Z Z ⟨Z,c⟩
  case false=>
   have h:=aI h b
   try simp only [b]
   refine Q 12 Z ?_
   refine J (N (ay ?_))
   cases h
   exact aM Z Z ⟨Z,c⟩
 case false=>
  have h:=aI h a
  try simp only [a]
  refine Q 19 Z ?_
  refine J (N (ay ?_))
  cases h
  exact aM Z Z ⟨Z,c⟩
theorem jH {j:World} {a0:List UInt32} {f:Value} (a1:Int) {r:List UInt32}
  (h:F.CP a0 a1=some r) (e:RP [] j U f a0):Calls Tryz.prog 147 #[f,vI a1] j (Ret fun v w=>St [] j w [O U v r]):=by
 refine aN 27 Tryz.func147 Z Z Z ?_
 have a:=St.l j
 refine ar [(0,f),(1,vI a1)] ⟨Z,Z,V⟩ ?_
 unfold F.CP at h
 refine M (H (Q 1 Z ?_))
 refine J (N (M (H (Q 1 Z ?_))))
 obtain ⟨t,k,h⟩:=aj h
 refine ao Z (cH  k (e.d a.fr).rp) Z ?_
 rintro _ w ⟨rfl,d,c⟩
 have a:=a.f c
 refine Q 1 Z ?_
 refine J (N (M (H (Q 1 Z ?_))))
 refine al (sX Z Z) Z (Q 1 Z ?_)
 refine J (N (M (M (H (Q 1 Z ?_)))))
 refine al (aq Z Z (dR _ (max a1 0) 32 (by decide))) Z ?_
 refine Q 1 Z ?_
 refine al (aL u30 Z ((e.tk3 d).d a.fr)) Z (Q 1 Z ?_)
 refine J (N ?_)
 refine av Z (fun b=>?_) (fun b=>?_)
 ·have h:=aJ h b
  refine M (H (Q 1 Z ?_))
  refine J (N (ay (aG ?_)))
  cases h
  exact aM Z Z ((a.nil U).e [0] Z Z)
 have h:=aI h b
 refine aw (N (M (H (Q 2 Z ?_))))
 refine al (aq Z Z (dR _ (max a1 0) 32 (by decide))) Z ?_
 obtain ⟨u,g,h⟩:=aj h
 refine al (uT u30 aZ Z Z ((e.tk3 d).d a.fr) g) Z ?_
 obtain ⟨p,l,h⟩:=aj h
 refine aU (jF u30 aZ Z Z Z a (((e.tk3 d).g_sll g).d a.fr) l) Z ?_
 rintro q w a
 refine Q 1 Z ?_
 refine J (N (M (H (Q 2 Z ?_))))
 refine al (aq Z Z (jX _ (max a1 0) 32 (by decide))) Z ?_
 have s:=a.pick (os':=[O U q p]++[]) [0] (by decide) Z
 obtain ⟨x,m,h⟩:=aj h
 refine ao Z (om (Int.tmod (max a1 0) 32) m s.g ) Z ?_
 rintro _ w ⟨rfl,c⟩
 have a:=s.h c
 refine J (N (M (H (Q 1 Z ?_))))
 obtain ⟨y,n,h⟩:=aj h
 refine ao Z (dh  n (a.ro 0 Z).rp) Z ?_
 rintro _ w ⟨rfl,o,c⟩
 have a:=a.f c
 refine Q 1 Z ?_
 refine J (N (ay ?_))
 cases h
 replace a:=a.trunc3 (i:=0) rfl o
 exact aM Z Z (a.e [0] Z Z)
theorem pG {k:World} {a0 a1:List UInt32} {y z:Value} {r:List UInt32}
  (h:F.D4 a0 a1=some r) (E:RP [] k U y a0) (G:RP [] k U z a1):Calls Tryz.prog 157 #[y,z] k (Ret fun v w=>St [] k w [O U v r]):=by
 refine aN 64 Tryz.func157 Z Z Z ?_
 have a:=St.l k
 refine ar [(0,y),(1,z)] ⟨Z,Z,V⟩ ?_
 unfold F.D4 at h
 refine M (H (Q 1 Z ?_))
 refine J (N (M (H (Q 1 Z ?_))))
 obtain ⟨l,aO,h⟩:=aj h
 refine ao Z (cH  aO (E.d a.fr).rp) Z ?_
 rintro _ w ⟨rfl,B,A⟩
 have a:=a.f A
 refine Q 1 Z ?_
 obtain ⟨m,aS,h⟩:=aj h
 refine ao Z (cH  aS (G.d a.fr).rp) Z ?_
 rintro _ w ⟨rfl,C,A⟩
 have a:=a.f A
 refine Q 2 Z ?_
 refine J (N ?_)
 refine bf (r:=r) (fun (g:List UInt32×List UInt32) L w=>∃(b:Value) (c:Value),L=[(5,b),(6,c)]∧RP [] k U b g.1∧RP [] k U c g.2∧St [] k w []) (F.EK) ?_ ?_
 rotate_left
 ·intro S
  refine M (H (Q 1 Z ?_))
  refine al (aL u30 Z ((E.tk3 B).d a.fr)) Z (Q 1 Z ?_)
  refine al (aL u30 Z ((G.tk3 C).d a.fr)) Z (Q 1 Z ?_)
  refine J (N ?_)
  refine av Z (fun D=>?_) (fun D=>?_)
  ·have h:=aJ h D
   refine H (Q 4 Z ?_)
   refine J (N ?_)
   exact ar _ (by exact ⟨Z,Z,V⟩) (S (a1.take m,a0.take l) _ _ ⟨slV3 z U.sz 0 m m,slV3 y U.sz 0 l l,Z,(G.tk3 C),(E.tk3 B),a⟩ h)
  have h:=aI h D
  refine aw (N ?_)
  exact ar _ (by exact ⟨Z,Z,V⟩) (S (a0.take l,a1.take m) _ _ ⟨slV3 y U.sz 0 l l,slV3 z U.sz 0 m m,Z,(E.tk3 B),(G.tk3 C),a⟩ h)
 rintro ⟨T,a4⟩ L w hJ h
 try dsimp only at hJ
 obtain ⟨b,c,rfl,d,n,a⟩:=hJ
 unfold F.EK at h
 refine M (H (Q 1 Z ?_))
 refine al (aL u30 Z (d.d a.fr)) Z (Q 1 Z ?_)
 obtain ⟨aV,ax,h⟩:=aj h
 refine aU (cZ (e:=U) u30 aZ Z Z Z a ax) Z ?_
 rintro f w a
 refine Q 1 Z ?_
 refine J (N (M (H (Q 1 Z ?_))))
 refine J (N (M (M (H (Q 1 Z ?_)))))
 refine al (aL u30 Z (d.d a.fr)) Z (Q 1 Z ?_)
 refine J (N (az ?_))
 refine ar [(5,b),(6,c),(7,f),(8,v64 0),(26,b),(27,vI (T.length:Int)),(28,vI 0)] ⟨Z,Z,Z,Z,Z,Z,Z,V⟩ ?_
 refine bd (F.DM T a4) (fun (s:UInt64×Int×List UInt32) L w=>L=[(5,b),(6,c),(7,f),(8,v64 s.1),(26,b),(27,vI (T.length:Int)),(28,vI s.2.1)]∧St [] k w [O U f s.2.2]) ?_ (0,0,aV) ⟨Z,a⟩ h
 rintro a5 ⟨j,o,an⟩ L w a2 hI aA h ab
 try dsimp only at hI
 obtain ⟨rfl,a⟩:=hI
 unfold F.DM at h
 refine M (H (Q 1 Z ?_))
 refine J (N (M ?_))
 refine av Z (fun p=>?_) (fun p=>?_)
 ·have h:=aJ h p
  refine aw (N (M (az ?_)))
  refine M (H (Q 1 Z ?_))
  obtain ⟨q,ac,h⟩:=aj h
  refine al (aW u30 aZ Z Z (d.d a.fr) ac) Z (al (aR u38 Z Z (d.d a.fr) ac Z) Z (Q 2 Z ?_))
  refine J (N (M (H (Q 2 Z ?_))))
  refine al (aK Z (bu u38 u87 q)) Z (al (aq Z Z (cv _ j q.toUInt64)) Z (Q 1 Z ?_))
  refine J (N ?_)
  refine bf (r:=a2) (fun (g:UInt64) L w=>L=[(5,b),(6,c),(7,f),(8,v64 g),(9,vI o),(26,b),(27,vI (T.length:Int)),(28,vI o)]∧St [] k w [O U f an]) (F.EG o an) ?_ ?_
  rotate_left
  ·intro ad
   refine M (H (Q 2 Z ?_))
   refine al (aL u30 Z (n.d a.fr)) Z (Q 1 Z ?_)
   refine J (N ?_)
   refine av Z (fun u=>?_) (fun u=>?_)
   ·have h:=aJ h u
    refine H (Q 3 Z ?_)
    obtain ⟨ap,ag,h⟩:=aj h
    refine al (aW u30 aZ Z Z (n.d a.fr) ag) Z (al (aR u38 Z Z (n.d a.fr) ag Z) Z (al (aK Z (bu u38 u87 ap)) Z (al (aq Z Z (cv _ (j+q.toUInt64) ap.toUInt64)) Z ?_)))
    obtain ⟨au,aB,h⟩:=aQ h
    refine al (aD (v:=v64 au) (by rw [←aB]; rfl)) Z ?_
    refine J (N ?_)
    exact ar _ (by exact ⟨Z,Z,Z,Z,Z,Z,Z,Z,V⟩) (ad au _ _ ⟨Z,a⟩ h)
   have h:=aI h u
   refine aw (N ?_)
   exact ar _ (by exact ⟨Z,Z,Z,Z,Z,Z,Z,Z,V⟩) (ad (j+q.toUInt64) _ _ ⟨Z,a⟩ h)
  rintro x L w hJ h
  try dsimp only at hJ
  obtain ⟨rfl,a⟩:=hJ
  unfold F.EG at h
  refine M (H (Q 3 Z ?_))
  refine al (aK Z (bQ u87 u38 x)) Z ?_
  obtain ⟨a6,ak,h⟩:=aj h
  refine al (aW u30 aZ Z Z (a.ro 0 Z) ak) Z (bn (bP (t:=x.toUInt32) aZ Z Z a (i:=0) Z ak Z) ?_)
  intro w a
  obtain ⟨a3,aE,h⟩:=aQ h
  rw [aE]at a
  refine J (N (H (Q 1 Z ?_)))
  refine al (aq Z Z (cq _ x 32)) Z (Q 1 Z ?_)
  refine J (aP ?_)
  refine N (H (Q 2 Z ?_))
  refine J ?_
  exact bh (bo _ (by exact ⟨Z,Z,Z,Z,Z,Z,Z,V⟩) (aA (aX x 32,wI (o+1),a3) _ _ ⟨Z,a⟩ (aY h ab)))
 have h:=aI h p
 refine ba ?_
 refine aC (aC ?_)
 have h:=aT h ab
 refine a9 ?_
 refine N (M (H (Q 2 Z ?_)))
 refine al (aL u30 Z (d.d a.fr)) Z (Q 1 Z ?_)
 refine al (aK Z (bQ u87 u38 j)) Z ?_
 obtain ⟨a7,am,h⟩:=aj h
 refine al (aW u30 aZ Z Z (a.ro 0 Z) am) Z (bn (bP (t:=j.toUInt32) aZ Z Z a (i:=0) Z am Z) ?_)
 intro w a
 obtain ⟨a8,aF,h⟩:=aQ h
 rw [aF]at a
 refine J (N (M (H (Q 1 Z ?_))))
 obtain ⟨bb,aG,h⟩:=aj h
 refine ao Z (dh  aG (a.ro 0 Z).rp) Z ?_
 rintro _ w ⟨rfl,aH,A⟩
 have a:=a.f A
 refine Q 1 Z ?_
 refine J (N (ay ?_))
 cases h
 replace a:=a.trunc3 (i:=0) rfl aH
 exact aM Z Z (a.e [0] Z Z)
end Go.Proofs
