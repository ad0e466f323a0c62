import Derived.Test.YtkickcbphbgldaaGreatDoorTW0
import Derived.Test.YtkickcbphbgldaaGreatDoorGkFman
import Derived.Test.YtkickcbphbgldaaGreatDoorTWlib
set_option linter.unusedVariables false
set_option linter.unusedSimpArgs false
set_option linter.unusedSectionVars false
set_option maxRecDepth 4000
namespace Go.Proofs
open Go Go.RowKit Go.Gk
open Go.Gk renaming aa → P, ae → O, af → H, ah → J, ai → I, e32 → U, own → N
open Nat renaming le_of_ble_eq_true → R
theorem db {l:World} {a0:List UInt32} {d:Value} {r:Nat}
  (h:F.BL a0=some r) (a:RP [] l U d a0):Calls Tryz.prog 62 #[d] l (Ret fun v w=>v=slV3 d U.sz 0 r r∧r≤a0.length∧St [] l w []):=by
 refine aH 26 Tryz.func62 Z Z Z ?_
 have b:=St.l l
 refine au [(0,d)] ⟨Z,V⟩ ?_
 unfold F.BL at h
 refine J (H (P 1 Z ?_))
 refine I (O (J (aD ?_)))
 refine au [(0,slV d U.sz 0 a0.length)] ⟨(congrArg some a.1.full),V⟩ ?_
 refine bj (F.DZ a0) (fun (s:Nat) L w=>L=[(0,slV d U.sz 0 s)]∧s≤a0.length∧St [] l w []) ?_ a0.length ⟨Z,(Nat.le_refl _),b⟩ h
 rintro x i L w u hI q h m
 try dsimp only at hI
 obtain ⟨rfl,c,b⟩:=hI
 unfold F.DZ at h
 refine J ?_
 refine a9 (r:=u) (fun (g:Bool) L w=>L=[(0,slV d U.sz 0 i),(14,vB g)]∧St [] l w []) (F.Cd a0 i) ?_ ?_
 rotate_left
 ·intro n
  refine H (P 1 Z ?_)
  refine am (aN u30 Z ((a.d b.fr).tk c)) Z (P 2 Z ?_)
  cases e:(decide ((0:Int)<((a0.take i).length:Int)))
  case true=>
   have h:=aJ h e
   try simp only [e]
   refine P 2 Z ?_
   refine bo (t:=6) Z Z (aN u30 Z ((a.d b.fr).tk c)) Z (P 1 Z ?_)
   obtain ⟨p,o,h⟩:=aj h
   refine bo (t:=6) Z Z (wg u30 aU Z Z (a.d b.fr) c o) Z (bo (t:=6) Z Z (bb u38 Z Z (a.d b.fr) (vf o) Z) Z (bo (t:=6) Z Z (aq Z Z (oG _ p 0)) Z (P 1 Z ?_)))
   refine I (O ?_)
   exact au _ (by exact ⟨Z,Z,V⟩) (n (p == 0) _ _ ⟨Z,b⟩ h)
  case false=>
   have h:=aI h e
   try simp only [e]
   refine P 8 Z ?_
   refine I (O ?_)
   exact au _ (by exact ⟨Z,Z,V⟩) (n false _ _ ⟨Z,b⟩ h)
 rintro y L w hJ h
 try dsimp only at hJ
 obtain ⟨rfl,b⟩:=hJ
 unfold F.Cd at h
 refine aw Z (fun f=>?_) (fun f=>?_)
 ·have h:=aJ h f
  refine az (O (aD ?_))
  refine H (P 2 Z ?_)
  refine am (aN u30 Z ((a.d b.fr).tk c)) Z (P 1 Z ?_)
  obtain ⟨j,h⟩:=bX h
  refine am (ue u30 aU Z Z (a.d b.fr) (k5 j)) Z (P 1 Z ?_)
  refine I (aR ?_)
  exact bv (bz _ (by exact ⟨Z,V⟩) (q ((wI (((a0.take i).length:Int) - 1):Int).toNat) _ _ ⟨Z,j.2,b⟩ (a8 h m)))
 have h:=aI h f
 refine bg ?_
 refine aF (aF ?_)
 have h:=aW h m
 refine bd ?_
 refine O (J (H (P 2 Z ?_)))
 refine am (aN u30 Z ((a.d b.fr).tk c)) Z (P 1 Z ?_)
 refine am (aN u30 Z ((a.d b.fr).tk c)) Z ?_
 obtain ⟨k,h⟩:=bX h
 refine am (qr u30 aU Z Z Z ((a.d b.fr).tk c) k) Z (P 1 Z ?_)
 refine I (O (ax ?_))
 cases h
 exact aG Z Z ⟨(a.1.cut3 _ _),(Nat.le_trans k.2.1 (sG _ _)),b⟩
theorem dk {m:World} {a0:List UInt8} {c:Value} {r:List UInt32}
  (h:F.BV a0=some r) (f:RP [] m e8 c a0):Calls Tryz.prog 22 #[c] m (Ret fun v w=>St [] m w [N U v r]):=by
 refine aH 40 Tryz.func22 Z Z Z ?_
 have a:=St.l m
 refine au [(0,c)] ⟨Z,V⟩ ?_
 unfold F.BV at h
 refine J (H (P 1 Z ?_))
 refine I (O (J (H (P 1 Z ?_))))
 refine am (aN u24 Z (f.d a.fr)) Z (P 1 Z ?_)
 refine am (aq Z Z (dI _ (wI ((a0.length:Int)+3)) 4 (by decide))) Z ?_
 obtain ⟨E,A,h⟩:=aj h
 refine aV (c8 (e:=U) u30 aU Z Z Z a A) Z ?_
 rintro g w a
 refine P 1 Z ?_
 refine I (O (J (J (H (P 1 Z ?_)))))
 refine am (aN u24 Z (f.d a.fr)) Z (P 1 Z ?_)
 refine I (O (aD ?_))
 refine au [(0,c),(3,g),(12,c),(13,vI (a0.length:Int)),(14,vI 0)] ⟨Z,Z,Z,Z,Z,V⟩ ?_
 refine bj (F.EA a0) (fun (s:Int×List UInt32) L w=>L=[(0,c),(3,g),(12,c),(13,vI (a0.length:Int)),(14,vI s.1)]∧St [] m w [N U g s.2]) ?_ (0,E) ⟨Z,a⟩ h
 rintro ab ⟨G,S⟩ L w ag hI B h n
 try dsimp only at hI
 obtain ⟨rfl,a⟩:=hI
 unfold F.EA at h
 refine J (H (P 1 Z ?_))
 refine I (O (J ?_))
 refine aw Z (fun d=>?_) (fun d=>?_)
 ·have h:=aJ h d
  refine az (O (J (aD ?_)))
  refine J (H (P 1 Z ?_))
  obtain ⟨j,o,h⟩:=aj h
  refine am (bk u24 ti5 Z Z (f.d a.fr) o) Z (am (bb Tryz.underlying5 Z Z (f.d a.fr) o Z) Z (P 2 Z ?_))
  refine I (O (J (H (P 1 Z ?_))))
  refine am (aN u24 Z (f.d a.fr)) Z (P 3 Z ?_)
  obtain ⟨b,q,h⟩:=aO h
  refine am (aA (v:=vI b) (by rw [←q]; rfl)) Z ?_
  refine I (O ?_)
  refine dK (fun w'=>St [] m w' [N U g S]) (fun i=>!([13].contains i)) bQ (fun _ _ _ C=>C.2) (fun _ _ C=>C) (by kernel_rfl) ?_
  have a:=a.drew
  show lxE _ _ _ _ _ _ _ [0,1,2,3,4,5,6,7,8,9,10,11,12,13] _ _
  refine al a Z Z (fun w hF=>ar Z) Z (al a Z Z (fun w hF=>ar Z) Z ?_)
  refine al a Z Z (fun w hF=>aq Z Z (dI _ b 4 (by decide))) Z ?_
  obtain ⟨p,k,h⟩:=aj h
  refine al a Z Z (fun w hF=>bk u30 aU Z Z (hF.ro 0 Z) k) Z (al a Z Z (fun w hF=>bb u38 Z Z (hF.ro 0 Z) k Z) Z (al a Z Z (fun w hF=>ar Z) Z (al a Z Z (fun w hF=>aM Z (jV Tryz.underlying5 u38 j)) Z (al a Z Z (fun w hF=>ar Z) Z ?_))))
  refine al a Z Z (fun w hF=>aq Z Z (jO _ b 4 (by decide))) Z ?_
  refine al a Z Z (fun w hF=>aq Z Z (fq _ 8 (Int.tmod b 4))) Z ?_
  obtain ⟨u,h⟩:=bX h
  refine al a Z Z (fun w hF=>aq Z Z (pv _ j.toUInt32 (wI (8*(Int.tmod b 4))) u)) Z (al a Z Z (fun w hF=>aq Z Z (ff _ p (cf j.toUInt32 (((wI (8*(Int.tmod b 4)))).toNat)))) Z ?_)
  obtain ⟨ac,l,h⟩:=aj h
  refine al a Z Z (fun w hF=>bk u30 aU Z Z (hF.ro 0 Z) l) Z (iH a Z Z (cb (t:=(p ||| (cf j.toUInt32 (((wI (8*(Int.tmod b 4)))).toNat)))) aU Z Z a (i:=0) Z l Z) ?_)
  intro w a
  obtain ⟨D,x,h⟩:=aO h
  rw [x]at a
  refine bl V ?_
  refine aR ?_
  refine O (H (P 2 Z ?_))
  refine I ?_
  exact bv (bz _ (by exact ⟨Z,Z,Z,Z,Z,V⟩) (B (wI (G+1),D) _ _ ⟨Z,a⟩ (a8 h n)))
 have h:=aI h d
 refine bg ?_
 refine aF (aF ?_)
 have h:=aW h n
 refine bd ?_
 refine O (J (H (P 1 Z ?_)))
 obtain ⟨ad,y,h⟩:=aj h
 refine ao Z (db  y (a.ro 0 Z).rp) Z ?_
 rintro _ w ⟨rfl,z,T⟩
 have a:=a.f T
 refine P 1 Z ?_
 refine I (O (ax ?_))
 cases h
 replace a:=a.trunc3 (i:=0) rfl z
 exact aG Z Z (a.e [0] Z Z)
theorem cA {b:World} {a0:List UInt32} {a:Value} {r:Nat}
  (h:F.BH a0=some r) (f:RP [] b U a a0):Calls Tryz.prog 63 #[a] b (Ret fun v w=>v=slV3 a U.sz 0 r r∧r≤a0.length∧St [] b w []):=by
 refine aH 5 Tryz.func63 Z Z Z ?_
 have c:=St.l b
 refine au [(0,a)] ⟨Z,V⟩ ?_
 unfold F.BH at h
 refine J (H (P 1 Z ?_))
 refine I (O (J (H (P 1 Z ?_))))
 obtain ⟨i,d,h⟩:=aj h
 refine ao Z (db  d (f.d c.fr).rp) Z ?_
 rintro _ w ⟨rfl,e,g⟩
 have c:=c.f g
 refine P 1 Z ?_
 refine I (O (ax ?_))
 cases h
 exact aG Z Z ⟨Z,e,c⟩
theorem f3 {m:World} {a0 a1:List UInt32} {n o:Value} {r:Int}
  (h:F.BZ a0 a1=some r) (d:RP [] m U n a0) (e:RP [] m U o a1):Calls Tryz.prog 24 #[n,o] m (Ret fun v w=>v=vI r∧St [] m w []):=by
 refine aH 51 Tryz.func24 Z Z Z ?_
 have a:=St.l m
 refine au [(0,n),(1,o)] ⟨Z,Z,V⟩ ?_
 unfold F.BZ at h
 refine J (H (P 1 Z ?_))
 refine I (O (J (H (P 1 Z ?_))))
 obtain ⟨p,C,h⟩:=aj h
 refine ao Z (cA  C (d.d a.fr).rp) Z ?_
 rintro _ w ⟨rfl,b,A⟩
 have a:=a.f A
 refine P 1 Z ?_
 obtain ⟨q,D,h⟩:=aj h
 refine ao Z (cA  D (e.d a.fr).rp) Z ?_
 rintro _ w ⟨rfl,c,A⟩
 have a:=a.f A
 refine P 2 Z ?_
 refine I (O (J (aD ?_)))
 refine J (H (P 1 Z ?_))
 refine am (aN u30 Z ((d.tk3 b).d a.fr)) Z (P 1 Z ?_)
 refine am (aN u30 Z ((e.tk3 c).d a.fr)) Z (P 2 Z ?_)
 refine I (O ?_)
 refine aw Z (fun f=>?_) (fun f=>?_)
 ·have h:=aJ h f
  refine J (H (P 1 Z ?_))
  refine I (O (ax (bP ?_)))
  refine aE ?_
  cases h
  exact aG Z Z ⟨Z,a⟩
 have h:=aI h f
 refine J (H (P 1 Z ?_))
 refine am (aN u30 Z ((d.tk3 b).d a.fr)) Z (P 1 Z ?_)
 refine am (aN u30 Z ((e.tk3 c).d a.fr)) Z (P 2 Z ?_)
 refine I (O ?_)
 refine aw Z (fun g=>?_) (fun g=>?_)
 ·have h:=aJ h g
  refine J (H (P 1 Z ?_))
  refine I (O (ax (bP ?_)))
  refine aE ?_
  cases h
  exact aG Z Z ⟨Z,a⟩
 have h:=aI h g
 refine az (aR ?_)
 refine O (J (J (H (P 1 Z ?_))))
 refine am (aN u30 Z ((d.tk3 b).d a.fr)) Z (P 1 Z ?_)
 obtain ⟨B,E,h⟩:=aO h
 refine am (aA (v:=vI B) (by rw [←E]; rfl)) Z ?_
 refine I (O (aD ?_))
 refine au [(5,slV3 n U.sz 0 p p),(6,slV3 o U.sz 0 q q),(7,vI B)] ⟨Z,Z,Z,V⟩ ?_
 refine bj (F.CK a0 a1 p q) (fun (s:Int) L w=>L=[(5,slV3 n U.sz 0 p p),(6,slV3 o U.sz 0 q q),(7,vI s)]∧St [] m w []) ?_ B ⟨Z,a⟩ h
 rintro ag ad L w ak hI G h i
 try dsimp only at hI
 obtain ⟨rfl,a⟩:=hI
 unfold F.CK at h
 refine J (J (H (P 2 Z ?_)))
 refine I (O ?_)
 refine aw Z (fun j=>?_) (fun j=>?_)
 ·have h:=aJ h j
  refine az (O (J (aD ?_)))
  refine aD ?_
  refine J ?_
  refine aY (fun w'=>St [] m w' []) (fun _=>true) bQ (fun _ _ _ t=>t.2) (fun _ _ t=>t) (by kernel_rfl) ?_
  have a:=a.drew
  show lxE _ _ _ _ _ _ _ [0,1,2,3,4,5,6,7,8,9] _ _
  refine al a Z Z (fun w hF=>ar Z) Z (al a Z Z (fun w hF=>ar Z) Z ?_)
  obtain ⟨S,u,h⟩:=aj h
  refine al a Z Z (fun w hF=>bk u30 aU Z Z ((d.tk3 b).d hF.fr) u) Z (al a Z Z (fun w hF=>bb u38 Z Z ((d.tk3 b).d hF.fr) u Z) Z (al a Z Z (fun w hF=>ar Z) Z (al a Z Z (fun w hF=>ar Z) Z ?_)))
  obtain ⟨T,x,h⟩:=aj h
  refine al a Z Z (fun w hF=>bk u30 aU Z Z ((e.tk3 c).d hF.fr) x) Z (al a Z Z (fun w hF=>bb u38 Z Z ((e.tk3 c).d hF.fr) x Z) Z (al a Z Z (fun w hF=>aq Z Z (oU _ S T)) Z (al a Z Z (fun w hF=>aA Z) Z (bl a ?_))))
  refine O ?_
  refine aw Z (fun k=>?_) (fun k=>?_)
  ·have h:=aJ h k
   refine J (H (P 1 Z ?_))
   refine I (O (ax (bP ?_)))
   refine bP ?_
   refine aE (aE ?_)
   have h:=aW h i
   refine bP ?_
   refine aE ?_
   cases h
   exact aG Z Z ⟨Z,a⟩
  have h:=aI h k
  refine J ?_
  refine aY (fun w'=>St [] m w' []) (fun _=>true) bQ (fun _ _ _ t=>t.2) (fun _ _ t=>t) (by kernel_rfl) ?_
  have a:=a.drew
  show lxE _ _ _ _ _ _ _ [0,1,2,3,4,5,6,7,8,9] _ _
  refine al a Z Z (fun w hF=>ar Z) Z (al a Z Z (fun w hF=>ar Z) Z ?_)
  obtain ⟨ab,y,h⟩:=aj h
  refine al a Z Z (fun w hF=>bk u30 aU Z Z ((d.tk3 b).d hF.fr) y) Z (al a Z Z (fun w hF=>bb u38 Z Z ((d.tk3 b).d hF.fr) y Z) Z (al a Z Z (fun w hF=>ar Z) Z (al a Z Z (fun w hF=>ar Z) Z ?_)))
  obtain ⟨ac,z,h⟩:=aj h
  refine al a Z Z (fun w hF=>bk u30 aU Z Z ((e.tk3 c).d hF.fr) z) Z (al a Z Z (fun w hF=>bb u38 Z Z ((e.tk3 c).d hF.fr) z Z) Z (al a Z Z (fun w hF=>aq Z Z (zf _ ab ac)) Z (al a Z Z (fun w hF=>aA Z) Z (bl a ?_))))
  refine O ?_
  refine aw Z (fun l=>?_) (fun l=>?_)
  ·have h:=aJ h l
   refine J (H (P 1 Z ?_))
   refine I (O (ax (bP ?_)))
   refine bP ?_
   refine aE (aE ?_)
   have h:=aW h i
   refine bP ?_
   refine aE ?_
   cases h
   exact aG Z Z ⟨Z,a⟩
  have h:=aI h l
  refine az (aR ?_)
  refine aR ?_
  refine O (H (P 3 Z ?_))
  refine I ?_
  exact bv (bz _ (by exact ⟨Z,Z,Z,V⟩) (G (wI (ad - 1)) _ _ ⟨Z,a⟩ (a8 h i)))
 have h:=aI h j
 refine bg ?_
 refine aF (aF ?_)
 have h:=aW h i
 refine bd ?_
 refine O (J (H (P 1 Z ?_)))
 refine I (O (ax ?_))
 cases h
 exact aG Z Z ⟨Z,a⟩
theorem so {k:World} {a0:List UInt32} {c:Value} (a1:UInt32) {r:List UInt32×UInt32}
  (h:F.E0 a0 a1=some r) (d:RP [] k U c a0):Calls Tryz.prog 68 #[c,v32 a1] k (Ret fun v w=>∃u0:Value,v=.tuple #[u0,v32 r.2]∧St [] k w [N U u0 r.1]):=by
 refine aH 34 Tryz.func68 Z Z Z ?_
 have a:=St.l k
 refine au [(0,c),(1,v32 a1)] ⟨Z,Z,V⟩ ?_
 unfold F.E0 at h
 refine J (H (P 2 Z ?_))
 refine I (O (J (H (P 1 Z ?_))))
 refine am (aN u30 Z (d.d a.fr)) Z ?_
 obtain ⟨A,q,h⟩:=aj h
 refine aV (c8 (e:=U) u30 aU Z Z Z a q) Z ?_
 rintro f w a
 refine P 1 Z ?_
 refine I (O (J (H (P 1 Z ?_))))
 refine I (O (J (J (H (P 1 Z ?_)))))
 refine am (aN u30 Z (d.d a.fr)) Z (P 1 Z ?_)
 obtain ⟨l,u,h⟩:=aO h
 refine am (aA (v:=vI l) (by rw [←u]; rfl)) Z ?_
 refine I (O (aD ?_))
 refine au [(0,c),(1,v32 a1),(6,f),(7,v32 0),(8,vI l)] ⟨Z,Z,Z,Z,Z,V⟩ ?_
 refine bj (F.Dd a0 a1) (fun (s:UInt32×Int×List UInt32) L w=>L=[(0,c),(1,v32 a1),(6,f),(7,v32 s.1),(8,vI s.2.1)]∧St [] k w [N U f s.2.2]) ?_ (0,l,A) ⟨Z,a⟩ h
 rintro E ⟨B,C,T⟩ L w G hI x h m
 try dsimp only at hI
 obtain ⟨rfl,a⟩:=hI
 unfold F.Dd at h
 refine J (J (H (P 2 Z ?_)))
 refine I (O ?_)
 refine aw Z (fun b=>?_) (fun b=>?_)
 ·have h:=aJ h b
  refine az (O (J (aD ?_)))
  refine H (P 5 Z ?_)
  obtain ⟨y,g,h⟩:=aj h
  refine am (bk u30 aU Z Z (d.d a.fr) g) Z (am (bb u38 Z Z (d.d a.fr) g Z) Z (P 1 Z ?_))
  obtain ⟨n,o,h⟩:=aj h
  refine ao Z (ms B y a1 o ) Z ?_
  rintro _ w ⟨rfl,D⟩
  have a:=a.f D
  refine P 3 Z ?_
  obtain ⟨S,j,h⟩:=aj h
  refine am (bk u30 aU Z Z (a.ro 0 Z) j) Z (bn (cb (t:=n.1) aU Z Z a (i:=0) Z j Z) ?_)
  intro w a
  obtain ⟨z,p,h⟩:=aO h
  rw [p]at a
  refine P 1 Z ?_
  refine I (aR ?_)
  refine O (H (P 3 Z ?_))
  refine I ?_
  exact bv (bz _ (by exact ⟨Z,Z,Z,Z,Z,V⟩) (x (n.2,wI (C - 1),z) _ _ ⟨Z,a⟩ (a8 h m)))
 have h:=aI h b
 refine bg ?_
 refine aF (aF ?_)
 have h:=aW h m
 refine bd ?_
 refine O (J (H (P 4 Z ?_)))
 refine I (O (ax ?_))
 cases h
 exact bU Z Z Z ⟨f,Z,a.e [0] Z Z⟩
theorem oL {b:World} (a0:UInt64) {r:List UInt32}
  (h:F.EL a0=some r) :Calls Tryz.prog 69 #[v64 a0] b (Ret fun v w=>St [] b w [N U v r]):=by
 refine aH 10 Tryz.func69 Z Z Z ?_
 have a:=St.l b
 refine au [(0,v64 a0)] ⟨Z,V⟩ ?_
 unfold F.EL at h
 refine J (H (P 1 Z ?_))
 refine I (O (J (H (P 1 Z ?_))))
 refine am (aM Z (bO u87 u38 a0)) Z (P 1 Z ?_)
 refine am (aq Z Z (cl _ a0 32)) Z (am (aM Z (bO u87 u38 (aP a0 32))) Z ?_)
 refine aV (cL (e:=U) (l:=([a0.toUInt32,(aP a0 32).toUInt32]:List UInt32)) (vs:=[v32 a0.toUInt32,v32 ((aP a0 32).toUInt32)]) u30 aU Z Z Z Z (by decide) (by decide) a) Z ?_
 rintro g w a
 obtain ⟨j,c,h⟩:=aj h
 refine ao Z (db  c (a.ro 0 Z).rp) Z ?_
 rintro _ w ⟨rfl,d,f⟩
 have a:=a.f f
 refine P 1 Z ?_
 refine I (O (ax ?_))
 cases h
 replace a:=a.trunc3 (i:=0) rfl d
 exact aG Z Z (a.e [0] Z Z)
theorem qf {l:World} {a0 a1:List UInt32} {k e f:Value} {S:List Nat} (a d:Nat) (a2:Int) {r:List UInt32}
  (h:F.DQ a0 a d a1 a2=some r) (b:St S l l [N U k a0]) (u:lB k U.sz a d f) (x:RP S l U e a1):Calls Tryz.prog 128 #[f,e,vI a2] l (Ret fun v w=>v=.tuple #[]∧St S l w [N U k r]):=by
 refine aH 37 Tryz.func128 Z Z Z ?_
 refine au [(0,f),(1,e),(2,vI a2)] ⟨Z,Z,Z,V⟩ ?_
 unfold F.DQ at h
 refine J (H (P 1 Z ?_))
 refine I (O (J (H (P 1 Z ?_))))
 refine am (aN u30 Z ((b.ro 0 Z).po u)) Z (P 1 Z ?_)
 refine I (O (aD ?_))
 refine au [(0,f),(1,e),(2,vI a2),(6,v32 0),(10,vI (((a0.drop a).take (d - a)).length:Int)),(11,vI 0)] ⟨Z,Z,Z,Z,Z,Z,V⟩ ?_
 refine bj (F.Dz a d a0 a1 a2) (fun (s:UInt32×Int×List UInt32) L w=>L=[(0,f),(1,e),(2,vI a2),(6,v32 s.1),(10,vI (((a0.drop a).take (d - a)).length:Int)),(11,vI s.2.1)]∧St S l w [N U k s.2.2]) ?_ (0,0,a0) ⟨Z,b⟩ h
 rintro ag ⟨n,o,G⟩ L w ac hI T h y
 try dsimp only at hI
 obtain ⟨rfl,b⟩:=hI
 unfold F.Dz at h
 refine J (H (P 1 Z ?_))
 refine I (O (J ?_))
 refine aw Z (fun j=>?_) (fun j=>?_)
 ·have h:=aJ h j
  refine az (O (J (aD ?_)))
  refine J (H (P 2 Z ?_))
  refine I (O (J (H (P 1 Z ?_))))
  refine I (O ?_)
  refine a9 (r:=ac) (fun (g:UInt32) L w=>L=[(0,f),(1,e),(2,vI a2),(6,v32 n),(7,vI o),(8,v32 g),(10,vI (((a0.drop a).take (d - a)).length:Int)),(11,vI o)]∧St S l w [N U k G]) (F.DW a d a2 n o G) ?_ ?_
  rotate_left
  ·intro p
   refine J (H (P 2 Z ?_))
   refine am (aN u30 Z (x.d b.fr)) Z (P 1 Z ?_)
   refine I (O ?_)
   refine aw Z (fun m=>?_) (fun m=>?_)
   ·have h:=aJ h m
    refine H (P 2 Z ?_)
    obtain ⟨ad,z,h⟩:=aj h
    refine am (bk u30 aU Z Z (x.d b.fr) z) Z (am (bb u38 Z Z (x.d b.fr) z Z) Z (P 1 Z ?_))
    refine I (O ?_)
    exact au _ (by exact ⟨Z,Z,Z,Z,Z,Z,Z,Z,V⟩) (p ad _ _ ⟨Z,b⟩ h)
   have h:=aI h m
   refine az (O ?_)
   exact au _ (by exact ⟨Z,Z,Z,Z,Z,Z,Z,Z,V⟩) (p 0 _ _ ⟨Z,b⟩ h)
  rintro c L w hJ h
  try dsimp only at hJ
  obtain ⟨rfl,b⟩:=hJ
  unfold F.DW at h
  refine J (H (P 4 Z ?_))
  obtain ⟨B,h⟩:=bX h
  refine am (aq Z Z (pv _ c a2 B)) Z (P 1 Z ?_)
  refine am (aq Z Z (ff _ (cf c ((a2).toNat)) n)) Z ?_
  obtain ⟨ak,q,h⟩:=aj h
  refine am (bk u30 aU Z Z ((b.ro 0 Z).po u) q) Z (bn (qw (t:=((cf c ((a2).toNat)) ||| n)) aU Z Z b (i:=0) Z u q Z) ?_)
  intro w b
  obtain ⟨ab,C,h⟩:=aO h
  rw [C]at b
  refine I (O (H (P 1 Z ?_)))
  refine am (aM Z (bp u38 u87 c)) Z (P 1 Z ?_)
  obtain ⟨D,h⟩:=bX h
  refine am (aq Z Z (vO _ c.toUInt64 a2 D)) Z (am (aq Z Z (cl _ (bm c.toUInt64 ((a2).toNat)) 32)) Z (am (aM Z (bO u87 u38 (aP (bm c.toUInt64 ((a2).toNat)) 32))) Z ?_))
  obtain ⟨A,E,h⟩:=aO h
  refine am (aA (v:=v32 A) (by rw [←E]; rfl)) Z ?_
  refine I (aR ?_)
  refine O (H (P 2 Z ?_))
  refine I ?_
  exact bv (bz _ (by exact ⟨Z,Z,Z,Z,Z,Z,V⟩) (T (A,wI (o+1),ab) _ _ ⟨Z,b⟩ (a8 h y)))
 have h:=aI h j
 refine bg ?_
 refine aF (aF ?_)
 have h:=aW h y
 refine bd ?_
 cases h
 exact f5 Z ⟨Z,b.e [0] Z Z⟩
theorem oz {i:World} {a0 a1:List UInt32} {l m:Value} {r:UInt64}
  (h:F.Fo a0 a1=some r) (n:RP [] i U l a0) (d:RP [] i U m a1):Calls Tryz.prog 129 #[l,m] i (Ret fun v w=>v=v64 r∧St [] i w []):=by
 refine aH 75 Tryz.func129 Z Z Z ?_
 have a:=St.l i
 refine au [(0,l),(1,m)] ⟨Z,Z,V⟩ ?_
 unfold F.Fo at h
 refine J (H (P 1 Z ?_))
 refine I (O (J (H (P 1 Z ?_))))
 refine am (aN u30 Z (d.d a.fr)) Z (P 1 Z ?_)
 refine I (O (J ?_))
 refine aY (fun w'=>St [] i w' []) (fun _=>true) bQ (fun _ _ _ j=>j.2) (fun _ _ j=>j) (by kernel_rfl) ?_
 have a:=a.drew
 show lxE _ _ _ _ _ _ _ [0,1,2,3,4,5,6,7,8,9,10,11,12,13] _ _
 refine al a Z Z (fun w hF=>ar Z) Z (al a Z Z (fun w hF=>ar Z) Z ?_)
 obtain ⟨S,T,h⟩:=aj h
 refine al a Z Z (fun w hF=>bk u30 aU Z Z (n.d hF.fr) T) Z (al a Z Z (fun w hF=>bb u38 Z Z (n.d hF.fr) T Z) Z (al a Z Z (fun w hF=>aM Z (bp u38 u87 S)) Z (al a Z Z (fun w hF=>aq Z Z (c6 _ S.toUInt64 32)) Z (al a Z Z (fun w hF=>ar Z) Z (al a Z Z (fun w hF=>ar Z) Z (al a Z Z (fun w hF=>aq Z Z (dC _ (a1.length:Int) 1)) Z ?_))))))
 obtain ⟨ak,ab,h⟩:=aj h
 refine al a Z Z (fun w hF=>bk u30 aU Z Z (n.d hF.fr) ab) Z (al a Z Z (fun w hF=>bb u38 Z Z (n.d hF.fr) ab Z) Z (al a Z Z (fun w hF=>aM Z (bp u38 u87 ak)) Z (al a Z Z (fun w hF=>aq Z Z (eG _ (bm S.toUInt64 32) ak.toUInt64)) Z ?_)))
 obtain ⟨k,an,h⟩:=aO h
 refine al a Z Z (fun w hF=>aA (v:=v64 k) (by rw [←an]; rfl)) Z ?_
 refine bl a ?_
 refine O (J ?_)
 refine aY (fun w'=>St [] i w' []) (fun _=>true) bQ (fun _ _ _ j=>j.2) (fun _ _ j=>j) (by kernel_rfl) ?_
 have a:=a.drew
 show lxE _ _ _ _ _ _ _ [0,1,2,3,4,5,6,7,8,9,10,11,12,13,14,15,16,17] _ _
 refine al a Z Z (fun w hF=>ar Z) Z (al a Z Z (fun w hF=>ar Z) Z (al a Z Z (fun w hF=>ar Z) Z (al a Z Z (fun w hF=>aq Z Z (dC _ (a1.length:Int) 1)) Z ?_)))
 obtain ⟨z,ac,h⟩:=aj h
 refine al a Z Z (fun w hF=>bk u30 aU Z Z (d.d hF.fr) ac) Z (al a Z Z (fun w hF=>bb u38 Z Z (d.d hF.fr) ac Z) Z (al a Z Z (fun w hF=>aM Z (bp u38 u87 z)) Z ?_))
 obtain ⟨ao,h⟩:=bX h
 refine al a Z Z (fun w hF=>aq Z Z (gE _ k z.toUInt64 ao)) Z (al a Z Z (fun w hF=>ar Z) Z (al a Z Z (fun w hF=>ar Z) Z (al a Z Z (fun w hF=>ar Z) Z (al a Z Z (fun w hF=>aq Z Z (dC _ (a1.length:Int) 1)) Z ?_))))
 obtain ⟨A,ad,h⟩:=aj h
 refine al a Z Z (fun w hF=>bk u30 aU Z Z (d.d hF.fr) ad) Z (al a Z Z (fun w hF=>bb u38 Z Z (d.d hF.fr) ad Z) Z (al a Z Z (fun w hF=>aM Z (bp u38 u87 A)) Z ?_))
 obtain ⟨ap,h⟩:=bX h
 refine al a Z Z (fun w hF=>aq Z Z (ez _ k A.toUInt64 ap)) Z (al a Z Z (fun w hF=>aA Z) Z (al a Z Z (fun w hF=>aA Z) Z (bl a ?_)))
 refine O ?_
 refine a9 (r:=r) (fun (g:UInt64) L w=>L=[(7,v64 g)]∧St [] i w []) (F.FI) ?_ ?_
 rotate_left
 ·intro B
  refine aD ?_
  refine au [(0,l),(1,m),(5,vI (a1.length:Int)),(7,v64 (k / z.toUInt64)),(8,v64 (k%A.toUInt64))] ⟨Z,Z,Z,Z,Z,V⟩ ?_
  refine bj (F.B2 a0 a1) (fun (s:UInt64×UInt64) L w=>L=[(0,l),(1,m),(5,vI (a1.length:Int)),(7,v64 s.1),(8,v64 s.2)]∧St [] i w []) ?_ (k / z.toUInt64,k%A.toUInt64) ⟨Z,a⟩ h
  rintro ay ⟨c,e⟩ L w av hI ag h o
  try dsimp only at hI
  obtain ⟨rfl,a⟩:=hI
  unfold F.B2 at h
  refine J ?_
  refine a9 (r:=av) (fun (g:Bool) L w=>L=[(0,l),(1,m),(5,vI (a1.length:Int)),(7,v64 c),(8,v64 e),(61,vB g)]∧St [] i w []) (F.Cp a1 c e) ?_ ?_
  rotate_left
  ·intro C
   refine aY (fun w'=>St [] i w' []) (fun _=>true) bQ (fun _ _ _ j=>j.2) (fun _ _ j=>j) (by kernel_rfl) ?_
   have a:=a.drew
   show lxE _ _ _ _ _ _ _ [0,1,2,3,4,5,6,7,8,9,10,11,12,13,14,15,16,17,18,19,20,21] _ _
   refine al a Z Z (fun w hF=>ar Z) Z (al a Z Z (fun w hF=>aq Z Z (tg _ c 4294967296)) Z (al a Z Z (fun w hF=>ar Z) Z ?_))
   cases f:(decide ((4294967296:UInt64)≤c))
   case true=>
    have h:=aJ h f
    try simp only [f]
    refine cy (b:=true) (t:=42) a Z Z Z Z Z Z (cy (b:=true) (t:=42) a Z Z Z Z Z Z (cy (b:=true) (t:=42) a Z Z Z Z Z Z (cy (b:=true) (t:=42) a Z Z Z Z Z Z (cy (b:=true) (t:=42) a Z Z Z Z Z Z (cy (b:=true) (t:=42) a Z Z Z Z Z Z (cy (b:=true) (t:=42) a Z Z Z Z Z Z (cy (b:=true) (t:=42) a Z Z Z Z Z Z (cy (b:=true) (t:=42) a Z Z Z Z Z Z ?_))))))))
    refine cy (b:=true) (t:=42) a Z Z Z Z Z Z (cy (b:=true) (t:=42) a Z Z Z Z Z Z (cy (b:=true) (t:=42) a Z Z Z Z Z Z (cy (b:=true) (t:=42) a Z Z Z Z Z Z (cy (b:=true) (t:=42) a Z Z Z Z Z Z (cy (b:=true) (t:=42) a Z Z Z Z Z Z (cy (b:=true) (t:=42) a Z Z Z Z Z Z (cy (b:=true) (t:=42) a Z Z Z Z Z Z (cy (b:=true) (t:=42) a Z Z Z Z Z Z ?_))))))))
    refine al a Z Z (fun w hF=>pe Z Z) Z (bl a ?_)
    refine O ?_
    exact au _ (by exact ⟨Z,Z,Z,Z,Z,Z,V⟩) (C true _ _ ⟨Z,a⟩ h)
   case false=>
    have h:=aI h f
    try simp only [f]
    refine dx (t:=42) a Z Z Z Z (fun w hF=>ar Z) Z (dx (t:=42) a Z Z Z Z (fun w hF=>ar Z) Z (dx (t:=42) a Z Z Z Z (fun w hF=>ar Z) Z (dx (t:=42) a Z Z Z Z (fun w hF=>aq Z Z (dC _ (a1.length:Int) 2)) Z ?_)))
    obtain ⟨p,D,h⟩:=aj h
    refine dx (t:=42) a Z Z Z Z (fun w hF=>bk u30 aU Z Z (d.d hF.fr) D) Z (dx (t:=42) a Z Z Z Z (fun w hF=>bb u38 Z Z (d.d hF.fr) D Z) Z (dx (t:=42) a Z Z Z Z (fun w hF=>aM Z (bp u38 u87 p)) Z (dx (t:=42) a Z Z Z Z (fun w hF=>aq Z Z (gy _ c p.toUInt64)) Z (dx (t:=42) a Z Z Z Z (fun w hF=>ar Z) Z (dx (t:=42) a Z Z Z Z (fun w hF=>aq Z Z (c6 _ e 32)) Z (dx (t:=42) a Z Z Z Z (fun w hF=>ar Z) Z (dx (t:=42) a Z Z Z Z (fun w hF=>ar Z) Z (dx (t:=42) a Z Z Z Z (fun w hF=>aq Z Z (dC _ (a1.length:Int) 2)) Z ?_))))))))
    obtain ⟨q,E,h⟩:=aj h
    refine dx (t:=42) a Z Z Z Z (fun w hF=>bk u30 aU Z Z (n.d hF.fr) E) Z (dx (t:=42) a Z Z Z Z (fun w hF=>bb u38 Z Z (n.d hF.fr) E Z) Z (dx (t:=42) a Z Z Z Z (fun w hF=>aM Z (bp u38 u87 q)) Z (dx (t:=42) a Z Z Z Z (fun w hF=>aq Z Z (eG _ (bm e 32) q.toUInt64)) Z (dx (t:=42) a Z Z Z Z (fun w hF=>aq Z Z (lV _ (c*p.toUInt64) ((bm e 32) ||| q.toUInt64))) Z (al a Z Z (fun w hF=>pc Z Z) Z (bl a ?_))))))
    refine O ?_
    exact au _ (by exact ⟨Z,Z,Z,Z,Z,Z,V⟩) (C (decide (((bm e 32) ||| q.toUInt64)<(c*p.toUInt64))) _ _ ⟨Z,a⟩ h)
  rintro aB L w hJ h
  try dsimp only at hJ
  obtain ⟨rfl,a⟩:=hJ
  unfold F.Cp at h
  refine aw Z (fun u=>?_) (fun u=>?_)
  ·have h:=aJ h u
   refine az (O (aD ?_))
   refine J (H (P 1 Z ?_))
   refine am (aq Z Z (ek _ c 1)) Z (P 1 Z ?_)
   refine I (O (J (H (P 4 Z ?_))))
   obtain ⟨x,G,h⟩:=aj h
   refine am (bk u30 aU Z Z (d.d a.fr) G) Z (am (bb u38 Z Z (d.d a.fr) G Z) Z (am (aM Z (bp u38 u87 x)) Z (am (aq Z Z (cq _ e x.toUInt64)) Z (P 1 Z ?_))))
   refine I (O (J (H (P 1 Z ?_))))
   refine am (aq Z Z (tg _ (e+x.toUInt64) 4294967296)) Z (I (O ?_))
   refine aw Z (fun y=>?_) (fun y=>?_)
   ·have h:=aJ h y
    refine bg ?_
    refine m0 Z ?_
    refine aF ?_
    have h:=aW h o
    refine bd ?_
    refine O ?_
    exact au _ (by exact ⟨Z,V⟩) (B (c - 1) _ _ ⟨Z,a⟩ h)
   have h:=aI h y
   refine az (aR ?_)
   exact bv (bz _ (by exact ⟨Z,Z,Z,Z,Z,V⟩) (ag (c - 1,e+x.toUInt64) _ _ ⟨Z,a⟩ (a8 h o)))
  have h:=aI h u
  refine bg ?_
  refine aF (aF ?_)
  have h:=aW h o
  refine bd ?_
  refine O ?_
  exact au _ (by exact ⟨Z,V⟩) (B c _ _ ⟨Z,a⟩ h)
 rintro aC L w hJ h
 try dsimp only at hJ
 obtain ⟨rfl,a⟩:=hJ
 unfold F.FI at h
 refine J (H (P 2 Z ?_))
 refine I (O (ax ?_))
 cases h
 exact aG Z Z ⟨Z,a⟩
theorem se {d:World} {a0 a1:List UInt32} {e f:Value} {r:Bool}
  (h:F.Dj a0 a1=some r) (g:RP [] d U e a0) (k:RP [] d U f a1):Calls Tryz.prog 130 #[e,f] d (Ret fun v w=>v=vB r∧St [] d w []):=by
 refine aH 31 Tryz.func130 Z Z Z ?_
 have a:=St.l d
 refine au [(0,e),(1,f)] ⟨Z,Z,V⟩ ?_
 unfold F.Dj at h
 refine J (H (P 1 Z ?_))
 refine I (O (J (J (H (P 1 Z ?_)))))
 refine am (aN u30 Z (g.d a.fr)) Z (P 1 Z ?_)
 obtain ⟨l,q,h⟩:=aO h
 refine am (aA (v:=vI l) (by rw [←q]; rfl)) Z ?_
 refine I (O (aD ?_))
 refine au [(0,e),(1,f),(5,vI l)] ⟨Z,Z,Z,V⟩ ?_
 refine bj (F.B5 a0 a1) (fun (s:Int) L w=>L=[(0,e),(1,f),(5,vI s)]∧St [] d w []) ?_ l ⟨Z,a⟩ h
 rintro B u L w C hI t h i
 try dsimp only at hI
 obtain ⟨rfl,a⟩:=hI
 unfold F.B5 at h
 refine J (J (H (P 2 Z ?_)))
 refine I (O ?_)
 refine aw Z (fun b=>?_) (fun b=>?_)
 ·have h:=aJ h b
  refine az (O (J (aD ?_)))
  refine J ?_
  refine aY (fun w'=>St [] d w' []) (fun _=>true) bQ (fun _ _ _ j=>j.2) (fun _ _ j=>j) (by kernel_rfl) ?_
  have a:=a.drew
  show lxE _ _ _ _ _ _ _ [0,1,2,3,4,5,6,7,8] _ _
  refine al a Z Z (fun w hF=>ar Z) Z (al a Z Z (fun w hF=>ar Z) Z ?_)
  obtain ⟨x,m,h⟩:=aj h
  refine al a Z Z (fun w hF=>bk u30 aU Z Z (g.d hF.fr) m) Z (al a Z Z (fun w hF=>bb u38 Z Z (g.d hF.fr) m Z) Z (al a Z Z (fun w hF=>ar Z) Z (al a Z Z (fun w hF=>ar Z) Z ?_)))
  obtain ⟨y,n,h⟩:=aj h
  refine al a Z Z (fun w hF=>bk u30 aU Z Z (k.d hF.fr) n) Z (al a Z Z (fun w hF=>bb u38 Z Z (k.d hF.fr) n Z) Z (al a Z Z (fun w hF=>aq Z Z (jW _ x y)) Z (bl a ?_)))
  refine O ?_
  refine aw Z (fun c=>?_) (fun c=>?_)
  ·have h:=aJ h c
   refine J ?_
   refine aY (fun w'=>St [] d w' []) (fun _=>true) bQ (fun _ _ _ j=>j.2) (fun _ _ j=>j) (by kernel_rfl) ?_
   have a:=a.drew
   show lxE _ _ _ _ _ _ _ [0,1,2,3,4,5,6,7,8,9] _ _
   refine al a Z Z (fun w hF=>ar Z) Z (al a Z Z (fun w hF=>ar Z) Z ?_)
   obtain ⟨z,o,h⟩:=aj h
   refine al a Z Z (fun w hF=>bk u30 aU Z Z (g.d hF.fr) o) Z (al a Z Z (fun w hF=>bb u38 Z Z (g.d hF.fr) o Z) Z (al a Z Z (fun w hF=>ar Z) Z (al a Z Z (fun w hF=>ar Z) Z ?_)))
   obtain ⟨A,p,h⟩:=aj h
   refine al a Z Z (fun w hF=>bk u30 aU Z Z (k.d hF.fr) p) Z (al a Z Z (fun w hF=>bb u38 Z Z (k.d hF.fr) p Z) Z (al a Z Z (fun w hF=>aq Z Z (oU _ z A)) Z (al a Z Z (fun w hF=>aA Z) Z (bl a ?_))))
   refine O (ax (bP ?_))
   refine aE (aE ?_)
   have h:=aW h i
   refine bP ?_
   refine aE ?_
   cases h
   exact aG Z Z ⟨Z,a⟩
  have h:=aI h c
  refine az (aR ?_)
  refine O (H (P 3 Z ?_))
  refine I ?_
  exact bv (bz _ (by exact ⟨Z,Z,Z,V⟩) (t (wI (u - 1)) _ _ ⟨Z,a⟩ (a8 h i)))
 have h:=aI h b
 refine bg ?_
 refine aF (aF ?_)
 have h:=aW h i
 refine bd ?_
 refine O (J (H (P 1 Z ?_)))
 refine I (O (ax ?_))
 cases h
 exact aG Z Z ⟨Z,a⟩
theorem nB {l:World} {a0 a1:List UInt32} {j d e:Value} {S:List Nat} (b c:Nat) {r:UInt32×List UInt32}
  (h:F.Cg a0 b c a1=some r) (a:St S l l [N U j a0]) (k:lB j U.sz b c e) (u:RP S l U d a1):Calls Tryz.prog 65 #[e,d] l (Ret fun v w=>v=v32 r.1∧St S l w [N U j r.2]):=by
 refine aH 36 Tryz.func65 Z Z Z ?_
 refine au [(0,e),(1,d)] ⟨Z,Z,V⟩ ?_
 unfold F.Cg at h
 refine J (H (P 1 Z ?_))
 refine I (O (J (H (P 1 Z ?_))))
 refine I (O (J (J (H (P 1 Z ?_)))))
 refine am (aN u30 Z ((a.ro 0 Z).po k)) Z (P 1 Z ?_)
 refine I (O (aD ?_))
 refine au [(0,e),(1,d),(5,v32 0),(9,vI (((a0.drop b).take (c - b)).length:Int)),(10,vI 0)] ⟨Z,Z,Z,Z,Z,V⟩ ?_
 refine bj (F.CS b c a0 a1) (fun (s:UInt32×Int×List UInt32) L w=>L=[(0,e),(1,d),(5,v32 s.1),(9,vI (((a0.drop b).take (c - b)).length:Int)),(10,vI s.2.1)]∧St S l w [N U j s.2.2]) ?_ (0,0,a0) ⟨Z,a⟩ h
 rintro ak ⟨x,n,D⟩ L w ac hI E h y
 try dsimp only at hI
 obtain ⟨rfl,a⟩:=hI
 unfold F.CS at h
 refine J (H (P 1 Z ?_))
 refine I (O (J ?_))
 refine aw Z (fun f=>?_) (fun f=>?_)
 ·have h:=aJ h f
  refine az (O (J (aD ?_)))
  refine J (H (P 2 Z ?_))
  refine I (O (J (H (P 1 Z ?_))))
  refine I (O ?_)
  refine a9 (r:=ac) (fun (g:UInt32) L w=>L=[(0,e),(1,d),(5,v32 x),(6,vI n),(7,v32 g),(9,vI (((a0.drop b).take (c - b)).length:Int)),(10,vI n)]∧St S l w [N U j D]) (F.Ev b c x n D) ?_ ?_
  rotate_left
  ·intro o
   refine J (H (P 2 Z ?_))
   refine am (aN u30 Z (u.d a.fr)) Z (P 1 Z ?_)
   refine I (O ?_)
   refine aw Z (fun m=>?_) (fun m=>?_)
   ·have h:=aJ h m
    refine H (P 2 Z ?_)
    obtain ⟨ad,z,h⟩:=aj h
    refine am (bk u30 aU Z Z (u.d a.fr) z) Z (am (bb u38 Z Z (u.d a.fr) z Z) Z (P 1 Z ?_))
    refine I (O ?_)
    exact au _ (by exact ⟨Z,Z,Z,Z,Z,Z,Z,V⟩) (o ad _ _ ⟨Z,a⟩ h)
   have h:=aI h m
   refine az (O ?_)
   exact au _ (by exact ⟨Z,Z,Z,Z,Z,Z,Z,V⟩) (o 0 _ _ ⟨Z,a⟩ h)
  rintro G L w hJ h
  try dsimp only at hJ
  obtain ⟨rfl,a⟩:=hJ
  unfold F.Ev at h
  refine H (P 4 Z ?_)
  obtain ⟨T,p,h⟩:=aj h
  refine am (bk u30 aU Z Z ((a.ro 0 Z).po k) p) Z (am (bb u38 Z Z ((a.ro 0 Z).po k) p Z) Z (P 2 Z ?_))
  obtain ⟨A,B,h⟩:=aj h
  refine ao Z (mr T G x B ) Z ?_
  rintro _ w ⟨rfl,ag⟩
  have a:=a.f ag
  refine P 3 Z ?_
  obtain ⟨al,q,h⟩:=aj h
  refine am (bk u30 aU Z Z ((a.ro 0 Z).po k) q) Z (bn (qw (t:=A.1) aU Z Z a (i:=0) Z k q Z) ?_)
  intro w a
  obtain ⟨ab,C,h⟩:=aO h
  rw [C]at a
  refine P 1 Z ?_
  refine I (aR ?_)
  refine O (H (P 2 Z ?_))
  refine I ?_
  exact bv (bz _ (by exact ⟨Z,Z,Z,Z,Z,V⟩) (E (A.2,wI (n+1),ab) _ _ ⟨Z,a⟩ (a8 h y)))
 have h:=aI h f
 refine bg ?_
 refine aF (aF ?_)
 have h:=aW h y
 refine bd ?_
 refine O (J (H (P 2 Z ?_)))
 refine I (O (ax ?_))
 cases h
 exact aG Z Z ⟨Z,a.e [0] Z Z⟩
theorem nv {l:World} {a0:List UInt32} {b:Value} {S:List Nat} (a1:Int) {r:List UInt32}
  (h:F.E1 a0 a1=some r) (a:St S l l [N U b a0]):Calls Tryz.prog 131 #[b,vI a1] l (Ret fun v w=>v=.tuple #[]∧St S l w [N U b r]):=by
 refine aH 38 Tryz.func131 Z Z Z ?_
 refine au [(0,b),(1,vI a1)] ⟨Z,Z,V⟩ ?_
 unfold F.E1 at h
 refine J (H (P 1 Z ?_))
 refine am (aN u30 Z (a.ro 0 Z)) Z (P 1 Z ?_)
 refine I (O (aD ?_))
 refine au [(0,b),(1,vI a1),(7,vI (a0.length:Int)),(8,vI 0)] ⟨Z,Z,Z,Z,V⟩ ?_
 refine bj (F.CU a0 a1) (fun (s:Int×List UInt32) L w=>L=[(0,b),(1,vI a1),(7,vI (a0.length:Int)),(8,vI s.1)]∧St S l w [N U b s.2]) ?_ (0,a0) ⟨Z,a⟩ h
 rintro E ⟨f,y⟩ L w D hI A h m
 try dsimp only at hI
 obtain ⟨rfl,a⟩:=hI
 unfold F.CU at h
 refine J (H (P 1 Z ?_))
 refine I (O (J ?_))
 refine aw Z (fun c=>?_) (fun c=>?_)
 ·have h:=aJ h c
  refine az (O (J (aD ?_)))
  refine J (H (P 2 Z ?_))
  refine I (O (J (H (P 2 Z ?_))))
  obtain ⟨n,o,h⟩:=aj h
  refine am (bk u30 aU Z Z (a.ro 0 Z) o) Z (am (bb u38 Z Z (a.ro 0 Z) o Z) Z (am (aM Z (bp u38 u87 n)) Z (P 1 Z ?_)))
  refine I (O ?_)
  refine a9 (r:=D) (fun (g:UInt64) L w=>L=[(0,b),(1,vI a1),(4,vI f),(5,v64 g),(7,vI (a0.length:Int)),(8,vI f)]∧St S l w [N U b y]) (F.Eb a1 f y) ?_ ?_
  rotate_left
  ·intro j
   refine J (H (P 3 Z ?_))
   refine am (aN u30 Z (a.ro 0 Z)) Z (P 1 Z ?_)
   refine I (O ?_)
   refine aw Z (fun d=>?_) (fun d=>?_)
   ·have h:=aJ h d
    refine H (P 4 Z ?_)
    obtain ⟨p,q,h⟩:=aj h
    refine am (bk u30 aU Z Z (a.ro 0 Z) q) Z (am (bb u38 Z Z (a.ro 0 Z) q Z) Z (am (aM Z (bp u38 u87 p)) Z (am (aq Z Z (c6 _ p.toUInt64 32)) Z (am (aq Z Z (eG _ n.toUInt64 (bm p.toUInt64 32))) Z ?_))))
    obtain ⟨z,B,h⟩:=aO h
    refine am (aA (v:=v64 z) (by rw [←B]; rfl)) Z ?_
    refine I (O ?_)
    exact au _ (by exact ⟨Z,Z,Z,Z,Z,Z,V⟩) (j z _ _ ⟨Z,a⟩ h)
   have h:=aI h d
   refine az (O ?_)
   exact au _ (by exact ⟨Z,Z,Z,Z,Z,Z,V⟩) (j n.toUInt64 _ _ ⟨Z,a⟩ h)
  rintro e L w hJ h
  try dsimp only at hJ
  obtain ⟨rfl,a⟩:=hJ
  unfold F.Eb at h
  refine H (P 4 Z ?_)
  obtain ⟨u,h⟩:=bX h
  refine am (aq Z Z (kV _ e a1 u)) Z (am (aM Z (bO u87 u38 (aP e ((a1).toNat)))) Z ?_)
  obtain ⟨G,k,h⟩:=aj h
  refine am (bk u30 aU Z Z (a.ro 0 Z) k) Z (bn (cb (t:=((aP e ((a1).toNat)).toUInt32)) aU Z Z a (i:=0) Z k Z) ?_)
  intro w a
  obtain ⟨C,x,h⟩:=aO h
  rw [x]at a
  refine I (aR ?_)
  refine O (H (P 2 Z ?_))
  refine I ?_
  exact bv (bz _ (by exact ⟨Z,Z,Z,Z,V⟩) (A (wI (f+1),C) _ _ ⟨Z,a⟩ (a8 h m)))
 have h:=aI h c
 refine bg ?_
 refine aF (aF ?_)
 have h:=aW h m
 refine bd ?_
 cases h
 exact f5 Z ⟨Z,a.e [0] Z Z⟩
theorem uj {u:World} {a0 a1:List UInt32} {aB aC:Value} {r:List UInt32×(List UInt32×Nat)}
  (h:F.E7 a0 a1=some r) (aE:RP [] u U aB a0) (B:RP [] u U aC a1):Calls Tryz.prog 70 #[aB,aC] u (Ret fun v w=>∃u0 u1:Value,v=.tuple #[u0,slV u1 U.sz 0 r.2.2]∧r.2.2≤r.2.1.length∧St [] u w [N U u0 r.1,N U u1 r.2.1]):=by
 refine aH 125 Tryz.func70 Z Z Z ?_
 have a:=St.l u
 refine au [(0,aB),(1,aC)] ⟨Z,Z,V⟩ ?_
 unfold F.E7 at h
 refine J (H (P 2 Z ?_))
 refine I (O (J (H (P 2 Z ?_))))
 refine am (aN u30 Z (B.d a.fr)) Z (P 1 Z ?_)
 obtain ⟨bD,aG,h⟩:=aj h
 refine am (bk u30 aU Z Z (B.d a.fr) aG) Z (am (bb u38 Z Z (B.d a.fr) aG Z) Z ?_)
 obtain ⟨m,bh,h⟩:=aj h
 refine ao Z (il bD bh ) Z ?_
 rintro _ w ⟨rfl,j⟩
 have a:=a.f j
 refine P 1 Z ?_
 refine I (O (J (H (P 1 Z ?_))))
 refine am (aN u30 Z (B.d a.fr)) Z ?_
 obtain ⟨be,bi,h⟩:=aj h
 refine aV (c8 (e:=U) u30 aU Z Z Z a bi) Z ?_
 rintro f w a
 refine P 1 Z ?_
 refine I (O (J (H (P 3 Z ?_))))
 have o:=a.pick (os':=[N U f be]++[]) [0] (by decide) Z
 obtain ⟨b,bm,h⟩:=aj h
 refine ao Z (qf 0 be.length m bm o.g (a.ro 0 Z).whole (B.g (R Z) o)) Z ?_
 rintro _ w ⟨rfl,j⟩
 have a:=o.h j
 refine I (O (J (H (P 1 Z ?_))))
 refine am (aN u30 Z (aE.d a.fr)) Z (P 1 Z ?_)
 obtain ⟨bf,bo,h⟩:=aj h
 refine aV (c8 (e:=U) u30 aU Z Z Z a bo) Z ?_
 rintro g w a
 refine P 1 Z ?_
 refine I (O (J (H (P 3 Z ?_))))
 have o:=a.pick (os':=[N U g bf]++[N U f b]) [0,1] (by decide) Z
 obtain ⟨bq,aL,h⟩:=aj h
 refine ao Z (qf 0 bf.length m aL o.g (a.ro 0 Z).whole (aE.g (R Z) o)) Z ?_
 rintro _ w ⟨rfl,j⟩
 have a:=o.h j
 refine I (O (J (H (P 1 Z ?_))))
 refine am (aN u30 Z (a.ro 1 Z)) Z (P 1 Z ?_)
 refine I (O (J (H (P 1 Z ?_))))
 refine am (aN u30 Z (aE.d a.fr)) Z (P 3 Z ?_)
 obtain ⟨br,aQ,h⟩:=aj h
 refine aV (c8 (e:=U) u30 aU Z Z Z a aQ) Z ?_
 rintro c w a
 refine P 1 Z ?_
 refine I (O (J (H (P 2 Z ?_))))
 obtain ⟨bs,aS,h⟩:=aj h
 refine aV (c8 (e:=U) u30 aU Z Z Z a aS) Z ?_
 rintro d w a
 refine P 1 Z ?_
 refine I (O (J (J (H (P 1 Z ?_)))))
 refine am (aN u30 Z (a.ro 1 Z)) Z (P 1 Z ?_)
 obtain ⟨C,aT,h⟩:=aO h
 refine am (aA (v:=vI C) (by rw [←aT]; rfl)) Z ?_
 refine I (O (aD ?_))
 refine au [(6,vI m),(7,f),(8,g),(9,vI (b.length:Int)),(10,c),(11,d),(12,vI C)] ⟨Z,Z,Z,Z,Z,Z,Z,V⟩ ?_
 refine bj (F.Du m b) (fun (s:Int×List UInt32×List UInt32×List UInt32) L w=>L=[(6,vI m),(7,f),(8,g),(9,vI (b.length:Int)),(10,c),(11,d),(12,vI s.1)]∧St [] u w [N U f b,N U g s.2.1,N U c s.2.2.1,N U d s.2.2.2]) ?_ (C,bq,br,bs) ⟨Z,(a.e [3,2,1,0] Z Z)⟩ h
 rintro bE ⟨k,p,n,D⟩ L w bF hI aX h T
 try dsimp only at hI
 obtain ⟨rfl,a⟩:=hI
 unfold F.Du at h
 refine J (J (H (P 2 Z ?_)))
 refine I (O ?_)
 refine aw Z (fun x=>?_) (fun x=>?_)
 ·have h:=aJ h x
  refine az (O (J (aD ?_)))
  refine uW ?_
  refine J (H (P 6 Z ?_))
  obtain ⟨bG,ab,h⟩:=aj h
  refine am (xx u30 aU Z Z Z (a.ro 1 Z) ab) Z (P 1 Z ?_)
  obtain ⟨aK,aZ,h⟩:=aj h
  refine ao Z (oz  aZ ((a.ro 1 Z).g_sl ab).rp (a.ro 0 Z).rp) Z ?_
  rintro _ w ⟨rfl,j⟩
  have a:=a.f j
  refine P 1 Z ?_
  refine I (O (J (vL ?_)))
  refine O (J (aD ?_))
  refine au [(6,vI m),(7,f),(8,g),(9,vI (b.length:Int)),(10,c),(11,d),(12,vI k),(13,v64 aK)] ⟨Z,Z,Z,Z,Z,Z,Z,Z,V⟩ ?_
  refine bj (F.Db b k p n) (fun (s:UInt64×List UInt32) L w=>L=[(6,vI m),(7,f),(8,g),(9,vI (b.length:Int)),(10,c),(11,d),(12,vI k),(13,v64 s.1)]∧St [] u w [N U f b,N U g p,N U c n,N U d s.2]) ?_ (aK,D) ⟨Z,a⟩ h
  rintro bH ⟨l,bt⟩ L w bI hI a2 h ac
  try dsimp only at hI
  obtain ⟨rfl,a⟩:=hI
  unfold F.Db at h
  refine aD ?_
  refine J (H (P 1 Z ?_))
  refine I (O (J (J (H (P 1 Z ?_)))))
  refine am (aN u30 Z (a.ro 0 Z)) Z (P 1 Z ?_)
  refine I (O (aD ?_))
  refine au [(6,vI m),(7,f),(8,g),(9,vI (b.length:Int)),(10,c),(11,d),(12,vI k),(13,v64 l),(14,v64 0),(66,f),(67,vI (b.length:Int)),(68,vI 0)] ⟨Z,Z,Z,Z,Z,Z,Z,Z,Z,Z,Z,Z,V⟩ ?_
  refine bj (F.Cr b k p n l) (fun (s:UInt64×Int×List UInt32) L w=>L=[(6,vI m),(7,f),(8,g),(9,vI (b.length:Int)),(10,c),(11,d),(12,vI k),(13,v64 l),(14,v64 s.1),(66,f),(67,vI (b.length:Int)),(68,vI s.2.1)]∧St [] u w [N U f b,N U g p,N U c n,N U d s.2.2]) ?_ (0,0,bt) ⟨Z,a⟩ h
  rintro bJ ⟨E,bu,bK⟩ L w bL hI a3 h ad
  try dsimp only at hI
  obtain ⟨rfl,a⟩:=hI
  unfold F.Cr at h
  refine J (H (P 1 Z ?_))
  refine I (O (J ?_))
  refine aw Z (fun y=>?_) (fun y=>?_)
  ·have h:=aJ h y
   refine az (O (J (aD ?_)))
   refine J (H (P 1 Z ?_))
   obtain ⟨G,ag,h⟩:=aj h
   refine am (bk u30 aU Z Z (a.ro 0 Z) ag) Z (am (bb u38 Z Z (a.ro 0 Z) ag Z) Z (P 2 Z ?_))
   refine I (O (J (H (P 3 Z ?_))))
   refine am (aM Z (bp u38 u87 G)) Z (am (aq Z Z (gy _ l G.toUInt64)) Z (am (aq Z Z (cq _ E (l*G.toUInt64))) Z ?_))
   obtain ⟨q,a4,h⟩:=aO h
   refine am (aA (v:=v64 q) (by rw [←a4]; rfl)) Z ?_
   refine I (O (J (H (P 3 Z ?_))))
   refine am (aM Z (bO u87 u38 q)) Z ?_
   obtain ⟨bM,ak,h⟩:=aj h
   refine am (bk u30 aU Z Z (a.ro 3 Z) ak) Z (bn (cb (t:=q.toUInt32) aU Z Z a (i:=3) Z ak Z) ?_)
   intro w a
   obtain ⟨bw,a5,h⟩:=aO h
   rw [a5]at a
   refine I (O (H (P 1 Z ?_)))
   refine am (aq Z Z (cl _ q 32)) Z (P 1 Z ?_)
   refine I (aR ?_)
   refine O (H (P 2 Z ?_))
   refine I ?_
   exact bv (bz _ (by exact ⟨Z,Z,Z,Z,Z,Z,Z,Z,Z,Z,Z,Z,V⟩) (a3 (aP q 32,wI (bu+1),bw) _ _ ⟨Z,a⟩ (a8 h ad)))
  have h:=aI h y
  refine bg ?_
  refine aF (aF ?_)
  have h:=aW h ad
  refine bd ?_
  refine O (J (H (P 3 Z ?_)))
  refine am (aM Z (bO u87 u38 E)) Z ?_
  obtain ⟨bN,an,h⟩:=aj h
  refine am (bk u30 aU Z Z (a.ro 3 Z) an) Z (bn (cb (t:=E.toUInt32) aU Z Z a (i:=3) Z an Z) ?_)
  intro w a
  obtain ⟨S,a6,h⟩:=aO h
  rw [a6]at a
  refine I (O (J (J (H (P 6 Z ?_)))))
  obtain ⟨bP,ap,h⟩:=aj h
  refine am (xx u30 aU Z Z Z (a.ro 1 Z) ap) Z (P 1 Z ?_)
  obtain ⟨bR,a7,h⟩:=aj h
  refine ao Z (se  a7 ((a.ro 1 Z).g_sl ap).rp (a.ro 3 Z).rp) Z ?_
  rintro _ w ⟨rfl,j⟩
  have a:=a.f j
  refine P 1 Z ?_
  refine I (O ?_)
  refine aw Z (fun z=>?_) (fun z=>?_)
  ·have h:=aJ h z
   refine bg ?_
   refine aF (m0 Z ?_)
   refine aF ?_
   have h:=aW h ac
   refine bd ?_
   refine O (J (H (P 6 Z ?_)))
   obtain ⟨bS,A,h⟩:=aj h
   refine am (xx u30 aU Z Z Z (a.ro 1 Z) A) Z (P 1 Z ?_)
   have o:=a.pick (os':=[N U g p]++[N U f b,N U c n,N U d S]) [1,0,2,3] (by decide) Z
   obtain ⟨bx,a9,h⟩:=aj h
   refine ao Z (nB ((k:Int).toNat) ((wI ((wI (k+(b.length:Int)))+1):Int).toNat) a9 o.g ((a.ro 1 Z).part (by have:=(cw A).1; omega) (cw A).1.2.2) (o.giveO 2 Z)) Z ?_
   rintro _ w ⟨rfl,j⟩
   have a:=o.h j
   refine I (O (H (P 3 Z ?_)))
   refine am (aM Z (bO u87 u38 l)) Z ?_
   obtain ⟨bT,av,h⟩:=aj h
   refine am (bk u30 aU Z Z (a.ro 2 Z) av) Z (bn (cb (t:=l.toUInt32) aU Z Z a (i:=2) Z av Z) ?_)
   intro w a
   obtain ⟨bA,ba,h⟩:=aO h
   rw [ba]at a
   refine I (xl ?_)
   refine aR ?_
   refine O (H (P 3 Z ?_))
   refine I ?_
   exact bv (bz _ (by exact ⟨Z,Z,Z,Z,Z,Z,Z,V⟩) (aX (wI (k - 1),bx.2,bA,S) _ _ ⟨Z,(a.e [1,0,2,3] Z Z)⟩ (a8 h T)))
  have h:=aI h z
  refine az (O (H (P 1 Z ?_)))
  refine am (aq Z Z (ek _ l 1)) Z (P 1 Z ?_)
  refine I (aR ?_)
  exact bv (bz _ (by exact ⟨Z,Z,Z,Z,Z,Z,Z,Z,V⟩) (a2 (l - 1,S) _ _ ⟨Z,a⟩ (a8 h ac)))
 have h:=aI h x
 refine bg ?_
 refine aF (aF ?_)
 have h:=aW h T
 refine bd ?_
 refine O (J (H (P 2 Z ?_)))
 have o:=a.pick (os':=[N U g p]++[N U f b,N U c n,N U d D]) [1,0,2,3] (by decide) Z
 obtain ⟨bB,bc,h⟩:=aj h
 refine ao Z (nv m bc o.g ) Z ?_
 rintro _ w ⟨rfl,j⟩
 have a:=o.h j
 refine I (O (J ?_))
 refine aY (fun w'=>St [] u w' [N U g bB,N U f b,N U c n,N U d D]) (fun _=>true) bQ (fun _ _ _ hf=>hf.2) (fun _ _ hf=>hf) (by kernel_rfl) ?_
 have a:=a.drew
 show lxE _ _ _ _ _ _ _ [0,1,2,3,4,5] _ _
 refine al a Z Z (fun w hF=>ar Z) Z (al a Z Z (fun w hF=>ar Z) Z (al a Z Z (fun w hF=>ar Z) Z ?_))
 obtain ⟨ay,h⟩:=bX h
 refine al a Z Z (fun w hF=>pH u30 aU Z Z (hF.ro 0 Z) (k5 ay)) Z (al a Z Z (fun w hF=>aA Z) Z (al a Z Z (fun w hF=>aA Z) Z (bl a ?_)))
 refine O (ax ?_)
 cases h
 exact bU Z Z Z ⟨c,g,Z,ay.2,a.e [2,0] Z Z⟩
theorem iW {l:World} {a0 a1:List UInt32} {m n:Value} {r:List UInt32×List UInt32×Int}
  (h:F.Dn a0 a1=some r) (j:RP [] l U m a0) (c:RP [] l U n a1):Calls Tryz.prog 31 #[m,n] l (Ret fun v w=>∃u0 u1:Value,v=.tuple #[u0,u1,vI r.2.2]∧St [] l w [N U u0 r.1,N U u1 r.2.1]):=by
 refine aH 55 Tryz.func31 Z Z Z ?_
 have a:=St.l l
 refine au [(0,m),(1,n)] ⟨Z,Z,V⟩ ?_
 unfold F.Dn at h
 refine J (H (P 3 Z ?_))
 refine I (O (J (H (P 1 Z ?_))))
 obtain ⟨ar,L,h⟩:=aj h
 refine ao Z (cA  L (j.d a.fr).rp) Z ?_
 rintro _ w ⟨rfl,k,b⟩
 have a:=a.f b
 refine P 1 Z ?_
 obtain ⟨av,S,h⟩:=aj h
 refine ao Z (cA  S (c.d a.fr).rp) Z ?_
 rintro _ w ⟨rfl,d,b⟩
 have a:=a.f b
 refine P 2 Z ?_
 refine I (O (J (aD ?_)))
 refine J (H (P 1 Z ?_))
 refine am (aN u30 Z ((c.tk3 d).d a.fr)) Z (P 2 Z ?_)
 refine I (O ?_)
 refine aw Z (fun e=>?_) (fun e=>?_)
 ·have h:=aJ h e
  refine J (H (P 3 Z ?_))
  refine I (O (ax (bP ?_)))
  refine aE ?_
  cases h
  exact dS Z Z Z Z ⟨.slice none 0 0,.slice none 0 0,Z,((a.nil U).nil U).e [1,0] Z Z⟩
 have h:=aI h e
 refine J (H (P 2 Z ?_))
 obtain ⟨ay,T,h⟩:=aj h
 refine ao Z (f3  T (j.d a.fr).rp (c.d a.fr).rp) Z ?_
 rintro _ w ⟨rfl,b⟩
 have a:=a.f b
 refine P 2 Z ?_
 refine I (O ?_)
 refine aw Z (fun f=>?_) (fun f=>?_)
 ·have h:=aJ h f
  refine J (H (P 1 Z ?_))
  obtain ⟨aA,ab,h⟩:=aj h
  refine aV (uq u31 u30 aU Z Z Z a ((j.tk3 k).d a.fr) ab) Z ?_
  rintro an w a
  refine P 3 Z ?_
  refine I (O (ax (bP ?_)))
  refine aE ?_
  cases h
  exact dS Z Z Z Z ⟨.slice none 0 0,an,Z,(a.nil U).e [0,1] Z Z⟩
 have h:=aI h f
 refine J (H (P 1 Z ?_))
 refine am (aN u30 Z ((c.tk3 d).d a.fr)) Z (P 2 Z ?_)
 refine I (O ?_)
 refine aw Z (fun g=>?_) (fun g=>?_)
 ·have h:=aJ h g
  refine J (H (P 2 Z ?_))
  obtain ⟨ap,o,h⟩:=aj h
  refine am (bk u30 aU Z Z ((c.tk3 d).d a.fr) o) Z (am (bb u38 Z Z ((c.tk3 d).d a.fr) o Z) Z ?_)
  obtain ⟨p,u,h⟩:=aj h
  refine ao Z (so ap u ((j.tk3 k).d a.fr).rp) Z ?_
  rintro _ w ⟨ac,rfl,b⟩
  have a:=a.f b
  refine P 5 Z ?_
  refine I (O (J (H (P 1 Z ?_))))
  obtain ⟨q,x,h⟩:=aj h
  refine ao Z (db  x (a.ro 0 Z).rp) Z ?_
  rintro _ w ⟨rfl,y,b⟩
  have a:=a.f b
  refine P 1 Z ?_
  refine am (aM Z (bp u38 u87 p.2)) Z ?_
  obtain ⟨aq,z,h⟩:=aj h
  refine ao Z (oL p.2.toUInt64 z ) Z ?_
  rintro ad w b
  have a:=a.f b
  refine P 3 Z ?_
  refine I (O (ax (bP ?_)))
  refine aE ?_
  cases h
  replace a:=a.trunc3 (i:=1) rfl y
  exact dS Z Z Z Z ⟨slV3 ac U.sz 0 q q,ad,Z,a.e [1,0] Z Z⟩
 have h:=aI h g
 refine az (aR ?_)
 refine O (J (H (P 2 Z ?_)))
 obtain ⟨ag,A,h⟩:=aj h
 refine ao Z (uj  A ((j.tk3 k).d a.fr).rp ((c.tk3 d).d a.fr).rp) Z ?_
 rintro _ w ⟨ak,al,rfl,B,b⟩
 have a:=a.f b
 refine P 5 Z ?_
 refine I (O (J (H (P 1 Z ?_))))
 obtain ⟨s,C,h⟩:=aj h
 refine ao Z (db  C (a.ro 0 Z).rp) Z ?_
 rintro _ w ⟨rfl,D,b⟩
 have a:=a.f b
 refine P 1 Z ?_
 replace a:=a.trunc (i:=1) rfl B
 obtain ⟨t,E,h⟩:=aj h
 refine ao Z (db  E (a.ro 1 Z).rp) Z ?_
 rintro _ w ⟨rfl,G,b⟩
 have a:=a.f b
 refine P 3 Z ?_
 refine I (O (ax ?_))
 cases h
 replace a:=a.trunc3 (i:=0) rfl D
 replace a:=a.trunc3 (i:=1) rfl G
 exact dS Z Z Z Z ⟨slV3 ak U.sz 0 s s,slV3 (slV al U.sz 0 ag.2.2) U.sz 0 t t,Z,a.e [0,1] Z Z⟩
theorem eR {i:World} {a0:List UInt32} {e:Value} {r:Int}
  (h:F.BT a0=some r) (c:RP [] i U e a0):Calls Tryz.prog 23 #[e] i (Ret fun v w=>v=vI r∧St [] i w []):=by
 refine aH 21 Tryz.func23 Z Z Z ?_
 have a:=St.l i
 refine au [(0,e)] ⟨Z,V⟩ ?_
 unfold F.BT at h
 refine J (H (P 1 Z ?_))
 refine I (O (J (H (P 1 Z ?_))))
 obtain ⟨l,j,h⟩:=aj h
 refine ao Z (cA  j (c.d a.fr).rp) Z ?_
 rintro _ w ⟨rfl,b,f⟩
 have a:=a.f f
 refine P 1 Z ?_
 refine I (O (J (J (H (P 1 Z ?_)))))
 refine am (aN u30 Z ((c.tk3 b).d a.fr)) Z (P 1 Z ?_)
 refine I (O ?_)
 refine aw Z (fun d=>?_) (fun d=>?_)
 ·have h:=aJ h d
  refine J (H (P 1 Z ?_))
  refine I (O (ax (aE ?_)))
  cases h
  exact aG Z Z ⟨Z,a⟩
 have h:=aI h d
 refine az (O (J (H (P 1 Z ?_))))
 refine am (aN u30 Z ((c.tk3 b).d a.fr)) Z (P 1 Z ?_)
 refine am (aq Z Z (fq _ 32 (wI (((a0.take l).length:Int) - 1)))) Z (P 2 Z ?_)
 refine am (aN u30 Z ((c.tk3 b).d a.fr)) Z (P 1 Z ?_)
 obtain ⟨m,g,h⟩:=aj h
 refine am (bk u30 aU Z Z ((c.tk3 b).d a.fr) g) Z (am (bb u38 Z Z ((c.tk3 b).d a.fr) g Z) Z ?_)
 obtain ⟨n,k,h⟩:=aj h
 refine ao Z (iB m k ) Z ?_
 rintro _ w ⟨rfl,f⟩
 have a:=a.f f
 refine P 2 Z ?_
 refine I (O (ax ?_))
 cases h
 exact aG Z Z ⟨Z,a⟩
theorem np {j:World} {a0:List UInt8} {a1:List UInt32} {b d:Value} {S:List Nat} {r:List UInt8}
  (h:F.DU a0 a1=some r) (a:St S j j [N e8 b a0]) (o:RP S j U d a1):Calls Tryz.prog 122 #[b,d] j (Ret fun v w=>v=.tuple #[]∧St S j w [N e8 b r]):=by
 refine aH 38 Tryz.func122 Z Z Z ?_
 refine au [(0,b),(1,d)] ⟨Z,Z,V⟩ ?_
 unfold F.DU at h
 refine J (H (P 1 Z ?_))
 refine am (aN u24 Z (a.ro 0 Z)) Z (P 1 Z ?_)
 refine I (O (aD ?_))
 refine au [(0,b),(1,d),(7,vI (a0.length:Int)),(8,vI 0)] ⟨Z,Z,Z,Z,V⟩ ?_
 refine bj (F.DT a0 a1) (fun (s:Int×List UInt8) L w=>L=[(0,b),(1,d),(7,vI (a0.length:Int)),(8,vI s.1)]∧St S j w [N e8 b s.2]) ?_ (0,a0) ⟨Z,a⟩ h
 rintro T ⟨p,ac⟩ L w E hI z h q
 try dsimp only at hI
 obtain ⟨rfl,a⟩:=hI
 unfold F.DT at h
 refine J (H (P 1 Z ?_))
 refine I (O (J ?_))
 refine aw Z (fun e=>?_) (fun e=>?_)
 ·have h:=aJ h e
  refine az (O ?_)
  refine a9 (r:=E) (fun (g:List UInt8) L w=>L=[(0,b),(1,d),(7,vI (a0.length:Int)),(8,vI p)]∧St S j w [N e8 b g]) (F.DJ p) ?_ ?_
  rotate_left
  ·intro l
   refine aD ?_
   refine J (H (P 2 Z ?_))
   refine I (O (J (H (P 1 Z ?_))))
   refine am (aN u24 Z (a.ro 0 Z)) Z (P 3 Z ?_)
   obtain ⟨c,A,h⟩:=aO h
   refine am (aA (v:=vI c) (by rw [←A]; rfl)) Z ?_
   refine I (O (J (H (P 2 Z ?_))))
   obtain ⟨ad,u,h⟩:=aj h
   refine am (bk u24 ti5 Z Z (a.ro 0 Z) u) Z (bn (cb (t:=0) ti5 Z Z a (i:=0) Z u Z) ?_)
   intro w a
   obtain ⟨G,B,h⟩:=aO h
   rw [B]at a
   refine I (O (J (H (P 1 Z ?_))))
   refine am (aq Z Z (dI _ c 4 (by decide))) Z ?_
   refine P 1 Z ?_
   refine am (aN u30 Z (o.d a.fr)) Z (P 1 Z ?_)
   refine I (O ?_)
   refine aw Z (fun f=>?_) (fun f=>?_)
   ·have h:=aJ h f
    refine H (P 4 Z ?_)
    refine am (aq Z Z (dI _ c 4 (by decide))) Z ?_
    obtain ⟨k,m,h⟩:=aj h
    refine am (bk u30 aU Z Z (o.d a.fr) m) Z (am (bb u38 Z Z (o.d a.fr) m Z) Z (P 1 Z ?_))
    refine am (aq Z Z (jO _ c 4 (by decide))) Z ?_
    refine am (aq Z Z (fq _ 8 (Int.tmod c 4))) Z ?_
    obtain ⟨x,h⟩:=bX h
    refine am (aq Z Z (pp _ k (wI (8*(Int.tmod c 4))) x)) Z (am (aM Z (gz u38 Tryz.underlying5 (bA k (((wI (8*(Int.tmod c 4)))).toNat)))) Z ?_)
    obtain ⟨ab,n,h⟩:=aj h
    refine am (bk u24 ti5 Z Z (a.ro 0 Z) n) Z (bn (cb (t:=((bA k (((wI (8*(Int.tmod c 4)))).toNat)).toUInt8)) ti5 Z Z a (i:=0) Z n Z) ?_)
    intro w a
    obtain ⟨C,y,h⟩:=aO h
    rw [y]at a
    refine I (aR ?_)
    refine O ?_
    exact au _ (by exact ⟨Z,Z,Z,Z,V⟩) (l C _ _ ⟨Z,a⟩ h)
   have h:=aI h f
   refine az (aR ?_)
   refine O ?_
   exact au _ (by exact ⟨Z,Z,Z,Z,V⟩) (l G _ _ ⟨Z,a⟩ h)
  rintro D L w hJ h
  try dsimp only at hJ
  obtain ⟨rfl,a⟩:=hJ
  unfold F.DJ at h
  refine H (P 2 Z ?_)
  refine I ?_
  exact bv (bz _ (by exact ⟨Z,Z,Z,Z,V⟩) (z (wI (p+1),D) _ _ ⟨Z,a⟩ (a8 h q)))
 have h:=aI h e
 refine bg ?_
 refine aF (aF ?_)
 have h:=aW h q
 refine bd ?_
 cases h
 exact f5 Z ⟨Z,a.e [0] Z Z⟩
theorem sc {f:World} {a0:List UInt32} {c:Value} {r:List UInt8}
  (h:F.Fg a0=some r) (d:RP [] f U c a0):Calls Tryz.prog 171 #[c] f (Ret fun v w=>St [] f w [N e8 v r]):=by
 refine aH 16 Tryz.func171 Z Z Z ?_
 have a:=St.l f
 refine au [(0,c)] ⟨Z,V⟩ ?_
 unfold F.Fg at h
 refine J (H (P 1 Z ?_))
 refine I (O (J (H (P 1 Z ?_))))
 obtain ⟨o,g,h⟩:=aj h
 refine ao Z (eR  g (d.d a.fr).rp) Z ?_
 rintro _ w ⟨rfl,b⟩
 have a:=a.f b
 refine P 1 Z ?_
 refine am (aq Z Z (dI _ (wI (o+7)) 8 (by decide))) Z ?_
 obtain ⟨p,i,h⟩:=aO h
 refine am (aA (v:=vI p) (by rw [←i]; rfl)) Z ?_
 refine I (O (J (H (P 1 Z ?_))))
 obtain ⟨q,j,h⟩:=aj h
 refine aV (c8 (e:=e8) u24 ti5 Z Z Z a j) Z ?_
 rintro s w a
 refine P 1 Z ?_
 refine I (O (J (H (P 2 Z ?_))))
 obtain ⟨t,k,h⟩:=aj h
 refine ao Z (cA  k (d.d a.fr).rp) Z ?_
 rintro _ w ⟨rfl,l,b⟩
 have a:=a.f b
 have m:=a.pick (os':=[N e8 s q]++[]) [0] (by decide) Z
 obtain ⟨u,n,h⟩:=aj h
 refine ao Z (np  n m.g ((d.tk3 l).g (R Z) m)) Z ?_
 rintro _ w ⟨rfl,b⟩
 have a:=m.h b
 refine I (O (J (H (P 2 Z ?_))))
 refine I (O (ax ?_))
 cases h
 exact aG Z Z (a.e [0] Z Z)
theorem ju {i:World} {a0:List UInt32} {d:Value} (a1:Int) {r:Bool}
  (h:F.Ci a0 a1=some r) (e:RP [] i U d a0):Calls Tryz.prog 80 #[d,vI a1] i (Ret fun v w=>v=vB r∧St [] i w []):=by
 refine aH 26 Tryz.func80 Z Z Z ?_
 have c:=St.l i
 refine au [(0,d),(1,vI a1)] ⟨Z,Z,V⟩ ?_
 unfold F.Ci at h
 refine J (H (P 1 Z ?_))
 refine I (O (J (H (P 3 Z ?_))))
 cases a:(decide ((0:Int)≤a1))
 case true=>
  have h:=aJ h a
  try simp only [a]
  refine P 1 Z ?_
  refine bo (t:=7) Z Z (aq Z Z (dI _ a1 32 (by decide))) Z ?_
  refine P 1 Z ?_
  refine bo (t:=7) Z Z (aN u31 Z (e.d c.fr)) Z (P 3 Z ?_)
  cases b:(decide ((wI (Int.tdiv a1 32))<(a0.length:Int)))
  case true=>
   have h:=aJ h b
   try simp only [b]
   refine P 2 Z ?_
   refine bo (t:=14) Z Z (aq Z Z (dI _ a1 32 (by decide))) Z ?_
   obtain ⟨f,g,h⟩:=aj h
   refine bo (t:=14) Z Z (bk u31 aU Z Z (e.d c.fr) g) Z (bo (t:=14) Z Z (bb u38 Z Z (e.d c.fr) g Z) Z (P 1 Z ?_))
   refine bo (t:=14) Z Z (aq Z Z (jO _ a1 32 (by decide))) Z ?_
   obtain ⟨j,h⟩:=bX h
   refine bo (t:=14) Z Z (aq Z Z (pp _ f (Int.tmod a1 32) j)) Z (bo (t:=14) Z Z (aq Z Z (iQ _ (bA f (((Int.tmod a1 32)).toNat)) 1)) Z (bo (t:=14) Z Z (aq Z Z (oG _ ((bA f (((Int.tmod a1 32)).toNat)) &&& 1) 1)) Z (P 2 Z ?_)))
   refine I (O (ax ?_))
   cases h
   exact aG Z Z ⟨Z,c⟩
  case false=>
   have h:=aI h b
   try simp only [b]
   refine P 12 Z ?_
   refine I (O (ax ?_))
   cases h
   exact aG Z Z ⟨Z,c⟩
 case false=>
  have h:=aI h a
  try simp only [a]
  refine P 19 Z ?_
  refine I (O (ax ?_))
  cases h
  exact aG Z Z ⟨Z,c⟩
theorem jo {j:World} {a0:List UInt32} {f:Value} (a1:Int) {r:List UInt32}
  (h:F.Ck a0 a1=some r) (e:RP [] j U f a0):Calls Tryz.prog 147 #[f,vI a1] j (Ret fun v w=>St [] j w [N U v r]):=by
 refine aH 27 Tryz.func147 Z Z Z ?_
 have a:=St.l j
 refine au [(0,f),(1,vI a1)] ⟨Z,Z,V⟩ ?_
 unfold F.Ck at h
 refine J (H (P 1 Z ?_))
 refine I (O (J (H (P 1 Z ?_))))
 obtain ⟨t,k,h⟩:=aj h
 refine ao Z (cA  k (e.d a.fr).rp) Z ?_
 rintro _ w ⟨rfl,d,c⟩
 have a:=a.f c
 refine P 1 Z ?_
 refine I (O (J (H (P 1 Z ?_))))
 refine am (tu Z Z) Z (P 1 Z ?_)
 refine I (O (J (J (H (P 1 Z ?_)))))
 refine am (aq Z Z (dI _ (max a1 0) 32 (by decide))) Z ?_
 refine P 1 Z ?_
 refine am (aN u30 Z ((e.tk3 d).d a.fr)) Z (P 1 Z ?_)
 refine I (O ?_)
 refine aw Z (fun b=>?_) (fun b=>?_)
 ·have h:=aJ h b
  refine J (H (P 1 Z ?_))
  refine I (O (ax (aE ?_)))
  cases h
  exact aG Z Z ((a.nil U).e [0] Z Z)
 have h:=aI h b
 refine az (O (J (H (P 2 Z ?_))))
 refine am (aq Z Z (dI _ (max a1 0) 32 (by decide))) Z ?_
 obtain ⟨u,g,h⟩:=aj h
 refine am (ug u30 aU Z Z ((e.tk3 d).d a.fr) g) Z ?_
 obtain ⟨p,l,h⟩:=aj h
 refine aV (kO u30 aU Z Z Z a (((e.tk3 d).g_sll g).d a.fr) l) Z ?_
 rintro q w a
 refine P 1 Z ?_
 refine I (O (J (H (P 2 Z ?_))))
 refine am (aq Z Z (jO _ (max a1 0) 32 (by decide))) Z ?_
 have s:=a.pick (os':=[N U q p]++[]) [0] (by decide) Z
 obtain ⟨x,m,h⟩:=aj h
 refine ao Z (nv (Int.tmod (max a1 0) 32) m s.g ) Z ?_
 rintro _ w ⟨rfl,c⟩
 have a:=s.h c
 refine I (O (J (H (P 1 Z ?_))))
 obtain ⟨y,n,h⟩:=aj h
 refine ao Z (db  n (a.ro 0 Z).rp) Z ?_
 rintro _ w ⟨rfl,o,c⟩
 have a:=a.f c
 refine P 1 Z ?_
 refine I (O (ax ?_))
 cases h
 replace a:=a.trunc3 (i:=0) rfl o
 exact aG Z Z (a.e [0] Z Z)
theorem pa {k:World} {a0 a1:List UInt32} {y z:Value} {r:List UInt32}
  (h:F.D5 a0 a1=some r) (E:RP [] k U y a0) (G:RP [] k U z a1):Calls Tryz.prog 157 #[y,z] k (Ret fun v w=>St [] k w [N U v r]):=by
 refine aH 64 Tryz.func157 Z Z Z ?_
 have a:=St.l k
 refine au [(0,y),(1,z)] ⟨Z,Z,V⟩ ?_
 unfold F.D5 at h
 refine J (H (P 1 Z ?_))
 refine I (O (J (H (P 1 Z ?_))))
 obtain ⟨l,aQ,h⟩:=aj h
 refine ao Z (cA  aQ (E.d a.fr).rp) Z ?_
 rintro _ w ⟨rfl,B,A⟩
 have a:=a.f A
 refine P 1 Z ?_
 obtain ⟨m,aS,h⟩:=aj h
 refine ao Z (cA  aS (G.d a.fr).rp) Z ?_
 rintro _ w ⟨rfl,C,A⟩
 have a:=a.f A
 refine P 2 Z ?_
 refine I (O ?_)
 refine a9 (r:=r) (fun (g:List UInt32×List UInt32) L w=>∃(b:Value) (c:Value),L=[(5,b),(6,c)]∧RP [] k U b g.1∧RP [] k U c g.2∧St [] k w []) (F.DF) ?_ ?_
 rotate_left
 ·intro S
  refine J (H (P 1 Z ?_))
  refine am (aN u30 Z ((E.tk3 B).d a.fr)) Z (P 1 Z ?_)
  refine am (aN u30 Z ((G.tk3 C).d a.fr)) Z (P 1 Z ?_)
  refine I (O ?_)
  refine aw Z (fun D=>?_) (fun D=>?_)
  ·have h:=aJ h D
   refine H (P 4 Z ?_)
   refine I (O ?_)
   exact au _ (by exact ⟨Z,Z,V⟩) (S (a1.take m,a0.take l) _ _ ⟨slV3 z U.sz 0 m m,slV3 y U.sz 0 l l,Z,(G.tk3 C),(E.tk3 B),a⟩ h)
  have h:=aI h D
  refine az (O ?_)
  exact au _ (by exact ⟨Z,Z,V⟩) (S (a0.take l,a1.take m) _ _ ⟨slV3 y U.sz 0 l l,slV3 z U.sz 0 m m,Z,(E.tk3 B),(G.tk3 C),a⟩ h)
 rintro ⟨T,aZ⟩ L w hJ h
 try dsimp only at hJ
 obtain ⟨b,c,rfl,d,n,a⟩:=hJ
 unfold F.DF at h
 refine J (H (P 1 Z ?_))
 refine am (aN u30 Z (d.d a.fr)) Z (P 1 Z ?_)
 obtain ⟨aT,av,h⟩:=aj h
 refine aV (c8 (e:=U) u30 aU Z Z Z a av) Z ?_
 rintro f w a
 refine P 1 Z ?_
 refine I (O (J (H (P 1 Z ?_))))
 refine I (O (J (J (H (P 1 Z ?_)))))
 refine am (aN u30 Z (d.d a.fr)) Z (P 1 Z ?_)
 refine I (O (aD ?_))
 refine au [(5,b),(6,c),(7,f),(8,v64 0),(26,b),(27,vI (T.length:Int)),(28,vI 0)] ⟨Z,Z,Z,Z,Z,Z,Z,V⟩ ?_
 refine bj (F.C9 T aZ) (fun (s:UInt64×Int×List UInt32) L w=>L=[(5,b),(6,c),(7,f),(8,v64 s.1),(26,b),(27,vI (T.length:Int)),(28,vI s.2.1)]∧St [] k w [N U f s.2.2]) ?_ (0,0,aT) ⟨Z,a⟩ h
 rintro a2 ⟨j,o,an⟩ L w aX hI ay h ab
 try dsimp only at hI
 obtain ⟨rfl,a⟩:=hI
 unfold F.C9 at h
 refine J (H (P 1 Z ?_))
 refine I (O (J ?_))
 refine aw Z (fun p=>?_) (fun p=>?_)
 ·have h:=aJ h p
  refine az (O (J (aD ?_)))
  refine J (H (P 1 Z ?_))
  obtain ⟨q,ac,h⟩:=aj h
  refine am (bk u30 aU Z Z (d.d a.fr) ac) Z (am (bb u38 Z Z (d.d a.fr) ac Z) Z (P 2 Z ?_))
  refine I (O (J (H (P 2 Z ?_))))
  refine am (aM Z (bp u38 u87 q)) Z (am (aq Z Z (cq _ j q.toUInt64)) Z (P 1 Z ?_))
  refine I (O ?_)
  refine a9 (r:=aX) (fun (g:UInt64) L w=>L=[(5,b),(6,c),(7,f),(8,v64 g),(9,vI o),(26,b),(27,vI (T.length:Int)),(28,vI o)]∧St [] k w [N U f an]) (F.Es o an) ?_ ?_
  rotate_left
  ·intro ad
   refine J (H (P 2 Z ?_))
   refine am (aN u30 Z (n.d a.fr)) Z (P 1 Z ?_)
   refine I (O ?_)
   refine aw Z (fun u=>?_) (fun u=>?_)
   ·have h:=aJ h u
    refine H (P 3 Z ?_)
    obtain ⟨ap,ag,h⟩:=aj h
    refine am (bk u30 aU Z Z (n.d a.fr) ag) Z (am (bb u38 Z Z (n.d a.fr) ag Z) Z (am (aM Z (bp u38 u87 ap)) Z (am (aq Z Z (cq _ (j+q.toUInt64) ap.toUInt64)) Z ?_)))
    obtain ⟨ar,aB,h⟩:=aO h
    refine am (aA (v:=v64 ar) (by rw [←aB]; rfl)) Z ?_
    refine I (O ?_)
    exact au _ (by exact ⟨Z,Z,Z,Z,Z,Z,Z,Z,V⟩) (ad ar _ _ ⟨Z,a⟩ h)
   have h:=aI h u
   refine az (O ?_)
   exact au _ (by exact ⟨Z,Z,Z,Z,Z,Z,Z,Z,V⟩) (ad (j+q.toUInt64) _ _ ⟨Z,a⟩ h)
  rintro x L w hJ h
  try dsimp only at hJ
  obtain ⟨rfl,a⟩:=hJ
  unfold F.Es at h
  refine J (H (P 3 Z ?_))
  refine am (aM Z (bO u87 u38 x)) Z ?_
  obtain ⟨a3,ak,h⟩:=aj h
  refine am (bk u30 aU Z Z (a.ro 0 Z) ak) Z (bn (cb (t:=x.toUInt32) aU Z Z a (i:=0) Z ak Z) ?_)
  intro w a
  obtain ⟨aY,aC,h⟩:=aO h
  rw [aC]at a
  refine I (O (H (P 1 Z ?_)))
  refine am (aq Z Z (cl _ x 32)) Z (P 1 Z ?_)
  refine I (aR ?_)
  refine O (H (P 2 Z ?_))
  refine I ?_
  exact bv (bz _ (by exact ⟨Z,Z,Z,Z,Z,Z,Z,V⟩) (ay (aP x 32,wI (o+1),aY) _ _ ⟨Z,a⟩ (a8 h ab)))
 have h:=aI h p
 refine bg ?_
 refine aF (aF ?_)
 have h:=aW h ab
 refine bd ?_
 refine O (J (H (P 2 Z ?_)))
 refine am (aN u30 Z (d.d a.fr)) Z (P 1 Z ?_)
 refine am (aM Z (bO u87 u38 j)) Z ?_
 obtain ⟨a4,al,h⟩:=aj h
 refine am (bk u30 aU Z Z (a.ro 0 Z) al) Z (bn (cb (t:=j.toUInt32) aU Z Z a (i:=0) Z al Z) ?_)
 intro w a
 obtain ⟨a5,aE,h⟩:=aO h
 rw [aE]at a
 refine I (O (J (H (P 1 Z ?_))))
 obtain ⟨a6,aK,h⟩:=aj h
 refine ao Z (db  aK (a.ro 0 Z).rp) Z ?_
 rintro _ w ⟨rfl,aL,A⟩
 have a:=a.f A
 refine P 1 Z ?_
 refine I (O (ax ?_))
 cases h
 replace a:=a.trunc3 (i:=0) rfl aL
 exact aG Z Z (a.e [0] Z Z)
end Go.Proofs
