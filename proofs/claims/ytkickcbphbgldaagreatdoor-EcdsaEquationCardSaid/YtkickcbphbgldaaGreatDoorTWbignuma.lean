import Derived.Test.YtkickcbphbgldaaGreatDoorTW0
import Derived.Test.YtkickcbphbgldaaGreatDoorGkFman
set_option linter.unusedVariables false
set_option linter.unusedSimpArgs false
set_option linter.unusedSectionVars false
set_option maxRecDepth 4000
namespace Go.Proofs
open Go Go.RowKit Go.Gk
open Go.Gk renaming aa → P, ae → M, ah → I, ai → H, e32 → U, own → K, pB → N, vB → J
open Go.Gk.OE renaming bx → W
theorem c8 {j:World} {a0:List UInt32} {a:Value} {S:List Nat} {r:List UInt32}
  (h:F.BO a0=some r) (b:St S j j [K U a a0]):Calls Tryz.prog 180 #[a] j (Ret fun v w=>∃u0:Value,v=u0∧St S j w [K U u0 r]):=by
 refine aJ 21 Tryz.func180 Z Z Z ?_
 refine au [(0,a)] ⟨Z,V⟩ ?_
 unfold F.BO at h
 refine I (af (P 1 Z ?_))
 refine H (M (I (af (P 1 Z ?_))))
 refine am (aN u30 Z (b.ro 0 Z)) Z (P 1 Z ?_)
 refine H (M (I (aE ?_)))
 refine au [(0,a),(3,vI (a0.length:Int))] ⟨Z,Z,V⟩ ?_
 refine bk (F.E3 a0) (fun (s:Int) L w=>L=[(0,a),(3,vI s)]∧St S j w [K U a a0]) ?_ (a0.length:Int) ⟨Z,b⟩ h
 rintro q e L w p hI o h k
 try dsimp only at hI
 obtain ⟨rfl,b⟩:=hI
 unfold F.E3 at h
 refine I ?_
 refine a9 (r:=p) (fun (g:Bool) L w=>L=[(0,a),(3,vI e),(15,J g)]∧St S j w [K U a a0]) (F.Fe a0 e) ?_ ?_
 rotate_left
 ·intro l
  refine af (P 3 Z ?_)
  cases c:(decide ((0:Int)<e))
  case true=>
   have h:=aG h c
   try simp only [c]
   refine P 3 Z ?_
   obtain ⟨n,m,h⟩:=aj h
   refine bf (t:=8) Z Z (bm u30 aW Z Z (b.ro 0 Z) m) Z (bf (t:=8) Z Z (bc u38 Z Z (b.ro 0 Z) m Z) Z (bf (t:=8) Z Z (aq Z Z (pa _ n 0)) Z (P 1 Z ?_)))
   refine H (M ?_)
   exact au _ (by exact ⟨Z,Z,Z,V⟩) (l (n == 0) _ _ ⟨Z,b⟩ h)
  case false=>
   have h:=aH h c
   try simp only [c]
   refine P 7 Z ?_
   refine H (M ?_)
   exact au _ (by exact ⟨Z,Z,Z,V⟩) (l false _ _ ⟨Z,b⟩ h)
 rintro u L w hJ h
 try dsimp only at hJ
 obtain ⟨rfl,b⟩:=hJ
 unfold F.Fe at h
 refine ax Z (fun d=>?_) (fun d=>?_)
 ·have h:=aG h d
  refine az (M (aE ?_))
  refine af (P 3 Z ?_)
  refine H (aU ?_)
  exact bv (bz _ (by exact ⟨Z,Z,V⟩) (o (wI (e - 1)) _ _ ⟨Z,b⟩ (ba h k)))
 have h:=aH h d
 refine bh ?_
 refine aI (aI ?_)
 have h:=aX h k
 refine bg ?_
 refine M (I (af (P 2 Z ?_)))
 obtain ⟨f,h⟩:=bZ h
 refine am (oK u30 aW Z Z (b.ro 0 Z) (ma f)) Z (P 1 Z ?_)
 refine H (M (aw ?_))
 cases h
 replace b:=b.trunc (i:=0) rfl f.2
 exact aF Z Z ⟨slV a U.sz 0 ((e:Int).toNat),Z,b.e [0] Z Z⟩
theorem eg {d:World} (a0:UInt64) {r:List UInt32}
  (h:F.Ce a0=some r) :Calls Tryz.prog 144 #[v64 a0] d (Ret fun v w=>St [] d w [K U v r]):=by
 refine aJ 10 Tryz.func144 Z Z Z ?_
 have a:=St.l d
 refine au [(0,v64 a0)] ⟨Z,V⟩ ?_
 unfold F.Ce at h
 refine I (af (P 1 Z ?_))
 refine H (M (I (af (P 1 Z ?_))))
 refine am (aM Z (bW u87 u38 a0)) Z (P 1 Z ?_)
 refine am (aq Z Z (cl _ a0 32)) Z (am (aM Z (bW u87 u38 (aQ a0 32))) Z ?_)
 refine aP (cQ (e:=U) (l:=([a0.toUInt32,(aQ a0 32).toUInt32]:List UInt32)) (vs:=[v32 a0.toUInt32,v32 ((aQ a0 32).toUInt32)]) u30 aW Z Z Z Z (by decide) (by decide) a) Z ?_
 rintro g w a
 have i:=a.pick (os':=[K U g ([a0.toUInt32,(aQ a0 32).toUInt32]:List UInt32)]++[]) [0] (by decide) Z
 obtain ⟨k,f,h⟩:=aj h
 refine ao Z (c8  f i.g ) Z ?_
 rintro m w ⟨j,b,c⟩
 rw [←b]at c
 have a:=i.h c
 refine P 1 Z ?_
 refine H (M (aw ?_))
 cases h
 exact aF Z Z (a.e [0] Z Z)
theorem lU {k:World} {a0 a1:List UInt32} {b c:Value} {r:List UInt32}
  (h:F.Ew a0 a1=some r) (u:RP [] k U b a0) (j:RP [] k U c a1):Calls Tryz.prog 192 #[b,c] k (Ret fun v w=>St [] k w [K U v r]):=by
 refine aJ 75 Tryz.func192 Z Z Z ?_
 have a:=St.l k
 refine au [(0,b),(1,c)] ⟨Z,Z,V⟩ ?_
 unfold F.Ew at h
 refine I (af (P 1 Z ?_))
 refine H (M (I ?_))
 refine a9 (r:=r) (fun (g:Bool) L w=>L=[(0,b),(1,c),(16,J g)]∧St [] k w []) (F.CX a0 a1) ?_ ?_
 rotate_left
 ·intro S
  refine af (P 1 Z ?_)
  refine am (aN u30 Z (u.d a.fr)) Z (P 2 Z ?_)
  cases l:((a0.length:Int) == 0)
  case true=>
   have h:=aG h l
   try simp only [l]
   refine P 4 Z ?_
   refine H (M ?_)
   exact au _ (by exact ⟨Z,Z,Z,V⟩) (S true _ _ ⟨Z,a⟩ h)
  case false=>
   have h:=aH h l
   try simp only [l]
   refine P 1 Z ?_
   refine bf (t:=12) Z Z (aN u30 Z (j.d a.fr)) Z (P 2 Z ?_)
   refine H (M ?_)
   exact au _ (by exact ⟨Z,Z,Z,V⟩) (S ((a1.length:Int) == 0) _ _ ⟨Z,a⟩ h)
 rintro be L w hJ h
 try dsimp only at hJ
 obtain ⟨rfl,a⟩:=hJ
 unfold F.CX at h
 refine ax Z (fun m=>?_) (fun m=>?_)
 ·have h:=aG h m
  refine I (af (P 1 Z ?_))
  refine H (M (aw (aD ?_)))
  cases h
  exact aF Z Z ((a.nil U).e [0] Z Z)
 have h:=aH h m
 refine az (M (I (af (P 1 Z ?_))))
 refine am (aN u30 Z (u.d a.fr)) Z (P 1 Z ?_)
 refine am (aN u30 Z (j.d a.fr)) Z (P 1 Z ?_)
 obtain ⟨aT,aC,h⟩:=aj h
 refine aP (de (e:=U) u30 aW Z Z Z a aC) Z ?_
 rintro d w a
 refine P 1 Z ?_
 refine H (M (I (I (af (P 1 Z ?_)))))
 refine H (M (aE ?_))
 refine au [(0,b),(1,c),(5,d),(6,vI 0)] ⟨Z,Z,Z,Z,V⟩ ?_
 refine bk (F.DS a0 a1) (fun (s:Int×List UInt32) L w=>L=[(0,b),(1,c),(5,d),(6,vI s.1)]∧St [] k w [K U d s.2]) ?_ (0,aT) ⟨Z,a⟩ h
 rintro a2 ⟨x,ay⟩ L w a3 hI ad h T
 try dsimp only at hI
 obtain ⟨rfl,a⟩:=hI
 unfold F.DS at h
 refine I (I (af (P 2 Z ?_)))
 refine am (aN u30 Z (u.d a.fr)) Z (P 1 Z ?_)
 refine H (M ?_)
 refine ax Z (fun n=>?_) (fun n=>?_)
 ·have h:=aG h n
  refine az (M (I (aE ?_)))
  refine I (af (P 1 Z ?_))
  refine H (M (I (I (af (P 1 Z ?_)))))
  refine H (M (aE ?_))
  refine au [(0,b),(1,c),(5,d),(6,vI x),(7,v64 0),(8,vI 0)] ⟨Z,Z,Z,Z,Z,Z,V⟩ ?_
  refine bk (F.Du a0 a1 x) (fun (s:UInt64×Int×List UInt32) L w=>L=[(0,b),(1,c),(5,d),(6,vI x),(7,v64 s.1),(8,vI s.2.1)]∧St [] k w [K U d s.2.2]) ?_ (0,0,ay) ⟨Z,a⟩ h
  rintro a4 ⟨y,ab,aK⟩ L w a5 hI ag h A
  try dsimp only at hI
  obtain ⟨rfl,a⟩:=hI
  unfold F.Du at h
  refine I (I (af (P 2 Z ?_)))
  refine am (aN u30 Z (j.d a.fr)) Z (P 1 Z ?_)
  refine H (M ?_)
  refine ax Z (fun o=>?_) (fun o=>?_)
  ·have h:=aG h o
   refine az (M (I (aE ?_)))
   refine I ?_
   refine aZ (fun w'=>St [] k w' [K U d aK]) (fun _=>true) bS (fun _ _ _ hf=>hf.2) (fun _ _ hf=>hf) (by kernel_rfl) ?_
   have a:=a.drew
   show lxE _ _ _ _ _ _ _ [0,1,2,3,4,5,6,7,8,9,10,11,12,13,14,15,16,17,18,19,20,21] _ _
   refine al a Z Z (fun w hF=>ar Z) Z (al a Z Z (fun w hF=>ar Z) Z (al a Z Z (fun w hF=>ar Z) Z ?_))
   obtain ⟨p,B,h⟩:=aj h
   refine al a Z Z (fun w hF=>bm u30 aW Z Z (u.d hF.fr) B) Z (al a Z Z (fun w hF=>bc u38 Z Z (u.d hF.fr) B Z) Z (al a Z Z (fun w hF=>aM Z (bq u38 u87 p)) Z (al a Z Z (fun w hF=>ar Z) Z (al a Z Z (fun w hF=>ar Z) Z ?_))))
   obtain ⟨q,C,h⟩:=aj h
   refine al a Z Z (fun w hF=>bm u30 aW Z Z (j.d hF.fr) C) Z (al a Z Z (fun w hF=>bc u38 Z Z (j.d hF.fr) C Z) Z (al a Z Z (fun w hF=>aM Z (bq u38 u87 q)) Z (al a Z Z (fun w hF=>aq Z Z (gY _ p.toUInt64 q.toUInt64)) Z (al a Z Z (fun w hF=>ar Z) Z (al a Z Z (fun w hF=>ar Z) Z (al a Z Z (fun w hF=>ar Z) Z (al a Z Z (fun w hF=>aq Z Z (l7 _ x ab)) Z ?_)))))))
   obtain ⟨z,D,h⟩:=aj h
   refine al a Z Z (fun w hF=>bm u30 aW Z Z (hF.ro 0 Z) D) Z (al a Z Z (fun w hF=>bc u38 Z Z (hF.ro 0 Z) D Z) Z (al a Z Z (fun w hF=>aM Z (bq u38 u87 z)) Z (al a Z Z (fun w hF=>aq Z Z (cr _ (p.toUInt64*q.toUInt64) z.toUInt64)) Z (al a Z Z (fun w hF=>aq Z Z (cr _ y ((p.toUInt64*q.toUInt64)+z.toUInt64))) Z ?_))))
   obtain ⟨f,ak,h⟩:=aO h
   refine al a Z Z (fun w hF=>aB (v:=v64 f) (by rw [←ak]; rfl)) Z ?_
   refine bn a ?_
   refine M (I (af (P 5 Z ?_)))
   refine am (aM Z (bW u87 u38 f)) Z ?_
   obtain ⟨a6,E,h⟩:=aj h
   refine am (bm u30 aW Z Z (a.ro 0 Z) E) Z (bb (cc (t:=f.toUInt32) aW Z Z a (i:=0) Z E Z) ?_)
   intro w a
   obtain ⟨aR,an,h⟩:=aO h
   rw [an]at a
   refine H (M (af (P 1 Z ?_)))
   refine am (aq Z Z (cl _ f 32)) Z (P 1 Z ?_)
   refine H (aU ?_)
   refine M (af (P 3 Z ?_))
   refine H ?_
   exact bv (bz _ (by exact ⟨Z,Z,Z,Z,Z,Z,V⟩) (ag (aQ f 32,wI (ab+1),aR) _ _ ⟨Z,a⟩ (ba h A)))
  have h:=aH h o
  refine bh ?_
  refine aI (aI ?_)
  have h:=aX h A
  refine bg ?_
  refine M (af (P 3 Z ?_))
  refine am (aN u30 Z (j.d a.fr)) Z (P 2 Z ?_)
  refine am (aM Z (bW u87 u38 y)) Z ?_
  obtain ⟨a7,G,h⟩:=aj h
  refine am (bm u30 aW Z Z (a.ro 0 Z) G) Z (bb (cc (t:=y.toUInt32) aW Z Z a (i:=0) Z G Z) ?_)
  intro w a
  obtain ⟨aS,ap,h⟩:=aO h
  rw [ap]at a
  refine H (aU ?_)
  refine M (af (P 3 Z ?_))
  refine H ?_
  exact bv (bz _ (by exact ⟨Z,Z,Z,Z,V⟩) (ad (wI (x+1),aS) _ _ ⟨Z,a⟩ (ba h T)))
 have h:=aH h n
 refine bh ?_
 refine aI (aI ?_)
 have h:=aX h T
 refine bg ?_
 refine M (I (af (P 1 Z ?_)))
 have hG:=a.pick (os':=[K U d ay]++[]) [0] (by decide) Z
 obtain ⟨a8,av,h⟩:=aj h
 refine ao Z (c8  av hG.g ) Z ?_
 rintro bd w ⟨aY,ac,aA⟩
 rw [←ac]at aA
 have a:=hG.h aA
 refine P 1 Z ?_
 refine H (M (aw ?_))
 cases h
 exact aF Z Z (a.e [0] Z Z)
theorem jj {f:World} {a0 a1:List UInt32} {p q:Value} {r:List UInt32}
  (h:F.C6 a0 a1=some r) (G:RP [] f U p a0) (S:RP [] f U q a1):Calls Tryz.prog 142 #[p,q] f (Ret fun v w=>St [] f w [K U v r]):=by
 refine aJ 58 Tryz.func142 Z Z Z ?_
 have a:=St.l f
 refine au [(0,p),(1,q)] ⟨Z,Z,V⟩ ?_
 unfold F.C6 at h
 refine I (af (P 1 Z ?_))
 refine H (M ?_)
 refine a9 (r:=r) (fun (g:List UInt32×List UInt32) L w=>∃(j:Value) (k:Value),L=[(0,j),(1,k)]∧RP [] f U j g.1∧RP [] f U k g.2∧St [] f w []) (F.D6) ?_ ?_
 rotate_left
 ·intro T
  refine I (af (P 1 Z ?_))
  refine am (aN u30 Z (G.d a.fr)) Z (P 1 Z ?_)
  refine am (aN u30 Z (S.d a.fr)) Z (P 1 Z ?_)
  refine H (M ?_)
  refine ax Z (fun u=>?_) (fun u=>?_)
  ·have h:=aG h u
   refine af (P 4 Z ?_)
   refine H (M ?_)
   exact au _ (by exact ⟨Z,Z,V⟩) (T (a1,a0) _ _ ⟨q,p,Z,S,G,a⟩ h)
  have h:=aH h u
  refine az (M ?_)
  exact au _ (by exact ⟨Z,Z,V⟩) (T (a0,a1) _ _ ⟨p,q,Z,G,S,a⟩ h)
 rintro ⟨aK,aL⟩ L w hJ h
 try dsimp only at hJ
 obtain ⟨j,k,rfl,c,x,a⟩:=hJ
 unfold F.D6 at h
 refine I (af (P 1 Z ?_))
 refine am (aN u30 Z (c.d a.fr)) Z (P 1 Z ?_)
 obtain ⟨aR,ay,h⟩:=aj h
 refine aP (de (e:=U) u30 aW Z Z Z a ay) Z ?_
 rintro b w a
 refine P 1 Z ?_
 refine H (M (I (af (P 1 Z ?_))))
 refine H (M (I (I (af (P 1 Z ?_)))))
 refine H (M (aE ?_))
 refine au [(0,j),(1,k),(5,b),(6,v64 0),(7,vI 0)] ⟨Z,Z,Z,Z,Z,V⟩ ?_
 refine bk (F.Dr aK aL) (fun (s:UInt64×Int×List UInt32) L w=>L=[(0,j),(1,k),(5,b),(6,v64 s.1),(7,vI s.2.1)]∧St [] f w [K U b s.2.2]) ?_ (0,0,aR) ⟨Z,a⟩ h
 rintro aV ⟨d,y,ab⟩ L w aA hI ak h z
 try dsimp only at hI
 obtain ⟨rfl,a⟩:=hI
 unfold F.Dr at h
 refine I (I (af (P 2 Z ?_)))
 refine am (aN u30 Z (c.d a.fr)) Z (P 1 Z ?_)
 refine H (M ?_)
 refine ax Z (fun l=>?_) (fun l=>?_)
 ·have h:=aG h l
  refine az (M (I (aE ?_)))
  refine I (af (P 3 Z ?_))
  obtain ⟨m,A,h⟩:=aj h
  refine am (bm u30 aW Z Z (c.d a.fr) A) Z (am (bc u38 Z Z (c.d a.fr) A Z) Z (am (aM Z (bq u38 u87 m)) Z (am (aq Z Z (cr _ d m.toUInt64)) Z (P 1 Z ?_))))
  refine H (M ?_)
  refine a9 (r:=aA) (fun (g:UInt64) L w=>L=[(0,j),(1,k),(5,b),(6,v64 g),(7,vI y)]∧St [] f w [K U b ab]) (F.EG y ab) ?_ ?_
  rotate_left
  ·intro B
   refine I (af (P 2 Z ?_))
   refine am (aN u30 Z (x.d a.fr)) Z (P 1 Z ?_)
   refine H (M ?_)
   refine ax Z (fun n=>?_) (fun n=>?_)
   ·have h:=aG h n
    refine af (P 3 Z ?_)
    obtain ⟨ac,C,h⟩:=aj h
    refine am (bm u30 aW Z Z (x.d a.fr) C) Z (am (bc u38 Z Z (x.d a.fr) C Z) Z (am (aM Z (bq u38 u87 ac)) Z (am (aq Z Z (cr _ (d+m.toUInt64) ac.toUInt64)) Z ?_)))
    obtain ⟨ad,al,h⟩:=aO h
    refine am (aB (v:=v64 ad) (by rw [←al]; rfl)) Z ?_
    refine H (M ?_)
    exact au _ (by exact ⟨Z,Z,Z,Z,Z,V⟩) (B ad _ _ ⟨Z,a⟩ h)
   have h:=aH h n
   refine az (M ?_)
   exact au _ (by exact ⟨Z,Z,Z,Z,Z,V⟩) (B (d+m.toUInt64) _ _ ⟨Z,a⟩ h)
  rintro o L w hJ h
  try dsimp only at hJ
  obtain ⟨rfl,a⟩:=hJ
  unfold F.EG at h
  refine I (af (P 3 Z ?_))
  refine am (aM Z (bW u87 u38 o)) Z ?_
  obtain ⟨aY,D,h⟩:=aj h
  refine am (bm u30 aW Z Z (a.ro 0 Z) D) Z (bb (cc (t:=o.toUInt32) aW Z Z a (i:=0) Z D Z) ?_)
  intro w a
  obtain ⟨aC,an,h⟩:=aO h
  rw [an]at a
  refine H (M (af (P 1 Z ?_)))
  refine am (aq Z Z (cl _ o 32)) Z (P 1 Z ?_)
  refine H (aU ?_)
  refine M (af (P 3 Z ?_))
  refine H ?_
  exact bv (bz _ (by exact ⟨Z,Z,Z,Z,Z,V⟩) (ak (aQ o 32,wI (y+1),aC) _ _ ⟨Z,a⟩ (ba h z)))
 have h:=aH h l
 refine bh ?_
 refine aI (aI ?_)
 have h:=aX h z
 refine bg ?_
 refine M (I (af (P 2 Z ?_)))
 refine am (aN u30 Z (c.d a.fr)) Z (P 1 Z ?_)
 refine am (aM Z (bW u87 u38 d)) Z ?_
 obtain ⟨aZ,E,h⟩:=aj h
 refine am (bm u30 aW Z Z (a.ro 0 Z) E) Z (bb (cc (t:=d.toUInt32) aW Z Z a (i:=0) Z E Z) ?_)
 intro w a
 obtain ⟨aD,ap,h⟩:=aO h
 rw [ap]at a
 refine H (M (I (af (P 1 Z ?_))))
 have hG:=a.pick (os':=[K U b aD]++[]) [0] (by decide) Z
 obtain ⟨a2,ar,h⟩:=aj h
 refine ao Z (c8  ar hG.g ) Z ?_
 rintro a3 w ⟨aT,ag,av⟩
 rw [←ag]at av
 have a:=hG.h av
 refine P 1 Z ?_
 refine H (M (aw ?_))
 cases h
 exact aF Z Z (a.e [0] Z Z)
theorem bK {f:World} {j a2:List UInt32} {e b:Value} {c:Nat} {S:List Nat} (l a1:Bool) {r:Bool×List UInt32}
  (h:F.BP l j a1 a2=some r) (a:St S f f [W c [J l,e],K U e j,K U b a2]):Calls Tryz.prog 145 #[N c 0,J a1,b] f (Ret fun v w=>∃m:Value,v=N c 0∧St S f w [W c [J r.1,m],K U m r.2]):=by
 refine aJ 21 Tryz.func145 Z Z Z ?_
 refine au [(0,N c 0),(1,J a1),(2,b)] ⟨Z,Z,Z,V⟩ ?_
 unfold F.BP at h
 refine I (af (P 1 Z ?_))
 refine H (M (I (af (P 2 Z ?_))))
 refine am (aK Z) Z (am (av (k:=1) u101 Z Z db Z) Z (bb (a7 (i:=0) (us:=[b]) Z BH Z Z (fC (a.ro 2 Z).one) ⟨(a.ro 2 Z).one,V⟩ Z a) ?_))
 intro w a
 refine H (M ?_)
 refine a9 (r:=r) (fun (g:Bool) L w=>L=[(0,N c 0)]∧St S f w [W c [J g,b],K U b a2]) (F.Fl a2) ?_ ?_
 rotate_left
 ·intro n
  refine af (P 3 Z ?_)
  cases d:a1
  case true=>
   have h:=aG h d
   try simp only [d]
   refine P 1 Z ?_
   refine bf (t:=13) Z Z (aN u30 Z (a.ro 2 Z)) Z (P 2 Z ?_)
   refine am (aK Z) Z (am (av (k:=0) u101 Z Z nz4 Z) Z (bb (a7 (i:=0) (us:=[J (decide ((0:Int)<(a2.length:Int)))]) Z sz4 Z Z Z ⟨Z,V⟩ Z a) ?_))
   intro w a
   refine H (M ?_)
   exact au _ (by exact ⟨Z,V⟩) (n (decide ((0:Int)<(a2.length:Int))) _ _ ⟨Z,(a.e [0,2] Z Z)⟩ h)
  case false=>
   have h:=aH h d
   try simp only [d]
   refine P 4 Z ?_
   refine am (aK Z) Z (am (av (k:=0) u101 Z Z nz4 Z) Z (bb (a7 (i:=0) (us:=[J false]) Z sz4 Z Z Z ⟨Z,V⟩ Z a) ?_))
   intro w a
   refine H (M ?_)
   exact au _ (by exact ⟨Z,V⟩) (n false _ _ ⟨Z,(a.e [0,2] Z Z)⟩ h)
 rintro o L w hJ h
 try dsimp only at hJ
 obtain ⟨rfl,a⟩:=hJ
 unfold F.Fl at h
 refine I (af (P 2 Z ?_))
 refine H (M (aw ?_))
 cases h
 exact aF Z Z ⟨b,Z,a.e [0,1] Z Z⟩
theorem jX {q:World} {d:List UInt32} {a:Value} {e:Nat} {S:List Nat} (c:Bool) (a1:List UInt8) (a2:Int) {r:Bool×Bool×List UInt32}
  (h:F.EY c d a1 a2=some r) (b:St S q q [W e [J c,a],K U a d]):Calls Tryz.prog 186 #[N e 0,vS a1,vI a2] q (Ret fun v w=>∃a5:Value,v=.tuple #[N e 0,J r.1]∧St S q w [W e [J r.2.1,a5],K U a5 r.2.2]):=by
 refine aJ 124 Tryz.func186 Z Z Z ?_
 refine au [(0,N e 0),(1,vS a1),(2,vI a2)] ⟨Z,Z,Z,V⟩ ?_
 unfold F.EY at h
 refine I (af (P 2 Z ?_))
 refine H (M (I (af (P 1 Z ?_))))
 refine H (M ?_)
 refine a9 (r:=r) (fun (g:List UInt8×Bool) L w=>L=[(0,N e 0),(1,vS g.1),(2,vI a2),(8,J g.2)]∧St S q w [W e [J c,a],K U a d]) (F.Fa a2 c d) ?_ ?_
 rotate_left
 ·intro aT
  refine a9 (r:=r) (fun (g:Bool) L w=>L=[(0,N e 0),(1,vS a1),(2,vI a2),(8,J false),(25,J g)]∧St S q w [W e [J c,a],K U a d]) (F.EM a1 a2 c d) ?_ ?_
  rotate_left
  ·intro aS
   refine af (P 1 Z ?_)
   refine am (kz Tryz.underlying9 Z) Z (P 2 Z ?_)
   cases T:(decide ((0:Int)<(a1.length:Int)))
   case true=>
    have h:=aG h T
    try simp only [T]
    refine P 1 Z ?_
    obtain ⟨bA,bD,h⟩:=aj h
    refine bf (t:=16) Z Z (kU Tryz.underlying9 Z Z bD) Z (bf (t:=16) Z Z (aq Z Z (fX _ bA 45)) Z (P 1 Z ?_))
    cases ab:(bA == 45)
    case true=>
     have h:=aG h ab
     try simp only [ab]
     refine P 5 Z ?_
     refine H (M ?_)
     exact au _ (by exact ⟨Z,Z,Z,Z,Z,V⟩) (aS true _ _ ⟨Z,b⟩ h)
    case false=>
     have h:=aH h ab
     try simp only [ab]
     refine P 1 Z ?_
     obtain ⟨bB,bE,h⟩:=aj h
     refine bf (t:=20) Z Z (kU Tryz.underlying9 Z Z bE) Z (bf (t:=20) Z Z (aq Z Z (fX _ bB 43)) Z (P 2 Z ?_))
     refine H (M ?_)
     exact au _ (by exact ⟨Z,Z,Z,Z,Z,V⟩) (aS (bB == 43) _ _ ⟨Z,b⟩ h)
   case false=>
    have h:=aH h T
    try simp only [T]
    refine P 9 Z ?_
    refine H (M ?_)
    exact au _ (by exact ⟨Z,Z,Z,Z,Z,V⟩) (aS false _ _ ⟨Z,b⟩ h)
  rintro b5 L w hJ h
  try dsimp only at hJ
  obtain ⟨rfl,b⟩:=hJ
  unfold F.EM at h
  refine ax Z (fun ac=>?_) (fun ac=>?_)
  ·have h:=aG h ac
   refine I (af (P 1 Z ?_))
   obtain ⟨bC,bF,h⟩:=aj h
   refine am (kU Tryz.underlying9 Z Z bF) Z (am (aq Z Z (fX _ bC 45)) Z (P 1 Z ?_))
   refine H (M (af (P 1 Z ?_)))
   obtain ⟨bG,be,h⟩:=aj h
   refine am (wC Tryz.underlying9 Z Z be) Z (P 1 Z ?_)
   refine H (M ?_)
   exact au _ (by exact ⟨Z,Z,Z,Z,V⟩) (aT (bG,bC == 45) _ _ ⟨Z,b⟩ h)
  have h:=aH h ac
  refine az (M ?_)
  exact au _ (by exact ⟨Z,Z,Z,Z,V⟩) (aT (a1,false) _ _ ⟨Z,b⟩ h)
 rintro ⟨l,i⟩ L w hJ h
 try dsimp only at hJ
 obtain ⟨rfl,b⟩:=hJ
 unfold F.Fa at h
 refine a9 (r:=r) (fun (g:List UInt8×Int) L w=>L=[(0,N e 0),(1,vS g.1),(2,vI g.2),(8,J i)]∧St S q w [W e [J c,a],K U a d]) (F.DJ c d i) ?_ ?_
 rotate_left
 ·intro x
  refine I (af (P 2 Z ?_))
  refine H (M ?_)
  refine ax Z (fun ad=>?_) (fun ad=>?_)
  ·have h:=aG h ad
   refine I (af (P 1 Z ?_))
   refine H (M ?_)
   refine a9 (r:=r) (fun (g:Bool) L w=>L=[(0,N e 0),(1,vS l),(2,vI 10),(8,J i),(40,J g)]∧St S q w [W e [J c,a],K U a d]) (F.F3 l c d i) ?_ ?_
   rotate_left
   ·intro aV
    refine af (P 1 Z ?_)
    refine am (kz Tryz.underlying9 Z) Z (P 2 Z ?_)
    cases y:(decide ((2:Int)<(l.length:Int)))
    case true=>
     have h:=aG h y
     try simp only [y]
     refine P 1 Z ?_
     obtain ⟨a6,bi,h⟩:=aj h
     refine bf (t:=36) Z Z (kU Tryz.underlying9 Z Z bi) Z (bf (t:=36) Z Z (aq Z Z (fX _ a6 48)) Z (P 1 Z ?_))
     refine H (M ?_)
     exact au _ (by exact ⟨Z,Z,Z,Z,Z,V⟩) (aV (a6 == 48) _ _ ⟨Z,b⟩ h)
    case false=>
     have h:=aH h y
     try simp only [y]
     refine P 4 Z ?_
     refine H (M ?_)
     exact au _ (by exact ⟨Z,Z,Z,Z,Z,V⟩) (aV false _ _ ⟨Z,b⟩ h)
   rintro bN L w hJ h
   try dsimp only at hJ
   obtain ⟨rfl,b⟩:=hJ
   unfold F.F3 at h
   refine ax Z (fun ag=>?_) (fun ag=>?_)
   ·have h:=aG h ag
    refine a9 (r:=r) (fun (g:Int) L w=>L=[(0,N e 0),(1,vS l),(2,vI g),(8,J i)]∧St S q w [W e [J c,a],K U a d]) (F.EE l c d i) ?_ ?_
    rotate_left
    ·intro z
     refine I (af (P 1 Z ?_))
     obtain ⟨k,bj,h⟩:=aj h
     refine am (kU Tryz.underlying9 Z Z bj) Z (H (M (aE ?_)))
     refine a9 (r:=r) (fun (g:Bool) L w=>L=[(0,N e 0),(1,vS l),(2,vI 10),(8,J i),(42,v8 k),(43,J g)]∧St S q w [W e [J c,a],K U a d]) (F.FL k l c d i) ?_ ?_
     rotate_left
     ·intro aW
      refine I (af (am (aq Z Z (fX _ k 120)) Z (P 1 Z ?_)))
      refine H (M ?_)
      refine ax Z (fun ak=>?_) (fun ak=>?_)
      ·have h:=aG h ak
       refine az (M ?_)
       exact au _ (by exact ⟨Z,Z,Z,Z,Z,Z,V⟩) (aW (k == 120) _ _ ⟨Z,b⟩ h)
      have h:=aH h ak
      refine af (am (aq Z Z (fX _ k 88)) Z (P 1 Z ?_))
      refine H (M ?_)
      exact au _ (by exact ⟨Z,Z,Z,Z,Z,Z,V⟩) (aW (k == 88) _ _ ⟨Z,b⟩ h)
     rintro bO L w hJ h
     try dsimp only at hJ
     obtain ⟨rfl,b⟩:=hJ
     unfold F.FL at h
     refine ax Z (fun al=>?_) (fun al=>?_)
     ·have h:=aG h al
      refine af (P 1 Z ?_)
      refine H (aU ?_)
      refine M ?_
      exact au _ (by exact ⟨Z,Z,Z,Z,V⟩) (z 16 _ _ ⟨Z,b⟩ h)
     have h:=aH h al
     refine a9 (r:=r) (fun (g:Bool) L w=>L=[(0,N e 0),(1,vS l),(2,vI 10),(8,J i),(42,v8 k),(46,J g)]∧St S q w [W e [J c,a],K U a d]) (F.F4 k l c d i) ?_ ?_
     rotate_left
     ·intro aY
      refine I (af (am (aq Z Z (fX _ k 98)) Z (P 1 Z ?_)))
      refine H (M ?_)
      refine ax Z (fun an=>?_) (fun an=>?_)
      ·have h:=aG h an
       refine az (M ?_)
       exact au _ (by exact ⟨Z,Z,Z,Z,Z,Z,V⟩) (aY (k == 98) _ _ ⟨Z,b⟩ h)
      have h:=aH h an
      refine af (am (aq Z Z (fX _ k 66)) Z (P 1 Z ?_))
      refine H (M ?_)
      exact au _ (by exact ⟨Z,Z,Z,Z,Z,Z,V⟩) (aY (k == 66) _ _ ⟨Z,b⟩ h)
     rintro bP L w hJ h
     try dsimp only at hJ
     obtain ⟨rfl,b⟩:=hJ
     unfold F.F4 at h
     refine ax Z (fun ap=>?_) (fun ap=>?_)
     ·have h:=aG h ap
      refine af (P 1 Z ?_)
      refine H (aU ?_)
      refine M ?_
      exact au _ (by exact ⟨Z,Z,Z,Z,V⟩) (z 2 _ _ ⟨Z,b⟩ h)
     have h:=aH h ap
     refine a9 (r:=r) (fun (g:Bool) L w=>L=[(0,N e 0),(1,vS l),(2,vI 10),(8,J i),(49,J g)]∧St S q w [W e [J c,a],K U a d]) (F.F0 l c d i) ?_ ?_
     rotate_left
     ·intro aZ
      refine I (af (am (aq Z Z (fX _ k 111)) Z (P 1 Z ?_)))
      refine H (M ?_)
      refine ax Z (fun ar=>?_) (fun ar=>?_)
      ·have h:=aG h ar
       refine az (M ?_)
       exact au _ (by exact ⟨Z,Z,Z,Z,Z,V⟩) (aZ (k == 111) _ _ ⟨Z,b⟩ h)
      have h:=aH h ar
      refine af (am (aq Z Z (fX _ k 79)) Z (P 1 Z ?_))
      refine H (M ?_)
      exact au _ (by exact ⟨Z,Z,Z,Z,Z,V⟩) (aZ (k == 79) _ _ ⟨Z,b⟩ h)
     rintro bQ L w hJ h
     try dsimp only at hJ
     obtain ⟨rfl,b⟩:=hJ
     unfold F.F0 at h
     refine ax Z (fun av=>?_) (fun av=>?_)
     ·have h:=aG h av
      refine af (P 1 Z ?_)
      refine H (aU ?_)
      refine M ?_
      exact au _ (by exact ⟨Z,Z,Z,Z,V⟩) (z 8 _ _ ⟨Z,b⟩ h)
     have h:=aH h av
     refine az (aU ?_)
     refine M ?_
     exact au _ (by exact ⟨Z,Z,Z,Z,V⟩) (z 10 _ _ ⟨Z,b⟩ h)
    rintro a7 L w hJ h
    try dsimp only at hJ
    obtain ⟨rfl,b⟩:=hJ
    unfold F.EE at h
    refine I (af (P 2 Z ?_))
    refine H (M ?_)
    refine ax Z (fun ay=>?_) (fun ay=>?_)
    ·have h:=aG h ay
     refine af (P 1 Z ?_)
     obtain ⟨bH,bl,h⟩:=aj h
     refine am (wC Tryz.underlying9 Z Z bl) Z (P 1 Z ?_)
     refine H (M ?_)
     exact au _ (by exact ⟨Z,Z,Z,Z,V⟩) (x (bH,a7) _ _ ⟨Z,b⟩ h)
    have h:=aH h ay
    refine az (M ?_)
    exact au _ (by exact ⟨Z,Z,Z,Z,V⟩) (x (l,a7) _ _ ⟨Z,b⟩ h)
   have h:=aH h ag
   refine az (M ?_)
   exact au _ (by exact ⟨Z,Z,Z,Z,V⟩) (x (l,10) _ _ ⟨Z,b⟩ h)
  have h:=aH h ad
  refine az (M ?_)
  exact au _ (by exact ⟨Z,Z,Z,Z,V⟩) (x (l,a2) _ _ ⟨Z,b⟩ h)
 rintro ⟨n,j⟩ L w hJ h
 try dsimp only at hJ
 obtain ⟨rfl,b⟩:=hJ
 unfold F.DJ at h
 refine I ?_
 refine a9 (r:=r) (fun (g:Bool) L w=>L=[(0,N e 0),(1,vS n),(2,vI j),(8,J i),(66,J g)]∧St S q w [W e [J c,a],K U a d]) (F.Em c d i n j) ?_ ?_
 rotate_left
 ·intro aA
  refine af (P 1 Z ?_)
  refine am (kz Tryz.underlying9 Z) Z (P 2 Z ?_)
  cases A:((n.length:Int) == 0)
  case true=>
   have h:=aG h A
   try simp only [A]
   refine P 7 Z ?_
   refine H (M ?_)
   exact au _ (by exact ⟨Z,Z,Z,Z,Z,V⟩) (aA true _ _ ⟨Z,b⟩ h)
  case false=>
   have h:=aH h A
   try simp only [A]
   refine P 4 Z ?_
   cases B:(decide (j<2))
   case true=>
    have h:=aG h B
    try simp only [B]
    refine P 3 Z ?_
    refine H (M ?_)
    exact au _ (by exact ⟨Z,Z,Z,Z,Z,V⟩) (aA true _ _ ⟨Z,b⟩ h)
   case false=>
    have h:=aH h B
    try simp only [B]
    refine P 3 Z ?_
    refine H (M ?_)
    exact au _ (by exact ⟨Z,Z,Z,Z,Z,V⟩) (aA (decide ((36:Int)<j)) _ _ ⟨Z,b⟩ h)
 rintro bR L w hJ h
 try dsimp only at hJ
 obtain ⟨rfl,b⟩:=hJ
 unfold F.Em at h
 refine ax Z (fun aC=>?_) (fun aC=>?_)
 ·have h:=aG h aC
  refine I (af (P 2 Z ?_))
  refine H (M (aw (aD ?_)))
  cases h
 have h:=aH h aC
 refine az (M (I (af (P 1 Z ?_))))
 refine H (M (I (I (af (P 1 Z ?_)))))
 refine H (M (aE ?_))
 refine au [(0,N e 0),(1,vS n),(2,vI j),(8,J i),(9,.slice none 0 0),(10,vI 0)] ⟨Z,Z,Z,Z,Z,Z,V⟩ ?_
 refine bk (F.DK c d i n j) (fun (s:List UInt32×Int) L w=>∃(m:Value),L=[(0,N e 0),(1,vS n),(2,vI j),(8,J i),(9,m),(10,vI s.2)]∧St S q w [K U m s.1,W e [J c,a],K U a d]) ?_ ([],0) ⟨.slice none 0 0,Z,(b.nil U)⟩ h
 rintro bS ⟨o,p⟩ L w aF hI bm h aK
 try dsimp only at hI
 obtain ⟨m,rfl,b⟩:=hI
 unfold F.DK at h
 refine I (I (af (P 2 Z ?_)))
 refine am (kz Tryz.underlying9 Z) Z (P 1 Z ?_)
 refine H (M ?_)
 refine ax Z (fun aL=>?_) (fun aL=>?_)
 ·have h:=aG h aL
  refine az (M (I (aE ?_)))
  refine I (af (P 1 Z ?_))
  refine H (M ?_)
  refine a9 (r:=aF) (fun (g:Int) L w=>L=[(0,N e 0),(1,vS n),(2,vI j),(8,J i),(9,m),(10,vI p),(11,vI g)]∧St S q w [W e [J c,a],K U a d,K U m o]) (F.CW j o p) ?_ ?_
  rotate_left
  ·intro C
   refine I (af (P 2 Z ?_))
   obtain ⟨f,bn,h⟩:=aj h
   refine am (kU Tryz.underlying9 Z Z bn) Z (P 1 Z ?_)
   refine H (M (aE ?_))
   refine a9 (r:=aF) (fun (g:Bool) L w=>L=[(0,N e 0),(1,vS n),(2,vI j),(8,J i),(9,m),(10,vI p),(11,vI 99),(12,v8 f),(76,J g)]∧St S q w [W e [J c,a],K U a d,K U m o]) (F.E2 f j o p) ?_ ?_
   rotate_left
   ·intro a0
    refine af (P 1 Z ?_)
    refine am (aq Z Z (sG _ f 48)) Z (P 1 Z ?_)
    cases D:(decide ((48:UInt8)≤f))
    case true=>
     have h:=aG h D
     try simp only [D]
     refine P 1 Z ?_
     refine bf (t:=79) Z Z (aq Z Z (sF _ f 57)) Z (P 2 Z ?_)
     refine H (M ?_)
     exact au _ (by exact ⟨Z,Z,Z,Z,Z,Z,Z,Z,Z,V⟩) (a0 (decide (f≤57)) _ _ ⟨Z,(b.e [1,2,0] Z Z)⟩ h)
    case false=>
     have h:=aH h D
     try simp only [D]
     refine P 4 Z ?_
     refine H (M ?_)
     exact au _ (by exact ⟨Z,Z,Z,Z,Z,Z,Z,Z,Z,V⟩) (a0 false _ _ ⟨Z,(b.e [1,2,0] Z Z)⟩ h)
   rintro bT L w hJ h
   try dsimp only at hJ
   obtain ⟨rfl,b⟩:=hJ
   unfold F.E2 at h
   refine ax Z (fun aN=>?_) (fun aN=>?_)
   ·have h:=aG h aN
    refine af (P 1 Z ?_)
    refine am (aq Z Z (sd _ f 48)) Z (am (aM Z (oL Tryz.underlying5 Tryz.underlying3 (f - 48))) Z ?_)
    obtain ⟨a8,bo,h⟩:=aO h
    refine am (aB (v:=vI a8) (by rw [←bo]; rfl)) Z ?_
    refine H (aU ?_)
    refine M ?_
    exact au _ (by exact ⟨Z,Z,Z,Z,Z,Z,Z,V⟩) (C a8 _ _ ⟨Z,b⟩ h)
   have h:=aH h aN
   refine a9 (r:=aF) (fun (g:Bool) L w=>L=[(0,N e 0),(1,vS n),(2,vI j),(8,J i),(9,m),(10,vI p),(11,vI 99),(12,v8 f),(86,J g)]∧St S q w [W e [J c,a],K U a d,K U m o]) (F.Fg f j o p) ?_ ?_
   rotate_left
   ·intro a3
    refine af (P 1 Z ?_)
    refine am (aq Z Z (sG _ f 97)) Z (P 1 Z ?_)
    cases E:(decide ((97:UInt8)≤f))
    case true=>
     have h:=aG h E
     try simp only [E]
     refine P 1 Z ?_
     refine bf (t:=89) Z Z (aq Z Z (sF _ f 122)) Z (P 2 Z ?_)
     refine H (M ?_)
     exact au _ (by exact ⟨Z,Z,Z,Z,Z,Z,Z,Z,Z,V⟩) (a3 (decide (f≤122)) _ _ ⟨Z,b⟩ h)
    case false=>
     have h:=aH h E
     try simp only [E]
     refine P 4 Z ?_
     refine H (M ?_)
     exact au _ (by exact ⟨Z,Z,Z,Z,Z,Z,Z,Z,Z,V⟩) (a3 false _ _ ⟨Z,b⟩ h)
   rintro bU L w hJ h
   try dsimp only at hJ
   obtain ⟨rfl,b⟩:=hJ
   unfold F.Fg at h
   refine ax Z (fun aP=>?_) (fun aP=>?_)
   ·have h:=aG h aP
    refine af (P 1 Z ?_)
    refine am (aq Z Z (sd _ f 97)) Z (am (aM Z (oL Tryz.underlying5 Tryz.underlying3 (f - 97))) Z (P 1 Z ?_))
    obtain ⟨bb,bp,h⟩:=aO h
    refine am (aB (v:=vI bb) (by rw [←bp]; rfl)) Z ?_
    refine H (aU ?_)
    refine M ?_
    exact au _ (by exact ⟨Z,Z,Z,Z,Z,Z,Z,V⟩) (C bb _ _ ⟨Z,b⟩ h)
   have h:=aH h aP
   refine a9 (r:=aF) (fun (g:Bool) L w=>L=[(0,N e 0),(1,vS n),(2,vI j),(8,J i),(9,m),(10,vI p),(11,vI 99),(12,v8 f),(97,J g)]∧St S q w [W e [J c,a],K U a d,K U m o]) (F.FO f j o p) ?_ ?_
   rotate_left
   ·intro a4
    refine af (P 1 Z ?_)
    refine am (aq Z Z (sG _ f 65)) Z (P 1 Z ?_)
    cases G:(decide ((65:UInt8)≤f))
    case true=>
     have h:=aG h G
     try simp only [G]
     refine P 1 Z ?_
     refine bf (t:=100) Z Z (aq Z Z (sF _ f 90)) Z (P 2 Z ?_)
     refine H (M ?_)
     exact au _ (by exact ⟨Z,Z,Z,Z,Z,Z,Z,Z,Z,V⟩) (a4 (decide (f≤90)) _ _ ⟨Z,b⟩ h)
    case false=>
     have h:=aH h G
     try simp only [G]
     refine P 4 Z ?_
     refine H (M ?_)
     exact au _ (by exact ⟨Z,Z,Z,Z,Z,Z,Z,Z,Z,V⟩) (a4 false _ _ ⟨Z,b⟩ h)
   rintro bW L w hJ h
   try dsimp only at hJ
   obtain ⟨rfl,b⟩:=hJ
   unfold F.FO at h
   refine ax Z (fun aQ=>?_) (fun aQ=>?_)
   ·have h:=aG h aQ
    refine af (P 1 Z ?_)
    refine am (aq Z Z (sd _ f 65)) Z (am (aM Z (oL Tryz.underlying5 Tryz.underlying3 (f - 65))) Z (P 1 Z ?_))
    obtain ⟨bc,bq,h⟩:=aO h
    refine am (aB (v:=vI bc) (by rw [←bq]; rfl)) Z ?_
    refine H (aU ?_)
    refine M ?_
    exact au _ (by exact ⟨Z,Z,Z,Z,Z,Z,Z,V⟩) (C bc _ _ ⟨Z,b⟩ h)
   have h:=aH h aQ
   refine az (aU ?_)
   refine M ?_
   exact au _ (by exact ⟨Z,Z,Z,Z,Z,Z,Z,V⟩) (C 99 _ _ ⟨Z,b⟩ h)
  rintro bd L w hJ h
  try dsimp only at hJ
  obtain ⟨rfl,b⟩:=hJ
  unfold F.CW at h
  refine I (I (af (P 3 Z ?_)))
  refine H (M ?_)
  refine ax Z (fun aR=>?_) (fun aR=>?_)
  ·have h:=aG h aR
   refine I (af (P 2 Z ?_))
   refine H (M (aw (aD (bV ?_))))
   refine aD (aD ?_)
   have h:=aX h aK
   refine bV ?_
   refine aD ?_
   cases h
  have h:=aH h aR
  refine az (M (af (P 2 Z ?_)))
  refine am (aM Z (fb Tryz.underlying3 u87 j)) Z ?_
  obtain ⟨bY,br,h⟩:=aj h
  refine ao Z (eg (UInt64.ofInt j) br ) Z ?_
  rintro bZ w u
  have b:=b.f u
  obtain ⟨b0,bs,h⟩:=aj h
  refine ao Z (lU  bs (b.ro 3 Z).rp (b.ro 0 Z).rp) Z ?_
  rintro b1 w u
  have b:=b.f u
  refine P 1 Z ?_
  refine am (aM Z (fb Tryz.underlying3 u87 bd)) Z ?_
  obtain ⟨b2,bt,h⟩:=aj h
  refine ao Z (eg (UInt64.ofInt bd) bt ) Z ?_
  rintro b3 w u
  have b:=b.f u
  obtain ⟨bI,bu,h⟩:=aj h
  refine ao Z (jj  bu (b.ro 1 Z).rp (b.ro 0 Z).rp) Z ?_
  rintro bJ w u
  have b:=b.f u
  refine P 1 Z ?_
  refine H (aU ?_)
  refine M (af (P 3 Z ?_))
  refine H ?_
  exact bv (bz _ (by exact ⟨Z,Z,Z,Z,Z,Z,V⟩) (bm (bI,wI (p+1)) _ _ ⟨bJ,Z,(b.e [0,4,5] Z Z)⟩ (ba h aK)))
 have h:=aH h aL
 refine bh ?_
 refine aI (aI ?_)
 have h:=aX h aK
 refine bg ?_
 refine M (I (af (P 3 Z ?_)))
 have hG:=b.pick (os':=[W e [J c,a],K U a d,K U m o]++[]) [1,2,0] (by decide) Z
 obtain ⟨b4,bw,h⟩:=aj h
 refine ao Z (bK c i bw hG.g ) Z ?_
 rintro _ w ⟨bL,rfl,u⟩
 have b:=hG.h u
 refine P 2 Z ?_
 refine H (M (aw ?_))
 cases h
 exact bX Z Z Z ⟨bL,Z,b.e [0,1] Z Z⟩
theorem gC {f:World} {a0:List UInt32} {b:Value} {r:Int}
  (h:F.DI a0=some r) (c:RP [] f U b a0):Calls Tryz.prog 151 #[b] f (Ret fun v w=>v=vI r∧St [] f w []):=by
 refine aJ 26 Tryz.func151 Z Z Z ?_
 have a:=St.l f
 refine au [(0,b)] ⟨Z,V⟩ ?_
 unfold F.DI at h
 refine I (af (P 1 Z ?_))
 refine H (M (I (I (af (P 1 Z ?_)))))
 refine am (aN u30 Z (c.d a.fr)) Z (P 1 Z ?_)
 refine H (M ?_)
 refine ax Z (fun d=>?_) (fun d=>?_)
 ·have h:=aG h d
  refine I (af (P 1 Z ?_))
  refine H (M (aw (aD ?_)))
  cases h
  exact aF Z Z ⟨Z,a⟩
 have h:=aH h d
 refine az (M (I (af (P 1 Z ?_))))
 refine H (M (I (I (af (P 2 Z ?_)))))
 refine am (aN u30 Z (c.d a.fr)) Z (P 1 Z ?_)
 obtain ⟨k,g,h⟩:=aj h
 refine am (bm u30 aW Z Z (c.d a.fr) g) Z (am (bc u38 Z Z (c.d a.fr) g Z) Z (P 1 Z ?_))
 refine H (M (aE ?_))
 refine au [(0,b),(3,vI 0),(4,v32 k)] ⟨Z,Z,Z,V⟩ ?_
 refine bk (F.Dt a0) (fun (s:Int×UInt32) L w=>L=[(0,b),(3,vI s.1),(4,v32 s.2)]∧St [] f w []) ?_ (0,k) ⟨Z,a⟩ h
 rintro n ⟨m,i⟩ L w o hI l h j
 try dsimp only at hI
 obtain ⟨rfl,a⟩:=hI
 unfold F.Dt at h
 refine I (I (af (P 1 Z ?_)))
 refine am (aq Z Z (kc _ i 0)) Z (H (M ?_))
 refine ax Z (fun e=>?_) (fun e=>?_)
 ·have h:=aG h e
  refine az (M (I (aE ?_)))
  refine af (P 3 Z ?_)
  refine H (aU ?_)
  refine M (af (P 1 Z ?_))
  refine am (aq Z Z (dl _ i 1)) Z (P 1 Z ?_)
  refine H ?_
  exact bv (bz _ (by exact ⟨Z,Z,Z,V⟩) (l (wI (m+1),bD i 1) _ _ ⟨Z,a⟩ (ba h j)))
 have h:=aH h e
 refine bh ?_
 refine aI (aI ?_)
 have h:=aX h j
 refine bg ?_
 refine M (I (af (P 1 Z ?_)))
 refine am (aN u30 Z (c.d a.fr)) Z (P 1 Z ?_)
 refine am (aq Z Z (fj _ (wI ((a0.length:Int) - 1)) 32)) Z (P 3 Z ?_)
 refine H (M (aw ?_))
 cases h
 exact aF Z Z ⟨Z,a⟩
theorem io {p:World} {g:List UInt32} {l:Value} {f:Nat} (q:Bool) {r:List UInt8}
  (h:F.EC q g=some r) (c:RP [] p U l g) (hBa0:RB [] p f [J q,l]):Calls Tryz.prog 120 #[N f 0] p (Ret fun v w=>St [] p w [K e8 v r]):=by
 refine aJ 41 Tryz.func120 Z Z Z ?_
 have a:=St.l p
 refine au [(0,N f 0)] ⟨Z,V⟩ ?_
 unfold F.EC at h
 refine I (af (P 1 Z ?_))
 refine H (M (I (af (P 1 Z ?_))))
 refine am (aK Z) Z (am (av (k:=1) u101 Z Z db Z) Z (am (aC u30 Z Z (hBa0.cell a.fr 1 Z)) Z ?_))
 obtain ⟨E,z,h⟩:=aj h
 refine ao Z (gC  z (c.d a.fr).rp) Z ?_
 rintro _ w ⟨rfl,G⟩
 have a:=a.f G
 refine P 1 Z ?_
 refine am (aq Z Z (dT _ (wI (E+7)) 8 (by decide))) Z ?_
 obtain ⟨m,A,h⟩:=aO h
 refine am (aB (v:=vI m) (by rw [←A]; rfl)) Z ?_
 refine H (M (I (af (P 1 Z ?_))))
 obtain ⟨S,B,h⟩:=aj h
 refine aP (de (e:=e8) u24 ti5 Z Z Z a B) Z ?_
 rintro u w a
 refine P 1 Z ?_
 refine H (M (I (I (af (P 1 Z ?_)))))
 refine H (M (aE ?_))
 refine au [(0,N f 0),(3,vI m),(4,u),(5,vI 0)] ⟨Z,Z,Z,Z,V⟩ ?_
 refine bk (F.EP g m) (fun (s:Int×List UInt8) L w=>L=[(0,N f 0),(3,vI m),(4,u),(5,vI s.1)]∧St [] p w [K e8 u s.2]) ?_ (0,S) ⟨Z,a⟩ h
 rintro T ⟨b,ad⟩ L w ab hI C h x
 try dsimp only at hI
 obtain ⟨rfl,a⟩:=hI
 unfold F.EP at h
 refine I (I (af (P 3 Z ?_)))
 refine H (M ?_)
 refine ax Z (fun d=>?_) (fun d=>?_)
 ·have h:=aG h d
  refine az (M (I (aE ?_)))
  refine af (P 6 Z ?_)
  refine am (aK Z) Z (am (av (k:=1) u101 Z Z db Z) Z (am (aC u30 Z Z (hBa0.cell a.fr 1 Z)) Z (P 1 Z ?_)))
  refine am (aq Z Z (dT _ b 4 (by decide))) Z ?_
  obtain ⟨j,n,h⟩:=aj h
  refine am (bm u30 aW Z Z (c.d a.fr) n) Z (am (bc u38 Z Z (c.d a.fr) n Z) Z (P 1 Z ?_))
  refine am (aM Z (fb Tryz.underlying3 u112 b)) Z ?_
  refine am (aq Z Z (eW _ (UInt64.ofInt b) 4 (by decide))) Z ?_
  refine am (aq Z Z (gY _ 8 ((UInt64.ofInt b)%4))) Z (am (aq Z Z (dl _ j (8*((UInt64.ofInt b)%4)))) Z (am (aM Z (gL u38 Tryz.underlying5 (bD j ((8*((UInt64.ofInt b)%4)).toNat)))) Z ?_))
  obtain ⟨ac,o,h⟩:=aj h
  refine am (bm u24 ti5 Z Z (a.ro 0 Z) o) Z (bb (cc (t:=((bD j ((8*((UInt64.ofInt b)%4)).toNat)).toUInt8)) ti5 Z Z a (i:=0) Z o Z) ?_)
  intro w a
  obtain ⟨D,y,h⟩:=aO h
  rw [y]at a
  refine H (aU ?_)
  refine M (af (P 3 Z ?_))
  refine H ?_
  exact bv (bz _ (by exact ⟨Z,Z,Z,Z,V⟩) (C (wI (b+1),D) _ _ ⟨Z,a⟩ (ba h x)))
 have h:=aH h d
 refine bh ?_
 refine aI (aI ?_)
 have h:=aX h x
 refine bg ?_
 refine M (I (af (P 2 Z ?_)))
 refine H (M (aw ?_))
 cases h
 exact aF Z Z (a.e [0] Z Z)
theorem iD {q:World} {a0:List UInt32} {f:Value} (a1:UInt64) {r:List UInt32}
  (h:F.DH a0 a1=some r) (g:RP [] q U f a0):Calls Tryz.prog 143 #[f,v64 a1] q (Ret fun v w=>St [] q w [K U v r]):=by
 refine aJ 61 Tryz.func143 Z Z Z ?_
 have a:=St.l q
 refine au [(0,f),(1,v64 a1)] ⟨Z,Z,V⟩ ?_
 unfold F.DH at h
 refine I (af (P 1 Z ?_))
 refine H (M (I (I (af (P 1 Z ?_)))))
 refine am (aN u30 Z (g.d a.fr)) Z (P 1 Z ?_)
 refine H (M ?_)
 refine ax Z (fun c=>?_) (fun c=>?_)
 ·have h:=aG h c
  refine I (af (P 1 Z ?_))
  refine H (M (aw (aD ?_)))
  cases h
  exact aF Z Z ((a.nil U).e [0] Z Z)
 have h:=aH h c
 refine az (M (I (af (P 1 Z ?_))))
 refine am (aq Z Z (gV _ a1 32 (by decide))) Z ?_
 refine am (aM Z (mF u112 Tryz.underlying3 (a1 / 32))) Z (P 1 Z ?_)
 refine am (aq Z Z (eW _ a1 32 (by decide))) Z ?_
 obtain ⟨j,S,h⟩:=aO h
 refine am (aB (v:=vI j) (by rw [←S]; rfl)) Z ?_
 refine P 1 Z ?_
 refine H (M (I (af (P 1 Z ?_))))
 refine am (aN u30 Z (g.d a.fr)) Z (P 3 Z ?_)
 obtain ⟨ad,T,h⟩:=aj h
 refine aP (de (e:=U) u30 aW Z Z Z a T) Z ?_
 rintro k w a
 refine P 1 Z ?_
 refine H (M (I (I (af (P 1 Z ?_)))))
 refine H (M (aE ?_))
 refine au [(0,f),(5,vI j),(6,v64 (a1%32)),(7,k),(8,vI 0)] ⟨Z,Z,Z,Z,Z,V⟩ ?_
 refine bk (F.D9 a0 a1 j) (fun (s:Int×List UInt32) L w=>L=[(0,f),(5,vI j),(6,v64 (a1%32)),(7,k),(8,vI s.1)]∧St [] q w [K U k s.2]) ?_ (0,ad) ⟨Z,a⟩ h
 rintro ap ⟨ag,ak⟩ L w aK hI ab h u
 try dsimp only at hI
 obtain ⟨rfl,a⟩:=hI
 unfold F.D9 at h
 refine I (I (af (P 2 Z ?_)))
 refine am (aN u30 Z (g.d a.fr)) Z (P 1 Z ?_)
 refine H (M ?_)
 refine ax Z (fun d=>?_) (fun d=>?_)
 ·have h:=aG h d
  refine az (M (I (aE ?_)))
  refine I (af (P 2 Z ?_))
  obtain ⟨x,l,h⟩:=aj h
  refine am (bm u30 aW Z Z (g.d a.fr) l) Z (am (bc u38 Z Z (g.d a.fr) l Z) Z (am (aM Z (bq u38 u87 x)) Z (P 1 Z ?_)))
  refine am (aq Z Z (dc _ x.toUInt64 (a1%32))) Z ?_
  obtain ⟨b,B,h⟩:=aO h
  refine am (aB (v:=v64 b) (by rw [←B]; rfl)) Z ?_
  refine H (M (I (af (P 4 Z ?_))))
  obtain ⟨y,m,h⟩:=aj h
  refine am (bm u30 aW Z Z (a.ro 0 Z) m) Z (am (bc u38 Z Z (a.ro 0 Z) m Z) Z (P 1 Z ?_))
  refine am (aM Z (bW u87 u38 b)) Z (am (aq Z Z (fE _ y b.toUInt32)) Z ?_)
  obtain ⟨ar,n,h⟩:=aj h
  refine am (bm u30 aW Z Z (a.ro 0 Z) n) Z (bb (cc (t:=(y ||| b.toUInt32)) aW Z Z a (i:=0) Z n Z) ?_)
  intro w a
  obtain ⟨av,C,h⟩:=aO h
  rw [C]at a
  refine H (M (af (P 5 Z ?_)))
  obtain ⟨z,o,h⟩:=aj h
  refine am (bm u30 aW Z Z (a.ro 0 Z) o) Z (am (bc u38 Z Z (a.ro 0 Z) o Z) Z (P 1 Z ?_))
  refine am (aq Z Z (cl _ b 32)) Z (am (aM Z (bW u87 u38 (aQ b 32))) Z (am (aq Z Z (fE _ z ((aQ b 32).toUInt32))) Z ?_))
  obtain ⟨ay,p,h⟩:=aj h
  refine am (bm u30 aW Z Z (a.ro 0 Z) p) Z (bb (cc (t:=(z ||| ((aQ b 32).toUInt32))) aW Z Z a (i:=0) Z p Z) ?_)
  intro w a
  obtain ⟨ac,D,h⟩:=aO h
  rw [D]at a
  refine H (aU ?_)
  refine M (af (P 3 Z ?_))
  refine H ?_
  exact bv (bz _ (by exact ⟨Z,Z,Z,Z,Z,V⟩) (ab (wI (ag+1),ac) _ _ ⟨Z,a⟩ (ba h u)))
 have h:=aH h d
 refine bh ?_
 refine aI (aI ?_)
 have h:=aX h u
 refine bg ?_
 refine M (I (af (P 1 Z ?_)))
 have hG:=a.pick (os':=[K U k ak]++[]) [0] (by decide) Z
 obtain ⟨aA,E,h⟩:=aj h
 refine ao Z (c8  E hG.g ) Z ?_
 rintro aC w ⟨an,A,G⟩
 rw [←A]at G
 have a:=hG.h G
 refine P 1 Z ?_
 refine H (M (aw ?_))
 cases h
 exact aF Z Z (a.e [0] Z Z)
theorem eO {l:World} {e:List UInt32} {a1:List UInt8} {b j:Value} {c:Nat} {S:List Nat} (d:Bool) {r:Bool×List UInt32}
  (h:F.DO d e a1=some r) (a:St S l l [W c [J d,b],K U b e]) (n:RP S l e8 j a1):Calls Tryz.prog 77 #[N c 0,j] l (Ret fun v w=>∃o:Value,v=N c 0∧St S l w [W c [J r.1,o],K U o r.2]):=by
 refine aJ 25 Tryz.func77 Z Z Z ?_
 refine au [(0,N c 0),(1,j)] ⟨Z,Z,V⟩ ?_
 unfold F.DO at h
 refine I (af (P 1 Z ?_))
 refine H (M (I (af (P 1 Z ?_))))
 refine H (M (I (I (af (P 1 Z ?_)))))
 refine H (M (aE ?_))
 refine au [(0,N c 0),(1,j),(5,.slice none 0 0),(6,vI 0)] ⟨Z,Z,Z,Z,V⟩ ?_
 refine bk (F.DY d e a1) (fun (s:List UInt32×Int) L w=>∃(k:Value),L=[(0,N c 0),(1,j),(5,k),(6,vI s.2)]∧St S l w [K U k s.1,W c [J d,b],K U b e]) ?_ ([],0) ⟨.slice none 0 0,Z,(a.nil U)⟩ h
 rintro ab ⟨z,G⟩ L w ap hI A h p
 try dsimp only at hI
 obtain ⟨k,rfl,a⟩:=hI
 unfold F.DY at h
 refine I (I (af (P 2 Z ?_)))
 refine am (aN u24 Z (n.d a.fr)) Z (P 1 Z ?_)
 refine H (M ?_)
 refine ax Z (fun g=>?_) (fun g=>?_)
 ·have h:=aG h g
  refine az (M (I (aE ?_)))
  refine aZ (fun w'=>St S l w' [K U k z,W c [J d,b],K U b e]) (fun i=>!([1,7,8].contains i)) bS (fun _ _ _ B=>B.2) (fun _ _ B=>B) (by kernel_rfl) ?_
  have a:=a.drew
  show lxE _ _ _ _ _ _ _ [0,1,2,3,4,5,6,7,8,9] _ _
  refine al a Z Z (fun w hF=>ar Z) Z ?_
  obtain ⟨ac,t,h⟩:=aj h
  refine bj a Z Z (by kernel_rfl) Z (iD 8 t (a.ro 0 Z).rp) Z ?_
  rintro ad w f
  have a:=a.f f
  refine al (a.e [1,2,3] Z Z) Z Z (fun w hF=>ar Z) Z (al (a.e [1,2,3] Z Z) Z Z (fun w hF=>ar Z) Z ?_)
  obtain ⟨q,m,h⟩:=aj h
  refine al (a.e [1,2,3] Z Z) Z Z (fun w hF=>bm u24 ti5 Z Z (n.d hF.fr) m) Z (al (a.e [1,2,3] Z Z) Z Z (fun w hF=>bc Tryz.underlying5 Z Z (n.d hF.fr) m Z) Z (al (a.e [1,2,3] Z Z) Z Z (fun w hF=>aM Z (t7 Tryz.underlying5 u87 q)) Z ?_))
  obtain ⟨ag,u,h⟩:=aj h
  refine bj (a.e [1,2,3] Z Z) Z Z (by kernel_rfl) Z (eg q.toUInt64 u ) Z ?_
  rintro ak w f
  have a:=a.f f
  obtain ⟨C,x,h⟩:=aj h
  refine bj (a.e [2,3,4] Z Z) Z Z (by kernel_rfl) Z (jj  x (a.ro 1 Z).rp (a.ro 0 Z).rp) Z ?_
  rintro D w f
  have a:=a.f f
  refine al (a.e [3,4,5] Z Z) Z Z (fun w hF=>aB Z) Z (bn (a.e [3,4,5] Z Z) ?_)
  refine aU ?_
  refine M (af (P 3 Z ?_))
  refine H ?_
  exact bv (bz _ (by exact ⟨Z,Z,Z,Z,V⟩) (A (C,wI (G+1)) _ _ ⟨D,Z,(a.e [0,4,5] Z Z)⟩ (ba h p)))
 have h:=aH h g
 refine bh ?_
 refine aI (aI ?_)
 have h:=aX h p
 refine bg ?_
 refine M (I (af (P 2 Z ?_)))
 have T:=a.pick (os':=[W c [J d,b],K U b e,K U k z]++[]) [1,2,0] (by decide) Z
 obtain ⟨an,y,h⟩:=aj h
 refine ao Z (bK d false y T.g ) Z ?_
 rintro _ w ⟨E,rfl,f⟩
 have a:=T.h f
 refine P 1 Z ?_
 refine H (M (aw ?_))
 cases h
 exact aF Z Z ⟨E,Z,a.e [0,1] Z Z⟩
theorem cC {e:World} {f:List UInt32} {c:Value} {g:Nat} (i:Bool) {r:Int}
  (h:F.BR i f=some r) (j:RP [] e U c f) (hBa0:RB [] e g [J i,c]):Calls Tryz.prog 93 #[N g 0] e (Ret fun v w=>v=vI r∧St [] e w []):=by
 refine aJ 13 Tryz.func93 Z Z Z ?_
 have d:=St.l e
 refine au [(0,N g 0)] ⟨Z,V⟩ ?_
 unfold F.BR at h
 refine I (af (P 1 Z ?_))
 refine H (M (I (I (af (P 1 Z ?_)))))
 refine am (aK Z) Z (am (av (k:=1) u101 Z Z db Z) Z (am (aC u30 Z Z (hBa0.cell d.fr 1 Z)) Z (am (aN u30 Z (j.d d.fr)) Z (P 1 Z ?_))))
 refine H (M ?_)
 refine ax Z (fun a=>?_) (fun a=>?_)
 ·have h:=aG h a
  refine I (af (P 1 Z ?_))
  refine H (M (aw (aD ?_)))
  cases h
  exact aF Z Z ⟨Z,d⟩
 have h:=aH h a
 refine az (M (I (I (af (P 1 Z ?_)))))
 refine am (aK Z) Z (am (av (k:=0) u101 Z Z nz4 Z) Z (am (aC Tryz.underlying4 Z Z (hBa0.cell d.fr 0 Z)) Z (H (M ?_))))
 refine ax Z (fun b=>?_) (fun b=>?_)
 ·have h:=aG h b
  refine I (af (P 1 Z ?_))
  refine H (M (aw (aD ?_)))
  cases h
  exact aF Z Z ⟨Z,d⟩
 have h:=aH h b
 refine az (M (I (af (P 1 Z ?_))))
 refine H (M (aw ?_))
 cases h
 exact aF Z Z ⟨Z,d⟩
theorem eX {i:World} {d:List UInt32} {a:Value} {c:Nat} {S:List Nat} (b:Bool) (a1:Int) {r:Bool×List UInt32}
  (h:F.Dp b d a1=some r) (e:St S i i [W c [J b,a],K U a d]):Calls Tryz.prog 150 #[N c 0,vI a1] i (Ret fun v w=>∃j:Value,v=N c 0∧St S i w [W c [J r.1,j],K U j r.2]):=by
 refine aJ 18 Tryz.func150 Z Z Z ?_
 refine au [(0,N c 0),(1,vI a1)] ⟨Z,Z,V⟩ ?_
 unfold F.Dp at h
 refine I (af (P 1 Z ?_))
 refine H (M (I (af (P 1 Z ?_))))
 refine am (aM Z (fb Tryz.underlying2 u87 a1)) Z (P 1 Z ?_)
 refine H (M ?_)
 refine a9 (r:=r) (fun (g:UInt64) L w=>L=[(0,N c 0),(1,vI a1),(5,v64 g)]∧St S i w [W c [J b,a],K U a d]) (F.ET b d a1) ?_ ?_
 rotate_left
 ·intro k
  refine I (af (P 2 Z ?_))
  refine H (M ?_)
  refine ax Z (fun f=>?_) (fun f=>?_)
  ·have h:=aG h f
   refine af (P 1 Z ?_)
   refine am (iu Z (zw (UInt64.ofInt a1))) Z (P 1 Z ?_)
   refine H (M ?_)
   exact au _ (by exact ⟨Z,Z,Z,V⟩) (k (0 - (UInt64.ofInt a1)) _ _ ⟨Z,e⟩ h)
  have h:=aH h f
  refine az (M ?_)
  exact au _ (by exact ⟨Z,Z,Z,V⟩) (k (UInt64.ofInt a1) _ _ ⟨Z,e⟩ h)
 rintro p L w hJ h
 try dsimp only at hJ
 obtain ⟨rfl,e⟩:=hJ
 unfold F.ET at h
 refine I (af (P 4 Z ?_))
 obtain ⟨q,m,h⟩:=aj h
 refine ao Z (eg p m ) Z ?_
 rintro s w l
 have e:=e.f l
 have t:=e.pick (os':=[W c [J b,a],K U a d,K U s q]++[]) [1,2,0] (by decide) Z
 obtain ⟨u,n,h⟩:=aj h
 refine ao Z (bK b (decide (a1<0)) n t.g ) Z ?_
 rintro _ w ⟨o,rfl,l⟩
 have e:=t.h l
 refine P 1 Z ?_
 refine H (M (aw ?_))
 cases h
 exact aF Z Z ⟨o,Z,e.e [0,1] Z Z⟩
theorem cD {d:World} (a0:Int) {r:Bool×List UInt32}
  (h:F.BT a0=some r) :Calls Tryz.prog 85 #[vI a0] d (Ret fun v w=>∃b:Value,∃un0:Nat,v=N un0 0∧St [] d w [W un0 [J r.1,b],K U b r.2]):=by
 refine aJ 6 Tryz.func85 Z Z Z ?_
 have a:=St.l d
 refine au [(0,vI a0)] ⟨Z,V⟩ ?_
 unfold F.BT at h
 refine I (af (P 1 Z ?_))
 refine H (M (I (af (aP (aT (cs:=[J false,.slice none 0 0]) c6 Z a) Z ?_))))
 rintro _ w ⟨c,rfl,a⟩
 refine P 1 Z ?_
 replace a:=a.nil U
 have f:=a.pick (os':=[W c [J false,.slice none 0 0],K U (.slice none 0 0) []]++[]) [1,0] (by decide) Z
 obtain ⟨j,e,h⟩:=aj h
 refine ao Z (eX false a0 e f.g ) Z ?_
 rintro _ w ⟨g,rfl,i⟩
 have a:=f.h i
 refine P 1 Z ?_
 refine H (M (aw ?_))
 cases h
 exact aF Z Z ⟨g,c,Z,a.e [0,1] Z Z⟩
theorem f8 {d:World} {j n o:List UInt32} {b l m:Value} {c p q:Nat} {S:List Nat} (e f g:Bool) {r:Bool×List UInt32}
  (h:F.Dh e j f n g o=some r) (a:St S d d [W c [J e,b],K U b j]) (u:RP S d U l n) (hBa1:RB S d p [J f,l]) (x:RP S d U m o) (hBa2:RB S d q [J g,m]):Calls Tryz.prog 174 #[N c 0,N p 0,N q 0] d (Ret fun v w=>∃s:Value,v=N c 0∧St S d w [W c [J r.1,s],K U s r.2]):=by
 refine aJ 27 Tryz.func174 Z Z Z ?_
 refine au [(0,N c 0),(1,N p 0),(2,N q 0)] ⟨Z,Z,Z,V⟩ ?_
 unfold F.Dh at h
 refine I (af (P 1 Z ?_))
 refine H (M (I ?_))
 have hsh1:=(a.ro 1 Z).shp
 refine aZ (fun w'=>St S d w' []) (fun i=>!([18,19].contains i)) bS (fun _ _ _ y=>y.2) (fun _ _ y=>y) (by kernel_rfl) ?_
 have a:=a.drew
 show lxE _ _ _ _ _ _ _ [0,1,2,3,4,5,6,7,8,9,10,11,12,13,14,15,16,17,18,19,20] _ _
 refine al (a.e [] Z Z) Z Z (fun w hF=>ar Z) Z (al (a.e [] Z Z) Z Z (fun w hF=>ar Z) Z (al (a.e [] Z Z) Z Z (fun w hF=>aK Z) Z (al (a.e [] Z Z) Z Z (fun w hF=>av (k:=0) u101 Z Z nz4 Z) Z (al (a.e [] Z Z) Z Z (fun w hF=>aC Tryz.underlying4 Z Z (hBa1.cell hF.fr 0 Z)) Z (al (a.e [] Z Z) Z Z (fun w hF=>ar Z) Z (al (a.e [] Z Z) Z Z (fun w hF=>aK Z) Z (al (a.e [] Z Z) Z Z (fun w hF=>av (k:=0) u101 Z Z nz4 Z) Z (al (a.e [] Z Z) Z Z (fun w hF=>aC Tryz.underlying4 Z Z (hBa2.cell hF.fr 0 Z)) Z ?_))))))))
 refine al (a.e [] Z Z) Z Z (fun w hF=>aq Z Z (mb _ f g Tryz.underlying4 Z)) Z (al (a.e [] Z Z) Z Z (fun w hF=>ar Z) Z (al (a.e [] Z Z) Z Z (fun w hF=>aK Z) Z (al (a.e [] Z Z) Z Z (fun w hF=>av (k:=1) u101 Z Z db Z) Z (al (a.e [] Z Z) Z Z (fun w hF=>aC u30 Z Z (hBa1.cell hF.fr 1 Z)) Z (al (a.e [] Z Z) Z Z (fun w hF=>ar Z) Z (al (a.e [] Z Z) Z Z (fun w hF=>aK Z) Z (al (a.e [] Z Z) Z Z (fun w hF=>av (k:=1) u101 Z Z db Z) Z (al (a.e [] Z Z) Z Z (fun w hF=>aC u30 Z Z (hBa2.cell hF.fr 1 Z)) Z ?_))))))))
 obtain ⟨B,z,h⟩:=aj h
 refine bj (a.e [] Z Z) Z Z (by kernel_rfl) Z (lU  z (u.d a.fr).rp (x.d a.fr).rp) Z ?_
 rintro C w t
 have a:=a.f t
 have D:=a.pick (os':=[W c [J e,b],K U b j,K U C B]++[]) [1,2,0] (by decide) Z
 obtain ⟨G,A,h⟩:=aj h
 refine bj (a.e [] Z Z) Z Z (by kernel_rfl) Z (bK e (f != g) A D.g ) Z ?_
 rintro _ w ⟨E,rfl,t⟩
 have a:=D.h t
 refine al (a.e [] Z Z) Z Z (fun w hF=>aB Z) Z (bn (a.e [] Z Z) ?_)
 refine M (aw ?_)
 cases h
 exact aF Z Z ⟨E,Z,a.e [0,1] Z Z⟩
theorem iH {b:World} {a0:List UInt32} {a:Value} {r:List UInt32}
  (h:F.CU a0=some r) (e:RP [] b U a a0):Calls Tryz.prog 189 #[a] b (Ret fun v w=>St [] b w [K U v r]):=by
 refine aJ 5 Tryz.func189 Z Z Z ?_
 have c:=St.l b
 refine au [(0,a)] ⟨Z,V⟩ ?_
 unfold F.CU at h
 refine I (af (P 1 Z ?_))
 refine H (M (I (af (P 1 Z ?_))))
 obtain ⟨f,d,h⟩:=aj h
 refine aP (lR u30 aW Z Z Z c (e.d c.fr) d) Z ?_
 rintro g w c
 refine P 1 Z ?_
 refine H (M (aw ?_))
 cases h
 exact aF Z Z (c.e [0] Z Z)
theorem fh {e:World} {f l:List UInt32} {b j:Value} {c m:Nat} {S:List Nat} (d g:Bool) {r:Bool×List UInt32}
  (h:F.Cz d f g l=some r) (a:St S e e [W c [J d,b],K U b f]) (p:RP S e U j l) (hBa1:RB S e m [J g,j]):Calls Tryz.prog 175 #[N c 0,N m 0] e (Ret fun v w=>∃n:Value,v=N c 0∧St S e w [W c [J r.1,n],K U n r.2]):=by
 refine aJ 16 Tryz.func175 Z Z Z ?_
 refine au [(0,N c 0),(1,N m 0)] ⟨Z,Z,V⟩ ?_
 unfold F.Cz at h
 refine I (af (P 1 Z ?_))
 refine H (M (I ?_))
 have hsh1:=(a.ro 1 Z).shp
 refine aZ (fun w'=>St S e w' []) (fun i=>!([9,10].contains i)) bS (fun _ _ _ q=>q.2) (fun _ _ q=>q) (by kernel_rfl) ?_
 have a:=a.drew
 show lxE _ _ _ _ _ _ _ [0,1,2,3,4,5,6,7,8,9,10,11] _ _
 refine al (a.e [] Z Z) Z Z (fun w hF=>ar Z) Z (al (a.e [] Z Z) Z Z (fun w hF=>ar Z) Z (al (a.e [] Z Z) Z Z (fun w hF=>aK Z) Z (al (a.e [] Z Z) Z Z (fun w hF=>av (k:=0) u101 Z Z nz4 Z) Z (al (a.e [] Z Z) Z Z (fun w hF=>aC Tryz.underlying4 Z Z (hBa1.cell hF.fr 0 Z)) Z (al (a.e [] Z Z) Z Z (fun w hF=>ar Z) Z (al (a.e [] Z Z) Z Z (fun w hF=>aK Z) Z (al (a.e [] Z Z) Z Z (fun w hF=>av (k:=1) u101 Z Z db Z) Z (al (a.e [] Z Z) Z Z (fun w hF=>aC u30 Z Z (hBa1.cell hF.fr 1 Z)) Z ?_))))))))
 obtain ⟨u,s,h⟩:=aj h
 refine bj (a.e [] Z Z) Z Z (by kernel_rfl) Z (iH  s (p.d a.fr).rp) Z ?_
 rintro x w o
 have a:=a.f o
 have y:=a.pick (os':=[W c [J d,b],K U b f,K U x u]++[]) [1,2,0] (by decide) Z
 obtain ⟨A,t,h⟩:=aj h
 refine bj (a.e [] Z Z) Z Z (by kernel_rfl) Z (bK d g t y.g ) Z ?_
 rintro _ w ⟨z,rfl,o⟩
 have a:=y.h o
 refine al (a.e [] Z Z) Z Z (fun w hF=>aB Z) Z (bn (a.e [] Z Z) ?_)
 refine M (aw ?_)
 cases h
 exact aF Z Z ⟨z,Z,a.e [0,1] Z Z⟩
theorem jn {j:World} {a0 a1:List UInt32} {k l:Value} {r:Int}
  (h:F.DC a0 a1=some r) (b:RP [] j U k a0) (c:RP [] j U l a1):Calls Tryz.prog 179 #[k,l] j (Ret fun v w=>v=vI r∧St [] j w []):=by
 refine aJ 41 Tryz.func179 Z Z Z ?_
 have a:=St.l j
 refine au [(0,k),(1,l)] ⟨Z,Z,V⟩ ?_
 unfold F.DC at h
 refine I (af (P 1 Z ?_))
 refine H (M (I (I (af (P 1 Z ?_)))))
 refine am (aN u30 Z (b.d a.fr)) Z (P 1 Z ?_)
 refine am (aN u30 Z (c.d a.fr)) Z (P 1 Z ?_)
 refine H (M ?_)
 refine ax Z (fun d=>?_) (fun d=>?_)
 ·have h:=aG h d
  refine I (I (af (P 1 Z ?_)))
  refine am (aN u30 Z (b.d a.fr)) Z (P 1 Z ?_)
  refine am (aN u30 Z (c.d a.fr)) Z (P 1 Z ?_)
  refine H (M ?_)
  refine ax Z (fun m=>?_) (fun m=>?_)
  ·have h:=aG h m
   refine I (af (P 1 Z ?_))
   refine H (M (aw (aD (aD ?_))))
   cases h
   exact aF Z Z ⟨Z,a⟩
  have h:=aH h m
  refine az (M (I (af (P 1 Z ?_))))
  refine H (M (aw (aD ?_)))
  cases h
  exact aF Z Z ⟨Z,a⟩
 have h:=aH h d
 refine az (M (I (I (af (P 1 Z ?_)))))
 refine am (aN u30 Z (b.d a.fr)) Z (P 1 Z ?_)
 obtain ⟨p,x,h⟩:=aO h
 refine am (aB (v:=vI p) (by rw [←x]; rfl)) Z ?_
 refine H (M (aE ?_))
 refine au [(0,k),(1,l),(5,vI p)] ⟨Z,Z,Z,V⟩ ?_
 refine bk (F.CH a0 a1) (fun (s:Int) L w=>L=[(0,k),(1,l),(5,vI s)]∧St [] j w []) ?_ p ⟨Z,a⟩ h
 rintro E A L w G hI y h e
 try dsimp only at hI
 obtain ⟨rfl,a⟩:=hI
 unfold F.CH at h
 refine I (I (af (P 2 Z ?_)))
 refine H (M ?_)
 refine ax Z (fun f=>?_) (fun f=>?_)
 ·have h:=aG h f
  refine az (M (I (aE ?_)))
  refine I ?_
  refine aZ (fun w'=>St [] j w' []) (fun _=>true) bS (fun _ _ _ n=>n.2) (fun _ _ n=>n) (by kernel_rfl) ?_
  have a:=a.drew
  show lxE _ _ _ _ _ _ _ [0,1,2,3,4,5,6,7,8] _ _
  refine al a Z Z (fun w hF=>ar Z) Z (al a Z Z (fun w hF=>ar Z) Z ?_)
  obtain ⟨B,q,h⟩:=aj h
  refine al a Z Z (fun w hF=>bm u30 aW Z Z (b.d hF.fr) q) Z (al a Z Z (fun w hF=>bc u38 Z Z (b.d hF.fr) q Z) Z (al a Z Z (fun w hF=>ar Z) Z (al a Z Z (fun w hF=>ar Z) Z ?_)))
  obtain ⟨C,t,h⟩:=aj h
  refine al a Z Z (fun w hF=>bm u30 aW Z Z (c.d hF.fr) t) Z (al a Z Z (fun w hF=>bc u38 Z Z (c.d hF.fr) t Z) Z (al a Z Z (fun w hF=>aq Z Z (kc _ B C)) Z (bn a ?_)))
  refine M ?_
  refine ax Z (fun g=>?_) (fun g=>?_)
  ·have h:=aG h g
   refine I (I ?_)
   refine aZ (fun w'=>St [] j w' []) (fun _=>true) bS (fun _ _ _ n=>n.2) (fun _ _ n=>n) (by kernel_rfl) ?_
   have a:=a.drew
   show lxE _ _ _ _ _ _ _ [0,1,2,3,4,5,6,7,8] _ _
   refine al a Z Z (fun w hF=>ar Z) Z (al a Z Z (fun w hF=>ar Z) Z ?_)
   obtain ⟨D,u,h⟩:=aj h
   refine al a Z Z (fun w hF=>bm u30 aW Z Z (b.d hF.fr) u) Z (al a Z Z (fun w hF=>bc u38 Z Z (b.d hF.fr) u Z) Z (al a Z Z (fun w hF=>ar Z) Z (al a Z Z (fun w hF=>ar Z) Z ?_)))
   obtain ⟨z,o,h⟩:=aj h
   refine al a Z Z (fun w hF=>bm u30 aW Z Z (c.d hF.fr) o) Z (al a Z Z (fun w hF=>bc u38 Z Z (c.d hF.fr) o Z) Z (al a Z Z (fun w hF=>aq Z Z (oX _ D z)) Z (bn a ?_)))
   refine M ?_
   refine ax Z (fun i=>?_) (fun i=>?_)
   ·have h:=aG h i
    refine I (af (P 1 Z ?_))
    refine H (M (aw (aD (bV ?_))))
    refine aD (aD ?_)
    have h:=aX h e
    refine bV ?_
    refine aD ?_
    cases h
    exact aF Z Z ⟨Z,a⟩
   have h:=aH h i
   refine az (M (I (af (P 1 Z ?_))))
   refine H (M (aw (bV ?_)))
   refine aD (aD ?_)
   have h:=aX h e
   refine bV ?_
   refine aD ?_
   cases h
   exact aF Z Z ⟨Z,a⟩
  have h:=aH h g
  refine az (aU ?_)
  refine M (af (P 3 Z ?_))
  refine H ?_
  exact bv (bz _ (by exact ⟨Z,Z,Z,V⟩) (y (wI (A - 1)) _ _ ⟨Z,a⟩ (ba h e)))
 have h:=aH h f
 refine bh ?_
 refine aI (aI ?_)
 have h:=aX h e
 refine bg ?_
 refine M (I (af (P 1 Z ?_)))
 refine H (M (aw ?_))
 cases h
 exact aF Z Z ⟨Z,a⟩
theorem j5 {f:World} {a0:List UInt32} {e:Value} {r:UInt64}
  (h:F.Er a0=some r) (b:RP [] f U e a0):Calls Tryz.prog 197 #[e] f (Ret fun v w=>v=v64 r∧St [] f w []):=by
 refine aJ 22 Tryz.func197 Z Z Z ?_
 have a:=St.l f
 refine au [(0,e)] ⟨Z,V⟩ ?_
 unfold F.Er at h
 refine I (af (P 1 Z ?_))
 refine H (M (I (af (P 1 Z ?_))))
 refine H (M ?_)
 refine a9 (r:=r) (fun (g:UInt64) L w=>L=[(0,e),(3,v64 g)]∧St [] f w []) (F.F1 a0) ?_ ?_
 rotate_left
 ·intro i
  refine I (af (P 1 Z ?_))
  refine am (aN u30 Z (b.d a.fr)) Z (P 1 Z ?_)
  refine H (M ?_)
  refine ax Z (fun c=>?_) (fun c=>?_)
  ·have h:=aG h c
   refine af (P 1 Z ?_)
   obtain ⟨n,j,h⟩:=aj h
   refine am (bm u30 aW Z Z (b.d a.fr) j) Z (am (bc u38 Z Z (b.d a.fr) j Z) Z (am (aM Z (bq u38 u87 n)) Z (P 1 Z ?_)))
   refine H (M ?_)
   exact au _ (by exact ⟨Z,Z,V⟩) (i n.toUInt64 _ _ ⟨Z,a⟩ h)
  have h:=aH h c
  refine az (M ?_)
  exact au _ (by exact ⟨Z,Z,V⟩) (i 0 _ _ ⟨Z,a⟩ h)
 rintro o L w hJ h
 try dsimp only at hJ
 obtain ⟨rfl,a⟩:=hJ
 unfold F.F1 at h
 refine a9 (r:=r) (fun (g:UInt64) L w=>L=[(3,v64 g)]∧St [] f w []) (F.FV) ?_ ?_
 rotate_left
 ·intro k
  refine I (af (P 1 Z ?_))
  refine am (aN u30 Z (b.d a.fr)) Z (P 1 Z ?_)
  refine H (M ?_)
  refine ax Z (fun d=>?_) (fun d=>?_)
  ·have h:=aG h d
   refine af (P 2 Z ?_)
   obtain ⟨l,m,h⟩:=aj h
   refine am (bm u30 aW Z Z (b.d a.fr) m) Z (am (bc u38 Z Z (b.d a.fr) m Z) Z (am (aM Z (bq u38 u87 l)) Z (am (aq Z Z (dc _ l.toUInt64 32)) Z (am (aq Z Z (fa _ o (bp l.toUInt64 32))) Z ?_))))
   obtain ⟨p,q,h⟩:=aO h
   refine am (aB (v:=v64 p) (by rw [←q]; rfl)) Z ?_
   refine H (M ?_)
   exact au _ (by exact ⟨Z,V⟩) (k p _ _ ⟨Z,a⟩ h)
  have h:=aH h d
  refine az (M ?_)
  exact au _ (by exact ⟨Z,V⟩) (k o _ _ ⟨Z,a⟩ h)
 rintro s L w hJ h
 try dsimp only at hJ
 obtain ⟨rfl,a⟩:=hJ
 unfold F.FV at h
 refine I (af (P 2 Z ?_))
 refine H (M (aw ?_))
 cases h
 exact aF Z Z ⟨Z,a⟩
theorem pt {l:World} {a0:List UInt32} {d:Value} (a1:UInt32) {r:List UInt32×UInt32}
  (h:F.E6 a0 a1=some r) (f:RP [] l U d a0):Calls Tryz.prog 198 #[d,v32 a1] l (Ret fun v w=>∃u0:Value,v=.tuple #[u0,v32 r.2]∧St [] l w [K U u0 r.1]):=by
 refine aJ 43 Tryz.func198 Z Z Z ?_
 have a:=St.l l
 refine au [(0,d),(1,v32 a1)] ⟨Z,Z,V⟩ ?_
 unfold F.E6 at h
 refine I (af (P 2 Z ?_))
 refine H (M (I (af (P 1 Z ?_))))
 refine am (aN u30 Z (f.d a.fr)) Z ?_
 obtain ⟨T,C,h⟩:=aj h
 refine aP (de (e:=U) u30 aW Z Z Z a C) Z ?_
 rintro g w a
 refine P 1 Z ?_
 refine H (M (I (af (P 1 Z ?_))))
 refine H (M (I (I (af (P 1 Z ?_)))))
 refine am (aN u30 Z (f.d a.fr)) Z (P 1 Z ?_)
 obtain ⟨m,D,h⟩:=aO h
 refine am (aB (v:=vI m) (by rw [←D]; rfl)) Z ?_
 refine H (M (aE ?_))
 refine au [(0,d),(1,v32 a1),(6,g),(7,v64 0),(8,vI m)] ⟨Z,Z,Z,Z,Z,V⟩ ?_
 refine bk (F.DE a0 a1) (fun (s:UInt64×Int×List UInt32) L w=>L=[(0,d),(1,v32 a1),(6,g),(7,v64 s.1),(8,vI s.2.1)]∧St [] l w [K U g s.2.2]) ?_ (0,m,T) ⟨Z,a⟩ h
 rintro ak ⟨n,ab,ac⟩ L w al hI E h o
 try dsimp only at hI
 obtain ⟨rfl,a⟩:=hI
 unfold F.DE at h
 refine I (I (af (P 2 Z ?_)))
 refine H (M ?_)
 refine ax Z (fun c=>?_) (fun c=>?_)
 ·have h:=aG h c
  refine az (M (I (aE ?_)))
  refine I (af (P 1 Z ?_))
  refine am (aq Z Z (dc _ n 32)) Z (P 2 Z ?_)
  obtain ⟨p,j,h⟩:=aj h
  refine am (bm u30 aW Z Z (f.d a.fr) j) Z (am (bc u38 Z Z (f.d a.fr) j Z) Z (am (aM Z (bq u38 u87 p)) Z (am (aq Z Z (fa _ (bp n 32) p.toUInt64)) Z ?_)))
  obtain ⟨b,u,h⟩:=aO h
  refine am (aB (v:=v64 b) (by rw [←u]; rfl)) Z ?_
  refine H (M (I (af (P 4 Z ?_))))
  refine am (aM Z (bq u38 u87 a1)) Z ?_
  obtain ⟨x,h⟩:=bZ h
  refine am (aq Z Z (gV _ b a1.toUInt64 x)) Z (am (aM Z (bW u87 u38 (b / a1.toUInt64))) Z ?_)
  obtain ⟨an,k,h⟩:=aj h
  refine am (bm u30 aW Z Z (a.ro 0 Z) k) Z (bb (cc (t:=((b / a1.toUInt64).toUInt32)) aW Z Z a (i:=0) Z k Z) ?_)
  intro w a
  obtain ⟨G,y,h⟩:=aO h
  rw [y]at a
  refine H (M (af (P 2 Z ?_)))
  refine am (aM Z (bq u38 u87 a1)) Z ?_
  obtain ⟨z,h⟩:=bZ h
  refine am (aq Z Z (eW _ b a1.toUInt64 z)) Z (P 1 Z ?_)
  refine H (aU ?_)
  refine M (af (P 3 Z ?_))
  refine H ?_
  exact bv (bz _ (by exact ⟨Z,Z,Z,Z,Z,V⟩) (E (b%a1.toUInt64,wI (ab - 1),G) _ _ ⟨Z,a⟩ (ba h o)))
 have h:=aH h c
 refine bh ?_
 refine aI (aI ?_)
 have h:=aX h o
 refine bg ?_
 refine M (I (af (P 1 Z ?_)))
 have hG:=a.pick (os':=[K U g ac]++[]) [0] (by decide) Z
 obtain ⟨ap,A,h⟩:=aj h
 refine ao Z (c8  A hG.g ) Z ?_
 rintro S w ⟨ag,q,B⟩
 rw [←q]at B
 have a:=hG.h B
 refine P 1 Z ?_
 refine am (aM Z (bW u87 u38 n)) Z (P 2 Z ?_)
 refine H (M (aw ?_))
 cases h
 exact bX Z Z Z ⟨S,Z,a.e [0] Z Z⟩
end Go.Proofs
