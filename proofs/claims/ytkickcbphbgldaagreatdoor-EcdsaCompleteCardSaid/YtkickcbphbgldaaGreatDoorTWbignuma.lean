import Derived.Test.YtkickcbphbgldaaGreatDoorTW0
import Derived.Test.YtkickcbphbgldaaGreatDoorGkFman
set_option linter.unusedVariables false
set_option linter.unusedSimpArgs false
set_option linter.unusedSectionVars false
set_option maxRecDepth 4000
namespace Go.Proofs
open Go Go.RowKit Go.Gk
open Go.Gk renaming aa → P, ae → O, ah → J, ai → H, e32 → U, own → M, pB → N, vB → I
open Go.Gk.OE renaming bx → X
theorem c7 {j:World} {a0:List UInt32} {a:Value} {S:List Nat} {r:List UInt32}
  (h:F.BP a0=some r) (b:St S j j [M U a a0]):Calls Tryz.prog 180 #[a] j (Ret fun v w=>∃u0:Value,v=u0∧St S j w [M U u0 r]):=by
 refine aJ 21 Tryz.func180 Z Z Z ?_
 refine au [(0,a)] ⟨Z,V⟩ ?_
 unfold F.BP at h
 refine J (af (P 1 Z ?_))
 refine H (O (J (af (P 1 Z ?_))))
 refine am (aN u30 Z (b.ro 0 Z)) Z (P 1 Z ?_)
 refine H (O (J (aD ?_)))
 refine au [(0,a),(3,vI (a0.length:Int))] ⟨Z,Z,V⟩ ?_
 refine bj (F.Fx a0) (fun (s:Int) L w=>L=[(0,a),(3,vI s)]∧St S j w [M U a a0]) ?_ (a0.length:Int) ⟨Z,b⟩ h
 rintro q e L w p hI o h k
 try dsimp only at hI
 obtain ⟨rfl,b⟩:=hI
 unfold F.Fx at h
 refine J ?_
 refine a9 (r:=p) (fun (g:Bool) L w=>L=[(0,a),(3,vI e),(15,I g)]∧St S j w [M U a a0]) (F.E8 a0 e) ?_ ?_
 rotate_left
 ·intro l
  refine af (P 3 Z ?_)
  cases c:(decide ((0:Int)<e))
  case true=>
   have h:=aI h c
   try simp only [c]
   refine P 3 Z ?_
   obtain ⟨n,m,h⟩:=aj h
   refine ba (t:=8) Z Z (bm u30 aV Z Z (b.ro 0 Z) m) Z (ba (t:=8) Z Z (bb u38 Z Z (b.ro 0 Z) m Z) Z (ba (t:=8) Z Z (aq Z Z (pr _ n 0)) Z (P 1 Z ?_)))
   refine H (O ?_)
   exact au _ (by exact ⟨Z,Z,Z,V⟩) (l (n == 0) _ _ ⟨Z,b⟩ h)
  case false=>
   have h:=aH h c
   try simp only [c]
   refine P 7 Z ?_
   refine H (O ?_)
   exact au _ (by exact ⟨Z,Z,Z,V⟩) (l false _ _ ⟨Z,b⟩ h)
 rintro u L w hJ h
 try dsimp only at hJ
 obtain ⟨rfl,b⟩:=hJ
 unfold F.E8 at h
 refine ax Z (fun d=>?_) (fun d=>?_)
 ·have h:=aI h d
  refine ay (O (aD ?_))
  refine af (P 3 Z ?_)
  refine H (aR ?_)
  exact bA (bz _ (by exact ⟨Z,Z,V⟩) (o (wI (e - 1)) _ _ ⟨Z,b⟩ (a8 h k)))
 have h:=aH h d
 refine bd ?_
 refine aG (aG ?_)
 have h:=aW h k
 refine bf ?_
 refine O (J (af (P 2 Z ?_)))
 obtain ⟨f,h⟩:=bZ h
 refine am (ql u30 aV Z Z (b.ro 0 Z) (l8 f)) Z (P 1 Z ?_)
 refine H (O (aw ?_))
 cases h
 replace b:=b.trunc (i:=0) rfl f.2
 exact aF Z Z ⟨slV a U.sz 0 ((e:Int).toNat),Z,b.e [0] Z Z⟩
theorem eb {d:World} (a0:UInt64) {r:List UInt32}
  (h:F.Ca a0=some r) :Calls Tryz.prog 144 #[v64 a0] d (Ret fun v w=>St [] d w [M U v r]):=by
 refine aJ 10 Tryz.func144 Z Z Z ?_
 have a:=St.l d
 refine au [(0,v64 a0)] ⟨Z,V⟩ ?_
 unfold F.Ca at h
 refine J (af (P 1 Z ?_))
 refine H (O (J (af (P 1 Z ?_))))
 refine am (aM Z (bV u87 u38 a0)) Z (P 1 Z ?_)
 refine am (aq Z Z (cp _ a0 32)) Z (am (aM Z (bV u87 u38 (aP a0 32))) Z ?_)
 refine aT (cV (e:=U) (l:=([a0.toUInt32,(aP a0 32).toUInt32]:List UInt32)) (vs:=[v32 a0.toUInt32,v32 ((aP a0 32).toUInt32)]) u30 aV Z Z Z Z (by decide) (by decide) a) Z ?_
 rintro g w a
 have i:=a.pick (os':=[M U g ([a0.toUInt32,(aP a0 32).toUInt32]:List UInt32)]++[]) [0] (by decide) Z
 obtain ⟨k,f,h⟩:=aj h
 refine ao Z (c7  f i.g ) Z ?_
 rintro m w ⟨j,b,c⟩
 rw [←b]at c
 have a:=i.h c
 refine P 1 Z ?_
 refine H (O (aw ?_))
 cases h
 exact aF Z Z (a.e [0] Z Z)
theorem mc {k:World} {a0 a1:List UInt32} {b c:Value} {r:List UInt32}
  (h:F.ES a0 a1=some r) (u:RP [] k U b a0) (j:RP [] k U c a1):Calls Tryz.prog 192 #[b,c] k (Ret fun v w=>St [] k w [M U v r]):=by
 refine aJ 75 Tryz.func192 Z Z Z ?_
 have a:=St.l k
 refine au [(0,b),(1,c)] ⟨Z,Z,V⟩ ?_
 unfold F.ES at h
 refine J (af (P 1 Z ?_))
 refine H (O (J ?_))
 refine a9 (r:=r) (fun (g:Bool) L w=>L=[(0,b),(1,c),(16,I g)]∧St [] k w []) (F.Dk a0 a1) ?_ ?_
 rotate_left
 ·intro S
  refine af (P 1 Z ?_)
  refine am (aN u30 Z (u.d a.fr)) Z (P 2 Z ?_)
  cases l:((a0.length:Int) == 0)
  case true=>
   have h:=aI h l
   try simp only [l]
   refine P 4 Z ?_
   refine H (O ?_)
   exact au _ (by exact ⟨Z,Z,Z,V⟩) (S true _ _ ⟨Z,a⟩ h)
  case false=>
   have h:=aH h l
   try simp only [l]
   refine P 1 Z ?_
   refine ba (t:=12) Z Z (aN u30 Z (j.d a.fr)) Z (P 2 Z ?_)
   refine H (O ?_)
   exact au _ (by exact ⟨Z,Z,Z,V⟩) (S ((a1.length:Int) == 0) _ _ ⟨Z,a⟩ h)
 rintro bg L w hJ h
 try dsimp only at hJ
 obtain ⟨rfl,a⟩:=hJ
 unfold F.Dk at h
 refine ax Z (fun m=>?_) (fun m=>?_)
 ·have h:=aI h m
  refine J (af (P 1 Z ?_))
  refine H (O (aw (aE ?_)))
  cases h
  exact aF Z Z ((a.nil U).e [0] Z Z)
 have h:=aH h m
 refine ay (O (J (af (P 1 Z ?_))))
 refine am (aN u30 Z (u.d a.fr)) Z (P 1 Z ?_)
 refine am (aN u30 Z (j.d a.fr)) Z (P 1 Z ?_)
 obtain ⟨aU,aC,h⟩:=aj h
 refine aT (de (e:=U) u30 aV Z Z Z a aC) Z ?_
 rintro d w a
 refine P 1 Z ?_
 refine H (O (J (J (af (P 1 Z ?_)))))
 refine H (O (aD ?_))
 refine au [(0,b),(1,c),(5,d),(6,vI 0)] ⟨Z,Z,Z,Z,V⟩ ?_
 refine bj (F.CZ a0 a1) (fun (s:Int×List UInt32) L w=>L=[(0,b),(1,c),(5,d),(6,vI s.1)]∧St [] k w [M U d s.2]) ?_ (0,aU) ⟨Z,a⟩ h
 rintro a2 ⟨x,az⟩ L w a3 hI ad h T
 try dsimp only at hI
 obtain ⟨rfl,a⟩:=hI
 unfold F.CZ at h
 refine J (J (af (P 2 Z ?_)))
 refine am (aN u30 Z (u.d a.fr)) Z (P 1 Z ?_)
 refine H (O ?_)
 refine ax Z (fun n=>?_) (fun n=>?_)
 ·have h:=aI h n
  refine ay (O (J (aD ?_)))
  refine J (af (P 1 Z ?_))
  refine H (O (J (J (af (P 1 Z ?_)))))
  refine H (O (aD ?_))
  refine au [(0,b),(1,c),(5,d),(6,vI x),(7,v64 0),(8,vI 0)] ⟨Z,Z,Z,Z,Z,Z,V⟩ ?_
  refine bj (F.DE a0 a1 x) (fun (s:UInt64×Int×List UInt32) L w=>L=[(0,b),(1,c),(5,d),(6,vI x),(7,v64 s.1),(8,vI s.2.1)]∧St [] k w [M U d s.2.2]) ?_ (0,0,az) ⟨Z,a⟩ h
  rintro a4 ⟨y,ab,aK⟩ L w a5 hI ag h A
  try dsimp only at hI
  obtain ⟨rfl,a⟩:=hI
  unfold F.DE at h
  refine J (J (af (P 2 Z ?_)))
  refine am (aN u30 Z (j.d a.fr)) Z (P 1 Z ?_)
  refine H (O ?_)
  refine ax Z (fun o=>?_) (fun o=>?_)
  ·have h:=aI h o
   refine ay (O (J (aD ?_)))
   refine J ?_
   refine aZ (fun w'=>St [] k w' [M U d aK]) (fun _=>true) bS (fun _ _ _ hf=>hf.2) (fun _ _ hf=>hf) (by kernel_rfl) ?_
   have a:=a.drew
   show lxE _ _ _ _ _ _ _ [0,1,2,3,4,5,6,7,8,9,10,11,12,13,14,15,16,17,18,19,20,21] _ _
   refine al a Z Z (fun w hF=>ar Z) Z (al a Z Z (fun w hF=>ar Z) Z (al a Z Z (fun w hF=>ar Z) Z ?_))
   obtain ⟨p,B,h⟩:=aj h
   refine al a Z Z (fun w hF=>bm u30 aV Z Z (u.d hF.fr) B) Z (al a Z Z (fun w hF=>bb u38 Z Z (u.d hF.fr) B Z) Z (al a Z Z (fun w hF=>aM Z (bp u38 u87 p)) Z (al a Z Z (fun w hF=>ar Z) Z (al a Z Z (fun w hF=>ar Z) Z ?_))))
   obtain ⟨q,C,h⟩:=aj h
   refine al a Z Z (fun w hF=>bm u30 aV Z Z (j.d hF.fr) C) Z (al a Z Z (fun w hF=>bb u38 Z Z (j.d hF.fr) C Z) Z (al a Z Z (fun w hF=>aM Z (bp u38 u87 q)) Z (al a Z Z (fun w hF=>aq Z Z (gX _ p.toUInt64 q.toUInt64)) Z (al a Z Z (fun w hF=>ar Z) Z (al a Z Z (fun w hF=>ar Z) Z (al a Z Z (fun w hF=>ar Z) Z (al a Z Z (fun w hF=>aq Z Z (md _ x ab)) Z ?_)))))))
   obtain ⟨z,D,h⟩:=aj h
   refine al a Z Z (fun w hF=>bm u30 aV Z Z (hF.ro 0 Z) D) Z (al a Z Z (fun w hF=>bb u38 Z Z (hF.ro 0 Z) D Z) Z (al a Z Z (fun w hF=>aM Z (bp u38 u87 z)) Z (al a Z Z (fun w hF=>aq Z Z (cv _ (p.toUInt64*q.toUInt64) z.toUInt64)) Z (al a Z Z (fun w hF=>aq Z Z (cv _ y ((p.toUInt64*q.toUInt64)+z.toUInt64))) Z ?_))))
   obtain ⟨f,ak,h⟩:=aO h
   refine al a Z Z (fun w hF=>aB (v:=v64 f) (by rw [←ak]; rfl)) Z ?_
   refine bn a ?_
   refine O (J (af (P 5 Z ?_)))
   refine am (aM Z (bV u87 u38 f)) Z ?_
   obtain ⟨a6,E,h⟩:=aj h
   refine am (bm u30 aV Z Z (a.ro 0 Z) E) Z (bk (cd (t:=f.toUInt32) aV Z Z a (i:=0) Z E Z) ?_)
   intro w a
   obtain ⟨aQ,an,h⟩:=aO h
   rw [an]at a
   refine H (O (af (P 1 Z ?_)))
   refine am (aq Z Z (cp _ f 32)) Z (P 1 Z ?_)
   refine H (aR ?_)
   refine O (af (P 3 Z ?_))
   refine H ?_
   exact bA (bz _ (by exact ⟨Z,Z,Z,Z,Z,Z,V⟩) (ag (aP f 32,wI (ab+1),aQ) _ _ ⟨Z,a⟩ (a8 h A)))
  have h:=aH h o
  refine bd ?_
  refine aG (aG ?_)
  have h:=aW h A
  refine bf ?_
  refine O (af (P 3 Z ?_))
  refine am (aN u30 Z (j.d a.fr)) Z (P 2 Z ?_)
  refine am (aM Z (bV u87 u38 y)) Z ?_
  obtain ⟨a7,G,h⟩:=aj h
  refine am (bm u30 aV Z Z (a.ro 0 Z) G) Z (bk (cd (t:=y.toUInt32) aV Z Z a (i:=0) Z G Z) ?_)
  intro w a
  obtain ⟨aS,ap,h⟩:=aO h
  rw [ap]at a
  refine H (aR ?_)
  refine O (af (P 3 Z ?_))
  refine H ?_
  exact bA (bz _ (by exact ⟨Z,Z,Z,Z,V⟩) (ad (wI (x+1),aS) _ _ ⟨Z,a⟩ (a8 h T)))
 have h:=aH h n
 refine bd ?_
 refine aG (aG ?_)
 have h:=aW h T
 refine bf ?_
 refine O (J (af (P 1 Z ?_)))
 have hG:=a.pick (os':=[M U d az]++[]) [0] (by decide) Z
 obtain ⟨bc,av,h⟩:=aj h
 refine ao Z (c7  av hG.g ) Z ?_
 rintro be w ⟨aY,ac,aA⟩
 rw [←ac]at aA
 have a:=hG.h aA
 refine P 1 Z ?_
 refine H (O (aw ?_))
 cases h
 exact aF Z Z (a.e [0] Z Z)
theorem jp {f:World} {a0 a1:List UInt32} {p q:Value} {r:List UInt32}
  (h:F.DB a0 a1=some r) (G:RP [] f U p a0) (S:RP [] f U q a1):Calls Tryz.prog 142 #[p,q] f (Ret fun v w=>St [] f w [M U v r]):=by
 refine aJ 58 Tryz.func142 Z Z Z ?_
 have a:=St.l f
 refine au [(0,p),(1,q)] ⟨Z,Z,V⟩ ?_
 unfold F.DB at h
 refine J (af (P 1 Z ?_))
 refine H (O ?_)
 refine a9 (r:=r) (fun (g:List UInt32×List UInt32) L w=>∃(j:Value) (k:Value),L=[(0,j),(1,k)]∧RP [] f U j g.1∧RP [] f U k g.2∧St [] f w []) (F.Es) ?_ ?_
 rotate_left
 ·intro T
  refine J (af (P 1 Z ?_))
  refine am (aN u30 Z (G.d a.fr)) Z (P 1 Z ?_)
  refine am (aN u30 Z (S.d a.fr)) Z (P 1 Z ?_)
  refine H (O ?_)
  refine ax Z (fun u=>?_) (fun u=>?_)
  ·have h:=aI h u
   refine af (P 4 Z ?_)
   refine H (O ?_)
   exact au _ (by exact ⟨Z,Z,V⟩) (T (a1,a0) _ _ ⟨q,p,Z,S,G,a⟩ h)
  have h:=aH h u
  refine ay (O ?_)
  exact au _ (by exact ⟨Z,Z,V⟩) (T (a0,a1) _ _ ⟨p,q,Z,G,S,a⟩ h)
 rintro ⟨aK,aL⟩ L w hJ h
 try dsimp only at hJ
 obtain ⟨j,k,rfl,c,x,a⟩:=hJ
 unfold F.Es at h
 refine J (af (P 1 Z ?_))
 refine am (aN u30 Z (c.d a.fr)) Z (P 1 Z ?_)
 obtain ⟨aQ,az,h⟩:=aj h
 refine aT (de (e:=U) u30 aV Z Z Z a az) Z ?_
 rintro b w a
 refine P 1 Z ?_
 refine H (O (J (af (P 1 Z ?_))))
 refine H (O (J (J (af (P 1 Z ?_)))))
 refine H (O (aD ?_))
 refine au [(0,j),(1,k),(5,b),(6,v64 0),(7,vI 0)] ⟨Z,Z,Z,Z,Z,V⟩ ?_
 refine bj (F.Df aK aL) (fun (s:UInt64×Int×List UInt32) L w=>L=[(0,j),(1,k),(5,b),(6,v64 s.1),(7,vI s.2.1)]∧St [] f w [M U b s.2.2]) ?_ (0,0,aQ) ⟨Z,a⟩ h
 rintro aX ⟨d,y,ab⟩ L w aA hI ak h z
 try dsimp only at hI
 obtain ⟨rfl,a⟩:=hI
 unfold F.Df at h
 refine J (J (af (P 2 Z ?_)))
 refine am (aN u30 Z (c.d a.fr)) Z (P 1 Z ?_)
 refine H (O ?_)
 refine ax Z (fun l=>?_) (fun l=>?_)
 ·have h:=aI h l
  refine ay (O (J (aD ?_)))
  refine J (af (P 3 Z ?_))
  obtain ⟨m,A,h⟩:=aj h
  refine am (bm u30 aV Z Z (c.d a.fr) A) Z (am (bb u38 Z Z (c.d a.fr) A Z) Z (am (aM Z (bp u38 u87 m)) Z (am (aq Z Z (cv _ d m.toUInt64)) Z (P 1 Z ?_))))
  refine H (O ?_)
  refine a9 (r:=aA) (fun (g:UInt64) L w=>L=[(0,j),(1,k),(5,b),(6,v64 g),(7,vI y)]∧St [] f w [M U b ab]) (F.EF y ab) ?_ ?_
  rotate_left
  ·intro B
   refine J (af (P 2 Z ?_))
   refine am (aN u30 Z (x.d a.fr)) Z (P 1 Z ?_)
   refine H (O ?_)
   refine ax Z (fun n=>?_) (fun n=>?_)
   ·have h:=aI h n
    refine af (P 3 Z ?_)
    obtain ⟨ac,C,h⟩:=aj h
    refine am (bm u30 aV Z Z (x.d a.fr) C) Z (am (bb u38 Z Z (x.d a.fr) C Z) Z (am (aM Z (bp u38 u87 ac)) Z (am (aq Z Z (cv _ (d+m.toUInt64) ac.toUInt64)) Z ?_)))
    obtain ⟨ad,al,h⟩:=aO h
    refine am (aB (v:=v64 ad) (by rw [←al]; rfl)) Z ?_
    refine H (O ?_)
    exact au _ (by exact ⟨Z,Z,Z,Z,Z,V⟩) (B ad _ _ ⟨Z,a⟩ h)
   have h:=aH h n
   refine ay (O ?_)
   exact au _ (by exact ⟨Z,Z,Z,Z,Z,V⟩) (B (d+m.toUInt64) _ _ ⟨Z,a⟩ h)
  rintro o L w hJ h
  try dsimp only at hJ
  obtain ⟨rfl,a⟩:=hJ
  unfold F.EF at h
  refine J (af (P 3 Z ?_))
  refine am (aM Z (bV u87 u38 o)) Z ?_
  obtain ⟨aY,D,h⟩:=aj h
  refine am (bm u30 aV Z Z (a.ro 0 Z) D) Z (bk (cd (t:=o.toUInt32) aV Z Z a (i:=0) Z D Z) ?_)
  intro w a
  obtain ⟨aC,an,h⟩:=aO h
  rw [an]at a
  refine H (O (af (P 1 Z ?_)))
  refine am (aq Z Z (cp _ o 32)) Z (P 1 Z ?_)
  refine H (aR ?_)
  refine O (af (P 3 Z ?_))
  refine H ?_
  exact bA (bz _ (by exact ⟨Z,Z,Z,Z,Z,V⟩) (ak (aP o 32,wI (y+1),aC) _ _ ⟨Z,a⟩ (a8 h z)))
 have h:=aH h l
 refine bd ?_
 refine aG (aG ?_)
 have h:=aW h z
 refine bf ?_
 refine O (J (af (P 2 Z ?_)))
 refine am (aN u30 Z (c.d a.fr)) Z (P 1 Z ?_)
 refine am (aM Z (bV u87 u38 d)) Z ?_
 obtain ⟨aZ,E,h⟩:=aj h
 refine am (bm u30 aV Z Z (a.ro 0 Z) E) Z (bk (cd (t:=d.toUInt32) aV Z Z a (i:=0) Z E Z) ?_)
 intro w a
 obtain ⟨aE,ap,h⟩:=aO h
 rw [ap]at a
 refine H (O (J (af (P 1 Z ?_))))
 have hG:=a.pick (os':=[M U b aE]++[]) [0] (by decide) Z
 obtain ⟨a2,ar,h⟩:=aj h
 refine ao Z (c7  ar hG.g ) Z ?_
 rintro a3 w ⟨aU,ag,av⟩
 rw [←ag]at av
 have a:=hG.h av
 refine P 1 Z ?_
 refine H (O (aw ?_))
 cases h
 exact aF Z Z (a.e [0] Z Z)
theorem bH {f:World} {j a2:List UInt32} {e b:Value} {c:Nat} {S:List Nat} (l a1:Bool) {r:Bool×List UInt32}
  (h:F.BQ l j a1 a2=some r) (a:St S f f [X c [I l,e],M U e j,M U b a2]):Calls Tryz.prog 145 #[N c 0,I a1,b] f (Ret fun v w=>∃m:Value,v=N c 0∧St S f w [X c [I r.1,m],M U m r.2]):=by
 refine aJ 21 Tryz.func145 Z Z Z ?_
 refine au [(0,N c 0),(1,I a1),(2,b)] ⟨Z,Z,Z,V⟩ ?_
 unfold F.BQ at h
 refine J (af (P 1 Z ?_))
 refine H (O (J (af (P 2 Z ?_))))
 refine am (aK Z) Z (am (av (k:=1) u101 Z Z dc Z) Z (bk (bl (i:=0) (us:=[b]) Z BC Z Z (fK (a.ro 2 Z).one) ⟨(a.ro 2 Z).one,V⟩ Z a) ?_))
 intro w a
 refine H (O ?_)
 refine a9 (r:=r) (fun (g:Bool) L w=>L=[(0,N c 0)]∧St S f w [X c [I g,b],M U b a2]) (F.E9 a2) ?_ ?_
 rotate_left
 ·intro n
  refine af (P 3 Z ?_)
  cases d:a1
  case true=>
   have h:=aI h d
   try simp only [d]
   refine P 1 Z ?_
   refine ba (t:=13) Z Z (aN u30 Z (a.ro 2 Z)) Z (P 2 Z ?_)
   refine am (aK Z) Z (am (av (k:=0) u101 Z Z nz4 Z) Z (bk (bl (i:=0) (us:=[I (decide ((0:Int)<(a2.length:Int)))]) Z sz4 Z Z Z ⟨Z,V⟩ Z a) ?_))
   intro w a
   refine H (O ?_)
   exact au _ (by exact ⟨Z,V⟩) (n (decide ((0:Int)<(a2.length:Int))) _ _ ⟨Z,(a.e [0,2] Z Z)⟩ h)
  case false=>
   have h:=aH h d
   try simp only [d]
   refine P 4 Z ?_
   refine am (aK Z) Z (am (av (k:=0) u101 Z Z nz4 Z) Z (bk (bl (i:=0) (us:=[I false]) Z sz4 Z Z Z ⟨Z,V⟩ Z a) ?_))
   intro w a
   refine H (O ?_)
   exact au _ (by exact ⟨Z,V⟩) (n false _ _ ⟨Z,(a.e [0,2] Z Z)⟩ h)
 rintro o L w hJ h
 try dsimp only at hJ
 obtain ⟨rfl,a⟩:=hJ
 unfold F.E9 at h
 refine J (af (P 2 Z ?_))
 refine H (O (aw ?_))
 cases h
 exact aF Z Z ⟨b,Z,a.e [0,1] Z Z⟩
theorem jZ {q:World} {d:List UInt32} {a:Value} {e:Nat} {S:List Nat} (c:Bool) (a1:List UInt8) (a2:Int) {r:Bool×Bool×List UInt32}
  (h:F.E7 c d a1 a2=some r) (b:St S q q [X e [I c,a],M U a d]):Calls Tryz.prog 186 #[N e 0,vS a1,vI a2] q (Ret fun v w=>∃a5:Value,v=.tuple #[N e 0,I r.1]∧St S q w [X e [I r.2.1,a5],M U a5 r.2.2]):=by
 refine aJ 124 Tryz.func186 Z Z Z ?_
 refine au [(0,N e 0),(1,vS a1),(2,vI a2)] ⟨Z,Z,Z,V⟩ ?_
 unfold F.E7 at h
 refine J (af (P 2 Z ?_))
 refine H (O (J (af (P 1 Z ?_))))
 refine H (O ?_)
 refine a9 (r:=r) (fun (g:List UInt8×Bool) L w=>L=[(0,N e 0),(1,vS g.1),(2,vI a2),(8,I g.2)]∧St S q w [X e [I c,a],M U a d]) (F.E0 a2 c d) ?_ ?_
 rotate_left
 ·intro aU
  refine a9 (r:=r) (fun (g:Bool) L w=>L=[(0,N e 0),(1,vS a1),(2,vI a2),(8,I false),(25,I g)]∧St S q w [X e [I c,a],M U a d]) (F.ER a1 a2 c d) ?_ ?_
  rotate_left
  ·intro aT
   refine af (P 1 Z ?_)
   refine am (kB Tryz.underlying9 Z) Z (P 2 Z ?_)
   cases T:(decide ((0:Int)<(a1.length:Int)))
   case true=>
    have h:=aI h T
    try simp only [T]
    refine P 1 Z ?_
    obtain ⟨bw,bD,h⟩:=aj h
    refine ba (t:=16) Z Z (kx Tryz.underlying9 Z Z bD) Z (ba (t:=16) Z Z (aq Z Z (fZ _ bw 45)) Z (P 1 Z ?_))
    cases ab:(bw == 45)
    case true=>
     have h:=aI h ab
     try simp only [ab]
     refine P 5 Z ?_
     refine H (O ?_)
     exact au _ (by exact ⟨Z,Z,Z,Z,Z,V⟩) (aT true _ _ ⟨Z,b⟩ h)
    case false=>
     have h:=aH h ab
     try simp only [ab]
     refine P 1 Z ?_
     obtain ⟨bB,bE,h⟩:=aj h
     refine ba (t:=20) Z Z (kx Tryz.underlying9 Z Z bE) Z (ba (t:=20) Z Z (aq Z Z (fZ _ bB 43)) Z (P 2 Z ?_))
     refine H (O ?_)
     exact au _ (by exact ⟨Z,Z,Z,Z,Z,V⟩) (aT (bB == 43) _ _ ⟨Z,b⟩ h)
   case false=>
    have h:=aH h T
    try simp only [T]
    refine P 9 Z ?_
    refine H (O ?_)
    exact au _ (by exact ⟨Z,Z,Z,Z,Z,V⟩) (aT false _ _ ⟨Z,b⟩ h)
  rintro b5 L w hJ h
  try dsimp only at hJ
  obtain ⟨rfl,b⟩:=hJ
  unfold F.ER at h
  refine ax Z (fun ac=>?_) (fun ac=>?_)
  ·have h:=aI h ac
   refine J (af (P 1 Z ?_))
   obtain ⟨bC,bF,h⟩:=aj h
   refine am (kx Tryz.underlying9 Z Z bF) Z (am (aq Z Z (fZ _ bC 45)) Z (P 1 Z ?_))
   refine H (O (af (P 1 Z ?_)))
   obtain ⟨bG,bh,h⟩:=aj h
   refine am (wD Tryz.underlying9 Z Z bh) Z (P 1 Z ?_)
   refine H (O ?_)
   exact au _ (by exact ⟨Z,Z,Z,Z,V⟩) (aU (bG,bC == 45) _ _ ⟨Z,b⟩ h)
  have h:=aH h ac
  refine ay (O ?_)
  exact au _ (by exact ⟨Z,Z,Z,Z,V⟩) (aU (a1,false) _ _ ⟨Z,b⟩ h)
 rintro ⟨l,i⟩ L w hJ h
 try dsimp only at hJ
 obtain ⟨rfl,b⟩:=hJ
 unfold F.E0 at h
 refine a9 (r:=r) (fun (g:List UInt8×Int) L w=>L=[(0,N e 0),(1,vS g.1),(2,vI g.2),(8,I i)]∧St S q w [X e [I c,a],M U a d]) (F.Dz c d i) ?_ ?_
 rotate_left
 ·intro x
  refine J (af (P 2 Z ?_))
  refine H (O ?_)
  refine ax Z (fun ad=>?_) (fun ad=>?_)
  ·have h:=aI h ad
   refine J (af (P 1 Z ?_))
   refine H (O ?_)
   refine a9 (r:=r) (fun (g:Bool) L w=>L=[(0,N e 0),(1,vS l),(2,vI 10),(8,I i),(40,I g)]∧St S q w [X e [I c,a],M U a d]) (F.FT l c d i) ?_ ?_
   rotate_left
   ·intro aV
    refine af (P 1 Z ?_)
    refine am (kB Tryz.underlying9 Z) Z (P 2 Z ?_)
    cases y:(decide ((2:Int)<(l.length:Int)))
    case true=>
     have h:=aI h y
     try simp only [y]
     refine P 1 Z ?_
     obtain ⟨a6,bi,h⟩:=aj h
     refine ba (t:=36) Z Z (kx Tryz.underlying9 Z Z bi) Z (ba (t:=36) Z Z (aq Z Z (fZ _ a6 48)) Z (P 1 Z ?_))
     refine H (O ?_)
     exact au _ (by exact ⟨Z,Z,Z,Z,Z,V⟩) (aV (a6 == 48) _ _ ⟨Z,b⟩ h)
    case false=>
     have h:=aH h y
     try simp only [y]
     refine P 4 Z ?_
     refine H (O ?_)
     exact au _ (by exact ⟨Z,Z,Z,Z,Z,V⟩) (aV false _ _ ⟨Z,b⟩ h)
   rintro bO L w hJ h
   try dsimp only at hJ
   obtain ⟨rfl,b⟩:=hJ
   unfold F.FT at h
   refine ax Z (fun ag=>?_) (fun ag=>?_)
   ·have h:=aI h ag
    refine a9 (r:=r) (fun (g:Int) L w=>L=[(0,N e 0),(1,vS l),(2,vI g),(8,I i)]∧St S q w [X e [I c,a],M U a d]) (F.En l c d i) ?_ ?_
    rotate_left
    ·intro z
     refine J (af (P 1 Z ?_))
     obtain ⟨k,bk,h⟩:=aj h
     refine am (kx Tryz.underlying9 Z Z bk) Z (H (O (aD ?_)))
     refine a9 (r:=r) (fun (g:Bool) L w=>L=[(0,N e 0),(1,vS l),(2,vI 10),(8,I i),(42,v8 k),(43,I g)]∧St S q w [X e [I c,a],M U a d]) (F.F2 k l c d i) ?_ ?_
     rotate_left
     ·intro aX
      refine J (af (am (aq Z Z (fZ _ k 120)) Z (P 1 Z ?_)))
      refine H (O ?_)
      refine ax Z (fun ak=>?_) (fun ak=>?_)
      ·have h:=aI h ak
       refine ay (O ?_)
       exact au _ (by exact ⟨Z,Z,Z,Z,Z,Z,V⟩) (aX (k == 120) _ _ ⟨Z,b⟩ h)
      have h:=aH h ak
      refine af (am (aq Z Z (fZ _ k 88)) Z (P 1 Z ?_))
      refine H (O ?_)
      exact au _ (by exact ⟨Z,Z,Z,Z,Z,Z,V⟩) (aX (k == 88) _ _ ⟨Z,b⟩ h)
     rintro bP L w hJ h
     try dsimp only at hJ
     obtain ⟨rfl,b⟩:=hJ
     unfold F.F2 at h
     refine ax Z (fun al=>?_) (fun al=>?_)
     ·have h:=aI h al
      refine af (P 1 Z ?_)
      refine H (aR ?_)
      refine O ?_
      exact au _ (by exact ⟨Z,Z,Z,Z,V⟩) (z 16 _ _ ⟨Z,b⟩ h)
     have h:=aH h al
     refine a9 (r:=r) (fun (g:Bool) L w=>L=[(0,N e 0),(1,vS l),(2,vI 10),(8,I i),(42,v8 k),(46,I g)]∧St S q w [X e [I c,a],M U a d]) (F.FR k l c d i) ?_ ?_
     rotate_left
     ·intro aY
      refine J (af (am (aq Z Z (fZ _ k 98)) Z (P 1 Z ?_)))
      refine H (O ?_)
      refine ax Z (fun an=>?_) (fun an=>?_)
      ·have h:=aI h an
       refine ay (O ?_)
       exact au _ (by exact ⟨Z,Z,Z,Z,Z,Z,V⟩) (aY (k == 98) _ _ ⟨Z,b⟩ h)
      have h:=aH h an
      refine af (am (aq Z Z (fZ _ k 66)) Z (P 1 Z ?_))
      refine H (O ?_)
      exact au _ (by exact ⟨Z,Z,Z,Z,Z,Z,V⟩) (aY (k == 66) _ _ ⟨Z,b⟩ h)
     rintro bQ L w hJ h
     try dsimp only at hJ
     obtain ⟨rfl,b⟩:=hJ
     unfold F.FR at h
     refine ax Z (fun ap=>?_) (fun ap=>?_)
     ·have h:=aI h ap
      refine af (P 1 Z ?_)
      refine H (aR ?_)
      refine O ?_
      exact au _ (by exact ⟨Z,Z,Z,Z,V⟩) (z 2 _ _ ⟨Z,b⟩ h)
     have h:=aH h ap
     refine a9 (r:=r) (fun (g:Bool) L w=>L=[(0,N e 0),(1,vS l),(2,vI 10),(8,I i),(49,I g)]∧St S q w [X e [I c,a],M U a d]) (F.FZ l c d i) ?_ ?_
     rotate_left
     ·intro aZ
      refine J (af (am (aq Z Z (fZ _ k 111)) Z (P 1 Z ?_)))
      refine H (O ?_)
      refine ax Z (fun ar=>?_) (fun ar=>?_)
      ·have h:=aI h ar
       refine ay (O ?_)
       exact au _ (by exact ⟨Z,Z,Z,Z,Z,V⟩) (aZ (k == 111) _ _ ⟨Z,b⟩ h)
      have h:=aH h ar
      refine af (am (aq Z Z (fZ _ k 79)) Z (P 1 Z ?_))
      refine H (O ?_)
      exact au _ (by exact ⟨Z,Z,Z,Z,Z,V⟩) (aZ (k == 79) _ _ ⟨Z,b⟩ h)
     rintro bR L w hJ h
     try dsimp only at hJ
     obtain ⟨rfl,b⟩:=hJ
     unfold F.FZ at h
     refine ax Z (fun av=>?_) (fun av=>?_)
     ·have h:=aI h av
      refine af (P 1 Z ?_)
      refine H (aR ?_)
      refine O ?_
      exact au _ (by exact ⟨Z,Z,Z,Z,V⟩) (z 8 _ _ ⟨Z,b⟩ h)
     have h:=aH h av
     refine ay (aR ?_)
     refine O ?_
     exact au _ (by exact ⟨Z,Z,Z,Z,V⟩) (z 10 _ _ ⟨Z,b⟩ h)
    rintro a7 L w hJ h
    try dsimp only at hJ
    obtain ⟨rfl,b⟩:=hJ
    unfold F.En at h
    refine J (af (P 2 Z ?_))
    refine H (O ?_)
    refine ax Z (fun az=>?_) (fun az=>?_)
    ·have h:=aI h az
     refine af (P 1 Z ?_)
     obtain ⟨bI,bl,h⟩:=aj h
     refine am (wD Tryz.underlying9 Z Z bl) Z (P 1 Z ?_)
     refine H (O ?_)
     exact au _ (by exact ⟨Z,Z,Z,Z,V⟩) (x (bI,a7) _ _ ⟨Z,b⟩ h)
    have h:=aH h az
    refine ay (O ?_)
    exact au _ (by exact ⟨Z,Z,Z,Z,V⟩) (x (l,a7) _ _ ⟨Z,b⟩ h)
   have h:=aH h ag
   refine ay (O ?_)
   exact au _ (by exact ⟨Z,Z,Z,Z,V⟩) (x (l,10) _ _ ⟨Z,b⟩ h)
  have h:=aH h ad
  refine ay (O ?_)
  exact au _ (by exact ⟨Z,Z,Z,Z,V⟩) (x (l,a2) _ _ ⟨Z,b⟩ h)
 rintro ⟨n,j⟩ L w hJ h
 try dsimp only at hJ
 obtain ⟨rfl,b⟩:=hJ
 unfold F.Dz at h
 refine J ?_
 refine a9 (r:=r) (fun (g:Bool) L w=>L=[(0,N e 0),(1,vS n),(2,vI j),(8,I i),(66,I g)]∧St S q w [X e [I c,a],M U a d]) (F.EI c d i n j) ?_ ?_
 rotate_left
 ·intro aA
  refine af (P 1 Z ?_)
  refine am (kB Tryz.underlying9 Z) Z (P 2 Z ?_)
  cases A:((n.length:Int) == 0)
  case true=>
   have h:=aI h A
   try simp only [A]
   refine P 7 Z ?_
   refine H (O ?_)
   exact au _ (by exact ⟨Z,Z,Z,Z,Z,V⟩) (aA true _ _ ⟨Z,b⟩ h)
  case false=>
   have h:=aH h A
   try simp only [A]
   refine P 4 Z ?_
   cases B:(decide (j<2))
   case true=>
    have h:=aI h B
    try simp only [B]
    refine P 3 Z ?_
    refine H (O ?_)
    exact au _ (by exact ⟨Z,Z,Z,Z,Z,V⟩) (aA true _ _ ⟨Z,b⟩ h)
   case false=>
    have h:=aH h B
    try simp only [B]
    refine P 3 Z ?_
    refine H (O ?_)
    exact au _ (by exact ⟨Z,Z,Z,Z,Z,V⟩) (aA (decide ((36:Int)<j)) _ _ ⟨Z,b⟩ h)
 rintro bS L w hJ h
 try dsimp only at hJ
 obtain ⟨rfl,b⟩:=hJ
 unfold F.EI at h
 refine ax Z (fun aC=>?_) (fun aC=>?_)
 ·have h:=aI h aC
  refine J (af (P 2 Z ?_))
  refine H (O (aw (aE ?_)))
  cases h
 have h:=aH h aC
 refine ay (O (J (af (P 1 Z ?_))))
 refine H (O (J (J (af (P 1 Z ?_)))))
 refine H (O (aD ?_))
 refine au [(0,N e 0),(1,vS n),(2,vI j),(8,I i),(9,.slice none 0 0),(10,vI 0)] ⟨Z,Z,Z,Z,Z,Z,V⟩ ?_
 refine bj (F.De c d i n j) (fun (s:List UInt32×Int) L w=>∃(m:Value),L=[(0,N e 0),(1,vS n),(2,vI j),(8,I i),(9,m),(10,vI s.2)]∧St S q w [M U m s.1,X e [I c,a],M U a d]) ?_ ([],0) ⟨.slice none 0 0,Z,(b.nil U)⟩ h
 rintro bT ⟨o,p⟩ L w aF hI bm h aK
 try dsimp only at hI
 obtain ⟨m,rfl,b⟩:=hI
 unfold F.De at h
 refine J (J (af (P 2 Z ?_)))
 refine am (kB Tryz.underlying9 Z) Z (P 1 Z ?_)
 refine H (O ?_)
 refine ax Z (fun aL=>?_) (fun aL=>?_)
 ·have h:=aI h aL
  refine ay (O (J (aD ?_)))
  refine J (af (P 1 Z ?_))
  refine H (O ?_)
  refine a9 (r:=aF) (fun (g:Int) L w=>L=[(0,N e 0),(1,vS n),(2,vI j),(8,I i),(9,m),(10,vI p),(11,vI g)]∧St S q w [X e [I c,a],M U a d,M U m o]) (F.Cw j o p) ?_ ?_
  rotate_left
  ·intro C
   refine J (af (P 2 Z ?_))
   obtain ⟨f,bn,h⟩:=aj h
   refine am (kx Tryz.underlying9 Z Z bn) Z (P 1 Z ?_)
   refine H (O (aD ?_))
   refine a9 (r:=aF) (fun (g:Bool) L w=>L=[(0,N e 0),(1,vS n),(2,vI j),(8,I i),(9,m),(10,vI p),(11,vI 99),(12,v8 f),(76,I g)]∧St S q w [X e [I c,a],M U a d,M U m o]) (F.Fq f j o p) ?_ ?_
   rotate_left
   ·intro a0
    refine af (P 1 Z ?_)
    refine am (aq Z Z (rA _ f 48)) Z (P 1 Z ?_)
    cases D:(decide ((48:UInt8)≤f))
    case true=>
     have h:=aI h D
     try simp only [D]
     refine P 1 Z ?_
     refine ba (t:=79) Z Z (aq Z Z (sr _ f 57)) Z (P 2 Z ?_)
     refine H (O ?_)
     exact au _ (by exact ⟨Z,Z,Z,Z,Z,Z,Z,Z,Z,V⟩) (a0 (decide (f≤57)) _ _ ⟨Z,(b.e [1,2,0] Z Z)⟩ h)
    case false=>
     have h:=aH h D
     try simp only [D]
     refine P 4 Z ?_
     refine H (O ?_)
     exact au _ (by exact ⟨Z,Z,Z,Z,Z,Z,Z,Z,Z,V⟩) (a0 false _ _ ⟨Z,(b.e [1,2,0] Z Z)⟩ h)
   rintro bU L w hJ h
   try dsimp only at hJ
   obtain ⟨rfl,b⟩:=hJ
   unfold F.Fq at h
   refine ax Z (fun aN=>?_) (fun aN=>?_)
   ·have h:=aI h aN
    refine af (P 1 Z ?_)
    refine am (aq Z Z (qH _ f 48)) Z (am (aM Z (nY Tryz.underlying5 Tryz.underlying3 (f - 48))) Z ?_)
    obtain ⟨bb,bo,h⟩:=aO h
    refine am (aB (v:=vI bb) (by rw [←bo]; rfl)) Z ?_
    refine H (aR ?_)
    refine O ?_
    exact au _ (by exact ⟨Z,Z,Z,Z,Z,Z,Z,V⟩) (C bb _ _ ⟨Z,b⟩ h)
   have h:=aH h aN
   refine a9 (r:=aF) (fun (g:Bool) L w=>L=[(0,N e 0),(1,vS n),(2,vI j),(8,I i),(9,m),(10,vI p),(11,vI 99),(12,v8 f),(86,I g)]∧St S q w [X e [I c,a],M U a d,M U m o]) (F.Fh f j o p) ?_ ?_
   rotate_left
   ·intro a3
    refine af (P 1 Z ?_)
    refine am (aq Z Z (rA _ f 97)) Z (P 1 Z ?_)
    cases E:(decide ((97:UInt8)≤f))
    case true=>
     have h:=aI h E
     try simp only [E]
     refine P 1 Z ?_
     refine ba (t:=89) Z Z (aq Z Z (sr _ f 122)) Z (P 2 Z ?_)
     refine H (O ?_)
     exact au _ (by exact ⟨Z,Z,Z,Z,Z,Z,Z,Z,Z,V⟩) (a3 (decide (f≤122)) _ _ ⟨Z,b⟩ h)
    case false=>
     have h:=aH h E
     try simp only [E]
     refine P 4 Z ?_
     refine H (O ?_)
     exact au _ (by exact ⟨Z,Z,Z,Z,Z,Z,Z,Z,Z,V⟩) (a3 false _ _ ⟨Z,b⟩ h)
   rintro bV L w hJ h
   try dsimp only at hJ
   obtain ⟨rfl,b⟩:=hJ
   unfold F.Fh at h
   refine ax Z (fun aP=>?_) (fun aP=>?_)
   ·have h:=aI h aP
    refine af (P 1 Z ?_)
    refine am (aq Z Z (qH _ f 97)) Z (am (aM Z (nY Tryz.underlying5 Tryz.underlying3 (f - 97))) Z (P 1 Z ?_))
    obtain ⟨bc,bp,h⟩:=aO h
    refine am (aB (v:=vI bc) (by rw [←bp]; rfl)) Z ?_
    refine H (aR ?_)
    refine O ?_
    exact au _ (by exact ⟨Z,Z,Z,Z,Z,Z,Z,V⟩) (C bc _ _ ⟨Z,b⟩ h)
   have h:=aH h aP
   refine a9 (r:=aF) (fun (g:Bool) L w=>L=[(0,N e 0),(1,vS n),(2,vI j),(8,I i),(9,m),(10,vI p),(11,vI 99),(12,v8 f),(97,I g)]∧St S q w [X e [I c,a],M U a d,M U m o]) (F.FY f j o p) ?_ ?_
   rotate_left
   ·intro a4
    refine af (P 1 Z ?_)
    refine am (aq Z Z (rA _ f 65)) Z (P 1 Z ?_)
    cases G:(decide ((65:UInt8)≤f))
    case true=>
     have h:=aI h G
     try simp only [G]
     refine P 1 Z ?_
     refine ba (t:=100) Z Z (aq Z Z (sr _ f 90)) Z (P 2 Z ?_)
     refine H (O ?_)
     exact au _ (by exact ⟨Z,Z,Z,Z,Z,Z,Z,Z,Z,V⟩) (a4 (decide (f≤90)) _ _ ⟨Z,b⟩ h)
    case false=>
     have h:=aH h G
     try simp only [G]
     refine P 4 Z ?_
     refine H (O ?_)
     exact au _ (by exact ⟨Z,Z,Z,Z,Z,Z,Z,Z,Z,V⟩) (a4 false _ _ ⟨Z,b⟩ h)
   rintro bX L w hJ h
   try dsimp only at hJ
   obtain ⟨rfl,b⟩:=hJ
   unfold F.FY at h
   refine ax Z (fun aQ=>?_) (fun aQ=>?_)
   ·have h:=aI h aQ
    refine af (P 1 Z ?_)
    refine am (aq Z Z (qH _ f 65)) Z (am (aM Z (nY Tryz.underlying5 Tryz.underlying3 (f - 65))) Z (P 1 Z ?_))
    obtain ⟨be,bq,h⟩:=aO h
    refine am (aB (v:=vI be) (by rw [←bq]; rfl)) Z ?_
    refine H (aR ?_)
    refine O ?_
    exact au _ (by exact ⟨Z,Z,Z,Z,Z,Z,Z,V⟩) (C be _ _ ⟨Z,b⟩ h)
   have h:=aH h aQ
   refine ay (aR ?_)
   refine O ?_
   exact au _ (by exact ⟨Z,Z,Z,Z,Z,Z,Z,V⟩) (C 99 _ _ ⟨Z,b⟩ h)
  rintro bg L w hJ h
  try dsimp only at hJ
  obtain ⟨rfl,b⟩:=hJ
  unfold F.Cw at h
  refine J (J (af (P 3 Z ?_)))
  refine H (O ?_)
  refine ax Z (fun aS=>?_) (fun aS=>?_)
  ·have h:=aI h aS
   refine J (af (P 2 Z ?_))
   refine H (O (aw (aE (bM ?_))))
   refine aE (aE ?_)
   have h:=aW h aK
   refine bM ?_
   refine aE ?_
   cases h
  have h:=aH h aS
  refine ay (O (af (P 2 Z ?_)))
  refine am (aM Z (ff Tryz.underlying3 u87 j)) Z ?_
  obtain ⟨bY,br,h⟩:=aj h
  refine ao Z (eb (UInt64.ofInt j) br ) Z ?_
  rintro bZ w u
  have b:=b.f u
  obtain ⟨b0,bs,h⟩:=aj h
  refine ao Z (mc  bs (b.ro 3 Z).rp (b.ro 0 Z).rp) Z ?_
  rintro b1 w u
  have b:=b.f u
  refine P 1 Z ?_
  refine am (aM Z (ff Tryz.underlying3 u87 bg)) Z ?_
  obtain ⟨b2,bt,h⟩:=aj h
  refine ao Z (eb (UInt64.ofInt bg) bt ) Z ?_
  rintro b3 w u
  have b:=b.f u
  obtain ⟨bJ,bu,h⟩:=aj h
  refine ao Z (jp  bu (b.ro 1 Z).rp (b.ro 0 Z).rp) Z ?_
  rintro bK w u
  have b:=b.f u
  refine P 1 Z ?_
  refine H (aR ?_)
  refine O (af (P 3 Z ?_))
  refine H ?_
  exact bA (bz _ (by exact ⟨Z,Z,Z,Z,Z,Z,V⟩) (bm (bJ,wI (p+1)) _ _ ⟨bK,Z,(b.e [0,4,5] Z Z)⟩ (a8 h aK)))
 have h:=aH h aL
 refine bd ?_
 refine aG (aG ?_)
 have h:=aW h aK
 refine bf ?_
 refine O (J (af (P 3 Z ?_)))
 have hG:=b.pick (os':=[X e [I c,a],M U a d,M U m o]++[]) [1,2,0] (by decide) Z
 obtain ⟨b4,bv,h⟩:=aj h
 refine ao Z (bH c i bv hG.g ) Z ?_
 rintro _ w ⟨bL,rfl,u⟩
 have b:=hG.h u
 refine P 2 Z ?_
 refine H (O (aw ?_))
 cases h
 exact bW Z Z Z ⟨bL,Z,b.e [0,1] Z Z⟩
theorem gI {f:World} {a0:List UInt32} {b:Value} {r:Int}
  (h:F.Dm a0=some r) (c:RP [] f U b a0):Calls Tryz.prog 151 #[b] f (Ret fun v w=>v=vI r∧St [] f w []):=by
 refine aJ 26 Tryz.func151 Z Z Z ?_
 have a:=St.l f
 refine au [(0,b)] ⟨Z,V⟩ ?_
 unfold F.Dm at h
 refine J (af (P 1 Z ?_))
 refine H (O (J (J (af (P 1 Z ?_)))))
 refine am (aN u30 Z (c.d a.fr)) Z (P 1 Z ?_)
 refine H (O ?_)
 refine ax Z (fun d=>?_) (fun d=>?_)
 ·have h:=aI h d
  refine J (af (P 1 Z ?_))
  refine H (O (aw (aE ?_)))
  cases h
  exact aF Z Z ⟨Z,a⟩
 have h:=aH h d
 refine ay (O (J (af (P 1 Z ?_))))
 refine H (O (J (J (af (P 2 Z ?_)))))
 refine am (aN u30 Z (c.d a.fr)) Z (P 1 Z ?_)
 obtain ⟨k,g,h⟩:=aj h
 refine am (bm u30 aV Z Z (c.d a.fr) g) Z (am (bb u38 Z Z (c.d a.fr) g Z) Z (P 1 Z ?_))
 refine H (O (aD ?_))
 refine au [(0,b),(3,vI 0),(4,v32 k)] ⟨Z,Z,Z,V⟩ ?_
 refine bj (F.DO a0) (fun (s:Int×UInt32) L w=>L=[(0,b),(3,vI s.1),(4,v32 s.2)]∧St [] f w []) ?_ (0,k) ⟨Z,a⟩ h
 rintro n ⟨m,i⟩ L w o hI l h j
 try dsimp only at hI
 obtain ⟨rfl,a⟩:=hI
 unfold F.DO at h
 refine J (J (af (P 1 Z ?_)))
 refine am (aq Z Z (kg _ i 0)) Z (H (O ?_))
 refine ax Z (fun e=>?_) (fun e=>?_)
 ·have h:=aI h e
  refine ay (O (J (aD ?_)))
  refine af (P 3 Z ?_)
  refine H (aR ?_)
  refine O (af (P 1 Z ?_))
  refine am (aq Z Z (dk _ i 1)) Z (P 1 Z ?_)
  refine H ?_
  exact bA (bz _ (by exact ⟨Z,Z,Z,V⟩) (l (wI (m+1),bB i 1) _ _ ⟨Z,a⟩ (a8 h j)))
 have h:=aH h e
 refine bd ?_
 refine aG (aG ?_)
 have h:=aW h j
 refine bf ?_
 refine O (J (af (P 1 Z ?_)))
 refine am (aN u30 Z (c.d a.fr)) Z (P 1 Z ?_)
 refine am (aq Z Z (fF _ (wI ((a0.length:Int) - 1)) 32)) Z (P 3 Z ?_)
 refine H (O (aw ?_))
 cases h
 exact aF Z Z ⟨Z,a⟩
theorem iB {p:World} {g:List UInt32} {l:Value} {f:Nat} (q:Bool) {r:List UInt8}
  (h:F.EN q g=some r) (c:RP [] p U l g) (hBa0:RB [] p f [I q,l]):Calls Tryz.prog 120 #[N f 0] p (Ret fun v w=>St [] p w [M e8 v r]):=by
 refine aJ 41 Tryz.func120 Z Z Z ?_
 have a:=St.l p
 refine au [(0,N f 0)] ⟨Z,V⟩ ?_
 unfold F.EN at h
 refine J (af (P 1 Z ?_))
 refine H (O (J (af (P 1 Z ?_))))
 refine am (aK Z) Z (am (av (k:=1) u101 Z Z dc Z) Z (am (aC u30 Z Z (hBa0.cell a.fr 1 Z)) Z ?_))
 obtain ⟨E,z,h⟩:=aj h
 refine ao Z (gI  z (c.d a.fr).rp) Z ?_
 rintro _ w ⟨rfl,G⟩
 have a:=a.f G
 refine P 1 Z ?_
 refine am (aq Z Z (dS _ (wI (E+7)) 8 (by decide))) Z ?_
 obtain ⟨m,A,h⟩:=aO h
 refine am (aB (v:=vI m) (by rw [←A]; rfl)) Z ?_
 refine H (O (J (af (P 1 Z ?_))))
 obtain ⟨S,B,h⟩:=aj h
 refine aT (de (e:=e8) u24 ti5 Z Z Z a B) Z ?_
 rintro u w a
 refine P 1 Z ?_
 refine H (O (J (J (af (P 1 Z ?_)))))
 refine H (O (aD ?_))
 refine au [(0,N f 0),(3,vI m),(4,u),(5,vI 0)] ⟨Z,Z,Z,Z,V⟩ ?_
 refine bj (F.DX g m) (fun (s:Int×List UInt8) L w=>L=[(0,N f 0),(3,vI m),(4,u),(5,vI s.1)]∧St [] p w [M e8 u s.2]) ?_ (0,S) ⟨Z,a⟩ h
 rintro T ⟨b,ad⟩ L w ab hI C h x
 try dsimp only at hI
 obtain ⟨rfl,a⟩:=hI
 unfold F.DX at h
 refine J (J (af (P 3 Z ?_)))
 refine H (O ?_)
 refine ax Z (fun d=>?_) (fun d=>?_)
 ·have h:=aI h d
  refine ay (O (J (aD ?_)))
  refine af (P 6 Z ?_)
  refine am (aK Z) Z (am (av (k:=1) u101 Z Z dc Z) Z (am (aC u30 Z Z (hBa0.cell a.fr 1 Z)) Z (P 1 Z ?_)))
  refine am (aq Z Z (dS _ b 4 (by decide))) Z ?_
  obtain ⟨j,n,h⟩:=aj h
  refine am (bm u30 aV Z Z (c.d a.fr) n) Z (am (bb u38 Z Z (c.d a.fr) n Z) Z (P 1 Z ?_))
  refine am (aM Z (ff Tryz.underlying3 u112 b)) Z ?_
  refine am (aq Z Z (fe _ (UInt64.ofInt b) 4 (by decide))) Z ?_
  refine am (aq Z Z (gX _ 8 ((UInt64.ofInt b)%4))) Z (am (aq Z Z (dk _ j (8*((UInt64.ofInt b)%4)))) Z (am (aM Z (ii u38 Tryz.underlying5 (bB j ((8*((UInt64.ofInt b)%4)).toNat)))) Z ?_))
  obtain ⟨ac,o,h⟩:=aj h
  refine am (bm u24 ti5 Z Z (a.ro 0 Z) o) Z (bk (cd (t:=((bB j ((8*((UInt64.ofInt b)%4)).toNat)).toUInt8)) ti5 Z Z a (i:=0) Z o Z) ?_)
  intro w a
  obtain ⟨D,y,h⟩:=aO h
  rw [y]at a
  refine H (aR ?_)
  refine O (af (P 3 Z ?_))
  refine H ?_
  exact bA (bz _ (by exact ⟨Z,Z,Z,Z,V⟩) (C (wI (b+1),D) _ _ ⟨Z,a⟩ (a8 h x)))
 have h:=aH h d
 refine bd ?_
 refine aG (aG ?_)
 have h:=aW h x
 refine bf ?_
 refine O (J (af (P 2 Z ?_)))
 refine H (O (aw ?_))
 cases h
 exact aF Z Z (a.e [0] Z Z)
theorem iC {q:World} {a0:List UInt32} {f:Value} (a1:UInt64) {r:List UInt32}
  (h:F.DT a0 a1=some r) (g:RP [] q U f a0):Calls Tryz.prog 143 #[f,v64 a1] q (Ret fun v w=>St [] q w [M U v r]):=by
 refine aJ 61 Tryz.func143 Z Z Z ?_
 have a:=St.l q
 refine au [(0,f),(1,v64 a1)] ⟨Z,Z,V⟩ ?_
 unfold F.DT at h
 refine J (af (P 1 Z ?_))
 refine H (O (J (J (af (P 1 Z ?_)))))
 refine am (aN u30 Z (g.d a.fr)) Z (P 1 Z ?_)
 refine H (O ?_)
 refine ax Z (fun c=>?_) (fun c=>?_)
 ·have h:=aI h c
  refine J (af (P 1 Z ?_))
  refine H (O (aw (aE ?_)))
  cases h
  exact aF Z Z ((a.nil U).e [0] Z Z)
 have h:=aH h c
 refine ay (O (J (af (P 1 Z ?_))))
 refine am (aq Z Z (gO _ a1 32 (by decide))) Z ?_
 refine am (aM Z (mi u112 Tryz.underlying3 (a1 / 32))) Z (P 1 Z ?_)
 refine am (aq Z Z (fe _ a1 32 (by decide))) Z ?_
 obtain ⟨j,S,h⟩:=aO h
 refine am (aB (v:=vI j) (by rw [←S]; rfl)) Z ?_
 refine P 1 Z ?_
 refine H (O (J (af (P 1 Z ?_))))
 refine am (aN u30 Z (g.d a.fr)) Z (P 3 Z ?_)
 obtain ⟨ad,T,h⟩:=aj h
 refine aT (de (e:=U) u30 aV Z Z Z a T) Z ?_
 rintro k w a
 refine P 1 Z ?_
 refine H (O (J (J (af (P 1 Z ?_)))))
 refine H (O (aD ?_))
 refine au [(0,f),(5,vI j),(6,v64 (a1%32)),(7,k),(8,vI 0)] ⟨Z,Z,Z,Z,Z,V⟩ ?_
 refine bj (F.DY a0 a1 j) (fun (s:Int×List UInt32) L w=>L=[(0,f),(5,vI j),(6,v64 (a1%32)),(7,k),(8,vI s.1)]∧St [] q w [M U k s.2]) ?_ (0,ad) ⟨Z,a⟩ h
 rintro ap ⟨ag,ak⟩ L w aK hI ab h u
 try dsimp only at hI
 obtain ⟨rfl,a⟩:=hI
 unfold F.DY at h
 refine J (J (af (P 2 Z ?_)))
 refine am (aN u30 Z (g.d a.fr)) Z (P 1 Z ?_)
 refine H (O ?_)
 refine ax Z (fun d=>?_) (fun d=>?_)
 ·have h:=aI h d
  refine ay (O (J (aD ?_)))
  refine J (af (P 2 Z ?_))
  obtain ⟨x,l,h⟩:=aj h
  refine am (bm u30 aV Z Z (g.d a.fr) l) Z (am (bb u38 Z Z (g.d a.fr) l Z) Z (am (aM Z (bp u38 u87 x)) Z (P 1 Z ?_)))
  refine am (aq Z Z (c9 _ x.toUInt64 (a1%32))) Z ?_
  obtain ⟨b,B,h⟩:=aO h
  refine am (aB (v:=v64 b) (by rw [←B]; rfl)) Z ?_
  refine H (O (J (af (P 4 Z ?_))))
  obtain ⟨y,m,h⟩:=aj h
  refine am (bm u30 aV Z Z (a.ro 0 Z) m) Z (am (bb u38 Z Z (a.ro 0 Z) m Z) Z (P 1 Z ?_))
  refine am (aM Z (bV u87 u38 b)) Z (am (aq Z Z (fH _ y b.toUInt32)) Z ?_)
  obtain ⟨ar,n,h⟩:=aj h
  refine am (bm u30 aV Z Z (a.ro 0 Z) n) Z (bk (cd (t:=(y ||| b.toUInt32)) aV Z Z a (i:=0) Z n Z) ?_)
  intro w a
  obtain ⟨av,C,h⟩:=aO h
  rw [C]at a
  refine H (O (af (P 5 Z ?_)))
  obtain ⟨z,o,h⟩:=aj h
  refine am (bm u30 aV Z Z (a.ro 0 Z) o) Z (am (bb u38 Z Z (a.ro 0 Z) o Z) Z (P 1 Z ?_))
  refine am (aq Z Z (cp _ b 32)) Z (am (aM Z (bV u87 u38 (aP b 32))) Z (am (aq Z Z (fH _ z ((aP b 32).toUInt32))) Z ?_))
  obtain ⟨az,p,h⟩:=aj h
  refine am (bm u30 aV Z Z (a.ro 0 Z) p) Z (bk (cd (t:=(z ||| ((aP b 32).toUInt32))) aV Z Z a (i:=0) Z p Z) ?_)
  intro w a
  obtain ⟨ac,D,h⟩:=aO h
  rw [D]at a
  refine H (aR ?_)
  refine O (af (P 3 Z ?_))
  refine H ?_
  exact bA (bz _ (by exact ⟨Z,Z,Z,Z,Z,V⟩) (ab (wI (ag+1),ac) _ _ ⟨Z,a⟩ (a8 h u)))
 have h:=aH h d
 refine bd ?_
 refine aG (aG ?_)
 have h:=aW h u
 refine bf ?_
 refine O (J (af (P 1 Z ?_)))
 have hG:=a.pick (os':=[M U k ak]++[]) [0] (by decide) Z
 obtain ⟨aA,E,h⟩:=aj h
 refine ao Z (c7  E hG.g ) Z ?_
 rintro aC w ⟨an,A,G⟩
 rw [←A]at G
 have a:=hG.h G
 refine P 1 Z ?_
 refine H (O (aw ?_))
 cases h
 exact aF Z Z (a.e [0] Z Z)
theorem eY {l:World} {e:List UInt32} {a1:List UInt8} {b j:Value} {c:Nat} {S:List Nat} (d:Bool) {r:Bool×List UInt32}
  (h:F.CX d e a1=some r) (a:St S l l [X c [I d,b],M U b e]) (n:RP S l e8 j a1):Calls Tryz.prog 77 #[N c 0,j] l (Ret fun v w=>∃o:Value,v=N c 0∧St S l w [X c [I r.1,o],M U o r.2]):=by
 refine aJ 25 Tryz.func77 Z Z Z ?_
 refine au [(0,N c 0),(1,j)] ⟨Z,Z,V⟩ ?_
 unfold F.CX at h
 refine J (af (P 1 Z ?_))
 refine H (O (J (af (P 1 Z ?_))))
 refine H (O (J (J (af (P 1 Z ?_)))))
 refine H (O (aD ?_))
 refine au [(0,N c 0),(1,j),(5,.slice none 0 0),(6,vI 0)] ⟨Z,Z,Z,Z,V⟩ ?_
 refine bj (F.EW d e a1) (fun (s:List UInt32×Int) L w=>∃(k:Value),L=[(0,N c 0),(1,j),(5,k),(6,vI s.2)]∧St S l w [M U k s.1,X c [I d,b],M U b e]) ?_ ([],0) ⟨.slice none 0 0,Z,(a.nil U)⟩ h
 rintro ab ⟨z,G⟩ L w ap hI A h p
 try dsimp only at hI
 obtain ⟨k,rfl,a⟩:=hI
 unfold F.EW at h
 refine J (J (af (P 2 Z ?_)))
 refine am (aN u24 Z (n.d a.fr)) Z (P 1 Z ?_)
 refine H (O ?_)
 refine ax Z (fun g=>?_) (fun g=>?_)
 ·have h:=aI h g
  refine ay (O (J (aD ?_)))
  refine aZ (fun w'=>St S l w' [M U k z,X c [I d,b],M U b e]) (fun i=>!([1,7,8].contains i)) bS (fun _ _ _ B=>B.2) (fun _ _ B=>B) (by kernel_rfl) ?_
  have a:=a.drew
  show lxE _ _ _ _ _ _ _ [0,1,2,3,4,5,6,7,8,9] _ _
  refine al a Z Z (fun w hF=>ar Z) Z ?_
  obtain ⟨ac,t,h⟩:=aj h
  refine bg a Z Z (by kernel_rfl) Z (iC 8 t (a.ro 0 Z).rp) Z ?_
  rintro ad w f
  have a:=a.f f
  refine al (a.e [1,2,3] Z Z) Z Z (fun w hF=>ar Z) Z (al (a.e [1,2,3] Z Z) Z Z (fun w hF=>ar Z) Z ?_)
  obtain ⟨q,m,h⟩:=aj h
  refine al (a.e [1,2,3] Z Z) Z Z (fun w hF=>bm u24 ti5 Z Z (n.d hF.fr) m) Z (al (a.e [1,2,3] Z Z) Z Z (fun w hF=>bb Tryz.underlying5 Z Z (n.d hF.fr) m Z) Z (al (a.e [1,2,3] Z Z) Z Z (fun w hF=>aM Z (tA Tryz.underlying5 u87 q)) Z ?_))
  obtain ⟨ag,u,h⟩:=aj h
  refine bg (a.e [1,2,3] Z Z) Z Z (by kernel_rfl) Z (eb q.toUInt64 u ) Z ?_
  rintro ak w f
  have a:=a.f f
  obtain ⟨C,x,h⟩:=aj h
  refine bg (a.e [2,3,4] Z Z) Z Z (by kernel_rfl) Z (jp  x (a.ro 1 Z).rp (a.ro 0 Z).rp) Z ?_
  rintro D w f
  have a:=a.f f
  refine al (a.e [3,4,5] Z Z) Z Z (fun w hF=>aB Z) Z (bn (a.e [3,4,5] Z Z) ?_)
  refine aR ?_
  refine O (af (P 3 Z ?_))
  refine H ?_
  exact bA (bz _ (by exact ⟨Z,Z,Z,Z,V⟩) (A (C,wI (G+1)) _ _ ⟨D,Z,(a.e [0,4,5] Z Z)⟩ (a8 h p)))
 have h:=aH h g
 refine bd ?_
 refine aG (aG ?_)
 have h:=aW h p
 refine bf ?_
 refine O (J (af (P 2 Z ?_)))
 have T:=a.pick (os':=[X c [I d,b],M U b e,M U k z]++[]) [1,2,0] (by decide) Z
 obtain ⟨an,y,h⟩:=aj h
 refine ao Z (bH d false y T.g ) Z ?_
 rintro _ w ⟨E,rfl,f⟩
 have a:=T.h f
 refine P 1 Z ?_
 refine H (O (aw ?_))
 cases h
 exact aF Z Z ⟨E,Z,a.e [0,1] Z Z⟩
theorem cD {e:World} {f:List UInt32} {c:Value} {g:Nat} (i:Bool) {r:Int}
  (h:F.BS i f=some r) (j:RP [] e U c f) (hBa0:RB [] e g [I i,c]):Calls Tryz.prog 93 #[N g 0] e (Ret fun v w=>v=vI r∧St [] e w []):=by
 refine aJ 13 Tryz.func93 Z Z Z ?_
 have d:=St.l e
 refine au [(0,N g 0)] ⟨Z,V⟩ ?_
 unfold F.BS at h
 refine J (af (P 1 Z ?_))
 refine H (O (J (J (af (P 1 Z ?_)))))
 refine am (aK Z) Z (am (av (k:=1) u101 Z Z dc Z) Z (am (aC u30 Z Z (hBa0.cell d.fr 1 Z)) Z (am (aN u30 Z (j.d d.fr)) Z (P 1 Z ?_))))
 refine H (O ?_)
 refine ax Z (fun a=>?_) (fun a=>?_)
 ·have h:=aI h a
  refine J (af (P 1 Z ?_))
  refine H (O (aw (aE ?_)))
  cases h
  exact aF Z Z ⟨Z,d⟩
 have h:=aH h a
 refine ay (O (J (J (af (P 1 Z ?_)))))
 refine am (aK Z) Z (am (av (k:=0) u101 Z Z nz4 Z) Z (am (aC Tryz.underlying4 Z Z (hBa0.cell d.fr 0 Z)) Z (H (O ?_))))
 refine ax Z (fun b=>?_) (fun b=>?_)
 ·have h:=aI h b
  refine J (af (P 1 Z ?_))
  refine H (O (aw (aE ?_)))
  cases h
  exact aF Z Z ⟨Z,d⟩
 have h:=aH h b
 refine ay (O (J (af (P 1 Z ?_))))
 refine H (O (aw ?_))
 cases h
 exact aF Z Z ⟨Z,d⟩
theorem fc {i:World} {d:List UInt32} {a:Value} {c:Nat} {S:List Nat} (b:Bool) (a1:Int) {r:Bool×List UInt32}
  (h:F.Dh b d a1=some r) (e:St S i i [X c [I b,a],M U a d]):Calls Tryz.prog 150 #[N c 0,vI a1] i (Ret fun v w=>∃j:Value,v=N c 0∧St S i w [X c [I r.1,j],M U j r.2]):=by
 refine aJ 18 Tryz.func150 Z Z Z ?_
 refine au [(0,N c 0),(1,vI a1)] ⟨Z,Z,V⟩ ?_
 unfold F.Dh at h
 refine J (af (P 1 Z ?_))
 refine H (O (J (af (P 1 Z ?_))))
 refine am (aM Z (ff Tryz.underlying2 u87 a1)) Z (P 1 Z ?_)
 refine H (O ?_)
 refine a9 (r:=r) (fun (g:UInt64) L w=>L=[(0,N c 0),(1,vI a1),(5,v64 g)]∧St S i w [X c [I b,a],M U a d]) (F.D6 b d a1) ?_ ?_
 rotate_left
 ·intro k
  refine J (af (P 2 Z ?_))
  refine H (O ?_)
  refine ax Z (fun f=>?_) (fun f=>?_)
  ·have h:=aI h f
   refine af (P 1 Z ?_)
   refine am (iu Z (y6 (UInt64.ofInt a1))) Z (P 1 Z ?_)
   refine H (O ?_)
   exact au _ (by exact ⟨Z,Z,Z,V⟩) (k (0 - (UInt64.ofInt a1)) _ _ ⟨Z,e⟩ h)
  have h:=aH h f
  refine ay (O ?_)
  exact au _ (by exact ⟨Z,Z,Z,V⟩) (k (UInt64.ofInt a1) _ _ ⟨Z,e⟩ h)
 rintro p L w hJ h
 try dsimp only at hJ
 obtain ⟨rfl,e⟩:=hJ
 unfold F.D6 at h
 refine J (af (P 4 Z ?_))
 obtain ⟨q,m,h⟩:=aj h
 refine ao Z (eb p m ) Z ?_
 rintro s w l
 have e:=e.f l
 have t:=e.pick (os':=[X c [I b,a],M U a d,M U s q]++[]) [1,2,0] (by decide) Z
 obtain ⟨u,n,h⟩:=aj h
 refine ao Z (bH b (decide (a1<0)) n t.g ) Z ?_
 rintro _ w ⟨o,rfl,l⟩
 have e:=t.h l
 refine P 1 Z ?_
 refine H (O (aw ?_))
 cases h
 exact aF Z Z ⟨o,Z,e.e [0,1] Z Z⟩
theorem cG {d:World} (a0:Int) {r:Bool×List UInt32}
  (h:F.BU a0=some r) :Calls Tryz.prog 85 #[vI a0] d (Ret fun v w=>∃b:Value,∃un0:Nat,v=N un0 0∧St [] d w [X un0 [I r.1,b],M U b r.2]):=by
 refine aJ 6 Tryz.func85 Z Z Z ?_
 have a:=St.l d
 refine au [(0,vI a0)] ⟨Z,V⟩ ?_
 unfold F.BU at h
 refine J (af (P 1 Z ?_))
 refine H (O (J (af (aT (aY (cs:=[I false,.slice none 0 0]) c6 Z a) Z ?_))))
 rintro _ w ⟨c,rfl,a⟩
 refine P 1 Z ?_
 replace a:=a.nil U
 have f:=a.pick (os':=[X c [I false,.slice none 0 0],M U (.slice none 0 0) []]++[]) [1,0] (by decide) Z
 obtain ⟨j,e,h⟩:=aj h
 refine ao Z (fc false a0 e f.g ) Z ?_
 rintro _ w ⟨g,rfl,i⟩
 have a:=f.h i
 refine P 1 Z ?_
 refine H (O (aw ?_))
 cases h
 exact aF Z Z ⟨g,c,Z,a.e [0,1] Z Z⟩
theorem gi {d:World} {j n o:List UInt32} {b l m:Value} {c p q:Nat} {S:List Nat} (e f g:Bool) {r:Bool×List UInt32}
  (h:F.C6 e j f n g o=some r) (a:St S d d [X c [I e,b],M U b j]) (u:RP S d U l n) (hBa1:RB S d p [I f,l]) (x:RP S d U m o) (hBa2:RB S d q [I g,m]):Calls Tryz.prog 174 #[N c 0,N p 0,N q 0] d (Ret fun v w=>∃s:Value,v=N c 0∧St S d w [X c [I r.1,s],M U s r.2]):=by
 refine aJ 27 Tryz.func174 Z Z Z ?_
 refine au [(0,N c 0),(1,N p 0),(2,N q 0)] ⟨Z,Z,Z,V⟩ ?_
 unfold F.C6 at h
 refine J (af (P 1 Z ?_))
 refine H (O (J ?_))
 have hsh1:=(a.ro 1 Z).shp
 refine aZ (fun w'=>St S d w' []) (fun i=>!([18,19].contains i)) bS (fun _ _ _ y=>y.2) (fun _ _ y=>y) (by kernel_rfl) ?_
 have a:=a.drew
 show lxE _ _ _ _ _ _ _ [0,1,2,3,4,5,6,7,8,9,10,11,12,13,14,15,16,17,18,19,20] _ _
 refine al (a.e [] Z Z) Z Z (fun w hF=>ar Z) Z (al (a.e [] Z Z) Z Z (fun w hF=>ar Z) Z (al (a.e [] Z Z) Z Z (fun w hF=>aK Z) Z (al (a.e [] Z Z) Z Z (fun w hF=>av (k:=0) u101 Z Z nz4 Z) Z (al (a.e [] Z Z) Z Z (fun w hF=>aC Tryz.underlying4 Z Z (hBa1.cell hF.fr 0 Z)) Z (al (a.e [] Z Z) Z Z (fun w hF=>ar Z) Z (al (a.e [] Z Z) Z Z (fun w hF=>aK Z) Z (al (a.e [] Z Z) Z Z (fun w hF=>av (k:=0) u101 Z Z nz4 Z) Z (al (a.e [] Z Z) Z Z (fun w hF=>aC Tryz.underlying4 Z Z (hBa2.cell hF.fr 0 Z)) Z ?_))))))))
 refine al (a.e [] Z Z) Z Z (fun w hF=>aq Z Z (l7 _ f g Tryz.underlying4 Z)) Z (al (a.e [] Z Z) Z Z (fun w hF=>ar Z) Z (al (a.e [] Z Z) Z Z (fun w hF=>aK Z) Z (al (a.e [] Z Z) Z Z (fun w hF=>av (k:=1) u101 Z Z dc Z) Z (al (a.e [] Z Z) Z Z (fun w hF=>aC u30 Z Z (hBa1.cell hF.fr 1 Z)) Z (al (a.e [] Z Z) Z Z (fun w hF=>ar Z) Z (al (a.e [] Z Z) Z Z (fun w hF=>aK Z) Z (al (a.e [] Z Z) Z Z (fun w hF=>av (k:=1) u101 Z Z dc Z) Z (al (a.e [] Z Z) Z Z (fun w hF=>aC u30 Z Z (hBa2.cell hF.fr 1 Z)) Z ?_))))))))
 obtain ⟨B,z,h⟩:=aj h
 refine bg (a.e [] Z Z) Z Z (by kernel_rfl) Z (mc  z (u.d a.fr).rp (x.d a.fr).rp) Z ?_
 rintro C w t
 have a:=a.f t
 have D:=a.pick (os':=[X c [I e,b],M U b j,M U C B]++[]) [1,2,0] (by decide) Z
 obtain ⟨G,A,h⟩:=aj h
 refine bg (a.e [] Z Z) Z Z (by kernel_rfl) Z (bH e (f != g) A D.g ) Z ?_
 rintro _ w ⟨E,rfl,t⟩
 have a:=D.h t
 refine al (a.e [] Z Z) Z Z (fun w hF=>aB Z) Z (bn (a.e [] Z Z) ?_)
 refine O (aw ?_)
 cases h
 exact aF Z Z ⟨E,Z,a.e [0,1] Z Z⟩
theorem iF {b:World} {a0:List UInt32} {a:Value} {r:List UInt32}
  (h:F.CS a0=some r) (e:RP [] b U a a0):Calls Tryz.prog 189 #[a] b (Ret fun v w=>St [] b w [M U v r]):=by
 refine aJ 5 Tryz.func189 Z Z Z ?_
 have c:=St.l b
 refine au [(0,a)] ⟨Z,V⟩ ?_
 unfold F.CS at h
 refine J (af (P 1 Z ?_))
 refine H (O (J (af (P 1 Z ?_))))
 obtain ⟨f,d,h⟩:=aj h
 refine aT (lJ u30 aV Z Z Z c (e.d c.fr) d) Z ?_
 rintro g w c
 refine P 1 Z ?_
 refine H (O (aw ?_))
 cases h
 exact aF Z Z (c.e [0] Z Z)
theorem fh {e:World} {f l:List UInt32} {b j:Value} {c m:Nat} {S:List Nat} (d g:Bool) {r:Bool×List UInt32}
  (h:F.CB d f g l=some r) (a:St S e e [X c [I d,b],M U b f]) (p:RP S e U j l) (hBa1:RB S e m [I g,j]):Calls Tryz.prog 175 #[N c 0,N m 0] e (Ret fun v w=>∃n:Value,v=N c 0∧St S e w [X c [I r.1,n],M U n r.2]):=by
 refine aJ 16 Tryz.func175 Z Z Z ?_
 refine au [(0,N c 0),(1,N m 0)] ⟨Z,Z,V⟩ ?_
 unfold F.CB at h
 refine J (af (P 1 Z ?_))
 refine H (O (J ?_))
 have hsh1:=(a.ro 1 Z).shp
 refine aZ (fun w'=>St S e w' []) (fun i=>!([9,10].contains i)) bS (fun _ _ _ q=>q.2) (fun _ _ q=>q) (by kernel_rfl) ?_
 have a:=a.drew
 show lxE _ _ _ _ _ _ _ [0,1,2,3,4,5,6,7,8,9,10,11] _ _
 refine al (a.e [] Z Z) Z Z (fun w hF=>ar Z) Z (al (a.e [] Z Z) Z Z (fun w hF=>ar Z) Z (al (a.e [] Z Z) Z Z (fun w hF=>aK Z) Z (al (a.e [] Z Z) Z Z (fun w hF=>av (k:=0) u101 Z Z nz4 Z) Z (al (a.e [] Z Z) Z Z (fun w hF=>aC Tryz.underlying4 Z Z (hBa1.cell hF.fr 0 Z)) Z (al (a.e [] Z Z) Z Z (fun w hF=>ar Z) Z (al (a.e [] Z Z) Z Z (fun w hF=>aK Z) Z (al (a.e [] Z Z) Z Z (fun w hF=>av (k:=1) u101 Z Z dc Z) Z (al (a.e [] Z Z) Z Z (fun w hF=>aC u30 Z Z (hBa1.cell hF.fr 1 Z)) Z ?_))))))))
 obtain ⟨u,s,h⟩:=aj h
 refine bg (a.e [] Z Z) Z Z (by kernel_rfl) Z (iF  s (p.d a.fr).rp) Z ?_
 rintro x w o
 have a:=a.f o
 have y:=a.pick (os':=[X c [I d,b],M U b f,M U x u]++[]) [1,2,0] (by decide) Z
 obtain ⟨A,t,h⟩:=aj h
 refine bg (a.e [] Z Z) Z Z (by kernel_rfl) Z (bH d g t y.g ) Z ?_
 rintro _ w ⟨z,rfl,o⟩
 have a:=y.h o
 refine al (a.e [] Z Z) Z Z (fun w hF=>aB Z) Z (bn (a.e [] Z Z) ?_)
 refine O (aw ?_)
 cases h
 exact aF Z Z ⟨z,Z,a.e [0,1] Z Z⟩
theorem jo {j:World} {a0 a1:List UInt32} {k l:Value} {r:Int}
  (h:F.Dj a0 a1=some r) (b:RP [] j U k a0) (c:RP [] j U l a1):Calls Tryz.prog 179 #[k,l] j (Ret fun v w=>v=vI r∧St [] j w []):=by
 refine aJ 41 Tryz.func179 Z Z Z ?_
 have a:=St.l j
 refine au [(0,k),(1,l)] ⟨Z,Z,V⟩ ?_
 unfold F.Dj at h
 refine J (af (P 1 Z ?_))
 refine H (O (J (J (af (P 1 Z ?_)))))
 refine am (aN u30 Z (b.d a.fr)) Z (P 1 Z ?_)
 refine am (aN u30 Z (c.d a.fr)) Z (P 1 Z ?_)
 refine H (O ?_)
 refine ax Z (fun d=>?_) (fun d=>?_)
 ·have h:=aI h d
  refine J (J (af (P 1 Z ?_)))
  refine am (aN u30 Z (b.d a.fr)) Z (P 1 Z ?_)
  refine am (aN u30 Z (c.d a.fr)) Z (P 1 Z ?_)
  refine H (O ?_)
  refine ax Z (fun m=>?_) (fun m=>?_)
  ·have h:=aI h m
   refine J (af (P 1 Z ?_))
   refine H (O (aw (aE (aE ?_))))
   cases h
   exact aF Z Z ⟨Z,a⟩
  have h:=aH h m
  refine ay (O (J (af (P 1 Z ?_))))
  refine H (O (aw (aE ?_)))
  cases h
  exact aF Z Z ⟨Z,a⟩
 have h:=aH h d
 refine ay (O (J (J (af (P 1 Z ?_)))))
 refine am (aN u30 Z (b.d a.fr)) Z (P 1 Z ?_)
 obtain ⟨p,x,h⟩:=aO h
 refine am (aB (v:=vI p) (by rw [←x]; rfl)) Z ?_
 refine H (O (aD ?_))
 refine au [(0,k),(1,l),(5,vI p)] ⟨Z,Z,Z,V⟩ ?_
 refine bj (F.CQ a0 a1) (fun (s:Int) L w=>L=[(0,k),(1,l),(5,vI s)]∧St [] j w []) ?_ p ⟨Z,a⟩ h
 rintro E A L w G hI y h e
 try dsimp only at hI
 obtain ⟨rfl,a⟩:=hI
 unfold F.CQ at h
 refine J (J (af (P 2 Z ?_)))
 refine H (O ?_)
 refine ax Z (fun f=>?_) (fun f=>?_)
 ·have h:=aI h f
  refine ay (O (J (aD ?_)))
  refine J ?_
  refine aZ (fun w'=>St [] j w' []) (fun _=>true) bS (fun _ _ _ n=>n.2) (fun _ _ n=>n) (by kernel_rfl) ?_
  have a:=a.drew
  show lxE _ _ _ _ _ _ _ [0,1,2,3,4,5,6,7,8] _ _
  refine al a Z Z (fun w hF=>ar Z) Z (al a Z Z (fun w hF=>ar Z) Z ?_)
  obtain ⟨B,q,h⟩:=aj h
  refine al a Z Z (fun w hF=>bm u30 aV Z Z (b.d hF.fr) q) Z (al a Z Z (fun w hF=>bb u38 Z Z (b.d hF.fr) q Z) Z (al a Z Z (fun w hF=>ar Z) Z (al a Z Z (fun w hF=>ar Z) Z ?_)))
  obtain ⟨C,t,h⟩:=aj h
  refine al a Z Z (fun w hF=>bm u30 aV Z Z (c.d hF.fr) t) Z (al a Z Z (fun w hF=>bb u38 Z Z (c.d hF.fr) t Z) Z (al a Z Z (fun w hF=>aq Z Z (kg _ B C)) Z (bn a ?_)))
  refine O ?_
  refine ax Z (fun g=>?_) (fun g=>?_)
  ·have h:=aI h g
   refine J (J ?_)
   refine aZ (fun w'=>St [] j w' []) (fun _=>true) bS (fun _ _ _ n=>n.2) (fun _ _ n=>n) (by kernel_rfl) ?_
   have a:=a.drew
   show lxE _ _ _ _ _ _ _ [0,1,2,3,4,5,6,7,8] _ _
   refine al a Z Z (fun w hF=>ar Z) Z (al a Z Z (fun w hF=>ar Z) Z ?_)
   obtain ⟨D,u,h⟩:=aj h
   refine al a Z Z (fun w hF=>bm u30 aV Z Z (b.d hF.fr) u) Z (al a Z Z (fun w hF=>bb u38 Z Z (b.d hF.fr) u Z) Z (al a Z Z (fun w hF=>ar Z) Z (al a Z Z (fun w hF=>ar Z) Z ?_)))
   obtain ⟨z,o,h⟩:=aj h
   refine al a Z Z (fun w hF=>bm u30 aV Z Z (c.d hF.fr) o) Z (al a Z Z (fun w hF=>bb u38 Z Z (c.d hF.fr) o Z) Z (al a Z Z (fun w hF=>aq Z Z (oV _ D z)) Z (bn a ?_)))
   refine O ?_
   refine ax Z (fun i=>?_) (fun i=>?_)
   ·have h:=aI h i
    refine J (af (P 1 Z ?_))
    refine H (O (aw (aE (bM ?_))))
    refine aE (aE ?_)
    have h:=aW h e
    refine bM ?_
    refine aE ?_
    cases h
    exact aF Z Z ⟨Z,a⟩
   have h:=aH h i
   refine ay (O (J (af (P 1 Z ?_))))
   refine H (O (aw (bM ?_)))
   refine aE (aE ?_)
   have h:=aW h e
   refine bM ?_
   refine aE ?_
   cases h
   exact aF Z Z ⟨Z,a⟩
  have h:=aH h g
  refine ay (aR ?_)
  refine O (af (P 3 Z ?_))
  refine H ?_
  exact bA (bz _ (by exact ⟨Z,Z,Z,V⟩) (y (wI (A - 1)) _ _ ⟨Z,a⟩ (a8 h e)))
 have h:=aH h f
 refine bd ?_
 refine aG (aG ?_)
 have h:=aW h e
 refine bf ?_
 refine O (J (af (P 1 Z ?_)))
 refine H (O (aw ?_))
 cases h
 exact aF Z Z ⟨Z,a⟩
theorem kq {f:World} {a0:List UInt32} {e:Value} {r:UInt64}
  (h:F.Eo a0=some r) (b:RP [] f U e a0):Calls Tryz.prog 197 #[e] f (Ret fun v w=>v=v64 r∧St [] f w []):=by
 refine aJ 22 Tryz.func197 Z Z Z ?_
 have a:=St.l f
 refine au [(0,e)] ⟨Z,V⟩ ?_
 unfold F.Eo at h
 refine J (af (P 1 Z ?_))
 refine H (O (J (af (P 1 Z ?_))))
 refine H (O ?_)
 refine a9 (r:=r) (fun (g:UInt64) L w=>L=[(0,e),(3,v64 g)]∧St [] f w []) (F.FU a0) ?_ ?_
 rotate_left
 ·intro i
  refine J (af (P 1 Z ?_))
  refine am (aN u30 Z (b.d a.fr)) Z (P 1 Z ?_)
  refine H (O ?_)
  refine ax Z (fun c=>?_) (fun c=>?_)
  ·have h:=aI h c
   refine af (P 1 Z ?_)
   obtain ⟨n,j,h⟩:=aj h
   refine am (bm u30 aV Z Z (b.d a.fr) j) Z (am (bb u38 Z Z (b.d a.fr) j Z) Z (am (aM Z (bp u38 u87 n)) Z (P 1 Z ?_)))
   refine H (O ?_)
   exact au _ (by exact ⟨Z,Z,V⟩) (i n.toUInt64 _ _ ⟨Z,a⟩ h)
  have h:=aH h c
  refine ay (O ?_)
  exact au _ (by exact ⟨Z,Z,V⟩) (i 0 _ _ ⟨Z,a⟩ h)
 rintro o L w hJ h
 try dsimp only at hJ
 obtain ⟨rfl,a⟩:=hJ
 unfold F.FU at h
 refine a9 (r:=r) (fun (g:UInt64) L w=>L=[(3,v64 g)]∧St [] f w []) (F.FM) ?_ ?_
 rotate_left
 ·intro k
  refine J (af (P 1 Z ?_))
  refine am (aN u30 Z (b.d a.fr)) Z (P 1 Z ?_)
  refine H (O ?_)
  refine ax Z (fun d=>?_) (fun d=>?_)
  ·have h:=aI h d
   refine af (P 2 Z ?_)
   obtain ⟨l,m,h⟩:=aj h
   refine am (bm u30 aV Z Z (b.d a.fr) m) Z (am (bb u38 Z Z (b.d a.fr) m Z) Z (am (aM Z (bp u38 u87 l)) Z (am (aq Z Z (c9 _ l.toUInt64 32)) Z (am (aq Z Z (fa _ o (bo l.toUInt64 32))) Z ?_))))
   obtain ⟨p,q,h⟩:=aO h
   refine am (aB (v:=v64 p) (by rw [←q]; rfl)) Z ?_
   refine H (O ?_)
   exact au _ (by exact ⟨Z,V⟩) (k p _ _ ⟨Z,a⟩ h)
  have h:=aH h d
  refine ay (O ?_)
  exact au _ (by exact ⟨Z,V⟩) (k o _ _ ⟨Z,a⟩ h)
 rintro s L w hJ h
 try dsimp only at hJ
 obtain ⟨rfl,a⟩:=hJ
 unfold F.FM at h
 refine J (af (P 2 Z ?_))
 refine H (O (aw ?_))
 cases h
 exact aF Z Z ⟨Z,a⟩
theorem pz {l:World} {a0:List UInt32} {d:Value} (a1:UInt32) {r:List UInt32×UInt32}
  (h:F.Fk a0 a1=some r) (f:RP [] l U d a0):Calls Tryz.prog 198 #[d,v32 a1] l (Ret fun v w=>∃u0:Value,v=.tuple #[u0,v32 r.2]∧St [] l w [M U u0 r.1]):=by
 refine aJ 43 Tryz.func198 Z Z Z ?_
 have a:=St.l l
 refine au [(0,d),(1,v32 a1)] ⟨Z,Z,V⟩ ?_
 unfold F.Fk at h
 refine J (af (P 2 Z ?_))
 refine H (O (J (af (P 1 Z ?_))))
 refine am (aN u30 Z (f.d a.fr)) Z ?_
 obtain ⟨T,C,h⟩:=aj h
 refine aT (de (e:=U) u30 aV Z Z Z a C) Z ?_
 rintro g w a
 refine P 1 Z ?_
 refine H (O (J (af (P 1 Z ?_))))
 refine H (O (J (J (af (P 1 Z ?_)))))
 refine am (aN u30 Z (f.d a.fr)) Z (P 1 Z ?_)
 obtain ⟨m,D,h⟩:=aO h
 refine am (aB (v:=vI m) (by rw [←D]; rfl)) Z ?_
 refine H (O (aD ?_))
 refine au [(0,d),(1,v32 a1),(6,g),(7,v64 0),(8,vI m)] ⟨Z,Z,Z,Z,Z,V⟩ ?_
 refine bj (F.CY a0 a1) (fun (s:UInt64×Int×List UInt32) L w=>L=[(0,d),(1,v32 a1),(6,g),(7,v64 s.1),(8,vI s.2.1)]∧St [] l w [M U g s.2.2]) ?_ (0,m,T) ⟨Z,a⟩ h
 rintro ak ⟨n,ab,ac⟩ L w al hI E h o
 try dsimp only at hI
 obtain ⟨rfl,a⟩:=hI
 unfold F.CY at h
 refine J (J (af (P 2 Z ?_)))
 refine H (O ?_)
 refine ax Z (fun c=>?_) (fun c=>?_)
 ·have h:=aI h c
  refine ay (O (J (aD ?_)))
  refine J (af (P 1 Z ?_))
  refine am (aq Z Z (c9 _ n 32)) Z (P 2 Z ?_)
  obtain ⟨p,j,h⟩:=aj h
  refine am (bm u30 aV Z Z (f.d a.fr) j) Z (am (bb u38 Z Z (f.d a.fr) j Z) Z (am (aM Z (bp u38 u87 p)) Z (am (aq Z Z (fa _ (bo n 32) p.toUInt64)) Z ?_)))
  obtain ⟨b,u,h⟩:=aO h
  refine am (aB (v:=v64 b) (by rw [←u]; rfl)) Z ?_
  refine H (O (J (af (P 4 Z ?_))))
  refine am (aM Z (bp u38 u87 a1)) Z ?_
  obtain ⟨x,h⟩:=bZ h
  refine am (aq Z Z (gO _ b a1.toUInt64 x)) Z (am (aM Z (bV u87 u38 (b / a1.toUInt64))) Z ?_)
  obtain ⟨an,k,h⟩:=aj h
  refine am (bm u30 aV Z Z (a.ro 0 Z) k) Z (bk (cd (t:=((b / a1.toUInt64).toUInt32)) aV Z Z a (i:=0) Z k Z) ?_)
  intro w a
  obtain ⟨G,y,h⟩:=aO h
  rw [y]at a
  refine H (O (af (P 2 Z ?_)))
  refine am (aM Z (bp u38 u87 a1)) Z ?_
  obtain ⟨z,h⟩:=bZ h
  refine am (aq Z Z (fe _ b a1.toUInt64 z)) Z (P 1 Z ?_)
  refine H (aR ?_)
  refine O (af (P 3 Z ?_))
  refine H ?_
  exact bA (bz _ (by exact ⟨Z,Z,Z,Z,Z,V⟩) (E (b%a1.toUInt64,wI (ab - 1),G) _ _ ⟨Z,a⟩ (a8 h o)))
 have h:=aH h c
 refine bd ?_
 refine aG (aG ?_)
 have h:=aW h o
 refine bf ?_
 refine O (J (af (P 1 Z ?_)))
 have hG:=a.pick (os':=[M U g ac]++[]) [0] (by decide) Z
 obtain ⟨ap,A,h⟩:=aj h
 refine ao Z (c7  A hG.g ) Z ?_
 rintro S w ⟨ag,q,B⟩
 rw [←q]at B
 have a:=hG.h B
 refine P 1 Z ?_
 refine am (aM Z (bV u87 u38 n)) Z (P 2 Z ?_)
 refine H (O (aw ?_))
 cases h
 exact bW Z Z Z ⟨S,Z,a.e [0] Z Z⟩
end Go.Proofs
