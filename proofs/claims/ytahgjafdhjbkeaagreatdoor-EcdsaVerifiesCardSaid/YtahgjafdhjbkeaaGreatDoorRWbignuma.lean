import Derived.Test.YtahgjafdhjbkeaaGreatDoorRW0
import Derived.Test.YtahgjafdhjbkeaaGreatDoorGkFman
set_option linter.unusedVariables false
set_option linter.unusedSimpArgs false
set_option linter.unusedSectionVars false
set_option maxRecDepth 4000
namespace Go.Proofs
open Go Go.RowKit Go.Gk
open Go.Gk renaming aa → V, af → J, ag → N, e32 → X, gl3 → Q, gl4 → R, own → U, pB → O, vB → K, vI → H
open Go.Gk.OE renaming bx → Y
theorem dK {f:World} {a0:List UInt32} {a:Value} {S:List Nat} {r:List UInt32}
  (h:F.C6 a0=some r) (b:St S f f [U X a a0]):Calls Tryz.prog 150 #[a] f (Ret fun v w=>∃u0:Value,v=u0∧St S f w [U X u0 r]):=by
 refine aB 21 Tryz.func150 Z Z Z<|ax [(0,a)] Z ?_
 unfold F.C6 at h
 refine R<|V 1 Z<|gl2<|V 1 Z<|N (aC u30 Z (b.ro 0 Z)) Z<|V 1 Z<|gl1<|ar<|ax [(0,a),(3,H (a0.length:Int))] Z ?_
 refine aT (F.HE a0) (fun (s:Int) L w=>L=[(0,a),(3,H s)]∧St S f w [U X a a0]) ?_ (a0.length:Int) ⟨Z,b⟩ h
 rintro u d L w o p n h j
 try dsimp only at p
 obtain ⟨rfl,b⟩:=p
 unfold F.HE at h
 refine av ?_
 refine aZ (r:=o) (fun (g:Bool) L w=>L=[(0,a),(3,H d),(15,K g)]∧St S f w [U X a a0]) (F.HW a0 d) ?_ ?_
 rotate_left
 ·intro k
  refine al<|V 3 Z ?_
  cases c:(decide ((0:Int)<d))
  case true=>
   have h:=cH h c
   try simp only [c]
   exact V 3 Z<|J h fun m l h=>bE (t:=8) Z Z (bk u30 aN Z Z (b.ro 0 Z) l) Z<|bE (t:=8) Z Z (a8 u38 Z Z (b.ro 0 Z) l Z) Z<|bE (t:=8) Z Z (aj Z Z (jF _ m 0)) Z<|V 1 Z<|Q<|aH (k (m == 0) _ _ ⟨Z,b⟩ h) Z
  case false=>
   have h:=cI h c
   try simp only [c]
   exact V 7 Z<|Q<|aH (k false _ _ ⟨Z,b⟩ h) Z
 rintro x L w q h
 try dsimp only at q
 obtain ⟨rfl,b⟩:=q
 unfold F.HW at h
 refine gl9 Z h (fun h=>?_) (fun h=>?_)
 ·exact gl5<|ar<|al<|V 3 Z<|aE<|aF<|bf (bd (n (wI (d - 1)) _ _ ⟨Z,b⟩ (aL h j)) Z)
 refine aQ<|au<|au<|have h:=aI h j;aR<|ak<|R<|V 2 Z<|da h fun e h=>N (jy u30 aN Z Z (b.ro 0 Z) (iB e)) Z<|V 1 Z<|Q<|az ?_
 cases h
 replace b:=b.trunc (i:=0) rfl e.2
 exact ay Z Z ⟨slV a X.sz 0 ((d:Int).toNat),Z,b.d [0] Z Z⟩
theorem eO {d:World} (a0:UInt64) {r:List UInt32}
  (h:F.DE a0=some r) :Calls Tryz.prog 107 #[v64 a0] d (Ret fun v w=>St [] d w [U X v r]):=by
 refine aB 10 Tryz.func107 Z Z Z<|have a:=St.k d;ax [(0,v64 a0)] Z ?_
 unfold F.DE at h
 refine R<|V 1 Z<|gl2<|V 1 Z<|N (aD Z (ca u119 u38 a0)) Z<|V 1 Z<|N (aj Z Z (cc _ a0 32)) Z<|N (aD Z (ca u119 u38 (aM a0 32))) Z<|bG (cp (e:=X) (l:=([a0.toUInt32,(aM a0 32).toUInt32]:List UInt32)) (vs:=[v32 a0.toUInt32,v32 ((aM a0 32).toUInt32)]) u30 aN Z Z Z Z (by decide) (by decide) a) Z fun g w a=>have i:=a.pick (os':=[U X g ([a0.toUInt32,(aM a0 32).toUInt32]:List UInt32)]++[]) [0] (by decide) Z;J h fun k f h=>aG Z (dK  f i.f ) Z ?_
 rintro m w ⟨j,b,c⟩
 rw [←b]at c
 have a:=i.g c
 refine V 1 Z<|Q<|az ?_
 cases h
 exact ay Z Z (a.d [0] Z Z)
theorem nj {l:World} {a0 a1:List UInt32} {c d:Value} {r:List UInt32}
  (h:F.Gu a0 a1=some r) (p:RP [] l X c a0) (k:RP [] l X d a1):Calls Tryz.prog 169 #[c,d] l (Ret fun v w=>St [] l w [U X v r]):=by
 refine aB 75 Tryz.func169 Z Z Z<|have a:=St.k l;ax [(0,c),(1,d)] Z ?_
 unfold F.Gu at h
 refine R<|V 1 Z<|gl1 ?_
 refine aZ (r:=r) (fun (g:Bool) L w=>L=[(0,c),(1,d),(16,K g)]∧St [] l w []) (F.Fd a0 a1) ?_ ?_
 rotate_left
 ·intro E
  refine al<|V 1 Z<|N (aC u30 Z (p.b a.fr)) Z<|V 2 Z ?_
  cases m:((a0.length:Int) == 0)
  case true=>
   have h:=cH h m
   try simp only [m]
   exact V 4 Z<|Q<|aH (E true _ _ ⟨Z,a⟩ h) Z
  case false=>
   have h:=cI h m
   try simp only [m]
   exact V 1 Z<|bE (t:=12) Z Z (aC u30 Z (k.b a.fr)) Z<|V 2 Z<|Q<|aH (E ((a1.length:Int) == 0) _ _ ⟨Z,a⟩ h) Z
 rintro bb L w hJ h
 try dsimp only at hJ
 obtain ⟨rfl,a⟩:=hJ
 unfold F.Fd at h
 refine gl9 Z h (fun h=>?_) (fun h=>?_)
 ·refine R<|V 1 Z<|gl8 ?_
  cases h
  exact ay Z Z ((a.nil X).d [0] Z Z)
 refine gl6<|V 1 Z<|N (aC u30 Z (p.b a.fr)) Z<|V 1 Z<|N (aC u30 Z (k.b a.fr)) Z<|V 1 Z<|J h fun aS aq h=>bG (dw (e:=X) u30 aN Z Z Z a aq) Z fun f w a=>V 1 Z<|gl1<|R<|V 1 Z<|Q<|ar<|ax [(0,c),(1,d),(5,f),(6,H 0)] Z ?_
 refine aT (F.EN a0 a1) (fun (s:Int×List UInt32) L w=>L=[(0,c),(1,d),(5,f),(6,H s.1)]∧St [] l w [U X f s.2]) ?_ (0,aS) ⟨Z,a⟩ h
 rintro aW ⟨x,ao⟩ L w aY G ab h S
 try dsimp only at G
 obtain ⟨rfl,a⟩:=G
 unfold F.EN at h
 refine av<|R<|V 2 Z<|N (aC u30 Z (p.b a.fr)) Z<|V 1 Z<|Q ?_
 refine gl9 Z h (fun h=>?_) (fun h=>?_)
 ·refine gl5<|av<|ar<|R<|V 1 Z<|gl1<|R<|V 1 Z<|Q<|ar<|ax [(0,c),(1,d),(5,f),(6,H x),(7,v64 0),(8,H 0)] Z ?_
  refine aT (F.EM a0 a1 x) (fun (s:UInt64×Int×List UInt32) L w=>L=[(0,c),(1,d),(5,f),(6,H x),(7,v64 s.1),(8,H s.2.1)]∧St [] l w [U X f s.2.2]) ?_ (0,0,ao) ⟨Z,a⟩ h
  rintro a2 ⟨q,aw,aA⟩ L w a3 G ac h y
  try dsimp only at G
  obtain ⟨rfl,a⟩:=G
  unfold F.EM at h
  refine av<|R<|V 2 Z<|N (aC u30 Z (k.b a.fr)) Z<|V 1 Z<|Q ?_
  refine gl9 Z h (fun h=>?_) (fun h=>?_)
  ·refine gl5<|av<|ar<|av<|aX (fun w'=>St [] l w' [U X f aA]) (fun _=>true) bR (fun _ _ _ hf=>hf.2) (fun _ _ hf=>hf) (by kernel_rfl)<|have a:=a.drew;show lxE _ _ _ _ _ _ _ [0,1,2,3,4,5,6,7,8,9,10,11,12,13,14,15,16,17,18,19,20,21] _ _ from an 3 Z a<|J h fun n z h=>ai a Z Z (fun w b=>bk u30 aN Z Z (p.b b.fr) z) Z<|ai a Z Z (fun w b=>a8 u38 Z Z (p.b b.fr) z Z) Z<|ai a Z Z (fun w b=>aD Z (bD u38 u119 n)) Z<|an 2 Z a<|J h fun o A h=>ai a Z Z (fun w b=>bk u30 aN Z Z (k.b b.fr) A) Z<|ai a Z Z (fun w b=>a8 u38 Z Z (k.b b.fr) A Z) Z<|ai a Z Z (fun w b=>aD Z (bD u38 u119 o)) Z<|ai a Z Z (fun w b=>aj Z Z (gx _ n.toUInt64 o.toUInt64)) Z<|an 4 Z a<|J h fun u B h=>ai a Z Z (fun w b=>bk u30 aN Z Z (b.ro 0 Z) B) Z<|ai a Z Z (fun w b=>a8 u38 Z Z (b.ro 0 Z) B Z) Z<|ai a Z Z (fun w b=>aD Z (bD u38 u119 u)) Z<|ai a Z Z (fun w b=>aj Z Z (bU _ (n.toUInt64*o.toUInt64) u.toUInt64)) Z<|ai a Z Z (fun w b=>aj Z Z (bU _ q ((n.toUInt64*o.toUInt64)+u.toUInt64))) Z ?_
   refine a7 h fun j ad h=>ai a Z Z (fun w b=>a9 (v:=v64 j) (by rw [←ad]; rfl)) Z<|bn a<|ak<|R<|V 5 Z<|N (aD Z (ca u119 u38 j)) Z<|J h fun a4 C h=>N (bk u30 aN Z Z (a.ro 0 Z) C) Z<|bl (bZ (t:=j.toUInt32) aN Z Z a (i:=0) Z C Z) fun w a=>a7 h fun aK ae h=>?_
   rw [ae]at a
   exact Q<|al<|V 1 Z<|N (aj Z Z (cc _ j 32)) Z<|V 1 Z<|aE<|aF<|ak<|al<|V 3 Z<|aE<|bf (bd (ac (aM j 32,wI (aw+1),aK) _ _ ⟨Z,a⟩ (aL h y)) Z)
  refine aQ<|au<|au<|have h:=aI h y;aR<|ak<|al<|V 3 Z<|N (aC u30 Z (k.b a.fr)) Z<|V 2 Z<|N (aD Z (ca u119 u38 q)) Z<|J h fun a5 D h=>N (bk u30 aN Z Z (a.ro 0 Z) D) Z<|bl (bZ (t:=q.toUInt32) aN Z Z a (i:=0) Z D Z) fun w a=>a7 h fun aO ah h=>?_
  rw [ah]at a
  exact aE<|aF<|ak<|al<|V 3 Z<|aE<|bf (bd (ab (wI (x+1),aO) _ _ ⟨Z,a⟩ (aL h S)) Z)
 refine aQ<|au<|au<|have h:=aI h S;aR<|ak<|R<|V 1 Z<|have hG:=a.pick (os':=[U X f ao]++[]) [0] (by decide) Z;J h fun a6 am h=>aG Z (dK  am hG.f ) Z ?_
 rintro ba w ⟨aV,T,ap⟩
 rw [←T]at ap
 have a:=hG.g ap
 refine V 1 Z<|Q<|az ?_
 cases h
 exact ay Z Z (a.d [0] Z Z)
theorem j8 {f:World} {a0 a1:List UInt32} {n o:Value} {r:List UInt32}
  (h:F.Fa a0 a1=some r) (C:RP [] f X n a0) (D:RP [] f X o a1):Calls Tryz.prog 105 #[n,o] f (Ret fun v w=>St [] f w [U X v r]):=by
 refine aB 58 Tryz.func105 Z Z Z<|have a:=St.k f;ax [(0,n),(1,o)] Z ?_
 unfold F.Fa at h
 refine R<|V 1 Z<|Q ?_
 refine aZ (r:=r) (fun (g:List UInt32×List UInt32) L w=>∃(j:Value) (k:Value),L=[(0,j),(1,k)]∧RP [] f X j g.1∧RP [] f X k g.2∧St [] f w []) (F.Gb) ?_ ?_
 rotate_left
 ·intro E
  refine R<|V 1 Z<|N (aC u30 Z (C.b a.fr)) Z<|V 1 Z<|N (aC u30 Z (D.b a.fr)) Z<|V 1 Z<|Q ?_
  refine gl9 Z h (fun h=>?_) (fun h=>?_)
  ·exact al<|V 4 Z<|Q<|aH (E (a1,a0) _ _ ⟨o,n,Z,D,C,a⟩ h) Z
  exact gl5<|aH (E (a0,a1) _ _ ⟨n,o,Z,C,D,a⟩ h) Z
 rintro ⟨aA,aJ⟩ L w G h
 try dsimp only at G
 obtain ⟨j,k,rfl,c,p,a⟩:=G
 unfold F.Gb at h
 refine R<|V 1 Z<|N (aC u30 Z (c.b a.fr)) Z<|V 1 Z<|J h fun aK ao h=>bG (dw (e:=X) u30 aN Z Z Z a ao) Z fun b w a=>V 1 Z<|gl2<|V 1 Z<|gl1<|R<|V 1 Z<|Q<|ar<|ax [(0,j),(1,k),(5,b),(6,v64 0),(7,H 0)] Z ?_
 refine aT (F.Fc aA aJ) (fun (s:UInt64×Int×List UInt32) L w=>L=[(0,j),(1,k),(5,b),(6,v64 s.1),(7,H s.2.1)]∧St [] f w [U X b s.2.2]) ?_ (0,0,aK) ⟨Z,a⟩ h
 rintro aU ⟨d,q,S⟩ L w ap hI ad h u
 try dsimp only at hI
 obtain ⟨rfl,a⟩:=hI
 unfold F.Fc at h
 refine av<|R<|V 2 Z<|N (aC u30 Z (c.b a.fr)) Z<|V 1 Z<|Q ?_
 refine gl9 Z h (fun h=>?_) (fun h=>?_)
 ·refine gl5<|av<|ar<|R<|V 3 Z<|J h fun l x h=>N (bk u30 aN Z Z (c.b a.fr) x) Z<|N (a8 u38 Z Z (c.b a.fr) x Z) Z<|N (aD Z (bD u38 u119 l)) Z<|N (aj Z Z (bU _ d l.toUInt64)) Z<|V 1 Z<|Q ?_
  refine aZ (r:=ap) (fun (g:UInt64) L w=>L=[(0,j),(1,k),(5,b),(6,v64 g),(7,H q)]∧St [] f w [U X b S]) (F.F6 q S) ?_ ?_
  rotate_left
  ·intro y
   refine R<|V 2 Z<|N (aC u30 Z (p.b a.fr)) Z<|V 1 Z<|Q ?_
   refine gl9 Z h (fun h=>?_) (fun h=>?_)
   ·exact al<|V 3 Z<|J h fun T z h=>N (bk u30 aN Z Z (p.b a.fr) z) Z<|N (a8 u38 Z Z (p.b a.fr) z Z) Z<|N (aD Z (bD u38 u119 T)) Z<|N (aj Z Z (bU _ (d+l.toUInt64) T.toUInt64)) Z<|a7 h fun ab ae h=>N (a9 (v:=v64 ab) (by rw [←ae]; rfl)) Z<|Q<|aH (y ab _ _ ⟨Z,a⟩ h) Z
   exact gl5<|aH (y (d+l.toUInt64) _ _ ⟨Z,a⟩ h) Z
  rintro m L w G h
  try dsimp only at G
  obtain ⟨rfl,a⟩:=G
  unfold F.F6 at h
  refine R<|V 3 Z<|N (aD Z (ca u119 u38 m)) Z<|J h fun aV A h=>N (bk u30 aN Z Z (a.ro 0 Z) A) Z<|bl (bZ (t:=m.toUInt32) aN Z Z a (i:=0) Z A Z) fun w a=>a7 h fun aq ah h=>?_
  rw [ah]at a
  exact Q<|al<|V 1 Z<|N (aj Z Z (cc _ m 32)) Z<|V 1 Z<|aE<|aF<|ak<|al<|V 3 Z<|aE<|bf (bd (ad (aM m 32,wI (q+1),aq) _ _ ⟨Z,a⟩ (aL h u)) Z)
 refine aQ<|au<|au<|have h:=aI h u;aR<|ak<|R<|V 2 Z<|N (aC u30 Z (c.b a.fr)) Z<|V 1 Z<|N (aD Z (ca u119 u38 d)) Z<|J h fun aW B h=>N (bk u30 aN Z Z (a.ro 0 Z) B) Z<|bl (bZ (t:=d.toUInt32) aN Z Z a (i:=0) Z B Z) fun w a=>a7 h fun aw ai h=>?_
 rw [ai]at a
 refine gl2<|V 1 Z<|have hG:=a.pick (os':=[U X b aw]++[]) [0] (by decide) Z;J h fun aX am h=>aG Z (dK  am hG.f ) Z ?_
 rintro aY w ⟨aS,ac,an⟩
 rw [←ac]at an
 have a:=hG.g an
 refine V 1 Z<|Q<|az ?_
 cases h
 exact ay Z Z (a.d [0] Z Z)
theorem bX {f:World} {j a2:List UInt32} {e b:Value} {c:Nat} {S:List Nat} (l a1:Bool) {r:Bool×List UInt32}
  (h:F.C7 l j a1 a2=some r) (a:St S f f [Y c [K l,e],U X e j,U X b a2]):Calls Tryz.prog 108 #[O c 0,K a1,b] f (Ret fun v w=>∃m:Value,v=O c 0∧St S f w [Y c [K r.1,m],U X m r.2]):=by
 refine aB 21 Tryz.func108 Z Z Z<|ax [(0,O c 0),(1,K a1),(2,b)] Z ?_
 unfold F.C7 at h
 refine R<|V 1 Z<|gl2<|V 2 Z<|N (aK Z) Z<|N (ao (k:=1) u65 Z Z dP Z) Z<|bl (bq (i:=0) (us:=[b]) Z CN Z Z (cz (a.ro 2 Z).one) ⟨(a.ro 2 Z).one,I⟩ Z a) fun w a=>Q ?_
 refine aZ (r:=r) (fun (g:Bool) L w=>L=[(0,O c 0)]∧St S f w [Y c [K g,b],U X b a2]) (F.Ho a2) ?_ ?_
 rotate_left
 ·intro n
  refine al<|V 3 Z ?_
  cases d:a1
  case true=>
   have h:=cH h d
   try simp only [d]
   exact V 1 Z<|bE (t:=13) Z Z (aC u30 Z (a.ro 2 Z)) Z<|V 2 Z<|N (aK Z) Z<|N (ao (k:=0) u65 Z Z nz4 Z) Z<|bl (bq (i:=0) (us:=[K (decide ((0:Int)<(a2.length:Int)))]) Z sz4 Z Z Z ⟨Z,I⟩ Z a) fun w a=>Q<|aH (n (decide ((0:Int)<(a2.length:Int))) _ _ ⟨Z,(a.d [0,2] Z Z)⟩ h) Z
  case false=>
   have h:=cI h d
   try simp only [d]
   exact V 4 Z<|N (aK Z) Z<|N (ao (k:=0) u65 Z Z nz4 Z) Z<|bl (bq (i:=0) (us:=[K false]) Z sz4 Z Z Z ⟨Z,I⟩ Z a) fun w a=>Q<|aH (n false _ _ ⟨Z,(a.d [0,2] Z Z)⟩ h) Z
 rintro p L w o h
 try dsimp only at o
 obtain ⟨rfl,a⟩:=o
 unfold F.Ho at h
 refine R<|V 2 Z<|Q<|az ?_
 cases h
 exact ay Z Z ⟨b,Z,a.d [0,1] Z Z⟩
theorem kH {u:World} {d:List UInt32} {a:Value} {e:Nat} {S:List Nat} (c:Bool) (a1:List UInt8) (a2:Int) {r:Bool×Bool×List UInt32}
  (h:F.Hs c d a1 a2=some r) (b:St S u u [Y e [K c,a],U X a d]):Calls Tryz.prog 168 #[O e 0,vS a1,H a2] u (Ret fun v w=>∃aA:Value,v=.tuple #[O e 0,K r.1]∧St S u w [Y e [K r.2.1,aA],U X aA r.2.2]):=by
 refine aB 124 Tryz.func168 Z Z Z<|ax [(0,O e 0),(1,vS a1),(2,H a2)] Z ?_
 unfold F.Hs at h
 refine R<|V 2 Z<|gl2<|V 1 Z<|Q ?_
 refine aZ (r:=r) (fun (g:List UInt8×Bool) L w=>L=[(0,O e 0),(1,vS g.1),(2,H a2),(8,K g.2)]∧St S u w [Y e [K c,a],U X a d]) (F.Ic a2 c d) ?_ ?_
 rotate_left
 ·intro ai
  refine aZ (r:=r) (fun (g:Bool) L w=>L=[(0,O e 0),(1,vS a1),(2,H a2),(8,K false),(25,K g)]∧St S u w [Y e [K c,a],U X a d]) (F.G0 a1 a2 c d) ?_ ?_
  rotate_left
  ·intro ah
   refine al<|V 1 Z<|N (j7 Tryz.underlying9 Z) Z<|V 2 Z ?_
   cases T:(decide ((0:Int)<(a1.length:Int)))
   case true=>
    have h:=cH h T
    try simp only [T]
    refine V 1 Z<|J h fun be bi h=>bE (t:=16) Z Z (kw Tryz.underlying9 Z Z bi) Z<|bE (t:=16) Z Z (aj Z Z (gD _ be 45)) Z<|V 1 Z ?_
    cases ab:(be == 45)
    case true=>
     have h:=cH h ab
     try simp only [ab]
     exact V 5 Z<|Q<|aH (ah true _ _ ⟨Z,b⟩ h) Z
    case false=>
     have h:=cI h ab
     try simp only [ab]
     exact V 1 Z<|J h fun bg bj h=>bE (t:=20) Z Z (kw Tryz.underlying9 Z Z bj) Z<|bE (t:=20) Z Z (aj Z Z (gD _ bg 43)) Z<|V 2 Z<|Q<|aH (ah (bg == 43) _ _ ⟨Z,b⟩ h) Z
   case false=>
    have h:=cI h T
    try simp only [T]
    exact V 9 Z<|Q<|aH (ah false _ _ ⟨Z,b⟩ h) Z
  rintro bN L w j h
  try dsimp only at j
  obtain ⟨rfl,b⟩:=j
  unfold F.G0 at h
  refine gl9 Z h (fun h=>?_) (fun h=>?_)
  ·exact R<|V 1 Z<|J h fun bh bk h=>N (kw Tryz.underlying9 Z Z bk) Z<|N (aj Z Z (gD _ bh 45)) Z<|V 1 Z<|Q<|al<|V 1 Z<|J h fun bl aP h=>N (xE Tryz.underlying9 Z Z aP) Z<|V 1 Z<|Q<|aH (ai (bl,bh == 45) _ _ ⟨Z,b⟩ h) Z
  exact gl5<|aH (ai (a1,false) _ _ ⟨Z,b⟩ h) Z
 rintro ⟨m,i⟩ L w j h
 try dsimp only at j
 obtain ⟨rfl,b⟩:=j
 unfold F.Ic at h
 refine aZ (r:=r) (fun (g:List UInt8×Int) L w=>L=[(0,O e 0),(1,vS g.1),(2,H g.2),(8,K i)]∧St S u w [Y e [K c,a],U X a d]) (F.ET c d i) ?_ ?_
 rotate_left
 ·intro x
  refine R<|V 2 Z<|Q ?_
  refine gl9 Z h (fun h=>?_) (fun h=>?_)
  ·refine R<|V 1 Z<|Q ?_
   refine aZ (r:=r) (fun (g:Bool) L w=>L=[(0,O e 0),(1,vS m),(2,H 10),(8,K i),(40,K g)]∧St S u w [Y e [K c,a],U X a d]) (F.IR m c d i) ?_ ?_
   rotate_left
   ·intro am
    refine al<|V 1 Z<|N (j7 Tryz.underlying9 Z) Z<|V 2 Z ?_
    cases y:(decide ((2:Int)<(m.length:Int)))
    case true=>
     have h:=cH h y
     try simp only [y]
     exact V 1 Z<|J h fun aC aS h=>bE (t:=36) Z Z (kw Tryz.underlying9 Z Z aS) Z<|bE (t:=36) Z Z (aj Z Z (gD _ aC 48)) Z<|V 1 Z<|Q<|aH (am (aC == 48) _ _ ⟨Z,b⟩ h) Z
    case false=>
     have h:=cI h y
     try simp only [y]
     exact V 4 Z<|Q<|aH (am false _ _ ⟨Z,b⟩ h) Z
   rintro bt L w j h
   try dsimp only at j
   obtain ⟨rfl,b⟩:=j
   unfold F.IR at h
   refine gl9 Z h (fun h=>?_) (fun h=>?_)
   ·refine aZ (r:=r) (fun (g:Int) L w=>L=[(0,O e 0),(1,vS m),(2,H g),(8,K i)]∧St S u w [Y e [K c,a],U X a d]) (F.GI m c d i) ?_ ?_
    rotate_left
    ·intro z
     refine R<|V 1 Z<|J h fun l aV h=>N (kw Tryz.underlying9 Z Z aV) Z<|Q<|ar ?_
     refine aZ (r:=r) (fun (g:Bool) L w=>L=[(0,O e 0),(1,vS m),(2,H 10),(8,K i),(42,v8 l),(43,K g)]∧St S u w [Y e [K c,a],U X a d]) (F.IT l m c d i) ?_ ?_
     rotate_left
     ·intro an
      refine R<|N (aj Z Z (gD _ l 120)) Z<|V 1 Z<|Q ?_
      refine gl9 Z h (fun h=>?_) (fun h=>?_)
      ·exact gl5<|aH (an (l == 120) _ _ ⟨Z,b⟩ h) Z
      exact al<|N (aj Z Z (gD _ l 88)) Z<|V 1 Z<|Q<|aH (an (l == 88) _ _ ⟨Z,b⟩ h) Z
     rintro bu L w j h
     try dsimp only at j
     obtain ⟨rfl,b⟩:=j
     unfold F.IT at h
     refine gl9 Z h (fun h=>?_) (fun h=>?_)
     ·exact al<|V 1 Z<|aE<|aF<|ak<|aH (z 16 _ _ ⟨Z,b⟩ h) Z
     refine aZ (r:=r) (fun (g:Bool) L w=>L=[(0,O e 0),(1,vS m),(2,H 10),(8,K i),(42,v8 l),(46,K g)]∧St S u w [Y e [K c,a],U X a d]) (F.IH l m c d i) ?_ ?_
     rotate_left
     ·intro ao
      refine R<|N (aj Z Z (gD _ l 98)) Z<|V 1 Z<|Q ?_
      refine gl9 Z h (fun h=>?_) (fun h=>?_)
      ·exact gl5<|aH (ao (l == 98) _ _ ⟨Z,b⟩ h) Z
      exact al<|N (aj Z Z (gD _ l 66)) Z<|V 1 Z<|Q<|aH (ao (l == 66) _ _ ⟨Z,b⟩ h) Z
     rintro bv L w j h
     try dsimp only at j
     obtain ⟨rfl,b⟩:=j
     unfold F.IH at h
     refine gl9 Z h (fun h=>?_) (fun h=>?_)
     ·exact al<|V 1 Z<|aE<|aF<|ak<|aH (z 2 _ _ ⟨Z,b⟩ h) Z
     refine aZ (r:=r) (fun (g:Bool) L w=>L=[(0,O e 0),(1,vS m),(2,H 10),(8,K i),(49,K g)]∧St S u w [Y e [K c,a],U X a d]) (F.IO m c d i) ?_ ?_
     rotate_left
     ·intro ap
      refine R<|N (aj Z Z (gD _ l 111)) Z<|V 1 Z<|Q ?_
      refine gl9 Z h (fun h=>?_) (fun h=>?_)
      ·exact gl5<|aH (ap (l == 111) _ _ ⟨Z,b⟩ h) Z
      exact al<|N (aj Z Z (gD _ l 79)) Z<|V 1 Z<|Q<|aH (ap (l == 79) _ _ ⟨Z,b⟩ h) Z
     rintro bw L w j h
     try dsimp only at j
     obtain ⟨rfl,b⟩:=j
     unfold F.IO at h
     refine gl9 Z h (fun h=>?_) (fun h=>?_)
     ·exact al<|V 1 Z<|aE<|aF<|ak<|aH (z 8 _ _ ⟨Z,b⟩ h) Z
     exact cd<|aF<|ak<|aH (z 10 _ _ ⟨Z,b⟩ h) Z
    rintro aJ L w j h
    try dsimp only at j
    obtain ⟨rfl,b⟩:=j
    unfold F.GI at h
    refine R<|V 2 Z<|Q ?_
    refine gl9 Z h (fun h=>?_) (fun h=>?_)
    ·exact al<|V 1 Z<|J h fun bm aX h=>N (xE Tryz.underlying9 Z Z aX) Z<|V 1 Z<|Q<|aH (x (bm,aJ) _ _ ⟨Z,b⟩ h) Z
    exact gl5<|aH (x (m,aJ) _ _ ⟨Z,b⟩ h) Z
   exact gl5<|aH (x (m,10) _ _ ⟨Z,b⟩ h) Z
  exact gl5<|aH (x (m,a2) _ _ ⟨Z,b⟩ h) Z
 rintro ⟨o,k⟩ L w j h
 try dsimp only at j
 obtain ⟨rfl,b⟩:=j
 unfold F.ET at h
 refine av ?_
 refine aZ (r:=r) (fun (g:Bool) L w=>L=[(0,O e 0),(1,vS o),(2,H k),(8,K i),(66,K g)]∧St S u w [Y e [K c,a],U X a d]) (F.FL c d i o k) ?_ ?_
 rotate_left
 ·intro ac
  refine al<|V 1 Z<|N (j7 Tryz.underlying9 Z) Z<|V 2 Z ?_
  cases A:((o.length:Int) == 0)
  case true=>
   have h:=cH h A
   try simp only [A]
   exact V 7 Z<|Q<|aH (ac true _ _ ⟨Z,b⟩ h) Z
  case false=>
   have h:=cI h A
   try simp only [A]
   refine V 4 Z ?_
   cases B:(decide (k<2))
   case true=>
    have h:=cH h B
    try simp only [B]
    exact V 3 Z<|Q<|aH (ac true _ _ ⟨Z,b⟩ h) Z
   case false=>
    have h:=cI h B
    try simp only [B]
    exact V 3 Z<|Q<|aH (ac (decide ((36:Int)<k)) _ _ ⟨Z,b⟩ h) Z
 rintro bz L w j h
 try dsimp only at j
 obtain ⟨rfl,b⟩:=j
 unfold F.FL at h
 refine gl9 Z h (fun h=>?_) (fun h=>?_)
 ·refine R<|V 2 Z<|gl8 ?_
  cases h
 refine gl6<|V 1 Z<|gl1<|R<|V 1 Z<|Q<|ar<|ax [(0,O e 0),(1,vS o),(2,H k),(8,K i),(9,.slice none 0 0),(10,H 0)] Z ?_
 refine aT (F.ES c d i o k) (fun (s:List UInt32×Int) L w=>∃(n:Value),L=[(0,O e 0),(1,vS o),(2,H k),(8,K i),(9,n),(10,H s.2)]∧St S u w [U X n s.1,Y e [K c,a],U X a d]) ?_ ([],0) ⟨.slice none 0 0,Z,(b.nil X)⟩ h
 rintro bB ⟨p,q⟩ L w ad hI aY h ae
 try dsimp only at hI
 obtain ⟨n,rfl,b⟩:=hI
 unfold F.ES at h
 refine av<|R<|V 2 Z<|N (j7 Tryz.underlying9 Z) Z<|V 1 Z<|Q ?_
 refine gl9 Z h (fun h=>?_) (fun h=>?_)
 ·refine gl5<|av<|ar<|R<|V 1 Z<|Q ?_
  refine aZ (r:=ad) (fun (g:Int) L w=>L=[(0,O e 0),(1,vS o),(2,H k),(8,K i),(9,n),(10,H q),(11,H g)]∧St S u w [Y e [K c,a],U X a d,U X n p]) (F.D5 k p q) ?_ ?_
  rotate_left
  ·intro C
   refine R<|V 2 Z<|J h fun f a0 h=>N (kw Tryz.underlying9 Z Z a0) Z<|V 1 Z<|Q<|ar ?_
   refine aZ (r:=ad) (fun (g:Bool) L w=>L=[(0,O e 0),(1,vS o),(2,H k),(8,K i),(9,n),(10,H q),(11,H 99),(12,v8 f),(76,K g)]∧St S u w [Y e [K c,a],U X a d,U X n p]) (F.HZ f k p q) ?_ ?_
   rotate_left
   ·intro aq
    refine al<|V 1 Z<|N (aj Z Z (pI _ f 48)) Z<|V 1 Z ?_
    cases D:(decide ((48:UInt8)≤f))
    case true=>
     have h:=cH h D
     try simp only [D]
     exact V 1 Z<|bE (t:=79) Z Z (aj Z Z (td _ f 57)) Z<|V 2 Z<|Q<|aH (aq (decide (f≤57)) _ _ ⟨Z,(b.d [1,2,0] Z Z)⟩ h) Z
    case false=>
     have h:=cI h D
     try simp only [D]
     exact V 4 Z<|Q<|aH (aq false _ _ ⟨Z,(b.d [1,2,0] Z Z)⟩ h) Z
   rintro bC L w j h
   try dsimp only at j
   obtain ⟨rfl,b⟩:=j
   unfold F.HZ at h
   refine gl9 Z h (fun h=>?_) (fun h=>?_)
   ·exact al<|V 1 Z<|N (aj Z Z (nu _ f 48)) Z<|N (aD Z (pL Tryz.underlying5 u3 (f - 48))) Z<|a7 h fun aK a3 h=>N (a9 (v:=H aK) (by rw [←a3]; rfl)) Z<|aE<|aF<|ak<|aH (C aK _ _ ⟨Z,b⟩ h) Z
   refine aZ (r:=ad) (fun (g:Bool) L w=>L=[(0,O e 0),(1,vS o),(2,H k),(8,K i),(9,n),(10,H q),(11,H 99),(12,v8 f),(86,K g)]∧St S u w [Y e [K c,a],U X a d,U X n p]) (F.HI f k p q) ?_ ?_
   rotate_left
   ·intro aw
    refine al<|V 1 Z<|N (aj Z Z (pI _ f 97)) Z<|V 1 Z ?_
    cases E:(decide ((97:UInt8)≤f))
    case true=>
     have h:=cH h E
     try simp only [E]
     exact V 1 Z<|bE (t:=89) Z Z (aj Z Z (td _ f 122)) Z<|V 2 Z<|Q<|aH (aw (decide (f≤122)) _ _ ⟨Z,b⟩ h) Z
    case false=>
     have h:=cI h E
     try simp only [E]
     exact V 4 Z<|Q<|aH (aw false _ _ ⟨Z,b⟩ h) Z
   rintro bD L w j h
   try dsimp only at j
   obtain ⟨rfl,b⟩:=j
   unfold F.HI at h
   refine gl9 Z h (fun h=>?_) (fun h=>?_)
   ·exact al<|V 1 Z<|N (aj Z Z (nu _ f 97)) Z<|N (aD Z (pL Tryz.underlying5 u3 (f - 97))) Z<|V 1 Z<|a7 h fun aM a4 h=>N (a9 (v:=H aM) (by rw [←a4]; rfl)) Z<|aE<|aF<|ak<|aH (C aM _ _ ⟨Z,b⟩ h) Z
   refine aZ (r:=ad) (fun (g:Bool) L w=>L=[(0,O e 0),(1,vS o),(2,H k),(8,K i),(9,n),(10,H q),(11,H 99),(12,v8 f),(97,K g)]∧St S u w [Y e [K c,a],U X a d,U X n p]) (F.IK f k p q) ?_ ?_
   rotate_left
   ·intro ay
    refine al<|V 1 Z<|N (aj Z Z (pI _ f 65)) Z<|V 1 Z ?_
    cases G:(decide ((65:UInt8)≤f))
    case true=>
     have h:=cH h G
     try simp only [G]
     exact V 1 Z<|bE (t:=100) Z Z (aj Z Z (td _ f 90)) Z<|V 2 Z<|Q<|aH (ay (decide (f≤90)) _ _ ⟨Z,b⟩ h) Z
    case false=>
     have h:=cI h G
     try simp only [G]
     exact V 4 Z<|Q<|aH (ay false _ _ ⟨Z,b⟩ h) Z
   rintro bF L w j h
   try dsimp only at j
   obtain ⟨rfl,b⟩:=j
   unfold F.IK at h
   refine gl9 Z h (fun h=>?_) (fun h=>?_)
   ·exact al<|V 1 Z<|N (aj Z Z (nu _ f 65)) Z<|N (aD Z (pL Tryz.underlying5 u3 (f - 65))) Z<|V 1 Z<|a7 h fun aN a5 h=>N (a9 (v:=H aN) (by rw [←a5]; rfl)) Z<|aE<|aF<|ak<|aH (C aN _ _ ⟨Z,b⟩ h) Z
   exact cd<|aF<|ak<|aH (C 99 _ _ ⟨Z,b⟩ h) Z
  rintro aO L w j h
  try dsimp only at j
  obtain ⟨rfl,b⟩:=j
  unfold F.D5 at h
  refine av<|R<|V 3 Z<|Q ?_
  refine gl9 Z h (fun h=>?_) (fun h=>?_)
  ·refine R<|V 2 Z<|gl8<|bA<|aW<|aW<|have h:=aI h ae;bA<|aW ?_
   cases h
  exact gl5<|al<|V 2 Z<|N (aD Z (dy u3 u119 k)) Z<|J h fun bG a6 h=>aU b Z (eO (UInt64.ofInt k) a6 ) Z fun bH w b=>J h fun bI a8 h=>aU b Z (nj  a8 (b.ro 3 Z).rp (b.ro 0 Z).rp) Z fun bJ w b=>V 1 Z<|N (aD Z (dy u3 u119 aO)) Z<|J h fun bK ba h=>aU b Z (eO (UInt64.ofInt aO) ba ) Z fun bL w b=>J h fun bn bb h=>aU b Z (j8  bb (b.ro 1 Z).rp (b.ro 0 Z).rp) Z fun bo w b=>V 1 Z<|aE<|aF<|ak<|al<|V 3 Z<|aE<|bf (bd (aY (bn,wI (q+1)) _ _ ⟨bo,Z,(b.d [0,4,5] Z Z)⟩ (aL h ae)) Z)
 refine aQ<|au<|au<|have h:=aI h ae;aR<|ak<|R<|V 3 Z<|have hG:=b.pick (os':=[Y e [K c,a],U X a d,U X n p]++[]) [1,2,0] (by decide) Z;J h fun bM bc h=>aG Z (bX c i bc hG.f ) Z ?_
 rintro _ w ⟨bp,rfl,bs⟩
 have b:=hG.g bs
 refine V 2 Z<|Q<|az ?_
 cases h
 exact cf Z Z Z ⟨bp,Z,b.d [0,1] Z Z⟩
theorem jj {o:World} {a0:List UInt32} {c:Value} (a1:UInt64) {r:List UInt32}
  (h:F.Fw a0 a1=some r) (d:RP [] o X c a0):Calls Tryz.prog 106 #[c,v64 a1] o (Ret fun v w=>St [] o w [U X v r]):=by
 refine aB 61 Tryz.func106 Z Z Z<|have a:=St.k o;ax [(0,c),(1,v64 a1)] Z ?_
 unfold F.Fw at h
 refine R<|V 1 Z<|gl1<|R<|V 1 Z<|N (aC u30 Z (d.b a.fr)) Z<|V 1 Z<|Q ?_
 refine gl9 Z h (fun h=>?_) (fun h=>?_)
 ·refine R<|V 1 Z<|gl8 ?_
  cases h
  exact ay Z Z ((a.nil X).d [0] Z Z)
 refine gl6<|V 1 Z<|N (aj Z Z (iL _ a1 32 (by decide))) Z<|N (aD Z (nD u87 u3 (a1 / 32))) Z<|V 1 Z<|N (aj Z Z (fx _ a1 32 (by decide))) Z<|a7 h fun f E h=>N (a9 (v:=H f) (by rw [←E]; rfl)) Z<|V 1 Z<|gl2<|V 1 Z<|N (aC u30 Z (d.b a.fr)) Z<|V 3 Z<|J h fun ab G h=>bG (dw (e:=X) u30 aN Z Z Z a G) Z fun g w a=>V 1 Z<|gl1<|R<|V 1 Z<|Q<|ar<|ax [(0,c),(5,H f),(6,v64 (a1%32)),(7,g),(8,H 0)] Z ?_
 refine aT (F.FO a0 a1 f) (fun (s:Int×List UInt32) L w=>L=[(0,c),(5,H f),(6,v64 (a1%32)),(7,g),(8,H s.1)]∧St [] o w [U X g s.2]) ?_ (0,ab) ⟨Z,a⟩ h
 rintro am ⟨ac,ad⟩ L w aA hI S h p
 try dsimp only at hI
 obtain ⟨rfl,a⟩:=hI
 unfold F.FO at h
 refine av<|R<|V 2 Z<|N (aC u30 Z (d.b a.fr)) Z<|V 1 Z<|Q ?_
 refine gl9 Z h (fun h=>?_) (fun h=>?_)
 ·refine gl5<|av<|ar<|R<|V 2 Z<|J h fun q j h=>N (bk u30 aN Z Z (d.b a.fr) j) Z<|N (a8 u38 Z Z (d.b a.fr) j Z) Z<|N (aD Z (bD u38 u119 q)) Z<|V 1 Z<|N (aj Z Z (dr _ q.toUInt64 (a1%32))) Z<|a7 h fun b z h=>N (a9 (v:=v64 b) (by rw [←z]; rfl)) Z<|gl2<|V 4 Z<|J h fun u k h=>N (bk u30 aN Z Z (a.ro 0 Z) k) Z<|N (a8 u38 Z Z (a.ro 0 Z) k Z) Z<|V 1 Z<|N (aD Z (ca u119 u38 b)) Z<|N (aj Z Z (eo _ u b.toUInt32)) Z<|J h fun an l h=>N (bk u30 aN Z Z (a.ro 0 Z) l) Z<|bl (bZ (t:=(u ||| b.toUInt32)) aN Z Z a (i:=0) Z l Z) fun w a=>a7 h fun ao A h=>?_
  rw [A]at a
  refine Q<|al<|V 5 Z<|J h fun x m h=>N (bk u30 aN Z Z (a.ro 0 Z) m) Z<|N (a8 u38 Z Z (a.ro 0 Z) m Z) Z<|V 1 Z<|N (aj Z Z (cc _ b 32)) Z<|N (aD Z (ca u119 u38 (aM b 32))) Z<|N (aj Z Z (eo _ x ((aM b 32).toUInt32))) Z<|J h fun ap n h=>N (bk u30 aN Z Z (a.ro 0 Z) n) Z<|bl (bZ (t:=(x ||| ((aM b 32).toUInt32))) aN Z Z a (i:=0) Z n Z) fun w a=>a7 h fun T B h=>?_
  rw [B]at a
  exact aE<|aF<|ak<|al<|V 3 Z<|aE<|bf (bd (S (wI (ac+1),T) _ _ ⟨Z,a⟩ (aL h p)) Z)
 refine aQ<|au<|au<|have h:=aI h p;aR<|ak<|R<|V 1 Z<|have hG:=a.pick (os':=[U X g ad]++[]) [0] (by decide) Z;J h fun aq C h=>aG Z (dK  C hG.f ) Z ?_
 rintro aw w ⟨ai,y,D⟩
 rw [←y]at D
 have a:=hG.g D
 refine V 1 Z<|Q<|az ?_
 cases h
 exact ay Z Z (a.d [0] Z Z)
theorem fJ {k:World} {e:List UInt32} {a1:List UInt8} {b g:Value} {c:Nat} {S:List Nat} (d:Bool) {r:Bool×List UInt32}
  (h:F.EF d e a1=some r) (a:St S k k [Y c [K d,b],U X b e]) (m:RP S k e8 g a1):Calls Tryz.prog 47 #[O c 0,g] k (Ret fun v w=>∃n:Value,v=O c 0∧St S k w [Y c [K r.1,n],U X n r.2]):=by
 refine aB 25 Tryz.func47 Z Z Z<|ax [(0,O c 0),(1,g)] Z ?_
 unfold F.EF at h
 refine R<|V 1 Z<|gl2<|V 1 Z<|gl1<|R<|V 1 Z<|Q<|ar<|ax [(0,O c 0),(1,g),(5,.slice none 0 0),(6,H 0)] Z ?_
 refine aT (F.Gf d e a1) (fun (s:List UInt32×Int) L w=>∃(j:Value),L=[(0,O c 0),(1,g),(5,j),(6,H s.2)]∧St S k w [U X j s.1,Y c [K d,b],U X b e]) ?_ ([],0) ⟨.slice none 0 0,Z,(a.nil X)⟩ h
 rintro ac ⟨z,G⟩ L w ao T A h o
 try dsimp only at T
 obtain ⟨j,rfl,a⟩:=T
 unfold F.Gf at h
 refine av<|R<|V 2 Z<|N (aC u24 Z (m.b a.fr)) Z<|V 1 Z<|Q ?_
 refine gl9 Z h (fun h=>?_) (fun h=>?_)
 ·exact gl5<|av<|ar<|aX (fun w'=>St S k w' [U X j z,Y c [K d,b],U X b e]) (fun i=>!([1,7,8].contains i)) bR (fun _ _ _ B=>B.2) (fun _ _ B=>B) (by kernel_rfl)<|have a:=a.drew;show lxE _ _ _ _ _ _ _ [0,1,2,3,4,5,6,7,8,9] _ _ from an 1 Z a<|J h fun ad q h=>bb a Z Z (by kernel_rfl) Z (jj 8 q (a.ro 0 Z).rp) Z fun ae w f=>have a:=a.e f;an 2 Z (a.d [1,2,3] Z Z)<|J h fun p l h=>ai (a.d [1,2,3] Z Z) Z Z (fun w t=>bk u24 ti5 Z Z (m.b t.fr) l) Z<|ai (a.d [1,2,3] Z Z) Z Z (fun w t=>a8 Tryz.underlying5 Z Z (m.b t.fr) l Z) Z<|ai (a.d [1,2,3] Z Z) Z Z (fun w t=>aD Z (qg Tryz.underlying5 u119 p)) Z<|J h fun ah u h=>bb (a.d [1,2,3] Z Z) Z Z (by kernel_rfl) Z (eO p.toUInt64 u ) Z fun aj w f=>have a:=a.e f;J h fun C x h=>bb (a.d [2,3,4] Z Z) Z Z (by kernel_rfl) Z (j8  x (a.ro 1 Z).rp (a.ro 0 Z).rp) Z fun D w f=>have a:=a.e f;an 1 Z (a.d [3,4,5] Z Z)<|bn (a.d [3,4,5] Z Z)<|aF<|ak<|al<|V 3 Z<|aE<|bf (bd (A (C,wI (G+1)) _ _ ⟨D,Z,(a.d [0,4,5] Z Z)⟩ (aL h o)) Z)
 refine aQ<|au<|au<|have h:=aI h o;aR<|ak<|R<|V 2 Z<|have hG:=a.pick (os':=[Y c [K d,b],U X b e,U X j z]++[]) [1,2,0] (by decide) Z;J h fun am y h=>aG Z (bX d false y hG.f ) Z ?_
 rintro _ w ⟨E,rfl,f⟩
 have a:=hG.g f
 refine V 1 Z<|Q<|az ?_
 cases h
 exact ay Z Z ⟨E,Z,a.d [0,1] Z Z⟩
theorem gU {e:World} {l o p:List UInt32} {c m n:Value} {d q s:Nat} {S:List Nat} (f g j:Bool) {r:Bool×List UInt32}
  (h:F.EP f l g o j p=some r) (a:St S e e [Y d [K f,c],U X c l]) (x:RP S e X m o) (hBa1:RB S e q [K g,m]) (y:RP S e X n p) (hBa2:RB S e s [K j,n]):Calls Tryz.prog 145 #[O d 0,O q 0,O s 0] e (Ret fun v w=>∃t:Value,v=O d 0∧St S e w [Y d [K r.1,t],U X t r.2]):=by
 refine aB 27 Tryz.func145 Z Z Z<|ax [(0,O d 0),(1,O q 0),(2,O s 0)] Z ?_
 unfold F.EP at h
 refine R<|V 1 Z<|gl1<|have hsh1:=(a.ro 1 Z).shp;aX (fun w'=>St S e w' []) (fun i=>!([18,19].contains i)) bR (fun _ _ _ z=>z.2) (fun _ _ z=>z) (by kernel_rfl)<|have a:=a.drew;show lxE _ _ _ _ _ _ _ [0,1,2,3,4,5,6,7,8,9,10,11,12,13,14,15,16,17,18,19,20] _ _ from an 2 Z (a.d [] Z Z)<|ai (a.d [] Z Z) Z Z (fun w b=>aK Z) Z<|ai (a.d [] Z Z) Z Z (fun w b=>ao (k:=0) u65 Z Z nz4 Z) Z<|ai (a.d [] Z Z) Z Z (fun w b=>aw Tryz.underlying4 Z Z (hBa1.cell b.fr 0 Z)) Z<|an 1 Z (a.d [] Z Z)<|ai (a.d [] Z Z) Z Z (fun w b=>aK Z) Z<|ai (a.d [] Z Z) Z Z (fun w b=>ao (k:=0) u65 Z Z nz4 Z) Z<|ai (a.d [] Z Z) Z Z (fun w b=>aw Tryz.underlying4 Z Z (hBa2.cell b.fr 0 Z)) Z<|ai (a.d [] Z Z) Z Z (fun w b=>aj Z Z (nv _ g j Tryz.underlying4 Z)) Z<|an 1 Z (a.d [] Z Z)<|ai (a.d [] Z Z) Z Z (fun w b=>aK Z) Z<|ai (a.d [] Z Z) Z Z (fun w b=>ao (k:=1) u65 Z Z dP Z) Z<|ai (a.d [] Z Z) Z Z (fun w b=>aw u30 Z Z (hBa1.cell b.fr 1 Z)) Z<|an 1 Z (a.d [] Z Z)<|ai (a.d [] Z Z) Z Z (fun w b=>aK Z) Z<|ai (a.d [] Z Z) Z Z (fun w b=>ao (k:=1) u65 Z Z dP Z) Z ?_
 refine ai (a.d [] Z Z) Z Z (fun w b=>aw u30 Z Z (hBa2.cell b.fr 1 Z)) Z<|J h fun C A h=>bb (a.d [] Z Z) Z Z (by kernel_rfl) Z (nj  A (x.b a.fr).rp (y.b a.fr).rp) Z fun D w u=>have a:=a.e u;have E:=a.pick (os':=[Y d [K f,c],U X c l,U X D C]++[]) [1,2,0] (by decide) Z;J h fun L B h=>bb (a.d [] Z Z) Z Z (by kernel_rfl) Z (bX f (g != j) B E.f ) Z ?_
 rintro _ w ⟨G,rfl,u⟩
 have a:=E.g u
 refine an 1 Z (a.d [] Z Z)<|bn (a.d [] Z Z)<|ak<|az ?_
 cases h
 exact ay Z Z ⟨G,Z,a.d [0,1] Z Z⟩
theorem jn {b:World} {a0:List UInt32} {a:Value} {r:List UInt32}
  (h:F.Eo a0=some r) (e:RP [] b X a a0):Calls Tryz.prog 175 #[a] b (Ret fun v w=>St [] b w [U X v r]):=by
 refine aB 5 Tryz.func175 Z Z Z<|have c:=St.k b;ax [(0,a)] Z ?_
 unfold F.Eo at h
 refine R<|V 1 Z<|gl2<|V 1 Z<|J h fun f d h=>bG (jb u30 aN Z Z Z c (e.b c.fr) d) Z fun g w c=>V 1 Z<|Q<|az ?_
 cases h
 exact ay Z Z (c.d [0] Z Z)
theorem fT {e:World} {f m:List UInt32} {b l:Value} {c n:Nat} {S:List Nat} (d g:Bool) {r:Bool×List UInt32}
  (h:F.DY d f g m=some r) (a:St S e e [Y c [K d,b],U X b f]) (q:RP S e X l m) (hBa1:RB S e n [K g,l]):Calls Tryz.prog 179 #[O c 0,O n 0] e (Ret fun v w=>∃o:Value,v=O c 0∧St S e w [Y c [K r.1,o],U X o r.2]):=by
 refine aB 16 Tryz.func179 Z Z Z<|ax [(0,O c 0),(1,O n 0)] Z ?_
 unfold F.DY at h
 refine R<|V 1 Z<|gl1<|have hsh1:=(a.ro 1 Z).shp;aX (fun w'=>St S e w' []) (fun i=>!([9,10].contains i)) bR (fun _ _ _ s=>s.2) (fun _ _ s=>s) (by kernel_rfl)<|have a:=a.drew;show lxE _ _ _ _ _ _ _ [0,1,2,3,4,5,6,7,8,9,10,11] _ _ from an 2 Z (a.d [] Z Z)<|ai (a.d [] Z Z) Z Z (fun w j=>aK Z) Z<|ai (a.d [] Z Z) Z Z (fun w j=>ao (k:=0) u65 Z Z nz4 Z) Z<|ai (a.d [] Z Z) Z Z (fun w j=>aw Tryz.underlying4 Z Z (hBa1.cell j.fr 0 Z)) Z<|an 1 Z (a.d [] Z Z)<|ai (a.d [] Z Z) Z Z (fun w j=>aK Z) Z<|ai (a.d [] Z Z) Z Z (fun w j=>ao (k:=1) u65 Z Z dP Z) Z<|ai (a.d [] Z Z) Z Z (fun w j=>aw u30 Z Z (hBa1.cell j.fr 1 Z)) Z<|J h fun x t h=>bb (a.d [] Z Z) Z Z (by kernel_rfl) Z (jn  t (q.b a.fr).rp) Z fun y w p=>have a:=a.e p;have z:=a.pick (os':=[Y c [K d,b],U X b f,U X y x]++[]) [1,2,0] (by decide) Z;J h fun B u h=>bb (a.d [] Z Z) Z Z (by kernel_rfl) Z (bX d g u z.f ) Z ?_
 rintro _ w ⟨A,rfl,p⟩
 have a:=z.g p
 refine an 1 Z (a.d [] Z Z)<|bn (a.d [] Z Z)<|ak<|az ?_
 cases h
 exact ay Z Z ⟨A,Z,a.d [0,1] Z Z⟩
theorem j5 {f:World} {a0 a1:List UInt32} {g i:Value} {r:Int}
  (h:F.Ez a0 a1=some r) (c:RP [] f X g a0) (d:RP [] f X i a1):Calls Tryz.prog 149 #[g,i] f (Ret fun v w=>v=H r∧St [] f w []):=by
 refine aB 41 Tryz.func149 Z Z Z<|have a:=St.k f;ax [(0,g),(1,i)] Z ?_
 unfold F.Ez at h
 refine R<|V 1 Z<|gl1<|R<|V 1 Z<|N (aC u30 Z (c.b a.fr)) Z<|V 1 Z<|N (aC u30 Z (d.b a.fr)) Z<|V 1 Z<|Q ?_
 refine gl9 Z h (fun h=>?_) (fun h=>?_)
 ·refine av<|R<|V 1 Z<|N (aC u30 Z (c.b a.fr)) Z<|V 1 Z<|N (aC u30 Z (d.b a.fr)) Z<|V 1 Z<|Q ?_
  refine gl9 Z h (fun h=>?_) (fun h=>?_)
  ·refine R<|V 1 Z<|gl8<|aW ?_
   cases h
   exact ay Z Z ⟨Z,a⟩
  refine gl6<|V 1 Z<|gl8 ?_
  cases h
  exact ay Z Z ⟨Z,a⟩
 refine gl5<|av<|R<|V 1 Z<|N (aC u30 Z (c.b a.fr)) Z<|V 1 Z<|a7 h fun l p h=>N (a9 (v:=H l) (by rw [←p]; rfl)) Z<|Q<|ar<|ax [(0,g),(1,i),(5,H l)] Z ?_
 refine aT (F.En a0 a1) (fun (s:Int) L w=>L=[(0,g),(1,i),(5,H s)]∧St [] f w []) ?_ l ⟨Z,a⟩ h
 rintro B u L w C x q h e
 try dsimp only at x
 obtain ⟨rfl,a⟩:=x
 unfold F.En at h
 refine av<|R<|V 2 Z<|Q ?_
 refine gl9 Z h (fun h=>?_) (fun h=>?_)
 ·refine gl5<|av<|ar<|av<|aX (fun w'=>St [] f w' []) (fun _=>true) bR (fun _ _ _ j=>j.2) (fun _ _ j=>j) (by kernel_rfl)<|have a:=a.drew;show lxE _ _ _ _ _ _ _ [0,1,2,3,4,5,6,7,8] _ _ from an 2 Z a<|J h fun y m h=>ai a Z Z (fun w b=>bk u30 aN Z Z (c.b b.fr) m) Z<|ai a Z Z (fun w b=>a8 u38 Z Z (c.b b.fr) m Z) Z<|an 2 Z a<|J h fun z n h=>ai a Z Z (fun w b=>bk u30 aN Z Z (d.b b.fr) n) Z<|ai a Z Z (fun w b=>a8 u38 Z Z (d.b b.fr) n Z) Z<|ai a Z Z (fun w b=>aj Z Z (nO _ y z)) Z<|bn a<|ak ?_
  refine gl9 Z h (fun h=>?_) (fun h=>?_)
  ·refine av<|av<|aX (fun w'=>St [] f w' []) (fun _=>true) bR (fun _ _ _ j=>j.2) (fun _ _ j=>j) (by kernel_rfl)<|have a:=a.drew;show lxE _ _ _ _ _ _ _ [0,1,2,3,4,5,6,7,8] _ _ from an 2 Z a<|J h fun A o h=>ai a Z Z (fun w b=>bk u30 aN Z Z (c.b b.fr) o) Z<|ai a Z Z (fun w b=>a8 u38 Z Z (c.b b.fr) o Z) Z<|an 2 Z a<|J h fun t k h=>ai a Z Z (fun w b=>bk u30 aN Z Z (d.b b.fr) k) Z<|ai a Z Z (fun w b=>a8 u38 Z Z (d.b b.fr) k Z) Z<|ai a Z Z (fun w b=>aj Z Z (qe _ A t)) Z<|bn a<|ak ?_
   refine gl9 Z h (fun h=>?_) (fun h=>?_)
   ·refine R<|V 1 Z<|gl8<|bA<|aW<|aW<|have h:=aI h e;bA<|aW ?_
    cases h
    exact ay Z Z ⟨Z,a⟩
   refine gl6<|V 1 Z<|Q<|az<|bA<|aW<|aW<|have h:=aI h e;bA<|aW ?_
   cases h
   exact ay Z Z ⟨Z,a⟩
  exact cd<|aF<|ak<|al<|V 3 Z<|aE<|bf (bd (q (wI (u - 1)) _ _ ⟨Z,a⟩ (aL h e)) Z)
 refine aQ<|au<|au<|have h:=aI h e;aR<|ak<|R<|V 1 Z<|Q<|az ?_
 cases h
 exact ay Z Z ⟨Z,a⟩
theorem kM {d:World} {a0:List UInt32} {c:Value} {r:UInt64}
  (h:F.FJ a0=some r) (b:RP [] d X c a0):Calls Tryz.prog 184 #[c] d (Ret fun v w=>v=v64 r∧St [] d w []):=by
 refine aB 22 Tryz.func184 Z Z Z<|have a:=St.k d;ax [(0,c)] Z ?_
 unfold F.FJ at h
 refine R<|V 1 Z<|gl2<|V 1 Z<|Q ?_
 refine aZ (r:=r) (fun (g:UInt64) L w=>L=[(0,c),(3,v64 g)]∧St [] d w []) (F.II a0) ?_ ?_
 rotate_left
 ·intro e
  refine R<|V 1 Z<|N (aC u30 Z (b.b a.fr)) Z<|V 1 Z<|Q ?_
  refine gl9 Z h (fun h=>?_) (fun h=>?_)
  ·exact al<|V 1 Z<|J h fun m f h=>N (bk u30 aN Z Z (b.b a.fr) f) Z<|N (a8 u38 Z Z (b.b a.fr) f Z) Z<|N (aD Z (bD u38 u119 m)) Z<|V 1 Z<|Q<|aH (e m.toUInt64 _ _ ⟨Z,a⟩ h) Z
  exact gl5<|aH (e 0 _ _ ⟨Z,a⟩ h) Z
 rintro n L w i h
 try dsimp only at i
 obtain ⟨rfl,a⟩:=i
 unfold F.II at h
 refine aZ (r:=r) (fun (g:UInt64) L w=>L=[(3,v64 g)]∧St [] d w []) (F.IQ) ?_ ?_
 rotate_left
 ·intro j
  refine R<|V 1 Z<|N (aC u30 Z (b.b a.fr)) Z<|V 1 Z<|Q ?_
  refine gl9 Z h (fun h=>?_) (fun h=>?_)
  ·exact al<|V 2 Z<|J h fun k l h=>N (bk u30 aN Z Z (b.b a.fr) l) Z<|N (a8 u38 Z Z (b.b a.fr) l Z) Z<|N (aD Z (bD u38 u119 k)) Z<|N (aj Z Z (dr _ k.toUInt64 32)) Z<|N (aj Z Z (eX _ n (bB k.toUInt64 32))) Z<|a7 h fun o p h=>N (a9 (v:=v64 o) (by rw [←p]; rfl)) Z<|Q<|aH (j o _ _ ⟨Z,a⟩ h) Z
  exact gl5<|aH (j n _ _ ⟨Z,a⟩ h) Z
 rintro q L w i h
 try dsimp only at i
 obtain ⟨rfl,a⟩:=i
 unfold F.IQ at h
 refine R<|V 2 Z<|Q<|az ?_
 cases h
 exact ay Z Z ⟨Z,a⟩
theorem p7 {k:World} {a0:List UInt32} {c:Value} (a1:UInt32) {r:List UInt32×UInt32}
  (h:F.HP a0 a1=some r) (d:RP [] k X c a0):Calls Tryz.prog 185 #[c,v32 a1] k (Ret fun v w=>∃u0:Value,v=.tuple #[u0,v32 r.2]∧St [] k w [U X u0 r.1]):=by
 refine aB 43 Tryz.func185 Z Z Z<|have a:=St.k k;ax [(0,c),(1,v32 a1)] Z ?_
 unfold F.HP at h
 refine R<|V 2 Z<|gl2<|V 1 Z<|N (aC u30 Z (d.b a.fr)) Z<|J h fun S B h=>bG (dw (e:=X) u30 aN Z Z Z a B) Z fun f w a=>V 1 Z<|gl2<|V 1 Z<|gl1<|R<|V 1 Z<|N (aC u30 Z (d.b a.fr)) Z<|V 1 Z<|a7 h fun l C h=>N (a9 (v:=H l) (by rw [←C]; rfl)) Z<|Q<|ar<|ax [(0,c),(1,v32 a1),(6,f),(7,v64 0),(8,H l)] Z ?_
 refine aT (F.Fm a0 a1) (fun (s:UInt64×Int×List UInt32) L w=>L=[(0,c),(1,v32 a1),(6,f),(7,v64 s.1),(8,H s.2.1)]∧St [] k w [U X f s.2.2]) ?_ (0,l,S) ⟨Z,a⟩ h
 rintro ah ⟨m,T,ab⟩ L w ai hI D h n
 try dsimp only at hI
 obtain ⟨rfl,a⟩:=hI
 unfold F.Fm at h
 refine av<|R<|V 2 Z<|Q ?_
 refine gl9 Z h (fun h=>?_) (fun h=>?_)
 ·refine gl5<|av<|ar<|R<|V 1 Z<|N (aj Z Z (dr _ m 32)) Z<|V 2 Z<|J h fun o g h=>N (bk u30 aN Z Z (d.b a.fr) g) Z<|N (a8 u38 Z Z (d.b a.fr) g Z) Z<|N (aD Z (bD u38 u119 o)) Z<|N (aj Z Z (eX _ (bB m 32) o.toUInt64)) Z<|a7 h fun b q h=>N (a9 (v:=v64 b) (by rw [←q]; rfl)) Z<|gl2<|V 4 Z<|N (aD Z (bD u38 u119 a1)) Z<|da h fun u h=>N (aj Z Z (iL _ b a1.toUInt64 u)) Z<|N (aD Z (ca u119 u38 (b / a1.toUInt64))) Z<|J h fun am j h=>N (bk u30 aN Z Z (a.ro 0 Z) j) Z<|bl (bZ (t:=((b / a1.toUInt64).toUInt32)) aN Z Z a (i:=0) Z j Z) fun w a=>a7 h fun E x h=>?_
  rw [x]at a
  exact Q<|al<|V 2 Z<|N (aD Z (bD u38 u119 a1)) Z<|da h fun y h=>N (aj Z Z (fx _ b a1.toUInt64 y)) Z<|V 1 Z<|aE<|aF<|ak<|al<|V 3 Z<|aE<|bf (bd (D (b%a1.toUInt64,wI (T - 1),E) _ _ ⟨Z,a⟩ (aL h n)) Z)
 refine aQ<|au<|au<|have h:=aI h n;aR<|ak<|R<|V 1 Z<|have hG:=a.pick (os':=[U X f ab]++[]) [0] (by decide) Z;J h fun an z h=>aG Z (dK  z hG.f ) Z ?_
 rintro G w ⟨ae,p,A⟩
 rw [←p]at A
 have a:=hG.g A
 refine V 1 Z<|N (aD Z (ca u119 u38 m)) Z<|V 2 Z<|Q<|az ?_
 cases h
 exact cf Z Z Z ⟨G,Z,a.d [0] Z Z⟩
theorem iA {d:World} {a0:List UInt32} {b:Value} {r:Int}
  (h:F.Fu a0=some r) (c:RP [] d X b a0):Calls Tryz.prog 123 #[b] d (Ret fun v w=>v=H r∧St [] d w []):=by
 refine aB 26 Tryz.func123 Z Z Z<|have a:=St.k d;ax [(0,b)] Z ?_
 unfold F.Fu at h
 refine R<|V 1 Z<|gl1<|R<|V 1 Z<|N (aC u30 Z (c.b a.fr)) Z<|V 1 Z<|Q ?_
 refine gl9 Z h (fun h=>?_) (fun h=>?_)
 ·refine R<|V 1 Z<|gl8 ?_
  cases h
  exact ay Z Z ⟨Z,a⟩
 refine gl6<|V 1 Z<|gl1<|R<|V 2 Z<|N (aC u30 Z (c.b a.fr)) Z<|V 1 Z<|J h fun i e h=>N (bk u30 aN Z Z (c.b a.fr) e) Z<|N (a8 u38 Z Z (c.b a.fr) e Z) Z<|V 1 Z<|Q<|ar<|ax [(0,b),(3,H 0),(4,v32 i)] Z ?_
 refine aT (F.EQ a0) (fun (s:Int×UInt32) L w=>L=[(0,b),(3,H s.1),(4,v32 s.2)]∧St [] d w []) ?_ (0,i) ⟨Z,a⟩ h
 rintro m ⟨k,f⟩ L w n l j h g
 try dsimp only at l
 obtain ⟨rfl,a⟩:=l
 unfold F.EQ at h
 refine av<|R<|V 1 Z<|N (aj Z Z (nO _ f 0)) Z<|Q ?_
 refine gl9 Z h (fun h=>?_) (fun h=>?_)
 ·exact gl5<|av<|ar<|al<|V 3 Z<|aE<|aF<|ak<|al<|V 1 Z<|N (aj Z Z (cL _ f 1)) Z<|V 1 Z<|aE<|bf (bd (j (wI (k+1),bu f 1) _ _ ⟨Z,a⟩ (aL h g)) Z)
 refine aQ<|au<|au<|have h:=aI h g;aR<|ak<|R<|V 1 Z<|N (aC u30 Z (c.b a.fr)) Z<|V 1 Z<|N (aj Z Z (dR _ (wI ((a0.length:Int) - 1)) 32)) Z<|V 3 Z<|Q<|az ?_
 cases h
 exact ay Z Z ⟨Z,a⟩
theorem qa {q:World} {a0:List UInt32} {c:Value} (a1:UInt64) {r:List UInt32}
  (h:F.Io a0 a1=some r) (b:RP [] q X c a0):Calls Tryz.prog 186 #[c,v64 a1] q (Ret fun v w=>St [] q w [U X v r]):=by
 refine aB 64 Tryz.func186 Z Z Z<|have a:=St.k q;ax [(0,c),(1,v64 a1)] Z ?_
 unfold F.Io at h
 refine R<|V 1 Z<|gl2<|V 1 Z<|N (aj Z Z (iL _ a1 32 (by decide))) Z<|N (aD Z (nD u87 u3 (a1 / 32))) Z<|V 1 Z<|N (aj Z Z (fx _ a1 32 (by decide))) Z<|a7 h fun f G h=>N (a9 (v:=H f) (by rw [←G]; rfl)) Z<|V 1 Z<|gl1<|R<|V 2 Z<|N (aC u30 Z (b.b a.fr)) Z<|V 1 Z<|Q ?_
 refine gl9 Z h (fun h=>?_) (fun h=>?_)
 ·refine R<|V 1 Z<|gl8 ?_
  cases h
  exact ay Z Z ((a.nil X).d [0] Z Z)
 refine gl6<|V 1 Z<|N (aC u30 Z (b.b a.fr)) Z<|V 2 Z<|J h fun ac S h=>bG (dw (e:=X) u30 aN Z Z Z a S) Z fun d w a=>V 1 Z<|gl1<|R<|V 1 Z<|Q<|ar<|ax [(0,c),(5,H f),(6,v64 (a1%32)),(7,d),(8,H 0)] Z ?_
 refine aT (F.FW a0 f a1) (fun (s:Int×List UInt32) L w=>L=[(0,c),(5,H f),(6,v64 (a1%32)),(7,d),(8,H s.1)]∧St [] q w [U X d s.2]) ?_ (0,ac) ⟨Z,a⟩ h
 rintro an ⟨u,x⟩ L w ad hI T h y
 try dsimp only at hI
 obtain ⟨rfl,a⟩:=hI
 unfold F.FW at h
 refine av<|R<|V 2 Z<|N (aC u30 Z (a.ro 0 Z)) Z<|V 1 Z<|Q ?_
 refine gl9 Z h (fun h=>?_) (fun h=>?_)
 ·refine gl5<|av<|ar<|R<|V 4 Z<|J h fun j m h=>N (bk u30 aN Z Z (b.b a.fr) m) Z<|N (a8 u38 Z Z (b.b a.fr) m Z) Z<|N (aD Z (bD u38 u119 j)) Z<|V 1 Z<|Q ?_
  refine aZ (r:=ad) (fun (g:UInt64) L w=>L=[(0,c),(5,H f),(6,v64 (a1%32)),(7,d),(8,H u),(9,v64 g)]∧St [] q w [U X d x]) (F.Gq a1 u x) ?_ ?_
  rotate_left
  ·intro n
   refine R<|V 5 Z<|N (aC u30 Z (b.b a.fr)) Z<|V 1 Z<|Q ?_
   refine gl9 Z h (fun h=>?_) (fun h=>?_)
   ·exact al<|V 6 Z<|J h fun k o h=>N (bk u30 aN Z Z (b.b a.fr) o) Z<|N (a8 u38 Z Z (b.b a.fr) o Z) Z<|N (aD Z (bD u38 u119 k)) Z<|N (aj Z Z (dr _ k.toUInt64 32)) Z<|N (aj Z Z (eX _ j.toUInt64 (bB k.toUInt64 32))) Z<|a7 h fun z B h=>N (a9 (v:=v64 z) (by rw [←B]; rfl)) Z<|Q<|aH (n z _ _ ⟨Z,a⟩ h) Z
   exact gl5<|aH (n j.toUInt64 _ _ ⟨Z,a⟩ h) Z
  rintro l L w hJ h
  try dsimp only at hJ
  obtain ⟨rfl,a⟩:=hJ
  unfold F.Gq at h
  refine al<|V 4 Z<|N (aj Z Z (cc _ l (a1%32))) Z<|N (aD Z (ca u119 u38 (aM l ((a1%32).toNat)))) Z<|J h fun ao p h=>N (bk u30 aN Z Z (a.ro 0 Z) p) Z<|bl (bZ (t:=((aM l ((a1%32).toNat)).toUInt32)) aN Z Z a (i:=0) Z p Z) fun w a=>a7 h fun ab C h=>?_
  rw [C]at a
  exact aE<|aF<|ak<|al<|V 3 Z<|aE<|bf (bd (T (wI (u+1),ab) _ _ ⟨Z,a⟩ (aL h y)) Z)
 refine aQ<|au<|au<|have h:=aI h y;aR<|ak<|R<|V 1 Z<|have hG:=a.pick (os':=[U X d x]++[]) [0] (by decide) Z;J h fun ap D h=>aG Z (dK  D hG.f ) Z ?_
 rintro aq w ⟨am,A,E⟩
 rw [←A]at E
 have a:=hG.g E
 refine V 1 Z<|Q<|az ?_
 cases h
 exact ay Z Z (a.d [0] Z Z)
end Go.Proofs
