import Derived.Test.YtahgjafdhjbkeaaGreatDoorRW0
import Derived.Test.YtahgjafdhjbkeaaGreatDoorGkFman
set_option linter.unusedVariables false
set_option linter.unusedSimpArgs false
set_option linter.unusedSectionVars false
set_option maxRecDepth 4000
namespace Go.Proofs
open Go Go.RowKit Go.Gk
open Go.Gk renaming aa -> V, af -> J, ag -> N, ai -> H, e32 -> X, gl3 -> P, gl4 -> R, own -> U, pB -> O, vB -> K, vI -> I
open Go.Gk.OE renaming bx -> Y
theorem dR {f:World} {a0:L0} {a:Value} {S:L2} {r:L0}
  (h:F.Dz a0=some r) (b:St S f f [U X a a0]):Calls Tryz.prog 150 #[a] f (Ret fun v w=>∃u0:Value,v=u0/\St S f w [U X u0 r]):=by
 refine aB 21 Tryz.func150 Z Z Z<|ax [(0,a)] Z ?_
 unfold F.Dz at h
 refine R<|V 1 Z<|gl2<|V 1 Z<|N (aC u30 Z (b.ro 0 Z)) Z<|V 1 Z<|gl1<|aq<|ax [(0,a),(3,I (a0.length:Int))] Z ?_
 refine aT (F.Im a0) (fun (s:Int) L w=>L=[(0,a),(3,I s)]/\St S f w [U X a a0]) ?_ (a0.length:Int) ⟨Z,b⟩ h
 rintro u d L w o p n h j
 try dsimp only at p
 obtain⟨rfl,b⟩:=p
 unfold F.Im at h
 refine aw ?_
 refine a8 (r:=o) (fun (g:Bool) L w=>L=[(0,a),(3,I d),(15,K g)]/\St S f w [U X a a0]) (F.ID a0 d) ?_ ?_
 rotate_left
 ·intro k
  refine al<|V 3 Z ?_
  cases c:(decide ((0:Int)<d))
  case true=>
   have h:=cz h c
   try simp only[c]
   exact V 3 Z<|J h fun m l h=>bB (t:=8) Z Z (bk u30 aN Z Z (b.ro 0 Z) l) Z<|bB (t:=8) Z Z (a9 u38 Z Z (b.ro 0 Z) l Z) Z<|bB (t:=8) Z Z (aj Z Z (k7 _ m 0)) Z<|V 1 Z<|P<|aG (k (m == 0) _ _ ⟨Z,b⟩ h) Z
  case false=>
   have h:=cA h c
   try simp only[c]
   exact V 7 Z<|P<|aG (k false _ _ ⟨Z,b⟩ h) Z
 rintro x L w q h
 try dsimp only at q
 obtain⟨rfl,b⟩:=q
 unfold F.ID at h
 apply gl9 Z h<;>intro h
 ·exact gl5<|aq<|al<|V 3 Z<|aE<|aF<|bd (bc (n (wI (d - 1)) _ _ ⟨Z,b⟩ (aK h j)) Z)
 refine aQ<|av<|av<|have h:=aI h j;aR<|ak<|R<|V 2 Z<|c7 h fun e h=>N (jH u30 aN Z Z (b.ro 0 Z) (gu e)) Z<|V 1 Z<|P<|ay ?_
 cases h
 replace b:=b.trunc (i:=0) rfl e.2
 exact az Z Z ⟨slV a X.sz 0 ((d:Int).toNat),Z,b.d [0] Z Z⟩
theorem ff {d:World} (a0:UInt64) {r:L0}
  (h:F.D9 a0=some r) :Calls Tryz.prog 107 #[v64 a0] d (Ret fun v w=>St [] d w [U X v r]):=by
 refine aB 10 Tryz.func107 Z Z Z<|have a:=St.k d;ax [(0,v64 a0)] Z ?_
 unfold F.D9 at h
 refine R<|V 1 Z<|gl2<|V 1 Z<|N (aD Z (cc u119 u38 a0)) Z<|V 1 Z<|N (aj Z Z (cf _ a0 32)) Z<|N (aD Z (cc u119 u38 (aO a0 32))) Z<|bC (cq (e:=X) (l:=([a0.toUInt32,(aO a0 32).toUInt32]:L0)) (vs:=[v32 a0.toUInt32,v32 ((aO a0 32).toUInt32)]) u30 aN Z Z Z Z (by decide) (by decide) a) Z fun g w a=>have i:=a.pick (os':=[U X g ([a0.toUInt32,(aO a0 32).toUInt32]:L0)]++[]) [0] (by decide) Z;J h fun k f h=>aH Z (dR  f i.f ) Z ?_
 rintro m w ⟨j,b,c⟩
 rw[<-b]at c
 have a:=i.g c
 refine V 1 Z<|P<|ay ?_
 cases h
 exact az Z Z (a.d [0] Z Z)
theorem nA {l:World} {a0 a1:L0} {c d:Value} {r:L0}
  (h:F.G8 a0 a1=some r) (p:RP [] l X c a0) (k:RP [] l X d a1):Calls Tryz.prog 169 #[c,d] l (Ret fun v w=>St [] l w [U X v r]):=by
 refine aB 75 Tryz.func169 Z Z Z<|have a:=St.k l;ax [(0,c),(1,d)] Z ?_
 unfold F.G8 at h
 refine R<|V 1 Z<|gl1 ?_
 refine a8 (r:=r) (fun (g:Bool) L w=>L=[(0,c),(1,d),(16,K g)]/\St [] l w []) (F.FF a0 a1) ?_ ?_
 rotate_left
 ·intro E
  refine al<|V 1 Z<|N (aC u30 Z (p.b a.fr)) Z<|V 2 Z ?_
  cases m:((a0.length:Int) == 0)
  case true=>
   have h:=cz h m
   try simp only[m]
   exact V 4 Z<|P<|aG (E true _ _ ⟨Z,a⟩ h) Z
  case false=>
   have h:=cA h m
   try simp only[m]
   exact V 1 Z<|bB (t:=12) Z Z (aC u30 Z (k.b a.fr)) Z<|V 2 Z<|P<|aG (E ((a1.length:Int) == 0) _ _ ⟨Z,a⟩ h) Z
 rintro bb L w hJ h
 try dsimp only at hJ
 obtain⟨rfl,a⟩:=hJ
 unfold F.FF at h
 apply gl9 Z h<;>intro h
 ·refine R<|V 1 Z<|gl8 ?_
  cases h
  exact az Z Z ((a.nil X).d [0] Z Z)
 refine gl6<|V 1 Z<|N (aC u30 Z (p.b a.fr)) Z<|V 1 Z<|N (aC u30 Z (k.b a.fr)) Z<|V 1 Z<|J h fun aS ar h=>bC (c9 (e:=X) u30 aN Z Z Z a ar) Z fun f w a=>V 1 Z<|gl1<|R<|V 1 Z<|P<|aq<|ax [(0,c),(1,d),(5,f),(6,I 0)] Z ?_
 refine aT (F.Fg a0 a1) (fun (s:Int×L0) L w=>L=[(0,c),(1,d),(5,f),(6,I s.1)]/\St [] l w [U X f s.2]) ?_ (0,aS) ⟨Z,a⟩ h
 rintro aW ⟨x,an⟩ L w aY G ab h S
 try dsimp only at G
 obtain⟨rfl,a⟩:=G
 unfold F.Fg at h
 refine aw<|R<|V 2 Z<|N (aC u30 Z (p.b a.fr)) Z<|V 1 Z<|P ?_
 apply gl9 Z h<;>intro h
 ·refine gl5<|aw<|aq<|R<|V 1 Z<|gl1<|R<|V 1 Z<|P<|aq<|ax [(0,c),(1,d),(5,f),(6,I x),(7,v64 0),(8,I 0)] Z ?_
  refine aT (F.Ff a0 a1 x) (fun (s:UInt64×Int×L0) L w=>L=[(0,c),(1,d),(5,f),(6,I x),(7,v64 s.1),(8,I s.2.1)]/\St [] l w [U X f s.2.2]) ?_ (0,0,an) ⟨Z,a⟩ h
  rintro a2 ⟨q,au,aA⟩ L w a3 G ac h y
  try dsimp only at G
  obtain⟨rfl,a⟩:=G
  unfold F.Ff at h
  refine aw<|R<|V 2 Z<|N (aC u30 Z (k.b a.fr)) Z<|V 1 Z<|P ?_
  apply gl9 Z h<;>intro h
  ·refine gl5<|aw<|aq<|aw<|aX (fun w'=>St [] l w' [U X f aA]) (fun _=>true) bQ (fun _ _ _ hf=>hf.2) (fun _ _ hf=>hf) (by kernel_rfl)<|have a:=a.drew;show lxE _ _ _ _ _ _ _ [0,1,2,3,4,5,6,7,8,9,10,11,12,13,14,15,16,17,18,19,20,21] _ _ from ao 3 Z a<|J h fun n z h=>H a Z Z (fun w b=>bk u30 aN Z Z (p.b b.fr) z) Z<|H a Z Z (fun w b=>a9 u38 Z Z (p.b b.fr) z Z) Z<|H a Z Z (fun w b=>aD Z (bK u38 u119 n)) Z<|ao 2 Z a<|J h fun o A h=>H a Z Z (fun w b=>bk u30 aN Z Z (k.b b.fr) A) Z<|H a Z Z (fun w b=>a9 u38 Z Z (k.b b.fr) A Z) Z<|H a Z Z (fun w b=>aD Z (bK u38 u119 o)) Z<|H a Z Z (fun w b=>aj Z Z (gD _ n.toUInt64 o.toUInt64)) Z<|ao 4 Z a<|J h fun u B h=>H a Z Z (fun w b=>bk u30 aN Z Z (b.ro 0 Z) B) Z<|H a Z Z (fun w b=>a9 u38 Z Z (b.ro 0 Z) B Z) Z<|H a Z Z (fun w b=>aD Z (bK u38 u119 u)) Z<|H a Z Z (fun w b=>aj Z Z (bT _ (n.toUInt64*o.toUInt64) u.toUInt64)) Z<|H a Z Z (fun w b=>aj Z Z (bT _ q ((n.toUInt64*o.toUInt64)+u.toUInt64))) Z ?_
   refine aZ h fun j ad h=>H a Z Z (fun w b=>ba (v:=v64 j) (by rw[<-ad]; rfl)) Z<|bp a<|ak<|R<|V 5 Z<|N (aD Z (cc u119 u38 j)) Z<|J h fun a4 C h=>N (bk u30 aN Z Z (a.ro 0 Z) C) Z<|bo (bX (t:=j.toUInt32) aN Z Z a (i:=0) Z C Z) fun w a=>aZ h fun aL ae h=>?_
   rw[ae]at a
   exact P<|al<|V 1 Z<|N (aj Z Z (cf _ j 32)) Z<|V 1 Z<|aE<|aF<|ak<|al<|V 3 Z<|aE<|bd (bc (ac (aO j 32,wI (au+1),aL) _ _ ⟨Z,a⟩ (aK h y)) Z)
  refine aQ<|av<|av<|have h:=aI h y;aR<|ak<|al<|V 3 Z<|N (aC u30 Z (k.b a.fr)) Z<|V 2 Z<|N (aD Z (cc u119 u38 q)) Z<|J h fun a5 D h=>N (bk u30 aN Z Z (a.ro 0 Z) D) Z<|bo (bX (t:=q.toUInt32) aN Z Z a (i:=0) Z D Z) fun w a=>aZ h fun aM ah h=>?_
  rw[ah]at a
  exact aE<|aF<|ak<|al<|V 3 Z<|aE<|bd (bc (ab (wI (x+1),aM) _ _ ⟨Z,a⟩ (aK h S)) Z)
 refine aQ<|av<|av<|have h:=aI h S;aR<|ak<|R<|V 1 Z<|have hG:=a.pick (os':=[U X f an]++[]) [0] (by decide) Z;J h fun a6 am h=>aH Z (dR  am hG.f ) Z ?_
 rintro a7 w ⟨aV,T,ap⟩
 rw[<-T]at ap
 have a:=hG.g ap
 refine V 1 Z<|P<|ay ?_
 cases h
 exact az Z Z (a.d [0] Z Z)
theorem kh {f:World} {a0 a1:L0} {n o:Value} {r:L0}
  (h:F.FB a0 a1=some r) (C:RP [] f X n a0) (D:RP [] f X o a1):Calls Tryz.prog 105 #[n,o] f (Ret fun v w=>St [] f w [U X v r]):=by
 refine aB 58 Tryz.func105 Z Z Z<|have a:=St.k f;ax [(0,n),(1,o)] Z ?_
 unfold F.FB at h
 refine R<|V 1 Z<|P ?_
 refine a8 (r:=r) (fun (g:L0×L0) L w=>∃(j:Value) (k:Value),L=[(0,j),(1,k)]/\RP [] f X j g.1/\RP [] f X k g.2/\St [] f w []) (F.GP) ?_ ?_
 rotate_left
 ·intro E
  refine R<|V 1 Z<|N (aC u30 Z (C.b a.fr)) Z<|V 1 Z<|N (aC u30 Z (D.b a.fr)) Z<|V 1 Z<|P ?_
  apply gl9 Z h<;>intro h
  ·exact al<|V 4 Z<|P<|aG (E (a1,a0) _ _ ⟨o,n,Z,D,C,a⟩ h) Z
  exact gl5<|aG (E (a0,a1) _ _ ⟨n,o,Z,C,D,a⟩ h) Z
 rintro⟨aA,aJ⟩ L w G h
 try dsimp only at G
 obtain⟨j,k,rfl,c,p,a⟩:=G
 unfold F.GP at h
 refine R<|V 1 Z<|N (aC u30 Z (c.b a.fr)) Z<|V 1 Z<|J h fun aL ao h=>bC (c9 (e:=X) u30 aN Z Z Z a ao) Z fun b w a=>V 1 Z<|gl2<|V 1 Z<|gl1<|R<|V 1 Z<|P<|aq<|ax [(0,j),(1,k),(5,b),(6,v64 0),(7,I 0)] Z ?_
 refine aT (F.FE aA aJ) (fun (s:UInt64×Int×L0) L w=>L=[(0,j),(1,k),(5,b),(6,v64 s.1),(7,I s.2.1)]/\St [] f w [U X b s.2.2]) ?_ (0,0,aL) ⟨Z,a⟩ h
 rintro aU ⟨d,q,S⟩ L w ap hI ad h u
 try dsimp only at hI
 obtain⟨rfl,a⟩:=hI
 unfold F.FE at h
 refine aw<|R<|V 2 Z<|N (aC u30 Z (c.b a.fr)) Z<|V 1 Z<|P ?_
 apply gl9 Z h<;>intro h
 ·refine gl5<|aw<|aq<|R<|V 3 Z<|J h fun l x h=>N (bk u30 aN Z Z (c.b a.fr) x) Z<|N (a9 u38 Z Z (c.b a.fr) x Z) Z<|N (aD Z (bK u38 u119 l)) Z<|N (aj Z Z (bT _ d l.toUInt64)) Z<|V 1 Z<|P ?_
  refine a8 (r:=ap) (fun (g:UInt64) L w=>L=[(0,j),(1,k),(5,b),(6,v64 g),(7,I q)]/\St [] f w [U X b S]) (F.GI q S) ?_ ?_
  rotate_left
  ·intro y
   refine R<|V 2 Z<|N (aC u30 Z (p.b a.fr)) Z<|V 1 Z<|P ?_
   apply gl9 Z h<;>intro h
   ·exact al<|V 3 Z<|J h fun T z h=>N (bk u30 aN Z Z (p.b a.fr) z) Z<|N (a9 u38 Z Z (p.b a.fr) z Z) Z<|N (aD Z (bK u38 u119 T)) Z<|N (aj Z Z (bT _ (d+l.toUInt64) T.toUInt64)) Z<|aZ h fun ab ae h=>N (ba (v:=v64 ab) (by rw[<-ae]; rfl)) Z<|P<|aG (y ab _ _ ⟨Z,a⟩ h) Z
   exact gl5<|aG (y (d+l.toUInt64) _ _ ⟨Z,a⟩ h) Z
  rintro m L w G h
  try dsimp only at G
  obtain⟨rfl,a⟩:=G
  unfold F.GI at h
  refine R<|V 3 Z<|N (aD Z (cc u119 u38 m)) Z<|J h fun aV A h=>N (bk u30 aN Z Z (a.ro 0 Z) A) Z<|bo (bX (t:=m.toUInt32) aN Z Z a (i:=0) Z A Z) fun w a=>aZ h fun ar ah h=>?_
  rw[ah]at a
  exact P<|al<|V 1 Z<|N (aj Z Z (cf _ m 32)) Z<|V 1 Z<|aE<|aF<|ak<|al<|V 3 Z<|aE<|bd (bc (ad (aO m 32,wI (q+1),ar) _ _ ⟨Z,a⟩ (aK h u)) Z)
 refine aQ<|av<|av<|have h:=aI h u;aR<|ak<|R<|V 2 Z<|N (aC u30 Z (c.b a.fr)) Z<|V 1 Z<|N (aD Z (cc u119 u38 d)) Z<|J h fun aW B h=>N (bk u30 aN Z Z (a.ro 0 Z) B) Z<|bo (bX (t:=d.toUInt32) aN Z Z a (i:=0) Z B Z) fun w a=>aZ h fun au H h=>?_
 rw[H]at a
 refine gl2<|V 1 Z<|have hG:=a.pick (os':=[U X b au]++[]) [0] (by decide) Z;J h fun aX am h=>aH Z (dR  am hG.f ) Z ?_
 rintro aY w ⟨aS,ac,an⟩
 rw[<-ac]at an
 have a:=hG.g an
 refine V 1 Z<|P<|ay ?_
 cases h
 exact az Z Z (a.d [0] Z Z)
theorem bW {f:World} {j a2:L0} {e b:Value} {c:Nat} {S:L2} (l a1:Bool) {r:Bool×L0}
  (h:F.DA l j a1 a2=some r) (a:St S f f [Y c [K l,e],U X e j,U X b a2]):Calls Tryz.prog 108 #[O c 0,K a1,b] f (Ret fun v w=>∃m:Value,v=O c 0/\St S f w [Y c [K r.1,m],U X m r.2]):=by
 refine aB 21 Tryz.func108 Z Z Z<|ax [(0,O c 0),(1,K a1),(2,b)] Z ?_
 unfold F.DA at h
 refine R<|V 1 Z<|gl2<|V 2 Z<|N (aL Z) Z<|N (am (k:=1) u65 Z Z dV Z) Z<|bo (bz (i:=0) (us:=[b]) Z Dg Z Z (cK (a.ro 2 Z).one) ⟨(a.ro 2 Z).one,trivial⟩ Z a) fun w a=>P ?_
 refine a8 (r:=r) (fun (g:Bool) L w=>L=[(0,O c 0)]/\St S f w [Y c [K g,b],U X b a2]) (F.H7 a2) ?_ ?_
 rotate_left
 ·intro n
  refine al<|V 3 Z ?_
  cases d:a1
  case true=>
   have h:=cz h d
   try simp only[d]
   exact V 1 Z<|bB (t:=13) Z Z (aC u30 Z (a.ro 2 Z)) Z<|V 2 Z<|N (aL Z) Z<|N (am (k:=0) u65 Z Z nz4 Z) Z<|bo (bz (i:=0) (us:=[K (decide ((0:Int)<(a2.length:Int)))]) Z sz4 Z Z Z ⟨Z,trivial⟩ Z a) fun w a=>P<|aG (n (decide ((0:Int)<(a2.length:Int))) _ _ ⟨Z,(a.d [0,2] Z Z)⟩ h) Z
  case false=>
   have h:=cA h d
   try simp only[d]
   exact V 4 Z<|N (aL Z) Z<|N (am (k:=0) u65 Z Z nz4 Z) Z<|bo (bz (i:=0) (us:=[K false]) Z sz4 Z Z Z ⟨Z,trivial⟩ Z a) fun w a=>P<|aG (n false _ _ ⟨Z,(a.d [0,2] Z Z)⟩ h) Z
 rintro p L w o h
 try dsimp only at o
 obtain⟨rfl,a⟩:=o
 unfold F.H7 at h
 refine R<|V 2 Z<|P<|ay ?_
 cases h
 exact az Z Z ⟨b,Z,a.d [0,1] Z Z⟩
theorem kS {u:World} {d:L0} {a:Value} {e:Nat} {S:L2} (c:Bool) (a1:L1) (a2:Int) {r:Bool×Bool×L0}
  (h:F.Ib c d a1 a2=some r) (b:St S u u [Y e [K c,a],U X a d]):Calls Tryz.prog 168 #[O e 0,vS a1,I a2] u (Ret fun v w=>∃aA:Value,v=.tuple #[O e 0,K r.1]/\St S u w [Y e [K r.2.1,aA],U X aA r.2.2]):=by
 refine aB 124 Tryz.func168 Z Z Z<|ax [(0,O e 0),(1,vS a1),(2,I a2)] Z ?_
 unfold F.Ib at h
 refine R<|V 2 Z<|gl2<|V 1 Z<|P ?_
 refine a8 (r:=r) (fun (g:L1×Bool) L w=>L=[(0,O e 0),(1,vS g.1),(2,I a2),(8,K g.2)]/\St S u w [Y e [K c,a],U X a d]) (F.IR a2 c d) ?_ ?_
 rotate_left
 ·intro H
  refine a8 (r:=r) (fun (g:Bool) L w=>L=[(0,O e 0),(1,vS a1),(2,I a2),(8,K false),(25,K g)]/\St S u w [Y e [K c,a],U X a d]) (F.HD a1 a2 c d) ?_ ?_
  rotate_left
  ·intro ah
   refine al<|V 1 Z<|N (kf Tryz.underlying9 Z) Z<|V 2 Z ?_
   cases T:(decide ((0:Int)<(a1.length:Int)))
   case true=>
    have h:=cz h T
    try simp only[T]
    refine V 1 Z<|J h fun bf bi h=>bB (t:=16) Z Z (kG Tryz.underlying9 Z Z bi) Z<|bB (t:=16) Z Z (aj Z Z (gp _ bf 45)) Z<|V 1 Z ?_
    cases ab:(bf == 45)
    case true=>
     have h:=cz h ab
     try simp only[ab]
     exact V 5 Z<|P<|aG (ah true _ _ ⟨Z,b⟩ h) Z
    case false=>
     have h:=cA h ab
     try simp only[ab]
     exact V 1 Z<|J h fun bg bj h=>bB (t:=20) Z Z (kG Tryz.underlying9 Z Z bj) Z<|bB (t:=20) Z Z (aj Z Z (gp _ bg 43)) Z<|V 2 Z<|P<|aG (ah (bg == 43) _ _ ⟨Z,b⟩ h) Z
   case false=>
    have h:=cA h T
    try simp only[T]
    exact V 9 Z<|P<|aG (ah false _ _ ⟨Z,b⟩ h) Z
  rintro bN L w j h
  try dsimp only at j
  obtain⟨rfl,b⟩:=j
  unfold F.HD at h
  apply gl9 Z h<;>intro h
  ·exact R<|V 1 Z<|J h fun bh bk h=>N (kG Tryz.underlying9 Z Z bk) Z<|N (aj Z Z (gp _ bh 45)) Z<|V 1 Z<|P<|al<|V 1 Z<|J h fun bl aP h=>N (x8 Tryz.underlying9 Z Z aP) Z<|V 1 Z<|P<|aG (H (bl,bh == 45) _ _ ⟨Z,b⟩ h) Z
  exact gl5<|aG (H (a1,false) _ _ ⟨Z,b⟩ h) Z
 rintro⟨m,i⟩ L w j h
 try dsimp only at j
 obtain⟨rfl,b⟩:=j
 unfold F.IR at h
 refine a8 (r:=r) (fun (g:L1×Int) L w=>L=[(0,O e 0),(1,vS g.1),(2,I g.2),(8,K i)]/\St S u w [Y e [K c,a],U X a d]) (F.Fl c d i) ?_ ?_
 rotate_left
 ·intro x
  refine R<|V 2 Z<|P ?_
  apply gl9 Z h<;>intro h
  ·refine R<|V 1 Z<|P ?_
   refine a8 (r:=r) (fun (g:Bool) L w=>L=[(0,O e 0),(1,vS m),(2,I 10),(8,K i),(40,K g)]/\St S u w [Y e [K c,a],U X a d]) (F.Jv m c d i) ?_ ?_
   rotate_left
   ·intro am
    refine al<|V 1 Z<|N (kf Tryz.underlying9 Z) Z<|V 2 Z ?_
    cases y:(decide ((2:Int)<(m.length:Int)))
    case true=>
     have h:=cz h y
     try simp only[y]
     exact V 1 Z<|J h fun aC aS h=>bB (t:=36) Z Z (kG Tryz.underlying9 Z Z aS) Z<|bB (t:=36) Z Z (aj Z Z (gp _ aC 48)) Z<|V 1 Z<|P<|aG (am (aC == 48) _ _ ⟨Z,b⟩ h) Z
    case false=>
     have h:=cA h y
     try simp only[y]
     exact V 4 Z<|P<|aG (am false _ _ ⟨Z,b⟩ h) Z
   rintro bt L w j h
   try dsimp only at j
   obtain⟨rfl,b⟩:=j
   unfold F.Jv at h
   apply gl9 Z h<;>intro h
   ·refine a8 (r:=r) (fun (g:Int) L w=>L=[(0,O e 0),(1,vS m),(2,I g),(8,K i)]/\St S u w [Y e [K c,a],U X a d]) (F.Hm m c d i) ?_ ?_
    rotate_left
    ·intro z
     refine R<|V 1 Z<|J h fun l aW h=>N (kG Tryz.underlying9 Z Z aW) Z<|P<|aq ?_
     refine a8 (r:=r) (fun (g:Bool) L w=>L=[(0,O e 0),(1,vS m),(2,I 10),(8,K i),(42,v8 l),(43,K g)]/\St S u w [Y e [K c,a],U X a d]) (F.Jw l m c d i) ?_ ?_
     rotate_left
     ·intro an
      refine R<|N (aj Z Z (gp _ l 120)) Z<|V 1 Z<|P ?_
      apply gl9 Z h<;>intro h
      ·exact gl5<|aG (an (l == 120) _ _ ⟨Z,b⟩ h) Z
      exact al<|N (aj Z Z (gp _ l 88)) Z<|V 1 Z<|P<|aG (an (l == 88) _ _ ⟨Z,b⟩ h) Z
     rintro bv L w j h
     try dsimp only at j
     obtain⟨rfl,b⟩:=j
     unfold F.Jw at h
     apply gl9 Z h<;>intro h
     ·exact al<|V 1 Z<|aE<|aF<|ak<|aG (z 16 _ _ ⟨Z,b⟩ h) Z
     refine a8 (r:=r) (fun (g:Bool) L w=>L=[(0,O e 0),(1,vS m),(2,I 10),(8,K i),(42,v8 l),(46,K g)]/\St S u w [Y e [K c,a],U X a d]) (F.Jl l m c d i) ?_ ?_
     rotate_left
     ·intro ao
      refine R<|N (aj Z Z (gp _ l 98)) Z<|V 1 Z<|P ?_
      apply gl9 Z h<;>intro h
      ·exact gl5<|aG (ao (l == 98) _ _ ⟨Z,b⟩ h) Z
      exact al<|N (aj Z Z (gp _ l 66)) Z<|V 1 Z<|P<|aG (ao (l == 66) _ _ ⟨Z,b⟩ h) Z
     rintro bw L w j h
     try dsimp only at j
     obtain⟨rfl,b⟩:=j
     unfold F.Jl at h
     apply gl9 Z h<;>intro h
     ·exact al<|V 1 Z<|aE<|aF<|ak<|aG (z 2 _ _ ⟨Z,b⟩ h) Z
     refine a8 (r:=r) (fun (g:Bool) L w=>L=[(0,O e 0),(1,vS m),(2,I 10),(8,K i),(49,K g)]/\St S u w [Y e [K c,a],U X a d]) (F.Jt m c d i) ?_ ?_
     rotate_left
     ·intro ap
      refine R<|N (aj Z Z (gp _ l 111)) Z<|V 1 Z<|P ?_
      apply gl9 Z h<;>intro h
      ·exact gl5<|aG (ap (l == 111) _ _ ⟨Z,b⟩ h) Z
      exact al<|N (aj Z Z (gp _ l 79)) Z<|V 1 Z<|P<|aG (ap (l == 79) _ _ ⟨Z,b⟩ h) Z
     rintro bz L w j h
     try dsimp only at j
     obtain⟨rfl,b⟩:=j
     unfold F.Jt at h
     apply gl9 Z h<;>intro h
     ·exact al<|V 1 Z<|aE<|aF<|ak<|aG (z 8 _ _ ⟨Z,b⟩ h) Z
     exact cd<|aF<|ak<|aG (z 10 _ _ ⟨Z,b⟩ h) Z
    rintro aJ L w j h
    try dsimp only at j
    obtain⟨rfl,b⟩:=j
    unfold F.Hm at h
    refine R<|V 2 Z<|P ?_
    apply gl9 Z h<;>intro h
    ·exact al<|V 1 Z<|J h fun bm aX h=>N (x8 Tryz.underlying9 Z Z aX) Z<|V 1 Z<|P<|aG (x (bm,aJ) _ _ ⟨Z,b⟩ h) Z
    exact gl5<|aG (x (m,aJ) _ _ ⟨Z,b⟩ h) Z
   exact gl5<|aG (x (m,10) _ _ ⟨Z,b⟩ h) Z
  exact gl5<|aG (x (m,a2) _ _ ⟨Z,b⟩ h) Z
 rintro⟨o,k⟩ L w j h
 try dsimp only at j
 obtain⟨rfl,b⟩:=j
 unfold F.Fl at h
 refine aw ?_
 refine a8 (r:=r) (fun (g:Bool) L w=>L=[(0,O e 0),(1,vS o),(2,I k),(8,K i),(66,K g)]/\St S u w [Y e [K c,a],U X a d]) (F.Gh c d i o k) ?_ ?_
 rotate_left
 ·intro ac
  refine al<|V 1 Z<|N (kf Tryz.underlying9 Z) Z<|V 2 Z ?_
  cases A:((o.length:Int) == 0)
  case true=>
   have h:=cz h A
   try simp only[A]
   exact V 7 Z<|P<|aG (ac true _ _ ⟨Z,b⟩ h) Z
  case false=>
   have h:=cA h A
   try simp only[A]
   refine V 4 Z ?_
   cases B:(decide (k<2))
   case true=>
    have h:=cz h B
    try simp only[B]
    exact V 3 Z<|P<|aG (ac true _ _ ⟨Z,b⟩ h) Z
   case false=>
    have h:=cA h B
    try simp only[B]
    exact V 3 Z<|P<|aG (ac (decide ((36:Int)<k)) _ _ ⟨Z,b⟩ h) Z
 rintro bA L w j h
 try dsimp only at j
 obtain⟨rfl,b⟩:=j
 unfold F.Gh at h
 apply gl9 Z h<;>intro h
 ·refine R<|V 2 Z<|gl8 ?_
  cases h
 refine gl6<|V 1 Z<|gl1<|R<|V 1 Z<|P<|aq<|ax [(0,O e 0),(1,vS o),(2,I k),(8,K i),(9,.slice none 0 0),(10,I 0)] Z ?_
 refine aT (F.Fk c d i o k) (fun (s:L0×Int) L w=>∃(n:Value),L=[(0,O e 0),(1,vS o),(2,I k),(8,K i),(9,n),(10,I s.2)]/\St S u w [U X n s.1,Y e [K c,a],U X a d]) ?_ ([],0) ⟨L3,Z,(b.nil X)⟩ h
 rintro bC ⟨p,q⟩ L w ad hI aY h ae
 try dsimp only at hI
 obtain⟨n,rfl,b⟩:=hI
 unfold F.Fk at h
 refine aw<|R<|V 2 Z<|N (kf Tryz.underlying9 Z) Z<|V 1 Z<|P ?_
 apply gl9 Z h<;>intro h
 ·refine gl5<|aw<|aq<|R<|V 1 Z<|P ?_
  refine a8 (r:=ad) (fun (g:Int) L w=>L=[(0,O e 0),(1,vS o),(2,I k),(8,K i),(9,n),(10,I q),(11,I g)]/\St S u w [Y e [K c,a],U X a d,U X n p]) (F.EB k p q) ?_ ?_
  rotate_left
  ·intro C
   refine R<|V 2 Z<|J h fun f a0 h=>N (kG Tryz.underlying9 Z Z a0) Z<|V 1 Z<|P<|aq ?_
   refine a8 (r:=ad) (fun (g:Bool) L w=>L=[(0,O e 0),(1,vS o),(2,I k),(8,K i),(9,n),(10,I q),(11,I 99),(12,v8 f),(76,K g)]/\St S u w [Y e [K c,a],U X a d,U X n p]) (F.IG f k p q) ?_ ?_
   rotate_left
   ·intro ar
    refine al<|V 1 Z<|N (aj Z Z (qd _ f 48)) Z<|V 1 Z ?_
    cases D:(decide ((48:UInt8)<=f))
    case true=>
     have h:=cz h D
     try simp only[D]
     exact V 1 Z<|bB (t:=79) Z Z (aj Z Z (tJ _ f 57)) Z<|V 2 Z<|P<|aG (ar (decide (f<=57)) _ _ ⟨Z,(b.d [1,2,0] Z Z)⟩ h) Z
    case false=>
     have h:=cA h D
     try simp only[D]
     exact V 4 Z<|P<|aG (ar false _ _ ⟨Z,(b.d [1,2,0] Z Z)⟩ h) Z
   rintro bD L w j h
   try dsimp only at j
   obtain⟨rfl,b⟩:=j
   unfold F.IG at h
   apply gl9 Z h<;>intro h
   ·exact al<|V 1 Z<|N (aj Z Z (nJ _ f 48)) Z<|N (aD Z (qg Tryz.underlying5 u3 (f - 48))) Z<|aZ h fun aL a3 h=>N (ba (v:=I aL) (by rw[<-a3]; rfl)) Z<|aE<|aF<|ak<|aG (C aL _ _ ⟨Z,b⟩ h) Z
   refine a8 (r:=ad) (fun (g:Bool) L w=>L=[(0,O e 0),(1,vS o),(2,I k),(8,K i),(9,n),(10,I q),(11,I 99),(12,v8 f),(86,K g)]/\St S u w [Y e [K c,a],U X a d,U X n p]) (F.Ip f k p q) ?_ ?_
   rotate_left
   ·intro au
    refine al<|V 1 Z<|N (aj Z Z (qd _ f 97)) Z<|V 1 Z ?_
    cases E:(decide ((97:UInt8)<=f))
    case true=>
     have h:=cz h E
     try simp only[E]
     exact V 1 Z<|bB (t:=89) Z Z (aj Z Z (tJ _ f 122)) Z<|V 2 Z<|P<|aG (au (decide (f<=122)) _ _ ⟨Z,b⟩ h) Z
    case false=>
     have h:=cA h E
     try simp only[E]
     exact V 4 Z<|P<|aG (au false _ _ ⟨Z,b⟩ h) Z
   rintro bE L w j h
   try dsimp only at j
   obtain⟨rfl,b⟩:=j
   unfold F.Ip at h
   apply gl9 Z h<;>intro h
   ·exact al<|V 1 Z<|N (aj Z Z (nJ _ f 97)) Z<|N (aD Z (qg Tryz.underlying5 u3 (f - 97))) Z<|V 1 Z<|aZ h fun aM a4 h=>N (ba (v:=I aM) (by rw[<-a4]; rfl)) Z<|aE<|aF<|ak<|aG (C aM _ _ ⟨Z,b⟩ h) Z
   refine a8 (r:=ad) (fun (g:Bool) L w=>L=[(0,O e 0),(1,vS o),(2,I k),(8,K i),(9,n),(10,I q),(11,I 99),(12,v8 f),(97,K g)]/\St S u w [Y e [K c,a],U X a d,U X n p]) (F.Jo f k p q) ?_ ?_
   rotate_left
   ·intro az
    refine al<|V 1 Z<|N (aj Z Z (qd _ f 65)) Z<|V 1 Z ?_
    cases G:(decide ((65:UInt8)<=f))
    case true=>
     have h:=cz h G
     try simp only[G]
     exact V 1 Z<|bB (t:=100) Z Z (aj Z Z (tJ _ f 90)) Z<|V 2 Z<|P<|aG (az (decide (f<=90)) _ _ ⟨Z,b⟩ h) Z
    case false=>
     have h:=cA h G
     try simp only[G]
     exact V 4 Z<|P<|aG (az false _ _ ⟨Z,b⟩ h) Z
   rintro bF L w j h
   try dsimp only at j
   obtain⟨rfl,b⟩:=j
   unfold F.Jo at h
   apply gl9 Z h<;>intro h
   ·exact al<|V 1 Z<|N (aj Z Z (nJ _ f 65)) Z<|N (aD Z (qg Tryz.underlying5 u3 (f - 65))) Z<|V 1 Z<|aZ h fun aN a5 h=>N (ba (v:=I aN) (by rw[<-a5]; rfl)) Z<|aE<|aF<|ak<|aG (C aN _ _ ⟨Z,b⟩ h) Z
   exact cd<|aF<|ak<|aG (C 99 _ _ ⟨Z,b⟩ h) Z
  rintro aO L w j h
  try dsimp only at j
  obtain⟨rfl,b⟩:=j
  unfold F.EB at h
  refine aw<|R<|V 3 Z<|P ?_
  apply gl9 Z h<;>intro h
  ·refine R<|V 2 Z<|gl8<|bu<|aU<|aU<|have h:=aI h ae;bu<|aU ?_
   cases h
  exact gl5<|al<|V 2 Z<|N (aD Z (dC u3 u119 k)) Z<|J h fun bG a6 h=>aV b Z (ff (UInt64.ofInt k) a6 ) Z fun bH w b=>J h fun bI a7 h=>aV b Z (nA  a7 (b.ro 3 Z).rp (b.ro 0 Z).rp) Z fun bJ w b=>V 1 Z<|N (aD Z (dC u3 u119 aO)) Z<|J h fun bK a9 h=>aV b Z (ff (UInt64.ofInt aO) a9 ) Z fun bL w b=>J h fun bn bb h=>aV b Z (kh  bb (b.ro 1 Z).rp (b.ro 0 Z).rp) Z fun bo w b=>V 1 Z<|aE<|aF<|ak<|al<|V 3 Z<|aE<|bd (bc (aY (bn,wI (q+1)) _ _ ⟨bo,Z,(b.d [0,4,5] Z Z)⟩ (aK h ae)) Z)
 refine aQ<|av<|av<|have h:=aI h ae;aR<|ak<|R<|V 3 Z<|have hG:=b.pick (os':=[Y e [K c,a],U X a d,U X n p]++[]) [1,2,0] (by decide) Z;J h fun bM be h=>aH Z (bW c i be hG.f ) Z ?_
 rintro _ w ⟨bp,rfl,bs⟩
 have b:=hG.g bs
 refine V 2 Z<|P<|ay ?_
 cases h
 exact bY Z Z Z ⟨bp,Z,b.d [0,1] Z Z⟩
theorem ju {o:World} {a0:L0} {c:Value} (a1:UInt64) {r:L0}
  (h:F.F1 a0 a1=some r) (d:RP [] o X c a0):Calls Tryz.prog 106 #[c,v64 a1] o (Ret fun v w=>St [] o w [U X v r]):=by
 refine aB 61 Tryz.func106 Z Z Z<|have a:=St.k o;ax [(0,c),(1,v64 a1)] Z ?_
 unfold F.F1 at h
 refine R<|V 1 Z<|gl1<|R<|V 1 Z<|N (aC u30 Z (d.b a.fr)) Z<|V 1 Z<|P ?_
 apply gl9 Z h<;>intro h
 ·refine R<|V 1 Z<|gl8 ?_
  cases h
  exact az Z Z ((a.nil X).d [0] Z Z)
 refine gl6<|V 1 Z<|N (aj Z Z (ii _ a1 32 (by decide))) Z<|N (aD Z (nR u87 u3 (a1 / 32))) Z<|V 1 Z<|N (aj Z Z (ft _ a1 32 (by decide))) Z<|aZ h fun f E h=>N (ba (v:=I f) (by rw[<-E]; rfl)) Z<|V 1 Z<|gl2<|V 1 Z<|N (aC u30 Z (d.b a.fr)) Z<|V 3 Z<|J h fun ab G h=>bC (c9 (e:=X) u30 aN Z Z Z a G) Z fun g w a=>V 1 Z<|gl1<|R<|V 1 Z<|P<|aq<|ax [(0,c),(5,I f),(6,v64 (a1%32)),(7,g),(8,I 0)] Z ?_
 refine aT (F.Gm a0 a1 f) (fun (s:Int×L0) L w=>L=[(0,c),(5,I f),(6,v64 (a1%32)),(7,g),(8,I s.1)]/\St [] o w [U X g s.2]) ?_ (0,ab) ⟨Z,a⟩ h
 rintro am ⟨ac,ad⟩ L w aA hI S h p
 try dsimp only at hI
 obtain⟨rfl,a⟩:=hI
 unfold F.Gm at h
 refine aw<|R<|V 2 Z<|N (aC u30 Z (d.b a.fr)) Z<|V 1 Z<|P ?_
 apply gl9 Z h<;>intro h
 ·refine gl5<|aw<|aq<|R<|V 2 Z<|J h fun q j h=>N (bk u30 aN Z Z (d.b a.fr) j) Z<|N (a9 u38 Z Z (d.b a.fr) j Z) Z<|N (aD Z (bK u38 u119 q)) Z<|V 1 Z<|N (aj Z Z (du _ q.toUInt64 (a1%32))) Z<|aZ h fun b z h=>N (ba (v:=v64 b) (by rw[<-z]; rfl)) Z<|gl2<|V 4 Z<|J h fun u k h=>N (bk u30 aN Z Z (a.ro 0 Z) k) Z<|N (a9 u38 Z Z (a.ro 0 Z) k Z) Z<|V 1 Z<|N (aD Z (cc u119 u38 b)) Z<|N (aj Z Z (eB _ u b.toUInt32)) Z<|J h fun an l h=>N (bk u30 aN Z Z (a.ro 0 Z) l) Z<|bo (bX (t:=(u ||| b.toUInt32)) aN Z Z a (i:=0) Z l Z) fun w a=>aZ h fun ao A h=>?_
  rw[A]at a
  refine P<|al<|V 5 Z<|J h fun x m h=>N (bk u30 aN Z Z (a.ro 0 Z) m) Z<|N (a9 u38 Z Z (a.ro 0 Z) m Z) Z<|V 1 Z<|N (aj Z Z (cf _ b 32)) Z<|N (aD Z (cc u119 u38 (aO b 32))) Z<|N (aj Z Z (eB _ x ((aO b 32).toUInt32))) Z<|J h fun ap n h=>N (bk u30 aN Z Z (a.ro 0 Z) n) Z<|bo (bX (t:=(x ||| ((aO b 32).toUInt32))) aN Z Z a (i:=0) Z n Z) fun w a=>aZ h fun T B h=>?_
  rw[B]at a
  exact aE<|aF<|ak<|al<|V 3 Z<|aE<|bd (bc (S (wI (ac+1),T) _ _ ⟨Z,a⟩ (aK h p)) Z)
 refine aQ<|av<|av<|have h:=aI h p;aR<|ak<|R<|V 1 Z<|have hG:=a.pick (os':=[U X g ad]++[]) [0] (by decide) Z;J h fun ar C h=>aH Z (dR  C hG.f ) Z ?_
 rintro au w ⟨H,y,D⟩
 rw[<-y]at D
 have a:=hG.g D
 refine V 1 Z<|P<|ay ?_
 cases h
 exact az Z Z (a.d [0] Z Z)
theorem lD {k:World} {e:L0} {a1:L1} {b g:Value} {c:Nat} {S:L2} (d:Bool) {r:Bool×L0}
  (h:F.H4 d e a1=some r) (a:St S k k [Y c [K d,b],U X b e]) (m:RP S k e8 g a1):Calls Tryz.prog 47 #[O c 0,g] k (Ret fun v w=>∃n:Value,v=O c 0/\St S k w [Y c [K r.1,n],U X n r.2]):=by
 refine aB 25 Tryz.func47 Z Z Z<|ax [(0,O c 0),(1,g)] Z ?_
 unfold F.H4 at h
 refine R<|V 1 Z<|gl2<|V 1 Z<|gl1<|R<|V 1 Z<|P<|aq<|ax [(0,O c 0),(1,g),(5,.slice none 0 0),(6,I 0)] Z ?_
 refine aT (F.GW d e a1) (fun (s:L0×Int) L w=>∃(j:Value),L=[(0,O c 0),(1,g),(5,j),(6,I s.2)]/\St S k w [U X j s.1,Y c [K d,b],U X b e]) ?_ ([],0) ⟨L3,Z,(a.nil X)⟩ h
 rintro ac ⟨z,G⟩ L w an T A h o
 try dsimp only at T
 obtain⟨j,rfl,a⟩:=T
 unfold F.GW at h
 refine aw<|R<|V 2 Z<|N (aC u24 Z (m.b a.fr)) Z<|V 1 Z<|P ?_
 apply gl9 Z h<;>intro h
 ·exact gl5<|aw<|aq<|aX (fun w'=>St S k w' [U X j z,Y c [K d,b],U X b e]) (fun i=>!([1,7,8].contains i)) bQ (fun _ _ _ B=>B.2) (fun _ _ B=>B) (by kernel_rfl)<|have a:=a.drew;show lxE _ _ _ _ _ _ _ [0,1,2,3,4,5,6,7,8,9] _ _ from ao 1 Z a<|J h fun ad q h=>aY a Z Z (by kernel_rfl) Z (ju 8 q (a.ro 0 Z).rp) Z fun ae w f=>have a:=a.e f;ao 2 Z (a.d [1,2,3] Z Z)<|J h fun p l h=>H (a.d [1,2,3] Z Z) Z Z (fun w t=>bk u24 ti5 Z Z (m.b t.fr) l) Z<|H (a.d [1,2,3] Z Z) Z Z (fun w t=>a9 Tryz.underlying5 Z Z (m.b t.fr) l Z) Z<|H (a.d [1,2,3] Z Z) Z Z (fun w t=>aD Z (qI Tryz.underlying5 u119 p)) Z<|J h fun ah u h=>aY (a.d [1,2,3] Z Z) Z Z (by kernel_rfl) Z (ff p.toUInt64 u ) Z fun aj w f=>have a:=a.e f;J h fun C x h=>aY (a.d [2,3,4] Z Z) Z Z (by kernel_rfl) Z (kh  x (a.ro 1 Z).rp (a.ro 0 Z).rp) Z fun D w f=>have a:=a.e f;ao 1 Z (a.d [3,4,5] Z Z)<|bp (a.d [3,4,5] Z Z)<|aF<|ak<|al<|V 3 Z<|aE<|bd (bc (A (C,wI (G+1)) _ _ ⟨D,Z,(a.d [0,4,5] Z Z)⟩ (aK h o)) Z)
 refine aQ<|av<|av<|have h:=aI h o;aR<|ak<|R<|V 2 Z<|have hG:=a.pick (os':=[Y c [K d,b],U X b e,U X j z]++[]) [1,2,0] (by decide) Z;J h fun am y h=>aH Z (bW d false y hG.f ) Z ?_
 rintro _ w ⟨E,rfl,f⟩
 have a:=hG.g f
 refine V 1 Z<|P<|ay ?_
 cases h
 exact az Z Z ⟨E,Z,a.d [0,1] Z Z⟩
theorem g9 {e:World} {l o p:L0} {c m n:Value} {d q s:Nat} {S:L2} (f g j:Bool) {r:Bool×L0}
  (h:F.Fh f l g o j p=some r) (a:St S e e [Y d [K f,c],U X c l]) (x:RP S e X m o) (hBa1:RB S e q [K g,m]) (y:RP S e X n p) (hBa2:RB S e s [K j,n]):Calls Tryz.prog 145 #[O d 0,O q 0,O s 0] e (Ret fun v w=>∃t:Value,v=O d 0/\St S e w [Y d [K r.1,t],U X t r.2]):=by
 refine aB 27 Tryz.func145 Z Z Z<|ax [(0,O d 0),(1,O q 0),(2,O s 0)] Z ?_
 unfold F.Fh at h
 refine R<|V 1 Z<|gl1<|have hsh1:=(a.ro 1 Z).shp;aX (fun w'=>St S e w' []) (fun i=>!([18,19].contains i)) bQ (fun _ _ _ z=>z.2) (fun _ _ z=>z) (by kernel_rfl)<|have a:=a.drew;show lxE _ _ _ _ _ _ _ [0,1,2,3,4,5,6,7,8,9,10,11,12,13,14,15,16,17,18,19,20] _ _ from ao 2 Z (a.d [] Z Z)<|H (a.d [] Z Z) Z Z (fun w b=>aL Z) Z<|H (a.d [] Z Z) Z Z (fun w b=>am (k:=0) u65 Z Z nz4 Z) Z<|H (a.d [] Z Z) Z Z (fun w b=>au Tryz.underlying4 Z Z (hBa1.cell b.fr 0 Z)) Z<|ao 1 Z (a.d [] Z Z)<|H (a.d [] Z Z) Z Z (fun w b=>aL Z) Z<|H (a.d [] Z Z) Z Z (fun w b=>am (k:=0) u65 Z Z nz4 Z) Z<|H (a.d [] Z Z) Z Z (fun w b=>au Tryz.underlying4 Z Z (hBa2.cell b.fr 0 Z)) Z<|H (a.d [] Z Z) Z Z (fun w b=>aj Z Z (nL _ g j Tryz.underlying4 Z)) Z<|ao 1 Z (a.d [] Z Z)<|H (a.d [] Z Z) Z Z (fun w b=>aL Z) Z<|H (a.d [] Z Z) Z Z (fun w b=>am (k:=1) u65 Z Z dV Z) Z<|H (a.d [] Z Z) Z Z (fun w b=>au u30 Z Z (hBa1.cell b.fr 1 Z)) Z<|ao 1 Z (a.d [] Z Z)<|H (a.d [] Z Z) Z Z (fun w b=>aL Z) Z<|H (a.d [] Z Z) Z Z (fun w b=>am (k:=1) u65 Z Z dV Z) Z ?_
 refine H (a.d [] Z Z) Z Z (fun w b=>au u30 Z Z (hBa2.cell b.fr 1 Z)) Z<|J h fun C A h=>aY (a.d [] Z Z) Z Z (by kernel_rfl) Z (nA  A (x.b a.fr).rp (y.b a.fr).rp) Z fun D w u=>have a:=a.e u;have E:=a.pick (os':=[Y d [K f,c],U X c l,U X D C]++[]) [1,2,0] (by decide) Z;J h fun L B h=>aY (a.d [] Z Z) Z Z (by kernel_rfl) Z (bW f (g != j) B E.f ) Z ?_
 rintro _ w ⟨G,rfl,u⟩
 have a:=E.g u
 refine ao 1 Z (a.d [] Z Z)<|bp (a.d [] Z Z)<|ak<|ay ?_
 cases h
 exact az Z Z ⟨G,Z,a.d [0,1] Z Z⟩
theorem jy {b:World} {a0:L0} {a:Value} {r:L0}
  (h:F.EX a0=some r) (e:RP [] b X a a0):Calls Tryz.prog 175 #[a] b (Ret fun v w=>St [] b w [U X v r]):=by
 refine aB 5 Tryz.func175 Z Z Z<|have c:=St.k b;ax [(0,a)] Z ?_
 unfold F.EX at h
 refine R<|V 1 Z<|gl2<|V 1 Z<|J h fun f d h=>bC (jm u30 aN Z Z Z c (e.b c.fr) d) Z fun g w c=>V 1 Z<|P<|ay ?_
 cases h
 exact az Z Z (c.d [0] Z Z)
theorem fZ {e:World} {f m:L0} {b l:Value} {c n:Nat} {S:L2} (d g:Bool) {r:Bool×L0}
  (h:F.Ev d f g m=some r) (a:St S e e [Y c [K d,b],U X b f]) (q:RP S e X l m) (hBa1:RB S e n [K g,l]):Calls Tryz.prog 179 #[O c 0,O n 0] e (Ret fun v w=>∃o:Value,v=O c 0/\St S e w [Y c [K r.1,o],U X o r.2]):=by
 refine aB 16 Tryz.func179 Z Z Z<|ax [(0,O c 0),(1,O n 0)] Z ?_
 unfold F.Ev at h
 refine R<|V 1 Z<|gl1<|have hsh1:=(a.ro 1 Z).shp;aX (fun w'=>St S e w' []) (fun i=>!([9,10].contains i)) bQ (fun _ _ _ s=>s.2) (fun _ _ s=>s) (by kernel_rfl)<|have a:=a.drew;show lxE _ _ _ _ _ _ _ [0,1,2,3,4,5,6,7,8,9,10,11] _ _ from ao 2 Z (a.d [] Z Z)<|H (a.d [] Z Z) Z Z (fun w j=>aL Z) Z<|H (a.d [] Z Z) Z Z (fun w j=>am (k:=0) u65 Z Z nz4 Z) Z<|H (a.d [] Z Z) Z Z (fun w j=>au Tryz.underlying4 Z Z (hBa1.cell j.fr 0 Z)) Z<|ao 1 Z (a.d [] Z Z)<|H (a.d [] Z Z) Z Z (fun w j=>aL Z) Z<|H (a.d [] Z Z) Z Z (fun w j=>am (k:=1) u65 Z Z dV Z) Z<|H (a.d [] Z Z) Z Z (fun w j=>au u30 Z Z (hBa1.cell j.fr 1 Z)) Z<|J h fun x t h=>aY (a.d [] Z Z) Z Z (by kernel_rfl) Z (jy  t (q.b a.fr).rp) Z fun y w p=>have a:=a.e p;have z:=a.pick (os':=[Y c [K d,b],U X b f,U X y x]++[]) [1,2,0] (by decide) Z;J h fun B u h=>aY (a.d [] Z Z) Z Z (by kernel_rfl) Z (bW d g u z.f ) Z ?_
 rintro _ w ⟨A,rfl,p⟩
 have a:=z.g p
 refine ao 1 Z (a.d [] Z Z)<|bp (a.d [] Z Z)<|ak<|ay ?_
 cases h
 exact az Z Z ⟨A,Z,a.d [0,1] Z Z⟩
theorem kc {f:World} {a0 a1:L0} {g i:Value} {r:Int}
  (h:F.E5 a0 a1=some r) (c:RP [] f X g a0) (d:RP [] f X i a1):Calls Tryz.prog 149 #[g,i] f (Ret fun v w=>v=I r/\St [] f w []):=by
 refine aB 41 Tryz.func149 Z Z Z<|have a:=St.k f;ax [(0,g),(1,i)] Z ?_
 unfold F.E5 at h
 refine R<|V 1 Z<|gl1<|R<|V 1 Z<|N (aC u30 Z (c.b a.fr)) Z<|V 1 Z<|N (aC u30 Z (d.b a.fr)) Z<|V 1 Z<|P ?_
 apply gl9 Z h<;>intro h
 ·refine aw<|R<|V 1 Z<|N (aC u30 Z (c.b a.fr)) Z<|V 1 Z<|N (aC u30 Z (d.b a.fr)) Z<|V 1 Z<|P ?_
  apply gl9 Z h<;>intro h
  ·refine R<|V 1 Z<|gl8<|aU ?_
   cases h
   exact az Z Z ⟨Z,a⟩
  refine gl6<|V 1 Z<|gl8 ?_
  cases h
  exact az Z Z ⟨Z,a⟩
 refine gl5<|aw<|R<|V 1 Z<|N (aC u30 Z (c.b a.fr)) Z<|V 1 Z<|aZ h fun l p h=>N (ba (v:=I l) (by rw[<-p]; rfl)) Z<|P<|aq<|ax [(0,g),(1,i),(5,I l)] Z ?_
 refine aT (F.EW a0 a1) (fun (s:Int) L w=>L=[(0,g),(1,i),(5,I s)]/\St [] f w []) ?_ l ⟨Z,a⟩ h
 rintro B u L w C x q h e
 try dsimp only at x
 obtain⟨rfl,a⟩:=x
 unfold F.EW at h
 refine aw<|R<|V 2 Z<|P ?_
 apply gl9 Z h<;>intro h
 ·refine gl5<|aw<|aq<|aw<|aX (fun w'=>St [] f w' []) (fun _=>true) bQ (fun _ _ _ j=>j.2) (fun _ _ j=>j) (by kernel_rfl)<|have a:=a.drew;show lxE _ _ _ _ _ _ _ [0,1,2,3,4,5,6,7,8] _ _ from ao 2 Z a<|J h fun y m h=>H a Z Z (fun w b=>bk u30 aN Z Z (c.b b.fr) m) Z<|H a Z Z (fun w b=>a9 u38 Z Z (c.b b.fr) m Z) Z<|ao 2 Z a<|J h fun z n h=>H a Z Z (fun w b=>bk u30 aN Z Z (d.b b.fr) n) Z<|H a Z Z (fun w b=>a9 u38 Z Z (d.b b.fr) n Z) Z<|H a Z Z (fun w b=>aj Z Z (jN _ y z)) Z<|bp a<|ak ?_
  apply gl9 Z h<;>intro h
  ·refine aw<|aw<|aX (fun w'=>St [] f w' []) (fun _=>true) bQ (fun _ _ _ j=>j.2) (fun _ _ j=>j) (by kernel_rfl)<|have a:=a.drew;show lxE _ _ _ _ _ _ _ [0,1,2,3,4,5,6,7,8] _ _ from ao 2 Z a<|J h fun A o h=>H a Z Z (fun w b=>bk u30 aN Z Z (c.b b.fr) o) Z<|H a Z Z (fun w b=>a9 u38 Z Z (c.b b.fr) o Z) Z<|ao 2 Z a<|J h fun t k h=>H a Z Z (fun w b=>bk u30 aN Z Z (d.b b.fr) k) Z<|H a Z Z (fun w b=>a9 u38 Z Z (d.b b.fr) k Z) Z<|H a Z Z (fun w b=>aj Z Z (qG _ A t)) Z<|bp a<|ak ?_
   apply gl9 Z h<;>intro h
   ·refine R<|V 1 Z<|gl8<|bu<|aU<|aU<|have h:=aI h e;bu<|aU ?_
    cases h
    exact az Z Z ⟨Z,a⟩
   refine gl6<|V 1 Z<|P<|ay<|bu<|aU<|aU<|have h:=aI h e;bu<|aU ?_
   cases h
   exact az Z Z ⟨Z,a⟩
  exact cd<|aF<|ak<|al<|V 3 Z<|aE<|bd (bc (q (wI (u - 1)) _ _ ⟨Z,a⟩ (aK h e)) Z)
 refine aQ<|av<|av<|have h:=aI h e;aR<|ak<|R<|V 1 Z<|P<|ay ?_
 cases h
 exact az Z Z ⟨Z,a⟩
theorem kY {d:World} {a0:L0} {c:Value} {r:UInt64}
  (h:F.Gf a0=some r) (b:RP [] d X c a0):Calls Tryz.prog 184 #[c] d (Ret fun v w=>v=v64 r/\St [] d w []):=by
 refine aB 22 Tryz.func184 Z Z Z<|have a:=St.k d;ax [(0,c)] Z ?_
 unfold F.Gf at h
 refine R<|V 1 Z<|gl2<|V 1 Z<|P ?_
 refine a8 (r:=r) (fun (g:UInt64) L w=>L=[(0,c),(3,v64 g)]/\St [] d w []) (F.Jm a0) ?_ ?_
 rotate_left
 ·intro e
  refine R<|V 1 Z<|N (aC u30 Z (b.b a.fr)) Z<|V 1 Z<|P ?_
  apply gl9 Z h<;>intro h
  ·exact al<|V 1 Z<|J h fun m f h=>N (bk u30 aN Z Z (b.b a.fr) f) Z<|N (a9 u38 Z Z (b.b a.fr) f Z) Z<|N (aD Z (bK u38 u119 m)) Z<|V 1 Z<|P<|aG (e m.toUInt64 _ _ ⟨Z,a⟩ h) Z
  exact gl5<|aG (e 0 _ _ ⟨Z,a⟩ h) Z
 rintro n L w i h
 try dsimp only at i
 obtain⟨rfl,a⟩:=i
 unfold F.Jm at h
 refine a8 (r:=r) (fun (g:UInt64) L w=>L=[(3,v64 g)]/\St [] d w []) (F.Ju) ?_ ?_
 rotate_left
 ·intro j
  refine R<|V 1 Z<|N (aC u30 Z (b.b a.fr)) Z<|V 1 Z<|P ?_
  apply gl9 Z h<;>intro h
  ·exact al<|V 2 Z<|J h fun k l h=>N (bk u30 aN Z Z (b.b a.fr) l) Z<|N (a9 u38 Z Z (b.b a.fr) l Z) Z<|N (aD Z (bK u38 u119 k)) Z<|N (aj Z Z (du _ k.toUInt64 32)) Z<|N (aj Z Z (fo _ n (bH k.toUInt64 32))) Z<|aZ h fun o p h=>N (ba (v:=v64 o) (by rw[<-p]; rfl)) Z<|P<|aG (j o _ _ ⟨Z,a⟩ h) Z
  exact gl5<|aG (j n _ _ ⟨Z,a⟩ h) Z
 rintro q L w i h
 try dsimp only at i
 obtain⟨rfl,a⟩:=i
 unfold F.Ju at h
 refine R<|V 2 Z<|P<|ay ?_
 cases h
 exact az Z Z ⟨Z,a⟩
theorem qw {k:World} {a0:L0} {c:Value} (a1:UInt32) {r:L0×UInt32}
  (h:F.Iw a0 a1=some r) (d:RP [] k X c a0):Calls Tryz.prog 185 #[c,v32 a1] k (Ret fun v w=>∃u0:Value,v=.tuple #[u0,v32 r.2]/\St [] k w [U X u0 r.1]):=by
 refine aB 43 Tryz.func185 Z Z Z<|have a:=St.k k;ax [(0,c),(1,v32 a1)] Z ?_
 unfold F.Iw at h
 refine R<|V 2 Z<|gl2<|V 1 Z<|N (aC u30 Z (d.b a.fr)) Z<|J h fun S B h=>bC (c9 (e:=X) u30 aN Z Z Z a B) Z fun f w a=>V 1 Z<|gl2<|V 1 Z<|gl1<|R<|V 1 Z<|N (aC u30 Z (d.b a.fr)) Z<|V 1 Z<|aZ h fun l C h=>N (ba (v:=I l) (by rw[<-C]; rfl)) Z<|P<|aq<|ax [(0,c),(1,v32 a1),(6,f),(7,v64 0),(8,I l)] Z ?_
 refine aT (F.FP a0 a1) (fun (s:UInt64×Int×L0) L w=>L=[(0,c),(1,v32 a1),(6,f),(7,v64 s.1),(8,I s.2.1)]/\St [] k w [U X f s.2.2]) ?_ (0,l,S) ⟨Z,a⟩ h
 rintro ah ⟨m,T,ab⟩ L w H hI D h n
 try dsimp only at hI
 obtain⟨rfl,a⟩:=hI
 unfold F.FP at h
 refine aw<|R<|V 2 Z<|P ?_
 apply gl9 Z h<;>intro h
 ·refine gl5<|aw<|aq<|R<|V 1 Z<|N (aj Z Z (du _ m 32)) Z<|V 2 Z<|J h fun o g h=>N (bk u30 aN Z Z (d.b a.fr) g) Z<|N (a9 u38 Z Z (d.b a.fr) g Z) Z<|N (aD Z (bK u38 u119 o)) Z<|N (aj Z Z (fo _ (bH m 32) o.toUInt64)) Z<|aZ h fun b q h=>N (ba (v:=v64 b) (by rw[<-q]; rfl)) Z<|gl2<|V 4 Z<|N (aD Z (bK u38 u119 a1)) Z<|c7 h fun u h=>N (aj Z Z (ii _ b a1.toUInt64 u)) Z<|N (aD Z (cc u119 u38 (b / a1.toUInt64))) Z<|J h fun am j h=>N (bk u30 aN Z Z (a.ro 0 Z) j) Z<|bo (bX (t:=((b / a1.toUInt64).toUInt32)) aN Z Z a (i:=0) Z j Z) fun w a=>aZ h fun E x h=>?_
  rw[x]at a
  exact P<|al<|V 2 Z<|N (aD Z (bK u38 u119 a1)) Z<|c7 h fun y h=>N (aj Z Z (ft _ b a1.toUInt64 y)) Z<|V 1 Z<|aE<|aF<|ak<|al<|V 3 Z<|aE<|bd (bc (D (b%a1.toUInt64,wI (T - 1),E) _ _ ⟨Z,a⟩ (aK h n)) Z)
 refine aQ<|av<|av<|have h:=aI h n;aR<|ak<|R<|V 1 Z<|have hG:=a.pick (os':=[U X f ab]++[]) [0] (by decide) Z;J h fun an z h=>aH Z (dR  z hG.f ) Z ?_
 rintro G w ⟨ae,p,A⟩
 rw[<-p]at A
 have a:=hG.g A
 refine V 1 Z<|N (aD Z (cc u119 u38 m)) Z<|V 2 Z<|P<|ay ?_
 cases h
 exact bY Z Z Z ⟨G,Z,a.d [0] Z Z⟩
theorem iL {d:World} {a0:L0} {b:Value} {r:Int}
  (h:F.FZ a0=some r) (c:RP [] d X b a0):Calls Tryz.prog 123 #[b] d (Ret fun v w=>v=I r/\St [] d w []):=by
 refine aB 26 Tryz.func123 Z Z Z<|have a:=St.k d;ax [(0,b)] Z ?_
 unfold F.FZ at h
 refine R<|V 1 Z<|gl1<|R<|V 1 Z<|N (aC u30 Z (c.b a.fr)) Z<|V 1 Z<|P ?_
 apply gl9 Z h<;>intro h
 ·refine R<|V 1 Z<|gl8 ?_
  cases h
  exact az Z Z ⟨Z,a⟩
 refine gl6<|V 1 Z<|gl1<|R<|V 2 Z<|N (aC u30 Z (c.b a.fr)) Z<|V 1 Z<|J h fun i e h=>N (bk u30 aN Z Z (c.b a.fr) e) Z<|N (a9 u38 Z Z (c.b a.fr) e Z) Z<|V 1 Z<|P<|aq<|ax [(0,b),(3,I 0),(4,v32 i)] Z ?_
 refine aT (F.Fi a0) (fun (s:Int×UInt32) L w=>L=[(0,b),(3,I s.1),(4,v32 s.2)]/\St [] d w []) ?_ (0,i) ⟨Z,a⟩ h
 rintro m ⟨k,f⟩ L w n l j h g
 try dsimp only at l
 obtain⟨rfl,a⟩:=l
 unfold F.Fi at h
 refine aw<|R<|V 1 Z<|N (aj Z Z (jN _ f 0)) Z<|P ?_
 apply gl9 Z h<;>intro h
 ·exact gl5<|aw<|aq<|al<|V 3 Z<|aE<|aF<|ak<|al<|V 1 Z<|N (aj Z Z (cO _ f 1)) Z<|V 1 Z<|aE<|bd (bc (j (wI (k+1),bA f 1) _ _ ⟨Z,a⟩ (aK h g)) Z)
 refine aQ<|av<|av<|have h:=aI h g;aR<|ak<|R<|V 1 Z<|N (aC u30 Z (c.b a.fr)) Z<|V 1 Z<|N (aj Z Z (el _ (wI ((a0.length:Int) - 1)) 32)) Z<|V 3 Z<|P<|ay ?_
 cases h
 exact az Z Z ⟨Z,a⟩
theorem qz {q:World} {a0:L0} {c:Value} (a1:UInt64) {r:L0}
  (h:F.I4 a0 a1=some r) (b:RP [] q X c a0):Calls Tryz.prog 186 #[c,v64 a1] q (Ret fun v w=>St [] q w [U X v r]):=by
 refine aB 64 Tryz.func186 Z Z Z<|have a:=St.k q;ax [(0,c),(1,v64 a1)] Z ?_
 unfold F.I4 at h
 refine R<|V 1 Z<|gl2<|V 1 Z<|N (aj Z Z (ii _ a1 32 (by decide))) Z<|N (aD Z (nR u87 u3 (a1 / 32))) Z<|V 1 Z<|N (aj Z Z (ft _ a1 32 (by decide))) Z<|aZ h fun f G h=>N (ba (v:=I f) (by rw[<-G]; rfl)) Z<|V 1 Z<|gl1<|R<|V 2 Z<|N (aC u30 Z (b.b a.fr)) Z<|V 1 Z<|P ?_
 apply gl9 Z h<;>intro h
 ·refine R<|V 1 Z<|gl8 ?_
  cases h
  exact az Z Z ((a.nil X).d [0] Z Z)
 refine gl6<|V 1 Z<|N (aC u30 Z (b.b a.fr)) Z<|V 2 Z<|J h fun ac S h=>bC (c9 (e:=X) u30 aN Z Z Z a S) Z fun d w a=>V 1 Z<|gl1<|R<|V 1 Z<|P<|aq<|ax [(0,c),(5,I f),(6,v64 (a1%32)),(7,d),(8,I 0)] Z ?_
 refine aT (F.Gx a0 f a1) (fun (s:Int×L0) L w=>L=[(0,c),(5,I f),(6,v64 (a1%32)),(7,d),(8,I s.1)]/\St [] q w [U X d s.2]) ?_ (0,ac) ⟨Z,a⟩ h
 rintro an ⟨u,x⟩ L w ad hI T h y
 try dsimp only at hI
 obtain⟨rfl,a⟩:=hI
 unfold F.Gx at h
 refine aw<|R<|V 2 Z<|N (aC u30 Z (a.ro 0 Z)) Z<|V 1 Z<|P ?_
 apply gl9 Z h<;>intro h
 ·refine gl5<|aw<|aq<|R<|V 4 Z<|J h fun j m h=>N (bk u30 aN Z Z (b.b a.fr) m) Z<|N (a9 u38 Z Z (b.b a.fr) m Z) Z<|N (aD Z (bK u38 u119 j)) Z<|V 1 Z<|P ?_
  refine a8 (r:=ad) (fun (g:UInt64) L w=>L=[(0,c),(5,I f),(6,v64 (a1%32)),(7,d),(8,I u),(9,v64 g)]/\St [] q w [U X d x]) (F.G5 a1 u x) ?_ ?_
  rotate_left
  ·intro n
   refine R<|V 5 Z<|N (aC u30 Z (b.b a.fr)) Z<|V 1 Z<|P ?_
   apply gl9 Z h<;>intro h
   ·exact al<|V 6 Z<|J h fun k o h=>N (bk u30 aN Z Z (b.b a.fr) o) Z<|N (a9 u38 Z Z (b.b a.fr) o Z) Z<|N (aD Z (bK u38 u119 k)) Z<|N (aj Z Z (du _ k.toUInt64 32)) Z<|N (aj Z Z (fo _ j.toUInt64 (bH k.toUInt64 32))) Z<|aZ h fun z B h=>N (ba (v:=v64 z) (by rw[<-B]; rfl)) Z<|P<|aG (n z _ _ ⟨Z,a⟩ h) Z
   exact gl5<|aG (n j.toUInt64 _ _ ⟨Z,a⟩ h) Z
  rintro l L w hJ h
  try dsimp only at hJ
  obtain⟨rfl,a⟩:=hJ
  unfold F.G5 at h
  refine al<|V 4 Z<|N (aj Z Z (cf _ l (a1%32))) Z<|N (aD Z (cc u119 u38 (aO l ((a1%32).toNat)))) Z<|J h fun ao p h=>N (bk u30 aN Z Z (a.ro 0 Z) p) Z<|bo (bX (t:=((aO l ((a1%32).toNat)).toUInt32)) aN Z Z a (i:=0) Z p Z) fun w a=>aZ h fun ab C h=>?_
  rw[C]at a
  exact aE<|aF<|ak<|al<|V 3 Z<|aE<|bd (bc (T (wI (u+1),ab) _ _ ⟨Z,a⟩ (aK h y)) Z)
 refine aQ<|av<|av<|have h:=aI h y;aR<|ak<|R<|V 1 Z<|have hG:=a.pick (os':=[U X d x]++[]) [0] (by decide) Z;J h fun ap D h=>aH Z (dR  D hG.f ) Z ?_
 rintro ar w ⟨am,A,E⟩
 rw[<-A]at E
 have a:=hG.g E
 refine V 1 Z<|P<|ay ?_
 cases h
 exact az Z Z (a.d [0] Z Z)
end Go.Proofs
