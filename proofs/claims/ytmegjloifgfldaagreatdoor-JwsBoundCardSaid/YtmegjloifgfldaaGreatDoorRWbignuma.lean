import Derived.Test.YtmegjloifgfldaaGreatDoorRW0
import Derived.Test.YtmegjloifgfldaaGreatDoorGkFman
set_option linter.unusedVariables false
set_option linter.unusedSimpArgs false
set_option linter.unusedSectionVars false
set_option maxRecDepth 4000
namespace Go.Proofs
open Go Go.RowKit Go.Gk
open Go.Gk renaming aa -> V, af -> M, ag -> O, ai -> J, e32 -> X, gl3 -> Q, gl4 -> R, own -> U, pB -> P, vB -> N, vI -> H
open Go.Gk.OE renaming bx -> Y
theorem dA {f:World} {a0:Q0} {a:Value} {S:Q2} {r:Q0}
  (h:F.GI a0=some r) (b:St S f f [U X a a0]):Calls Tryz.prog 165 #[a] f (Ret fun v w=>∃u0:Value,v=u0/\St S f w [U X u0 r]):=by
 refine ax 21 Tryz.func165 Z Z Z<|ay [(0,a)] Z ?_
 unfold F.GI at h
 refine R<|V 1 Z<|gl2<|V 1 Z<|O (aD u57 Z (b.ro 0 Z)) Z<|V 1 Z<|gl1<|av<|ay [(0,a),(3,H (a0.length:Int))] Z ?_
 refine bg (F.Lc a0) (fun (s:Int) L w=>L=[(0,a),(3,H s)]/\St S f w [U X a a0]) ?_ (a0.length:Int) ⟨Z,b⟩ h
 rintro u d L w o p n h j
 try dsimp only at p
 obtain⟨rfl,b⟩:=p
 unfold F.Lc at h
 refine az ?_
 refine aT (r:=o) (fun (g:Bool) L w=>L=[(0,a),(3,H d),(15,N g)]/\St S f w [U X a a0]) (F.Lm a0 d) ?_ ?_
 rotate_left
 ·intro k
  refine am<|V 3 Z ?_
  cases c:(decide ((0:Int)<d))
  case true=>
   have h:=bD h c
   try simp only[c]
   exact V 3 Z<|M h fun m l h=>aI (t:=8) Z Z (bh u57 aN Z Z (b.ro 0 Z) l) Z<|aI (t:=8) Z Z (aW u106 Z Z (b.ro 0 Z) l Z) Z<|aI (t:=8) Z Z (aj Z Z (rT _ m 0)) Z<|V 1 Z<|Q<|aA (k (m == 0) _ _ ⟨Z,b⟩ h) Z
  case false=>
   have h:=bE h c
   try simp only[c]
   exact V 7 Z<|Q<|aA (k false _ _ ⟨Z,b⟩ h) Z
 rintro x L w q h
 try dsimp only at q
 obtain⟨rfl,b⟩:=q
 unfold F.Lm at h
 apply gl9 Z h<;>intro h
 ·exact gl5<|av<|am<|V 3 Z<|aE<|aF<|bn (br (n (wI (d - 1)) _ _ ⟨Z,b⟩ (aX h j)) Z)
 refine a7<|aB<|aB<|have h:=aS h j;a8<|al<|R<|V 2 Z<|dh h fun e h=>O (mD u57 aN Z Z (b.ro 0 Z) (oC e)) Z<|V 1 Z<|Q<|ar ?_
 cases h
 replace b:=b.trunc (i:=0) rfl e.2
 exact au Z Z ⟨slV a X.sz 0 ((d:Int).toNat),Z,b.d [0] Z Z⟩
theorem eW {d:World} (a0:UInt64) {r:Q0}
  (h:F.Hn a0=some r) :Calls Tryz.prog 126 #[v64 a0] d (Ret fun v w=>St [] d w [U X v r]):=by
 refine ax 10 Tryz.func126 Z Z Z<|have a:=St.k d;ay [(0,v64 a0)] Z ?_
 unfold F.Hn at h
 refine R<|V 1 Z<|gl2<|V 1 Z<|O (aG Z (ch u103 u106 a0)) Z<|V 1 Z<|O (aj Z Z (cc _ a0 32)) Z<|O (aG Z (ch u103 u106 (aP a0 32))) Z<|bm (bJ (e:=X) (l:=([a0.toUInt32,(aP a0 32).toUInt32]:Q0)) (vs:=[v32 a0.toUInt32,v32 ((aP a0 32).toUInt32)]) u57 aN Z Z Z Z (by decide) (by decide) a) Z fun g w a=>have i:=a.pick (os':=[U X g ([a0.toUInt32,(aP a0 32).toUInt32]:Q0)]++[]) [0] (by decide) Z;M h fun k f h=>aK Z (dA  f i.f ) Z ?_
 rintro m w ⟨j,b,c⟩
 rw[<-b]at c
 have a:=i.g c
 refine V 1 Z<|Q<|ar ?_
 cases h
 exact au Z Z (a.d [0] Z Z)
theorem og {l:World} {a0 a1:Q0} {c d:Value} {r:Q0}
  (h:F.JY a0 a1=some r) (p:RP [] l X c a0) (k:RP [] l X d a1):Calls Tryz.prog 177 #[c,d] l (Ret fun v w=>St [] l w [U X v r]):=by
 refine ax 75 Tryz.func177 Z Z Z<|have a:=St.k l;ay [(0,c),(1,d)] Z ?_
 unfold F.JY at h
 refine R<|V 1 Z<|gl1 ?_
 refine aT (r:=r) (fun (g:Bool) L w=>L=[(0,c),(1,d),(16,N g)]/\St [] l w []) (F.IJ a0 a1) ?_ ?_
 rotate_left
 ·intro E
  refine am<|V 1 Z<|O (aD u57 Z (p.b a.fr)) Z<|V 2 Z ?_
  cases m:((a0.length:Int) == 0)
  case true=>
   have h:=bD h m
   try simp only[m]
   exact V 4 Z<|Q<|aA (E true _ _ ⟨Z,a⟩ h) Z
  case false=>
   have h:=bE h m
   try simp only[m]
   exact V 1 Z<|aI (t:=12) Z Z (aD u57 Z (k.b a.fr)) Z<|V 2 Z<|Q<|aA (E ((a1.length:Int) == 0) _ _ ⟨Z,a⟩ h) Z
 rintro ba L w hJ h
 try dsimp only at hJ
 obtain⟨rfl,a⟩:=hJ
 unfold F.IJ at h
 apply gl9 Z h<;>intro h
 ·refine R<|V 1 Z<|gl8 ?_
  cases h
  exact au Z Z ((a.nil X).d [0] Z Z)
 refine gl6<|V 1 Z<|O (aD u57 Z (p.b a.fr)) Z<|V 1 Z<|O (aD u57 Z (k.b a.fr)) Z<|V 1 Z<|M h fun aO aq h=>bm (cW (e:=X) u57 aN Z Z Z a aq) Z fun f w a=>V 1 Z<|gl1<|R<|V 1 Z<|Q<|av<|ay [(0,c),(1,d),(5,f),(6,H 0)] Z ?_
 refine bg (F.Ip a0 a1) (fun (s:Int×Q0) L w=>L=[(0,c),(1,d),(5,f),(6,H s.1)]/\St [] l w [U X f s.2]) ?_ (0,aO) ⟨Z,a⟩ h
 rintro aV ⟨x,ao⟩ L w aY G ab h S
 try dsimp only at G
 obtain⟨rfl,a⟩:=G
 unfold F.Ip at h
 refine az<|R<|V 2 Z<|O (aD u57 Z (p.b a.fr)) Z<|V 1 Z<|Q ?_
 apply gl9 Z h<;>intro h
 ·refine gl5<|az<|av<|R<|V 1 Z<|gl1<|R<|V 1 Z<|Q<|av<|ay [(0,c),(1,d),(5,f),(6,H x),(7,v64 0),(8,H 0)] Z ?_
  refine bg (F.Io a0 a1 x) (fun (s:UInt64×Int×Q0) L w=>L=[(0,c),(1,d),(5,f),(6,H x),(7,v64 s.1),(8,H s.2.1)]/\St [] l w [U X f s.2.2]) ?_ (0,0,ao) ⟨Z,a⟩ h
  rintro aZ ⟨q,aw,aC⟩ L w a2 G ac h y
  try dsimp only at G
  obtain⟨rfl,a⟩:=G
  unfold F.Io at h
  refine az<|R<|V 2 Z<|O (aD u57 Z (k.b a.fr)) Z<|V 1 Z<|Q ?_
  apply gl9 Z h<;>intro h
  ·refine gl5<|az<|av<|az<|aQ (fun w'=>St [] l w' [U X f aC]) (fun _=>true) bL (fun _ _ _ hf=>hf.2) (fun _ _ hf=>hf) (by kernel_rfl)<|have a:=a.drew;show lxE _ _ _ _ _ _ _ [0,1,2,3,4,5,6,7,8,9,10,11,12,13,14,15,16,17,18,19,20,21] _ _ from an 3 Z a<|M h fun n z h=>J a Z Z (fun w b=>bh u57 aN Z Z (p.b b.fr) z) Z<|J a Z Z (fun w b=>aW u106 Z Z (p.b b.fr) z Z) Z<|J a Z Z (fun w b=>aG Z (bC u106 u103 n)) Z<|an 2 Z a<|M h fun o A h=>J a Z Z (fun w b=>bh u57 aN Z Z (k.b b.fr) A) Z<|J a Z Z (fun w b=>aW u106 Z Z (k.b b.fr) A Z) Z<|J a Z Z (fun w b=>aG Z (bC u106 u103 o)) Z<|J a Z Z (fun w b=>aj Z Z (jw _ n.toUInt64 o.toUInt64)) Z<|an 4 Z a<|M h fun u B h=>J a Z Z (fun w b=>bh u57 aN Z Z (b.ro 0 Z) B) Z<|J a Z Z (fun w b=>aW u106 Z Z (b.ro 0 Z) B Z) Z<|J a Z Z (fun w b=>aG Z (bC u106 u103 u)) Z<|J a Z Z (fun w b=>aj Z Z (cD _ (n.toUInt64*o.toUInt64) u.toUInt64)) Z<|J a Z Z (fun w b=>aj Z Z (cD _ q ((n.toUInt64*o.toUInt64)+u.toUInt64))) Z ?_
   refine bd h fun j ad h=>J a Z Z (fun w b=>bc (v:=v64 j) (by rw[<-ad]; rfl)) Z<|a9 a<|al<|R<|V 5 Z<|O (aG Z (ch u103 u106 j)) Z<|M h fun a3 C h=>O (bh u57 aN Z Z (a.ro 0 Z) C) Z<|bo (bZ (t:=j.toUInt32) aN Z Z a (i:=0) Z C Z) fun w a=>bd h fun aJ ae h=>?_
   rw[ae]at a
   exact Q<|am<|V 1 Z<|O (aj Z Z (cc _ j 32)) Z<|V 1 Z<|aE<|aF<|al<|am<|V 3 Z<|aE<|bn (br (ac (aP j 32,wI (aw+1),aJ) _ _ ⟨Z,a⟩ (aX h y)) Z)
  refine a7<|aB<|aB<|have h:=aS h y;a8<|al<|am<|V 3 Z<|O (aD u57 Z (k.b a.fr)) Z<|V 2 Z<|O (aG Z (ch u103 u106 q)) Z<|M h fun a4 D h=>O (bh u57 aN Z Z (a.ro 0 Z) D) Z<|bo (bZ (t:=q.toUInt32) aN Z Z a (i:=0) Z D Z) fun w a=>bd h fun aL ah h=>?_
  rw[ah]at a
  exact aE<|aF<|al<|am<|V 3 Z<|aE<|bn (br (ab (wI (x+1),aL) _ _ ⟨Z,a⟩ (aX h S)) Z)
 refine a7<|aB<|aB<|have h:=aS h S;a8<|al<|R<|V 1 Z<|have hG:=a.pick (os':=[U X f ao]++[]) [0] (by decide) Z;M h fun a5 ak h=>aK Z (dA  ak hG.f ) Z ?_
 rintro a6 w ⟨aU,T,ap⟩
 rw[<-T]at ap
 have a:=hG.g ap
 refine V 1 Z<|Q<|ar ?_
 cases h
 exact au Z Z (a.d [0] Z Z)
theorem kR {f:World} {a0 a1:Q0} {n o:Value} {r:Q0}
  (h:F.IF a0 a1=some r) (C:RP [] f X n a0) (D:RP [] f X o a1):Calls Tryz.prog 124 #[n,o] f (Ret fun v w=>St [] f w [U X v r]):=by
 refine ax 58 Tryz.func124 Z Z Z<|have a:=St.k f;ay [(0,n),(1,o)] Z ?_
 unfold F.IF at h
 refine R<|V 1 Z<|Q ?_
 refine aT (r:=r) (fun (g:Q0×Q0) L w=>∃(j:Value) (k:Value),L=[(0,j),(1,k)]/\RP [] f X j g.1/\RP [] f X k g.2/\St [] f w []) (F.JK) ?_ ?_
 rotate_left
 ·intro E
  refine R<|V 1 Z<|O (aD u57 Z (C.b a.fr)) Z<|V 1 Z<|O (aD u57 Z (D.b a.fr)) Z<|V 1 Z<|Q ?_
  apply gl9 Z h<;>intro h
  ·exact am<|V 4 Z<|Q<|aA (E (a1,a0) _ _ ⟨o,n,Z,D,C,a⟩ h) Z
  exact gl5<|aA (E (a0,a1) _ _ ⟨n,o,Z,C,D,a⟩ h) Z
 rintro⟨aC,aH⟩ L w G h
 try dsimp only at G
 obtain⟨j,k,rfl,c,p,a⟩:=G
 unfold F.JK at h
 refine R<|V 1 Z<|O (aD u57 Z (c.b a.fr)) Z<|V 1 Z<|M h fun aI ao h=>bm (cW (e:=X) u57 aN Z Z Z a ao) Z fun b w a=>V 1 Z<|gl2<|V 1 Z<|gl1<|R<|V 1 Z<|Q<|av<|ay [(0,j),(1,k),(5,b),(6,v64 0),(7,H 0)] Z ?_
 refine bg (F.IH aC aH) (fun (s:UInt64×Int×Q0) L w=>L=[(0,j),(1,k),(5,b),(6,v64 s.1),(7,H s.2.1)]/\St [] f w [U X b s.2.2]) ?_ (0,0,aI) ⟨Z,a⟩ h
 rintro aO ⟨d,q,S⟩ L w ap hI ad h u
 try dsimp only at hI
 obtain⟨rfl,a⟩:=hI
 unfold F.IH at h
 refine az<|R<|V 2 Z<|O (aD u57 Z (c.b a.fr)) Z<|V 1 Z<|Q ?_
 apply gl9 Z h<;>intro h
 ·refine gl5<|az<|av<|R<|V 3 Z<|M h fun l x h=>O (bh u57 aN Z Z (c.b a.fr) x) Z<|O (aW u106 Z Z (c.b a.fr) x Z) Z<|O (aG Z (bC u106 u103 l)) Z<|O (aj Z Z (cD _ d l.toUInt64)) Z<|V 1 Z<|Q ?_
  refine aT (r:=ap) (fun (g:UInt64) L w=>L=[(0,j),(1,k),(5,b),(6,v64 g),(7,H q)]/\St [] f w [U X b S]) (F.JH q S) ?_ ?_
  rotate_left
  ·intro y
   refine R<|V 2 Z<|O (aD u57 Z (p.b a.fr)) Z<|V 1 Z<|Q ?_
   apply gl9 Z h<;>intro h
   ·exact am<|V 3 Z<|M h fun T z h=>O (bh u57 aN Z Z (p.b a.fr) z) Z<|O (aW u106 Z Z (p.b a.fr) z Z) Z<|O (aG Z (bC u106 u103 T)) Z<|O (aj Z Z (cD _ (d+l.toUInt64) T.toUInt64)) Z<|bd h fun ab ae h=>O (bc (v:=v64 ab) (by rw[<-ae]; rfl)) Z<|Q<|aA (y ab _ _ ⟨Z,a⟩ h) Z
   exact gl5<|aA (y (d+l.toUInt64) _ _ ⟨Z,a⟩ h) Z
  rintro m L w G h
  try dsimp only at G
  obtain⟨rfl,a⟩:=G
  unfold F.JH at h
  refine R<|V 3 Z<|O (aG Z (ch u103 u106 m)) Z<|M h fun aQ A h=>O (bh u57 aN Z Z (a.ro 0 Z) A) Z<|bo (bZ (t:=m.toUInt32) aN Z Z a (i:=0) Z A Z) fun w a=>bd h fun aq ah h=>?_
  rw[ah]at a
  exact Q<|am<|V 1 Z<|O (aj Z Z (cc _ m 32)) Z<|V 1 Z<|aE<|aF<|al<|am<|V 3 Z<|aE<|bn (br (ad (aP m 32,wI (q+1),aq) _ _ ⟨Z,a⟩ (aX h u)) Z)
 refine a7<|aB<|aB<|have h:=aS h u;a8<|al<|R<|V 2 Z<|O (aD u57 Z (c.b a.fr)) Z<|V 1 Z<|O (aG Z (ch u103 u106 d)) Z<|M h fun aR B h=>O (bh u57 aN Z Z (a.ro 0 Z) B) Z<|bo (bZ (t:=d.toUInt32) aN Z Z a (i:=0) Z B Z) fun w a=>bd h fun aw J h=>?_
 rw[J]at a
 refine gl2<|V 1 Z<|have hG:=a.pick (os':=[U X b aw]++[]) [0] (by decide) Z;M h fun aU ak h=>aK Z (dA  ak hG.f ) Z ?_
 rintro aV w ⟨aM,ac,an⟩
 rw[<-ac]at an
 have a:=hG.g an
 refine V 1 Z<|Q<|ar ?_
 cases h
 exact au Z Z (a.d [0] Z Z)
theorem bS {f:World} {j a2:Q0} {e b:Value} {c:Nat} {S:Q2} (l a1:Bool) {r:Bool×Q0}
  (h:F.GJ l j a1 a2=some r) (a:St S f f [Y c [N l,e],U X e j,U X b a2]):Calls Tryz.prog 127 #[P c 0,N a1,b] f (Ret fun v w=>∃m:Value,v=P c 0/\St S f w [Y c [N r.1,m],U X m r.2]):=by
 refine ax 21 Tryz.func127 Z Z Z<|ay [(0,P c 0),(1,N a1),(2,b)] Z ?_
 unfold F.GJ at h
 refine R<|V 1 Z<|gl2<|V 2 Z<|O (aL Z) Z<|O (ak (k:=1) u130 Z Z dD Z) Z<|bo (bq (i:=0) (us:=[b]) Z Gj Z Z (bQ (a.ro 2 Z).one) ⟨(a.ro 2 Z).one,K⟩ Z a) fun w a=>Q ?_
 refine aT (r:=r) (fun (g:Bool) L w=>L=[(0,P c 0)]/\St S f w [Y c [N g,b],U X b a2]) (F.KY a2) ?_ ?_
 rotate_left
 ·intro n
  refine am<|V 3 Z ?_
  cases d:a1
  case true=>
   replace h:=bD h d
   subst d
   exact V 1 Z<|aI (t:=13) Z Z (aD u57 Z (a.ro 2 Z)) Z<|V 2 Z<|O (aL Z) Z<|O (ak (k:=0) u130 Z Z nz4 Z) Z<|bo (bq (i:=0) (us:=[N (decide ((0:Int)<(a2.length:Int)))]) Z sz4 Z Z Z ⟨Z,K⟩ Z a) fun w a=>Q<|aA (n (decide ((0:Int)<(a2.length:Int))) _ _ ⟨Z,(a.d [0,2] Z Z)⟩ h) Z
  case false=>
   replace h:=bE h d
   subst d
   exact V 4 Z<|O (aL Z) Z<|O (ak (k:=0) u130 Z Z nz4 Z) Z<|bo (bq (i:=0) (us:=[N false]) Z sz4 Z Z Z ⟨Z,K⟩ Z a) fun w a=>Q<|aA (n false _ _ ⟨Z,(a.d [0,2] Z Z)⟩ h) Z
 rintro p L w o h
 try dsimp only at o
 obtain⟨rfl,a⟩:=o
 unfold F.KY at h
 refine R<|V 2 Z<|Q<|ar ?_
 cases h
 exact au Z Z ⟨b,Z,a.d [0,1] Z Z⟩
theorem lK {u:World} {d:Q0} {a:Value} {e:Nat} {S:Q2} (c:Bool) (a1:Q1) (a2:Int) {r:Bool×Bool×Q0}
  (h:F.K3 c d a1 a2=some r) (b:St S u u [Y e [N c,a],U X a d]):Calls Tryz.prog 176 #[P e 0,vS a1,H a2] u (Ret fun v w=>∃aC:Value,v=.tuple #[P e 0,N r.1]/\St S u w [Y e [N r.2.1,aC],U X aC r.2.2]):=by
 refine ax 124 Tryz.func176 Z Z Z<|ay [(0,P e 0),(1,vS a1),(2,H a2)] Z ?_
 unfold F.K3 at h
 refine R<|V 2 Z<|gl2<|V 1 Z<|Q ?_
 refine aT (r:=r) (fun (g:Q1×Bool) L w=>L=[(0,P e 0),(1,vS g.1),(2,H a2),(8,N g.2)]/\St S u w [Y e [N c,a],U X a d]) (F.LE a2 c d) ?_ ?_
 rotate_left
 ·intro J
  refine aT (r:=r) (fun (g:Bool) L w=>L=[(0,P e 0),(1,vS a1),(2,H a2),(8,N false),(25,N g)]/\St S u w [Y e [N c,a],U X a d]) (F.Kz a1 a2 c d) ?_ ?_
  rotate_left
  ·intro ah
   refine am<|V 1 Z<|O (dn Tryz.underlying9 Z) Z<|V 2 Z ?_
   cases T:(decide ((0:Int)<(a1.length:Int)))
   case true=>
    have h:=bD h T
    try simp only[T]
    refine V 1 Z<|M h fun be bi h=>aI (t:=16) Z Z (dI Tryz.underlying9 Z Z bi) Z<|aI (t:=16) Z Z (aj Z Z (ff _ be 45)) Z<|V 1 Z ?_
    cases ab:(be == 45)
    case true=>
     have h:=bD h ab
     try simp only[ab]
     exact V 5 Z<|Q<|aA (ah true _ _ ⟨Z,b⟩ h) Z
    case false=>
     have h:=bE h ab
     try simp only[ab]
     exact V 1 Z<|M h fun bf bj h=>aI (t:=20) Z Z (dI Tryz.underlying9 Z Z bj) Z<|aI (t:=20) Z Z (aj Z Z (ff _ bf 43)) Z<|V 2 Z<|Q<|aA (ah (bf == 43) _ _ ⟨Z,b⟩ h) Z
   case false=>
    have h:=bE h T
    try simp only[T]
    exact V 9 Z<|Q<|aA (ah false _ _ ⟨Z,b⟩ h) Z
  rintro bQ L w j h
  try dsimp only at j
  obtain⟨rfl,b⟩:=j
  unfold F.Kz at h
  apply gl9 Z h<;>intro h
  ·exact R<|V 1 Z<|M h fun bh bk h=>O (dI Tryz.underlying9 Z Z bk) Z<|O (aj Z Z (ff _ bh 45)) Z<|V 1 Z<|Q<|am<|V 1 Z<|M h fun bl aQ h=>O (qU Tryz.underlying9 Z Z aQ) Z<|V 1 Z<|Q<|aA (J (bl,bh == 45) _ _ ⟨Z,b⟩ h) Z
  exact gl5<|aA (J (a1,false) _ _ ⟨Z,b⟩ h) Z
 rintro⟨m,i⟩ L w j h
 try dsimp only at j
 obtain⟨rfl,b⟩:=j
 unfold F.LE at h
 refine aT (r:=r) (fun (g:Q1×Int) L w=>L=[(0,P e 0),(1,vS g.1),(2,H g.2),(8,N i)]/\St S u w [Y e [N c,a],U X a d]) (F.Iu c d i) ?_ ?_
 rotate_left
 ·intro x
  refine R<|V 2 Z<|Q ?_
  apply gl9 Z h<;>intro h
  ·refine R<|V 1 Z<|Q ?_
   refine aT (r:=r) (fun (g:Bool) L w=>L=[(0,P e 0),(1,vS m),(2,H 10),(8,N i),(40,N g)]/\St S u w [Y e [N c,a],U X a d]) (F.Mj m c d i) ?_ ?_
   rotate_left
   ·intro ak
    refine am<|V 1 Z<|O (dn Tryz.underlying9 Z) Z<|V 2 Z ?_
    cases y:(decide ((2:Int)<(m.length:Int)))
    case true=>
     have h:=bD h y
     try simp only[y]
     exact V 1 Z<|M h fun aD aR h=>aI (t:=36) Z Z (dI Tryz.underlying9 Z Z aR) Z<|aI (t:=36) Z Z (aj Z Z (ff _ aD 48)) Z<|V 1 Z<|Q<|aA (ak (aD == 48) _ _ ⟨Z,b⟩ h) Z
    case false=>
     have h:=bE h y
     try simp only[y]
     exact V 4 Z<|Q<|aA (ak false _ _ ⟨Z,b⟩ h) Z
   rintro bv L w j h
   try dsimp only at j
   obtain⟨rfl,b⟩:=j
   unfold F.Mj at h
   apply gl9 Z h<;>intro h
   ·refine aT (r:=r) (fun (g:Int) L w=>L=[(0,P e 0),(1,vS m),(2,H g),(8,N i)]/\St S u w [Y e [N c,a],U X a d]) (F.Ke m c d i) ?_ ?_
    rotate_left
    ·intro z
     refine R<|V 1 Z<|M h fun l aU h=>O (dI Tryz.underlying9 Z Z aU) Z<|Q<|av ?_
     refine aT (r:=r) (fun (g:Bool) L w=>L=[(0,P e 0),(1,vS m),(2,H 10),(8,N i),(42,v8 l),(43,N g)]/\St S u w [Y e [N c,a],U X a d]) (F.Mq l m c d i) ?_ ?_
     rotate_left
     ·intro an
      refine R<|O (aj Z Z (ff _ l 120)) Z<|V 1 Z<|Q ?_
      apply gl9 Z h<;>intro h
      ·exact gl5<|aA (an (l == 120) _ _ ⟨Z,b⟩ h) Z
      exact am<|O (aj Z Z (ff _ l 88)) Z<|V 1 Z<|Q<|aA (an (l == 88) _ _ ⟨Z,b⟩ h) Z
     rintro bw L w j h
     try dsimp only at j
     obtain⟨rfl,b⟩:=j
     unfold F.Mq at h
     apply gl9 Z h<;>intro h
     ·exact am<|V 1 Z<|aE<|aF<|al<|aA (z 16 _ _ ⟨Z,b⟩ h) Z
     refine aT (r:=r) (fun (g:Bool) L w=>L=[(0,P e 0),(1,vS m),(2,H 10),(8,N i),(42,v8 l),(46,N g)]/\St S u w [Y e [N c,a],U X a d]) (F.L5 l m c d i) ?_ ?_
     rotate_left
     ·intro ao
      refine R<|O (aj Z Z (ff _ l 98)) Z<|V 1 Z<|Q ?_
      apply gl9 Z h<;>intro h
      ·exact gl5<|aA (ao (l == 98) _ _ ⟨Z,b⟩ h) Z
      exact am<|O (aj Z Z (ff _ l 66)) Z<|V 1 Z<|Q<|aA (ao (l == 66) _ _ ⟨Z,b⟩ h) Z
     rintro bz L w j h
     try dsimp only at j
     obtain⟨rfl,b⟩:=j
     unfold F.L5 at h
     apply gl9 Z h<;>intro h
     ·exact am<|V 1 Z<|aE<|aF<|al<|aA (z 2 _ _ ⟨Z,b⟩ h) Z
     refine aT (r:=r) (fun (g:Bool) L w=>L=[(0,P e 0),(1,vS m),(2,H 10),(8,N i),(49,N g)]/\St S u w [Y e [N c,a],U X a d]) (F.Mf m c d i) ?_ ?_
     rotate_left
     ·intro ap
      refine R<|O (aj Z Z (ff _ l 111)) Z<|V 1 Z<|Q ?_
      apply gl9 Z h<;>intro h
      ·exact gl5<|aA (ap (l == 111) _ _ ⟨Z,b⟩ h) Z
      exact am<|O (aj Z Z (ff _ l 79)) Z<|V 1 Z<|Q<|aA (ap (l == 79) _ _ ⟨Z,b⟩ h) Z
     rintro bA L w j h
     try dsimp only at j
     obtain⟨rfl,b⟩:=j
     unfold F.Mf at h
     apply gl9 Z h<;>intro h
     ·exact am<|V 1 Z<|aE<|aF<|al<|aA (z 8 _ _ ⟨Z,b⟩ h) Z
     exact cg<|aF<|al<|aA (z 10 _ _ ⟨Z,b⟩ h) Z
    rintro aH L w j h
    try dsimp only at j
    obtain⟨rfl,b⟩:=j
    unfold F.Ke at h
    refine R<|V 2 Z<|Q ?_
    apply gl9 Z h<;>intro h
    ·exact am<|V 1 Z<|M h fun bm aV h=>O (qU Tryz.underlying9 Z Z aV) Z<|V 1 Z<|Q<|aA (x (bm,aH) _ _ ⟨Z,b⟩ h) Z
    exact gl5<|aA (x (m,aH) _ _ ⟨Z,b⟩ h) Z
   exact gl5<|aA (x (m,10) _ _ ⟨Z,b⟩ h) Z
  exact gl5<|aA (x (m,a2) _ _ ⟨Z,b⟩ h) Z
 rintro⟨o,k⟩ L w j h
 try dsimp only at j
 obtain⟨rfl,b⟩:=j
 unfold F.Iu at h
 refine az ?_
 refine aT (r:=r) (fun (g:Bool) L w=>L=[(0,P e 0),(1,vS o),(2,H k),(8,N i),(66,N g)]/\St S u w [Y e [N c,a],U X a d]) (F.Jm c d i o k) ?_ ?_
 rotate_left
 ·intro ac
  refine am<|V 1 Z<|O (dn Tryz.underlying9 Z) Z<|V 2 Z ?_
  cases A:((o.length:Int) == 0)
  case true=>
   have h:=bD h A
   try simp only[A]
   exact V 7 Z<|Q<|aA (ac true _ _ ⟨Z,b⟩ h) Z
  case false=>
   have h:=bE h A
   try simp only[A]
   refine V 4 Z ?_
   cases B:(decide (k<2))
   case true=>
    have h:=bD h B
    try simp only[B]
    exact V 3 Z<|Q<|aA (ac true _ _ ⟨Z,b⟩ h) Z
   case false=>
    have h:=bE h B
    try simp only[B]
    exact V 3 Z<|Q<|aA (ac (decide ((36:Int)<k)) _ _ ⟨Z,b⟩ h) Z
 rintro bB L w j h
 try dsimp only at j
 obtain⟨rfl,b⟩:=j
 unfold F.Jm at h
 apply gl9 Z h<;>intro h
 ·refine R<|V 2 Z<|gl8 ?_
  cases h
 refine gl6<|V 1 Z<|gl1<|R<|V 1 Z<|Q<|av<|ay [(0,P e 0),(1,vS o),(2,H k),(8,N i),(9,.slice none 0 0),(10,H 0)] Z ?_
 refine bg (F.It c d i o k) (fun (s:Q0×Int) L w=>∃(n:Value),L=[(0,P e 0),(1,vS o),(2,H k),(8,N i),(9,n),(10,H s.2)]/\St S u w [U X n s.1,Y e [N c,a],U X a d]) ?_ ([],0) ⟨Q3,Z,(b.nil X)⟩ h
 rintro bC ⟨p,q⟩ L w ad hI aW h ae
 try dsimp only at hI
 obtain⟨n,rfl,b⟩:=hI
 unfold F.It at h
 refine az<|R<|V 2 Z<|O (dn Tryz.underlying9 Z) Z<|V 1 Z<|Q ?_
 apply gl9 Z h<;>intro h
 ·refine gl5<|az<|av<|R<|V 1 Z<|Q ?_
  refine aT (r:=ad) (fun (g:Int) L w=>L=[(0,P e 0),(1,vS o),(2,H k),(8,N i),(9,n),(10,H q),(11,H g)]/\St S u w [Y e [N c,a],U X a d,U X n p]) (F.HN k p q) ?_ ?_
  rotate_left
  ·intro C
   refine R<|V 2 Z<|M h fun f aY h=>O (dI Tryz.underlying9 Z Z aY) Z<|V 1 Z<|Q<|av ?_
   refine aT (r:=ad) (fun (g:Bool) L w=>L=[(0,P e 0),(1,vS o),(2,H k),(8,N i),(9,n),(10,H q),(11,H 99),(12,v8 f),(76,N g)]/\St S u w [Y e [N c,a],U X a d,U X n p]) (F.Lr f k p q) ?_ ?_
   rotate_left
   ·intro aq
    refine am<|V 1 Z<|O (aj Z Z (vT _ f 48)) Z<|V 1 Z ?_
    cases D:(decide ((48:UInt8)<=f))
    case true=>
     have h:=bD h D
     try simp only[D]
     exact V 1 Z<|aI (t:=79) Z Z (aj Z Z (vz _ f 57)) Z<|V 2 Z<|Q<|aA (aq (decide (f<=57)) _ _ ⟨Z,(b.d [1,2,0] Z Z)⟩ h) Z
    case false=>
     have h:=bE h D
     try simp only[D]
     exact V 4 Z<|Q<|aA (aq false _ _ ⟨Z,(b.d [1,2,0] Z Z)⟩ h) Z
   rintro bF L w j h
   try dsimp only at j
   obtain⟨rfl,b⟩:=j
   unfold F.Lr at h
   apply gl9 Z h<;>intro h
   ·exact am<|V 1 Z<|O (aj Z Z (vP _ f 48)) Z<|O (aG Z (rv Tryz.underlying5 u3 (f - 48))) Z<|bd h fun aJ a0 h=>O (bc (v:=H aJ) (by rw[<-a0]; rfl)) Z<|aE<|aF<|al<|aA (C aJ _ _ ⟨Z,b⟩ h) Z
   refine aT (r:=ad) (fun (g:Bool) L w=>L=[(0,P e 0),(1,vS o),(2,H k),(8,N i),(9,n),(10,H q),(11,H 99),(12,v8 f),(86,N g)]/\St S u w [Y e [N c,a],U X a d,U X n p]) (F.Ld f k p q) ?_ ?_
   rotate_left
   ·intro au
    refine am<|V 1 Z<|O (aj Z Z (vT _ f 97)) Z<|V 1 Z ?_
    cases E:(decide ((97:UInt8)<=f))
    case true=>
     have h:=bD h E
     try simp only[E]
     exact V 1 Z<|aI (t:=89) Z Z (aj Z Z (vz _ f 122)) Z<|V 2 Z<|Q<|aA (au (decide (f<=122)) _ _ ⟨Z,b⟩ h) Z
    case false=>
     have h:=bE h E
     try simp only[E]
     exact V 4 Z<|Q<|aA (au false _ _ ⟨Z,b⟩ h) Z
   rintro bG L w j h
   try dsimp only at j
   obtain⟨rfl,b⟩:=j
   unfold F.Ld at h
   apply gl9 Z h<;>intro h
   ·exact am<|V 1 Z<|O (aj Z Z (vP _ f 97)) Z<|O (aG Z (rv Tryz.underlying5 u3 (f - 97))) Z<|V 1 Z<|bd h fun aL a3 h=>O (bc (v:=H aL) (by rw[<-a3]; rfl)) Z<|aE<|aF<|al<|aA (C aL _ _ ⟨Z,b⟩ h) Z
   refine aT (r:=ad) (fun (g:Bool) L w=>L=[(0,P e 0),(1,vS o),(2,H k),(8,N i),(9,n),(10,H q),(11,H 99),(12,v8 f),(97,N g)]/\St S u w [Y e [N c,a],U X a d,U X n p]) (F.Ma f k p q) ?_ ?_
   rotate_left
   ·intro aw
    refine am<|V 1 Z<|O (aj Z Z (vT _ f 65)) Z<|V 1 Z ?_
    cases G:(decide ((65:UInt8)<=f))
    case true=>
     have h:=bD h G
     try simp only[G]
     exact V 1 Z<|aI (t:=100) Z Z (aj Z Z (vz _ f 90)) Z<|V 2 Z<|Q<|aA (aw (decide (f<=90)) _ _ ⟨Z,b⟩ h) Z
    case false=>
     have h:=bE h G
     try simp only[G]
     exact V 4 Z<|Q<|aA (aw false _ _ ⟨Z,b⟩ h) Z
   rintro bI L w j h
   try dsimp only at j
   obtain⟨rfl,b⟩:=j
   unfold F.Ma at h
   apply gl9 Z h<;>intro h
   ·exact am<|V 1 Z<|O (aj Z Z (vP _ f 65)) Z<|O (aG Z (rv Tryz.underlying5 u3 (f - 65))) Z<|V 1 Z<|bd h fun aN a4 h=>O (bc (v:=H aN) (by rw[<-a4]; rfl)) Z<|aE<|aF<|al<|aA (C aN _ _ ⟨Z,b⟩ h) Z
   exact cg<|aF<|al<|aA (C 99 _ _ ⟨Z,b⟩ h) Z
  rintro aP L w j h
  try dsimp only at j
  obtain⟨rfl,b⟩:=j
  unfold F.HN at h
  refine az<|R<|V 3 Z<|Q ?_
  apply gl9 Z h<;>intro h
  ·refine R<|V 2 Z<|gl8<|aZ<|aM<|aM<|have h:=aS h ae;aZ<|aM ?_
   cases h
  exact gl5<|am<|V 2 Z<|O (aG Z (fx u3 u103 k)) Z<|M h fun bJ a5 h=>aO b Z (eW (UInt64.ofInt k) a5 ) Z fun bK w b=>M h fun bL a6 h=>aO b Z (og  a6 (b.ro 3 Z).rp (b.ro 0 Z).rp) Z fun bM w b=>V 1 Z<|O (aG Z (fx u3 u103 aP)) Z<|M h fun bN a9 h=>aO b Z (eW (UInt64.ofInt aP) a9 ) Z fun bO w b=>M h fun bo ba h=>aO b Z (kR  ba (b.ro 1 Z).rp (b.ro 0 Z).rp) Z fun bp w b=>V 1 Z<|aE<|aF<|al<|am<|V 3 Z<|aE<|bn (br (aW (bo,wI (q+1)) _ _ ⟨bp,Z,(b.d [0,4,5] Z Z)⟩ (aX h ae)) Z)
 refine a7<|aB<|aB<|have h:=aS h ae;a8<|al<|R<|V 3 Z<|have hG:=b.pick (os':=[Y e [N c,a],U X a d,U X n p]++[]) [1,2,0] (by decide) Z;M h fun bP bb h=>aK Z (bS c i bb hG.f ) Z ?_
 rintro _ w ⟨bq,rfl,bu⟩
 have b:=hG.g bu
 refine V 2 Z<|Q<|ar ?_
 cases h
 exact bH Z Z Z ⟨bq,Z,b.d [0,1] Z Z⟩
theorem jW {o:World} {a0:Q0} {c:Value} (a1:UInt64) {r:Q0}
  (h:F.I6 a0 a1=some r) (d:RP [] o X c a0):Calls Tryz.prog 125 #[c,v64 a1] o (Ret fun v w=>St [] o w [U X v r]):=by
 refine ax 61 Tryz.func125 Z Z Z<|have a:=St.k o;ay [(0,c),(1,v64 a1)] Z ?_
 unfold F.I6 at h
 refine R<|V 1 Z<|gl1<|R<|V 1 Z<|O (aD u57 Z (d.b a.fr)) Z<|V 1 Z<|Q ?_
 apply gl9 Z h<;>intro h
 ·refine R<|V 1 Z<|gl8 ?_
  cases h
  exact au Z Z ((a.nil X).d [0] Z Z)
 refine gl6<|V 1 Z<|O (aj Z Z (jo _ a1 32 (by decide))) Z<|O (aG Z (oI u67 u3 (a1 / 32))) Z<|V 1 Z<|O (aj Z Z (ft _ a1 32 (by decide))) Z<|bd h fun f E h=>O (bc (v:=H f) (by rw[<-E]; rfl)) Z<|V 1 Z<|gl2<|V 1 Z<|O (aD u57 Z (d.b a.fr)) Z<|V 3 Z<|M h fun ab G h=>bm (cW (e:=X) u57 aN Z Z Z a G) Z fun g w a=>V 1 Z<|gl1<|R<|V 1 Z<|Q<|av<|ay [(0,c),(5,H f),(6,v64 (a1%32)),(7,g),(8,H 0)] Z ?_
 refine bg (F.Jo a0 a1 f) (fun (s:Int×Q0) L w=>L=[(0,c),(5,H f),(6,v64 (a1%32)),(7,g),(8,H s.1)]/\St [] o w [U X g s.2]) ?_ (0,ab) ⟨Z,a⟩ h
 rintro ak ⟨ac,ad⟩ L w aA hI S h p
 try dsimp only at hI
 obtain⟨rfl,a⟩:=hI
 unfold F.Jo at h
 refine az<|R<|V 2 Z<|O (aD u57 Z (d.b a.fr)) Z<|V 1 Z<|Q ?_
 apply gl9 Z h<;>intro h
 ·refine gl5<|az<|av<|R<|V 2 Z<|M h fun q j h=>O (bh u57 aN Z Z (d.b a.fr) j) Z<|O (aW u106 Z Z (d.b a.fr) j Z) Z<|O (aG Z (bC u106 u103 q)) Z<|V 1 Z<|O (aj Z Z (cr _ q.toUInt64 (a1%32))) Z<|bd h fun b z h=>O (bc (v:=v64 b) (by rw[<-z]; rfl)) Z<|gl2<|V 4 Z<|M h fun u k h=>O (bh u57 aN Z Z (a.ro 0 Z) k) Z<|O (aW u106 Z Z (a.ro 0 Z) k Z) Z<|V 1 Z<|O (aG Z (ch u103 u106 b)) Z<|O (aj Z Z (gy _ u b.toUInt32)) Z<|M h fun an l h=>O (bh u57 aN Z Z (a.ro 0 Z) l) Z<|bo (bZ (t:=(u ||| b.toUInt32)) aN Z Z a (i:=0) Z l Z) fun w a=>bd h fun ao A h=>?_
  rw[A]at a
  refine Q<|am<|V 5 Z<|M h fun x m h=>O (bh u57 aN Z Z (a.ro 0 Z) m) Z<|O (aW u106 Z Z (a.ro 0 Z) m Z) Z<|V 1 Z<|O (aj Z Z (cc _ b 32)) Z<|O (aG Z (ch u103 u106 (aP b 32))) Z<|O (aj Z Z (gy _ x ((aP b 32).toUInt32))) Z<|M h fun ap n h=>O (bh u57 aN Z Z (a.ro 0 Z) n) Z<|bo (bZ (t:=(x ||| ((aP b 32).toUInt32))) aN Z Z a (i:=0) Z n Z) fun w a=>bd h fun T B h=>?_
  rw[B]at a
  exact aE<|aF<|al<|am<|V 3 Z<|aE<|bn (br (S (wI (ac+1),T) _ _ ⟨Z,a⟩ (aX h p)) Z)
 refine a7<|aB<|aB<|have h:=aS h p;a8<|al<|R<|V 1 Z<|have hG:=a.pick (os':=[U X g ad]++[]) [0] (by decide) Z;M h fun aq C h=>aK Z (dA  C hG.f ) Z ?_
 rintro aw w ⟨J,y,D⟩
 rw[<-y]at D
 have a:=hG.g D
 refine V 1 Z<|Q<|ar ?_
 cases h
 exact au Z Z (a.d [0] Z Z)
theorem f8 {k:World} {e:Q0} {a1:Q1} {b g:Value} {c:Nat} {S:Q2} (d:Bool) {r:Bool×Q0}
  (h:F.Ii d e a1=some r) (a:St S k k [Y c [N d,b],U X b e]) (m:RP S k e8 g a1):Calls Tryz.prog 78 #[P c 0,g] k (Ret fun v w=>∃n:Value,v=P c 0/\St S k w [Y c [N r.1,n],U X n r.2]):=by
 refine ax 25 Tryz.func78 Z Z Z<|ay [(0,P c 0),(1,g)] Z ?_
 unfold F.Ii at h
 refine R<|V 1 Z<|gl2<|V 1 Z<|gl1<|R<|V 1 Z<|Q<|av<|ay [(0,P c 0),(1,g),(5,.slice none 0 0),(6,H 0)] Z ?_
 refine bg (F.JO d e a1) (fun (s:Q0×Int) L w=>∃(j:Value),L=[(0,P c 0),(1,g),(5,j),(6,H s.2)]/\St S k w [U X j s.1,Y c [N d,b],U X b e]) ?_ ([],0) ⟨Q3,Z,(a.nil X)⟩ h
 rintro ac ⟨z,G⟩ L w ao T A h o
 try dsimp only at T
 obtain⟨j,rfl,a⟩:=T
 unfold F.JO at h
 refine az<|R<|V 2 Z<|O (aD u25 Z (m.b a.fr)) Z<|V 1 Z<|Q ?_
 apply gl9 Z h<;>intro h
 ·exact gl5<|az<|av<|aQ (fun w'=>St S k w' [U X j z,Y c [N d,b],U X b e]) (fun i=>!([1,7,8].contains i)) bL (fun _ _ _ B=>B.2) (fun _ _ B=>B) (by kernel_rfl)<|have a:=a.drew;show lxE _ _ _ _ _ _ _ [0,1,2,3,4,5,6,7,8,9] _ _ from an 1 Z a<|M h fun ad q h=>aY a Z Z (by kernel_rfl) Z (jW 8 q (a.ro 0 Z).rp) Z fun ae w f=>have a:=a.e f;an 2 Z (a.d [1,2,3] Z Z)<|M h fun p l h=>J (a.d [1,2,3] Z Z) Z Z (fun w t=>bh u25 ti5 Z Z (m.b t.fr) l) Z<|J (a.d [1,2,3] Z Z) Z Z (fun w t=>aW Tryz.underlying5 Z Z (m.b t.fr) l Z) Z<|J (a.d [1,2,3] Z Z) Z Z (fun w t=>aG Z (mh Tryz.underlying5 u103 p)) Z<|M h fun ah u h=>aY (a.d [1,2,3] Z Z) Z Z (by kernel_rfl) Z (eW p.toUInt64 u ) Z fun aj w f=>have a:=a.e f;M h fun C x h=>aY (a.d [2,3,4] Z Z) Z Z (by kernel_rfl) Z (kR  x (a.ro 1 Z).rp (a.ro 0 Z).rp) Z fun D w f=>have a:=a.e f;an 1 Z (a.d [3,4,5] Z Z)<|a9 (a.d [3,4,5] Z Z)<|aF<|al<|am<|V 3 Z<|aE<|bn (br (A (C,wI (G+1)) _ _ ⟨D,Z,(a.d [0,4,5] Z Z)⟩ (aX h o)) Z)
 refine a7<|aB<|aB<|have h:=aS h o;a8<|al<|R<|V 2 Z<|have hG:=a.pick (os':=[Y c [N d,b],U X b e,U X j z]++[]) [1,2,0] (by decide) Z;M h fun ak y h=>aK Z (bS d false y hG.f ) Z ?_
 rintro _ w ⟨E,rfl,f⟩
 have a:=hG.g f
 refine V 1 Z<|Q<|ar ?_
 cases h
 exact au Z Z ⟨E,Z,a.d [0,1] Z Z⟩
theorem iB {e:World} {l o p:Q0} {c m n:Value} {d q s:Nat} {S:Q2} (f g j:Bool) {r:Bool×Q0}
  (h:F.Iq f l g o j p=some r) (a:St S e e [Y d [N f,c],U X c l]) (x:RP S e X m o) (hBa1:RB S e q [N g,m]) (y:RP S e X n p) (hBa2:RB S e s [N j,n]):Calls Tryz.prog 160 #[P d 0,P q 0,P s 0] e (Ret fun v w=>∃t:Value,v=P d 0/\St S e w [Y d [N r.1,t],U X t r.2]):=by
 refine ax 27 Tryz.func160 Z Z Z<|ay [(0,P d 0),(1,P q 0),(2,P s 0)] Z ?_
 unfold F.Iq at h
 refine R<|V 1 Z<|gl1<|have hsh1:=(a.ro 1 Z).shp;aQ (fun w'=>St S e w' []) (fun i=>!([18,19].contains i)) bL (fun _ _ _ z=>z.2) (fun _ _ z=>z) (by kernel_rfl)<|have a:=a.drew;show lxE _ _ _ _ _ _ _ [0,1,2,3,4,5,6,7,8,9,10,11,12,13,14,15,16,17,18,19,20] _ _ from an 2 Z (a.d [] Z Z)<|J (a.d [] Z Z) Z Z (fun w b=>aL Z) Z<|J (a.d [] Z Z) Z Z (fun w b=>ak (k:=0) u130 Z Z nz4 Z) Z<|J (a.d [] Z Z) Z Z (fun w b=>ao u4 Z Z (hBa1.cell b.fr 0 Z)) Z<|an 1 Z (a.d [] Z Z)<|J (a.d [] Z Z) Z Z (fun w b=>aL Z) Z<|J (a.d [] Z Z) Z Z (fun w b=>ak (k:=0) u130 Z Z nz4 Z) Z<|J (a.d [] Z Z) Z Z (fun w b=>ao u4 Z Z (hBa2.cell b.fr 0 Z)) Z<|J (a.d [] Z Z) Z Z (fun w b=>aj Z Z (kS _ g j u4 Z)) Z<|an 1 Z (a.d [] Z Z)<|J (a.d [] Z Z) Z Z (fun w b=>aL Z) Z<|J (a.d [] Z Z) Z Z (fun w b=>ak (k:=1) u130 Z Z dD Z) Z<|J (a.d [] Z Z) Z Z (fun w b=>ao u57 Z Z (hBa1.cell b.fr 1 Z)) Z<|an 1 Z (a.d [] Z Z)<|J (a.d [] Z Z) Z Z (fun w b=>aL Z) Z<|J (a.d [] Z Z) Z Z (fun w b=>ak (k:=1) u130 Z Z dD Z) Z ?_
 refine J (a.d [] Z Z) Z Z (fun w b=>ao u57 Z Z (hBa2.cell b.fr 1 Z)) Z<|M h fun C A h=>aY (a.d [] Z Z) Z Z (by kernel_rfl) Z (og  A (x.b a.fr).rp (y.b a.fr).rp) Z fun D w u=>have a:=a.e u;have E:=a.pick (os':=[Y d [N f,c],U X c l,U X D C]++[]) [1,2,0] (by decide) Z;M h fun L B h=>aY (a.d [] Z Z) Z Z (by kernel_rfl) Z (bS f (g != j) B E.f ) Z ?_
 rintro _ w ⟨G,rfl,u⟩
 have a:=E.g u
 refine an 1 Z (a.d [] Z Z)<|a9 (a.d [] Z Z)<|al<|ar ?_
 cases h
 exact au Z Z ⟨G,Z,a.d [0,1] Z Z⟩
theorem j2 {b:World} {a0:Q0} {a:Value} {r:Q0}
  (h:F.H5 a0=some r) (e:RP [] b X a a0):Calls Tryz.prog 179 #[a] b (Ret fun v w=>St [] b w [U X v r]):=by
 refine ax 5 Tryz.func179 Z Z Z<|have c:=St.k b;ay [(0,a)] Z ?_
 unfold F.H5 at h
 refine R<|V 1 Z<|gl2<|V 1 Z<|M h fun f d h=>bm (sR u57 aN Z Z Z c (e.b c.fr) d) Z fun g w c=>V 1 Z<|Q<|ar ?_
 cases h
 exact au Z Z (c.d [0] Z Z)
theorem gf {e:World} {f m:Q0} {b l:Value} {c n:Nat} {S:Q2} (d g:Bool) {r:Bool×Q0}
  (h:F.HJ d f g m=some r) (a:St S e e [Y c [N d,b],U X b f]) (q:RP S e X l m) (hBa1:RB S e n [N g,l]):Calls Tryz.prog 183 #[P c 0,P n 0] e (Ret fun v w=>∃o:Value,v=P c 0/\St S e w [Y c [N r.1,o],U X o r.2]):=by
 refine ax 16 Tryz.func183 Z Z Z<|ay [(0,P c 0),(1,P n 0)] Z ?_
 unfold F.HJ at h
 refine R<|V 1 Z<|gl1<|have hsh1:=(a.ro 1 Z).shp;aQ (fun w'=>St S e w' []) (fun i=>!([9,10].contains i)) bL (fun _ _ _ s=>s.2) (fun _ _ s=>s) (by kernel_rfl)<|have a:=a.drew;show lxE _ _ _ _ _ _ _ [0,1,2,3,4,5,6,7,8,9,10,11] _ _ from an 2 Z (a.d [] Z Z)<|J (a.d [] Z Z) Z Z (fun w j=>aL Z) Z<|J (a.d [] Z Z) Z Z (fun w j=>ak (k:=0) u130 Z Z nz4 Z) Z<|J (a.d [] Z Z) Z Z (fun w j=>ao u4 Z Z (hBa1.cell j.fr 0 Z)) Z<|an 1 Z (a.d [] Z Z)<|J (a.d [] Z Z) Z Z (fun w j=>aL Z) Z<|J (a.d [] Z Z) Z Z (fun w j=>ak (k:=1) u130 Z Z dD Z) Z<|J (a.d [] Z Z) Z Z (fun w j=>ao u57 Z Z (hBa1.cell j.fr 1 Z)) Z<|M h fun x t h=>aY (a.d [] Z Z) Z Z (by kernel_rfl) Z (j2  t (q.b a.fr).rp) Z fun y w p=>have a:=a.e p;have z:=a.pick (os':=[Y c [N d,b],U X b f,U X y x]++[]) [1,2,0] (by decide) Z;M h fun B u h=>aY (a.d [] Z Z) Z Z (by kernel_rfl) Z (bS d g u z.f ) Z ?_
 rintro _ w ⟨A,rfl,p⟩
 have a:=z.g p
 refine an 1 Z (a.d [] Z Z)<|a9 (a.d [] Z Z)<|al<|ar ?_
 cases h
 exact au Z Z ⟨A,Z,a.d [0,1] Z Z⟩
theorem kQ {f:World} {a0 a1:Q0} {g i:Value} {r:Int}
  (h:F.Ib a0 a1=some r) (c:RP [] f X g a0) (d:RP [] f X i a1):Calls Tryz.prog 164 #[g,i] f (Ret fun v w=>v=H r/\St [] f w []):=by
 refine ax 41 Tryz.func164 Z Z Z<|have a:=St.k f;ay [(0,g),(1,i)] Z ?_
 unfold F.Ib at h
 refine R<|V 1 Z<|gl1<|R<|V 1 Z<|O (aD u57 Z (c.b a.fr)) Z<|V 1 Z<|O (aD u57 Z (d.b a.fr)) Z<|V 1 Z<|Q ?_
 apply gl9 Z h<;>intro h
 ·refine az<|R<|V 1 Z<|O (aD u57 Z (c.b a.fr)) Z<|V 1 Z<|O (aD u57 Z (d.b a.fr)) Z<|V 1 Z<|Q ?_
  apply gl9 Z h<;>intro h
  ·refine R<|V 1 Z<|gl8<|aM ?_
   cases h
   exact au Z Z ⟨Z,a⟩
  refine gl6<|V 1 Z<|gl8 ?_
  cases h
  exact au Z Z ⟨Z,a⟩
 refine gl5<|az<|R<|V 1 Z<|O (aD u57 Z (c.b a.fr)) Z<|V 1 Z<|bd h fun l p h=>O (bc (v:=H l) (by rw[<-p]; rfl)) Z<|Q<|av<|ay [(0,g),(1,i),(5,H l)] Z ?_
 refine bg (F.H4 a0 a1) (fun (s:Int) L w=>L=[(0,g),(1,i),(5,H s)]/\St [] f w []) ?_ l ⟨Z,a⟩ h
 rintro B u L w C x q h e
 try dsimp only at x
 obtain⟨rfl,a⟩:=x
 unfold F.H4 at h
 refine az<|R<|V 2 Z<|Q ?_
 apply gl9 Z h<;>intro h
 ·refine gl5<|az<|av<|az<|aQ (fun w'=>St [] f w' []) (fun _=>true) bL (fun _ _ _ j=>j.2) (fun _ _ j=>j) (by kernel_rfl)<|have a:=a.drew;show lxE _ _ _ _ _ _ _ [0,1,2,3,4,5,6,7,8] _ _ from an 2 Z a<|M h fun y m h=>J a Z Z (fun w b=>bh u57 aN Z Z (c.b b.fr) m) Z<|J a Z Z (fun w b=>aW u106 Z Z (c.b b.fr) m Z) Z<|an 2 Z a<|M h fun z n h=>J a Z Z (fun w b=>bh u57 aN Z Z (d.b b.fr) n) Z<|J a Z Z (fun w b=>aW u106 Z Z (d.b b.fr) n Z) Z<|J a Z Z (fun w b=>aj Z Z (oR _ y z)) Z<|a9 a<|al ?_
  apply gl9 Z h<;>intro h
  ·refine az<|az<|aQ (fun w'=>St [] f w' []) (fun _=>true) bL (fun _ _ _ j=>j.2) (fun _ _ j=>j) (by kernel_rfl)<|have a:=a.drew;show lxE _ _ _ _ _ _ _ [0,1,2,3,4,5,6,7,8] _ _ from an 2 Z a<|M h fun A o h=>J a Z Z (fun w b=>bh u57 aN Z Z (c.b b.fr) o) Z<|J a Z Z (fun w b=>aW u106 Z Z (c.b b.fr) o Z) Z<|an 2 Z a<|M h fun t k h=>J a Z Z (fun w b=>bh u57 aN Z Z (d.b b.fr) k) Z<|J a Z Z (fun w b=>aW u106 Z Z (d.b b.fr) k Z) Z<|J a Z Z (fun w b=>aj Z Z (r8 _ A t)) Z<|a9 a<|al ?_
   apply gl9 Z h<;>intro h
   ·refine R<|V 1 Z<|gl8<|aZ<|aM<|aM<|have h:=aS h e;aZ<|aM ?_
    cases h
    exact au Z Z ⟨Z,a⟩
   refine gl6<|V 1 Z<|Q<|ar<|aZ<|aM<|aM<|have h:=aS h e;aZ<|aM ?_
   cases h
   exact au Z Z ⟨Z,a⟩
  exact cg<|aF<|al<|am<|V 3 Z<|aE<|bn (br (q (wI (u - 1)) _ _ ⟨Z,a⟩ (aX h e)) Z)
 refine a7<|aB<|aB<|have h:=aS h e;a8<|al<|R<|V 1 Z<|Q<|ar ?_
 cases h
 exact au Z Z ⟨Z,a⟩
theorem lR {d:World} {a0:Q0} {c:Value} {r:UInt64}
  (h:F.Jk a0=some r) (b:RP [] d X c a0):Calls Tryz.prog 186 #[c] d (Ret fun v w=>v=v64 r/\St [] d w []):=by
 refine ax 22 Tryz.func186 Z Z Z<|have a:=St.k d;ay [(0,c)] Z ?_
 unfold F.Jk at h
 refine R<|V 1 Z<|gl2<|V 1 Z<|Q ?_
 refine aT (r:=r) (fun (g:UInt64) L w=>L=[(0,c),(3,v64 g)]/\St [] d w []) (F.L7 a0) ?_ ?_
 rotate_left
 ·intro e
  refine R<|V 1 Z<|O (aD u57 Z (b.b a.fr)) Z<|V 1 Z<|Q ?_
  apply gl9 Z h<;>intro h
  ·exact am<|V 1 Z<|M h fun m f h=>O (bh u57 aN Z Z (b.b a.fr) f) Z<|O (aW u106 Z Z (b.b a.fr) f Z) Z<|O (aG Z (bC u106 u103 m)) Z<|V 1 Z<|Q<|aA (e m.toUInt64 _ _ ⟨Z,a⟩ h) Z
  exact gl5<|aA (e 0 _ _ ⟨Z,a⟩ h) Z
 rintro n L w i h
 try dsimp only at i
 obtain⟨rfl,a⟩:=i
 unfold F.L7 at h
 refine aT (r:=r) (fun (g:UInt64) L w=>L=[(3,v64 g)]/\St [] d w []) (F.Mi) ?_ ?_
 rotate_left
 ·intro j
  refine R<|V 1 Z<|O (aD u57 Z (b.b a.fr)) Z<|V 1 Z<|Q ?_
  apply gl9 Z h<;>intro h
  ·exact am<|V 2 Z<|M h fun k l h=>O (bh u57 aN Z Z (b.b a.fr) l) Z<|O (aW u106 Z Z (b.b a.fr) l Z) Z<|O (aG Z (bC u106 u103 k)) Z<|O (aj Z Z (cr _ k.toUInt64 32)) Z<|O (aj Z Z (dO _ n (aH k.toUInt64 32))) Z<|bd h fun o p h=>O (bc (v:=v64 o) (by rw[<-p]; rfl)) Z<|Q<|aA (j o _ _ ⟨Z,a⟩ h) Z
  exact gl5<|aA (j n _ _ ⟨Z,a⟩ h) Z
 rintro q L w i h
 try dsimp only at i
 obtain⟨rfl,a⟩:=i
 unfold F.Mi at h
 refine R<|V 2 Z<|Q<|ar ?_
 cases h
 exact au Z Z ⟨Z,a⟩
theorem rR {k:World} {a0:Q0} {c:Value} (a1:UInt32) {r:Q0×UInt32}
  (h:F.Lj a0 a1=some r) (d:RP [] k X c a0):Calls Tryz.prog 187 #[c,v32 a1] k (Ret fun v w=>∃u0:Value,v=.tuple #[u0,v32 r.2]/\St [] k w [U X u0 r.1]):=by
 refine ax 43 Tryz.func187 Z Z Z<|have a:=St.k k;ay [(0,c),(1,v32 a1)] Z ?_
 unfold F.Lj at h
 refine R<|V 2 Z<|gl2<|V 1 Z<|O (aD u57 Z (d.b a.fr)) Z<|M h fun S B h=>bm (cW (e:=X) u57 aN Z Z Z a B) Z fun f w a=>V 1 Z<|gl2<|V 1 Z<|gl1<|R<|V 1 Z<|O (aD u57 Z (d.b a.fr)) Z<|V 1 Z<|bd h fun l C h=>O (bc (v:=H l) (by rw[<-C]; rfl)) Z<|Q<|av<|ay [(0,c),(1,v32 a1),(6,f),(7,v64 0),(8,H l)] Z ?_
 refine bg (F.IV a0 a1) (fun (s:UInt64×Int×Q0) L w=>L=[(0,c),(1,v32 a1),(6,f),(7,v64 s.1),(8,H s.2.1)]/\St [] k w [U X f s.2.2]) ?_ (0,l,S) ⟨Z,a⟩ h
 rintro ah ⟨m,T,ab⟩ L w J hI D h n
 try dsimp only at hI
 obtain⟨rfl,a⟩:=hI
 unfold F.IV at h
 refine az<|R<|V 2 Z<|Q ?_
 apply gl9 Z h<;>intro h
 ·refine gl5<|az<|av<|R<|V 1 Z<|O (aj Z Z (cr _ m 32)) Z<|V 2 Z<|M h fun o g h=>O (bh u57 aN Z Z (d.b a.fr) g) Z<|O (aW u106 Z Z (d.b a.fr) g Z) Z<|O (aG Z (bC u106 u103 o)) Z<|O (aj Z Z (dO _ (aH m 32) o.toUInt64)) Z<|bd h fun b q h=>O (bc (v:=v64 b) (by rw[<-q]; rfl)) Z<|gl2<|V 4 Z<|O (aG Z (bC u106 u103 a1)) Z<|dh h fun u h=>O (aj Z Z (jo _ b a1.toUInt64 u)) Z<|O (aG Z (ch u103 u106 (b / a1.toUInt64))) Z<|M h fun ak j h=>O (bh u57 aN Z Z (a.ro 0 Z) j) Z<|bo (bZ (t:=((b / a1.toUInt64).toUInt32)) aN Z Z a (i:=0) Z j Z) fun w a=>bd h fun E x h=>?_
  rw[x]at a
  exact Q<|am<|V 2 Z<|O (aG Z (bC u106 u103 a1)) Z<|dh h fun y h=>O (aj Z Z (ft _ b a1.toUInt64 y)) Z<|V 1 Z<|aE<|aF<|al<|am<|V 3 Z<|aE<|bn (br (D (b%a1.toUInt64,wI (T - 1),E) _ _ ⟨Z,a⟩ (aX h n)) Z)
 refine a7<|aB<|aB<|have h:=aS h n;a8<|al<|R<|V 1 Z<|have hG:=a.pick (os':=[U X f ab]++[]) [0] (by decide) Z;M h fun an z h=>aK Z (dA  z hG.f ) Z ?_
 rintro G w ⟨ae,p,A⟩
 rw[<-p]at A
 have a:=hG.g A
 refine V 1 Z<|O (aG Z (ch u103 u106 m)) Z<|V 2 Z<|Q<|ar ?_
 cases h
 exact bH Z Z Z ⟨G,Z,a.d [0] Z Z⟩
theorem i6 {d:World} {a0:Q0} {b:Value} {r:Int}
  (h:F.I4 a0=some r) (c:RP [] d X b a0):Calls Tryz.prog 138 #[b] d (Ret fun v w=>v=H r/\St [] d w []):=by
 refine ax 26 Tryz.func138 Z Z Z<|have a:=St.k d;ay [(0,b)] Z ?_
 unfold F.I4 at h
 refine R<|V 1 Z<|gl1<|R<|V 1 Z<|O (aD u57 Z (c.b a.fr)) Z<|V 1 Z<|Q ?_
 apply gl9 Z h<;>intro h
 ·refine R<|V 1 Z<|gl8 ?_
  cases h
  exact au Z Z ⟨Z,a⟩
 refine gl6<|V 1 Z<|gl1<|R<|V 2 Z<|O (aD u57 Z (c.b a.fr)) Z<|V 1 Z<|M h fun i e h=>O (bh u57 aN Z Z (c.b a.fr) e) Z<|O (aW u106 Z Z (c.b a.fr) e Z) Z<|V 1 Z<|Q<|av<|ay [(0,b),(3,H 0),(4,v32 i)] Z ?_
 refine bg (F.Ir a0) (fun (s:Int×UInt32) L w=>L=[(0,b),(3,H s.1),(4,v32 s.2)]/\St [] d w []) ?_ (0,i) ⟨Z,a⟩ h
 rintro m ⟨k,f⟩ L w n l j h g
 try dsimp only at l
 obtain⟨rfl,a⟩:=l
 unfold F.Ir at h
 refine az<|R<|V 1 Z<|O (aj Z Z (oR _ f 0)) Z<|Q ?_
 apply gl9 Z h<;>intro h
 ·exact gl5<|az<|av<|am<|V 3 Z<|aE<|aF<|al<|am<|V 1 Z<|O (aj Z Z (di _ f 1)) Z<|V 1 Z<|aE<|bn (br (j (wI (k+1),bu f 1) _ _ ⟨Z,a⟩ (aX h g)) Z)
 refine a7<|aB<|aB<|have h:=aS h g;a8<|al<|R<|V 1 Z<|O (aD u57 Z (c.b a.fr)) Z<|V 1 Z<|O (aj Z Z (dV _ (wI ((a0.length:Int) - 1)) 32)) Z<|V 3 Z<|Q<|ar ?_
 cases h
 exact au Z Z ⟨Z,a⟩
theorem rX {q:World} {a0:Q0} {c:Value} (a1:UInt64) {r:Q0}
  (h:F.LO a0 a1=some r) (b:RP [] q X c a0):Calls Tryz.prog 188 #[c,v64 a1] q (Ret fun v w=>St [] q w [U X v r]):=by
 refine ax 64 Tryz.func188 Z Z Z<|have a:=St.k q;ay [(0,c),(1,v64 a1)] Z ?_
 unfold F.LO at h
 refine R<|V 1 Z<|gl2<|V 1 Z<|O (aj Z Z (jo _ a1 32 (by decide))) Z<|O (aG Z (oI u67 u3 (a1 / 32))) Z<|V 1 Z<|O (aj Z Z (ft _ a1 32 (by decide))) Z<|bd h fun f G h=>O (bc (v:=H f) (by rw[<-G]; rfl)) Z<|V 1 Z<|gl1<|R<|V 2 Z<|O (aD u57 Z (b.b a.fr)) Z<|V 1 Z<|Q ?_
 apply gl9 Z h<;>intro h
 ·refine R<|V 1 Z<|gl8 ?_
  cases h
  exact au Z Z ((a.nil X).d [0] Z Z)
 refine gl6<|V 1 Z<|O (aD u57 Z (b.b a.fr)) Z<|V 2 Z<|M h fun ac S h=>bm (cW (e:=X) u57 aN Z Z Z a S) Z fun d w a=>V 1 Z<|gl1<|R<|V 1 Z<|Q<|av<|ay [(0,c),(5,H f),(6,v64 (a1%32)),(7,d),(8,H 0)] Z ?_
 refine bg (F.Jt a0 f a1) (fun (s:Int×Q0) L w=>L=[(0,c),(5,H f),(6,v64 (a1%32)),(7,d),(8,H s.1)]/\St [] q w [U X d s.2]) ?_ (0,ac) ⟨Z,a⟩ h
 rintro an ⟨u,x⟩ L w ad hI T h y
 try dsimp only at hI
 obtain⟨rfl,a⟩:=hI
 unfold F.Jt at h
 refine az<|R<|V 2 Z<|O (aD u57 Z (a.ro 0 Z)) Z<|V 1 Z<|Q ?_
 apply gl9 Z h<;>intro h
 ·refine gl5<|az<|av<|R<|V 4 Z<|M h fun j m h=>O (bh u57 aN Z Z (b.b a.fr) m) Z<|O (aW u106 Z Z (b.b a.fr) m Z) Z<|O (aG Z (bC u106 u103 j)) Z<|V 1 Z<|Q ?_
  refine aT (r:=ad) (fun (g:UInt64) L w=>L=[(0,c),(5,H f),(6,v64 (a1%32)),(7,d),(8,H u),(9,v64 g)]/\St [] q w [U X d x]) (F.JV a1 u x) ?_ ?_
  rotate_left
  ·intro n
   refine R<|V 5 Z<|O (aD u57 Z (b.b a.fr)) Z<|V 1 Z<|Q ?_
   apply gl9 Z h<;>intro h
   ·exact am<|V 6 Z<|M h fun k o h=>O (bh u57 aN Z Z (b.b a.fr) o) Z<|O (aW u106 Z Z (b.b a.fr) o Z) Z<|O (aG Z (bC u106 u103 k)) Z<|O (aj Z Z (cr _ k.toUInt64 32)) Z<|O (aj Z Z (dO _ j.toUInt64 (aH k.toUInt64 32))) Z<|bd h fun z B h=>O (bc (v:=v64 z) (by rw[<-B]; rfl)) Z<|Q<|aA (n z _ _ ⟨Z,a⟩ h) Z
   exact gl5<|aA (n j.toUInt64 _ _ ⟨Z,a⟩ h) Z
  rintro l L w hJ h
  try dsimp only at hJ
  obtain⟨rfl,a⟩:=hJ
  unfold F.JV at h
  refine am<|V 4 Z<|O (aj Z Z (cc _ l (a1%32))) Z<|O (aG Z (ch u103 u106 (aP l ((a1%32).toNat)))) Z<|M h fun ao p h=>O (bh u57 aN Z Z (a.ro 0 Z) p) Z<|bo (bZ (t:=((aP l ((a1%32).toNat)).toUInt32)) aN Z Z a (i:=0) Z p Z) fun w a=>bd h fun ab C h=>?_
  rw[C]at a
  exact aE<|aF<|al<|am<|V 3 Z<|aE<|bn (br (T (wI (u+1),ab) _ _ ⟨Z,a⟩ (aX h y)) Z)
 refine a7<|aB<|aB<|have h:=aS h y;a8<|al<|R<|V 1 Z<|have hG:=a.pick (os':=[U X d x]++[]) [0] (by decide) Z;M h fun ap D h=>aK Z (dA  D hG.f ) Z ?_
 rintro aq w ⟨ak,A,E⟩
 rw[<-A]at E
 have a:=hG.g E
 refine V 1 Z<|Q<|ar ?_
 cases h
 exact au Z Z (a.d [0] Z Z)
end Go.Proofs
