import Derived.Test.YtmegjloifgfldaaGreatDoorRW0
import Derived.Test.YtmegjloifgfldaaGreatDoorGkFman
set_option linter.unusedVariables false
set_option linter.unusedSimpArgs false
set_option linter.unusedSectionVars false
set_option maxRecDepth 4000
namespace Go.Proofs
open Go Go.RowKit Go.Gk
open Go.Gk renaming aa -> V, af -> M, ag -> O, ai -> J, e32 -> X, gl3 -> Q, gl4 -> R, own -> U, pB -> P, vB -> N, vI -> H
open Go.Gk.OE renaming bx -> Y
theorem dx {f:World} {a0:Q0} {a:Value} {S:Q2} {r:Q0}
  (h:F.GE a0=some r) (b:St S f f [U X a a0]):Calls Tryz.prog 165 #[a] f (Ret fun v w=>∃u0:Value,v=u0/\St S f w [U X u0 r]):=by
 refine ay 21 Tryz.func165 Z Z Z<|ax [(0,a)] Z ?_
 unfold F.GE at h
 refine R<|V 1 Z<|gl2<|V 1 Z<|O (aD u57 Z (b.ro 0 Z)) Z<|V 1 Z<|gl1<|av<|ax [(0,a),(3,H (a0.length:Int))] Z ?_
 refine bf (F.K1 a0) (fun (s:Int) L w=>L=[(0,a),(3,H s)]/\St S f w [U X a a0]) ?_ (a0.length:Int) ⟨Z,b⟩ h
 rintro u d L w o p n h j
 try dsimp only at p
 obtain⟨rfl,b⟩:=p
 unfold F.K1 at h
 refine az ?_
 refine aU (r:=o) (fun (g:Bool) L w=>L=[(0,a),(3,H d),(15,N g)]/\St S f w [U X a a0]) (F.La a0 d) ?_ ?_
 rotate_left
 ·intro k
  refine al<|V 3 Z ?_
  cases c:(decide ((0:Int)<d))
  case true=>
   have h:=bH h c
   try simp only[c]
   exact V 3 Z<|M h fun m l h=>aO (t:=8) Z Z (bh u57 aL Z Z (b.ro 0 Z) l) Z<|aO (t:=8) Z Z (aX u106 Z Z (b.ro 0 Z) l Z) Z<|aO (t:=8) Z Z (aj Z Z (rN _ m 0)) Z<|V 1 Z<|Q<|aB (k (m == 0) _ _ ⟨Z,b⟩ h) Z
  case false=>
   have h:=bI h c
   try simp only[c]
   exact V 7 Z<|Q<|aB (k false _ _ ⟨Z,b⟩ h) Z
 rintro x L w q h
 try dsimp only at q
 obtain⟨rfl,b⟩:=q
 unfold F.La at h
 apply gl9 Z h<;>intro h
 ·exact gl5<|av<|al<|V 3 Z<|aG<|aH<|bo (br (n (wI (d - 1)) _ _ ⟨Z,b⟩ (aW h j)) Z)
 refine aZ<|aA<|aA<|have h:=aR h j;a7<|am<|R<|V 2 Z<|db h fun e h=>O (mz u57 aL Z Z (b.ro 0 Z) (ox e)) Z<|V 1 Z<|Q<|aq ?_
 cases h
 replace b:=b.trunc (i:=0) rfl e.2
 exact au Z Z ⟨slV a X.sz 0 ((d:Int).toNat),Z,b.d [0] Z Z⟩
theorem eQ {d:World} (a0:UInt64) {r:Q0}
  (h:F.Hj a0=some r) :Calls Tryz.prog 126 #[v64 a0] d (Ret fun v w=>St [] d w [U X v r]):=by
 refine ay 10 Tryz.func126 Z Z Z<|have a:=St.k d;ax [(0,v64 a0)] Z ?_
 unfold F.Hj at h
 refine R<|V 1 Z<|gl2<|V 1 Z<|O (aE Z (ce u103 u106 a0)) Z<|V 1 Z<|O (aj Z Z (ca _ a0 32)) Z<|O (aE Z (ce u103 u106 (aP a0 32))) Z<|bn (bJ (e:=X) (l:=([a0.toUInt32,(aP a0 32).toUInt32]:Q0)) (vs:=[v32 a0.toUInt32,v32 ((aP a0 32).toUInt32)]) u57 aL Z Z Z Z (by decide) (by decide) a) Z fun g w a=>have i:=a.pick (os':=[U X g ([a0.toUInt32,(aP a0 32).toUInt32]:Q0)]++[]) [0] (by decide) Z;M h fun k f h=>aJ Z (dx  f i.f ) Z ?_
 rintro m w ⟨j,b,c⟩
 rw[<-b]at c
 have a:=i.g c
 refine V 1 Z<|Q<|aq ?_
 cases h
 exact au Z Z (a.d [0] Z Z)
theorem n9 {l:World} {a0 a1:Q0} {c d:Value} {r:Q0}
  (h:F.JN a0 a1=some r) (p:RP [] l X c a0) (k:RP [] l X d a1):Calls Tryz.prog 177 #[c,d] l (Ret fun v w=>St [] l w [U X v r]):=by
 refine ay 75 Tryz.func177 Z Z Z<|have a:=St.k l;ax [(0,c),(1,d)] Z ?_
 unfold F.JN at h
 refine R<|V 1 Z<|gl1 ?_
 refine aU (r:=r) (fun (g:Bool) L w=>L=[(0,c),(1,d),(16,N g)]/\St [] l w []) (F.ID a0 a1) ?_ ?_
 rotate_left
 ·intro E
  refine al<|V 1 Z<|O (aD u57 Z (p.b a.fr)) Z<|V 2 Z ?_
  cases m:((a0.length:Int) == 0)
  case true=>
   have h:=bH h m
   try simp only[m]
   exact V 4 Z<|Q<|aB (E true _ _ ⟨Z,a⟩ h) Z
  case false=>
   have h:=bI h m
   try simp only[m]
   exact V 1 Z<|aO (t:=12) Z Z (aD u57 Z (k.b a.fr)) Z<|V 2 Z<|Q<|aB (E ((a1.length:Int) == 0) _ _ ⟨Z,a⟩ h) Z
 rintro ba L w hJ h
 try dsimp only at hJ
 obtain⟨rfl,a⟩:=hJ
 unfold F.ID at h
 apply gl9 Z h<;>intro h
 ·refine R<|V 1 Z<|gl8 ?_
  cases h
  exact au Z Z ((a.nil X).d [0] Z Z)
 refine gl6<|V 1 Z<|O (aD u57 Z (p.b a.fr)) Z<|V 1 Z<|O (aD u57 Z (k.b a.fr)) Z<|V 1 Z<|M h fun aN ar h=>bn (cV (e:=X) u57 aL Z Z Z a ar) Z fun f w a=>V 1 Z<|gl1<|R<|V 1 Z<|Q<|av<|ax [(0,c),(1,d),(5,f),(6,H 0)] Z ?_
 refine bf (F.Ik a0 a1) (fun (s:Int×Q0) L w=>L=[(0,c),(1,d),(5,f),(6,H s.1)]/\St [] l w [U X f s.2]) ?_ (0,aN) ⟨Z,a⟩ h
 rintro aV ⟨x,ao⟩ L w aY G ab h S
 try dsimp only at G
 obtain⟨rfl,a⟩:=G
 unfold F.Ik at h
 refine az<|R<|V 2 Z<|O (aD u57 Z (p.b a.fr)) Z<|V 1 Z<|Q ?_
 apply gl9 Z h<;>intro h
 ·refine gl5<|az<|av<|R<|V 1 Z<|gl1<|R<|V 1 Z<|Q<|av<|ax [(0,c),(1,d),(5,f),(6,H x),(7,v64 0),(8,H 0)] Z ?_
  refine bf (F.Ij a0 a1 x) (fun (s:UInt64×Int×Q0) L w=>L=[(0,c),(1,d),(5,f),(6,H x),(7,v64 s.1),(8,H s.2.1)]/\St [] l w [U X f s.2.2]) ?_ (0,0,ao) ⟨Z,a⟩ h
  rintro a2 ⟨q,aw,aC⟩ L w a3 G ac h y
  try dsimp only at G
  obtain⟨rfl,a⟩:=G
  unfold F.Ij at h
  refine az<|R<|V 2 Z<|O (aD u57 Z (k.b a.fr)) Z<|V 1 Z<|Q ?_
  apply gl9 Z h<;>intro h
  ·refine gl5<|az<|av<|az<|aQ (fun w'=>St [] l w' [U X f aC]) (fun _=>true) bK (fun _ _ _ hf=>hf.2) (fun _ _ hf=>hf) (by kernel_rfl)<|have a:=a.drew;show lxE _ _ _ _ _ _ _ [0,1,2,3,4,5,6,7,8,9,10,11,12,13,14,15,16,17,18,19,20,21] _ _ from an 3 Z a<|M h fun n z h=>J a Z Z (fun w b=>bh u57 aL Z Z (p.b b.fr) z) Z<|J a Z Z (fun w b=>aX u106 Z Z (p.b b.fr) z Z) Z<|J a Z Z (fun w b=>aE Z (bC u106 u103 n)) Z<|an 2 Z a<|M h fun o A h=>J a Z Z (fun w b=>bh u57 aL Z Z (k.b b.fr) A) Z<|J a Z Z (fun w b=>aX u106 Z Z (k.b b.fr) A Z) Z<|J a Z Z (fun w b=>aE Z (bC u106 u103 o)) Z<|J a Z Z (fun w b=>aj Z Z (js _ n.toUInt64 o.toUInt64)) Z<|an 4 Z a<|M h fun u B h=>J a Z Z (fun w b=>bh u57 aL Z Z (b.ro 0 Z) B) Z<|J a Z Z (fun w b=>aX u106 Z Z (b.ro 0 Z) B Z) Z<|J a Z Z (fun w b=>aE Z (bC u106 u103 u)) Z<|J a Z Z (fun w b=>aj Z Z (cC _ (n.toUInt64*o.toUInt64) u.toUInt64)) Z<|J a Z Z (fun w b=>aj Z Z (cC _ q ((n.toUInt64*o.toUInt64)+u.toUInt64))) Z ?_
   refine bg h fun j ad h=>J a Z Z (fun w b=>bd (v:=v64 j) (by rw[<-ad]; rfl)) Z<|a8 a<|am<|R<|V 5 Z<|O (aE Z (ce u103 u106 j)) Z<|M h fun a4 C h=>O (bh u57 aL Z Z (a.ro 0 Z) C) Z<|bm (bX (t:=j.toUInt32) aL Z Z a (i:=0) Z C Z) fun w a=>bg h fun aI ae h=>?_
   rw[ae]at a
   exact Q<|al<|V 1 Z<|O (aj Z Z (ca _ j 32)) Z<|V 1 Z<|aG<|aH<|am<|al<|V 3 Z<|aG<|bo (br (ac (aP j 32,wI (aw+1),aI) _ _ ⟨Z,a⟩ (aW h y)) Z)
  refine aZ<|aA<|aA<|have h:=aR h y;a7<|am<|al<|V 3 Z<|O (aD u57 Z (k.b a.fr)) Z<|V 2 Z<|O (aE Z (ce u103 u106 q)) Z<|M h fun a5 D h=>O (bh u57 aL Z Z (a.ro 0 Z) D) Z<|bm (bX (t:=q.toUInt32) aL Z Z a (i:=0) Z D Z) fun w a=>bg h fun aK ah h=>?_
  rw[ah]at a
  exact aG<|aH<|am<|al<|V 3 Z<|aG<|bo (br (ab (wI (x+1),aK) _ _ ⟨Z,a⟩ (aW h S)) Z)
 refine aZ<|aA<|aA<|have h:=aR h S;a7<|am<|R<|V 1 Z<|have hG:=a.pick (os':=[U X f ao]++[]) [0] (by decide) Z;M h fun a6 ak h=>aJ Z (dx  ak hG.f ) Z ?_
 rintro a9 w ⟨aT,T,ap⟩
 rw[<-T]at ap
 have a:=hG.g ap
 refine V 1 Z<|Q<|aq ?_
 cases h
 exact au Z Z (a.d [0] Z Z)
theorem kO {f:World} {a0 a1:Q0} {n o:Value} {r:Q0}
  (h:F.IA a0 a1=some r) (C:RP [] f X n a0) (D:RP [] f X o a1):Calls Tryz.prog 124 #[n,o] f (Ret fun v w=>St [] f w [U X v r]):=by
 refine ay 58 Tryz.func124 Z Z Z<|have a:=St.k f;ax [(0,n),(1,o)] Z ?_
 unfold F.IA at h
 refine R<|V 1 Z<|Q ?_
 refine aU (r:=r) (fun (g:Q0×Q0) L w=>∃(j:Value) (k:Value),L=[(0,j),(1,k)]/\RP [] f X j g.1/\RP [] f X k g.2/\St [] f w []) (F.JA) ?_ ?_
 rotate_left
 ·intro E
  refine R<|V 1 Z<|O (aD u57 Z (C.b a.fr)) Z<|V 1 Z<|O (aD u57 Z (D.b a.fr)) Z<|V 1 Z<|Q ?_
  apply gl9 Z h<;>intro h
  ·exact al<|V 4 Z<|Q<|aB (E (a1,a0) _ _ ⟨o,n,Z,D,C,a⟩ h) Z
  exact gl5<|aB (E (a0,a1) _ _ ⟨n,o,Z,C,D,a⟩ h) Z
 rintro⟨aC,aF⟩ L w G h
 try dsimp only at G
 obtain⟨j,k,rfl,c,p,a⟩:=G
 unfold F.JA at h
 refine R<|V 1 Z<|O (aD u57 Z (c.b a.fr)) Z<|V 1 Z<|M h fun aI ao h=>bn (cV (e:=X) u57 aL Z Z Z a ao) Z fun b w a=>V 1 Z<|gl2<|V 1 Z<|gl1<|R<|V 1 Z<|Q<|av<|ax [(0,j),(1,k),(5,b),(6,v64 0),(7,H 0)] Z ?_
 refine bf (F.IC aC aF) (fun (s:UInt64×Int×Q0) L w=>L=[(0,j),(1,k),(5,b),(6,v64 s.1),(7,H s.2.1)]/\St [] f w [U X b s.2.2]) ?_ (0,0,aI) ⟨Z,a⟩ h
 rintro aO ⟨d,q,S⟩ L w ap hI ad h u
 try dsimp only at hI
 obtain⟨rfl,a⟩:=hI
 unfold F.IC at h
 refine az<|R<|V 2 Z<|O (aD u57 Z (c.b a.fr)) Z<|V 1 Z<|Q ?_
 apply gl9 Z h<;>intro h
 ·refine gl5<|az<|av<|R<|V 3 Z<|M h fun l x h=>O (bh u57 aL Z Z (c.b a.fr) x) Z<|O (aX u106 Z Z (c.b a.fr) x Z) Z<|O (aE Z (bC u106 u103 l)) Z<|O (aj Z Z (cC _ d l.toUInt64)) Z<|V 1 Z<|Q ?_
  refine aU (r:=ap) (fun (g:UInt64) L w=>L=[(0,j),(1,k),(5,b),(6,v64 g),(7,H q)]/\St [] f w [U X b S]) (F.Jx q S) ?_ ?_
  rotate_left
  ·intro y
   refine R<|V 2 Z<|O (aD u57 Z (p.b a.fr)) Z<|V 1 Z<|Q ?_
   apply gl9 Z h<;>intro h
   ·exact al<|V 3 Z<|M h fun T z h=>O (bh u57 aL Z Z (p.b a.fr) z) Z<|O (aX u106 Z Z (p.b a.fr) z Z) Z<|O (aE Z (bC u106 u103 T)) Z<|O (aj Z Z (cC _ (d+l.toUInt64) T.toUInt64)) Z<|bg h fun ab ae h=>O (bd (v:=v64 ab) (by rw[<-ae]; rfl)) Z<|Q<|aB (y ab _ _ ⟨Z,a⟩ h) Z
   exact gl5<|aB (y (d+l.toUInt64) _ _ ⟨Z,a⟩ h) Z
  rintro m L w G h
  try dsimp only at G
  obtain⟨rfl,a⟩:=G
  unfold F.Jx at h
  refine R<|V 3 Z<|O (aE Z (ce u103 u106 m)) Z<|M h fun aQ A h=>O (bh u57 aL Z Z (a.ro 0 Z) A) Z<|bm (bX (t:=m.toUInt32) aL Z Z a (i:=0) Z A Z) fun w a=>bg h fun ar ah h=>?_
  rw[ah]at a
  exact Q<|al<|V 1 Z<|O (aj Z Z (ca _ m 32)) Z<|V 1 Z<|aG<|aH<|am<|al<|V 3 Z<|aG<|bo (br (ad (aP m 32,wI (q+1),ar) _ _ ⟨Z,a⟩ (aW h u)) Z)
 refine aZ<|aA<|aA<|have h:=aR h u;a7<|am<|R<|V 2 Z<|O (aD u57 Z (c.b a.fr)) Z<|V 1 Z<|O (aE Z (ce u103 u106 d)) Z<|M h fun aS B h=>O (bh u57 aL Z Z (a.ro 0 Z) B) Z<|bm (bX (t:=d.toUInt32) aL Z Z a (i:=0) Z B Z) fun w a=>bg h fun aw J h=>?_
 rw[J]at a
 refine gl2<|V 1 Z<|have hG:=a.pick (os':=[U X b aw]++[]) [0] (by decide) Z;M h fun aT ak h=>aJ Z (dx  ak hG.f ) Z ?_
 rintro aV w ⟨aN,ac,an⟩
 rw[<-ac]at an
 have a:=hG.g an
 refine V 1 Z<|Q<|aq ?_
 cases h
 exact au Z Z (a.d [0] Z Z)
theorem bS {f:World} {j a2:Q0} {e b:Value} {c:Nat} {S:Q2} (l a1:Bool) {r:Bool×Q0}
  (h:F.GF l j a1 a2=some r) (a:St S f f [Y c [N l,e],U X e j,U X b a2]):Calls Tryz.prog 127 #[P c 0,N a1,b] f (Ret fun v w=>∃m:Value,v=P c 0/\St S f w [Y c [N r.1,m],U X m r.2]):=by
 refine ay 21 Tryz.func127 Z Z Z<|ax [(0,P c 0),(1,N a1),(2,b)] Z ?_
 unfold F.GF at h
 refine R<|V 1 Z<|gl2<|V 2 Z<|O (aK Z) Z<|O (ak (k:=1) u130 Z Z dA Z) Z<|bm (bp (i:=0) (us:=[b]) Z Ge Z Z (bQ (a.ro 2 Z).one) ⟨(a.ro 2 Z).one,K⟩ Z a) fun w a=>Q ?_
 refine aU (r:=r) (fun (g:Bool) L w=>L=[(0,P c 0)]/\St S f w [Y c [N g,b],U X b a2]) (F.KM a2) ?_ ?_
 rotate_left
 ·intro n
  refine al<|V 3 Z ?_
  cases d:a1
  case true=>
   replace h:=bH h d
   subst d
   exact V 1 Z<|aO (t:=13) Z Z (aD u57 Z (a.ro 2 Z)) Z<|V 2 Z<|O (aK Z) Z<|O (ak (k:=0) u130 Z Z nz4 Z) Z<|bm (bp (i:=0) (us:=[N (decide ((0:Int)<(a2.length:Int)))]) Z sz4 Z Z Z ⟨Z,K⟩ Z a) fun w a=>Q<|aB (n (decide ((0:Int)<(a2.length:Int))) _ _ ⟨Z,(a.d [0,2] Z Z)⟩ h) Z
  case false=>
   replace h:=bI h d
   subst d
   exact V 4 Z<|O (aK Z) Z<|O (ak (k:=0) u130 Z Z nz4 Z) Z<|bm (bp (i:=0) (us:=[N false]) Z sz4 Z Z Z ⟨Z,K⟩ Z a) fun w a=>Q<|aB (n false _ _ ⟨Z,(a.d [0,2] Z Z)⟩ h) Z
 rintro p L w o h
 try dsimp only at o
 obtain⟨rfl,a⟩:=o
 unfold F.KM at h
 refine R<|V 2 Z<|Q<|aq ?_
 cases h
 exact au Z Z ⟨b,Z,a.d [0,1] Z Z⟩
theorem lG {u:World} {d:Q0} {a:Value} {e:Nat} {S:Q2} (c:Bool) (a1:Q1) (a2:Int) {r:Bool×Bool×Q0}
  (h:F.KR c d a1 a2=some r) (b:St S u u [Y e [N c,a],U X a d]):Calls Tryz.prog 176 #[P e 0,vS a1,H a2] u (Ret fun v w=>∃aC:Value,v=.tuple #[P e 0,N r.1]/\St S u w [Y e [N r.2.1,aC],U X aC r.2.2]):=by
 refine ay 124 Tryz.func176 Z Z Z<|ax [(0,P e 0),(1,vS a1),(2,H a2)] Z ?_
 unfold F.KR at h
 refine R<|V 2 Z<|gl2<|V 1 Z<|Q ?_
 refine aU (r:=r) (fun (g:Q1×Bool) L w=>L=[(0,P e 0),(1,vS g.1),(2,H a2),(8,N g.2)]/\St S u w [Y e [N c,a],U X a d]) (F.Lt a2 c d) ?_ ?_
 rotate_left
 ·intro J
  refine aU (r:=r) (fun (g:Bool) L w=>L=[(0,P e 0),(1,vS a1),(2,H a2),(8,N false),(25,N g)]/\St S u w [Y e [N c,a],U X a d]) (F.Kn a1 a2 c d) ?_ ?_
  rotate_left
  ·intro ah
   refine al<|V 1 Z<|O (di Tryz.underlying9 Z) Z<|V 2 Z ?_
   cases T:(decide ((0:Int)<(a1.length:Int)))
   case true=>
    have h:=bH h T
    try simp only[T]
    refine V 1 Z<|M h fun bc bi h=>aO (t:=16) Z Z (dF Tryz.underlying9 Z Z bi) Z<|aO (t:=16) Z Z (aj Z Z (fc _ bc 45)) Z<|V 1 Z ?_
    cases ab:(bc == 45)
    case true=>
     have h:=bH h ab
     try simp only[ab]
     exact V 5 Z<|Q<|aB (ah true _ _ ⟨Z,b⟩ h) Z
    case false=>
     have h:=bI h ab
     try simp only[ab]
     exact V 1 Z<|M h fun be bj h=>aO (t:=20) Z Z (dF Tryz.underlying9 Z Z bj) Z<|aO (t:=20) Z Z (aj Z Z (fc _ be 43)) Z<|V 2 Z<|Q<|aB (ah (be == 43) _ _ ⟨Z,b⟩ h) Z
   case false=>
    have h:=bI h T
    try simp only[T]
    exact V 9 Z<|Q<|aB (ah false _ _ ⟨Z,b⟩ h) Z
  rintro bQ L w j h
  try dsimp only at j
  obtain⟨rfl,b⟩:=j
  unfold F.Kn at h
  apply gl9 Z h<;>intro h
  ·exact R<|V 1 Z<|M h fun bh bk h=>O (dF Tryz.underlying9 Z Z bk) Z<|O (aj Z Z (fc _ bh 45)) Z<|V 1 Z<|Q<|al<|V 1 Z<|M h fun bl aQ h=>O (qO Tryz.underlying9 Z Z aQ) Z<|V 1 Z<|Q<|aB (J (bl,bh == 45) _ _ ⟨Z,b⟩ h) Z
  exact gl5<|aB (J (a1,false) _ _ ⟨Z,b⟩ h) Z
 rintro⟨m,i⟩ L w j h
 try dsimp only at j
 obtain⟨rfl,b⟩:=j
 unfold F.Lt at h
 refine aU (r:=r) (fun (g:Q1×Int) L w=>L=[(0,P e 0),(1,vS g.1),(2,H g.2),(8,N i)]/\St S u w [Y e [N c,a],U X a d]) (F.Ip c d i) ?_ ?_
 rotate_left
 ·intro x
  refine R<|V 2 Z<|Q ?_
  apply gl9 Z h<;>intro h
  ·refine R<|V 1 Z<|Q ?_
   refine aU (r:=r) (fun (g:Bool) L w=>L=[(0,P e 0),(1,vS m),(2,H 10),(8,N i),(40,N g)]/\St S u w [Y e [N c,a],U X a d]) (F.Mb m c d i) ?_ ?_
   rotate_left
   ·intro ak
    refine al<|V 1 Z<|O (di Tryz.underlying9 Z) Z<|V 2 Z ?_
    cases y:(decide ((2:Int)<(m.length:Int)))
    case true=>
     have h:=bH h y
     try simp only[y]
     exact V 1 Z<|M h fun aD aS h=>aO (t:=36) Z Z (dF Tryz.underlying9 Z Z aS) Z<|aO (t:=36) Z Z (aj Z Z (fc _ aD 48)) Z<|V 1 Z<|Q<|aB (ak (aD == 48) _ _ ⟨Z,b⟩ h) Z
    case false=>
     have h:=bI h y
     try simp only[y]
     exact V 4 Z<|Q<|aB (ak false _ _ ⟨Z,b⟩ h) Z
   rintro bv L w j h
   try dsimp only at j
   obtain⟨rfl,b⟩:=j
   unfold F.Mb at h
   apply gl9 Z h<;>intro h
   ·refine aU (r:=r) (fun (g:Int) L w=>L=[(0,P e 0),(1,vS m),(2,H g),(8,N i)]/\St S u w [Y e [N c,a],U X a d]) (F.J2 m c d i) ?_ ?_
    rotate_left
    ·intro z
     refine R<|V 1 Z<|M h fun l aT h=>O (dF Tryz.underlying9 Z Z aT) Z<|Q<|av ?_
     refine aU (r:=r) (fun (g:Bool) L w=>L=[(0,P e 0),(1,vS m),(2,H 10),(8,N i),(42,v8 l),(43,N g)]/\St S u w [Y e [N c,a],U X a d]) (F.Mh l m c d i) ?_ ?_
     rotate_left
     ·intro an
      refine R<|O (aj Z Z (fc _ l 120)) Z<|V 1 Z<|Q ?_
      apply gl9 Z h<;>intro h
      ·exact gl5<|aB (an (l == 120) _ _ ⟨Z,b⟩ h) Z
      exact al<|O (aj Z Z (fc _ l 88)) Z<|V 1 Z<|Q<|aB (an (l == 88) _ _ ⟨Z,b⟩ h) Z
     rintro bw L w j h
     try dsimp only at j
     obtain⟨rfl,b⟩:=j
     unfold F.Mh at h
     apply gl9 Z h<;>intro h
     ·exact al<|V 1 Z<|aG<|aH<|am<|aB (z 16 _ _ ⟨Z,b⟩ h) Z
     refine aU (r:=r) (fun (g:Bool) L w=>L=[(0,P e 0),(1,vS m),(2,H 10),(8,N i),(42,v8 l),(46,N g)]/\St S u w [Y e [N c,a],U X a d]) (F.LW l m c d i) ?_ ?_
     rotate_left
     ·intro ao
      refine R<|O (aj Z Z (fc _ l 98)) Z<|V 1 Z<|Q ?_
      apply gl9 Z h<;>intro h
      ·exact gl5<|aB (ao (l == 98) _ _ ⟨Z,b⟩ h) Z
      exact al<|O (aj Z Z (fc _ l 66)) Z<|V 1 Z<|Q<|aB (ao (l == 66) _ _ ⟨Z,b⟩ h) Z
     rintro bz L w j h
     try dsimp only at j
     obtain⟨rfl,b⟩:=j
     unfold F.LW at h
     apply gl9 Z h<;>intro h
     ·exact al<|V 1 Z<|aG<|aH<|am<|aB (z 2 _ _ ⟨Z,b⟩ h) Z
     refine aU (r:=r) (fun (g:Bool) L w=>L=[(0,P e 0),(1,vS m),(2,H 10),(8,N i),(49,N g)]/\St S u w [Y e [N c,a],U X a d]) (F.L7 m c d i) ?_ ?_
     rotate_left
     ·intro ap
      refine R<|O (aj Z Z (fc _ l 111)) Z<|V 1 Z<|Q ?_
      apply gl9 Z h<;>intro h
      ·exact gl5<|aB (ap (l == 111) _ _ ⟨Z,b⟩ h) Z
      exact al<|O (aj Z Z (fc _ l 79)) Z<|V 1 Z<|Q<|aB (ap (l == 79) _ _ ⟨Z,b⟩ h) Z
     rintro bA L w j h
     try dsimp only at j
     obtain⟨rfl,b⟩:=j
     unfold F.L7 at h
     apply gl9 Z h<;>intro h
     ·exact al<|V 1 Z<|aG<|aH<|am<|aB (z 8 _ _ ⟨Z,b⟩ h) Z
     exact cf<|aH<|am<|aB (z 10 _ _ ⟨Z,b⟩ h) Z
    rintro aF L w j h
    try dsimp only at j
    obtain⟨rfl,b⟩:=j
    unfold F.J2 at h
    refine R<|V 2 Z<|Q ?_
    apply gl9 Z h<;>intro h
    ·exact al<|V 1 Z<|M h fun bm aV h=>O (qO Tryz.underlying9 Z Z aV) Z<|V 1 Z<|Q<|aB (x (bm,aF) _ _ ⟨Z,b⟩ h) Z
    exact gl5<|aB (x (m,aF) _ _ ⟨Z,b⟩ h) Z
   exact gl5<|aB (x (m,10) _ _ ⟨Z,b⟩ h) Z
  exact gl5<|aB (x (m,a2) _ _ ⟨Z,b⟩ h) Z
 rintro⟨o,k⟩ L w j h
 try dsimp only at j
 obtain⟨rfl,b⟩:=j
 unfold F.Ip at h
 refine az ?_
 refine aU (r:=r) (fun (g:Bool) L w=>L=[(0,P e 0),(1,vS o),(2,H k),(8,N i),(66,N g)]/\St S u w [Y e [N c,a],U X a d]) (F.Jd c d i o k) ?_ ?_
 rotate_left
 ·intro ac
  refine al<|V 1 Z<|O (di Tryz.underlying9 Z) Z<|V 2 Z ?_
  cases A:((o.length:Int) == 0)
  case true=>
   have h:=bH h A
   try simp only[A]
   exact V 7 Z<|Q<|aB (ac true _ _ ⟨Z,b⟩ h) Z
  case false=>
   have h:=bI h A
   try simp only[A]
   refine V 4 Z ?_
   cases B:(decide (k<2))
   case true=>
    have h:=bH h B
    try simp only[B]
    exact V 3 Z<|Q<|aB (ac true _ _ ⟨Z,b⟩ h) Z
   case false=>
    have h:=bI h B
    try simp only[B]
    exact V 3 Z<|Q<|aB (ac (decide ((36:Int)<k)) _ _ ⟨Z,b⟩ h) Z
 rintro bB L w j h
 try dsimp only at j
 obtain⟨rfl,b⟩:=j
 unfold F.Jd at h
 apply gl9 Z h<;>intro h
 ·refine R<|V 2 Z<|gl8 ?_
  cases h
 refine gl6<|V 1 Z<|gl1<|R<|V 1 Z<|Q<|av<|ax [(0,P e 0),(1,vS o),(2,H k),(8,N i),(9,.slice none 0 0),(10,H 0)] Z ?_
 refine bf (F.Io c d i o k) (fun (s:Q0×Int) L w=>∃(n:Value),L=[(0,P e 0),(1,vS o),(2,H k),(8,N i),(9,n),(10,H s.2)]/\St S u w [U X n s.1,Y e [N c,a],U X a d]) ?_ ([],0) ⟨Q3,Z,(b.nil X)⟩ h
 rintro bC ⟨p,q⟩ L w ad hI aX h ae
 try dsimp only at hI
 obtain⟨n,rfl,b⟩:=hI
 unfold F.Io at h
 refine az<|R<|V 2 Z<|O (di Tryz.underlying9 Z) Z<|V 1 Z<|Q ?_
 apply gl9 Z h<;>intro h
 ·refine gl5<|az<|av<|R<|V 1 Z<|Q ?_
  refine aU (r:=ad) (fun (g:Int) L w=>L=[(0,P e 0),(1,vS o),(2,H k),(8,N i),(9,n),(10,H q),(11,H g)]/\St S u w [Y e [N c,a],U X a d,U X n p]) (F.HI k p q) ?_ ?_
  rotate_left
  ·intro C
   refine R<|V 2 Z<|M h fun f aY h=>O (dF Tryz.underlying9 Z Z aY) Z<|V 1 Z<|Q<|av ?_
   refine aU (r:=ad) (fun (g:Bool) L w=>L=[(0,P e 0),(1,vS o),(2,H k),(8,N i),(9,n),(10,H q),(11,H 99),(12,v8 f),(76,N g)]/\St S u w [Y e [N c,a],U X a d,U X n p]) (F.Lf f k p q) ?_ ?_
   rotate_left
   ·intro ar
    refine al<|V 1 Z<|O (aj Z Z (vM _ f 48)) Z<|V 1 Z ?_
    cases D:(decide ((48:UInt8)<=f))
    case true=>
     have h:=bH h D
     try simp only[D]
     exact V 1 Z<|aO (t:=79) Z Z (aj Z Z (vo _ f 57)) Z<|V 2 Z<|Q<|aB (ar (decide (f<=57)) _ _ ⟨Z,(b.d [1,2,0] Z Z)⟩ h) Z
    case false=>
     have h:=bI h D
     try simp only[D]
     exact V 4 Z<|Q<|aB (ar false _ _ ⟨Z,(b.d [1,2,0] Z Z)⟩ h) Z
   rintro bD L w j h
   try dsimp only at j
   obtain⟨rfl,b⟩:=j
   unfold F.Lf at h
   apply gl9 Z h<;>intro h
   ·exact al<|V 1 Z<|O (aj Z Z (vJ _ f 48)) Z<|O (aE Z (rk Tryz.underlying5 u3 (f - 48))) Z<|bg h fun aI a0 h=>O (bd (v:=H aI) (by rw[<-a0]; rfl)) Z<|aG<|aH<|am<|aB (C aI _ _ ⟨Z,b⟩ h) Z
   refine aU (r:=ad) (fun (g:Bool) L w=>L=[(0,P e 0),(1,vS o),(2,H k),(8,N i),(9,n),(10,H q),(11,H 99),(12,v8 f),(86,N g)]/\St S u w [Y e [N c,a],U X a d,U X n p]) (F.K2 f k p q) ?_ ?_
   rotate_left
   ·intro au
    refine al<|V 1 Z<|O (aj Z Z (vM _ f 97)) Z<|V 1 Z ?_
    cases E:(decide ((97:UInt8)<=f))
    case true=>
     have h:=bH h E
     try simp only[E]
     exact V 1 Z<|aO (t:=89) Z Z (aj Z Z (vo _ f 122)) Z<|V 2 Z<|Q<|aB (au (decide (f<=122)) _ _ ⟨Z,b⟩ h) Z
    case false=>
     have h:=bI h E
     try simp only[E]
     exact V 4 Z<|Q<|aB (au false _ _ ⟨Z,b⟩ h) Z
   rintro bF L w j h
   try dsimp only at j
   obtain⟨rfl,b⟩:=j
   unfold F.K2 at h
   apply gl9 Z h<;>intro h
   ·exact al<|V 1 Z<|O (aj Z Z (vJ _ f 97)) Z<|O (aE Z (rk Tryz.underlying5 u3 (f - 97))) Z<|V 1 Z<|bg h fun aK a3 h=>O (bd (v:=H aK) (by rw[<-a3]; rfl)) Z<|aG<|aH<|am<|aB (C aK _ _ ⟨Z,b⟩ h) Z
   refine aU (r:=ad) (fun (g:Bool) L w=>L=[(0,P e 0),(1,vS o),(2,H k),(8,N i),(9,n),(10,H q),(11,H 99),(12,v8 f),(97,N g)]/\St S u w [Y e [N c,a],U X a d,U X n p]) (F.L2 f k p q) ?_ ?_
   rotate_left
   ·intro aw
    refine al<|V 1 Z<|O (aj Z Z (vM _ f 65)) Z<|V 1 Z ?_
    cases G:(decide ((65:UInt8)<=f))
    case true=>
     have h:=bH h G
     try simp only[G]
     exact V 1 Z<|aO (t:=100) Z Z (aj Z Z (vo _ f 90)) Z<|V 2 Z<|Q<|aB (aw (decide (f<=90)) _ _ ⟨Z,b⟩ h) Z
    case false=>
     have h:=bI h G
     try simp only[G]
     exact V 4 Z<|Q<|aB (aw false _ _ ⟨Z,b⟩ h) Z
   rintro bG L w j h
   try dsimp only at j
   obtain⟨rfl,b⟩:=j
   unfold F.L2 at h
   apply gl9 Z h<;>intro h
   ·exact al<|V 1 Z<|O (aj Z Z (vJ _ f 65)) Z<|O (aE Z (rk Tryz.underlying5 u3 (f - 65))) Z<|V 1 Z<|bg h fun aL a4 h=>O (bd (v:=H aL) (by rw[<-a4]; rfl)) Z<|aG<|aH<|am<|aB (C aL _ _ ⟨Z,b⟩ h) Z
   exact cf<|aH<|am<|aB (C 99 _ _ ⟨Z,b⟩ h) Z
  rintro aP L w j h
  try dsimp only at j
  obtain⟨rfl,b⟩:=j
  unfold F.HI at h
  refine az<|R<|V 3 Z<|Q ?_
  apply gl9 Z h<;>intro h
  ·refine R<|V 2 Z<|gl8<|bb<|aN<|aN<|have h:=aR h ae;bb<|aN ?_
   cases h
  exact gl5<|al<|V 2 Z<|O (aE Z (fv u3 u103 k)) Z<|M h fun bJ a5 h=>aM b Z (eQ (UInt64.ofInt k) a5 ) Z fun bK w b=>M h fun bL a6 h=>aM b Z (n9  a6 (b.ro 3 Z).rp (b.ro 0 Z).rp) Z fun bM w b=>V 1 Z<|O (aE Z (fv u3 u103 aP)) Z<|M h fun bN a8 h=>aM b Z (eQ (UInt64.ofInt aP) a8 ) Z fun bO w b=>M h fun bn a9 h=>aM b Z (kO  a9 (b.ro 1 Z).rp (b.ro 0 Z).rp) Z fun bp w b=>V 1 Z<|aG<|aH<|am<|al<|V 3 Z<|aG<|bo (br (aX (bn,wI (q+1)) _ _ ⟨bp,Z,(b.d [0,4,5] Z Z)⟩ (aW h ae)) Z)
 refine aZ<|aA<|aA<|have h:=aR h ae;a7<|am<|R<|V 3 Z<|have hG:=b.pick (os':=[Y e [N c,a],U X a d,U X n p]++[]) [1,2,0] (by decide) Z;M h fun bP ba h=>aJ Z (bS c i ba hG.f ) Z ?_
 rintro _ w ⟨bq,rfl,bu⟩
 have b:=hG.g bu
 refine V 2 Z<|Q<|aq ?_
 cases h
 exact bE Z Z Z ⟨bq,Z,b.d [0,1] Z Z⟩
theorem jQ {o:World} {a0:Q0} {c:Value} (a1:UInt64) {r:Q0}
  (h:F.IY a0 a1=some r) (d:RP [] o X c a0):Calls Tryz.prog 125 #[c,v64 a1] o (Ret fun v w=>St [] o w [U X v r]):=by
 refine ay 61 Tryz.func125 Z Z Z<|have a:=St.k o;ax [(0,c),(1,v64 a1)] Z ?_
 unfold F.IY at h
 refine R<|V 1 Z<|gl1<|R<|V 1 Z<|O (aD u57 Z (d.b a.fr)) Z<|V 1 Z<|Q ?_
 apply gl9 Z h<;>intro h
 ·refine R<|V 1 Z<|gl8 ?_
  cases h
  exact au Z Z ((a.nil X).d [0] Z Z)
 refine gl6<|V 1 Z<|O (aj Z Z (jk _ a1 32 (by decide))) Z<|O (aE Z (oD u67 u3 (a1 / 32))) Z<|V 1 Z<|O (aj Z Z (fp _ a1 32 (by decide))) Z<|bg h fun f E h=>O (bd (v:=H f) (by rw[<-E]; rfl)) Z<|V 1 Z<|gl2<|V 1 Z<|O (aD u57 Z (d.b a.fr)) Z<|V 3 Z<|M h fun ab G h=>bn (cV (e:=X) u57 aL Z Z Z a G) Z fun g w a=>V 1 Z<|gl1<|R<|V 1 Z<|Q<|av<|ax [(0,c),(5,H f),(6,v64 (a1%32)),(7,g),(8,H 0)] Z ?_
 refine bf (F.Jf a0 a1 f) (fun (s:Int×Q0) L w=>L=[(0,c),(5,H f),(6,v64 (a1%32)),(7,g),(8,H s.1)]/\St [] o w [U X g s.2]) ?_ (0,ab) ⟨Z,a⟩ h
 rintro ak ⟨ac,ad⟩ L w aB hI S h p
 try dsimp only at hI
 obtain⟨rfl,a⟩:=hI
 unfold F.Jf at h
 refine az<|R<|V 2 Z<|O (aD u57 Z (d.b a.fr)) Z<|V 1 Z<|Q ?_
 apply gl9 Z h<;>intro h
 ·refine gl5<|az<|av<|R<|V 2 Z<|M h fun q j h=>O (bh u57 aL Z Z (d.b a.fr) j) Z<|O (aX u106 Z Z (d.b a.fr) j Z) Z<|O (aE Z (bC u106 u103 q)) Z<|V 1 Z<|O (aj Z Z (cp _ q.toUInt64 (a1%32))) Z<|bg h fun b z h=>O (bd (v:=v64 b) (by rw[<-z]; rfl)) Z<|gl2<|V 4 Z<|M h fun u k h=>O (bh u57 aL Z Z (a.ro 0 Z) k) Z<|O (aX u106 Z Z (a.ro 0 Z) k Z) Z<|V 1 Z<|O (aE Z (ce u103 u106 b)) Z<|O (aj Z Z (gw _ u b.toUInt32)) Z<|M h fun an l h=>O (bh u57 aL Z Z (a.ro 0 Z) l) Z<|bm (bX (t:=(u ||| b.toUInt32)) aL Z Z a (i:=0) Z l Z) fun w a=>bg h fun ao A h=>?_
  rw[A]at a
  refine Q<|al<|V 5 Z<|M h fun x m h=>O (bh u57 aL Z Z (a.ro 0 Z) m) Z<|O (aX u106 Z Z (a.ro 0 Z) m Z) Z<|V 1 Z<|O (aj Z Z (ca _ b 32)) Z<|O (aE Z (ce u103 u106 (aP b 32))) Z<|O (aj Z Z (gw _ x ((aP b 32).toUInt32))) Z<|M h fun ap n h=>O (bh u57 aL Z Z (a.ro 0 Z) n) Z<|bm (bX (t:=(x ||| ((aP b 32).toUInt32))) aL Z Z a (i:=0) Z n Z) fun w a=>bg h fun T B h=>?_
  rw[B]at a
  exact aG<|aH<|am<|al<|V 3 Z<|aG<|bo (br (S (wI (ac+1),T) _ _ ⟨Z,a⟩ (aW h p)) Z)
 refine aZ<|aA<|aA<|have h:=aR h p;a7<|am<|R<|V 1 Z<|have hG:=a.pick (os':=[U X g ad]++[]) [0] (by decide) Z;M h fun ar C h=>aJ Z (dx  C hG.f ) Z ?_
 rintro aw w ⟨J,y,D⟩
 rw[<-y]at D
 have a:=hG.g D
 refine V 1 Z<|Q<|aq ?_
 cases h
 exact au Z Z (a.d [0] Z Z)
theorem fY {k:World} {e:Q0} {a1:Q1} {b g:Value} {c:Nat} {S:Q2} (d:Bool) {r:Bool×Q0}
  (h:F.Ic d e a1=some r) (a:St S k k [Y c [N d,b],U X b e]) (m:RP S k e8 g a1):Calls Tryz.prog 78 #[P c 0,g] k (Ret fun v w=>∃n:Value,v=P c 0/\St S k w [Y c [N r.1,n],U X n r.2]):=by
 refine ay 25 Tryz.func78 Z Z Z<|ax [(0,P c 0),(1,g)] Z ?_
 unfold F.Ic at h
 refine R<|V 1 Z<|gl2<|V 1 Z<|gl1<|R<|V 1 Z<|Q<|av<|ax [(0,P c 0),(1,g),(5,.slice none 0 0),(6,H 0)] Z ?_
 refine bf (F.JE d e a1) (fun (s:Q0×Int) L w=>∃(j:Value),L=[(0,P c 0),(1,g),(5,j),(6,H s.2)]/\St S k w [U X j s.1,Y c [N d,b],U X b e]) ?_ ([],0) ⟨Q3,Z,(a.nil X)⟩ h
 rintro ac ⟨z,G⟩ L w ao T A h o
 try dsimp only at T
 obtain⟨j,rfl,a⟩:=T
 unfold F.JE at h
 refine az<|R<|V 2 Z<|O (aD u25 Z (m.b a.fr)) Z<|V 1 Z<|Q ?_
 apply gl9 Z h<;>intro h
 ·exact gl5<|az<|av<|aQ (fun w'=>St S k w' [U X j z,Y c [N d,b],U X b e]) (fun i=>!([1,7,8].contains i)) bK (fun _ _ _ B=>B.2) (fun _ _ B=>B) (by kernel_rfl)<|have a:=a.drew;show lxE _ _ _ _ _ _ _ [0,1,2,3,4,5,6,7,8,9] _ _ from an 1 Z a<|M h fun ad q h=>aY a Z Z (by kernel_rfl) Z (jQ 8 q (a.ro 0 Z).rp) Z fun ae w f=>have a:=a.e f;an 2 Z (a.d [1,2,3] Z Z)<|M h fun p l h=>J (a.d [1,2,3] Z Z) Z Z (fun w t=>bh u25 ti5 Z Z (m.b t.fr) l) Z<|J (a.d [1,2,3] Z Z) Z Z (fun w t=>aX Tryz.underlying5 Z Z (m.b t.fr) l Z) Z<|J (a.d [1,2,3] Z Z) Z Z (fun w t=>aE Z (mc Tryz.underlying5 u103 p)) Z<|M h fun ah u h=>aY (a.d [1,2,3] Z Z) Z Z (by kernel_rfl) Z (eQ p.toUInt64 u ) Z fun aj w f=>have a:=a.e f;M h fun C x h=>aY (a.d [2,3,4] Z Z) Z Z (by kernel_rfl) Z (kO  x (a.ro 1 Z).rp (a.ro 0 Z).rp) Z fun D w f=>have a:=a.e f;an 1 Z (a.d [3,4,5] Z Z)<|a8 (a.d [3,4,5] Z Z)<|aH<|am<|al<|V 3 Z<|aG<|bo (br (A (C,wI (G+1)) _ _ ⟨D,Z,(a.d [0,4,5] Z Z)⟩ (aW h o)) Z)
 refine aZ<|aA<|aA<|have h:=aR h o;a7<|am<|R<|V 2 Z<|have hG:=a.pick (os':=[Y c [N d,b],U X b e,U X j z]++[]) [1,2,0] (by decide) Z;M h fun ak y h=>aJ Z (bS d false y hG.f ) Z ?_
 rintro _ w ⟨E,rfl,f⟩
 have a:=hG.g f
 refine V 1 Z<|Q<|aq ?_
 cases h
 exact au Z Z ⟨E,Z,a.d [0,1] Z Z⟩
theorem iw {e:World} {l o p:Q0} {c m n:Value} {d q s:Nat} {S:Q2} (f g j:Bool) {r:Bool×Q0}
  (h:F.Il f l g o j p=some r) (a:St S e e [Y d [N f,c],U X c l]) (x:RP S e X m o) (hBa1:RB S e q [N g,m]) (y:RP S e X n p) (hBa2:RB S e s [N j,n]):Calls Tryz.prog 160 #[P d 0,P q 0,P s 0] e (Ret fun v w=>∃t:Value,v=P d 0/\St S e w [Y d [N r.1,t],U X t r.2]):=by
 refine ay 27 Tryz.func160 Z Z Z<|ax [(0,P d 0),(1,P q 0),(2,P s 0)] Z ?_
 unfold F.Il at h
 refine R<|V 1 Z<|gl1<|have hsh1:=(a.ro 1 Z).shp;aQ (fun w'=>St S e w' []) (fun i=>!([18,19].contains i)) bK (fun _ _ _ z=>z.2) (fun _ _ z=>z) (by kernel_rfl)<|have a:=a.drew;show lxE _ _ _ _ _ _ _ [0,1,2,3,4,5,6,7,8,9,10,11,12,13,14,15,16,17,18,19,20] _ _ from an 2 Z (a.d [] Z Z)<|J (a.d [] Z Z) Z Z (fun w b=>aK Z) Z<|J (a.d [] Z Z) Z Z (fun w b=>ak (k:=0) u130 Z Z nz4 Z) Z<|J (a.d [] Z Z) Z Z (fun w b=>ar u4 Z Z (hBa1.cell b.fr 0 Z)) Z<|an 1 Z (a.d [] Z Z)<|J (a.d [] Z Z) Z Z (fun w b=>aK Z) Z<|J (a.d [] Z Z) Z Z (fun w b=>ak (k:=0) u130 Z Z nz4 Z) Z<|J (a.d [] Z Z) Z Z (fun w b=>ar u4 Z Z (hBa2.cell b.fr 0 Z)) Z<|J (a.d [] Z Z) Z Z (fun w b=>aj Z Z (mm _ g j u4 Z)) Z<|an 1 Z (a.d [] Z Z)<|J (a.d [] Z Z) Z Z (fun w b=>aK Z) Z<|J (a.d [] Z Z) Z Z (fun w b=>ak (k:=1) u130 Z Z dA Z) Z<|J (a.d [] Z Z) Z Z (fun w b=>ar u57 Z Z (hBa1.cell b.fr 1 Z)) Z<|an 1 Z (a.d [] Z Z)<|J (a.d [] Z Z) Z Z (fun w b=>aK Z) Z<|J (a.d [] Z Z) Z Z (fun w b=>ak (k:=1) u130 Z Z dA Z) Z ?_
 refine J (a.d [] Z Z) Z Z (fun w b=>ar u57 Z Z (hBa2.cell b.fr 1 Z)) Z<|M h fun C A h=>aY (a.d [] Z Z) Z Z (by kernel_rfl) Z (n9  A (x.b a.fr).rp (y.b a.fr).rp) Z fun D w u=>have a:=a.e u;have E:=a.pick (os':=[Y d [N f,c],U X c l,U X D C]++[]) [1,2,0] (by decide) Z;M h fun L B h=>aY (a.d [] Z Z) Z Z (by kernel_rfl) Z (bS f (g != j) B E.f ) Z ?_
 rintro _ w ⟨G,rfl,u⟩
 have a:=E.g u
 refine an 1 Z (a.d [] Z Z)<|a8 (a.d [] Z Z)<|am<|aq ?_
 cases h
 exact au Z Z ⟨G,Z,a.d [0,1] Z Z⟩
theorem jY {b:World} {a0:Q0} {a:Value} {r:Q0}
  (h:F.HZ a0=some r) (e:RP [] b X a a0):Calls Tryz.prog 179 #[a] b (Ret fun v w=>St [] b w [U X v r]):=by
 refine ay 5 Tryz.func179 Z Z Z<|have c:=St.k b;ax [(0,a)] Z ?_
 unfold F.HZ at h
 refine R<|V 1 Z<|gl2<|V 1 Z<|M h fun f d h=>bn (sK u57 aL Z Z Z c (e.b c.fr) d) Z fun g w c=>V 1 Z<|Q<|aq ?_
 cases h
 exact au Z Z (c.d [0] Z Z)
theorem gc {e:World} {f m:Q0} {b l:Value} {c n:Nat} {S:Q2} (d g:Bool) {r:Bool×Q0}
  (h:F.HF d f g m=some r) (a:St S e e [Y c [N d,b],U X b f]) (q:RP S e X l m) (hBa1:RB S e n [N g,l]):Calls Tryz.prog 183 #[P c 0,P n 0] e (Ret fun v w=>∃o:Value,v=P c 0/\St S e w [Y c [N r.1,o],U X o r.2]):=by
 refine ay 16 Tryz.func183 Z Z Z<|ax [(0,P c 0),(1,P n 0)] Z ?_
 unfold F.HF at h
 refine R<|V 1 Z<|gl1<|have hsh1:=(a.ro 1 Z).shp;aQ (fun w'=>St S e w' []) (fun i=>!([9,10].contains i)) bK (fun _ _ _ s=>s.2) (fun _ _ s=>s) (by kernel_rfl)<|have a:=a.drew;show lxE _ _ _ _ _ _ _ [0,1,2,3,4,5,6,7,8,9,10,11] _ _ from an 2 Z (a.d [] Z Z)<|J (a.d [] Z Z) Z Z (fun w j=>aK Z) Z<|J (a.d [] Z Z) Z Z (fun w j=>ak (k:=0) u130 Z Z nz4 Z) Z<|J (a.d [] Z Z) Z Z (fun w j=>ar u4 Z Z (hBa1.cell j.fr 0 Z)) Z<|an 1 Z (a.d [] Z Z)<|J (a.d [] Z Z) Z Z (fun w j=>aK Z) Z<|J (a.d [] Z Z) Z Z (fun w j=>ak (k:=1) u130 Z Z dA Z) Z<|J (a.d [] Z Z) Z Z (fun w j=>ar u57 Z Z (hBa1.cell j.fr 1 Z)) Z<|M h fun x t h=>aY (a.d [] Z Z) Z Z (by kernel_rfl) Z (jY  t (q.b a.fr).rp) Z fun y w p=>have a:=a.e p;have z:=a.pick (os':=[Y c [N d,b],U X b f,U X y x]++[]) [1,2,0] (by decide) Z;M h fun B u h=>aY (a.d [] Z Z) Z Z (by kernel_rfl) Z (bS d g u z.f ) Z ?_
 rintro _ w ⟨A,rfl,p⟩
 have a:=z.g p
 refine an 1 Z (a.d [] Z Z)<|a8 (a.d [] Z Z)<|am<|aq ?_
 cases h
 exact au Z Z ⟨A,Z,a.d [0,1] Z Z⟩
theorem kM {f:World} {a0 a1:Q0} {g i:Value} {r:Int}
  (h:F.H6 a0 a1=some r) (c:RP [] f X g a0) (d:RP [] f X i a1):Calls Tryz.prog 164 #[g,i] f (Ret fun v w=>v=H r/\St [] f w []):=by
 refine ay 41 Tryz.func164 Z Z Z<|have a:=St.k f;ax [(0,g),(1,i)] Z ?_
 unfold F.H6 at h
 refine R<|V 1 Z<|gl1<|R<|V 1 Z<|O (aD u57 Z (c.b a.fr)) Z<|V 1 Z<|O (aD u57 Z (d.b a.fr)) Z<|V 1 Z<|Q ?_
 apply gl9 Z h<;>intro h
 ·refine az<|R<|V 1 Z<|O (aD u57 Z (c.b a.fr)) Z<|V 1 Z<|O (aD u57 Z (d.b a.fr)) Z<|V 1 Z<|Q ?_
  apply gl9 Z h<;>intro h
  ·refine R<|V 1 Z<|gl8<|aN ?_
   cases h
   exact au Z Z ⟨Z,a⟩
  refine gl6<|V 1 Z<|gl8 ?_
  cases h
  exact au Z Z ⟨Z,a⟩
 refine gl5<|az<|R<|V 1 Z<|O (aD u57 Z (c.b a.fr)) Z<|V 1 Z<|bg h fun l p h=>O (bd (v:=H l) (by rw[<-p]; rfl)) Z<|Q<|av<|ax [(0,g),(1,i),(5,H l)] Z ?_
 refine bf (F.HY a0 a1) (fun (s:Int) L w=>L=[(0,g),(1,i),(5,H s)]/\St [] f w []) ?_ l ⟨Z,a⟩ h
 rintro B u L w C x q h e
 try dsimp only at x
 obtain⟨rfl,a⟩:=x
 unfold F.HY at h
 refine az<|R<|V 2 Z<|Q ?_
 apply gl9 Z h<;>intro h
 ·refine gl5<|az<|av<|az<|aQ (fun w'=>St [] f w' []) (fun _=>true) bK (fun _ _ _ j=>j.2) (fun _ _ j=>j) (by kernel_rfl)<|have a:=a.drew;show lxE _ _ _ _ _ _ _ [0,1,2,3,4,5,6,7,8] _ _ from an 2 Z a<|M h fun y m h=>J a Z Z (fun w b=>bh u57 aL Z Z (c.b b.fr) m) Z<|J a Z Z (fun w b=>aX u106 Z Z (c.b b.fr) m Z) Z<|an 2 Z a<|M h fun z n h=>J a Z Z (fun w b=>bh u57 aL Z Z (d.b b.fr) n) Z<|J a Z Z (fun w b=>aX u106 Z Z (d.b b.fr) n Z) Z<|J a Z Z (fun w b=>aj Z Z (oN _ y z)) Z<|a8 a<|am ?_
  apply gl9 Z h<;>intro h
  ·refine az<|az<|aQ (fun w'=>St [] f w' []) (fun _=>true) bK (fun _ _ _ j=>j.2) (fun _ _ j=>j) (by kernel_rfl)<|have a:=a.drew;show lxE _ _ _ _ _ _ _ [0,1,2,3,4,5,6,7,8] _ _ from an 2 Z a<|M h fun A o h=>J a Z Z (fun w b=>bh u57 aL Z Z (c.b b.fr) o) Z<|J a Z Z (fun w b=>aX u106 Z Z (c.b b.fr) o Z) Z<|an 2 Z a<|M h fun t k h=>J a Z Z (fun w b=>bh u57 aL Z Z (d.b b.fr) k) Z<|J a Z Z (fun w b=>aX u106 Z Z (d.b b.fr) k Z) Z<|J a Z Z (fun w b=>aj Z Z (rV _ A t)) Z<|a8 a<|am ?_
   apply gl9 Z h<;>intro h
   ·refine R<|V 1 Z<|gl8<|bb<|aN<|aN<|have h:=aR h e;bb<|aN ?_
    cases h
    exact au Z Z ⟨Z,a⟩
   refine gl6<|V 1 Z<|Q<|aq<|bb<|aN<|aN<|have h:=aR h e;bb<|aN ?_
   cases h
   exact au Z Z ⟨Z,a⟩
  exact cf<|aH<|am<|al<|V 3 Z<|aG<|bo (br (q (wI (u - 1)) _ _ ⟨Z,a⟩ (aW h e)) Z)
 refine aZ<|aA<|aA<|have h:=aR h e;a7<|am<|R<|V 1 Z<|Q<|aq ?_
 cases h
 exact au Z Z ⟨Z,a⟩
theorem lN {d:World} {a0:Q0} {c:Value} {r:UInt64}
  (h:F.Jb a0=some r) (b:RP [] d X c a0):Calls Tryz.prog 186 #[c] d (Ret fun v w=>v=v64 r/\St [] d w []):=by
 refine ay 22 Tryz.func186 Z Z Z<|have a:=St.k d;ax [(0,c)] Z ?_
 unfold F.Jb at h
 refine R<|V 1 Z<|gl2<|V 1 Z<|Q ?_
 refine aU (r:=r) (fun (g:UInt64) L w=>L=[(0,c),(3,v64 g)]/\St [] d w []) (F.LZ a0) ?_ ?_
 rotate_left
 ·intro e
  refine R<|V 1 Z<|O (aD u57 Z (b.b a.fr)) Z<|V 1 Z<|Q ?_
  apply gl9 Z h<;>intro h
  ·exact al<|V 1 Z<|M h fun m f h=>O (bh u57 aL Z Z (b.b a.fr) f) Z<|O (aX u106 Z Z (b.b a.fr) f Z) Z<|O (aE Z (bC u106 u103 m)) Z<|V 1 Z<|Q<|aB (e m.toUInt64 _ _ ⟨Z,a⟩ h) Z
  exact gl5<|aB (e 0 _ _ ⟨Z,a⟩ h) Z
 rintro n L w i h
 try dsimp only at i
 obtain⟨rfl,a⟩:=i
 unfold F.LZ at h
 refine aU (r:=r) (fun (g:UInt64) L w=>L=[(3,v64 g)]/\St [] d w []) (F.Ma) ?_ ?_
 rotate_left
 ·intro j
  refine R<|V 1 Z<|O (aD u57 Z (b.b a.fr)) Z<|V 1 Z<|Q ?_
  apply gl9 Z h<;>intro h
  ·exact al<|V 2 Z<|M h fun k l h=>O (bh u57 aL Z Z (b.b a.fr) l) Z<|O (aX u106 Z Z (b.b a.fr) l Z) Z<|O (aE Z (bC u106 u103 k)) Z<|O (aj Z Z (cp _ k.toUInt64 32)) Z<|O (aj Z Z (dL _ n (aF k.toUInt64 32))) Z<|bg h fun o p h=>O (bd (v:=v64 o) (by rw[<-p]; rfl)) Z<|Q<|aB (j o _ _ ⟨Z,a⟩ h) Z
  exact gl5<|aB (j n _ _ ⟨Z,a⟩ h) Z
 rintro q L w i h
 try dsimp only at i
 obtain⟨rfl,a⟩:=i
 unfold F.Ma at h
 refine R<|V 2 Z<|Q<|aq ?_
 cases h
 exact au Z Z ⟨Z,a⟩
theorem rL {k:World} {a0:Q0} {c:Value} (a1:UInt32) {r:Q0×UInt32}
  (h:F.K7 a0 a1=some r) (d:RP [] k X c a0):Calls Tryz.prog 187 #[c,v32 a1] k (Ret fun v w=>∃u0:Value,v=.tuple #[u0,v32 r.2]/\St [] k w [U X u0 r.1]):=by
 refine ay 43 Tryz.func187 Z Z Z<|have a:=St.k k;ax [(0,c),(1,v32 a1)] Z ?_
 unfold F.K7 at h
 refine R<|V 2 Z<|gl2<|V 1 Z<|O (aD u57 Z (d.b a.fr)) Z<|M h fun S B h=>bn (cV (e:=X) u57 aL Z Z Z a B) Z fun f w a=>V 1 Z<|gl2<|V 1 Z<|gl1<|R<|V 1 Z<|O (aD u57 Z (d.b a.fr)) Z<|V 1 Z<|bg h fun l C h=>O (bd (v:=H l) (by rw[<-C]; rfl)) Z<|Q<|av<|ax [(0,c),(1,v32 a1),(6,f),(7,v64 0),(8,H l)] Z ?_
 refine bf (F.IO a0 a1) (fun (s:UInt64×Int×Q0) L w=>L=[(0,c),(1,v32 a1),(6,f),(7,v64 s.1),(8,H s.2.1)]/\St [] k w [U X f s.2.2]) ?_ (0,l,S) ⟨Z,a⟩ h
 rintro ah ⟨m,T,ab⟩ L w J hI D h n
 try dsimp only at hI
 obtain⟨rfl,a⟩:=hI
 unfold F.IO at h
 refine az<|R<|V 2 Z<|Q ?_
 apply gl9 Z h<;>intro h
 ·refine gl5<|az<|av<|R<|V 1 Z<|O (aj Z Z (cp _ m 32)) Z<|V 2 Z<|M h fun o g h=>O (bh u57 aL Z Z (d.b a.fr) g) Z<|O (aX u106 Z Z (d.b a.fr) g Z) Z<|O (aE Z (bC u106 u103 o)) Z<|O (aj Z Z (dL _ (aF m 32) o.toUInt64)) Z<|bg h fun b q h=>O (bd (v:=v64 b) (by rw[<-q]; rfl)) Z<|gl2<|V 4 Z<|O (aE Z (bC u106 u103 a1)) Z<|db h fun u h=>O (aj Z Z (jk _ b a1.toUInt64 u)) Z<|O (aE Z (ce u103 u106 (b / a1.toUInt64))) Z<|M h fun ak j h=>O (bh u57 aL Z Z (a.ro 0 Z) j) Z<|bm (bX (t:=((b / a1.toUInt64).toUInt32)) aL Z Z a (i:=0) Z j Z) fun w a=>bg h fun E x h=>?_
  rw[x]at a
  exact Q<|al<|V 2 Z<|O (aE Z (bC u106 u103 a1)) Z<|db h fun y h=>O (aj Z Z (fp _ b a1.toUInt64 y)) Z<|V 1 Z<|aG<|aH<|am<|al<|V 3 Z<|aG<|bo (br (D (b%a1.toUInt64,wI (T - 1),E) _ _ ⟨Z,a⟩ (aW h n)) Z)
 refine aZ<|aA<|aA<|have h:=aR h n;a7<|am<|R<|V 1 Z<|have hG:=a.pick (os':=[U X f ab]++[]) [0] (by decide) Z;M h fun an z h=>aJ Z (dx  z hG.f ) Z ?_
 rintro G w ⟨ae,p,A⟩
 rw[<-p]at A
 have a:=hG.g A
 refine V 1 Z<|O (aE Z (ce u103 u106 m)) Z<|V 2 Z<|Q<|aq ?_
 cases h
 exact bE Z Z Z ⟨G,Z,a.d [0] Z Z⟩
theorem i0 {d:World} {a0:Q0} {b:Value} {r:Int}
  (h:F.IW a0=some r) (c:RP [] d X b a0):Calls Tryz.prog 138 #[b] d (Ret fun v w=>v=H r/\St [] d w []):=by
 refine ay 26 Tryz.func138 Z Z Z<|have a:=St.k d;ax [(0,b)] Z ?_
 unfold F.IW at h
 refine R<|V 1 Z<|gl1<|R<|V 1 Z<|O (aD u57 Z (c.b a.fr)) Z<|V 1 Z<|Q ?_
 apply gl9 Z h<;>intro h
 ·refine R<|V 1 Z<|gl8 ?_
  cases h
  exact au Z Z ⟨Z,a⟩
 refine gl6<|V 1 Z<|gl1<|R<|V 2 Z<|O (aD u57 Z (c.b a.fr)) Z<|V 1 Z<|M h fun i e h=>O (bh u57 aL Z Z (c.b a.fr) e) Z<|O (aX u106 Z Z (c.b a.fr) e Z) Z<|V 1 Z<|Q<|av<|ax [(0,b),(3,H 0),(4,v32 i)] Z ?_
 refine bf (F.Im a0) (fun (s:Int×UInt32) L w=>L=[(0,b),(3,H s.1),(4,v32 s.2)]/\St [] d w []) ?_ (0,i) ⟨Z,a⟩ h
 rintro m ⟨k,f⟩ L w n l j h g
 try dsimp only at l
 obtain⟨rfl,a⟩:=l
 unfold F.Im at h
 refine az<|R<|V 1 Z<|O (aj Z Z (oN _ f 0)) Z<|Q ?_
 apply gl9 Z h<;>intro h
 ·exact gl5<|az<|av<|al<|V 3 Z<|aG<|aH<|am<|al<|V 1 Z<|O (aj Z Z (de _ f 1)) Z<|V 1 Z<|aG<|bo (br (j (wI (k+1),bv f 1) _ _ ⟨Z,a⟩ (aW h g)) Z)
 refine aZ<|aA<|aA<|have h:=aR h g;a7<|am<|R<|V 1 Z<|O (aD u57 Z (c.b a.fr)) Z<|V 1 Z<|O (aj Z Z (ee _ (wI ((a0.length:Int) - 1)) 32)) Z<|V 3 Z<|Q<|aq ?_
 cases h
 exact au Z Z ⟨Z,a⟩
theorem rR {q:World} {a0:Q0} {c:Value} (a1:UInt64) {r:Q0}
  (h:F.LG a0 a1=some r) (b:RP [] q X c a0):Calls Tryz.prog 188 #[c,v64 a1] q (Ret fun v w=>St [] q w [U X v r]):=by
 refine ay 64 Tryz.func188 Z Z Z<|have a:=St.k q;ax [(0,c),(1,v64 a1)] Z ?_
 unfold F.LG at h
 refine R<|V 1 Z<|gl2<|V 1 Z<|O (aj Z Z (jk _ a1 32 (by decide))) Z<|O (aE Z (oD u67 u3 (a1 / 32))) Z<|V 1 Z<|O (aj Z Z (fp _ a1 32 (by decide))) Z<|bg h fun f G h=>O (bd (v:=H f) (by rw[<-G]; rfl)) Z<|V 1 Z<|gl1<|R<|V 2 Z<|O (aD u57 Z (b.b a.fr)) Z<|V 1 Z<|Q ?_
 apply gl9 Z h<;>intro h
 ·refine R<|V 1 Z<|gl8 ?_
  cases h
  exact au Z Z ((a.nil X).d [0] Z Z)
 refine gl6<|V 1 Z<|O (aD u57 Z (b.b a.fr)) Z<|V 2 Z<|M h fun ac S h=>bn (cV (e:=X) u57 aL Z Z Z a S) Z fun d w a=>V 1 Z<|gl1<|R<|V 1 Z<|Q<|av<|ax [(0,c),(5,H f),(6,v64 (a1%32)),(7,d),(8,H 0)] Z ?_
 refine bf (F.Jk a0 f a1) (fun (s:Int×Q0) L w=>L=[(0,c),(5,H f),(6,v64 (a1%32)),(7,d),(8,H s.1)]/\St [] q w [U X d s.2]) ?_ (0,ac) ⟨Z,a⟩ h
 rintro an ⟨u,x⟩ L w ad hI T h y
 try dsimp only at hI
 obtain⟨rfl,a⟩:=hI
 unfold F.Jk at h
 refine az<|R<|V 2 Z<|O (aD u57 Z (a.ro 0 Z)) Z<|V 1 Z<|Q ?_
 apply gl9 Z h<;>intro h
 ·refine gl5<|az<|av<|R<|V 4 Z<|M h fun j m h=>O (bh u57 aL Z Z (b.b a.fr) m) Z<|O (aX u106 Z Z (b.b a.fr) m Z) Z<|O (aE Z (bC u106 u103 j)) Z<|V 1 Z<|Q ?_
  refine aU (r:=ad) (fun (g:UInt64) L w=>L=[(0,c),(5,H f),(6,v64 (a1%32)),(7,d),(8,H u),(9,v64 g)]/\St [] q w [U X d x]) (F.JK a1 u x) ?_ ?_
  rotate_left
  ·intro n
   refine R<|V 5 Z<|O (aD u57 Z (b.b a.fr)) Z<|V 1 Z<|Q ?_
   apply gl9 Z h<;>intro h
   ·exact al<|V 6 Z<|M h fun k o h=>O (bh u57 aL Z Z (b.b a.fr) o) Z<|O (aX u106 Z Z (b.b a.fr) o Z) Z<|O (aE Z (bC u106 u103 k)) Z<|O (aj Z Z (cp _ k.toUInt64 32)) Z<|O (aj Z Z (dL _ j.toUInt64 (aF k.toUInt64 32))) Z<|bg h fun z B h=>O (bd (v:=v64 z) (by rw[<-B]; rfl)) Z<|Q<|aB (n z _ _ ⟨Z,a⟩ h) Z
   exact gl5<|aB (n j.toUInt64 _ _ ⟨Z,a⟩ h) Z
  rintro l L w hJ h
  try dsimp only at hJ
  obtain⟨rfl,a⟩:=hJ
  unfold F.JK at h
  refine al<|V 4 Z<|O (aj Z Z (ca _ l (a1%32))) Z<|O (aE Z (ce u103 u106 (aP l ((a1%32).toNat)))) Z<|M h fun ao p h=>O (bh u57 aL Z Z (a.ro 0 Z) p) Z<|bm (bX (t:=((aP l ((a1%32).toNat)).toUInt32)) aL Z Z a (i:=0) Z p Z) fun w a=>bg h fun ab C h=>?_
  rw[C]at a
  exact aG<|aH<|am<|al<|V 3 Z<|aG<|bo (br (T (wI (u+1),ab) _ _ ⟨Z,a⟩ (aW h y)) Z)
 refine aZ<|aA<|aA<|have h:=aR h y;a7<|am<|R<|V 1 Z<|have hG:=a.pick (os':=[U X d x]++[]) [0] (by decide) Z;M h fun ap D h=>aJ Z (dx  D hG.f ) Z ?_
 rintro ar w ⟨ak,A,E⟩
 rw[<-A]at E
 have a:=hG.g E
 refine V 1 Z<|Q<|aq ?_
 cases h
 exact au Z Z (a.d [0] Z Z)
end Go.Proofs
