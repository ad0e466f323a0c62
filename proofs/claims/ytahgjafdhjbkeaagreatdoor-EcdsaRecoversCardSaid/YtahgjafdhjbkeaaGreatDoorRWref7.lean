import Derived.Test.YtahgjafdhjbkeaaGreatDoorRW0
import Derived.Test.YtahgjafdhjbkeaaGreatDoorGkFman
set_option linter.unusedVariables false
set_option linter.unusedSimpArgs false
set_option linter.unusedSectionVars false
set_option maxRecDepth 4000
namespace Go.Proofs
open Go Go.RowKit Go.Gk
open Go.Gk renaming aa -> V, af -> J, ag -> N, ai -> H, e32 -> X, gl3 -> P, gl4 -> R, own -> U, red -> Q, vB -> K, vI -> I
open Nat renaming le_of_ble_eq_true -> W
open Go.Gk.Rds renaming cons -> M
theorem dl {f:World} {a0:L0} {b:Value} {r:L0}
  (h:F.DB a0=some r) (d:RP [] f X b a0):Calls Tryz.prog 70 #[b] f (Ret fun v w=>St [] f w [U X v r]):=by
 refine aB 24 Tryz.func70 Z Z Z<|have a:=St.k f;ax [(0,b)] Z ?_
 unfold F.DB at h
 refine R<|V 1 Z<|gl2<|V 1 Z<|N (aC u31 Z (d.b a.fr)) Z<|V 1 Z<|gl1<|aq<|ax [(0,b),(3,I (a0.length:Int))] Z ?_
 refine aT (F.I8 a0) (fun (s:Int) L w=>L=[(0,b),(3,I s)]/\St [] f w []) ?_ (a0.length:Int) ⟨Z,a⟩ h
 rintro x e L w p q o h i
 try dsimp only at q
 obtain⟨rfl,a⟩:=q
 unfold F.I8 at h
 refine aw ?_
 refine a8 (r:=p) (fun (g:Bool) L w=>L=[(0,b),(3,I e),(16,K g)]/\St [] f w []) (F.Jb a0 e) ?_ ?_
 rotate_left
 ·intro j
  refine al<|V 3 Z ?_
  cases c:(decide ((0:Int)<e))
  case true=>
   have h:=cz h c
   try simp only[c]
   exact V 3 Z<|J h fun n k h=>bB (t:=9) Z Z (bk u31 aN Z Z (d.b a.fr) k) Z<|bB (t:=9) Z Z (a9 u38 Z Z (d.b a.fr) k Z) Z<|bB (t:=9) Z Z (aj Z Z (k7 _ n 0)) Z<|V 1 Z<|P<|aG (j (n == 0) _ _ ⟨Z,a⟩ h) Z
  case false=>
   have h:=cA h c
   try simp only[c]
   exact V 7 Z<|P<|aG (j false _ _ ⟨Z,a⟩ h) Z
 rintro A L w u h
 try dsimp only at u
 obtain⟨rfl,a⟩:=u
 unfold F.Jb at h
 apply gl9 Z h<;>intro h
 ·exact gl5<|aq<|al<|V 3 Z<|aE<|aF<|bd (bc (o (wI (e - 1)) _ _ ⟨Z,a⟩ (aK h i)) Z)
 refine aQ<|av<|av<|have h:=aI h i;aR<|ak<|R<|V 1 Z<|gl2<|V 3 Z<|J h fun B l h=>N (jH u31 aN Z Z (d.b a.fr) l) Z<|J h fun y m h=>bC (jm u31 aN Z Z Z a ((d.g_slh l).b a.fr) m) Z fun z w a=>V 1 Z<|P<|ay ?_
 cases h
 exact az Z Z (a.d [0] Z Z)
theorem me {a:World}  {r:L0}
  (h:F.Ep =some r) :Calls Tryz.prog 86 #[] a (Ret fun v w=>St [] a w [U X v r]):=by
 refine aB 2 Tryz.func86 Z Z Z<|have b:=St.k a;j8 [] trivial ?_
 unfold F.Ep at h
 refine R<|V 1 Z<|gl2<|bC (cq (e:=X) (l:=([1]:L0)) (vs:=[v32 1]) u31 aN Z Z Z Z (by decide) (by decide) b) Z fun c w b=>V 1 Z<|P<|ay ?_
 cases h
 exact az Z Z (b.d [0] Z Z)
theorem eh {e:World} {a0:L0} {a:Value} (a1:Int) {r:UInt64}
  (h:F.DK a0 a1=some r) (b:RP [] e X a a0):Calls Tryz.prog 137 #[a,I a1] e (Ret fun v w=>v=v64 r/\St [] e w []):=by
 refine aB 14 Tryz.func137 Z Z Z<|have c:=St.k e;ax [(0,a),(1,I a1)] Z ?_
 unfold F.DK at h
 refine R<|V 1 Z<|gl1<|R<|V 2 Z<|N (aC u31 Z (b.b c.fr)) Z<|V 1 Z<|P ?_
 apply gl9 Z h<;>intro h
 ·refine R<|V 1 Z<|gl8 ?_
  cases h
  exact az Z Z ⟨Z,c⟩
 refine gl6<|V 2 Z<|J h fun f d h=>N (bk u31 aN Z Z (b.b c.fr) d) Z<|N (a9 u38 Z Z (b.b c.fr) d Z) Z<|N (aD Z (bK u38 u119 f)) Z<|V 1 Z<|P<|ay ?_
 cases h
 exact az Z Z ⟨Z,c⟩
theorem fE {f:World} {a0 a1:L0} {c d:Value} {r:Int}
  (h:F.DJ a0 a1=some r) (g:RP [] f X c a0) (i:RP [] f X d a1):Calls Tryz.prog 82 #[c,d] f (Ret fun v w=>v=I r/\St [] f w []):=by
 refine aB 30 Tryz.func82 Z Z Z<|have a:=St.k f;ax [(0,c),(1,d)] Z ?_
 unfold F.DJ at h
 refine R<|V 1 Z<|gl1<|R<|V 1 Z<|N (aC u31 Z (g.b a.fr)) Z<|V 1 Z<|N (aC u31 Z (i.b a.fr)) Z<|N (k8 Z Z) Z<|V 1 Z<|aZ h fun j k h=>N (ba (v:=I j) (by rw[<-k]; rfl)) Z<|P<|aq<|ax [(0,c),(1,d),(5,I j)] Z ?_
 refine aT (F.Fd a0 a1) (fun (s:Int) L w=>L=[(0,c),(1,d),(5,I s)]/\St [] f w []) ?_ j ⟨Z,a⟩ h
 rintro z e L w A q l h b
 try dsimp only at q
 obtain⟨rfl,a⟩:=q
 unfold F.Fd at h
 refine aw<|R<|V 2 Z<|P ?_
 apply gl9 Z h<;>intro h
 ·refine gl5<|aw<|aq<|aw<|R<|V 2 Z<|J h fun t m h=>bf a Z (eh e m (g.b a.fr).rp) Z fun w a=>V 2 Z<|J h fun u n h=>bf a Z (eh e n (i.b a.fr).rp) Z fun w a=>N (aj Z Z (ou _ t u)) Z<|P ?_
  apply gl9 Z h<;>intro h
  ·refine R<|V 1 Z<|gl8<|bu<|aU<|aU<|have h:=aI h b;bu<|aU ?_
   cases h
   exact az Z Z ⟨Z,a⟩
  refine gl6<|V 2 Z<|J h fun x o h=>bf a Z (eh e o (g.b a.fr).rp) Z fun w a=>V 2 Z<|J h fun y p h=>bf a Z (eh e p (i.b a.fr).rp) Z fun w a=>N (aj Z Z (jP _ x y)) Z<|P ?_
  apply gl9 Z h<;>intro h
  ·refine R<|V 1 Z<|P<|ay<|bu<|aU<|aU<|have h:=aI h b;bu<|aU ?_
   cases h
   exact az Z Z ⟨Z,a⟩
  exact cd<|aF<|ak<|al<|V 3 Z<|aE<|bd (bc (l (wI (e - 1)) _ _ ⟨Z,a⟩ (aK h b)) Z)
 refine aQ<|av<|av<|have h:=aI h b;aR<|ak<|R<|V 1 Z<|P<|ay ?_
 cases h
 exact az Z Z ⟨Z,a⟩
theorem iz {d:World} {a0:L0} {a1:List L0} {b c:Value} {s1:List SV} {r:Int}
  (h:F.D6 a0 a1=some r) (m:RP [] d X b a0) (g:RP [] d eV c s1) (hl1:gU [] d X s1 a1):Calls Tryz.prog 84 #[b,c] d (Ret fun v w=>v=I r/\St [] d w []):=by
 refine aB 27 Tryz.func84 Z Z Z<|have a:=St.k d;ax [(0,b),(1,c)] Z ?_
 unfold F.D6 at h
 refine R<|V 1 Z<|gl1<|R<|V 1 Z<|P<|aq<|ax [(0,b),(1,c),(5,I 0)] Z ?_
 refine aT (F.DL a0 a1) (fun (s:Int) L w=>L=[(0,b),(1,c),(5,I s)]/\St [] d w []) ?_ 0 ⟨Z,a⟩ h
 rintro u q L w D t n h e
 try dsimp only at t
 obtain⟨rfl,a⟩:=t
 unfold F.DL at h
 refine aw<|R<|V 2 Z<|N (r8 u98 Z (g.b a.fr) hl1.len) Z<|V 1 Z<|P ?_
 apply gl9 Z h<;>intro h
 ·refine gl5<|aw<|aq<|R<|V 2 Z<|J h fun E o h=>?_
  obtain⟨x,f,i⟩:=hl1.get o
  refine N (bk u98 kU Z Z (g.b a.fr) f) Z<|N (a9 u31 Z Z (g.b a.fr) f Z) Z<|J h fun G p h=>aV a Z (dl  p (i.b a.fr).rp) Z fun S w a=>N (aC u31 Z (a.ro 0 Z)) Z<|V 1 Z<|P ?_
  apply gl9 Z h<;>intro h
  ·refine R<|V 1 Z<|P<|ay<|bu<|aU<|aU<|have h:=aI h e;bu<|aU ?_
   cases h
   exact az Z Z ⟨Z,a.d [] Z Z⟩
  exact cd<|aF<|ak<|al<|V 3 Z<|aE<|bd (bc (n (wI (q+1)) _ _ ⟨Z,(a.d [] Z Z)⟩ (aK h e)) Z)
 refine aQ<|av<|av<|have h:=aI h e;aR<|ak<|aw<|R<|V 1 Z<|J h fun y j h=>aV a Z (dl  j (m.b a.fr).rp) Z fun z w a=>N (aC u31 Z (a.ro 0 Z)) Z<|V 1 Z<|P ?_
 apply gl9 Z h<;>intro h
 ·refine R<|V 1 Z<|gl8 ?_
  cases h
  exact az Z Z ⟨Z,a.d [] Z Z⟩
 refine gl5<|aw<|R<|V 1 Z<|J h fun A k h=>aV a Z (me  k ) Z fun B w a=>J h fun C l h=>bf a Z (fE  l (m.b a.fr).rp (a.ro 0 Z).rp) Z fun w a=>V 1 Z<|P ?_
 apply gl9 Z h<;>intro h
 ·refine R<|V 1 Z<|gl8 ?_
  cases h
  exact az Z Z ⟨Z,a.d [] Z Z⟩
 refine gl6<|V 1 Z<|P<|ay ?_
 cases h
 exact az Z Z ⟨Z,a.d [] Z Z⟩
theorem gt {l:World} {a0 a1:L0} {d f:Value} {r:L0}
  (h:F.El a0 a1=some r) (o:RP [] l X d a0) (m:RP [] l X f a1):Calls Tryz.prog 89 #[d,f] l (Ret fun v w=>St [] l w [U X v r]):=by
 refine aB 69 Tryz.func89 Z Z Z<|have a:=St.k l;ax [(0,d),(1,f)] Z ?_
 unfold F.El at h
 refine R<|V 1 Z<|gl2<|V 1 Z<|N (aC u31 Z (o.b a.fr)) Z<|V 1 Z<|N (aC u31 Z (m.b a.fr)) Z<|V 1 Z<|J h fun ar ac h=>bC (c9 (e:=X) u31 aN Z Z Z a ac) Z fun g w a=>V 1 Z<|gl1<|R<|V 1 Z<|P<|aq<|ax [(0,d),(1,f),(5,g),(6,I 0)] Z ?_
 refine aT (F.F5 a0 a1) (fun (s:Int×L0) L w=>L=[(0,d),(1,f),(5,g),(6,I s.1)]/\St [] l w [U X g s.2]) ?_ (0,ar) ⟨Z,a⟩ h
 rintro aA ⟨p,au⟩ L w aS B ad h C
 try dsimp only at B
 obtain⟨rfl,a⟩:=B
 unfold F.F5 at h
 refine aw<|R<|V 2 Z<|N (aC u31 Z (o.b a.fr)) Z<|V 1 Z<|P ?_
 apply gl9 Z h<;>intro h
 ·refine gl5<|aw<|aq<|R<|V 1 Z<|gl1<|R<|V 1 Z<|P<|aq<|ax [(0,d),(1,f),(5,g),(6,I p),(7,v64 0),(8,I 0)] Z ?_
  refine aT (F.Fm a0 a1 p) (fun (s:UInt64×Int×L0) L w=>L=[(0,d),(1,f),(5,g),(6,I p),(7,v64 s.1),(8,I s.2.1)]/\St [] l w [U X g s.2.2]) ?_ (0,0,au) ⟨Z,a⟩ h
  rintro aG ⟨D,ae,ah⟩ L w aH B E h q
  try dsimp only at B
  obtain⟨rfl,a⟩:=B
  unfold F.Fm at h
  refine aw<|R<|V 2 Z<|N (aC u31 Z (m.b a.fr)) Z<|V 1 Z<|P ?_
  apply gl9 Z h<;>intro h
  ·refine gl5<|aw<|aq<|aw<|aX (fun w'=>St [] l w' [U X g ah]) (fun _=>true) bQ (fun _ _ _ hf=>hf.2) (fun _ _ hf=>hf) (by kernel_rfl)<|have a:=a.drew;show lxE _ _ _ _ _ _ _ [0,1,2,3,4,5,6,7,8,9,10,11,12,13,14,15,16,17,18,19,20,21] _ _ from ao 4 Z a<|J h fun n u h=>H a Z Z (fun w b=>bk u31 aN Z Z (b.ro 0 Z) u) Z<|H a Z Z (fun w b=>a9 u38 Z Z (b.ro 0 Z) u Z) Z<|H a Z Z (fun w b=>aD Z (bK u38 u119 n)) Z<|ao 2 Z a<|J h fun j x h=>H a Z Z (fun w b=>bk u31 aN Z Z (o.b b.fr) x) Z<|H a Z Z (fun w b=>a9 u38 Z Z (o.b b.fr) x Z) Z<|H a Z Z (fun w b=>aD Z (bK u38 u119 j)) Z<|ao 2 Z a<|J h fun k y h=>H a Z Z (fun w b=>bk u31 aN Z Z (m.b b.fr) y) Z<|H a Z Z (fun w b=>a9 u38 Z Z (m.b b.fr) y Z) Z<|H a Z Z (fun w b=>aD Z (bK u38 u119 k)) Z<|H a Z Z (fun w b=>aj Z Z (gD _ j.toUInt64 k.toUInt64)) Z<|H a Z Z (fun w b=>aj Z Z (bT _ n.toUInt64 (j.toUInt64*k.toUInt64))) Z<|ao 1 Z a<|H a Z Z (fun w b=>aj Z Z (bT _ (n.toUInt64+(j.toUInt64*k.toUInt64)) D)) Z ?_
   refine aZ h fun c G h=>H a Z Z (fun w b=>ba (v:=v64 c) (by rw[<-G]; rfl)) Z<|bp a<|ak<|R<|V 5 Z<|N (aj Z Z (eu _ c 4294967295)) Z<|N (aD Z (cc u119 u38 (c &&& 4294967295))) Z<|J h fun aJ z h=>N (bk u31 aN Z Z (a.ro 0 Z) z) Z<|bo (bX (t:=((c &&& 4294967295).toUInt32)) aN Z Z a (i:=0) Z z Z) fun w a=>aZ h fun an S h=>?_
   rw[S]at a
   exact P<|al<|V 1 Z<|N (aj Z Z (cf _ c 32)) Z<|V 1 Z<|aE<|aF<|ak<|al<|V 3 Z<|aE<|bd (bc (E (aO c 32,wI (ae+1),an) _ _ ⟨Z,a⟩ (aK h q)) Z)
  refine aQ<|av<|av<|have h:=aI h q;aR<|ak<|al<|V 3 Z<|N (aC u31 Z (m.b a.fr)) Z<|V 2 Z<|N (aD Z (cc u119 u38 D)) Z<|J h fun aL A h=>N (bk u31 aN Z Z (a.ro 0 Z) A) Z<|bo (bX (t:=D.toUInt32) aN Z Z a (i:=0) Z A Z) fun w a=>aZ h fun ap T h=>?_
  rw[T]at a
  exact aE<|aF<|ak<|al<|V 3 Z<|aE<|bd (bc (ad (wI (p+1),ap) _ _ ⟨Z,a⟩ (aK h C)) Z)
 refine aQ<|av<|av<|have h:=aI h C;aR<|ak<|R<|V 1 Z<|J h fun aM ab h=>aV a Z (dl  ab (a.ro 0 Z).rp) Z fun aP w a=>V 1 Z<|P<|ay ?_
 cases h
 exact az Z Z (a.d [0] Z Z)
theorem jJ {c:World} {a0:L0} {a:Value} (a1:Int) {r:Bool}
  (h:F.EO a0 a1=some r) (f:RP [] c X a a0):Calls Tryz.prog 94 #[a,I a1] c (Ret fun v w=>v=K r/\St [] c w []):=by
 refine aB 15 Tryz.func94 Z Z Z<|have d:=St.k c;ax [(0,a),(1,I a1)] Z ?_
 unfold F.EO at h
 refine R<|V 1 Z<|gl2<|V 2 Z<|N (aj Z Z (dW _ a1 32 (by decide))) Z<|J h fun b e h=>bf d Z (eh (wI (Int.tdiv a1 32)) e (f.b d.fr).rp) Z fun w d=>V 1 Z<|N (aj Z Z (fO _ a1 32 (by decide))) Z<|N (aD Z (dC u3 u87 (Int.tmod a1 32))) Z<|N (aj Z Z (cf _ b (UInt64.ofInt (Int.tmod a1 32)))) Z<|N (aj Z Z (eu _ (aO b ((UInt64.ofInt (Int.tmod a1 32)).toNat)) 1)) Z<|N (aj Z Z (qA _ ((aO b ((UInt64.ofInt (Int.tmod a1 32)).toNat)) &&& 1) 1)) Z<|V 1 Z<|P<|ay ?_
 cases h
 exact az Z Z ⟨Z,d⟩
theorem gS {p:World} {a0 a1:L0} {ap ar:Value} {r:L0×L0}
  (h:F.EG a0 a1=some r) (bv:RP [] p X ap a0) (bw:RP [] p X ar a1):Calls Tryz.prog 83 #[ap,ar] p (Ret fun v w=>∃u0 u1:Value,v=.tuple #[u0,u1]/\St [] p w [U X u0 r.1,U X u1 r.2]):=by
 refine aB 110 Tryz.func83 Z Z Z<|have a:=St.k p;ax [(0,ap),(1,ar)] Z ?_
 unfold F.EG at h
 refine R<|V 2 Z<|gl2<|V 1 Z<|J h fun o be h=>aV a Z (dl  be (bv.b a.fr).rp) Z fun d w a=>V 1 Z<|gl2<|V 1 Z<|J h fun l bg h=>aV a Z (dl  bg (bw.b a.fr).rp) Z fun f w a=>V 1 Z<|gl2<|V 1 Z<|N (aC u31 Z (a.ro 1 Z)) Z<|J h fun bx bh h=>bC (c9 (e:=X) u31 aN Z Z Z a bh) Z fun j w a=>V 1 Z<|gl2<|V 1 Z<|N (aC u31 Z (a.ro 1 Z)) Z<|V 1 Z<|J h fun bi aO h=>bC (c9 (e:=X) u31 aN Z Z Z a aO) Z fun c w a=>V 1 Z<|gl1<|R<|V 1 Z<|N (aC u31 Z (a.ro 3 Z)) Z<|N (aj Z Z (el _ 32 (o.length:Int))) Z<|V 1 Z<|aZ h fun z aP h=>N (ba (v:=I z) (by rw[<-aP]; rfl)) Z<|P<|aq<|ax [(0,d),(1,f),(6,j),(7,c),(8,I z)] Z ?_
 refine aT (F.E6 o l) (fun (s:Int×L0×L0) L w=>L=[(0,d),(1,f),(6,j),(7,c),(8,I s.1)]/\St [] p w [U X d o,U X f l,U X j s.2.1,U X c s.2.2]) ?_ (z,bx,bi) ⟨Z,(a.d [3,2,1,0] Z Z)⟩ h
 rintro bz ⟨b,k,A⟩ L w au x aS h E
 try dsimp only at x
 obtain⟨rfl,a⟩:=x
 unfold F.E6 at h
 refine aw<|R<|V 2 Z<|P ?_
 apply gl9 Z h<;>intro h
 ·refine gl5 ?_
  refine a8 (r:=au) (fun (g:L0×L0) L w=>L=[(0,d),(1,f),(6,j),(7,c),(8,I b)]/\St [] p w [U X d o,U X f l,U X j g.1,U X c g.2]) (F.Ez b) ?_ ?_
  rotate_left
  ·intro G
   refine aq<|R<|V 1 Z<|P ?_
   refine a8 (r:=au) (fun (g:UInt32) L w=>L=[(0,d),(1,f),(6,j),(7,c),(8,I b),(9,v32 g)]/\St [] p w [U X d o,U X f l,U X j k,U X c A]) (F.GD A l k b) ?_ ?_
   rotate_left
   ·intro S
    refine R<|V 2 Z<|J h fun bB aU h=>bf a Z (jJ b aU (a.ro 0 Z).rp) Z fun w a=>P ?_
    apply gl9 Z h<;>intro h
    ·exact al<|V 1 Z<|P<|aG (S 1 _ _ ⟨Z,a⟩ h) Z
    exact gl5<|aG (S 0 _ _ ⟨Z,a⟩ h) Z
   rintro az L w y h
   try dsimp only at y
   obtain⟨rfl,a⟩:=y
   unfold F.GD at h
   refine aw<|R<|V 1 Z<|P<|aq<|ax [(0,d),(1,f),(6,j),(7,c),(8,I b),(9,v32 az),(10,I 0)] Z ?_
   refine aT (F.G2 l k b) (fun (s:UInt32×Int×L0) L w=>L=[(0,d),(1,f),(6,j),(7,c),(8,I b),(9,v32 s.1),(10,I s.2.1)]/\St [] p w [U X d o,U X f l,U X j k,U X c s.2.2]) ?_ (az,0,A) ⟨Z,a⟩ h
   rintro bD ⟨aA,bj,aH⟩ L w bE x aW h T
   try dsimp only at x
   obtain⟨rfl,a⟩:=x
   unfold F.G2 at h
   refine aw<|R<|V 2 Z<|N (aC u31 Z (a.ro 3 Z)) Z<|V 1 Z<|P ?_
   apply gl9 Z h<;>intro h
   ·refine gl5<|aw<|aq<|R<|V 2 Z<|J h fun aJ ab h=>N (bk u31 aN Z Z (a.ro 3 Z) ab) Z<|N (a9 u38 Z Z (a.ro 3 Z) ab Z) Z<|N (aj Z Z (cO _ aJ 31)) Z<|V 1 Z<|gl2<|V 4 Z<|J h fun B ac h=>N (bk u31 aN Z Z (a.ro 3 Z) ac) Z<|N (a9 u38 Z Z (a.ro 3 Z) ac Z) Z<|N (aj Z Z (ei _ B 1)) Z<|V 1 Z<|N (aj Z Z (eB _ (bP B 1) aA)) Z<|J h fun bF ad h=>N (bk u31 aN Z Z (a.ro 3 Z) ad) Z<|bo (bX (t:=((bP B 1) ||| aA)) aN Z Z a (i:=3) Z ad Z) fun w a=>aZ h fun bl aX h=>?_
    rw[aX]at a
    exact P<|al<|V 2 Z<|aE<|aF<|ak<|al<|V 3 Z<|aE<|bd (bc (aW (bA aJ 31,wI (bj+1),bl) _ _ ⟨Z,a⟩ (aK h T)) Z)
   refine aQ<|av<|av<|have h:=aI h T;aR<|ak<|R<|V 2 Z<|J h fun bG aY h=>bf a Z (fE  aY (a.ro 3 Z).rp (a.ro 1 Z).rp) Z fun w a=>V 1 Z<|P ?_
   apply gl9 Z h<;>intro h
   ·refine R<|V 1 Z<|gl1<|R<|V 1 Z<|P<|aq<|ax [(0,d),(1,f),(6,j),(7,c),(8,I b),(12,v64 0),(13,I 0)] Z ?_
    refine aT (F.Es l b k) (fun (s:UInt64×Int×L0) L w=>L=[(0,d),(1,f),(6,j),(7,c),(8,I b),(12,v64 s.1),(13,I s.2.1)]/\St [] p w [U X d o,U X f l,U X j k,U X c s.2.2]) ?_ (0,0,aH) ⟨Z,a⟩ h
    rintro bH ⟨m,q,C⟩ L w bm x a2 h ae
    try dsimp only at x
    obtain⟨rfl,a⟩:=x
    unfold F.Es at h
    refine aw<|R<|V 2 Z<|N (aC u31 Z (a.ro 3 Z)) Z<|V 1 Z<|P ?_
    apply gl9 Z h<;>intro h
    ·refine gl5<|aw<|aq<|R<|V 2 Z<|J h fun n a3 h=>bf a Z (eh q a3 (a.ro 1 Z).rp) Z fun w a=>V 1 Z<|N (aj Z Z (bT _ n m)) Z<|V 1 Z<|gl2<|V 2 Z<|J h fun u ah h=>N (bk u31 aN Z Z (a.ro 3 Z) ah) Z<|N (a9 u38 Z Z (a.ro 3 Z) ah Z) Z<|N (aD Z (bK u38 u119 u)) Z<|V 1 Z<|gl2<|V 1 Z<|P ?_
     refine a8 (r:=bm) (fun (g:UInt64×UInt64) L w=>L=[(0,d),(1,f),(6,j),(7,c),(8,I b),(12,v64 g.1),(13,I q),(14,v64 (n+m)),(15,v64 g.2)]/\St [] p w [U X d o,U X f l,U X j k,U X c C]) (F.Hd m q C n) ?_ ?_
     rotate_left
     ·intro H
      refine R<|V 2 Z<|N (aj Z Z (ou _ u.toUInt64 (n+m))) Z<|P ?_
      apply gl9 Z h<;>intro h
      ·exact R<|V 1 Z<|N (aj Z Z (bT _ u.toUInt64 4294967296)) Z<|aZ h fun aL a4 h=>N (ba (v:=v64 aL) (by rw[<-a4]; rfl)) Z<|P<|al<|V 1 Z<|P<|aG (H (1,aL) _ _ ⟨Z,a⟩ h) Z
      exact gl5<|aG (H (0,u.toUInt64) _ _ ⟨Z,a⟩ h) Z
     rintro⟨bn,D⟩ L w y h
     try dsimp only at y
     obtain⟨rfl,a⟩:=y
     unfold F.Hd at h
     refine al<|V 4 Z<|N (aj Z Z (eN _ D (n+m))) Z<|N (aD Z (cc u119 u38 (D - (n+m)))) Z<|J h fun bI am h=>N (bk u31 aN Z Z (a.ro 3 Z) am) Z<|bo (bX (t:=((D - (n+m)).toUInt32)) aN Z Z a (i:=3) Z am Z) fun w a=>aZ h fun bp a5 h=>?_
     rw[a5]at a
     exact aE<|aF<|ak<|al<|V 3 Z<|aE<|bd (bc (a2 (bn,wI (q+1),bp) _ _ ⟨Z,a⟩ (aK h ae)) Z)
    refine aQ<|av<|av<|have h:=aI h ae;aR<|ak<|al<|V 2 Z<|N (aj Z Z (dW _ b 32 (by decide))) Z<|V 2 Z<|N (aj Z Z (dW _ b 32 (by decide))) Z<|J h fun aM an h=>N (bk u31 aN Z Z (a.ro 2 Z) an) Z<|N (a9 u38 Z Z (a.ro 2 Z) an Z) Z<|V 1 Z<|N (aj Z Z (fO _ b 32 (by decide))) Z<|N (aD Z (dC u3 u87 (Int.tmod b 32))) Z<|N (aj Z Z (ei _ 1 (UInt64.ofInt (Int.tmod b 32)))) Z<|N (aj Z Z (eB _ aM (bP 1 ((UInt64.ofInt (Int.tmod b 32)).toNat)))) Z<|J h fun bJ ao h=>N (bk u31 aN Z Z (a.ro 2 Z) ao) Z<|bo (bX (t:=(aM ||| (bP 1 ((UInt64.ofInt (Int.tmod b 32)).toNat)))) aN Z Z a (i:=2) Z ao Z) fun w a=>aZ h fun bq a6 h=>?_
    rw[a6]at a
    exact aE<|aF<|ak<|aG (G (bq,C) _ _ ⟨Z,a⟩ h) Z
   exact cd<|aF<|ak<|aG (G (k,aH) _ _ ⟨Z,a⟩ h) Z
  rintro⟨br,bs⟩ L w y h
  try dsimp only at y
  obtain⟨rfl,a⟩:=y
  unfold F.Ez at h
  exact al<|V 3 Z<|aE<|bd (bc (aS (wI (b - 1),br,bs) _ _ ⟨Z,a⟩ (aK h E)) Z)
 refine aQ<|av<|av<|have h:=aI h E;aR<|ak<|R<|V 1 Z<|J h fun bL a7 h=>aV a Z (dl  a7 (a.ro 2 Z).rp) Z fun bt w a=>V 1 Z<|J h fun bM bb h=>aV a Z (dl  bb (a.ro 4 Z).rp) Z fun bu w a=>V 2 Z<|P<|ay ?_
 cases h
 exact bY Z Z Z ⟨bt,bu,Z,a.d [1,0] Z Z⟩
theorem eH {a:World} {a0 a1:L0} {b c:Value} {r:L0}
  (h:F.DM a0 a1=some r) (f:RP [] a X b a0) (g:RP [] a X c a1):Calls Tryz.prog 85 #[b,c] a (Ret fun v w=>St [] a w [U X v r]):=by
 refine aB 14 Tryz.func85 Z Z Z<|have d:=St.k a;ax [(0,b),(1,c)] Z ?_
 unfold F.DM at h
 refine R<|V 1 Z<|gl2<|V 2 Z<|J h fun i e h=>bE d Z (gS  e (f.b d.fr).rp (g.b d.fr).rp) Z fun j k w d=>V 5 Z<|gl2<|V 2 Z<|P<|ay ?_
 cases h
 exact az Z Z (d.d [1] Z Z)
theorem lH {d:World} {a0 a1 a2:L0} {b c f:Value} {r:L0×Int}
  (h:F.Ed a0 a1 a2=some r) (g:RP [] d X b a0) (i:RP [] d X c a1) (j:RP [] d X f a2):Calls Tryz.prog 39 #[b,c,f] d (Ret fun v w=>∃u0:Value,v=.tuple #[u0,I r.2]/\St [] d w [U X u0 r.1]):=by
 refine aB 22 Tryz.func39 Z Z Z<|have a:=St.k d;ax [(0,b),(1,c),(2,f)] Z ?_
 unfold F.Ed at h
 refine R<|V 2 Z<|gl2<|V 3 Z<|bC (cq (e:=eV) (l:=([SV.of b,SV.of c]:List SV)) (vs:=[b,c]) u98 kU Z Z Z (eQ (g.b a.fr).sv (eQ (i.b a.fr).sv Z)) (by decide) (by decide) a) Z fun p w a=>J h fun q k h=>bf a Z (iz  k (j.b a.fr).rp (a.ro 0 Z).rp ⟨(g.b a.fr).svrp,(i.b a.fr).svrp,trivial⟩) Z fun w a=>V 1 Z<|gl1<|R<|V 2 Z<|P ?_
 apply gl9 Z h<;>intro h
 ·refine R<|V 3 Z<|gl8 ?_
  cases h
  exact bY Z Z Z ⟨L3,Z,(a.nil X).d [0] Z Z⟩
 refine gl6<|V 2 Z<|J h fun s m h=>aV a Z (gt  m (g.b a.fr).rp (i.b a.fr).rp) Z fun t w a=>V 1 Z<|J h fun u n h=>aV a Z (eH  n (a.ro 0 Z).rp (j.b a.fr).rp) Z fun o w a=>V 2 Z<|P<|ay ?_
 cases h
 exact bY Z Z Z ⟨o,Z,a.d [0] Z Z⟩
theorem gO {j:World} {a0 a1:L0} {f g:Value} {r:L0}
  (h:F.Ei a0 a1=some r) (x:RP [] j X f a0) (y:RP [] j X g a1):Calls Tryz.prog 88 #[f,g] j (Ret fun v w=>St [] j w [U X v r]):=by
 refine aB 37 Tryz.func88 Z Z Z<|have a:=St.k j;ax [(0,f),(1,g)] Z ?_
 unfold F.Ei at h
 refine R<|V 1 Z<|gl2<|V 1 Z<|gl2<|V 1 Z<|gl1<|R<|V 1 Z<|P<|aq<|ax [(0,f),(1,g),(5,.slice none 0 0),(6,v64 0),(7,I 0)] Z ?_
 refine aT (F.Gd a0 a1) (fun (s:L0×UInt64×Int) L w=>∃(k:Value),L=[(0,f),(1,g),(5,k),(6,v64 s.2.1),(7,I s.2.2)]/\St [] j w [U X k s.1]) ?_ ([],0,0) ⟨L3,Z,(a.nil X)⟩ h
 rintro E ⟨ab,d,m⟩ L w ac D z h n
 try dsimp only at D
 obtain⟨k,rfl,a⟩:=D
 unfold F.Gd at h
 refine aw<|R<|V 2 Z<|N (aC u31 Z (x.b a.fr)) Z<|V 1 Z<|N (aC u31 Z (y.b a.fr)) Z<|N (k8 Z Z) Z<|V 1 Z<|P ?_
 apply gl9 Z h<;>intro h
 ·exact gl5<|aw<|aq<|R<|V 2 Z<|J h fun c A h=>bf a Z (eh m A (x.b a.fr).rp) Z fun w a=>V 2 Z<|J h fun b p h=>bf a Z (eh m p (y.b a.fr).rp) Z fun w a=>N (aj Z Z (bT _ c b)) Z<|V 1 Z<|N (aj Z Z (bT _ (c+b) d)) Z<|V 1 Z<|gl2<|V 2 Z<|N (aj Z Z (eu _ ((c+b)+d) 4294967295)) Z<|N (aD Z (cc u119 u38 (((c+b)+d) &&& 4294967295))) Z<|bC (cq (e:=X) (l:=([(((c+b)+d) &&& 4294967295).toUInt32]:L0)) (vs:=[v32 ((((c+b)+d) &&& 4294967295).toUInt32)]) u31 aN Z Z Z Z (by decide) (by decide) a) Z fun G w a=>J h fun B q h=>bC (dN u31 aN Z Z Z a (i:=1) Z (a.ro 0 Z) q) Z fun C w a=>V 1 Z<|P<|al<|V 1 Z<|N (aj Z Z (cf _ ((c+b)+d) 32)) Z<|aZ h fun o t h=>N (ba (v:=v64 o) (by rw[<-t]; rfl)) Z<|aE<|aF<|ak<|al<|V 3 Z<|aE<|bd (bc (z (B,o,wI (m+1)) _ _ ⟨C,Z,(a.d [1] Z Z)⟩ (aK h n)) Z)
 refine aQ<|av<|av<|have h:=aI h n;aR<|ak<|R<|V 1 Z<|J h fun S u h=>aV a Z (dl  u (a.ro 0 Z).rp) Z fun T w a=>V 1 Z<|P<|ay ?_
 cases h
 exact az Z Z (a.d [0] Z Z)
theorem eJ {n:World} {a0 a1:L0} {d f:Value} {r:L0}
  (h:F.DR a0 a1=some r) (y:RP [] n X d a0) (G:RP [] n X f a1):Calls Tryz.prog 87 #[d,f] n (Ret fun v w=>St [] n w [U X v r]):=by
 refine aB 38 Tryz.func87 Z Z Z<|have a:=St.k n;ax [(0,d),(1,f)] Z ?_
 unfold F.DR at h
 refine R<|V 1 Z<|gl2<|V 1 Z<|gl2<|V 1 Z<|gl1<|R<|V 1 Z<|P<|aq<|ax [(0,d),(1,f),(5,.slice none 0 0),(6,v64 0),(7,I 0)] Z ?_
 refine aT (F.Hj a0 a1) (fun (s:L0×UInt64×Int) L w=>∃(k:Value),L=[(0,d),(1,f),(5,k),(6,v64 s.2.1),(7,I s.2.2)]/\St [] n w [U X k s.1]) ?_ ([],0,0) ⟨L3,Z,(a.nil X)⟩ h
 rintro ac ⟨z,c,m⟩ L w S T A h q
 try dsimp only at T
 obtain⟨k,rfl,a⟩:=T
 unfold F.Hj at h
 refine aw<|R<|V 2 Z<|N (aC u31 Z (y.b a.fr)) Z<|V 1 Z<|P ?_
 apply gl9 Z h<;>intro h
 ·refine gl5<|aw<|aq<|R<|V 2 Z<|J h fun o B h=>bf a Z (eh m B (y.b a.fr).rp) Z fun w a=>V 1 Z<|gl2<|V 2 Z<|J h fun b t h=>bf a Z (eh m t (G.b a.fr).rp) Z fun w a=>V 1 Z<|N (aj Z Z (bT _ b c)) Z<|V 1 Z<|gl2<|V 1 Z<|P ?_
  refine a8 (r:=S) (fun (g:UInt64×UInt64) L w=>L=[(0,d),(1,f),(5,k),(6,v64 g.1),(7,I m),(8,v64 g.2),(9,v64 (b+c))]/\St [] n w [U X k z]) (F.GY z c m b) ?_ ?_
  rotate_left
  ·intro p
   refine R<|V 2 Z<|N (aj Z Z (ou _ o (b+c))) Z<|P ?_
   apply gl9 Z h<;>intro h
   ·exact R<|V 1 Z<|N (aj Z Z (bT _ o 4294967296)) Z<|V 1 Z<|P<|al<|V 1 Z<|P<|aG (p (1,o+4294967296) _ _ ⟨Z,a⟩ h) Z
   exact gl5<|aG (p (0,o) _ _ ⟨Z,a⟩ h) Z
  rintro⟨C,j⟩ L w hJ h
  try dsimp only at hJ
  obtain⟨rfl,a⟩:=hJ
  unfold F.GY at h
  exact al<|V 3 Z<|N (aj Z Z (eN _ j (b+c))) Z<|N (aD Z (cc u119 u38 (j - (b+c)))) Z<|bC (cq (e:=X) (l:=([(j - (b+c)).toUInt32]:L0)) (vs:=[v32 ((j - (b+c)).toUInt32)]) u31 aN Z Z Z Z (by decide) (by decide) a) Z fun ad w a=>J h fun D u h=>bC (dN u31 aN Z Z Z a (i:=1) Z (a.ro 0 Z) u) Z fun E w a=>V 1 Z<|aE<|aF<|ak<|al<|V 3 Z<|aE<|bd (bc (A (D,C,wI (m+1)) _ _ ⟨E,Z,(a.d [1] Z Z)⟩ (aK h q)) Z)
 refine aQ<|av<|av<|have h:=aI h q;aR<|ak<|R<|V 1 Z<|J h fun ae x h=>aV a Z (dl  x (a.ro 0 Z).rp) Z fun ah w a=>V 1 Z<|P<|ay ?_
 cases h
 exact az Z Z (a.d [0] Z Z)
theorem pv {f:World} {a0 a1 a2:L0} {b c g:Value} {r:L0×Int}
  (h:F.GQ a0 a1 a2=some r) (i:RP [] f X b a0) (j:RP [] f X c a1) (d:RP [] f X g a2):Calls Tryz.prog 40 #[b,c,g] f (Ret fun v w=>∃u0:Value,v=.tuple #[u0,I r.2]/\St [] f w [U X u0 r.1]):=by
 refine aB 28 Tryz.func40 Z Z Z<|have a:=St.k f;ax [(0,b),(1,c),(2,g)] Z ?_
 unfold F.GQ at h
 refine R<|V 2 Z<|gl2<|V 3 Z<|bC (cq (e:=eV) (l:=([SV.of b,SV.of c]:List SV)) (vs:=[b,c]) u98 kU Z Z Z (eQ (i.b a.fr).sv (eQ (j.b a.fr).sv Z)) (by decide) (by decide) a) Z fun A w a=>J h fun B o h=>bf a Z (iz  o (d.b a.fr).rp (a.ro 0 Z).rp ⟨(i.b a.fr).svrp,(j.b a.fr).svrp,trivial⟩) Z fun w a=>V 1 Z<|gl1<|R<|V 2 Z<|P ?_
 apply gl9 Z h<;>intro h
 ·refine R<|V 3 Z<|gl8 ?_
  cases h
  exact bY Z Z Z ⟨L3,Z,(a.nil X).d [0] Z Z⟩
 refine gl6<|V 2 Z<|J h fun C p h=>aV a Z (eH  p (i.b a.fr).rp (d.b a.fr).rp) Z fun D w a=>V 1 Z<|J h fun E q h=>aV a Z (gO  q (a.ro 0 Z).rp (d.b a.fr).rp) Z fun G w a=>V 2 Z<|J h fun t k h=>aV a Z (eH  k (j.b a.fr).rp (d.b a.fr).rp) Z fun u w a=>J h fun x m h=>aV a Z (eJ  m (a.ro 1 Z).rp (a.ro 0 Z).rp) Z fun y w a=>V 1 Z<|J h fun z n h=>aV a Z (eH  n (a.ro 0 Z).rp (d.b a.fr).rp) Z fun s w a=>V 2 Z<|P<|ay ?_
 cases h
 exact bY Z Z Z ⟨s,Z,a.d [0] Z Z⟩
theorem wh {d:World} {a0 a1 a2:L0} {b c f:Value} {r:L0×Int}
  (h:F.Iq a0 a1 a2=some r) (g:RP [] d X b a0) (i:RP [] d X c a1) (j:RP [] d X f a2):Calls Tryz.prog 135 #[b,c,f] d (Ret fun v w=>∃u0:Value,v=.tuple #[u0,I r.2]/\St [] d w [U X u0 r.1]):=by
 refine aB 22 Tryz.func135 Z Z Z<|have a:=St.k d;ax [(0,b),(1,c),(2,f)] Z ?_
 unfold F.Iq at h
 refine R<|V 2 Z<|gl2<|V 3 Z<|bC (cq (e:=eV) (l:=([SV.of b,SV.of c]:List SV)) (vs:=[b,c]) u98 kU Z Z Z (eQ (g.b a.fr).sv (eQ (i.b a.fr).sv Z)) (by decide) (by decide) a) Z fun p w a=>J h fun q k h=>bf a Z (iz  k (j.b a.fr).rp (a.ro 0 Z).rp ⟨(g.b a.fr).svrp,(i.b a.fr).svrp,trivial⟩) Z fun w a=>V 1 Z<|gl1<|R<|V 2 Z<|P ?_
 apply gl9 Z h<;>intro h
 ·refine R<|V 3 Z<|gl8 ?_
  cases h
  exact bY Z Z Z ⟨L3,Z,(a.nil X).d [0] Z Z⟩
 refine gl6<|V 2 Z<|J h fun s m h=>aV a Z (gO  m (g.b a.fr).rp (i.b a.fr).rp) Z fun t w a=>V 1 Z<|J h fun u n h=>aV a Z (eH  n (a.ro 0 Z).rp (j.b a.fr).rp) Z fun o w a=>V 2 Z<|P<|ay ?_
 cases h
 exact bY Z Z Z ⟨o,Z,a.d [0] Z Z⟩
theorem ww {d:World} {a0 a1:L0} {c k:Value} {r:L0×Int}
  (h:F.GX a0 a1=some r) (aO:RP [] d X c a0) (aP:RP [] d X k a1):Calls Tryz.prog 38 #[c,k] d (Ret fun v w=>∃u0:Value,v=.tuple #[u0,I r.2]/\St [] d w [U X u0 r.1]):=by
 refine aB 59 Tryz.func38 Z Z Z<|have a:=St.k d;have f:=Fz.k (S:=[]) (w0:=d);?_
 have hTT:TOk [] [] d:=TOk.nil
 have b:Rds [] d [Q X k a1,Q X c a0]:=M (RP.h (W Z) aP) (M (RP.h (W Z) aO) (Rds.nil))
 have m:Off [] [Q X k a1,Q X c a0]:=Off.emp
 refine ax [(0,c),(1,k)] Z ?_
 unfold F.GX at h
 refine R<|V 2 Z<|gl2<|V 2 Z<|bC (cq (e:=eV) (l:=([SV.of c]:List SV)) (vs:=[c]) u98 kU Z Z Z (eQ ((b.rp 0 Z).b a.fr).sv Z) (by decide) (by decide) a) Z fun aS w a=>J h fun be am h=>bf a Z (iz  am ((b.rp 1 Z).b a.fr).rp (a.ro 0 Z).rp ⟨((b.rp 0 Z).b a.fr).svrp,trivial⟩) Z fun w a=>V 1 Z<|gl1<|R<|V 2 Z<|P ?_
 apply gl9 Z h<;>intro h
 ·refine R<|V 3 Z<|gl8 ?_
  cases h
  replace a:=f.st a
  exact bY Z Z Z ⟨L3,Z,(a.nil X).d [0] Z Z⟩
 refine gl6<|V 1 Z<|J h fun t an h=>aV a Z (dl  an ((b.rp 1 Z).b a.fr).rp) Z fun g w a=>V 1 Z<|gl2<|V 2 Z<|gl2<|V 2 Z<|J h fun aj ao h=>aV a Z (eH  ao ((b.rp 0 Z).b a.fr).rp (a.ro 0 Z).rp) Z fun x w a=>V 1 Z<|gl2<|V 1 Z<|gl2<|J h fun y C h=>aV a Z (me  C ) Z fun n w a=>V 1 Z<|gl1<|aq ?_
 replace a:=a.pick (os':=[U X n y,U X x aj,U X g t,U eV aS ([SV.of c]:List SV)]++[]) [0,1,2,3] (by decide) rfl
 obtain⟨aZ,aW,f,b,m,a⟩:=f.frzT hTT b m a
 refine ax [(1,g),(7,g),(8,x),(9,.slice none 0 0),(10,n)] Z ?_
 refine aT (F.Gu t) (fun (s:L0×L0×L0×L0) L w=>∃(o:Value) (i:Value) (p:Value) (j:Value),L=[(1,g),(7,o),(8,i),(9,p),(10,j)]/\SfT [] [] d w [Q X j s.2.2.2,Q X p s.2.2.1,Q X i s.2.1,Q X o s.1,Q X g t] []) ?_ (t,aj,[],y) ⟨g,x,L3,n,Z,(SfT.mk' f (M (b.nth 5 Z) (M OE.kept.nil (b.pick [4,3,3] Z))) (Off.cons (m.nth 5 Z) (Off.cons Off.nilrd (m.pick [4,3,3] Z))) a)⟩ h
 rintro a2 ⟨a3,ap,a4,ar⟩ L w a5 hI D h u
 try dsimp only at hI
 obtain⟨o,i,p,j,rfl,⟨a6,aX,f,b,m,a⟩⟩:=hI
 unfold F.Gu at h
 refine aw<|R<|V 1 Z<|N (aC u31 Z ((b.rp 2 Z).b a.fr)) Z<|V 1 Z<|P ?_
 apply gl9 Z h<;>intro h
 ·refine gl5<|aq<|R<|V 2 Z<|J h fun q E h=>bE a Z (gS  E ((b.rp 1 Z).b a.fr).rp ((b.rp 2 Z).b a.fr).rp) Z fun au z w a=>V 5 Z<|gl2<|V 2 Z<|J h fun az G h=>aV a Z (gO  G ((b.rp 3 Z).b a.fr).rp ((b.rp 0 Z).b a.fr).rp) Z fun aA w a=>V 2 Z<|J h fun aD T h=>aV a Z (gt  T (a.ro 1 Z).rp ((b.rp 4 Z).b a.fr).rp) Z fun aG w a=>V 1 Z<|J h fun aH ab h=>aV a Z (eH  ab (a.ro 0 Z).rp ((b.rp 0 Z).b a.fr).rp) Z fun aJ w a=>J h fun aL ac h=>aV a Z (eJ  ac (a.ro 2 Z).rp (a.ro 0 Z).rp) Z fun aM w a=>V 1 Z<|J h fun A ad h=>aV a Z (eH  ad (a.ro 0 Z).rp ((b.rp 0 Z).b a.fr).rp) Z fun B w a=>V 1 Z<|gl2<|V 2 Z<|gl2<|V 2 Z<|gl2<|V 2 Z<|P<|al<|V 2 Z<|aE<|aF ?_
  replace a:=a.pick (os':=[U X B A,U X aM aL,U X aJ aH,U X aG aD,U X aA az,U X au q.1,U X z q.2]++[]) [0,1,2,3,4,5,6] (by decide) rfl
  obtain⟨a7,aY,f,b,m,a⟩:=f.frzT hTT b m a
  exact bd (bc (D (ap,q.2,ar,A) _ _ ⟨i,z,j,B,Z,(SfT.mk' f (b.pick [11,4,5,2,0] Z) (m.pick [11,4,5,2,0] Z) a)⟩ (aK h u)) Z)
 refine aQ<|av<|av<|have h:=aI h u;aR<|ak<|aw<|R<|V 1 Z<|J h fun a8 ae h=>aV a Z (me  ae ) Z fun a9 w a=>J h fun ba ah h=>bf a Z (fE  ah ((b.rp 1 Z).b a.fr).rp (a.ro 0 Z).rp) Z fun w a=>V 1 Z<|P ?_
 apply gl9 Z h<;>intro h
 ·refine R<|V 2 Z<|gl8 ?_
  cases h
  replace a:=f.st a
  exact bY Z Z Z ⟨L3,Z,(a.nil X).d [0] Z Z⟩
 refine gl6<|V 2 Z<|J h fun bb H h=>aV a Z (eH  H ((b.rp 3 Z).b a.fr).rp ((b.rp 0 Z).b a.fr).rp) Z fun aN w a=>V 2 Z<|P<|ay ?_
 cases h
 replace a:=f.st a
 exact bY Z Z Z ⟨aN,Z,a.d [0] Z Z⟩
end Go.Proofs
