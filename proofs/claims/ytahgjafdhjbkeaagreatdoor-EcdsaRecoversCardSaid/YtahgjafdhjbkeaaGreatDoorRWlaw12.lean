import Derived.Test.YtahgjafdhjbkeaaGreatDoorRW0
import Derived.Test.YtahgjafdhjbkeaaGreatDoorGkFman
import Derived.Test.YtahgjafdhjbkeaaGreatDoorRWecdsa
import Derived.Test.YtahgjafdhjbkeaaGreatDoorRWref12d
import Derived.Test.YtahgjafdhjbkeaaGreatDoorGkX9
set_option linter.unusedVariables false
set_option linter.unusedSimpArgs false
set_option linter.unusedSectionVars false
set_option maxRecDepth 4000
namespace Go.Proofs
open Go Go.RowKit Go.Gk
open Go.Gk renaming aa -> V, af -> J, ag -> N, ai -> H, e32 -> X, gl3 -> P, gl4 -> R, own -> U, pB -> O, red -> Q, vB -> K, vI -> I
open Nat renaming le_of_ble_eq_true -> W
open Go.Gk.OE renaming bx -> Y
open Go.Gk.Rds renaming cons -> M
theorem rW {j:World} {a0:L1} {b:Value} {r:(L1×Nat)}
  (h:F.HV a0=some r) (c:RP [] j e8 b a0):Calls Tryz.prog 5 #[b] j (Ret fun v w=>∃u0:Value,v=slV u0 e8.sz 0 r.2/\r.2<=r.1.length/\St [] j w [U e8 u0 r.1]):=by
 refine aB 27 Tryz.func5 Z Z Z<|have a:=St.k j;ax [(0,b)] Z ?_
 unfold F.HV at h
 refine R<|V 1 Z<|gl2<|V 1 Z<|N (aC u24 Z (c.b a.fr)) Z<|V 1 Z<|J h fun A m h=>bC (c9 (e:=e8) u24 ti5 Z Z Z a m) Z fun d w a=>V 1 Z<|gl2<|V 2 Z<|bC (ql (e:=e8) u24 ti5 Z Z Z a (i:=0) Z (c.b a.fr)) Z ?_
 rintro v_q w ⟨hv_q,a⟩
 subst v_q
 obtain⟨q,n,h⟩:=eK h
 rw[n]at a
 refine gl1<|R<|V 1 Z<|N (aC u24 Z (c.b a.fr)) Z<|V 1 Z<|P<|aq<|ax [(0,b),(3,d),(4,I (a0.length:Int))] Z ?_
 refine aT (F.Jp a0) (fun (s:Int×L1) L w=>L=[(0,b),(3,d),(4,I s.1)]/\St [] j w [U e8 d s.2]) ?_ ((a0.length:Int),q) ⟨Z,a⟩ h
 rintro y ⟨u,B⟩ L w C x o h k
 try dsimp only at x
 obtain⟨rfl,a⟩:=x
 unfold F.Jp at h
 refine aw<|R<|V 2 Z<|N (aC u24 Z (a.ro 0 Z)) Z<|V 1 Z<|P ?_
 apply gl9 Z h<;>intro h
 ·refine gl5<|aw<|aq<|al<|V 2 Z<|J h fun z f h=>N (bk u24 ti5 Z Z (a.ro 0 Z) f) Z<|bo (bX (t:=165) ti5 Z Z a (i:=0) Z f Z) fun w a=>aZ h fun p l h=>?_
  rw[l]at a
  exact aE<|aF<|ak<|al<|V 3 Z<|aE<|bd (bc (o (wI (u+1),p) _ _ ⟨Z,a⟩ (aK h k)) Z)
 refine aQ<|av<|av<|have h:=aI h k;aR<|ak<|R<|V 2 Z<|N (aC u24 Z (c.b a.fr)) Z<|c7 h fun g h=>N (jH u24 ti5 Z Z (a.ro 0 Z) (gu g)) Z<|V 1 Z<|P<|ay ?_
 cases h
 exact az Z Z ⟨d,Z,g.2,a.d [0] Z Z⟩
theorem gr {e:World} {a0 a1:L1} {b c:Value} {r:Bool}
  (h:F.Eh a0 a1=some r) (g:RP [] e e8 b a0) (i:RP [] e e8 c a1):Calls Tryz.prog 12 #[b,c] e (Ret fun v w=>v=K r/\St [] e w []):=by
 refine aB 26 Tryz.func12 Z Z Z<|have a:=St.k e;ax [(0,b),(1,c)] Z ?_
 unfold F.Eh at h
 refine R<|V 1 Z<|gl1<|R<|V 1 Z<|N (aC u24 Z (g.b a.fr)) Z<|V 1 Z<|N (aC u24 Z (i.b a.fr)) Z<|V 1 Z<|P ?_
 apply gl9 Z h<;>intro h
 ·refine R<|V 1 Z<|gl8 ?_
  cases h
  exact az Z Z ⟨Z,a⟩
 refine gl5<|aw<|R<|V 1 Z<|P<|aq<|ax [(0,b),(1,c),(5,I 0)] Z ?_
 refine aT (F.JC a0 a1) (fun (s:Int) L w=>L=[(0,b),(1,c),(5,I s)]/\St [] e w []) ?_ 0 ⟨Z,a⟩ h
 rintro t n L w u o l h f
 try dsimp only at o
 obtain⟨rfl,a⟩:=o
 unfold F.JC at h
 refine aw<|R<|V 2 Z<|N (aC u24 Z (g.b a.fr)) Z<|V 1 Z<|P ?_
 apply gl9 Z h<;>intro h
 ·refine gl5<|aw<|aq<|aw<|aX (fun w'=>St [] e w' []) (fun _=>true) bQ (fun _ _ _ m=>m.2) (fun _ _ m=>m) (by kernel_rfl)<|have a:=a.drew;show lxE _ _ _ _ _ _ _ [0,1,2,3,4,5,6,7,8] _ _ from ao 2 Z a<|J h fun p j h=>H a Z Z (fun w d=>bk u24 ti5 Z Z (g.b d.fr) j) Z<|H a Z Z (fun w d=>a9 Tryz.underlying5 Z Z (g.b d.fr) j Z) Z<|ao 2 Z a<|J h fun q k h=>H a Z Z (fun w d=>bk u24 ti5 Z Z (i.b d.fr) k) Z<|H a Z Z (fun w d=>a9 Tryz.underlying5 Z Z (i.b d.fr) k Z) Z<|H a Z Z (fun w d=>aj Z Z (wZ _ p q)) Z<|bp a<|ak ?_
  apply gl9 Z h<;>intro h
  ·refine R<|V 1 Z<|P<|ay<|bu<|aU<|aU<|have h:=aI h f;bu<|aU ?_
   cases h
   exact az Z Z ⟨Z,a⟩
  exact cd<|aF<|ak<|al<|V 3 Z<|aE<|bd (bc (l (wI (n+1)) _ _ ⟨Z,a⟩ (aK h f)) Z)
 refine aQ<|av<|av<|have h:=aI h f;aR<|ak<|R<|V 1 Z<|P<|ay ?_
 cases h
 exact az Z Z ⟨Z,a⟩
theorem q7 {g:World} {a0 a1:L1} {b c:Value} (k0:Nat) {r:Bool}
  (h:F.H2 a0 k0 a1=some r) (d:RP [] g e8 b a0) (m:k0<=a0.length) (i:RP [] g e8 c a1):Calls Tryz.prog 8 #[slV b e8.sz 0 k0,c] g (Ret fun v w=>v=K r/\St [] g w []):=by
 refine aB 28 Tryz.func8 Z Z Z<|have a:=St.k g;ax [(0,slV b e8.sz 0 k0),(1,c)] Z ?_
 unfold F.H2 at h
 refine R<|V 1 Z<|gl2<|V 2 Z<|N (aC u24 Z (i.b a.fr)) Z<|V 1 Z<|c7 h fun e h=>N (mn u24 ti5 Z Z (d.b a.fr) (gu e)) Z<|V 1 Z<|gl1<|R<|V 1 Z<|N (aC u24 Z (i.b a.fr)) Z<|V 1 Z<|P<|aq<|ax [(0,slV b e8.sz 0 k0),(1,c),(5,slV b e8.sz 0 ((wI ((a1.length:Int)+9):Int).toNat)),(6,I (a1.length:Int))] Z ?_
 refine aT (F.IJ a0 k0 a1) (fun (s:Int) L w=>L=[(0,slV b e8.sz 0 k0),(1,c),(5,slV b e8.sz 0 ((wI ((a1.length:Int)+9):Int).toNat)),(6,I s)]/\St [] g w []) ?_ (a1.length:Int) ⟨Z,a⟩ h
 rintro q n L w t o k h f
 try dsimp only at o
 obtain⟨rfl,a⟩:=o
 unfold F.IJ at h
 refine aw<|R<|V 2 Z<|N (aC u24 Z ((d.b a.fr).tk e.2)) Z<|V 1 Z<|P ?_
 apply gl9 Z h<;>intro h
 ·refine gl5<|aw<|aq<|R<|V 2 Z<|J h fun p j h=>N (jl u24 ti5 Z Z (d.b a.fr) e.2 j) Z<|N (a9 Tryz.underlying5 Z Z (d.b a.fr) (jp j) Z) Z<|N (aj Z Z (wZ _ p 165)) Z<|P ?_
  apply gl9 Z h<;>intro h
  ·refine R<|V 1 Z<|P<|ay<|bu<|aU<|aU<|have h:=aI h f;bu<|aU ?_
   cases h
   exact az Z Z ⟨Z,a⟩
  exact cd<|aF<|ak<|al<|V 3 Z<|aE<|bd (bc (k (wI (n+1)) _ _ ⟨Z,a⟩ (aK h f)) Z)
 refine aQ<|av<|av<|have h:=aI h f;aR<|ak<|R<|V 2 Z<|J h fun u l h=>bf a Z (gr  l ((d.b a.fr).tk m).rp (i.b a.fr).rp) Z fun w a=>V 1 Z<|P<|ay ?_
 cases h
 exact az Z Z ⟨Z,a⟩
theorem iI {j:World} {a0:L0} {b:Value} {r:(L0×Nat)}
  (h:F.Ea a0=some r) (c:RP [] j X b a0):Calls Tryz.prog 9 #[b] j (Ret fun v w=>∃u0:Value,v=slV u0 X.sz 0 r.2/\r.2<=r.1.length/\St [] j w [U X u0 r.1]):=by
 refine aB 27 Tryz.func9 Z Z Z<|have a:=St.k j;ax [(0,b)] Z ?_
 unfold F.Ea at h
 refine R<|V 1 Z<|gl2<|V 1 Z<|N (aC u31 Z (c.b a.fr)) Z<|V 1 Z<|J h fun A m h=>bC (c9 (e:=X) u31 aN Z Z Z a m) Z fun d w a=>V 1 Z<|gl2<|V 2 Z<|bC (ql (e:=X) u31 aN Z Z Z a (i:=0) Z (c.b a.fr)) Z ?_
 rintro v_q w ⟨hv_q,a⟩
 subst v_q
 obtain⟨q,n,h⟩:=eK h
 rw[n]at a
 refine gl1<|R<|V 1 Z<|N (aC u31 Z (c.b a.fr)) Z<|V 1 Z<|P<|aq<|ax [(0,b),(3,d),(4,I (a0.length:Int))] Z ?_
 refine aT (F.HW a0) (fun (s:Int×L0) L w=>L=[(0,b),(3,d),(4,I s.1)]/\St [] j w [U X d s.2]) ?_ ((a0.length:Int),q) ⟨Z,a⟩ h
 rintro y ⟨u,B⟩ L w C x o h k
 try dsimp only at x
 obtain⟨rfl,a⟩:=x
 unfold F.HW at h
 refine aw<|R<|V 2 Z<|N (aC u31 Z (a.ro 0 Z)) Z<|V 1 Z<|P ?_
 apply gl9 Z h<;>intro h
 ·refine gl5<|aw<|aq<|al<|V 2 Z<|J h fun z f h=>N (bk u31 aN Z Z (a.ro 0 Z) f) Z<|bo (bX (t:=2779096485) aN Z Z a (i:=0) Z f Z) fun w a=>aZ h fun p l h=>?_
  rw[l]at a
  exact aE<|aF<|ak<|al<|V 3 Z<|aE<|bd (bc (o (wI (u+1),p) _ _ ⟨Z,a⟩ (aK h k)) Z)
 refine aQ<|av<|av<|have h:=aI h k;aR<|ak<|R<|V 2 Z<|N (aC u31 Z (c.b a.fr)) Z<|c7 h fun g h=>N (jH u31 aN Z Z (a.ro 0 Z) (gu g)) Z<|V 1 Z<|P<|ay ?_
 cases h
 exact az Z Z ⟨d,Z,g.2,a.d [0] Z Z⟩
theorem pV {e:World} {a0 a1:L0} {b c:Value} {r:Bool}
  (h:F.He a0 a1=some r) (g:RP [] e X b a0) (i:RP [] e X c a1):Calls Tryz.prog 44 #[b,c] e (Ret fun v w=>v=K r/\St [] e w []):=by
 refine aB 26 Tryz.func44 Z Z Z<|have a:=St.k e;ax [(0,b),(1,c)] Z ?_
 unfold F.He at h
 refine R<|V 1 Z<|gl1<|R<|V 1 Z<|N (aC u31 Z (g.b a.fr)) Z<|V 1 Z<|N (aC u31 Z (i.b a.fr)) Z<|V 1 Z<|P ?_
 apply gl9 Z h<;>intro h
 ·refine R<|V 1 Z<|gl8 ?_
  cases h
  exact az Z Z ⟨Z,a⟩
 refine gl5<|aw<|R<|V 1 Z<|P<|aq<|ax [(0,b),(1,c),(5,I 0)] Z ?_
 refine aT (F.F4 a0 a1) (fun (s:Int) L w=>L=[(0,b),(1,c),(5,I s)]/\St [] e w []) ?_ 0 ⟨Z,a⟩ h
 rintro t n L w u o l h f
 try dsimp only at o
 obtain⟨rfl,a⟩:=o
 unfold F.F4 at h
 refine aw<|R<|V 2 Z<|N (aC u31 Z (g.b a.fr)) Z<|V 1 Z<|P ?_
 apply gl9 Z h<;>intro h
 ·refine gl5<|aw<|aq<|aw<|aX (fun w'=>St [] e w' []) (fun _=>true) bQ (fun _ _ _ m=>m.2) (fun _ _ m=>m) (by kernel_rfl)<|have a:=a.drew;show lxE _ _ _ _ _ _ _ [0,1,2,3,4,5,6,7,8] _ _ from ao 2 Z a<|J h fun p j h=>H a Z Z (fun w d=>bk u31 aN Z Z (g.b d.fr) j) Z<|H a Z Z (fun w d=>a9 u38 Z Z (g.b d.fr) j Z) Z<|ao 2 Z a<|J h fun q k h=>H a Z Z (fun w d=>bk u31 aN Z Z (i.b d.fr) k) Z<|H a Z Z (fun w d=>a9 u38 Z Z (i.b d.fr) k Z) Z<|H a Z Z (fun w d=>aj Z Z (jN _ p q)) Z<|bp a<|ak ?_
  apply gl9 Z h<;>intro h
  ·refine R<|V 1 Z<|P<|ay<|bu<|aU<|aU<|have h:=aI h f;bu<|aU ?_
   cases h
   exact az Z Z ⟨Z,a⟩
  exact cd<|aF<|ak<|al<|V 3 Z<|aE<|bd (bc (l (wI (n+1)) _ _ ⟨Z,a⟩ (aK h f)) Z)
 refine aQ<|av<|av<|have h:=aI h f;aR<|ak<|R<|V 1 Z<|P<|ay ?_
 cases h
 exact az Z Z ⟨Z,a⟩
theorem iB {g:World} {a0 a1:L0} {b c:Value} (k0:Nat) {r:Bool}
  (h:F.ES a0 k0 a1=some r) (d:RP [] g X b a0) (m:k0<=a0.length) (i:RP [] g X c a1):Calls Tryz.prog 13 #[slV b X.sz 0 k0,c] g (Ret fun v w=>v=K r/\St [] g w []):=by
 refine aB 28 Tryz.func13 Z Z Z<|have a:=St.k g;ax [(0,slV b X.sz 0 k0),(1,c)] Z ?_
 unfold F.ES at h
 refine R<|V 1 Z<|gl2<|V 2 Z<|N (aC u31 Z (i.b a.fr)) Z<|V 1 Z<|c7 h fun e h=>N (mn u31 aN Z Z (d.b a.fr) (gu e)) Z<|V 1 Z<|gl1<|R<|V 1 Z<|N (aC u31 Z (i.b a.fr)) Z<|V 1 Z<|P<|aq<|ax [(0,slV b X.sz 0 k0),(1,c),(5,slV b X.sz 0 ((wI ((a1.length:Int)+4):Int).toNat)),(6,I (a1.length:Int))] Z ?_
 refine aT (F.IT a0 k0 a1) (fun (s:Int) L w=>L=[(0,slV b X.sz 0 k0),(1,c),(5,slV b X.sz 0 ((wI ((a1.length:Int)+4):Int).toNat)),(6,I s)]/\St [] g w []) ?_ (a1.length:Int) ⟨Z,a⟩ h
 rintro q n L w t o k h f
 try dsimp only at o
 obtain⟨rfl,a⟩:=o
 unfold F.IT at h
 refine aw<|R<|V 2 Z<|N (aC u31 Z ((d.b a.fr).tk e.2)) Z<|V 1 Z<|P ?_
 apply gl9 Z h<;>intro h
 ·refine gl5<|aw<|aq<|R<|V 2 Z<|J h fun p j h=>N (jl u31 aN Z Z (d.b a.fr) e.2 j) Z<|N (a9 u38 Z Z (d.b a.fr) (jp j) Z) Z<|N (aj Z Z (jN _ p 2779096485)) Z<|P ?_
  apply gl9 Z h<;>intro h
  ·refine R<|V 1 Z<|P<|ay<|bu<|aU<|aU<|have h:=aI h f;bu<|aU ?_
   cases h
   exact az Z Z ⟨Z,a⟩
  exact cd<|aF<|ak<|al<|V 3 Z<|aE<|bd (bc (k (wI (n+1)) _ _ ⟨Z,a⟩ (aK h f)) Z)
 refine aQ<|av<|av<|have h:=aI h f;aR<|ak<|R<|V 2 Z<|J h fun u l h=>bf a Z (pV  l ((d.b a.fr).tk m).rp (i.b a.fr).rp) Z fun w a=>V 1 Z<|P<|ay ?_
 cases h
 exact az Z Z ⟨Z,a⟩
theorem c_law12_EcdsaRecovers {w0:World} {a2:L1} {a3 a4 ac ad:L0} {aq ar aP m n:Value} (a0 a1:Int) (f:Bool) {r:Bool}
  (h:F.Jq a0 a1 a2 a3 a4 ac ad f=some r) (hT:TB [] w0) (bU:RP [] w0 e8 aq a2) (bV:RP [] w0 X ar a3) (bW:RP [] w0 X aP a4) (bf:RP [] w0 X m ac) (bh:RP [] w0 X n ad):Calls Tryz.prog 4 #[I a0,I a1,aq,ar,aP,.agg #[m,n,K f]] w0 (Ret fun v w=>v=K r/\St [] w0 w []):=by
 refine aB 159 Tryz.func4 Z Z Z<|have a:=St.k w0;have o:=Fz.k (S:=[]) (w0:=w0);?_
 have hTT:TOk [] [] w0:=TOk.nil
 have l:Rds [] w0 [Q X n ad,Q X m ac,Q X aP a4,Q X ar a3,Q e8 aq a2]:=M (RP.h (W Z) bh) (M (RP.h (W Z) bf) (M (RP.h (W Z) bW) (M (RP.h (W Z) bV) (M (RP.h (W Z) bU) (Rds.nil)))))
 have p:Off [] [Q X n ad,Q X m ac,Q X aP a4,Q X ar a3,Q e8 aq a2]:=Off.emp
 refine ax [(0,I a0),(1,I a1),(2,aq),(3,ar),(4,aP),(5,.agg #[m,n,K f])] Z ?_
 unfold F.Jq at h
 refine R<|bg (cg (cs:=[m,n,K f]) Z Z a) Z fun G w a=>V 1 Z<|gl2<|V 1 Z<|J h fun B bD h=>aH Z (rW  bD ((l.rp 0 Z).b a.fr).rp) Z ?_
 rintro _ w ⟨T,rfl,aT,q⟩
 have a:=a.e q
 refine V 1 Z<|gl2<|V 1 Z<|J h fun C a6 h=>have aw:=F.law12_wide_le a6;aH Z (iI  a6 ((l.rp 1 Z).b a.fr).rp) Z ?_
 rintro _ w ⟨ab,rfl,aw,q⟩
 have a:=a.e q
 refine V 1 Z<|gl2<|V 1 Z<|J h fun s aU h=>have D:=F.law12_wide_le aU;aH Z (iI  aU ((l.rp 2 Z).b a.fr).rp) Z ?_
 rintro _ w ⟨A,rfl,D,q⟩
 have a:=a.e q
 refine V 1 rfl<|gl1<|J h fun d aQ h=>J h fun e aR h=>cF (es:=[Q X n ad,Q X m ac,Q X aP a4,Q X ar a3,Q e8 aq a2]) (os:=[U X A s.1,U X ab C.1,U e8 T B.1,Y G [m,n,K f]]) (fun i=>[2,5,8,9,10].contains i) (fun i=>if i=2 then some 8 else if i=5 then some 8 else if i=8 then some 10 else if i=9 then some 10 else none) (fun i=>[]) (fun i=>[]) (fun i=>[]) (fun i=>if i=8 then [2,5] else if i=10 then [2,5,9] else []) (fun i=>if i=2 then (fun h v x y=>∃b:Value,v=slV b X.sz 0 d.2/\x=[U X b d.1]/\y=[]) else if i=5 then (fun h v x y=>∃c:Value,v=slV c X.sz 0 e.2/\x=[U X c e.1]/\y=[]) else if i=8 then (fun h v x y=>∃b:Value,∃c:Value,h=[(slV b X.sz 0 d.2,[U X b d.1],[]),(slV c X.sz 0 e.2,[U X c e.1],[])]/\v=.agg #[slV b X.sz 0 d.2,slV c X.sz 0 e.2,K f]/\x=[U X b d.1,U X c e.1]/\y=[]) else if i=9 then (fun h v x y=>∃j:Nat,v=O j 0/\x=[Y j [L3,L3,K false]]/\y=[]) else (fun h v x y=>∃b:Value,∃c:Value,∃j:Nat,h=[(slV b X.sz 0 d.2,[U X b d.1],[]),(slV c X.sz 0 e.2,[U X c e.1],[]),(O j 0,[Y j [L3,L3,K false]],[])]/\v=undef/\x=[U X b d.1,U X c e.1,Y j [slV b X.sz 0 d.2,slV c X.sz 0 e.2,K f]]/\y=[])) (SfT.mk' o l p a) (fun k hk=>rfl) hTT rfl (fun i=>(bZ (by rintro h v x y ⟨_,rfl,rfl,rfl⟩; exact bM rfl) (bZ (by rintro h v x y ⟨_,rfl,rfl,rfl⟩; exact bM rfl) (bZ (by rintro h v x y ⟨_,_,_,rfl,rfl,rfl⟩; exact bM rfl) (bZ (by rintro h v x y ⟨_,rfl,rfl,rfl⟩; exact bM rfl) (by rintro h v x y ⟨_,_,_,_,rfl,rfl,rfl⟩; exact bM rfl)))))) bQ (by kernel_rfl) (by kernel_rfl) ?_
 show dZ _ _ _ _ _ _ _ _ _ _ _ _ _ _ _ _ [0,1,2,3,4,5,6,7,8,9,10] _ _
 refine bj Z Z (fun w Sb wb o l p hF=>am (k:=0) u33 Z Z cH Z) Z<|bj Z Z (fun w Sb wb o l p hF=>au u31 Z Z (hF.q 3 Z 0)) Z ?_
 refine bI (fun h v x y=>∃b:Value,v=slV b X.sz 0 d.2/\x=[U X b d.1]/\y=[]) [] [] [] _ Z Z (fun h v x y=>Z) Z Z Z Z ⟨_,_,_,undef,Z,Z,Z⟩ (by kernel_rfl) Z (fun w Sl Tl o hTT l p a=>?_) Z ?_
 ·have ae:=F.law12_wide_le aQ
  refine bG (iI  aQ ((l.rp 3 Z).b a.fr).rp) ?_
  rintro _ w ⟨b,rfl,ae,q⟩
  have a:=a.e q
  exact⟨_,_,⟨b,Z,Z,Z⟩,SfT.mk' o Rds.nil Off.nil a⟩
 rintro v_q x_q y_q ⟨b,rfl,rfl,rfl⟩
 have ae:=F.law12_wide_le aQ
 refine bj Z Z (fun w Sb wb o l p hF=>am (k:=1) u33 Z Z cH Z) Z<|bj Z Z (fun w Sb wb o l p hF=>au u31 Z Z (hF.q 3 Z 1)) Z ?_
 refine bI (fun h v x y=>∃c:Value,v=slV c X.sz 0 e.2/\x=[U X c e.1]/\y=[]) [] [] [] _ Z Z (fun h v x y=>Z) Z Z Z Z ⟨_,_,_,undef,Z,Z,Z⟩ (by kernel_rfl) Z (fun w Sl Tl o hTT l p a=>?_) Z ?_
 ·have ah:=F.law12_wide_le aR
  refine bG (iI  aR ((l.rp 4 Z).b a.fr).rp) ?_
  rintro _ w ⟨c,rfl,ah,q⟩
  have a:=a.e q
  exact⟨_,_,⟨c,Z,Z,Z⟩,SfT.mk' o Rds.nil Off.nil a⟩
 rintro v_q x_q y_q ⟨c,rfl,rfl,rfl⟩
 have ah:=F.law12_wide_le aR
 refine bj Z Z (fun w Sb wb o l p hF=>am (k:=2) u33 Z Z nz4 Z) Z<|bj Z Z (fun w Sb wb o l p hF=>au Tryz.underlying4 Z Z (hF.q 3 Z 2)) Z ?_
 refine eP (fun h v x y=>∃b:Value,∃c:Value,h=[(slV b X.sz 0 d.2,[U X b d.1],[]),(slV c X.sz 0 e.2,[U X c e.1],[])]/\v=.agg #[slV b X.sz 0 d.2,slV c X.sz 0 e.2,K f]/\x=[U X b d.1,U X c e.1]/\y=[]) [(slV b X.sz 0 d.2,[U X b d.1],[]),(slV c X.sz 0 e.2,[U X c e.1],[])] [U X b d.1,U X c e.1] [] _ Z Z (fun h v x y=>Z) Z Z Z Z ⟨_,_,_,b,c,Z,Z,Z,Z⟩ (fun w Sl Tl o hTT l p a=>?_) Z ?_
 ·exact pC (cb (vs:=[(0,slV b X.sz 0 d.2,[slV b X.sz 0 d.2]),(1,slV c X.sz 0 e.2,[slV c X.sz 0 e.2]),(2,K f,[K f])]) (cells:=[slV b X.sz 0 d.2,slV c X.sz 0 e.2,K f]) Z gW ⟨(cK ((a.ro 0 Z).tk ae).one),(cK ((a.ro 1 Z).tk ah).one),Z,trivial⟩ Z) ⟨_,_,⟨b,c,Z,Z,Z,Z⟩,SfT.mk' o Rds.nil Off.nil a⟩
 rintro v_q x_q y_q ⟨v_16',v_20',hh,rfl,rfl,rfl⟩
 replace hh:([(slV b X.sz 0 d.2,[U X b d.1],[]),(slV c X.sz 0 e.2,[U X c e.1],[])]:List Th)=[(slV v_16' X.sz 0 d.2,[U X v_16' d.1],[]),(slV v_20' X.sz 0 e.2,[U X v_20' e.1],[])]:=hh
 obtain⟨hq0,hh0⟩:=List.cons.inj hh
 obtain rfl:b=v_16':=(OE.sl.inj (List.cons.inj (Prod.mk.inj (Prod.mk.inj hq0).2).1).1).1
 obtain⟨hq1,hh1⟩:=List.cons.inj hh0
 obtain rfl:c=v_20':=(OE.sl.inj (List.cons.inj (Prod.mk.inj (Prod.mk.inj hq1).2).1).1).1
 refine eP (fun h v x y=>∃j:Nat,v=O j 0/\x=[Y j [L3,L3,K false]]/\y=[]) [] [] [] _ Z Z (fun h v x y=>Z) Z Z Z Z ⟨_,_,_,0,Z,Z,Z⟩ (fun w Sl Tl o hTT l p a=>?_) Z ?_
 ·refine iV (bb (cs:=[L3,L3,K false]) mY Z a) ?_
  rintro _ w ⟨j,rfl,a⟩
  exact⟨_,_,⟨j,Z,Z,Z⟩,SfT.mk' o Rds.nil Off.nil a⟩
 rintro v_q x_q y_q ⟨j,rfl,rfl,rfl⟩
 refine j1 (fun h v x y=>∃b:Value,∃c:Value,∃j:Nat,h=[(slV b X.sz 0 d.2,[U X b d.1],[]),(slV c X.sz 0 e.2,[U X c e.1],[]),(O j 0,[Y j [L3,L3,K false]],[])]/\v=undef/\x=[U X b d.1,U X c e.1,Y j [slV b X.sz 0 d.2,slV c X.sz 0 e.2,K f]]/\y=[]) [(slV b X.sz 0 d.2,[U X b d.1],[]),(slV c X.sz 0 e.2,[U X c e.1],[]),(O j 0,[Y j [L3,L3,K false]],[])] [U X b d.1,U X c e.1,Y j [L3,L3,K false]] [] _ Z Z (fun h v x y=>Z) Z Z Z Z ⟨_,_,_,b,c,j,Z,Z,Z,Z⟩ (fun w Sl Tl o hTT l p a=>?_) ?_
 ·refine i6 (bz (i:=2) (us:=[slV b X.sz 0 d.2,slV c X.sz 0 e.2,K f]) Z cR Z Z Z ⟨((a.ro 0 Z).tk ae).one,((a.ro 1 Z).tk ah).one,Z,trivial⟩ Z a) ?_
  intro w a
  exact⟨_,_,⟨b,c,j,Z,Z,Z,Z⟩,SfT.mk' o Rds.nil Off.nil a⟩
 rintro v_q x_q y_q ⟨v_16',v_20',b_23',hh,rfl,rfl,rfl⟩
 replace hh:([(slV b X.sz 0 d.2,[U X b d.1],[]),(slV c X.sz 0 e.2,[U X c e.1],[]),(O j 0,[Y j [L3,L3,K false]],[])]:List Th)=[(slV v_16' X.sz 0 d.2,[U X v_16' d.1],[]),(slV v_20' X.sz 0 e.2,[U X v_20' e.1],[]),(O b_23' 0,[Y b_23' [L3,L3,K false]],[])]:=hh
 obtain⟨hq0,hh0⟩:=List.cons.inj hh
 obtain rfl:b=v_16':=(OE.sl.inj (List.cons.inj (Prod.mk.inj (Prod.mk.inj hq0).2).1).1).1
 obtain⟨hq1,hh1⟩:=List.cons.inj hh0
 obtain rfl:c=v_20':=(OE.sl.inj (List.cons.inj (Prod.mk.inj (Prod.mk.inj hq1).2).1).1).1
 obtain⟨hq2,hh2⟩:=List.cons.inj hh1
 cases hq2
 refine dv fun w hQ=>?_
 obtain⟨cc,bY,o,l,p,a⟩:=hQ
 refine ak<|R<|V 5 Z<|N (aM (us:=[slV b X.sz 0 d.2,slV c X.sz 0 e.2,K f]) u33 Z cR Z (a.p 2 Z Z)) Z<|J h fun u bl h=>bE a Z (kE a0 a1 f bl (hT.b (o.st a).fr) ((a.ro 5 Z).tk aT).rp ((a.ro 4 Z).tk aw).rp ((a.ro 3 Z).tk D).rp ((a.ro 0 Z).tk ae).rp ((a.ro 1 Z).tk ah).rp) Z fun H an w a=>V 7 Z<|gl2<|V 5 Z<|N (aM (us:=[m,n,K f]) u33 Z cR Z (a.p 8 Z Z)) Z<|J h fun z bm h=>bE a Z (kC a0 a1 f bm (hT.b (o.st a).fr) ((l.rp 0 Z).b a.fr).rp ((l.rp 1 Z).b a.fr).rp ((l.rp 2 Z).b a.fr).rp ((l.rp 3 Z).b a.fr).rp ((l.rp 4 Z).b a.fr).rp) Z fun ao ap w a=>V 7 Z<|gl1 ?_
 refine a8 (r:=r) (fun (g:Bool) L w=>L=[(0,I a0),(1,I a1),(2,aq),(3,ar),(11,O G 0),(13,slV T e8.sz 0 B.2),(14,slV ab X.sz 0 C.2),(15,slV A X.sz 0 s.2),(16,O j 0),(114,K g)]/\SfT [] [] w0 w [Q X c e.1,Q X b d.1,Q X n ad,Q X m ac,Q X ab C.1,Q e8 T B.1,Q X ar a3,Q e8 aq a2] [Y G [m,n,K f],U X A s.1,Y j [slV b X.sz 0 d.2,slV c X.sz 0 e.2,K f]]) (F.DY s a0 a1 a2 a3 ac ad f B C d e) ?_ ?_
 rotate_left
 ·intro E
  refine al<|V 4 Z ?_
  cases aA:(u.2.2 != z.2.2)
  case true=>
   have h:=cz h aA
   try simp only[aA]
   refine V 45 Z<|P ?_
   replace a:=a.pick (os':=[U e8 ao z.1,U e8 ap z.2.1,U e8 H u.1,U e8 an u.2.1,U X b d.1,U X c e.1,U X ab C.1,U e8 T B.1]++[Y j [slV b X.sz 0 d.2,slV c X.sz 0 e.2,K f],U X A s.1,Y G [m,n,K f]]) [0,1,2,3,4,5,8,9,6,7,10] (by decide) rfl
   obtain⟨cd,b0,o,l,p,a⟩:=o.frzT hTT l p a
   exact aG (E true _ _ ⟨Z,(SfT.mk' o (l.pick [7,8,4,3,6,5,1,0] Z) (p.pick [7,8,4,3,6,5,1,0] Z) (a.d [2,1,0] Z Z))⟩ h) Z
  case false=>
   have h:=cA h aA
   try simp only[aA]
   refine V 2 Z<|J h fun bF bn h=>cw (t:=69) Z Z (by kernel_rfl) Z (gr  bn (a.ro 2 Z).rp (a.ro 0 Z).rp) Z ?_
   rintro _ w ⟨rfl,q⟩
   have a:=a.e q
   refine V 3 Z ?_
   cases aD:(!bF)
   case true=>
    have h:=cz h aD
    try simp only[aD]
    refine V 39 Z<|P ?_
    replace a:=a.pick (os':=[U e8 ao z.1,U e8 ap z.2.1,U e8 H u.1,U e8 an u.2.1,U X b d.1,U X c e.1,U X ab C.1,U e8 T B.1]++[Y j [slV b X.sz 0 d.2,slV c X.sz 0 e.2,K f],U X A s.1,Y G [m,n,K f]]) [0,1,2,3,4,5,8,9,6,7,10] (by decide) rfl
    obtain⟨ce,b1,o,l,p,a⟩:=o.frzT hTT l p a
    exact aG (E true _ _ ⟨Z,(SfT.mk' o (l.pick [7,8,4,3,6,5,1,0] Z) (p.pick [7,8,4,3,6,5,1,0] Z) (a.d [2,1,0] Z Z))⟩ h) Z
   case false=>
    have h:=cA h aD
    try simp only[aD]
    refine V 2 Z<|J h fun bH bp h=>cw (t:=75) Z Z (by kernel_rfl) Z (gr  bp (a.ro 3 Z).rp (a.ro 1 Z).rp) Z ?_
    rintro _ w ⟨rfl,q⟩
    have a:=a.e q
    refine V 3 Z ?_
    cases aE:(!bH)
    case true=>
     have h:=cz h aE
     try simp only[aE]
     refine V 33 Z<|P ?_
     replace a:=a.pick (os':=[U e8 ao z.1,U e8 ap z.2.1,U e8 H u.1,U e8 an u.2.1,U X b d.1,U X c e.1,U X ab C.1,U e8 T B.1]++[Y j [slV b X.sz 0 d.2,slV c X.sz 0 e.2,K f],U X A s.1,Y G [m,n,K f]]) [0,1,2,3,4,5,8,9,6,7,10] (by decide) rfl
     obtain⟨cf,b2,o,l,p,a⟩:=o.frzT hTT l p a
     exact aG (E true _ _ ⟨Z,(SfT.mk' o (l.pick [7,8,4,3,6,5,1,0] Z) (p.pick [7,8,4,3,6,5,1,0] Z) (a.d [2,1,0] Z Z))⟩ h) Z
    case false=>
     have h:=cA h aE
     try simp only[aE]
     refine V 2 Z<|J h fun bJ bq h=>cw (t:=81) Z Z (by kernel_rfl) Z (q7 B.2 bq (a.ro 9 Z).rp aT ((l.rp 0 Z).b a.fr).rp) Z ?_
     rintro _ w ⟨rfl,q⟩
     have a:=a.e q
     refine V 3 Z ?_
     cases aF:(!bJ)
     case true=>
      have h:=cz h aF
      try simp only[aF]
      refine V 27 Z<|P ?_
      replace a:=a.pick (os':=[U e8 ao z.1,U e8 ap z.2.1,U e8 H u.1,U e8 an u.2.1,U X b d.1,U X c e.1,U X ab C.1,U e8 T B.1]++[Y j [slV b X.sz 0 d.2,slV c X.sz 0 e.2,K f],U X A s.1,Y G [m,n,K f]]) [0,1,2,3,4,5,8,9,6,7,10] (by decide) rfl
      obtain⟨ch,b3,o,l,p,a⟩:=o.frzT hTT l p a
      exact aG (E true _ _ ⟨Z,(SfT.mk' o (l.pick [7,8,4,3,6,5,1,0] Z) (p.pick [7,8,4,3,6,5,1,0] Z) (a.d [2,1,0] Z Z))⟩ h) Z
     case false=>
      have h:=cA h aF
      try simp only[aF]
      refine V 2 Z<|J h fun bK br h=>cw (t:=87) Z Z (by kernel_rfl) Z (iB C.2 br (a.ro 8 Z).rp aw ((l.rp 1 Z).b a.fr).rp) Z ?_
      rintro _ w ⟨rfl,q⟩
      have a:=a.e q
      refine V 3 Z ?_
      cases aI:(!bK)
      case true=>
       have h:=cz h aI
       try simp only[aI]
       refine V 21 Z<|P ?_
       replace a:=a.pick (os':=[U e8 ao z.1,U e8 ap z.2.1,U e8 H u.1,U e8 an u.2.1,U X b d.1,U X c e.1,U X ab C.1,U e8 T B.1]++[Y j [slV b X.sz 0 d.2,slV c X.sz 0 e.2,K f],U X A s.1,Y G [m,n,K f]]) [0,1,2,3,4,5,8,9,6,7,10] (by decide) rfl
       obtain⟨ci,b4,o,l,p,a⟩:=o.frzT hTT l p a
       exact aG (E true _ _ ⟨Z,(SfT.mk' o (l.pick [7,8,4,3,6,5,1,0] Z) (p.pick [7,8,4,3,6,5,1,0] Z) (a.d [2,1,0] Z Z))⟩ h) Z
      case false=>
       have h:=cA h aI
       try simp only[aI]
       refine V 2 Z<|J h fun bL bs h=>cw (t:=93) Z Z (by kernel_rfl) Z (iB s.2 bs (a.ro 7 Z).rp D ((l.rp 2 Z).b a.fr).rp) Z ?_
       rintro _ w ⟨rfl,q⟩
       have a:=a.e q
       refine V 3 Z ?_
       cases aJ:(!bL)
       case true=>
        have h:=cz h aJ
        try simp only[aJ]
        refine V 15 Z<|P ?_
        replace a:=a.pick (os':=[U e8 ao z.1,U e8 ap z.2.1,U e8 H u.1,U e8 an u.2.1,U X b d.1,U X c e.1,U X ab C.1,U e8 T B.1]++[Y j [slV b X.sz 0 d.2,slV c X.sz 0 e.2,K f],U X A s.1,Y G [m,n,K f]]) [0,1,2,3,4,5,8,9,6,7,10] (by decide) rfl
        obtain⟨cj,b5,o,l,p,a⟩:=o.frzT hTT l p a
        exact aG (E true _ _ ⟨Z,(SfT.mk' o (l.pick [7,8,4,3,6,5,1,0] Z) (p.pick [7,8,4,3,6,5,1,0] Z) (a.d [2,1,0] Z Z))⟩ h) Z
       case false=>
        have h:=cA h aJ
        try simp only[aJ]
        refine bB (t:=99) Z Z (am (k:=0) u33 Z Z cH Z) Z<|bB (t:=99) Z Z (au u31 Z Z (a.q 6 Z 0)) Z<|bB (t:=99) Z Z (am (k:=0) u33 Z Z cH Z) Z<|bB (t:=99) Z Z (au u31 Z Z (a.q 10 Z 0)) Z<|J h fun bN bt h=>cw (t:=99) Z Z (by kernel_rfl) Z (iB d.2 bt (a.ro 4 Z).rp ae ((l.rp 3 Z).b a.fr).rp) Z ?_
        rintro _ w ⟨rfl,q⟩
        have a:=a.e q
        refine V 3 Z ?_
        cases aK:(!bN)
        case true=>
         have h:=cz h aK
         try simp only[aK]
         refine V 7 Z<|P ?_
         replace a:=a.pick (os':=[U e8 ao z.1,U e8 ap z.2.1,U e8 H u.1,U e8 an u.2.1,U X b d.1,U X c e.1,U X ab C.1,U e8 T B.1]++[Y j [slV b X.sz 0 d.2,slV c X.sz 0 e.2,K f],U X A s.1,Y G [m,n,K f]]) [0,1,2,3,4,5,8,9,6,7,10] (by decide) rfl
         obtain⟨ck,b6,o,l,p,a⟩:=o.frzT hTT l p a
         exact aG (E true _ _ ⟨Z,(SfT.mk' o (l.pick [7,8,4,3,6,5,1,0] Z) (p.pick [7,8,4,3,6,5,1,0] Z) (a.d [2,1,0] Z Z))⟩ h) Z
        case false=>
         have h:=cA h aK
         try simp only[aK]
         refine bB (t:=107) Z Z (am (k:=1) u33 Z Z cH Z) Z<|bB (t:=107) Z Z (au u31 Z Z (a.q 6 Z 1)) Z<|bB (t:=107) Z Z (am (k:=1) u33 Z Z cH Z) Z<|bB (t:=107) Z Z (au u31 Z Z (a.q 10 Z 1)) Z<|J h fun bO bu h=>cw (t:=107) Z Z (by kernel_rfl) Z (iB e.2 bu (a.ro 5 Z).rp ah ((l.rp 4 Z).b a.fr).rp) Z ?_
         rintro _ w ⟨rfl,q⟩
         have a:=a.e q
         refine V 2 Z<|P ?_
         replace a:=a.pick (os':=[U e8 ao z.1,U e8 ap z.2.1,U e8 H u.1,U e8 an u.2.1,U X b d.1,U X c e.1,U X ab C.1,U e8 T B.1]++[Y j [slV b X.sz 0 d.2,slV c X.sz 0 e.2,K f],U X A s.1,Y G [m,n,K f]]) [0,1,2,3,4,5,8,9,6,7,10] (by decide) rfl
         obtain⟨cl,b7,o,l,p,a⟩:=o.frzT hTT l p a
         exact aG (E (!bO) _ _ ⟨Z,(SfT.mk' o (l.pick [7,8,4,3,6,5,1,0] Z) (p.pick [7,8,4,3,6,5,1,0] Z) (a.d [2,1,0] Z Z))⟩ h) Z
 rintro cm L w hJ h
 try dsimp only at hJ
 obtain⟨rfl,⟨cn,b8,o,l,p,a⟩⟩:=hJ
 unfold F.DY at h
 apply gl9 Z h<;>intro h
 ·refine R<|V 1 Z<|gl8 ?_
  cases h
  replace a:=o.st a
  exact az Z Z ⟨Z,a.d [] Z Z⟩
 refine gl5 ?_
 refine a8 (r:=r) (fun (g:L0) L w=>L=[(0,I a0),(1,I a1),(2,aq),(3,ar),(11,O G 0),(13,slV T e8.sz 0 B.2),(14,slV ab X.sz 0 C.2),(15,slV A X.sz 0 s.2),(16,O j 0)]/\s.2<=g.length/\SfT [] [] w0 w [Q X c e.1,Q X b d.1,Q X n ad,Q X m ac,Q X ab C.1,Q e8 T B.1,Q X ar a3,Q e8 aq a2] [Y G [m,n,K f],U X A g,Y j [slV b X.sz 0 d.2,slV c X.sz 0 e.2,K f]]) (F.Hv a0 a1 a2 a3 ac ad f B C s d e) ?_ ?_
 rotate_left
 ·intro aV
  refine R<|V 1 Z<|N (aC u31 Z ((a.ro 1 Z).tk D)) Z<|V 1 Z<|P ?_
  apply gl9 Z h<;>intro h
  ·refine al<|V 2 Z<|J h fun bd aW h=>N (jl u31 aN Z Z (a.ro 1 Z) D aW) Z<|N (a9 u38 Z Z (a.ro 1 Z) (jp aW) Z) Z<|N (aj Z Z (di _ bd 1)) Z<|J h fun co aX h=>N (jl u31 aN Z Z (a.ro 1 Z) D aX) Z<|bo (bX (t:=(bd ^^^ 1)) aN Z Z a (i:=1) Z (jp aX) Z) fun w a=>aZ h fun bP aY h=>?_
   rw[aY]at a
   exact P<|aG (aV bP _ _ ⟨Z,(by rw[<-aY,List.length_set]; exact D),(SfT.mk' o (l.pick [7,6,5,4,3,2,1,0] Z) (p.pick [7,6,5,4,3,2,1,0] Z) a)⟩ h) Z
  exact gl5<|aG (aV s.1 _ _ ⟨Z,D,(SfT.mk' o (l.pick [7,6,5,4,3,2,1,0] Z) (p.pick [7,6,5,4,3,2,1,0] Z) a)⟩ h) Z
 rintro cp L w hJ h
 try dsimp only at hJ
 obtain⟨rfl,a5,⟨cq,b9,o,l,p,a⟩⟩:=hJ
 unfold F.Hv at h
 refine R<|V 5 Z<|N (aM (us:=[m,n,K f]) u33 Z cR Z (a.p 0 Z Z)) Z<|J h fun bR bv h=>bE a Z (kC a0 a1 f bv (hT.b (o.st a).fr) ((l.rp 0 Z).b a.fr).rp ((l.rp 1 Z).b a.fr).rp ((a.ro 1 Z).tk a5).rp ((l.rp 4 Z).b a.fr).rp ((l.rp 5 Z).b a.fr).rp) Z fun cr ct w a=>V 7 Z<|gl2<|V 5 Z<|N (aM (us:=[slV b X.sz 0 d.2,slV c X.sz 0 e.2,K f]) u33 Z cR Z (a.p 4 Z Z)) Z<|J h fun bS bw h=>bE a Z (kE a0 a1 f bw (hT.b (o.st a).fr) (((l.rp 2 Z).b a.fr).tk aT).rp (((l.rp 3 Z).b a.fr).tk aw).rp ((a.ro 3 Z).tk a5).rp (((l.rp 6 Z).b a.fr).tk ae).rp (((l.rp 7 Z).b a.fr).tk ah).rp) Z fun cu cv w a=>V 7 Z<|gl2<|V 4 Z ?_
 cases aL:(bS.2.2 == bR.2.2)
 case true=>
  have h:=cz h aL
  try simp only[aL]
  refine V 2 Z<|J h fun bT bA h=>cw (t:=149) Z Z (by kernel_rfl) Z (gr  bA (a.ro 0 Z).rp (a.ro 2 Z).rp) Z ?_
  rintro _ w ⟨rfl,q⟩
  have a:=a.e q
  refine V 2 Z ?_
  cases aO:bT
  case true=>
   have h:=cz h aO
   try simp only[aO]
   refine V 2 Z<|J h fun cx bC h=>cw (t:=154) Z Z (by kernel_rfl) Z (gr  bC (a.ro 1 Z).rp (a.ro 3 Z).rp) Z ?_
   rintro _ w ⟨rfl,q⟩
   have a:=a.e q
   refine V 2 Z<|P<|ay ?_
   cases h
   replace a:=o.st a
   exact az Z Z ⟨Z,a.d [] Z Z⟩
  case false=>
   have h:=cA h aO
   try simp only[aO]
   refine V 5 Z<|P<|ay ?_
   cases h
   replace a:=o.st a
   exact az Z Z ⟨Z,a.d [] Z Z⟩
 case false=>
  have h:=cA h aL
  try simp only[aL]
  refine V 10 Z<|P<|ay ?_
  cases h
  replace a:=o.st a
  exact az Z Z ⟨Z,a.d [] Z Z⟩
end Go.Proofs
