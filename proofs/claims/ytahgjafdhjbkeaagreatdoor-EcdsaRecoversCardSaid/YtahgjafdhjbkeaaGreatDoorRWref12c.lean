import Derived.Test.YtahgjafdhjbkeaaGreatDoorRW0
import Derived.Test.YtahgjafdhjbkeaaGreatDoorGkFman
import Derived.Test.YtahgjafdhjbkeaaGreatDoorRWref11
import Derived.Test.YtahgjafdhjbkeaaGreatDoorRWref12b
import Derived.Test.YtahgjafdhjbkeaaGreatDoorRWref4
import Derived.Test.YtahgjafdhjbkeaaGreatDoorRWref7
set_option linter.unusedVariables false
set_option linter.unusedSimpArgs false
set_option linter.unusedSectionVars false
set_option maxRecDepth 4000
namespace Go.Proofs
open Go Go.RowKit Go.Gk
open Go.Gk renaming aa -> V, af -> J, ag -> N, ai -> H, e32 -> X, gl3 -> P, gl4 -> R, own -> U, pB -> O, red -> Q, vB -> K, vI -> I
open Nat renaming le_of_ble_eq_true -> W
open Go.Gk.OE renaming bx -> Y
open Go.Gk.Rds renaming cons -> M
theorem mD {A:World} {E G L ab ac:L0} {f g p s t:Value} {T:L2} (l:Int) {r:L0×L0×Bool}
  (h:F.Iy E G l L ab ac=some r) (hTT:TOk [] T A) (an:RP T A X f E) (ao:RP T A X g G) (ap:RP T A X p L) (aq:RP T A X s ab) (ar:RP T A X t ac):Calls Tryz.prog 95 #[.agg #[f,g,I l],.agg #[p,s,t]] A (Ret fun v w=>∃H:Value,∃aj:Value,v=.agg #[H,aj,K r.2.2]/\St [] A w []/\Rds T w [Q X aj r.2.1,Q X H r.1]):=by
 refine aB 34 Tryz.func95 Z Z Z<|have c:=St.k A;have j:=Fz.k (S:=[]) (w0:=A);?_
 have hA0:Rds T A [Q X t ac,Q X s ab,Q X p L,Q X g G,Q X f E]:=M (RP.h (W Z) ar) (M (RP.h (W Z) aq) (M (RP.h (W Z) ap) (M (RP.h (W Z) ao) (M (RP.h (W Z) an) (Rds.nil)))))
 have d:=hA0.all
 have e:=hA0.off Z
 refine ax [(0,.agg #[f,g,I l]),(1,.agg #[p,s,t])] Z ?_
 unfold F.Iy at h
 refine R<|bg (cg (cs:=[f,g,I l]) Z Z c) Z fun B w c=>bg (cg (cs:=[p,s,t]) Z Z c) Z fun aG w c=>bg (bb (cs:=[L3,L3,K false]) mY Z c) Z fun C w c=>gl1<|R<|N (am (k:=2) u104 Z Z cH Z) Z<|N (au u31 Z Z (c.q 1 Z 2)) Z<|N (aC u31 Z ((d.rp 4 Z).b c.fr)) Z<|V 1 Z<|P ?_
 apply gl9 Z h<;>intro h
 ·refine R<|N (cb (vs:=[(2,K true,[K true])]) (cells:=[L3,L3,K true]) Z gW ⟨Z,trivial⟩ Z) Z<|bo (bz (i:=0) (us:=[L3,L3,K true]) Z cR Z Z Z ⟨Z,Z,Z,trivial⟩ Z c) fun w c=>gl8 ?_
  cases h
  obtain⟨al,hR⟩:=j.outT hTT d e c
  exact dh Z ⟨_,Z,bS (us:=[L3,L3,K true]) u33 Z cR (c.p 0 Z Z)⟩ ⟨L3,L3,Z,al,(M OE.kept.nil (M OE.kept.nil Rds.nil))⟩
 refine gl6<|N (aM (us:=[f,g,I l]) u101 Z bU Z (c.p 2 Z Z)) Z<|N (am (k:=2) u104 Z Z cH Z) Z<|N (au u31 Z Z (c.q 1 Z 2)) Z ?_
 replace c:=c.pick (os':=[Y aG [p,s,t]]++[Y C [L3,L3,K false],Y B [f,g,I l]]) [1,0,2] (by decide) rfl
 obtain⟨j,d,e,c⟩:=j.frzK hTT d e c
 refine J h fun aN aI h=>aH Z (lc l aI (j.okT hTT c) (d.i e 0 Z) (d.i e 1 Z) (d.i e 4 Z)) Z ?_
 rintro aJ w ⟨_,rfl,u,z⟩
 obtain⟨aU,aO,j,d,e,c⟩:=j.l d e c u z rfl
 refine V 1 Z<|gl2<|N (aM (us:=[f,g,I l]) u101 Z bU Z (c.p 1 Z Z)) Z<|V 2 Z ?_
 replace c:=c.pick (os':=[]++[Y C [L3,L3,K false],Y B [f,g,I l]]) [0,1] (by decide) rfl
 obtain⟨j,d,e,c⟩:=j.frzK hTT d e c
 refine J h fun aK av h=>aH Z (br l av (j.okT hTT c) (d.i e 0 Z) (d.i e 1 Z) (d.i e 6 Z) (d.i e 6 Z)) Z ?_
 rintro aw w ⟨_,rfl,u,z⟩
 obtain⟨aV,aP,j,d,e,c⟩:=j.l d e c u z rfl
 refine V 1 rfl<|gl1<|J h fun m az h=>J h fun ad aA h=>J h fun n aD h=>cF (es:=[Q X aw aK,Q X aJ aN,Y aG [p,s,t],Q X t ac,Q X s ab,Q X p L,Q X g G,Q X f E]) (os:=[Y B [f,g,I l]]) (fun i=>[4,11,12,13,14].contains i) (fun i=>none) (fun i=>if i=12 then [11] else if i=13 then [4,12] else if i=14 then [4,12] else []) (fun i=>if i=14 then [Y C [L3,L3,K false]] else []) (fun i=>[]) (fun i=>if i=13 then [4,12] else if i=14 then [4,12] else []) (fun i=>if i=4 then (fun h v x y=>∃a:Value,v=a/\x=[]/\y=[Q X a m]) else if i=11 then (fun h v x y=>∃o:Value,v=o/\x=[]/\y=[Q X o ad]) else if i=12 then (fun h v x y=>∃b:Value,v=b/\x=[]/\y=[Q X b n]) else if i=13 then (fun h v x y=>∃a:Value,∃b:Value,h=[(a,[],[Q X a m]),(b,[],[Q X b n])]/\v=.agg #[a,b,K false]/\x=[]/\y=[]) else (fun h v x y=>∃a:Value,∃b:Value,h=[(a,[],[Q X a m]),(b,[],[Q X b n])]/\v=undef/\x=[Y C [a,b,K false]]/\y=[Q X a m,Q X b n])) (SfT.mk' j d e (c.pick (os':=[Y C [L3,L3,K false],Y B [f,g,I l]]) [0,1] (by decide) rfl)) (fun k hk=>(if_neg (fun q=>by subst q; exact absurd hk (by decide)))) hTT rfl (fun i=>(bZ (by rintro h v x y ⟨_,rfl,rfl,rfl⟩; exact bM rfl) (bZ (by rintro h v x y ⟨_,rfl,rfl,rfl⟩; exact bM rfl) (bZ (by rintro h v x y ⟨_,rfl,rfl,rfl⟩; exact bM rfl) (bZ (by rintro h v x y ⟨_,_,_,rfl,rfl,rfl⟩; exact bM rfl) (by rintro h v x y ⟨_,_,_,rfl,rfl,rfl⟩; exact bM rfl)))))) bQ (by kernel_rfl) (by kernel_rfl) ?_
 show dZ _ _ _ _ _ _ _ _ _ _ _ _ _ _ _ _ [0,1,2,3,4,5,6,7,8,9,10,11,12,13,14] _ _
 refine bj Z Z (fun w Sb wb j d e D=>aM (us:=[f,g,I l]) u101 Z bU Z (D.p 0 Z Z)) Z<|bj Z Z (fun w Sb wb j d e D=>am (k:=0) u104 Z Z cH Z) Z<|bj Z Z (fun w Sb wb j d e D=>au u31 Z Z ((d.rb 5 Z).cell D.fr 0 Z)) Z<|bN 1 Z ?_
 refine bI (fun h v x y=>∃a:Value,v=a/\x=[]/\y=[Q X a m]) [] [] [] _ Z Z (fun h v x y=>Z) Z Z Z Z ⟨_,_,_,undef,Z,Z,Z⟩ (by kernel_rfl) Z (fun w Sl Tl j hTT d e c=>?_) Z ?_
 ·replace c:=c.pick (os':=[]++[Y B [f,g,I l]]) [0] (by decide) rfl
  obtain⟨j,d,e,c⟩:=j.frzK hTT d e c
  refine bG (br l az (j.okT hTT c) (d.i e 0 Z) (d.i e 1 Z) (d.i e 2 Z) (d.i e 7 Z)) ?_
  rintro a w ⟨_,rfl,u,z⟩
  obtain⟨aW,aQ,j,d,e,c⟩:=j.l d e c u z rfl
  exact⟨_,_,⟨a,Z,Z,Z⟩,SfT.mk' j (d.pick [8] Z) (e.pick [8] Z) c⟩
 rintro a x_q y_q ⟨_,rfl,rfl,rfl⟩
 refine bj Z Z (fun w Sb wb j d e D=>aM (us:=[f,g,I l]) u101 Z bU Z (D.p 0 Z Z)) Z<|bj Z Z (fun w Sb wb j d e D=>am (k:=1) u104 Z Z cH Z) Z<|bj Z Z (fun w Sb wb j d e D=>au u31 Z Z ((d.rb 5 Z).cell D.fr 1 Z)) Z<|bj Z Z (fun w Sb wb j d e D=>aM (us:=[f,g,I l]) u101 Z bU Z (D.p 0 Z Z)) Z<|bN 2 Z ?_
 refine bI (fun h v x y=>∃o:Value,v=o/\x=[]/\y=[Q X o ad]) [] [] [] _ Z Z (fun h v x y=>Z) Z Z Z Z ⟨_,_,_,undef,Z,Z,Z⟩ (by kernel_rfl) Z (fun w Sl Tl j hTT d e c=>?_) Z ?_
 ·replace c:=c.pick (os':=[]++[Y B [f,g,I l]]) [0] (by decide) rfl
  obtain⟨j,d,e,c⟩:=j.frzK hTT d e c
  refine bG (br l aA (j.okT hTT c) (d.i e 0 Z) (d.i e 1 Z) (d.i e 7 Z) (d.i e 6 Z)) ?_
  rintro o w ⟨_,rfl,u,z⟩
  obtain⟨aX,aR,j,d,e,c⟩:=j.l d e c u z rfl
  exact⟨_,_,⟨o,Z,Z,Z⟩,SfT.mk' j (d.pick [8] Z) (e.pick [8] Z) c⟩
 rintro o x_q y_q ⟨_,rfl,rfl,rfl⟩
 refine bI (fun h v x y=>∃b:Value,v=b/\x=[]/\y=[Q X b n]) [] [] [Q X o ad] _ Z Z (fun h v x y=>Z) Z Z Z Z ⟨_,_,_,undef,Z,Z,Z⟩ (by kernel_rfl) Z (fun w Sl Tl j hTT d e c=>?_) Z ?_
 ·replace c:=c.pick (os':=[]++[Y B [f,g,I l]]) [0] (by decide) rfl
  obtain⟨j,d,e,c⟩:=j.frzK hTT d e c
  refine bG (br l aD (j.okT hTT c) (d.i e 0 Z) (d.i e 1 Z) (d.i e 3 Z) (d.i e 8 Z)) ?_
  rintro b w ⟨_,rfl,u,z⟩
  obtain⟨aY,aS,j,d,e,c⟩:=j.l d e c u z rfl
  exact⟨_,_,⟨b,Z,Z,Z⟩,SfT.mk' j (d.pick [9] Z) (e.pick [9] Z) c⟩
 rintro b x_q y_q ⟨_,rfl,rfl,rfl⟩
 refine eP (fun h v x y=>∃a:Value,∃b:Value,h=[(a,[],[Q X a m]),(b,[],[Q X b n])]/\v=.agg #[a,b,K false]/\x=[]/\y=[]) [(a,[],[Q X a m]),(b,[],[Q X b n])] [] [Q X a m,Q X b n] _ Z Z (fun h v x y=>Z) Z Z Z Z ⟨_,_,_,a,b,Z,Z,Z,Z⟩ (fun w Sl Tl j hTT d e c=>?_) Z ?_
 ·exact pC (cb (vs:=[(0,a,[a]),(1,b,[b])]) (cells:=[a,b,K false]) Z gW ⟨(cK ((d.rp 9 Z).b c.fr).one),(cK ((d.rp 8 Z).b c.fr).one),trivial⟩ Z) ⟨_,_,⟨a,b,Z,Z,Z,Z⟩,SfT.mk' j Rds.nil Off.nil c⟩
 rintro v_q x_q y_q ⟨u0_20',u0_32',hh,rfl,rfl,rfl⟩
 replace hh:([(a,[],[Q X a m]),(b,[],[Q X b n])]:List Th)=[(u0_20',[],[Q X u0_20' m]),(u0_32',[],[Q X u0_32' n])]:=hh
 cases hh
 refine j1 (fun h v x y=>∃a:Value,∃b:Value,h=[(a,[],[Q X a m]),(b,[],[Q X b n])]/\v=undef/\x=[Y C [a,b,K false]]/\y=[Q X a m,Q X b n]) [(a,[],[Q X a m]),(b,[],[Q X b n])] [Y C [L3,L3,K false]] [Q X a m,Q X b n] _ Z Z (fun h v x y=>Z) Z Z Z Z ⟨_,_,_,a,b,Z,Z,Z,Z⟩ (fun w Sl Tl j hTT d e c=>?_) ?_
 ·refine i6 (bz (i:=0) (us:=[a,b,K false]) Z cR Z Z Z ⟨((d.rp 9 Z).b c.fr).one,((d.rp 8 Z).b c.fr).one,Z,trivial⟩ Z c) ?_
  intro w c
  exact⟨_,_,⟨a,b,Z,Z,Z,Z⟩,SfT.mk' j (d.pick [9,8] Z) (e.pick [9,8] Z) c⟩
 rintro v_q x_q y_q ⟨u0_20',u0_32',hh,rfl,rfl,rfl⟩
 replace hh:([(a,[],[Q X a m]),(b,[],[Q X b n])]:List Th)=[(u0_20',[],[Q X u0_20' m]),(u0_32',[],[Q X u0_32' n])]:=hh
 cases hh
 refine dv fun w hQ=>?_
 obtain⟨a0,aT,j,d,e,c⟩:=hQ
 refine ak<|ay ?_
 cases h
 obtain⟨al,hR⟩:=j.outT hTT d e c
 exact dh Z ⟨_,Z,bS (us:=[a,b,K false]) u33 Z cR (c.p 0 Z Z)⟩ ⟨a,b,Z,al,(hR.pick [8,9] Z)⟩
theorem rM {w0:World} {a1 a2 bj bk bl bm:L0} {au az G ab ac ad:Value} {T:L2} (a0:Int) (ap ar:Bool) {r:L0×L0×Bool}
  (h:F.Ix a0 a1 a2 bj bk ap bl bm ar=some r) (hTT:TOk [] T w0) (b3:RP T w0 X au a1) (b4:RP T w0 X az a2) (bG:RP T w0 X G bj) (bH:RP T w0 X ab bk) (bI:RP T w0 X ac bl) (bJ:RP T w0 X ad bm):Calls Tryz.prog 41 #[I a0,au,az,.agg #[G,ab,K ap],.agg #[ac,ad,K ar]] w0 (Ret fun v w=>∃bv:Value,∃bw:Value,v=.agg #[bv,bw,K r.2.2]/\St [] w0 w []/\Rds T w [Q X bw r.2.1,Q X bv r.1]):=by
 refine aB 73 Tryz.func41 Z Z Z<|have a:=St.k w0;have m:=Fz.k (S:=[]) (w0:=w0);?_
 have hA0:Rds T w0 [Q X ad bm,Q X ac bl,Q X ab bk,Q X G bj,Q X az a2,Q X au a1]:=M (RP.h (W Z) bJ) (M (RP.h (W Z) bI) (M (RP.h (W Z) bH) (M (RP.h (W Z) bG) (M (RP.h (W Z) b4) (M (RP.h (W Z) b3) (Rds.nil))))))
 have b:=hA0.all
 have c:=hA0.off Z
 refine ax [(0,I a0),(1,au),(2,az),(3,.agg #[G,ab,K ap]),(4,.agg #[ac,ad,K ar])] Z ?_
 unfold F.Ix at h
 refine R<|bg (cg (cs:=[G,ab,K ap]) Z Z a) Z fun bA w a=>bg (cg (cs:=[ac,ad,K ar]) Z Z a) Z fun bB w a=>bg (bb (cs:=[L3,L3,K false]) mY Z a) Z fun ae w a=>gl2<|V 1 Z<|J h fun n bY h=>bE a Z (rT a0 bY ) Z fun z t w a=>bg (bb (cs:=[L3,L3,I 0]) Aq Z a) Z fun A w a=>bo (bz (i:=0) (us:=[z,t,I n.2.2]) Z bU Z Z Z ⟨(a.ro 1 Z).one,(a.ro 2 Z).one,Z,trivial⟩ Z a) fun w a=>gl2<|N (aM (us:=[G,ab,K ap]) u33 Z cR Z (a.p 5 Z Z)) Z ?_
 replace a:=a.pick (os':=[U X z n.1,U X t n.2.1]++[Y A [z,t,I n.2.2],Y ae [L3,L3,K false],Y bB [ac,ad,K ar],Y bA [G,ab,K ap]]) [1,2,0,3,4,5] (by decide) rfl
 obtain⟨m,b,c,a⟩:=m.frzK hTT b c a
 refine J h fun ah bK h=>aH Z (nt ap bK (m.okT hTT a) (b.i c 2 Z) (b.i c 3 Z)) Z ?_
 rintro _ w ⟨d,e,f,rfl,H,am⟩
 obtain⟨cm,b8,m,b,c,a⟩:=m.l b c a H am rfl
 refine bg (bb (cs:=[L3,L3,L3]) mj Z a) Z fun B w a=>bo (bz (i:=0) (us:=[d,e,f]) Z cT Z Z Z ⟨((b.rp 8 Z).b a.fr).one,((b.rp 9 Z).b a.fr).one,((b.rp 10 Z).b a.fr).one,trivial⟩ Z a) fun w a=>gl2<|N (aM (us:=[ac,ad,K ar]) u33 Z cR Z (a.p 3 Z Z)) Z ?_
 replace a:=a.pick (os':=[]++[Y B [d,e,f],Y A [z,t,I n.2.2],Y ae [L3,L3,K false],Y bB [ac,ad,K ar],Y bA [G,ab,K ap]]) [0,1,2,3,4] (by decide) rfl
 obtain⟨m,b,c,a⟩:=m.frzK hTT b c a
 refine J h fun an bL h=>aH Z (nt ar bL (m.okT hTT a) (b.i c 4 Z) (b.i c 5 Z)) Z ?_
 rintro _ w ⟨j,k,l,rfl,H,am⟩
 obtain⟨cn,b9,m,b,c,a⟩:=m.l b c a H am rfl
 refine bg (bb (cs:=[L3,L3,L3]) mj Z a) Z fun C w a=>bo (bz (i:=0) (us:=[j,k,l]) Z cT Z Z Z ⟨((b.rp 11 Z).b a.fr).one,((b.rp 12 Z).b a.fr).one,((b.rp 13 Z).b a.fr).one,trivial⟩ Z a) fun w a=>gl2<|N (aM (us:=[z,t,I n.2.2]) u101 Z bU Z (a.p 2 Z Z)) Z<|N (aM (us:=[d,e,f]) u104 Z cT Z (a.p 1 Z Z)) Z<|N (aM (us:=[j,k,l]) u104 Z cT Z (a.p 0 Z Z)) Z ?_
 replace a:=a.pick (os':=[]++[Y C [j,k,l],Y B [d,e,f],Y A [z,t,I n.2.2],Y ae [L3,L3,K false],Y bB [ac,ad,K ar],Y bA [G,ab,K ap]]) [0,1,2,3,4,5] (by decide) rfl
 obtain⟨m,b,c,a⟩:=m.frzK hTT b c a
 refine J h fun ao bM h=>aH Z (fF n.2.2 bM (m.okT hTT a) (b.i c 7 Z) (b.i c 6 Z) (b.i c 8 Z) (b.i c 9 Z) (b.i c 10 Z) (b.i c 11 Z) (b.i c 12 Z) (b.i c 13 Z)) Z ?_
 rintro _ w ⟨o,p,q,rfl,H,am⟩
 obtain⟨co,ca,m,b,c,a⟩:=m.l b c a H am rfl
 refine bg (bb (cs:=[L3,L3,L3]) mj Z a) Z fun D w a=>bo (bz (i:=0) (us:=[o,p,q]) Z cT Z Z Z ⟨((b.rp 14 Z).b a.fr).one,((b.rp 15 Z).b a.fr).one,((b.rp 16 Z).b a.fr).one,trivial⟩ Z a) fun w a=>gl2<|bg (bb (cs:=[L3,L3,L3]) mj Z a) Z fun E w a=>gl1<|R<|V 1 Z<|N (aC u31 Z ((b.rp 0 Z).b a.fr)) Z<|V 1 Z<|N (aC u31 Z ((b.rp 1 Z).b a.fr)) Z<|N (k8 Z Z) Z<|N (aj Z Z (el _ 32 (max (a1.length:Int) (a2.length:Int)))) Z<|V 1 Z<|aZ h fun bn bN h=>N (ba (v:=I bn) (by rw[<-bN]; rfl)) Z<|P<|aq<|ax [(1,au),(2,az),(10,O ae 0),(11,O A 0),(12,O B 0),(13,O C 0),(14,O D 0),(15,O E 0),(16,I bn)] Z ?_
 refine aT (F.FK a1 a2 n ah an ao) (fun (s:Int×L0×L0×L0) L w=>∃(aD:Value) (aJ:Value) (aL:Value),L=[(1,au),(2,az),(10,O ae 0),(11,O A 0),(12,O B 0),(13,O C 0),(14,O D 0),(15,O E 0),(16,I s.1)]/\SfT [] T w0 w [Q X aL s.2.2.2,Q X aJ s.2.2.1,Q X aD s.2.1,Q X q ao.2.2,Q X p ao.2.1,Q X o ao.1,Q X l an.2.2,Q X k an.2.1,Q X j an.1,Q X f ah.2.2,Q X e ah.2.1,Q X d ah.1,Q X t n.2.1,Q X z n.1,Q X az a2,Q X au a1] [Y ae [L3,L3,K false],Y A [z,t,I n.2.2],Y B [d,e,f],Y C [j,k,l],Y D [o,p,q],Y E [aD,aJ,aL]]) ?_ (bn,[],[],[]) ⟨L3,L3,L3,Z,(SfT.mk' m (M OE.kept.nil (M OE.kept.nil (M OE.kept.nil (b.pick [16,15,14,13,12,11,10,9,8,6,7,1,0] Z)))) (Off.cons Off.nilrd (Off.cons Off.nilrd (Off.cons Off.nilrd (c.pick [16,15,14,13,12,11,10,9,8,6,7,1,0] Z)))) (a.d [5,4,3,2,1,0] Z Z))⟩ h
 rintro cb ⟨aN,cp,cq,cr⟩ L w bC hI bO h bt
 try dsimp only at hI
 obtain⟨aD,aJ,aL,rfl,⟨ct,cc,m,b,c,a⟩⟩:=hI
 unfold F.FK at h
 refine aw<|R<|V 2 Z<|P ?_
 apply gl9 Z h<;>intro h
 ·refine gl5 ?_
  refine a8 (r:=bC) (fun (g:L0×L0×L0) L w=>∃(be:Value) (bh:Value) (bi:Value),L=[(1,au),(2,az),(10,O ae 0),(11,O A 0),(12,O B 0),(13,O C 0),(14,O D 0),(15,O E 0),(16,I aN)]/\SfT [] T w0 w [Q X bi g.2.2,Q X bh g.2.1,Q X be g.1,Q X q ao.2.2,Q X p ao.2.1,Q X o ao.1,Q X l an.2.2,Q X k an.2.1,Q X j an.1,Q X f ah.2.2,Q X e ah.2.1,Q X d ah.1,Q X t n.2.1,Q X z n.1,Q X az a2,Q X au a1] [Y ae [L3,L3,K false],Y A [z,t,I n.2.2],Y B [d,e,f],Y C [j,k,l],Y D [o,p,q],Y E [be,bh,bi]]) (F.Fo aN) ?_ ?_
  rotate_left
  ·intro aU
   refine aq<|R<|N (aM (us:=[z,t,I n.2.2]) u101 Z bU Z (a.p 1 Z Z)) Z<|N (aM (us:=[aD,aJ,aL]) u104 Z cT Z (a.p 5 Z Z)) Z ?_
   replace a:=a.pick (os':=[]++[Y ae [L3,L3,K false],Y A [z,t,I n.2.2],Y B [d,e,f],Y C [j,k,l],Y D [o,p,q],Y E [aD,aJ,aL]]) [0,1,2,3,4,5] (by decide) rfl
   obtain⟨m,b,c,a⟩:=m.frzK hTT b c a
   refine J h fun aO bP h=>aH Z (iO n.2.2 bP (m.okT hTT a) (b.i c 2 Z) (b.i c 3 Z) (b.i c 13 Z) (b.i c 14 Z) (b.i c 15 Z)) Z ?_
   rintro _ w ⟨u,x,y,rfl,H,am⟩
   obtain⟨cu,ce,m,b,c,a⟩:=m.l b c a H am rfl
   refine bo (bz (i:=5) (us:=[u,x,y]) Z cT Z Z Z ⟨((b.rp 16 Z).b a.fr).one,((b.rp 17 Z).b a.fr).one,((b.rp 18 Z).b a.fr).one,trivial⟩ Z a) fun w a=>gl2<|V 2 Z<|J h fun bZ bQ h=>bf a Z (jJ aN bQ ((b.rp 0 Z).b a.fr).rp) Z fun w a=>V 1 Z<|gl2<|V 2 Z<|J h fun bp bR h=>bf a Z (jJ aN bR ((b.rp 1 Z).b a.fr).rp) Z fun w a=>V 1 Z<|P<|aq ?_
   refine a8 (r:=bC) (fun (g:Bool×Bool) L w=>L=[(1,au),(2,az),(10,O ae 0),(11,O A 0),(12,O B 0),(13,O C 0),(14,O D 0),(15,O E 0),(16,I aN),(17,K g.1),(18,K bp),(49,K g.2)]/\SfT [] T w0 w [Q X y aO.2.2,Q X x aO.2.1,Q X u aO.1,Q X q ao.2.2,Q X p ao.2.1,Q X o ao.1,Q X l an.2.2,Q X k an.2.1,Q X j an.1,Q X f ah.2.2,Q X e ah.2.1,Q X d ah.1,Q X t n.2.1,Q X z n.1,Q X az a2,Q X au a1] [Y ae [L3,L3,K false],Y A [z,t,I n.2.2],Y B [d,e,f],Y C [j,k,l],Y D [o,p,q],Y E [u,x,y]]) (F.IH n ah an ao aO bp aN) ?_ ?_
   rotate_left
   ·intro bu
    refine al<|V 2 Z ?_
    cases aV:bZ
    case true=>
     have h:=cz h aV
     try simp only[aV]
     exact V 3 Z<|P<|aG (bu (true,bp) _ _ ⟨Z,(SfT.mk' m (b.pick [18,17,16,12,11,10,9,8,7,6,5,4,3,2,1,0] Z) (c.pick [18,17,16,12,11,10,9,8,7,6,5,4,3,2,1,0] Z) a)⟩ h) Z
    case false=>
     have h:=cA h aV
     try simp only[aV]
     exact V 3 Z<|P<|aG (bu (false,false) _ _ ⟨Z,(SfT.mk' m (b.pick [18,17,16,12,11,10,9,8,7,6,5,4,3,2,1,0] Z) (c.pick [18,17,16,12,11,10,9,8,7,6,5,4,3,2,1,0] Z) a)⟩ h) Z
   rintro⟨cv,cw⟩ L w hJ h
   try dsimp only at hJ
   obtain⟨rfl,⟨cx,cf,m,b,c,a⟩⟩:=hJ
   unfold F.IH at h
   apply gl9 Z h<;>intro h
   ·refine al<|N (aM (us:=[z,t,I n.2.2]) u101 Z bU Z (a.p 1 Z Z)) Z<|N (aM (us:=[u,x,y]) u104 Z cT Z (a.p 5 Z Z)) Z<|N (aM (us:=[o,p,q]) u104 Z cT Z (a.p 4 Z Z)) Z ?_
    replace a:=a.pick (os':=[]++[Y ae [L3,L3,K false],Y A [z,t,I n.2.2],Y B [d,e,f],Y C [j,k,l],Y D [o,p,q],Y E [u,x,y]]) [0,1,2,3,4,5] (by decide) rfl
    obtain⟨m,b,c,a⟩:=m.frzK hTT b c a
    refine J h fun bq bT h=>aH Z (fF n.2.2 bT (m.okT hTT a) (b.i c 2 Z) (b.i c 3 Z) (b.i c 13 Z) (b.i c 14 Z) (b.i c 15 Z) (b.i c 10 Z) (b.i c 11 Z) (b.i c 12 Z)) Z ?_
    rintro _ w ⟨aW,aX,aY,rfl,H,am⟩
    obtain⟨cy,ch,m,b,c,a⟩:=m.l b c a H am rfl
    refine bo (bz (i:=5) (us:=[aW,aX,aY]) Z cT Z Z Z ⟨((b.rp 16 Z).b a.fr).one,((b.rp 17 Z).b a.fr).one,((b.rp 18 Z).b a.fr).one,trivial⟩ Z a) fun w a=>aE<|aF<|aF<|ak ?_
    exact aG (aU (bq.1,bq.2.1,bq.2.2) _ _ ⟨aW,aX,aY,Z,(SfT.mk' m (b.pick [18,17,16,12,11,10,9,8,7,6,5,4,3,2,1,0] Z) (c.pick [18,17,16,12,11,10,9,8,7,6,5,4,3,2,1,0] Z) a)⟩ h) Z
   refine R<|V 2 Z<|P ?_
   apply gl9 Z h<;>intro h
   ·refine al<|N (aM (us:=[z,t,I n.2.2]) u101 Z bU Z (a.p 1 Z Z)) Z<|N (aM (us:=[u,x,y]) u104 Z cT Z (a.p 5 Z Z)) Z<|N (aM (us:=[d,e,f]) u104 Z cT Z (a.p 2 Z Z)) Z ?_
    replace a:=a.pick (os':=[]++[Y ae [L3,L3,K false],Y A [z,t,I n.2.2],Y B [d,e,f],Y C [j,k,l],Y D [o,p,q],Y E [u,x,y]]) [0,1,2,3,4,5] (by decide) rfl
    obtain⟨m,b,c,a⟩:=m.frzK hTT b c a
    refine J h fun br bV h=>aH Z (fF n.2.2 bV (m.okT hTT a) (b.i c 2 Z) (b.i c 3 Z) (b.i c 13 Z) (b.i c 14 Z) (b.i c 15 Z) (b.i c 4 Z) (b.i c 5 Z) (b.i c 6 Z)) Z ?_
    rintro _ w ⟨a3,a4,a5,rfl,H,am⟩
    obtain⟨cB,ci,m,b,c,a⟩:=m.l b c a H am rfl
    refine bo (bz (i:=5) (us:=[a3,a4,a5]) Z cT Z Z Z ⟨((b.rp 16 Z).b a.fr).one,((b.rp 17 Z).b a.fr).one,((b.rp 18 Z).b a.fr).one,trivial⟩ Z a) fun w a=>aE<|aF<|aF<|ak ?_
    exact aG (aU (br.1,br.2.1,br.2.2) _ _ ⟨a3,a4,a5,Z,(SfT.mk' m (b.pick [18,17,16,12,11,10,9,8,7,6,5,4,3,2,1,0] Z) (c.pick [18,17,16,12,11,10,9,8,7,6,5,4,3,2,1,0] Z) a)⟩ h) Z
   refine R<|V 2 Z<|P ?_
   apply gl9 Z h<;>intro h
   ·refine al<|N (aM (us:=[z,t,I n.2.2]) u101 Z bU Z (a.p 1 Z Z)) Z<|N (aM (us:=[u,x,y]) u104 Z cT Z (a.p 5 Z Z)) Z<|N (aM (us:=[j,k,l]) u104 Z cT Z (a.p 3 Z Z)) Z ?_
    replace a:=a.pick (os':=[]++[Y ae [L3,L3,K false],Y A [z,t,I n.2.2],Y B [d,e,f],Y C [j,k,l],Y D [o,p,q],Y E [u,x,y]]) [0,1,2,3,4,5] (by decide) rfl
    obtain⟨m,b,c,a⟩:=m.frzK hTT b c a
    refine J h fun bs bW h=>aH Z (fF n.2.2 bW (m.okT hTT a) (b.i c 2 Z) (b.i c 3 Z) (b.i c 13 Z) (b.i c 14 Z) (b.i c 15 Z) (b.i c 7 Z) (b.i c 8 Z) (b.i c 9 Z)) Z ?_
    rintro _ w ⟨a6,a7,a9,rfl,H,am⟩
    obtain⟨cC,cj,m,b,c,a⟩:=m.l b c a H am rfl
    refine bo (bz (i:=5) (us:=[a6,a7,a9]) Z cT Z Z Z ⟨((b.rp 16 Z).b a.fr).one,((b.rp 17 Z).b a.fr).one,((b.rp 18 Z).b a.fr).one,trivial⟩ Z a) fun w a=>aE<|aF<|aF<|ak ?_
    exact aG (aU (bs.1,bs.2.1,bs.2.2) _ _ ⟨a6,a7,a9,Z,(SfT.mk' m (b.pick [18,17,16,12,11,10,9,8,7,6,5,4,3,2,1,0] Z) (c.pick [18,17,16,12,11,10,9,8,7,6,5,4,3,2,1,0] Z) a)⟩ h) Z
   exact cd<|aF<|aF<|ak<|aG (aU (aO.1,aO.2.1,aO.2.2) _ _ ⟨u,x,y,Z,(SfT.mk' m (b.pick [15,14,13,12,11,10,9,8,7,6,5,4,3,2,1,0] Z) (c.pick [15,14,13,12,11,10,9,8,7,6,5,4,3,2,1,0] Z) a)⟩ h) Z
  rintro⟨b0,b1,b2⟩ L w hJ h
  try dsimp only at hJ
  obtain⟨be,bh,bi,rfl,⟨cD,ck,m,b,c,a⟩⟩:=hJ
  unfold F.Fo at h
  exact al<|V 3 Z<|aE<|bd (bc (bO (wI (aN - 1),b0,b1,b2) _ _ ⟨be,bh,bi,Z,(SfT.mk' m (b.pick [15,14,13,12,11,10,9,8,7,6,5,4,3,2,1,0] Z) (c.pick [15,14,13,12,11,10,9,8,7,6,5,4,3,2,1,0] Z) a)⟩ (aK h bt)) Z)
 refine aQ<|av<|av<|have h:=aI h bt;aR<|ak<|R<|N (aM (us:=[z,t,I n.2.2]) u101 Z bU Z (a.p 1 Z Z)) Z<|N (aM (us:=[aD,aJ,aL]) u104 Z cT Z (a.p 5 Z Z)) Z ?_
 replace a:=a.pick (os':=[]++[Y ae [L3,L3,K false],Y A [z,t,I n.2.2],Y B [d,e,f],Y C [j,k,l],Y D [o,p,q],Y E [aD,aJ,aL]]) [0,1,2,3,4,5] (by decide) rfl
 obtain⟨m,b,c,a⟩:=m.frzK hTT b c a
 refine J h fun bF bX h=>aH Z (mD n.2.2 bX (m.okT hTT a) (b.i c 2 Z) (b.i c 3 Z) (b.i c 13 Z) (b.i c 14 Z) (b.i c 15 Z)) Z ?_
 rintro _ w ⟨aP,aS,rfl,H,am⟩
 obtain⟨cl,b6,m,b,c,a⟩:=m.l b c a H am rfl
 refine bo (bz (i:=0) (us:=[aP,aS,K bF.2.2]) Z cR Z Z Z ⟨((b.rp 16 Z).b a.fr).one,((b.rp 17 Z).b a.fr).one,Z,trivial⟩ Z a) fun w a=>P<|ay ?_
 cases h
 obtain⟨b7,hR⟩:=m.outT hTT b c a
 exact dh Z ⟨_,Z,bS (us:=[aP,aS,K bF.2.2]) u33 Z cR (a.p 0 Z Z)⟩ ⟨aP,aS,Z,b7,(hR.pick [17,16] Z)⟩
theorem ub {e:World} {f g a1 a2:L0} {b c i j:Value} (d:Bool) {r:Bool}
  (h:F.IV f g d a1 a2=some r) (l:RP [] e X b f) (q:RP [] e X c g) (o:RP [] e X i a1) (p:RP [] e X j a2):Calls Tryz.prog 37 #[.agg #[b,c,K d],i,j] e (Ret fun v w=>v=K r/\St [] e w []):=by
 refine aB 22 Tryz.func37 Z Z Z<|have a:=St.k e;ax [(0,.agg #[b,c,K d]),(1,i),(2,j)] Z ?_
 unfold F.IV at h
 refine R<|bg (cg (cs:=[b,c,K d]) Z Z a) Z fun s w a=>V 1 Z<|gl1<|R<|N (am (k:=2) u33 Z Z nz4 Z) Z<|N (au Tryz.underlying4 Z Z (a.q 0 Z 2)) Z<|P ?_
 apply gl9 Z h<;>intro h
 ·refine R<|V 1 Z<|gl8 ?_
  cases h
  exact az Z Z ⟨Z,a.d [] Z Z⟩
 refine gl6<|N (am (k:=0) u33 Z Z cH Z) Z<|N (au u31 Z Z (a.q 0 Z 0)) Z<|V 1 Z<|J h fun t m h=>bE a Z (gS  m (l.b a.fr).rp (p.b a.fr).rp) Z fun u x w a=>V 5 Z<|gl2<|V 2 Z<|J h fun y n h=>bf a Z (fE  n (a.ro 1 Z).rp (o.b a.fr).rp) Z fun w a=>V 2 Z<|P<|ay ?_
 cases h
 exact az Z Z ⟨Z,a.d [] Z Z⟩
end Go.Proofs
