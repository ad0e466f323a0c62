import Derived.Test.YtahgjafdhjbkeaaGreatDoorRW0
import Derived.Test.YtahgjafdhjbkeaaGreatDoorGkFman
import Derived.Test.YtahgjafdhjbkeaaGreatDoorRWref11
import Derived.Test.YtahgjafdhjbkeaaGreatDoorRWref12b
import Derived.Test.YtahgjafdhjbkeaaGreatDoorRWref4
import Derived.Test.YtahgjafdhjbkeaaGreatDoorRWref7
set_option linter.unusedVariables false
set_option linter.unusedSimpArgs false
set_option linter.unusedSectionVars false
set_option maxRecDepth 4000
namespace Go.Proofs
open Go Go.RowKit Go.Gk
open Go.Gk renaming aa → V, af → J, ag → N, e32 → X, gl3 → Q, gl4 → R, own → U, pB → O, red → P, vB → K, vI → H
open Nat renaming le_of_ble_eq_true → W
open Go.Gk.OE renaming bx → Y
open Go.Gk.Rds renaming cons → M
theorem mr {A:World} {E G L ab ac:List UInt32} {f g p s t:Value} {T:List Nat} (l:Int) {r:List UInt32×List UInt32×Bool}
  (h:F.HR E G l L ab ac=some r) (hTT:TOk [] T A) (am:RP T A X f E) (an:RP T A X g G) (ap:RP T A X p L) (aq:RP T A X s ab) (ar:RP T A X t ac):Calls Tryz.prog 95 #[.agg #[f,g,H l],.agg #[p,s,t]] A (Ret fun v w=>∃ai:Value,∃aj:Value,v=.agg #[ai,aj,K r.2.2]∧St [] A w []∧Rds T w [P X aj r.2.1,P X ai r.1]):=by
 refine aB 34 Tryz.func95 Z Z Z<|have c:=St.k A;have j:=Fz.k (S:=[]) (w0:=A);?_
 have hA0:Rds T A [P X t ac,P X s ab,P X p L,P X g G,P X f E]:=M (RP.h (W Z) ar) (M (RP.h (W Z) aq) (M (RP.h (W Z) ap) (M (RP.h (W Z) an) (M (RP.h (W Z) am) (Rds.nil)))))
 have d:=hA0.all
 have e:=hA0.off Z
 refine ax [(0,.agg #[f,g,H l]),(1,.agg #[p,s,t])] Z ?_
 unfold F.HR at h
 refine R<|bh (cu (cs:=[f,g,H l]) Z Z c) Z fun B w c=>bh (cu (cs:=[p,s,t]) Z Z c) Z fun aH w c=>bh (ba (cs:=[.slice none 0 0,.slice none 0 0,K false]) jk Z c) Z fun C w c=>gl1<|R<|N (ao (k:=2) u104 Z Z cZ Z) Z<|N (aw u31 Z Z (c.q 1 Z 2)) Z<|N (aC u31 Z ((d.rp 4 Z).b c.fr)) Z<|V 1 Z<|Q ?_
 refine gl9 Z h (fun h=>?_) (fun h=>?_)
 ·refine R<|N (bT (vs:=[(2,K true,[K true])]) (cells:=[.slice none 0 0,.slice none 0 0,K true]) Z fp ⟨Z,I⟩ Z) Z<|bl (bq (i:=0) (us:=[.slice none 0 0,.slice none 0 0,K true]) Z cC Z Z Z ⟨Z,Z,Z,I⟩ Z c) fun w c=>gl8 ?_
  cases h
  obtain ⟨al,hR⟩:=j.outT hTT d e c
  exact dc Z ⟨_,Z,bM (us:=[.slice none 0 0,.slice none 0 0,K true]) u33 Z cC (c.p 0 Z Z)⟩ ⟨.slice none 0 0,.slice none 0 0,Z,al,(M OE.kept.nil (M OE.kept.nil Rds.nil))⟩
 refine gl6<|N (aP (us:=[f,g,H l]) u101 Z bV Z (c.p 2 Z Z)) Z<|N (ao (k:=2) u104 Z Z cZ Z) Z<|N (aw u31 Z Z (c.q 1 Z 2)) Z ?_
 replace c:=c.pick (os':=[Y aH [p,s,t]]++[Y C [.slice none 0 0,.slice none 0 0,K false],Y B [f,g,H l]]) [1,0,2] (by decide) rfl
 obtain ⟨j,d,e,c⟩:=j.frzK hTT d e c
 refine J h fun aM aI h=>aG Z (kT l aI (j.okT hTT c) (d.i e 0 Z) (d.i e 1 Z) (d.i e 4 Z)) Z ?_
 rintro aJ w ⟨_,rfl,u,z⟩
 obtain ⟨aU,aN,j,d,e,c⟩:=j.l d e c u z rfl
 refine V 1 Z<|gl2<|N (aP (us:=[f,g,H l]) u101 Z bV Z (c.p 1 Z Z)) Z<|V 2 Z ?_
 replace c:=c.pick (os':=[]++[Y C [.slice none 0 0,.slice none 0 0,K false],Y B [f,g,H l]]) [0,1] (by decide) rfl
 obtain ⟨j,d,e,c⟩:=j.frzK hTT d e c
 refine J h fun aK au h=>aG Z (bp l au (j.okT hTT c) (d.i e 0 Z) (d.i e 1 Z) (d.i e 6 Z) (d.i e 6 Z)) Z ?_
 rintro av w ⟨_,rfl,u,z⟩
 obtain ⟨aV,aO,j,d,e,c⟩:=j.l d e c u z rfl
 refine V 1 rfl<|gl1<|J h fun m ay h=>J h fun ad aA h=>J h fun n aD h=>cO (es:=[P X av aK,P X aJ aM,Y aH [p,s,t],P X t ac,P X s ab,P X p L,P X g G,P X f E]) (os:=[Y B [f,g,H l]]) (fun i=>[4,11,12,13,14].contains i) (fun i=>none) (fun i=>if i=12 then [11] else if i=13 then [4,12] else if i=14 then [4,12] else []) (fun i=>if i=14 then [Y C [.slice none 0 0,.slice none 0 0,K false]] else []) (fun i=>[]) (fun i=>if i=13 then [4,12] else if i=14 then [4,12] else []) (fun i=>if i=4 then (fun h v x y=>∃a:Value,v=a∧x=[]∧y=[P X a m]) else if i=11 then (fun h v x y=>∃o:Value,v=o∧x=[]∧y=[P X o ad]) else if i=12 then (fun h v x y=>∃b:Value,v=b∧x=[]∧y=[P X b n]) else if i=13 then (fun h v x y=>∃a:Value,∃b:Value,h=[(a,[],[P X a m]),(b,[],[P X b n])]∧v=.agg #[a,b,K false]∧x=[]∧y=[]) else (fun h v x y=>∃a:Value,∃b:Value,h=[(a,[],[P X a m]),(b,[],[P X b n])]∧v=undef∧x=[Y C [a,b,K false]]∧y=[P X a m,P X b n])) (SfT.mk' j d e (c.pick (os':=[Y C [.slice none 0 0,.slice none 0 0,K false],Y B [f,g,H l]]) [0,1] (by decide) rfl)) (fun k hk=>(if_neg (fun q=>by subst q; exact absurd hk (by decide)))) hTT rfl (fun i=>(cl (by rintro h v x y ⟨_,rfl,rfl,rfl⟩; exact bQ rfl) (cl (by rintro h v x y ⟨_,rfl,rfl,rfl⟩; exact bQ rfl) (cl (by rintro h v x y ⟨_,rfl,rfl,rfl⟩; exact bQ rfl) (cl (by rintro h v x y ⟨_,_,_,rfl,rfl,rfl⟩; exact bQ rfl) (by rintro h v x y ⟨_,_,_,rfl,rfl,rfl⟩; exact bQ rfl)))))) bR (by kernel_rfl) (by kernel_rfl) ?_
 show dY _ _ _ _ _ _ _ _ _ _ _ _ _ _ _ _ [0,1,2,3,4,5,6,7,8,9,10,11,12,13,14] _ _
 refine bz Z Z (fun w Sb wb j d e D=>aP (us:=[f,g,H l]) u101 Z bV Z (D.p 0 Z Z)) Z<|bz Z Z (fun w Sb wb j d e D=>ao (k:=0) u104 Z Z cZ Z) Z<|bz Z Z (fun w Sb wb j d e D=>aw u31 Z Z ((d.rb 5 Z).cell D.fr 0 Z)) Z<|bP 1 Z ?_
 refine bK (fun h v x y=>∃a:Value,v=a∧x=[]∧y=[P X a m]) [] [] [] _ Z Z (fun h v x y=>Z) Z Z Z Z ⟨_,_,_,undef,Z,Z,Z⟩ (by kernel_rfl) Z (fun w Sl Tl j hTT d e c=>?_) Z ?_
 ·replace c:=c.pick (os':=[]++[Y B [f,g,H l]]) [0] (by decide) rfl
  obtain ⟨j,d,e,c⟩:=j.frzK hTT d e c
  refine bJ (bp l ay (j.okT hTT c) (d.i e 0 Z) (d.i e 1 Z) (d.i e 2 Z) (d.i e 7 Z)) ?_
  rintro a w ⟨_,rfl,u,z⟩
  obtain ⟨aW,aQ,j,d,e,c⟩:=j.l d e c u z rfl
  exact ⟨_,_,⟨a,Z,Z,Z⟩,SfT.mk' j (d.pick [8] Z) (e.pick [8] Z) c⟩
 rintro a x_q y_q ⟨_,rfl,rfl,rfl⟩
 refine bz Z Z (fun w Sb wb j d e D=>aP (us:=[f,g,H l]) u101 Z bV Z (D.p 0 Z Z)) Z<|bz Z Z (fun w Sb wb j d e D=>ao (k:=1) u104 Z Z cZ Z) Z<|bz Z Z (fun w Sb wb j d e D=>aw u31 Z Z ((d.rb 5 Z).cell D.fr 1 Z)) Z<|bz Z Z (fun w Sb wb j d e D=>aP (us:=[f,g,H l]) u101 Z bV Z (D.p 0 Z Z)) Z<|bP 2 Z ?_
 refine bK (fun h v x y=>∃o:Value,v=o∧x=[]∧y=[P X o ad]) [] [] [] _ Z Z (fun h v x y=>Z) Z Z Z Z ⟨_,_,_,undef,Z,Z,Z⟩ (by kernel_rfl) Z (fun w Sl Tl j hTT d e c=>?_) Z ?_
 ·replace c:=c.pick (os':=[]++[Y B [f,g,H l]]) [0] (by decide) rfl
  obtain ⟨j,d,e,c⟩:=j.frzK hTT d e c
  refine bJ (bp l aA (j.okT hTT c) (d.i e 0 Z) (d.i e 1 Z) (d.i e 7 Z) (d.i e 6 Z)) ?_
  rintro o w ⟨_,rfl,u,z⟩
  obtain ⟨aX,aR,j,d,e,c⟩:=j.l d e c u z rfl
  exact ⟨_,_,⟨o,Z,Z,Z⟩,SfT.mk' j (d.pick [8] Z) (e.pick [8] Z) c⟩
 rintro o x_q y_q ⟨_,rfl,rfl,rfl⟩
 refine bK (fun h v x y=>∃b:Value,v=b∧x=[]∧y=[P X b n]) [] [] [P X o ad] _ Z Z (fun h v x y=>Z) Z Z Z Z ⟨_,_,_,undef,Z,Z,Z⟩ (by kernel_rfl) Z (fun w Sl Tl j hTT d e c=>?_) Z ?_
 ·replace c:=c.pick (os':=[]++[Y B [f,g,H l]]) [0] (by decide) rfl
  obtain ⟨j,d,e,c⟩:=j.frzK hTT d e c
  refine bJ (bp l aD (j.okT hTT c) (d.i e 0 Z) (d.i e 1 Z) (d.i e 3 Z) (d.i e 8 Z)) ?_
  rintro b w ⟨_,rfl,u,z⟩
  obtain ⟨aY,aS,j,d,e,c⟩:=j.l d e c u z rfl
  exact ⟨_,_,⟨b,Z,Z,Z⟩,SfT.mk' j (d.pick [9] Z) (e.pick [9] Z) c⟩
 rintro b x_q y_q ⟨_,rfl,rfl,rfl⟩
 refine gl (fun h v x y=>∃a:Value,∃b:Value,h=[(a,[],[P X a m]),(b,[],[P X b n])]∧v=.agg #[a,b,K false]∧x=[]∧y=[]) [(a,[],[P X a m]),(b,[],[P X b n])] [] [P X a m,P X b n] _ Z Z (fun h v x y=>Z) Z Z Z Z ⟨_,_,_,a,b,Z,Z,Z,Z⟩ (fun w Sl Tl j hTT d e c=>?_) Z ?_
 ·exact ry (bT (vs:=[(0,a,[a]),(1,b,[b])]) (cells:=[a,b,K false]) Z fp ⟨(cz ((d.rp 9 Z).b c.fr).one),(cz ((d.rp 8 Z).b c.fr).one),I⟩ Z) ⟨_,_,⟨a,b,Z,Z,Z,Z⟩,SfT.mk' j Rds.nil Off.nil c⟩
 rintro v_q x_q y_q ⟨u0_20',u0_32',hh,rfl,rfl,rfl⟩
 replace hh:([(a,[],[P X a m]),(b,[],[P X b n])]:List Th)=[(u0_20',[],[P X u0_20' m]),(u0_32',[],[P X u0_32' n])]:=hh
 cases hh
 refine kU (fun h v x y=>∃a:Value,∃b:Value,h=[(a,[],[P X a m]),(b,[],[P X b n])]∧v=undef∧x=[Y C [a,b,K false]]∧y=[P X a m,P X b n]) [(a,[],[P X a m]),(b,[],[P X b n])] [Y C [.slice none 0 0,.slice none 0 0,K false]] [P X a m,P X b n] _ Z Z (fun h v x y=>Z) Z Z Z Z ⟨_,_,_,a,b,Z,Z,Z,Z⟩ (fun w Sl Tl j hTT d e c=>?_) ?_
 ·refine jL (bq (i:=0) (us:=[a,b,K false]) Z cC Z Z Z ⟨((d.rp 9 Z).b c.fr).one,((d.rp 8 Z).b c.fr).one,Z,I⟩ Z c) ?_
  intro w c
  exact ⟨_,_,⟨a,b,Z,Z,Z,Z⟩,SfT.mk' j (d.pick [9,8] Z) (e.pick [9,8] Z) c⟩
 rintro v_q x_q y_q ⟨u0_20',u0_32',hh,rfl,rfl,rfl⟩
 replace hh:([(a,[],[P X a m]),(b,[],[P X b n])]:List Th)=[(u0_20',[],[P X u0_20' m]),(u0_32',[],[P X u0_32' n])]:=hh
 cases hh
 refine dH fun w hQ=>?_
 obtain ⟨a0,aT,j,d,e,c⟩:=hQ
 refine ak<|az ?_
 cases h
 obtain ⟨al,hR⟩:=j.outT hTT d e c
 exact dc Z ⟨_,Z,bM (us:=[a,b,K false]) u33 Z cC (c.p 0 Z Z)⟩ ⟨a,b,Z,al,(hR.pick [8,9] Z)⟩
theorem rc {w0:World} {a1 a2 bj bk bm bn:List UInt32} {aw ay G ab ac ad:Value} {T:List Nat} (a0:Int) (ap aq:Bool) {r:List UInt32×List UInt32×Bool}
  (h:F.HQ a0 a1 a2 bj bk ap bm bn aq=some r) (hTT:TOk [] T w0) (b3:RP T w0 X aw a1) (b4:RP T w0 X ay a2) (bF:RP T w0 X G bj) (bG:RP T w0 X ab bk) (bI:RP T w0 X ac bm) (bJ:RP T w0 X ad bn):Calls Tryz.prog 41 #[H a0,aw,ay,.agg #[G,ab,K ap],.agg #[ac,ad,K aq]] w0 (Ret fun v w=>∃bw:Value,∃bz:Value,v=.agg #[bw,bz,K r.2.2]∧St [] w0 w []∧Rds T w [P X bz r.2.1,P X bw r.1]):=by
 refine aB 73 Tryz.func41 Z Z Z<|have a:=St.k w0;have m:=Fz.k (S:=[]) (w0:=w0);?_
 have hA0:Rds T w0 [P X ad bn,P X ac bm,P X ab bk,P X G bj,P X ay a2,P X aw a1]:=M (RP.h (W Z) bJ) (M (RP.h (W Z) bI) (M (RP.h (W Z) bG) (M (RP.h (W Z) bF) (M (RP.h (W Z) b4) (M (RP.h (W Z) b3) (Rds.nil))))))
 have b:=hA0.all
 have c:=hA0.off Z
 refine ax [(0,H a0),(1,aw),(2,ay),(3,.agg #[G,ab,K ap]),(4,.agg #[ac,ad,K aq])] Z ?_
 unfold F.HQ at h
 refine R<|bh (cu (cs:=[G,ab,K ap]) Z Z a) Z fun bA w a=>bh (cu (cs:=[ac,ad,K aq]) Z Z a) Z fun bB w a=>bh (ba (cs:=[.slice none 0 0,.slice none 0 0,K false]) jk Z a) Z fun ae w a=>gl2<|V 1 Z<|J h fun n bY h=>bH a Z (rm a0 bY ) Z fun z t w a=>bh (ba (cs:=[.slice none 0 0,.slice none 0 0,H 0]) zZ Z a) Z fun A w a=>bl (bq (i:=0) (us:=[z,t,H n.2.2]) Z bV Z Z Z ⟨(a.ro 1 Z).one,(a.ro 2 Z).one,Z,I⟩ Z a) fun w a=>gl2<|N (aP (us:=[G,ab,K ap]) u33 Z cC Z (a.p 5 Z Z)) Z ?_
 replace a:=a.pick (os':=[U X z n.1,U X t n.2.1]++[Y A [z,t,H n.2.2],Y ae [.slice none 0 0,.slice none 0 0,K false],Y bB [ac,ad,K aq],Y bA [G,ab,K ap]]) [1,2,0,3,4,5] (by decide) rfl
 obtain ⟨m,b,c,a⟩:=m.frzK hTT b c a
 refine J h fun ah bK h=>aG Z (nf ap bK (m.okT hTT a) (b.i c 2 Z) (b.i c 3 Z)) Z ?_
 rintro _ w ⟨d,e,f,rfl,ai,am⟩
 obtain ⟨cl,b8,m,b,c,a⟩:=m.l b c a ai am rfl
 refine bh (ba (cs:=[.slice none 0 0,.slice none 0 0,.slice none 0 0]) lZ Z a) Z fun B w a=>bl (bq (i:=0) (us:=[d,e,f]) Z cQ Z Z Z ⟨((b.rp 8 Z).b a.fr).one,((b.rp 9 Z).b a.fr).one,((b.rp 10 Z).b a.fr).one,I⟩ Z a) fun w a=>gl2<|N (aP (us:=[ac,ad,K aq]) u33 Z cC Z (a.p 3 Z Z)) Z ?_
 replace a:=a.pick (os':=[]++[Y B [d,e,f],Y A [z,t,H n.2.2],Y ae [.slice none 0 0,.slice none 0 0,K false],Y bB [ac,ad,K aq],Y bA [G,ab,K ap]]) [0,1,2,3,4] (by decide) rfl
 obtain ⟨m,b,c,a⟩:=m.frzK hTT b c a
 refine J h fun an bL h=>aG Z (nf aq bL (m.okT hTT a) (b.i c 4 Z) (b.i c 5 Z)) Z ?_
 rintro _ w ⟨j,k,l,rfl,ai,am⟩
 obtain ⟨cm,b9,m,b,c,a⟩:=m.l b c a ai am rfl
 refine bh (ba (cs:=[.slice none 0 0,.slice none 0 0,.slice none 0 0]) lZ Z a) Z fun C w a=>bl (bq (i:=0) (us:=[j,k,l]) Z cQ Z Z Z ⟨((b.rp 11 Z).b a.fr).one,((b.rp 12 Z).b a.fr).one,((b.rp 13 Z).b a.fr).one,I⟩ Z a) fun w a=>gl2<|N (aP (us:=[z,t,H n.2.2]) u101 Z bV Z (a.p 2 Z Z)) Z<|N (aP (us:=[d,e,f]) u104 Z cQ Z (a.p 1 Z Z)) Z<|N (aP (us:=[j,k,l]) u104 Z cQ Z (a.p 0 Z Z)) Z ?_
 replace a:=a.pick (os':=[]++[Y C [j,k,l],Y B [d,e,f],Y A [z,t,H n.2.2],Y ae [.slice none 0 0,.slice none 0 0,K false],Y bB [ac,ad,K aq],Y bA [G,ab,K ap]]) [0,1,2,3,4,5] (by decide) rfl
 obtain ⟨m,b,c,a⟩:=m.frzK hTT b c a
 refine J h fun ao bN h=>aG Z (fk n.2.2 bN (m.okT hTT a) (b.i c 7 Z) (b.i c 6 Z) (b.i c 8 Z) (b.i c 9 Z) (b.i c 10 Z) (b.i c 11 Z) (b.i c 12 Z) (b.i c 13 Z)) Z ?_
 rintro _ w ⟨o,p,q,rfl,ai,am⟩
 obtain ⟨cn,ca,m,b,c,a⟩:=m.l b c a ai am rfl
 refine bh (ba (cs:=[.slice none 0 0,.slice none 0 0,.slice none 0 0]) lZ Z a) Z fun D w a=>bl (bq (i:=0) (us:=[o,p,q]) Z cQ Z Z Z ⟨((b.rp 14 Z).b a.fr).one,((b.rp 15 Z).b a.fr).one,((b.rp 16 Z).b a.fr).one,I⟩ Z a) fun w a=>gl2<|bh (ba (cs:=[.slice none 0 0,.slice none 0 0,.slice none 0 0]) lZ Z a) Z fun E w a=>gl1<|R<|V 1 Z<|N (aC u31 Z ((b.rp 0 Z).b a.fr)) Z<|V 1 Z<|N (aC u31 Z ((b.rp 1 Z).b a.fr)) Z<|N (kR Z Z) Z<|N (aj Z Z (dR _ 32 (max (a1.length:Int) (a2.length:Int)))) Z<|V 1 Z<|a7 h fun bo bO h=>N (a9 (v:=H bo) (by rw [←bO]; rfl)) Z<|Q<|ar<|ax [(1,aw),(2,ay),(10,O ae 0),(11,O A 0),(12,O B 0),(13,O C 0),(14,O D 0),(15,O E 0),(16,H bo)] Z ?_
 refine aT (F.Fi a1 a2 n ah an ao) (fun (s:Int×List UInt32×List UInt32×List UInt32) L w=>∃(aD:Value) (aJ:Value) (aK:Value),L=[(1,aw),(2,ay),(10,O ae 0),(11,O A 0),(12,O B 0),(13,O C 0),(14,O D 0),(15,O E 0),(16,H s.1)]∧SfT [] T w0 w [P X aK s.2.2.2,P X aJ s.2.2.1,P X aD s.2.1,P X q ao.2.2,P X p ao.2.1,P X o ao.1,P X l an.2.2,P X k an.2.1,P X j an.1,P X f ah.2.2,P X e ah.2.1,P X d ah.1,P X t n.2.1,P X z n.1,P X ay a2,P X aw a1] [Y ae [.slice none 0 0,.slice none 0 0,K false],Y A [z,t,H n.2.2],Y B [d,e,f],Y C [j,k,l],Y D [o,p,q],Y E [aD,aJ,aK]]) ?_ (bo,[],[],[]) ⟨.slice none 0 0,.slice none 0 0,.slice none 0 0,Z,(SfT.mk' m (M OE.kept.nil (M OE.kept.nil (M OE.kept.nil (b.pick [16,15,14,13,12,11,10,9,8,6,7,1,0] Z)))) (Off.cons Off.nilrd (Off.cons Off.nilrd (Off.cons Off.nilrd (c.pick [16,15,14,13,12,11,10,9,8,6,7,1,0] Z)))) (a.d [5,4,3,2,1,0] Z Z))⟩ h
 rintro cb ⟨aM,co,cp,cq⟩ L w bC hI bP h bu
 try dsimp only at hI
 obtain ⟨aD,aJ,aK,rfl,⟨cr,cc,m,b,c,a⟩⟩:=hI
 unfold F.Fi at h
 refine av<|R<|V 2 Z<|Q ?_
 refine gl9 Z h (fun h=>?_) (fun h=>?_)
 ·refine gl5 ?_
  refine aZ (r:=bC) (fun (g:List UInt32×List UInt32×List UInt32) L w=>∃(be:Value) (bg:Value) (bi:Value),L=[(1,aw),(2,ay),(10,O ae 0),(11,O A 0),(12,O B 0),(13,O C 0),(14,O D 0),(15,O E 0),(16,H aM)]∧SfT [] T w0 w [P X bi g.2.2,P X bg g.2.1,P X be g.1,P X q ao.2.2,P X p ao.2.1,P X o ao.1,P X l an.2.2,P X k an.2.1,P X j an.1,P X f ah.2.2,P X e ah.2.1,P X d ah.1,P X t n.2.1,P X z n.1,P X ay a2,P X aw a1] [Y ae [.slice none 0 0,.slice none 0 0,K false],Y A [z,t,H n.2.2],Y B [d,e,f],Y C [j,k,l],Y D [o,p,q],Y E [be,bg,bi]]) (F.EX aM) ?_ ?_
  rotate_left
  ·intro aU
   refine ar<|R<|N (aP (us:=[z,t,H n.2.2]) u101 Z bV Z (a.p 1 Z Z)) Z<|N (aP (us:=[aD,aJ,aK]) u104 Z cQ Z (a.p 5 Z Z)) Z ?_
   replace a:=a.pick (os':=[]++[Y ae [.slice none 0 0,.slice none 0 0,K false],Y A [z,t,H n.2.2],Y B [d,e,f],Y C [j,k,l],Y D [o,p,q],Y E [aD,aJ,aK]]) [0,1,2,3,4,5] (by decide) rfl
   obtain ⟨m,b,c,a⟩:=m.frzK hTT b c a
   refine J h fun aN bQ h=>aG Z (iE n.2.2 bQ (m.okT hTT a) (b.i c 2 Z) (b.i c 3 Z) (b.i c 13 Z) (b.i c 14 Z) (b.i c 15 Z)) Z ?_
   rintro _ w ⟨u,x,y,rfl,ai,am⟩
   obtain ⟨ct,ce,m,b,c,a⟩:=m.l b c a ai am rfl
   refine bl (bq (i:=5) (us:=[u,x,y]) Z cQ Z Z Z ⟨((b.rp 16 Z).b a.fr).one,((b.rp 17 Z).b a.fr).one,((b.rp 18 Z).b a.fr).one,I⟩ Z a) fun w a=>gl2<|V 2 Z<|J h fun bZ bR h=>bc a Z (jB aM bR ((b.rp 0 Z).b a.fr).rp) Z fun w a=>V 1 Z<|gl2<|V 2 Z<|J h fun bp bS h=>bc a Z (jB aM bS ((b.rp 1 Z).b a.fr).rp) Z fun w a=>V 1 Z<|Q<|ar ?_
   refine aZ (r:=bC) (fun (g:Bool×Bool) L w=>L=[(1,aw),(2,ay),(10,O ae 0),(11,O A 0),(12,O B 0),(13,O C 0),(14,O D 0),(15,O E 0),(16,H aM),(17,K g.1),(18,K bp),(49,K g.2)]∧SfT [] T w0 w [P X y aN.2.2,P X x aN.2.1,P X u aN.1,P X q ao.2.2,P X p ao.2.1,P X o ao.1,P X l an.2.2,P X k an.2.1,P X j an.1,P X f ah.2.2,P X e ah.2.1,P X d ah.1,P X t n.2.1,P X z n.1,P X ay a2,P X aw a1] [Y ae [.slice none 0 0,.slice none 0 0,K false],Y A [z,t,H n.2.2],Y B [d,e,f],Y C [j,k,l],Y D [o,p,q],Y E [u,x,y]]) (F.H1 n ah an ao aN bp aM) ?_ ?_
   rotate_left
   ·intro bv
    refine al<|V 2 Z ?_
    cases aV:bZ
    case true=>
     have h:=cH h aV
     try simp only [aV]
     exact V 3 Z<|Q<|aH (bv (true,bp) _ _ ⟨Z,(SfT.mk' m (b.pick [18,17,16,12,11,10,9,8,7,6,5,4,3,2,1,0] Z) (c.pick [18,17,16,12,11,10,9,8,7,6,5,4,3,2,1,0] Z) a)⟩ h) Z
    case false=>
     have h:=cI h aV
     try simp only [aV]
     exact V 3 Z<|Q<|aH (bv (false,false) _ _ ⟨Z,(SfT.mk' m (b.pick [18,17,16,12,11,10,9,8,7,6,5,4,3,2,1,0] Z) (c.pick [18,17,16,12,11,10,9,8,7,6,5,4,3,2,1,0] Z) a)⟩ h) Z
   rintro ⟨cv,cw⟩ L w hJ h
   try dsimp only at hJ
   obtain ⟨rfl,⟨cx,cf,m,b,c,a⟩⟩:=hJ
   unfold F.H1 at h
   refine gl9 Z h (fun h=>?_) (fun h=>?_)
   ·refine al<|N (aP (us:=[z,t,H n.2.2]) u101 Z bV Z (a.p 1 Z Z)) Z<|N (aP (us:=[u,x,y]) u104 Z cQ Z (a.p 5 Z Z)) Z<|N (aP (us:=[o,p,q]) u104 Z cQ Z (a.p 4 Z Z)) Z ?_
    replace a:=a.pick (os':=[]++[Y ae [.slice none 0 0,.slice none 0 0,K false],Y A [z,t,H n.2.2],Y B [d,e,f],Y C [j,k,l],Y D [o,p,q],Y E [u,x,y]]) [0,1,2,3,4,5] (by decide) rfl
    obtain ⟨m,b,c,a⟩:=m.frzK hTT b c a
    refine J h fun br bT h=>aG Z (fk n.2.2 bT (m.okT hTT a) (b.i c 2 Z) (b.i c 3 Z) (b.i c 13 Z) (b.i c 14 Z) (b.i c 15 Z) (b.i c 10 Z) (b.i c 11 Z) (b.i c 12 Z)) Z ?_
    rintro _ w ⟨aW,aX,aY,rfl,ai,am⟩
    obtain ⟨cy,cg,m,b,c,a⟩:=m.l b c a ai am rfl
    refine bl (bq (i:=5) (us:=[aW,aX,aY]) Z cQ Z Z Z ⟨((b.rp 16 Z).b a.fr).one,((b.rp 17 Z).b a.fr).one,((b.rp 18 Z).b a.fr).one,I⟩ Z a) fun w a=>aE<|aF<|aF<|ak ?_
    exact aH (aU (br.1,br.2.1,br.2.2) _ _ ⟨aW,aX,aY,Z,(SfT.mk' m (b.pick [18,17,16,12,11,10,9,8,7,6,5,4,3,2,1,0] Z) (c.pick [18,17,16,12,11,10,9,8,7,6,5,4,3,2,1,0] Z) a)⟩ h) Z
   refine R<|V 2 Z<|Q ?_
   refine gl9 Z h (fun h=>?_) (fun h=>?_)
   ·refine al<|N (aP (us:=[z,t,H n.2.2]) u101 Z bV Z (a.p 1 Z Z)) Z<|N (aP (us:=[u,x,y]) u104 Z cQ Z (a.p 5 Z Z)) Z<|N (aP (us:=[d,e,f]) u104 Z cQ Z (a.p 2 Z Z)) Z ?_
    replace a:=a.pick (os':=[]++[Y ae [.slice none 0 0,.slice none 0 0,K false],Y A [z,t,H n.2.2],Y B [d,e,f],Y C [j,k,l],Y D [o,p,q],Y E [u,x,y]]) [0,1,2,3,4,5] (by decide) rfl
    obtain ⟨m,b,c,a⟩:=m.frzK hTT b c a
    refine J h fun bs bU h=>aG Z (fk n.2.2 bU (m.okT hTT a) (b.i c 2 Z) (b.i c 3 Z) (b.i c 13 Z) (b.i c 14 Z) (b.i c 15 Z) (b.i c 4 Z) (b.i c 5 Z) (b.i c 6 Z)) Z ?_
    rintro _ w ⟨a3,a4,a5,rfl,ai,am⟩
    obtain ⟨cz,ch,m,b,c,a⟩:=m.l b c a ai am rfl
    refine bl (bq (i:=5) (us:=[a3,a4,a5]) Z cQ Z Z Z ⟨((b.rp 16 Z).b a.fr).one,((b.rp 17 Z).b a.fr).one,((b.rp 18 Z).b a.fr).one,I⟩ Z a) fun w a=>aE<|aF<|aF<|ak ?_
    exact aH (aU (bs.1,bs.2.1,bs.2.2) _ _ ⟨a3,a4,a5,Z,(SfT.mk' m (b.pick [18,17,16,12,11,10,9,8,7,6,5,4,3,2,1,0] Z) (c.pick [18,17,16,12,11,10,9,8,7,6,5,4,3,2,1,0] Z) a)⟩ h) Z
   refine R<|V 2 Z<|Q ?_
   refine gl9 Z h (fun h=>?_) (fun h=>?_)
   ·refine al<|N (aP (us:=[z,t,H n.2.2]) u101 Z bV Z (a.p 1 Z Z)) Z<|N (aP (us:=[u,x,y]) u104 Z cQ Z (a.p 5 Z Z)) Z<|N (aP (us:=[j,k,l]) u104 Z cQ Z (a.p 3 Z Z)) Z ?_
    replace a:=a.pick (os':=[]++[Y ae [.slice none 0 0,.slice none 0 0,K false],Y A [z,t,H n.2.2],Y B [d,e,f],Y C [j,k,l],Y D [o,p,q],Y E [u,x,y]]) [0,1,2,3,4,5] (by decide) rfl
    obtain ⟨m,b,c,a⟩:=m.frzK hTT b c a
    refine J h fun bt bW h=>aG Z (fk n.2.2 bW (m.okT hTT a) (b.i c 2 Z) (b.i c 3 Z) (b.i c 13 Z) (b.i c 14 Z) (b.i c 15 Z) (b.i c 7 Z) (b.i c 8 Z) (b.i c 9 Z)) Z ?_
    rintro _ w ⟨a6,a8,bb,rfl,ai,am⟩
    obtain ⟨cA,ci,m,b,c,a⟩:=m.l b c a ai am rfl
    refine bl (bq (i:=5) (us:=[a6,a8,bb]) Z cQ Z Z Z ⟨((b.rp 16 Z).b a.fr).one,((b.rp 17 Z).b a.fr).one,((b.rp 18 Z).b a.fr).one,I⟩ Z a) fun w a=>aE<|aF<|aF<|ak ?_
    exact aH (aU (bt.1,bt.2.1,bt.2.2) _ _ ⟨a6,a8,bb,Z,(SfT.mk' m (b.pick [18,17,16,12,11,10,9,8,7,6,5,4,3,2,1,0] Z) (c.pick [18,17,16,12,11,10,9,8,7,6,5,4,3,2,1,0] Z) a)⟩ h) Z
   exact cd<|aF<|aF<|ak<|aH (aU (aN.1,aN.2.1,aN.2.2) _ _ ⟨u,x,y,Z,(SfT.mk' m (b.pick [15,14,13,12,11,10,9,8,7,6,5,4,3,2,1,0] Z) (c.pick [15,14,13,12,11,10,9,8,7,6,5,4,3,2,1,0] Z) a)⟩ h) Z
  rintro ⟨b0,b1,b2⟩ L w hJ h
  try dsimp only at hJ
  obtain ⟨be,bg,bi,rfl,⟨cB,cj,m,b,c,a⟩⟩:=hJ
  unfold F.EX at h
  exact al<|V 3 Z<|aE<|bf (bd (bP (wI (aM - 1),b0,b1,b2) _ _ ⟨be,bg,bi,Z,(SfT.mk' m (b.pick [15,14,13,12,11,10,9,8,7,6,5,4,3,2,1,0] Z) (c.pick [15,14,13,12,11,10,9,8,7,6,5,4,3,2,1,0] Z) a)⟩ (aL h bu)) Z)
 refine aQ<|au<|au<|have h:=aI h bu;aR<|ak<|R<|N (aP (us:=[z,t,H n.2.2]) u101 Z bV Z (a.p 1 Z Z)) Z<|N (aP (us:=[aD,aJ,aK]) u104 Z cQ Z (a.p 5 Z Z)) Z ?_
 replace a:=a.pick (os':=[]++[Y ae [.slice none 0 0,.slice none 0 0,K false],Y A [z,t,H n.2.2],Y B [d,e,f],Y C [j,k,l],Y D [o,p,q],Y E [aD,aJ,aK]]) [0,1,2,3,4,5] (by decide) rfl
 obtain ⟨m,b,c,a⟩:=m.frzK hTT b c a
 refine J h fun bE bX h=>aG Z (mr n.2.2 bX (m.okT hTT a) (b.i c 2 Z) (b.i c 3 Z) (b.i c 13 Z) (b.i c 14 Z) (b.i c 15 Z)) Z ?_
 rintro _ w ⟨aO,aS,rfl,ai,am⟩
 obtain ⟨ck,b6,m,b,c,a⟩:=m.l b c a ai am rfl
 refine bl (bq (i:=0) (us:=[aO,aS,K bE.2.2]) Z cC Z Z Z ⟨((b.rp 16 Z).b a.fr).one,((b.rp 17 Z).b a.fr).one,Z,I⟩ Z a) fun w a=>Q<|az ?_
 cases h
 obtain ⟨b7,hR⟩:=m.outT hTT b c a
 exact dc Z ⟨_,Z,bM (us:=[aO,aS,K bE.2.2]) u33 Z cC (a.p 0 Z Z)⟩ ⟨aO,aS,Z,b7,(hR.pick [17,16] Z)⟩
theorem tC {e:World} {f g a1 a2:List UInt32} {b c i j:Value} (d:Bool) {r:Bool}
  (h:F.GN f g d a1 a2=some r) (l:RP [] e X b f) (q:RP [] e X c g) (o:RP [] e X i a1) (p:RP [] e X j a2):Calls Tryz.prog 37 #[.agg #[b,c,K d],i,j] e (Ret fun v w=>v=K r∧St [] e w []):=by
 refine aB 22 Tryz.func37 Z Z Z<|have a:=St.k e;ax [(0,.agg #[b,c,K d]),(1,i),(2,j)] Z ?_
 unfold F.GN at h
 refine R<|bh (cu (cs:=[b,c,K d]) Z Z a) Z fun s w a=>V 1 Z<|gl1<|R<|N (ao (k:=2) u33 Z Z nz4 Z) Z<|N (aw Tryz.underlying4 Z Z (a.q 0 Z 2)) Z<|Q ?_
 refine gl9 Z h (fun h=>?_) (fun h=>?_)
 ·refine R<|V 1 Z<|gl8 ?_
  cases h
  exact ay Z Z ⟨Z,a.d [] Z Z⟩
 refine gl6<|N (ao (k:=0) u33 Z Z cZ Z) Z<|N (aw u31 Z Z (a.q 0 Z 0)) Z<|V 1 Z<|J h fun t m h=>bH a Z (gI  m (l.b a.fr).rp (p.b a.fr).rp) Z fun u x w a=>V 5 Z<|gl2<|V 2 Z<|J h fun y n h=>bc a Z (fi  n (a.ro 1 Z).rp (o.b a.fr).rp) Z fun w a=>V 2 Z<|Q<|az ?_
 cases h
 exact ay Z Z ⟨Z,a.d [] Z Z⟩
theorem rq {E:World} {a1 a2 a3 u z:List UInt32} {ad B ae f j:Value} (a0:Int) (o:Bool) {r:Bool}
  (h:F.Im a0 a1 a2 a3 u z o=some r) (aO:RP [] E X ad a1) (aQ:RP [] E X B a2) (aR:RP [] E X ae a3) (au:RP [] E X f u) (aw:RP [] E X j z):Calls Tryz.prog 28 #[H a0,ad,B,ae,.agg #[f,j,K o]] E (Ret fun v w=>v=K r∧St [] E w []):=by
 refine aB 72 Tryz.func28 Z Z Z<|have c:=St.k E;have m:=Fz.k (S:=[]) (w0:=E);?_
 have hTT:TOk [] [] E:=TOk.nil
 have e:Rds [] E [P X j z,P X f u,P X ae a3,P X B a2,P X ad a1]:=M (RP.h (W Z) aw) (M (RP.h (W Z) au) (M (RP.h (W Z) aR) (M (RP.h (W Z) aQ) (M (RP.h (W Z) aO) (Rds.nil)))))
 have n:Off [] [P X j z,P X f u,P X ae a3,P X B a2,P X ad a1]:=Off.emp
 refine ax [(0,H a0),(1,ad),(2,B),(3,ae),(4,.agg #[f,j,K o])] Z ?_
 unfold F.Im at h
 refine R<|bh (cu (cs:=[f,j,K o]) Z Z c) Z fun A w c=>V 1 Z<|gl2<|V 1 Z<|J h fun ah aJ h=>aU c Z (rf a0 aJ ) Z fun ai w c=>V 1 Z<|gl1 ?_
 refine aZ (r:=r) (fun (g:Bool) L w=>L=[(0,H a0),(1,ad),(2,B),(3,ae),(9,O A 0),(11,ai),(30,K g)]∧SfT [] [] E w [P X j z,P X f u,P X ai ah,P X ae a3,P X B a2,P X ad a1] [Y A [f,j,K o]]) (F.GT a1 a2 a3 ah a0 u z o) ?_ ?_
 rotate_left
 ·intro aq
  refine al<|V 2 Z<|J h fun aS aK h=>bc c Z (k6  aK ((e.rp 1 Z).b c.fr).rp (c.ro 0 Z).rp) Z fun w c=>V 2 Z ?_
  cases aj:(!aS)
  case true=>
   have h:=cH h aj
   try simp only [aj]
   refine V 5 Z<|Q ?_
   replace c:=c.pick (os':=[U X ai ah]++[Y A [f,j,K o]]) [0,1] (by decide) rfl
   obtain ⟨bp,a8,m,e,n,c⟩:=m.frzT hTT e n c
   exact aH (aq true _ _ ⟨Z,(SfT.mk' m (e.pick [4,3,5,2,1,0] Z) (n.pick [4,3,5,2,1,0] Z) c)⟩ h) Z
  case false=>
   have h:=cI h aj
   try simp only [aj]
   refine V 2 Z<|J h fun aL aA h=>cR (t:=25) Z Z (by kernel_rfl) Z (k6  aA ((e.rp 2 Z).b c.fr).rp (c.ro 0 Z).rp) Z ?_
   rintro _ w ⟨rfl,ao⟩
   have c:=c.e ao
   refine V 2 Z<|Q ?_
   replace c:=c.pick (os':=[U X ai ah]++[Y A [f,j,K o]]) [0,1] (by decide) rfl
   obtain ⟨a9,aV,m,e,n,c⟩:=m.frzT hTT e n c
   exact aH (aq (!aL) _ _ ⟨Z,(SfT.mk' m (e.pick [4,3,5,2,1,0] Z) (n.pick [4,3,5,2,1,0] Z) c)⟩ h) Z
 rintro bb L w hJ h
 try dsimp only at hJ
 obtain ⟨rfl,⟨bd,aW,m,e,n,c⟩⟩:=hJ
 unfold F.GT at h
 refine gl9 Z h (fun h=>?_) (fun h=>?_)
 ·refine R<|V 1 Z<|gl8 ?_
  cases h
  replace c:=m.st c
  exact ay Z Z ⟨Z,c.d [] Z Z⟩
 refine gl6<|V 2 Z<|J h fun am aC h=>eW c Z (vQ  aC ((e.rp 2 Z).b c.fr).rp ((e.rp 3 Z).b c.fr).rp) Z fun ap w c=>V 5 Z<|gl2<|V 3 Z<|J h fun C aD h=>eW c Z (lg  aD ((e.rp 0 Z).b c.fr).rp (c.ro 0 Z).rp ((e.rp 3 Z).b c.fr).rp) Z fun G w c=>V 5 Z<|gl2<|V 3 Z<|J h fun D aE h=>eW c Z (lg  aE ((e.rp 1 Z).b c.fr).rp (c.ro 1 Z).rp ((e.rp 3 Z).b c.fr).rp) Z fun T w c=>V 5 Z<|gl1 ?_
 refine aZ (r:=r) (fun (g:Bool) L w=>L=[(0,H a0),(2,B),(9,O A 0),(11,ai),(14,G),(16,T),(60,K g)]∧SfT [] [] E w [P X j z,P X f u,P X T D.1,P X G C.1,P X ai ah,P X B a2] [Y A [f,j,K o]]) (F.EI a0 a2 u z o ah C D) ?_ ?_
 rotate_left
 ·intro an
  refine al<|V 3 Z ?_
  cases ab:(am.2 != 0)
  case true=>
   have h:=cH h ab
   try simp only [ab]
   refine V 7 Z<|Q ?_
   replace c:=c.pick (os':=[U X T D.1,U X G C.1,U X ap am.1]++[Y A [f,j,K o]]) [0,1,2,3] (by decide) rfl
   obtain ⟨be,aX,m,e,n,c⟩:=m.frzT hTT e n c
   exact aH (an true _ _ ⟨Z,(SfT.mk' m (e.pick [5,4,8,7,3,1] Z) (n.pick [5,4,8,7,3,1] Z) c)⟩ h) Z
  case false=>
   have h:=cI h ab
   try simp only [ab]
   refine V 4 Z ?_
   cases ac:(C.2 != 0)
   case true=>
    have h:=cH h ac
    try simp only [ac]
    refine V 3 Z<|Q ?_
    replace c:=c.pick (os':=[U X T D.1,U X G C.1,U X ap am.1]++[Y A [f,j,K o]]) [0,1,2,3] (by decide) rfl
    obtain ⟨bf,aY,m,e,n,c⟩:=m.frzT hTT e n c
    exact aH (an true _ _ ⟨Z,(SfT.mk' m (e.pick [5,4,8,7,3,1] Z) (n.pick [5,4,8,7,3,1] Z) c)⟩ h) Z
   case false=>
    have h:=cI h ac
    try simp only [ac]
    refine V 3 Z<|Q ?_
    replace c:=c.pick (os':=[U X T D.1,U X G C.1,U X ap am.1]++[Y A [f,j,K o]]) [0,1,2,3] (by decide) rfl
    obtain ⟨bg,a4,m,e,n,c⟩:=m.frzT hTT e n c
    exact aH (an (D.2 != 0) _ _ ⟨Z,(SfT.mk' m (e.pick [5,4,8,7,3,1] Z) (n.pick [5,4,8,7,3,1] Z) c)⟩ h) Z
 rintro bi L w hJ h
 try dsimp only at hJ
 obtain ⟨rfl,⟨bj,a5,m,e,n,c⟩⟩:=hJ
 unfold F.EI at h
 refine gl9 Z h (fun h=>?_) (fun h=>?_)
 ·refine R<|V 1 Z<|gl8 ?_
  cases h
  replace c:=m.st c
  exact ay Z Z ⟨Z,c.d [] Z Z⟩
 refine gl5<|av<|J h fun p aF h=>J h fun d aG h=>cO (es:=[P X j z,P X f u,P X T D.1,P X G C.1,P X ai ah,P X B a2]) (os:=[Y A [f,j,K o]]) (fun i=>[4,6,7,8].contains i) (fun i=>if i=4 then some 6 else if i=7 then some 8 else none) (fun i=>if i=8 then [6] else []) (fun i=>[]) (fun i=>[]) (fun i=>if i=8 then [6,7] else []) (fun i=>if i=4 then (fun h v x y=>∃q:Value,∃s:Value,v=.agg #[q,s,K p.2.2]∧x=[U X q p.1,U X s p.2.1]∧y=[]) else if i=6 then (fun h v x y=>∃a:Value,∃b:Value,v=.agg #[a,b,K d.2.2]∧x=[]∧y=[P X a d.1,P X b d.2.1]) else if i=7 then (fun h v x y=>∃l:Nat,v=O l 0∧x=[Y l [.slice none 0 0,.slice none 0 0,K false]]∧y=[]) else (fun h v x y=>∃l:Nat,∃a:Value,∃b:Value,h=[(.agg #[a,b,K d.2.2],[],[P X a d.1,P X b d.2.1]),(O l 0,[Y l [.slice none 0 0,.slice none 0 0,K false]],[])]∧v=undef∧x=[Y l [a,b,K d.2.2]]∧y=[P X a d.1,P X b d.2.1])) (SfT.mk' m e n c) (fun k hk=>rfl) hTT rfl (fun i=>(cl (by rintro h v x y ⟨_,_,rfl,rfl,rfl⟩; exact bQ rfl) (cl (by rintro h v x y ⟨_,_,rfl,rfl,rfl⟩; exact bQ rfl) (cl (by rintro h v x y ⟨_,rfl,rfl,rfl⟩; exact bQ rfl) (by rintro h v x y ⟨_,_,_,_,rfl,rfl,rfl⟩; exact bQ rfl))))) bR (by kernel_rfl) (by kernel_rfl) ?_
 show dY _ _ _ _ _ _ _ _ _ _ _ _ _ _ _ _ [0,1,2,3,4,5,6,7,8] _ _
 refine bP 4 Z ?_
 refine bK (fun h v x y=>∃q:Value,∃s:Value,v=.agg #[q,s,K p.2.2]∧x=[U X q p.1,U X s p.2.1]∧y=[]) [] [] [] _ Z Z (fun h v x y=>Z) Z Z Z Z ⟨_,_,_,undef,undef,Z,Z,Z⟩ (by kernel_rfl) Z (fun w Sl Tl m hTT e n c=>?_) Z ?_
 ·refine bJ (rY a0 aF ) ?_
  rintro _ w ⟨q,s,rfl,ao⟩
  have c:=c.e ao
  exact ⟨_,_,⟨q,s,Z,Z,Z⟩,SfT.mk' m Rds.nil Off.nil c⟩
 rintro v_q x_q y_q ⟨q,s,rfl,rfl,rfl⟩
 refine bz Z Z (fun w Sb wb m e n hF=>aP (us:=[f,j,K o]) u33 Z cC Z (hF.p 0 Z Z)) Z ?_
 refine bK (fun h v x y=>∃a:Value,∃b:Value,v=.agg #[a,b,K d.2.2]∧x=[]∧y=[P X a d.1,P X b d.2.1]) [] [U X q p.1,U X s p.2.1] [] _ Z Z (fun h v x y=>Z) Z Z Z Z ⟨_,_,_,undef,undef,Z,Z,Z⟩ (by kernel_rfl) Z (fun w Sl Tl m hTT e n c=>?_) Z ?_
 ·replace c:=c.pick (os':=[U X q p.1,U X s p.2.1]++[Y A [f,j,K o]]) [0,1,2] (by decide) rfl
  obtain ⟨m,e,n,c⟩:=m.frzK hTT e n c
  refine bJ (rc a0 p.2.2 o aG (m.okT hTT c) (e.i n 2 Z) (e.i n 3 Z) (e.i n 7 Z) (e.i n 6 Z) (e.i n 4 Z) (e.i n 5 Z)) ?_
  rintro _ w ⟨a,b,rfl,ao,aT⟩
  obtain ⟨bl,a6,m,e,n,c⟩:=m.l e n c ao aT rfl
  exact ⟨_,_,⟨a,b,Z,Z,Z⟩,SfT.mk' m (e.pick [8,9] Z) (n.pick [8,9] Z) c⟩
 rintro v_q x_q y_q ⟨a,b,rfl,rfl,rfl⟩
 refine gl (fun h v x y=>∃l:Nat,v=O l 0∧x=[Y l [.slice none 0 0,.slice none 0 0,K false]]∧y=[]) [] [] [] _ Z Z (fun h v x y=>Z) Z Z Z Z ⟨_,_,_,0,Z,Z,Z⟩ (fun w Sl Tl m hTT e n c=>?_) Z ?_
 ·refine nG (ba (cs:=[.slice none 0 0,.slice none 0 0,K false]) jk Z c) ?_
  rintro _ w ⟨l,rfl,c⟩
  exact ⟨_,_,⟨l,Z,Z,Z⟩,SfT.mk' m Rds.nil Off.nil c⟩
 rintro v_q x_q y_q ⟨l,rfl,rfl,rfl⟩
 refine kU (fun h v x y=>∃l:Nat,∃a:Value,∃b:Value,h=[(.agg #[a,b,K d.2.2],[],[P X a d.1,P X b d.2.1]),(O l 0,[Y l [.slice none 0 0,.slice none 0 0,K false]],[])]∧v=undef∧x=[Y l [a,b,K d.2.2]]∧y=[P X a d.1,P X b d.2.1]) [(.agg #[a,b,K d.2.2],[],[P X a d.1,P X b d.2.1]),(O l 0,[Y l [.slice none 0 0,.slice none 0 0,K false]],[])] [Y l [.slice none 0 0,.slice none 0 0,K false]] [P X a d.1,P X b d.2.1] _ Z Z (fun h v x y=>Z) Z Z Z Z ⟨_,_,_,l,a,b,Z,Z,Z,Z⟩ (fun w Sl Tl m hTT e n c=>?_) ?_
 ·refine jL (bq (i:=0) (us:=[a,b,K d.2.2]) Z cC Z Z Z ⟨((e.rp 7 Z).b c.fr).one,((e.rp 6 Z).b c.fr).one,Z,I⟩ Z c) ?_
  intro w c
  exact ⟨_,_,⟨l,a,b,Z,Z,Z,Z⟩,SfT.mk' m (e.pick [7,6] Z) (n.pick [7,6] Z) c⟩
 rintro v_q x_q y_q ⟨b_49',u0_44_0',u0_44_1',hh,rfl,rfl,rfl⟩
 replace hh:([(.agg #[a,b,K d.2.2],[],[P X a d.1,P X b d.2.1]),(O l 0,[Y l [.slice none 0 0,.slice none 0 0,K false]],[])]:List Th)=[(.agg #[u0_44_0',u0_44_1',K d.2.2],[],[P X u0_44_0' d.1,P X u0_44_1' d.2.1]),(O b_49' 0,[Y b_49' [.slice none 0 0,.slice none 0 0,K false]],[])]:=hh
 cases hh
 refine dH fun w hQ=>?_
 obtain ⟨bn,a7,m,e,n,c⟩:=hQ
 refine ak<|R<|N (aP (us:=[a,b,K d.2.2]) u33 Z cC Z (c.p 0 Z Z)) Z<|V 2 Z<|J h fun bo aI h=>bc c Z (tC d.2.2 aI ((e.rp 7 Z).b c.fr).rp ((e.rp 6 Z).b c.fr).rp ((e.rp 0 Z).b c.fr).rp ((e.rp 1 Z).b c.fr).rp) Z fun w c=>V 1 Z<|Q<|az ?_
 cases h
 replace c:=m.st c
 exact ay Z Z ⟨Z,c.d [] Z Z⟩
theorem kZ {l:World} {a2 a3 a4 a5:List UInt8} {x y o p:Value} (a0 a1:Int) {r:Int}
  (h:F.GV a0 a1 a2 a3 a4 a5=some r) (hT:TB [] l) (aE:RP [] l e8 x a2) (aF:RP [] l e8 y a3) (aG:RP [] l e8 o a4) (aI:RP [] l e8 p a5):Calls Tryz.prog 7 #[H a0,H a1,x,y,o,p] l (Ret fun v w=>v=H r∧St [] l w []):=by
 refine aB 57 Tryz.func7 Z Z Z<|have a:=St.k l;have e:=Fz.k (S:=[]) (w0:=l);?_
 have hTT:TOk [] [] l:=TOk.nil
 have d:Rds [] l [P e8 p a5,P e8 o a4,P e8 y a3,P e8 x a2]:=M (RP.h (W Z) aI) (M (RP.h (W Z) aG) (M (RP.h (W Z) aF) (M (RP.h (W Z) aE) (Rds.nil))))
 have s:Off [] [P e8 p a5,P e8 o a4,P e8 y a3,P e8 x a2]:=Off.emp
 refine ax [(0,H a0),(1,H a1),(2,x),(3,y),(4,o),(5,p)] Z ?_
 unfold F.GV at h
 refine R<|V 1 Z<|gl1<|R<|V 1 Z<|J h fun aY N h=>bc a Z (tW a0 N ) Z fun w a=>V 1 Z<|Q ?_
 refine gl9 Z h (fun h=>?_) (fun h=>?_)
 ·refine R<|V 1 Z<|gl8 ?_
  cases h
  replace a:=e.st a
  exact ay Z Z ⟨Z,a⟩
 refine gl6<|V 1 Z<|J h fun z ah h=>bc a Z (eY a1 ah ) Z fun w a=>V 1 Z<|gl2<|V 3 Z<|J h fun c am h=>bH a Z (qu a1 am ((d.rp 0 Z).b a.fr).rp ((d.rp 1 Z).b a.fr).rp) Z fun j k w a=>V 3 Z<|bh (ba (cs:=[.slice none 0 0,.slice none 0 0,K false]) jk Z a) Z fun u w a=>bl (bq (i:=0) (us:=[j,k,K c.2.2.1]) Z cC Z Z Z ⟨(a.ro 1 Z).one,(a.ro 2 Z).one,Z,I⟩ Z a) fun w a=>V 1 Z<|gl1 ?_
 refine aZ (r:=r) (fun (g:Bool) L w=>L=[(0,H a0),(1,H a1),(4,o),(5,p),(13,H z),(14,O u 0),(33,K g)]∧SfT [] [] l w [P X k c.2.1,P X j c.1,P e8 p a5,P e8 o a4] [Y u [j,k,K c.2.2.1]]) (F.Gj a0 a1 a4 a5 z c) ?_ ?_
 rotate_left
 ·intro A
  refine al<|V 3 Z ?_
  cases m:(z == 0)
  case true=>
   have h:=cH h m
   try simp only [m]
   refine V 3 Z<|Q ?_
   replace a:=a.pick (os':=[U X j c.1,U X k c.2.1]++[Y u [j,k,K c.2.2.1]]) [1,2,0] (by decide) rfl
   obtain ⟨aO,aJ,e,d,s,a⟩:=e.frzT hTT d s a
   exact aH (A true _ _ ⟨Z,(SfT.mk' e (d.pick [4,5,3,2] Z) (s.pick [4,5,3,2] Z) a)⟩ h) Z
  case false=>
   have h:=cI h m
   try simp only [m]
   refine V 3 Z<|Q ?_
   replace a:=a.pick (os':=[U X j c.1,U X k c.2.1]++[Y u [j,k,K c.2.2.1]]) [1,2,0] (by decide) rfl
   obtain ⟨aQ,aK,e,d,s,a⟩:=e.frzT hTT d s a
   exact aH (A (c.2.2.2 != 0) _ _ ⟨Z,(SfT.mk' e (d.pick [4,5,3,2] Z) (s.pick [4,5,3,2] Z) a)⟩ h) Z
 rintro aR L w E h
 try dsimp only at E
 obtain ⟨rfl,⟨ao,T,e,d,s,a⟩⟩:=E
 unfold F.Gj at h
 refine gl9 Z h (fun h=>?_) (fun h=>?_)
 ·refine R<|V 1 Z<|gl8 ?_
  cases h
  replace a:=e.st a
  exact ay Z Z ⟨Z,a.d [] Z Z⟩
 refine gl5<|av ?_
 refine aZ (r:=r) (fun (g:Bool) L w=>L=[(56,K g)]∧SfT [] [] l w [] []) (F.IS) ?_ ?_
 rotate_left
 ·intro B
  refine aX (fun w'=>St ao T w' [Y u [j,k,K c.2.2.1]]) (fun i=>!([10,14,18,20].contains i)) bR (fun _ _ _ hf=>hf.2) (fun _ _ hf=>hf) (by kernel_rfl)<|have a:=a.drew;show lxE _ _ _ _ _ _ _ [0,1,2,3,4,5,6,7,8,9,10,11,12,13,14,15,16,17,18,19,20,21,22] _ _ from an 1 Z a<|ai a Z Z (fun w f=>aC u24 Z ((d.rp 1 Z).b f.fr)) Z<|an 1 Z a<|ai a Z Z (fun w f=>aj Z Z (dR _ 2 z)) Z<|an 2 Z a ?_
  cases n:((a5.length:Int) != (wI (2*z)))
  case true=>
   have h:=cH h n
   try simp only [n]
   exact ce (b:=true) (t:=39) a Z Z Z Z Z Z<|ce (b:=true) (t:=39) a Z Z Z Z Z Z<|ce (b:=true) (t:=39) a Z Z Z Z Z Z<|ce (b:=true) (t:=39) a Z Z Z Z Z Z<|jz (b:=true) (t:=39) a Z Z Z Z Z Z<|ce (b:=true) (t:=39) a Z Z Z Z Z Z<|ce (b:=true) (t:=39) a Z Z Z Z Z Z<|ce (b:=true) (t:=39) a Z Z Z Z Z Z<|jz (b:=true) (t:=39) a Z Z Z Z Z Z<|ce (b:=true) (t:=39) a Z Z Z Z Z Z<|ce (b:=true) (t:=39) a Z Z Z Z Z Z<|ce (b:=true) (t:=39) a Z Z Z Z Z Z<|jz (b:=true) (t:=39) a Z Z Z Z Z Z<|ce (b:=true) (t:=39) a Z Z Z Z Z Z<|jz (b:=true) (t:=39) a Z Z Z Z Z Z<|ce (b:=true) (t:=39) a Z Z Z Z Z Z<|an 1 Z a<|bn a<|ak<|aH (B true _ _ ⟨Z,(SfT.mk' e Rds.nil Off.nil (a.d [] Z Z))⟩ h) Z
  case false=>
   have h:=cI h n
   try simp only [n]
   refine cV (t:=39) a Z Z Z Z (fun w f=>dZ Z) Z<|cV (t:=39) a Z Z Z Z (fun w f=>dZ Z) Z<|cV (t:=39) a Z Z Z Z (fun w f=>dZ Z) Z<|cV (t:=39) a Z Z Z Z (fun w f=>dZ Z) Z<|J h fun aq ab h=>kr (t:=39) a Z Z Z Z (by kernel_rfl) Z (ph a0 a1 ab (hT.b (e.st a).fr) ((d.rp 0 Z).b a.fr).rp) Z fun ar w q=>have a:=a.e q;cV (t:=39) (a.d [1] Z Z) Z Z Z Z (fun w f=>dZ Z) Z<|cV (t:=39) (a.d [1] Z Z) Z Z Z Z (fun w f=>dZ Z) Z<|J h fun aS C h=>cV (t:=39) (a.d [1] Z Z) Z Z Z Z (fun w f=>jy u24 ti5 Z Z ((d.rp 1 Z).b f.fr) C) Z<|J h fun au ac h=>kr (t:=39) (a.d [1] Z Z) Z Z Z Z (by kernel_rfl) Z (iN  ac (((d.rp 1 Z).g_slh C).b a.fr).rp) Z fun aw w q=>have a:=a.e q;cV (t:=39) (a.d [2] Z Z) Z Z Z Z (fun w f=>dZ Z) Z<|cV (t:=39) (a.d [2] Z Z) Z Z Z Z (fun w f=>dZ Z) Z<|J h fun aT D h=>cV (t:=39) (a.d [2] Z Z) Z Z Z Z (fun w f=>o5 u24 ti5 Z Z ((d.rp 1 Z).b f.fr) D) Z<|J h fun aA ad h=>kr (t:=39) (a.d [2] Z Z) Z Z Z Z (by kernel_rfl) Z (iN  ad (((d.rp 1 Z).g_sll D).b a.fr).rp) Z fun aD w q=>have a:=a.e q;cV (t:=39) (a.d [3] Z Z) Z Z Z Z (fun w f=>aP (us:=[j,k,K c.2.2.1]) u33 Z cC Z (f.p 0 Z Z)) Z ?_
   refine J h fun G ae h=>kr (t:=39) (a.d [3] Z Z) Z Z Z Z (by kernel_rfl) Z (rq a1 c.2.2.1 ae (a.ro 2 Z).rp (a.ro 1 Z).rp (a.ro 0 Z).rp ((d.rp 2 Z).b a.fr).rp ((d.rp 3 Z).b a.fr).rp) Z ?_
   rintro _ w ⟨rfl,q⟩
   have a:=a.e q
   refine cV (t:=39) (a.d [3] Z Z) Z Z Z Z (fun w f=>i9 Z (zW G)) Z<|an 1 Z (a.d [3] Z Z)<|bn (a.d [3] Z Z)<|ak ?_
   replace a:=a.pick (os':=[U X aD aA,U X aw au,U X ar aq]++[Y u [j,k,K c.2.2.1]]) [0,1,2,3] (by decide) rfl
   obtain ⟨aU,aL,e,d,s,a⟩:=e.frzT hTT d s a
   exact aH (B (!G) _ _ ⟨Z,(SfT.mk' e Rds.nil Off.nil (a.d [] Z Z))⟩ h) Z
 rintro aV L w E h
 try dsimp only at E
 obtain ⟨rfl,⟨aW,aM,e,d,s,a⟩⟩:=E
 unfold F.IS at h
 refine gl9 Z h (fun h=>?_) (fun h=>?_)
 ·refine R<|V 1 Z<|gl8 ?_
  cases h
  replace a:=e.st a
  exact ay Z Z ⟨Z,a⟩
 refine gl6<|V 1 Z<|Q<|az ?_
 cases h
 replace a:=e.st a
 exact ay Z Z ⟨Z,a⟩
end Go.Proofs
