import Derived.Test.YthnmbmmifamifaaGreatDoorRW0
import Derived.Test.YthnmbmmifamifaaGreatDoorRAw
import Derived.Test.YthnmbmmifamifaaGreatDoorGkFman
set_option linter.unusedVariables false
set_option linter.unusedSimpArgs false
set_option linter.unusedSectionVars false
set_option maxRecDepth 20000
set_option maxHeartbeats 20000000
namespace Go.Proofs
open Go Go.RowKit Go.Gk
open Go.Gk renaming RP -> O, Ret -> K, ar -> J, e32 -> Y, e8 -> M, own -> W, pB -> Q, v64 -> H, vB -> P, vI -> R
open Go.Gk.OE renaming bx -> X
theorem vf {f:World} (a0:Int) {r:Int}
  (h:F.UH a0=some r) :Calls Tryz.prog 22 #[R a0] f (K fun v w=>v=R r/\St [] f w []):=by
 refine ca1 10 Tryz.func22 Z Z Z<|have hS:=St.r f;?_
 unfold F.UH at h
 exact wk
theorem pX {f:World} {a0:L00} {j:Value} (a1:Int) {r:L00}
  (h:F.XM a0 a1=some r) (B:O [] f M j a0):Calls Tryz.prog 220 #[j,R a1] f (K fun v w=>St [] f w [W M v r]):=by
 refine ca2 43 Tryz.func220 Z Z Z<|have hS:=St.r f;?_
 unfold F.XM at h
 let i1:=mkI (F.YN a0 a1) (fun s L w=>∃p,L=[(0,j),(1,R a1),(5,p)]/\St [] f w [W M p s])
 let i2:=fun u=>mkI (F.YB u) (fun s L w=>∃A,L=[(5,A),(6,H u),(7,R s.2)]/\St [] f w [W M A s.1])
 exact wk
theorem iq {f:World} (a0:UInt32) (a1:Int) {r:UInt32}
  (h:F.T7 a0 a1=some r) :Calls Tryz.prog 221 #[v32 a0,R a1] f (K fun v w=>v=v32 r/\St [] f w []):=by
 refine ca2 15 Tryz.func221 Z Z Z<|have hS:=St.r f;?_
 unfold F.T7 at h
 exact wk
theorem BF {z:World} {a0:L00} {bH:Value} {r:L00}
  (h:F.Z0 a0=some r) (hT:TB [] z) (cv:O [] z M bH a0):Calls Tryz.prog 159 #[bH] z (K fun v w=>St [] z w [W M v r]):=by
 refine dP 231 Tryz.func159 Z Z Z<|have a:=St.r z;eZ [(0,bH)] Z ?_
 unfold F.Z0 at h
 refine gl4<|J 1 Z<|gl2<|aQ (mH (us:=Y.fl F.Ut) u150 Z om (dQ (show F.Ut.length=8 from Z) Z) Z (hT.ref4_start256.cells a.fr)) Z<|mZ (mx (cs:=Y.fl (List.replicate 8 0)) NK (by kernel_rfl) a) Z fun f w a=>kP (jx (m:=8) (xs:=Y.fl (List.replicate 8 0)) (xs':=Y.fl F.Ut) (i:=0) Z om Z Z Z Up.last (dQ aZ Z) (dQ (show F.Ut.length=8 from Z) Z) oU a) fun w a=>gl2<|J 1 Z<|aK h fun y cf h=>rJ a Z (pX 64 cf (cv.f a.fr).rp) Z fun k w a=>J 1 Z<|gl1<|gl4<|J 1 Z<|gl3<|cn<|eZ [(3,Q f 0),(4,k),(5,R 0)] Z ?_
 refine fN (F.Xm y) (fun (s:Int×L8) L w=>L=[(3,Q f 0),(4,k),(5,R s.1)]/\s.2.length=8/\St [] z w [X f (Y.fl s.2),W M k y]) ?_ (0,F.Ut) ⟨Z,(show F.Ut.length=8 from Z),(a.j [1,0] Z Z)⟩ h
 rintro cy ⟨A,q⟩ L w cC E bR h bI
 try dsimp only at E
 obtain⟨rfl,B,a⟩:=E
 unfold F.Xm at h
 refine cw<|gl4<|J 2 Z<|aQ (dV u25 Z (a.ro 1 Z)) Z<|J 1 Z<|gl3 ?_
 apply gl9 Z h<;>intro h
 ·refine gl5<|cw<|cn<|gl4<|mZ (mx (cs:=Y.fl (List.replicate 64 0)) NG (by kernel_rfl) a) Z fun p w a=>gl1<|gl4<|J 1 Z<|gl3<|cn<|eZ [(3,Q f 0),(4,k),(5,R A),(6,Q p 0),(7,R 0)] Z ?_
  refine fN (F.Wy y A q) (fun (s:Int×L8) L w=>L=[(3,Q f 0),(4,k),(5,R A),(6,Q p 0),(7,R s.1)]/\s.2.length=64/\St [] z w [X f (Y.fl q),W M k y,X p (Y.fl s.2)]) ?_ (0,(List.replicate 64 0)) ⟨Z,aZ,(a.j [1,2,0] Z Z)⟩ h
  rintro cD ⟨av,G⟩ L w cg E bU h aM
  try dsimp only at E
  obtain⟨rfl,t,a⟩:=E
  unfold F.Wy at h
  refine cw<|gl4<|J 2 Z<|gl3 ?_
  apply gl9 Z h<;>intro h
  ·refine gl5 ?_
   refine iF (r:=cg) (fun (g:L8) L w=>L=[(3,Q f 0),(4,k),(5,R A),(6,Q p 0),(7,R av)]/\g.length=64/\St [] z w [X f (Y.fl q),W M k y,X p (Y.fl g)]) (F.Xl av) ?_ ?_
   rotate_left
   ·intro aO
    refine cn<|cw<|gl4<|J 2 Z<|gl3 ?_
    apply gl9 Z h<;>intro h
    ·refine gl4<|J 2 Z<|aQ (bk Z Z (rC _ 4 av)) Z<|J 1 Z<|jp h fun ch bV h=>aQ (fk (v:=R ch) (by rw[<-bV]; rfl)) Z<|gl1<|gV (fun w'=>St [] z w' [X f (Y.fl q),W M k y,X p (Y.fl G)]) (fun i=>!([31].contains i)) gC (fun _ _ _ u=>u.2) (fun _ _ u=>u) (by kernel_rfl)<|have a:=a.drew;show lxE _ _ _ _ _ _ _ [0,1,2,3,4,5,6,7,8,9,10,11,12,13,14,15,16,17,18,19,20,21,22,23,24,25,26,27,28,29,30,31] _ _ from bT 3 Z a<|aK h fun S aP h=>aN a Z Z (fun w b=>mz u25 ti5 Z Z (b.ro 1 Z) aP) Z<|aN a Z Z (fun w b=>iu Tryz.underlying5 Z Z (b.ro 1 Z) aP Z) Z<|aN a Z Z (fun w b=>io Z (rG Tryz.underlying5 u109 S)) Z<|aN a Z Z (fun w b=>bk Z Z (qe _ S.toUInt32 24)) Z<|bT 3 Z a<|aK h fun T aR h=>aN a Z Z (fun w b=>mz u25 ti5 Z Z (b.ro 1 Z) aR) Z<|aN a Z Z (fun w b=>iu Tryz.underlying5 Z Z (b.ro 1 Z) aR Z) Z<|aN a Z Z (fun w b=>io Z (rG Tryz.underlying5 u109 T)) Z<|aN a Z Z (fun w b=>bk Z Z (qe _ T.toUInt32 16)) Z<|aN a Z Z (fun w b=>bk Z Z (wD _ (dB S.toUInt32 24) (dB T.toUInt32 16))) Z<|bT 3 Z a<|aK h fun ai aS h=>aN a Z Z (fun w b=>mz u25 ti5 Z Z (b.ro 1 Z) aS) Z ?_
     refine aN a Z Z (fun w b=>iu Tryz.underlying5 Z Z (b.ro 1 Z) aS Z) Z<|aN a Z Z (fun w b=>io Z (rG Tryz.underlying5 u109 ai)) Z<|aN a Z Z (fun w b=>bk Z Z (qe _ ai.toUInt32 8)) Z<|aN a Z Z (fun w b=>bk Z Z (wD _ ((dB S.toUInt32 24) ||| (dB T.toUInt32 16)) (dB ai.toUInt32 8))) Z<|bT 3 Z a<|aK h fun aE aT h=>aN a Z Z (fun w b=>mz u25 ti5 Z Z (b.ro 1 Z) aT) Z<|aN a Z Z (fun w b=>iu Tryz.underlying5 Z Z (b.ro 1 Z) aT Z) Z<|aN a Z Z (fun w b=>io Z (rG Tryz.underlying5 u109 aE)) Z<|aN a Z Z (fun w b=>bk Z Z (wD _ (((dB S.toUInt32 24) ||| (dB T.toUInt32 16)) ||| (dB ai.toUInt32 8)) aE.toUInt32)) Z<|aK h fun cF aU h=>aN a Z Z (fun w b=>cE u200 gG Z Z (cA aU t)) Z<|mD a Z Z (jx (m:=1) Z gG Z Z Z (Up.elt (t':=((((dB S.toUInt32 24) ||| (dB T.toUInt32 16)) ||| (dB ai.toUInt32 8)) ||| aE.toUInt32)) Up.last aU Z Z) Z Z (nM Z) a (i:=2)) fun w a=>jp h fun ci aV h=>?_
     rw[aV]at a
     exact gf I<|bL<|fc<|cj<|fe<|bL<|ef (aO ci _ _ ⟨Z,(by rw[<-aV,bM]; exact t),a⟩ h) Z
    refine gl6<|J 2 Z<|aK h fun C aW h=>aQ (cE u200 gG Z Z (cA aW t)) Z<|aQ (bX u109 Z Z (a.x 2 Z (Up.elr Up.last aW Z))) Z<|J 1 Z<|gl2<|J 2 Z<|aK h fun aa aX h=>aQ (cE u200 gG Z Z (cA aX t)) Z<|aQ (bX u109 Z Z (a.x 2 Z (Up.elr Up.last aX Z))) Z<|J 1 Z<|gl3<|gV (fun w'=>St [] z w' [X f (Y.fl q),W M k y,X p (Y.fl G)]) (fun i=>!([6,8,20,22,29].contains i)) gC (fun _ _ _ u=>u.2) (fun _ _ u=>u) (by kernel_rfl)<|have a:=a.drew;show lxE _ _ _ _ _ _ _ [0,1,2,3,4,5,6,7,8,9,10,11,12,13,14,15,16,17,18,19,20,21,22,23,24,25,26,27,28,29] _ _ from bT 3 Z a<|aK h fun aw aY h=>aN a Z Z (fun w b=>cE u200 gG Z Z (cA aY t)) Z<|aN a Z Z (fun w b=>bX u109 Z Z (b.x 2 Z (Up.elr Up.last aY Z))) Z<|bT 1 Z a<|aK h fun ab bW h=>fM a Z Z (by kernel_rfl) Z (iq C 7 bW ) Z ?_
    rintro _ w ⟨rfl,n⟩
    have a:=a.p n
    refine bT 1 Z a<|aK h fun ac bY h=>fM a Z Z (by kernel_rfl) Z (iq C 18 bY ) Z ?_
    rintro _ w ⟨rfl,n⟩
    have a:=a.p n
    refine aN a Z Z (fun w b=>bk Z Z (mm _ ab ac)) Z<|bT 1 Z a<|aN a Z Z (fun w b=>bk Z Z (kY _ C 3)) Z<|aN a Z Z (fun w b=>bk Z Z (mm _ (ab ^^^ ac) (cq C 3))) Z<|aN a Z Z (fun w b=>bk Z Z (lZ _ aw ((ab ^^^ ac) ^^^ (cq C 3)))) Z<|bT 2 Z a<|aK h fun aF ba h=>aN a Z Z (fun w b=>cE u200 gG Z Z (cA ba t)) Z<|aN a Z Z (fun w b=>bX u109 Z Z (b.x 2 Z (Up.elr Up.last ba Z))) Z<|aN a Z Z (fun w b=>bk Z Z (lZ _ (aw+((ab ^^^ ac) ^^^ (cq C 3))) aF)) Z<|bT 1 Z a<|aK h fun ax bZ h=>fM a Z Z (by kernel_rfl) Z (iq aa 17 bZ ) Z ?_
    rintro _ w ⟨rfl,n⟩
    have a:=a.p n
    refine bT 1 Z a<|aK h fun ay b0 h=>fM a Z Z (by kernel_rfl) Z (iq aa 19 b0 ) Z ?_
    rintro _ w ⟨rfl,n⟩
    have a:=a.p n
    refine aN a Z Z (fun w b=>bk Z Z (mm _ ax ay)) Z<|bT 1 Z a<|aN a Z Z (fun w b=>bk Z Z (kY _ aa 10)) Z<|aN a Z Z (fun w b=>bk Z Z (mm _ (ax ^^^ ay) (cq aa 10))) Z<|aN a Z Z (fun w b=>bk Z Z (lZ _ ((aw+((ab ^^^ ac) ^^^ (cq C 3)))+aF) ((ax ^^^ ay) ^^^ (cq aa 10)))) Z<|aK h fun cG bb h=>aN a Z Z (fun w b=>cE u200 gG Z Z (cA bb t)) Z<|mD a Z Z (jx (m:=1) Z gG Z Z Z (Up.elt (t':=(((aw+((ab ^^^ ac) ^^^ (cq C 3)))+aF)+((ax ^^^ ay) ^^^ (cq aa 10)))) Up.last bb Z Z) Z Z (nM Z) a (i:=2)) fun w a=>jp h fun ck bc h=>?_
    rw[bc]at a
    exact gf I<|eH<|bL<|ef (aO ck _ _ ⟨Z,(by rw[<-bc,bM]; exact t),a⟩ h) Z
   rintro cl L w hJ h
   try dsimp only at hJ
   obtain⟨rfl,b1,a⟩:=hJ
   unfold F.Xl at h
   exact bS<|J 3 Z<|d7<|iz (iM (bU (wI (av+1),cl) _ _ ⟨Z,b1,a⟩ (eG h aM)) Z)
  refine fc<|cj<|cj<|have h:=ep h aM;fe<|bL<|gl4<|aQ (mH (us:=Y.fl q) u150 Z om (dQ B Z) Z (a.bxgs0 0 Z Up.last)) Z<|mZ (mx (cs:=Y.fl (List.replicate 8 0)) NK (by kernel_rfl) a) Z fun x w a=>kP (jx (m:=8) (xs:=Y.fl (List.replicate 8 0)) (xs':=Y.fl q) (i:=0) Z om Z Z Z Up.last (dQ aZ Z) (dQ B Z) oU a) fun w a=>gl1<|gl4<|J 1 Z<|gl3<|cn<|eZ [(3,Q f 0),(4,k),(5,R A),(6,Q p 0),(11,Q x 0),(12,R 0)] Z ?_
  refine fN (F.Zk q G A) (fun (s:Int×L8) L w=>L=[(3,Q f 0),(4,k),(5,R A),(6,Q p 0),(11,Q x 0),(12,R s.1)]/\s.2.length=8/\St [] z w [X f (Y.fl q),W M k y,X p (Y.fl G),X x (Y.fl s.2)]) ?_ (0,q) ⟨Z,B,(a.j [1,2,3,0] Z Z)⟩ h
  rintro cH ⟨cm,ad⟩ L w cI E b2 h bd
  try dsimp only at E
  obtain⟨rfl,c,a⟩:=E
  unfold F.Zk at h
  refine cw<|gl4<|J 2 Z<|gl3 ?_
  apply gl9 Z h<;>intro h
  ·refine gl5<|cw<|cn<|gl4<|aK h fun j be h=>aQ (cE u150 gG Z Z (cA be c)) Z<|aQ (bX u109 Z Z (a.x 3 Z (Up.elr Up.last be Z))) Z<|J 1 Z<|gl2<|aK h fun d bf h=>aQ (cE u150 gG Z Z (cA bf c)) Z<|aQ (bX u109 Z Z (a.x 3 Z (Up.elr Up.last bf Z))) Z<|J 1 Z<|gl1<|lI (fun w'=>St [] z w' [X f (Y.fl q),W M k y,X p (Y.fl G),X x (Y.fl ad)]) (fun i=>!([3,5,8].contains i)) gC (fun _ _ _ u=>u.2) (fun _ _ u=>u) (by kernel_rfl)<|have a:=a.drew;show lxE _ _ _ _ _ _ _ [0,1,2,3,4,5,6,7,8,9,10,11,12,13,14,15,16,17,18,19,20,21,22,23,24,25,26,27,28,29,30] _ _ from aK h fun az bg h=>aN a Z Z (fun w b=>cE u150 gG Z Z (cA bg c)) Z<|aN a Z Z (fun w b=>bX u109 Z Z (b.x 3 Z (Up.elr Up.last bg Z))) Z<|bT 1 Z a<|aK h fun ae b3 h=>fM a Z Z (by kernel_rfl) Z (iq d 6 b3 ) Z ?_
   rintro _ w ⟨rfl,n⟩
   have a:=a.p n
   refine bT 1 Z a<|aK h fun af b4 h=>fM a Z Z (by kernel_rfl) Z (iq d 11 b4 ) Z ?_
   rintro _ w ⟨rfl,n⟩
   have a:=a.p n
   refine aN a Z Z (fun w b=>bk Z Z (mm _ ae af)) Z<|bT 1 Z a<|aK h fun aj b5 h=>fM a Z Z (by kernel_rfl) Z (iq d 25 b5 ) Z ?_
   rintro _ w ⟨rfl,n⟩
   have a:=a.p n
   refine aN a Z Z (fun w b=>bk Z Z (mm _ (ae ^^^ af) aj)) Z<|aN a Z Z (fun w b=>bk Z Z (lZ _ az ((ae ^^^ af) ^^^ aj))) Z<|bT 1 Z a<|aK h fun ak bh h=>aN a Z Z (fun w b=>cE u150 gG Z Z (cA bh c)) Z<|aN a Z Z (fun w b=>bX u109 Z Z (b.x 3 Z (Up.elr Up.last bh Z))) Z<|aN a Z Z (fun w b=>bk Z Z (nQ _ d ak)) Z<|bT 1 Z a<|aN a Z Z (fun w b=>wF Z (E6 d)) Z<|aK h fun al bi h=>aN a Z Z (fun w b=>cE u150 gG Z Z (cA bi c)) Z<|aN a Z Z (fun w b=>bX u109 Z Z (b.x 3 Z (Up.elr Up.last bi Z))) Z<|aN a Z Z (fun w b=>bk Z Z (nQ _ (~~~ d) al)) Z<|aN a Z Z (fun w b=>bk Z Z (mm _ (d &&& ak) ((~~~ d) &&& al))) Z<|aN a Z Z (fun w b=>bk Z Z (lZ _ (az+((ae ^^^ af) ^^^ aj)) ((d &&& ak) ^^^ ((~~~ d) &&& al)))) Z<|bT 1 Z a<|aK h fun bJ bj h=>aN a Z Z (fun w b=>cE u200 gG Z Z (cA bj (show F.UT.length=64 from Z))) Z<|aN a Z Z (fun w b=>bX u109 Z Z (hT.ref4_k256.cell b.fr bj Z)) Z<|aN a Z Z (fun w b=>bk Z Z (lZ _ ((az+((ae ^^^ af) ^^^ aj))+((d &&& ak) ^^^ ((~~~ d) &&& al))) bJ)) Z ?_
   refine bT 1 Z a<|aK h fun co bl h=>aN a Z Z (fun w b=>cE u200 gG Z Z (cA bl t)) Z<|aN a Z Z (fun w b=>bX u109 Z Z (b.x 2 Z (Up.elr Up.last bl Z))) Z<|aN a Z Z (fun w b=>bk Z Z (lZ _ (((az+((ae ^^^ af) ^^^ aj))+((d &&& ak) ^^^ ((~~~ d) &&& al)))+bJ) co)) Z<|jp h fun o b6 h=>aN a Z Z (fun w b=>fk (v:=v32 o) (by rw[<-b6]; rfl)) Z<|gf a<|bL<|cw<|lI (fun w'=>St [] z w' [X f (Y.fl q),W M k y,X p (Y.fl G),X x (Y.fl ad)]) (fun i=>!([1,3,6].contains i)) gC (fun _ _ _ u=>u.2) (fun _ _ u=>u) (by kernel_rfl)<|have a:=a.drew;show lxE _ _ _ _ _ _ _ [0,1,2,3,4,5,6,7,8,9,10,11,12,13,14,15,16,17,18,19,20,21,22,23,24] _ _ from bT 1 Z a<|aK h fun aG b7 h=>fM a Z Z (by kernel_rfl) Z (iq j 2 b7 ) Z ?_
   rintro _ w ⟨rfl,n⟩
   have a:=a.p n
   refine bT 1 Z a<|aK h fun aH b8 h=>fM a Z Z (by kernel_rfl) Z (iq j 13 b8 ) Z ?_
   rintro _ w ⟨rfl,n⟩
   have a:=a.p n
   refine aN a Z Z (fun w b=>bk Z Z (mm _ aG aH)) Z<|bT 1 Z a<|aK h fun bK b9 h=>fM a Z Z (by kernel_rfl) Z (iq j 22 b9 ) Z ?_
   rintro _ w ⟨rfl,n⟩
   have a:=a.p n
   refine aN a Z Z (fun w b=>bk Z Z (mm _ (aG ^^^ aH) bK)) Z<|bT 1 Z a<|aK h fun aA bm h=>aN a Z Z (fun w b=>cE u150 gG Z Z (cA bm c)) Z<|aN a Z Z (fun w b=>bX u109 Z Z (b.x 3 Z (Up.elr Up.last bm Z))) Z<|aN a Z Z (fun w b=>bk Z Z (nQ _ j aA)) Z<|bT 1 Z a<|aK h fun aB bn h=>aN a Z Z (fun w b=>cE u150 gG Z Z (cA bn c)) Z<|aN a Z Z (fun w b=>bX u109 Z Z (b.x 3 Z (Up.elr Up.last bn Z))) Z<|aN a Z Z (fun w b=>bk Z Z (nQ _ j aB)) Z<|aN a Z Z (fun w b=>bk Z Z (mm _ (j &&& aA) (j &&& aB))) Z<|aK h fun aI bo h=>aN a Z Z (fun w b=>cE u150 gG Z Z (cA bo c)) Z<|aN a Z Z (fun w b=>bX u109 Z Z (b.x 3 Z (Up.elr Up.last bo Z))) Z<|aK h fun aJ bp h=>aN a Z Z (fun w b=>cE u150 gG Z Z (cA bp c)) Z<|aN a Z Z (fun w b=>bX u109 Z Z (b.x 3 Z (Up.elr Up.last bp Z))) Z<|aN a Z Z (fun w b=>bk Z Z (nQ _ aI aJ)) Z<|aN a Z Z (fun w b=>bk Z Z (mm _ ((j &&& aA) ^^^ (j &&& aB)) (aI &&& aJ))) Z<|aN a Z Z (fun w b=>bk Z Z (lZ _ ((aG ^^^ aH) ^^^ bK) (((j &&& aA) ^^^ (j &&& aB)) ^^^ (aI &&& aJ)))) Z ?_
   refine jp h fun D ca h=>aN a Z Z (fun w b=>fk (v:=v32 D) (by rw[<-ca]; rfl)) Z<|gf a<|bL<|bS<|J 2 Z<|aQ (bk Z Z (lZ _ o D)) Z<|J 1 Z<|aK h fun am bq h=>aQ (cE u150 gG Z Z (cA bq c)) Z<|aQ (bX u109 Z Z (a.x 3 Z (Up.elr Up.last bq Z))) Z<|aK h fun an br h=>aQ (cE u150 gG Z Z (cA br c)) Z<|aQ (bX u109 Z Z (a.x 3 Z (Up.elr Up.last br Z))) Z<|aK h fun ag bs h=>aQ (cE u150 gG Z Z (cA bs c)) Z<|aQ (bX u109 Z Z (a.x 3 Z (Up.elr Up.last bs Z))) Z<|J 1 Z<|aQ (bk Z Z (lZ _ ag o)) Z<|J 1 Z<|aK h fun ao bt h=>aQ (cE u150 gG Z Z (cA bt c)) Z<|aQ (bX u109 Z Z (a.x 3 Z (Up.elr Up.last bt Z))) Z<|aK h fun ap bu h=>aQ (cE u150 gG Z Z (cA bu c)) Z<|aQ (bX u109 Z Z (a.x 3 Z (Up.elr Up.last bu Z))) Z<|aQ (ig (vs:=[(0,v32 (o+D),[v32 (o+D)]),(1,v32 j,[v32 j]),(2,v32 am,[v32 am]),(3,v32 an,[v32 an]),(4,v32 (ag+o),[v32 (ag+o)]),(5,v32 d,[v32 d]),(6,v32 ao,[v32 ao]),(7,v32 ap,[v32 ap])]) (cells:=[v32 (o+D),v32 j,v32 am,v32 an,v32 (ag+o),v32 d,v32 ao,v32 ap]) Z Ih ⟨Z,Z,Z,Z,Z,Z,Z,Z,I⟩ (by kernel_rfl)) Z ?_
   exact kP (jx (m:=8) (xs:=Y.fl ad) (xs':=Y.fl ([o+D,j,am,an,ag+o,d,ao,ap]:L8)) (i:=3) Z om Z Z Z Up.last (dQ c Z) (dQ Z Z) oU a) fun w a=>d7<|eH<|bL<|bS<|J 3 Z<|d7<|iz (iM (b2 (wI (cm+1),([o+D,j,am,an,ag+o,d,ao,ap]:L8)) _ _ ⟨Z,Z,a⟩ (eG h bd)) Z)
  refine fc<|cj<|cj<|have h:=ep h bd;fe<|bL<|gl4<|J 1 Z<|gl3<|cn<|eZ [(3,Q f 0),(4,k),(5,R A),(11,Q x 0),(17,R 0)] Z ?_
  refine fN (F.Wo A ad) (fun (s:Int×L8) L w=>L=[(3,Q f 0),(4,k),(5,R A),(11,Q x 0),(17,R s.1)]/\s.2.length=8/\St [] z w [X f (Y.fl s.2),W M k y,X x (Y.fl ad)]) ?_ (0,q) ⟨Z,B,(a.j [0,1,3] Z Z)⟩ h
  rintro cJ ⟨cp,bN⟩ L w cK E cb h bv
  try dsimp only at E
  obtain⟨rfl,ah,a⟩:=E
  unfold F.Wo at h
  refine cw<|gl4<|J 2 Z<|gl3 ?_
  apply gl9 Z h<;>intro h
  ·refine gl5<|cw<|cn<|gV (fun w'=>St [] z w' [X f (Y.fl bN),W M k y,X x (Y.fl ad)]) (fun i=>!([9].contains i)) gC (fun _ _ _ u=>u.2) (fun _ _ u=>u) (by kernel_rfl)<|have a:=a.drew;show lxE _ _ _ _ _ _ _ [0,1,2,3,4,5,6,7,8,9] _ _ from bT 2 Z a<|aK h fun bO bw h=>aN a Z Z (fun w b=>cE u150 gG Z Z (cA bw ah)) Z<|aN a Z Z (fun w b=>bX u109 Z Z (b.x 0 Z (Up.elr Up.last bw Z))) Z<|bT 1 Z a<|aK h fun bP bz h=>aN a Z Z (fun w b=>cE u150 gG Z Z (cA bz c)) Z<|aN a Z Z (fun w b=>bX u109 Z Z (b.x 2 Z (Up.elr Up.last bz Z))) Z<|aN a Z Z (fun w b=>bk Z Z (lZ _ bO bP)) Z<|aK h fun cL bA h=>aN a Z Z (fun w b=>cE u150 gG Z Z (cA bA ah)) Z<|mD a Z Z (jx (m:=1) Z gG Z Z Z (Up.elt (t':=(bO+bP)) Up.last bA Z Z) Z Z (nM Z) a (i:=0)) fun w a=>jp h fun cr bB h=>?_
   rw[bB]at a
   exact gf I<|eH<|bL<|bS<|J 3 Z<|d7<|iz (iM (cb (wI (cp+1),cr) _ _ ⟨Z,(by rw[<-bB,bM]; exact ah),a⟩ (eG h bv)) Z)
  exact fc<|cj<|cj<|have h:=ep h bv;fe<|eH<|bL<|bS<|J 3 Z<|d7<|iz (iM (bR (wI (A+64),bN) _ _ ⟨Z,ah,(a.j [0,1] Z Z)⟩ (eG h bI)) Z)
 refine fc<|cj<|cj<|have h:=ep h bI;fe<|bL<|gl4<|J 1 Z<|gl1<|gl4<|J 1 Z<|gl3<|cn<|eZ [(3,Q f 0),(18,.slice none 0 0),(19,R 0)] Z ?_
 refine fN (F.Xi q) (fun (s:L00×Int) L w=>∃(aL:Value),L=[(3,Q f 0),(18,aL),(19,R s.2)]/\St [] z w [W M aL s.1,X f (Y.fl q)]) ?_ ([],0) ⟨L02,Z,((a.nil M).j [0,1] Z Z)⟩ h
 rintro cz ⟨cM,ct⟩ L w cN E cc h bC
 try dsimp only at E
 obtain⟨aL,rfl,a⟩:=E
 unfold F.Xi at h
 refine cw<|gl4<|J 2 Z<|gl3 ?_
 apply gl9 Z h<;>intro h
 ·refine gl5<|cw<|cn<|have hsh0:=(a.ro 0 Z).shp;lI (fun w'=>St [] z w' [X f (Y.fl q)]) (fun i=>!([23,24].contains i)) gC (fun _ _ _ u=>u.2) (fun _ _ u=>u) (by kernel_rfl)<|have a:=a.drew;show lxE _ _ _ _ _ _ _ [0,1,2,3,4,5,6,7,8,9,10,11,12,13,14,15,16,17,18,19,20,21,22,23,24,25] _ _ from bT 2 Z (a.j [1] Z Z)<|aK h fun aC bD h=>aN (a.j [1] Z Z) Z Z (fun w b=>cE u150 gG Z Z (cA bD B)) Z<|aN (a.j [1] Z Z) Z Z (fun w b=>bX u109 Z Z (b.x 0 Z (Up.elr Up.last bD Z))) Z<|aN (a.j [1] Z Z) Z Z (fun w b=>bk Z Z (kY _ aC 24)) Z<|aN (a.j [1] Z Z) Z Z (fun w b=>io Z (nW u109 Tryz.underlying5 (cq aC 24))) Z<|bT 1 Z (a.j [1] Z Z)<|aK h fun aq bE h=>aN (a.j [1] Z Z) Z Z (fun w b=>cE u150 gG Z Z (cA bE B)) Z<|aN (a.j [1] Z Z) Z Z (fun w b=>bX u109 Z Z (b.x 0 Z (Up.elr Up.last bE Z))) Z<|aN (a.j [1] Z Z) Z Z (fun w b=>bk Z Z (kY _ aq 16)) Z<|aN (a.j [1] Z Z) Z Z (fun w b=>bk Z Z (nQ _ (cq aq 16) 255)) Z<|aN (a.j [1] Z Z) Z Z (fun w b=>io Z (nW u109 Tryz.underlying5 ((cq aq 16) &&& 255))) Z<|bT 1 Z (a.j [1] Z Z)<|aK h fun au bF h=>?_
  refine aN (a.j [1] Z Z) Z Z (fun w b=>cE u150 gG Z Z (cA bF B)) Z<|aN (a.j [1] Z Z) Z Z (fun w b=>bX u109 Z Z (b.x 0 Z (Up.elr Up.last bF Z))) Z<|aN (a.j [1] Z Z) Z Z (fun w b=>bk Z Z (kY _ au 8)) Z<|aN (a.j [1] Z Z) Z Z (fun w b=>bk Z Z (nQ _ (cq au 8) 255)) Z<|aN (a.j [1] Z Z) Z Z (fun w b=>io Z (nW u109 Tryz.underlying5 ((cq au 8) &&& 255))) Z<|bT 1 Z (a.j [1] Z Z)<|aK h fun aD bG h=>aN (a.j [1] Z Z) Z Z (fun w b=>cE u150 gG Z Z (cA bG B)) Z<|aN (a.j [1] Z Z) Z Z (fun w b=>bX u109 Z Z (b.x 0 Z (Up.elr Up.last bG Z))) Z<|aN (a.j [1] Z Z) Z Z (fun w b=>bk Z Z (nQ _ aD 255)) Z<|aN (a.j [1] Z Z) Z Z (fun w b=>io Z (nW u109 Tryz.underlying5 (aD &&& 255))) Z<|sP (a.j [1] Z Z) Z Z (lR (e:=M) (l:=[(cq aC 24).toUInt8,((cq aq 16) &&& 255).toUInt8,((cq au 8) &&& 255).toUInt8,(aD &&& 255).toUInt8]) (vs:=[v8 ((cq aC 24).toUInt8),v8 (((cq aq 16) &&& 255).toUInt8),v8 (((cq au 8) &&& 255).toUInt8),v8 ((aD &&& 255).toUInt8)]) u25 ti5 Z Z Z Z q11 q11 a) Z fun cB w a=>aK h fun cd bQ h=>sP (a.j [2] Z Z) Z Z (pg u25 ti5 Z Z Z a (i:=1) Z (a.ro 0 Z) bQ) Z ?_
  rintro ce w a
  exact bT 1 Z (a.j [2] Z Z)<|gf (a.j [2] Z Z)<|eH<|bL<|bS<|J 3 Z<|d7<|iz (iM (cc (cd,wI (ct+1)) _ _ ⟨ce,Z,(a.j [1,2] Z Z)⟩ (eG h bC)) Z)
 refine fc<|cj<|cj<|have h:=ep h bC;fe<|bL<|gl4<|J 2 Z<|gl3<|iY ?_
 cases h
 exact gc Z Z (a.j [0] Z Z)
theorem ir {f:World} (a0:UInt64) (a1:Int) {r:UInt64}
  (h:F.Uc a0 a1=some r) :Calls Tryz.prog 222 #[H a0,R a1] f (K fun v w=>v=H r/\St [] f w []):=by
 refine ca2 15 Tryz.func222 Z Z Z<|have hS:=St.r f;?_
 unfold F.Uc at h
 exact wk
set_option maxHeartbeats 8000000 in
theorem Eg {C:World} {a0:L00} {bW:Value} (y:List UInt64) {r:L00}
  (h:F.Y3 a0 y=some r) (hT:TB [] C) (bY:O [] C M bW a0) (ca:y.length=8):Calls Tryz.prog 160 #[bW,.agg (e64.fl y).toArray] C (K fun v w=>St [] C w [W M v r]):=by
 refine dP 242 Tryz.func160 Z Z Z<|have a:=St.r C;eZ [(0,bW),(1,.agg (e64.fl y).toArray)] Z ?_
 unfold F.Y3 at h
 refine gl4<|mZ (rF (cs:=e64.fl y) Z Z a) Z fun c w a=>J 1 Z<|gl2<|J 1 Z<|aK h fun aJ cH h=>rJ a Z (pX 128 cH (bY.f a.fr).rp) Z fun az w a=>J 1 Z<|gl3 ?_
 refine iF (r:=r) (fun (g:L00) L w=>∃(d:Value),L=[(3,Q c 0),(5,d)]/\St [] C w [W M d g,X c (e64.fl y)]) (F.WH y) ?_ ?_
 rotate_left
 ·intro bl
  refine iF (r:=r) (fun (g:Bool) L w=>L=[(3,Q c 0),(5,az),(35,P g)]/\St [] C w [X c (e64.fl y),W M az aJ]) (F.aae aJ y) ?_ ?_
  rotate_left
  ·intro bZ
   refine bS<|J 1 Z<|aQ (dV u25 Z (bY.f a.fr)) Z<|aQ (bk Z Z (uo _ (a0.length:Int) 128 q11)) Z<|J 2 Z ?_
   cases aA:(decide ((112:Int)<=(Int.tmod (a0.length:Int) 128)))
   case true=>
    have h:=md h aA
    try simp only[aA]
    exact J 1 Z<|kk (t:=30) Z Z (dV u25 Z (bY.f a.fr)) Z<|kk (t:=30) Z Z (bk Z Z (uo _ (a0.length:Int) 128 q11)) Z<|J 2 Z<|gl3<|ef (bZ (decide ((Int.tmod (a0.length:Int) 128)<120)) _ _ ⟨Z,(a.j [1,0] Z Z)⟩ h) Z
   case false=>
    have h:=me h aA
    try simp only[aA]
    exact J 5 Z<|gl3<|ef (bZ false _ _ ⟨Z,(a.j [1,0] Z Z)⟩ h) Z
  rintro dj L w hJ h
  try dsimp only at hJ
  obtain⟨rfl,a⟩:=hJ
  unfold F.aae at h
  apply gl9 Z h<;>intro h
  ·refine gl4<|J 1 Z<|gl2<|J 3 Z<|aQ (dV u25 Z (a.ro 1 Z)) Z<|J 1 Z<|wL h fun b0 h=>aQ (GE u25 ti5 Z Z (a.ro 1 Z) (ye b0)) Z<|aK h fun cI cb h=>mg (pJ u25 ti5 Z Z Z a ((a.ro 1 Z).tk b0.2) cb) Z fun b1 w a=>J 1 Z<|gl1<|gl4<|J 1 Z<|gl3<|cn<|eZ [(3,Q c 0),(5,az),(6,b1),(7,R 0)] Z ?_
   refine fN (F.WU aJ y) (fun (s:L00×Int) L w=>∃(be:Value),L=[(3,Q c 0),(5,az),(6,be),(7,R s.2)]/\St [] C w [W M be s.1,X c (e64.fl y),W M az aJ]) ?_ (cI,0) ⟨b1,Z,a⟩ h
   rintro c7 ⟨c8,cJ⟩ L w c9 z cc h bm
   try dsimp only at z
   obtain⟨be,rfl,a⟩:=z
   unfold F.WU at h
   refine cw<|gl4<|J 2 Z<|gl3 ?_
   apply gl9 Z h<;>intro h
   ·exact gl5<|cw<|cn<|bS<|J 1 Z<|mg (lR (e:=M) (l:=[0]) (vs:=[v8 0]) u25 ti5 Z Z Z Z q11 q11 a) Z fun da w a=>aK h fun cK cd h=>mg (pg u25 ti5 Z Z Z a (i:=1) Z (a.ro 0 Z) cd) Z fun cL w a=>J 1 Z<|d7<|eH<|bL<|bS<|J 3 Z<|d7<|iz (iM (cc (cK,wI (cJ+1)) _ _ ⟨cL,Z,(a.j [1,2,3] Z Z)⟩ (eG h bm)) Z)
   exact fc<|cj<|cj<|have h:=ep h bm;fe<|bL<|bS<|J 3 Z<|aQ (dV u25 Z (a.ro 2 Z)) Z<|J 1 Z<|aK h fun db bn h=>aQ (wG u25 ti5 Z Z (a.ro 2 Z) bn) Z<|aK h fun cM ce h=>mg (pg u25 ti5 Z Z Z a (i:=0) Z ((a.ro 2 Z).g_sll bn) ce) Z fun cN w a=>J 1 Z<|gl3<|ef (bl cM _ _ ⟨cN,Z,(a.j [0,1] Z Z)⟩ h) Z
  exact gl5<|ef (bl aJ _ _ ⟨az,Z,(a.j [1,0] Z Z)⟩ h) Z
 rintro p L w hJ h
 try dsimp only at hJ
 obtain⟨d,rfl,a⟩:=hJ
 unfold F.WH at h
 refine cw<|gl4<|J 1 Z<|gl3<|cn<|eZ [(3,Q c 0),(5,d),(8,R 0)] Z ?_
 refine fN (F.Zp p) (fun (s:Int×List UInt64) L w=>L=[(3,Q c 0),(5,d),(8,R s.1)]/\s.2.length=8/\St [] C w [X c (e64.fl s.2),W M d p]) ?_ (0,y) ⟨Z,ca,(a.j [1,0] Z Z)⟩ h
 rintro cV ⟨q,k⟩ L w dc z cf h bo
 try dsimp only at z
 obtain⟨rfl,ab,a⟩:=z
 unfold F.Zp at h
 refine cw<|gl4<|J 2 Z<|aQ (dV u25 Z (a.ro 1 Z)) Z<|J 1 Z<|gl3 ?_
 apply gl9 Z h<;>intro h
 ·refine gl5<|cw<|cn<|gl4<|mZ (mx (cs:=e64.fl (List.replicate 80 0)) Nk (by kernel_rfl) a) Z fun o w a=>gl1<|gl4<|J 1 Z<|gl3<|cn<|eZ [(3,Q c 0),(5,d),(8,R q),(9,Q o 0),(10,R 0)] Z ?_
  refine fN (F.WS k p q) (fun (s:Int×List UInt64) L w=>L=[(3,Q c 0),(5,d),(8,R q),(9,Q o 0),(10,R s.1)]/\s.2.length=80/\St [] C w [X c (e64.fl k),W M d p,X o (e64.fl s.2)]) ?_ (0,(List.replicate 80 0)) ⟨Z,aZ,(a.j [1,2,0] Z Z)⟩ h
  rintro cW ⟨aa,aj⟩ L w cO z cg h bp
  try dsimp only at z
  obtain⟨rfl,A,a⟩:=z
  unfold F.WS at h
  refine cw<|gl4<|J 2 Z<|gl3 ?_
  apply gl9 Z h<;>intro h
  ·refine gl5 ?_
   refine iF (r:=cO) (fun (g:List UInt64) L w=>L=[(3,Q c 0),(5,d),(8,R q),(9,Q o 0),(10,R aa)]/\g.length=80/\St [] C w [X c (e64.fl k),W M d p,X o (e64.fl g)]) (F.XK aa) ?_ ?_
   rotate_left
   ·intro bq
    refine cn<|cw<|gl4<|J 2 Z<|gl3 ?_
    apply gl9 Z h<;>intro h
    ·refine cw<|gl4<|J 1 Z<|gl3<|cn<|eZ [(3,Q c 0),(5,d),(8,R q),(9,Q o 0),(10,R aa),(11,R 0)] Z ?_
     refine fN (F.Xe p q aa) (fun (s:Int×List UInt64) L w=>L=[(3,Q c 0),(5,d),(8,R q),(9,Q o 0),(10,R aa),(11,R s.1)]/\s.2.length=80/\St [] C w [X c (e64.fl k),W M d p,X o (e64.fl s.2)]) ?_ (0,aj) ⟨Z,A,a⟩ h
     rintro dd ⟨cP,b2⟩ L w de z ch h br
     try dsimp only at z
     obtain⟨rfl,aq,a⟩:=z
     unfold F.Xe at h
     refine cw<|gl4<|J 2 Z<|gl3 ?_
     apply gl9 Z h<;>intro h
     ·refine gl5<|cw<|cn<|gV (fun w'=>St [] C w' [X c (e64.fl k),W M d p,X o (e64.fl b2)]) (fun i=>!([17].contains i)) gC (fun _ _ _ D=>D.2) (fun _ _ D=>D) (by kernel_rfl)<|have a:=a.drew;show lxE _ _ _ _ _ _ _ [0,1,2,3,4,5,6,7,8,9,10,11,12,13,14,15,16,17] _ _ from bT 2 Z a<|aK h fun bf bs h=>aN a Z Z (fun w b=>cE u202 g8 Z Z (cA bs aq)) Z<|aN a Z Z (fun w b=>bX u106 Z Z (b.x 2 Z (Up.elr Up.last bs Z))) Z<|aN a Z Z (fun w b=>bk Z Z (wJ _ bf 8)) Z<|bT 3 Z a<|aN a Z Z (fun w b=>bk Z Z (rC _ 8 aa)) Z<|bT 3 Z a<|aK h fun bg bt h=>aN a Z Z (fun w b=>mz u25 ti5 Z Z (b.ro 1 Z) bt) Z<|aN a Z Z (fun w b=>iu Tryz.underlying5 Z Z (b.ro 1 Z) bt Z) Z<|aN a Z Z (fun w b=>io Z (FG Tryz.underlying5 u106 bg)) Z<|aN a Z Z (fun w b=>bk Z Z (Ke _ (di bf 8) bg.toUInt64)) Z<|aK h fun df bu h=>aN a Z Z (fun w b=>cE u202 g8 Z Z (cA bu aq)) Z<|mD a Z Z (jx (m:=1) Z g8 Z Z Z (Up.elt (t':=((di bf 8) ||| bg.toUInt64)) Up.last bu Z Z) Z Z (nM Z) a (i:=2)) fun w a=>jp h fun cQ bv h=>?_
      rw[bv]at a
      exact gf I<|eH<|bL<|bS<|J 3 Z<|d7<|iz (iM (ch (wI (cP+1),cQ) _ _ ⟨Z,(by rw[<-bv,bM]; exact aq),a⟩ (eG h br)) Z)
     exact fc<|cj<|cj<|have h:=ep h br;fe<|bL<|fc<|cj<|fe<|bL<|ef (bq b2 _ _ ⟨Z,aq,a⟩ h) Z
    refine gl6<|J 2 Z<|aK h fun S bw h=>aQ (cE u202 g8 Z Z (cA bw A)) Z<|aQ (bX u106 Z Z (a.x 2 Z (Up.elr Up.last bw Z))) Z<|J 1 Z<|gl2<|J 2 Z<|aK h fun ak bz h=>aQ (cE u202 g8 Z Z (cA bz A)) Z<|aQ (bX u106 Z Z (a.x 2 Z (Up.elr Up.last bz Z))) Z<|J 1 Z<|gl3<|gV (fun w'=>St [] C w' [X c (e64.fl k),W M d p,X o (e64.fl aj)]) (fun i=>!([6,8,20,22,29].contains i)) gC (fun _ _ _ D=>D.2) (fun _ _ D=>D) (by kernel_rfl)<|have a:=a.drew;show lxE _ _ _ _ _ _ _ [0,1,2,3,4,5,6,7,8,9,10,11,12,13,14,15,16,17,18,19,20,21,22,23,24,25,26,27,28,29] _ _ from bT 3 Z a<|aK h fun aB bA h=>aN a Z Z (fun w b=>cE u202 g8 Z Z (cA bA A)) Z<|aN a Z Z (fun w b=>bX u106 Z Z (b.x 2 Z (Up.elr Up.last bA Z))) Z<|bT 1 Z a<|aK h fun al ci h=>fM a Z Z (by kernel_rfl) Z (ir S 1 ci ) Z ?_
    rintro _ w ⟨rfl,u⟩
    have a:=a.p u
    refine bT 1 Z a<|aK h fun am ck h=>fM a Z Z (by kernel_rfl) Z (ir S 8 ck ) Z ?_
    rintro _ w ⟨rfl,u⟩
    have a:=a.p u
    refine aN a Z Z (fun w b=>bk Z Z (mj _ al am)) Z<|bT 1 Z a<|aN a Z Z (fun w b=>bk Z Z (qf _ S 7)) Z<|aN a Z Z (fun w b=>bk Z Z (mj _ (al ^^^ am) (bH S 7))) Z<|aN a Z Z (fun w b=>bk Z Z (lV _ aB ((al ^^^ am) ^^^ (bH S 7)))) Z<|bT 2 Z a<|aK h fun bh bB h=>aN a Z Z (fun w b=>cE u202 g8 Z Z (cA bB A)) Z<|aN a Z Z (fun w b=>bX u106 Z Z (b.x 2 Z (Up.elr Up.last bB Z))) Z<|aN a Z Z (fun w b=>bk Z Z (lV _ (aB+((al ^^^ am) ^^^ (bH S 7))) bh)) Z<|bT 1 Z a<|aK h fun aC cl h=>fM a Z Z (by kernel_rfl) Z (ir ak 19 cl ) Z ?_
    rintro _ w ⟨rfl,u⟩
    have a:=a.p u
    refine bT 1 Z a<|aK h fun aD cm h=>fM a Z Z (by kernel_rfl) Z (ir ak 61 cm ) Z ?_
    rintro _ w ⟨rfl,u⟩
    have a:=a.p u
    refine aN a Z Z (fun w b=>bk Z Z (mj _ aC aD)) Z<|bT 1 Z a<|aN a Z Z (fun w b=>bk Z Z (qf _ ak 6)) Z<|aN a Z Z (fun w b=>bk Z Z (mj _ (aC ^^^ aD) (bH ak 6))) Z<|aN a Z Z (fun w b=>bk Z Z (lV _ ((aB+((al ^^^ am) ^^^ (bH S 7)))+bh) ((aC ^^^ aD) ^^^ (bH ak 6)))) Z<|aK h fun dg bC h=>aN a Z Z (fun w b=>cE u202 g8 Z Z (cA bC A)) Z<|mD a Z Z (jx (m:=1) Z g8 Z Z Z (Up.elt (t':=(((aB+((al ^^^ am) ^^^ (bH S 7)))+bh)+((aC ^^^ aD) ^^^ (bH ak 6)))) Up.last bC Z Z) Z Z (nM Z) a (i:=2)) fun w a=>jp h fun cR bD h=>?_
    rw[bD]at a
    exact gf I<|eH<|bL<|ef (bq cR _ _ ⟨Z,(by rw[<-bD,bM]; exact A),a⟩ h) Z
   rintro cS L w hJ h
   try dsimp only at hJ
   obtain⟨rfl,co,a⟩:=hJ
   unfold F.XK at h
   exact bS<|J 3 Z<|d7<|iz (iM (cg (wI (aa+1),cS) _ _ ⟨Z,co,a⟩ (eG h bp)) Z)
  refine fc<|cj<|cj<|have h:=ep h bp;fe<|bL<|gl4<|aQ (mH (us:=e64.fl k) u166 Z rT (dQ ab Z) Z (a.bxgs0 0 Z Up.last)) Z<|mZ (mx (cs:=e64.fl (List.replicate 8 0)) R1 (by kernel_rfl) a) Z fun E w a=>kP (jx (m:=8) (xs:=e64.fl (List.replicate 8 0)) (xs':=e64.fl k) (i:=0) Z rT Z Z Z Up.last (dQ aZ Z) (dQ ab Z) oU a) fun w a=>gl1<|gl4<|J 1 Z<|gl3<|cn<|eZ [(3,Q c 0),(5,d),(8,R q),(9,Q o 0),(14,Q E 0),(15,R 0)] Z ?_
  refine fN (F.YP k aj q) (fun (s:Int×List UInt64) L w=>L=[(3,Q c 0),(5,d),(8,R q),(9,Q o 0),(14,Q E 0),(15,R s.1)]/\s.2.length=8/\St [] C w [X c (e64.fl k),W M d p,X o (e64.fl aj),X E (e64.fl s.2)]) ?_ (0,k) ⟨Z,ab,(a.j [1,2,3,0] Z Z)⟩ h
  rintro cX ⟨cT,an⟩ L w dh z cp h bE
  try dsimp only at z
  obtain⟨rfl,f,a⟩:=z
  unfold F.YP at h
  refine cw<|gl4<|J 2 Z<|gl3 ?_
  apply gl9 Z h<;>intro h
  ·refine gl5<|cw<|cn<|gl4<|aK h fun n bF h=>aQ (cE u166 g8 Z Z (cA bF f)) Z<|aQ (bX u106 Z Z (a.x 3 Z (Up.elr Up.last bF Z))) Z<|J 1 Z<|gl2<|aK h fun j bG h=>aQ (cE u166 g8 Z Z (cA bG f)) Z<|aQ (bX u106 Z Z (a.x 3 Z (Up.elr Up.last bG Z))) Z<|J 1 Z<|gl1<|lI (fun w'=>St [] C w' [X c (e64.fl k),W M d p,X o (e64.fl aj),X E (e64.fl an)]) (fun i=>!([3,5,8].contains i)) gC (fun _ _ _ D=>D.2) (fun _ _ D=>D) (by kernel_rfl)<|have a:=a.drew;show lxE _ _ _ _ _ _ _ [0,1,2,3,4,5,6,7,8,9,10,11,12,13,14,15,16,17,18,19,20,21,22,23,24,25,26,27,28,29,30] _ _ from aK h fun aE bI h=>aN a Z Z (fun w b=>cE u166 g8 Z Z (cA bI f)) Z<|aN a Z Z (fun w b=>bX u106 Z Z (b.x 3 Z (Up.elr Up.last bI Z))) Z<|bT 1 Z a<|aK h fun ao cq h=>fM a Z Z (by kernel_rfl) Z (ir j 14 cq ) Z ?_
   rintro _ w ⟨rfl,u⟩
   have a:=a.p u
   refine bT 1 Z a<|aK h fun ap cr h=>fM a Z Z (by kernel_rfl) Z (ir j 18 cr ) Z ?_
   rintro _ w ⟨rfl,u⟩
   have a:=a.p u
   refine aN a Z Z (fun w b=>bk Z Z (mj _ ao ap)) Z<|bT 1 Z a<|aK h fun aw ct h=>fM a Z Z (by kernel_rfl) Z (ir j 41 ct ) Z ?_
   rintro _ w ⟨rfl,u⟩
   have a:=a.p u
   refine aN a Z Z (fun w b=>bk Z Z (mj _ (ao ^^^ ap) aw)) Z<|aN a Z Z (fun w b=>bk Z Z (lV _ aE ((ao ^^^ ap) ^^^ aw))) Z<|bT 1 Z a<|aK h fun ax bJ h=>aN a Z Z (fun w b=>cE u166 g8 Z Z (cA bJ f)) Z<|aN a Z Z (fun w b=>bX u106 Z Z (b.x 3 Z (Up.elr Up.last bJ Z))) Z<|aN a Z Z (fun w b=>bk Z Z (px _ j ax)) Z<|bT 1 Z a<|aN a Z Z (fun w b=>wF Z (Ps j)) Z<|aK h fun ay bK h=>aN a Z Z (fun w b=>cE u166 g8 Z Z (cA bK f)) Z<|aN a Z Z (fun w b=>bX u106 Z Z (b.x 3 Z (Up.elr Up.last bK Z))) Z<|aN a Z Z (fun w b=>bk Z Z (px _ (~~~ j) ay)) Z<|aN a Z Z (fun w b=>bk Z Z (mj _ (j &&& ax) ((~~~ j) &&& ay))) Z<|aN a Z Z (fun w b=>bk Z Z (lV _ (aE+((ao ^^^ ap) ^^^ aw)) ((j &&& ax) ^^^ ((~~~ j) &&& ay)))) Z<|bT 1 Z a<|aK h fun b3 bN h=>aN a Z Z (fun w b=>cE u202 g8 Z Z (cA bN (show F.US.length=80 from Z))) Z<|aN a Z Z (fun w b=>bX u106 Z Z (hT.ref4_k512.cell b.fr bN Z)) Z<|aN a Z Z (fun w b=>bk Z Z (lV _ ((aE+((ao ^^^ ap) ^^^ aw))+((j &&& ax) ^^^ ((~~~ j) &&& ay))) b3)) Z ?_
   refine bT 1 Z a<|aK h fun cU bO h=>aN a Z Z (fun w b=>cE u202 g8 Z Z (cA bO A)) Z<|aN a Z Z (fun w b=>bX u106 Z Z (b.x 2 Z (Up.elr Up.last bO Z))) Z<|aN a Z Z (fun w b=>bk Z Z (lV _ (((aE+((ao ^^^ ap) ^^^ aw))+((j &&& ax) ^^^ ((~~~ j) &&& ay)))+b3) cU)) Z<|jp h fun x cu h=>aN a Z Z (fun w b=>fk (v:=H x) (by rw[<-cu]; rfl)) Z<|gf a<|bL<|cw<|lI (fun w'=>St [] C w' [X c (e64.fl k),W M d p,X o (e64.fl aj),X E (e64.fl an)]) (fun i=>!([1,3,6].contains i)) gC (fun _ _ _ D=>D.2) (fun _ _ D=>D) (by kernel_rfl)<|have a:=a.drew;show lxE _ _ _ _ _ _ _ [0,1,2,3,4,5,6,7,8,9,10,11,12,13,14,15,16,17,18,19,20,21,22,23,24] _ _ from bT 1 Z a<|aK h fun bi cv h=>fM a Z Z (by kernel_rfl) Z (ir n 28 cv ) Z ?_
   rintro _ w ⟨rfl,u⟩
   have a:=a.p u
   refine bT 1 Z a<|aK h fun bj cx h=>fM a Z Z (by kernel_rfl) Z (ir n 34 cx ) Z ?_
   rintro _ w ⟨rfl,u⟩
   have a:=a.p u
   refine aN a Z Z (fun w b=>bk Z Z (mj _ bi bj)) Z<|bT 1 Z a<|aK h fun b4 cy h=>fM a Z Z (by kernel_rfl) Z (ir n 39 cy ) Z ?_
   rintro _ w ⟨rfl,u⟩
   have a:=a.p u
   refine aN a Z Z (fun w b=>bk Z Z (mj _ (bi ^^^ bj) b4)) Z<|bT 1 Z a<|aK h fun aF bP h=>aN a Z Z (fun w b=>cE u166 g8 Z Z (cA bP f)) Z<|aN a Z Z (fun w b=>bX u106 Z Z (b.x 3 Z (Up.elr Up.last bP Z))) Z<|aN a Z Z (fun w b=>bk Z Z (px _ n aF)) Z<|bT 1 Z a<|aK h fun aG bQ h=>aN a Z Z (fun w b=>cE u166 g8 Z Z (cA bQ f)) Z<|aN a Z Z (fun w b=>bX u106 Z Z (b.x 3 Z (Up.elr Up.last bQ Z))) Z<|aN a Z Z (fun w b=>bk Z Z (px _ n aG)) Z<|aN a Z Z (fun w b=>bk Z Z (mj _ (n &&& aF) (n &&& aG))) Z<|aK h fun aH aM h=>aN a Z Z (fun w b=>cE u166 g8 Z Z (cA aM f)) Z<|aN a Z Z (fun w b=>bX u106 Z Z (b.x 3 Z (Up.elr Up.last aM Z))) Z<|aK h fun aI aO h=>aN a Z Z (fun w b=>cE u166 g8 Z Z (cA aO f)) Z<|aN a Z Z (fun w b=>bX u106 Z Z (b.x 3 Z (Up.elr Up.last aO Z))) Z<|aN a Z Z (fun w b=>bk Z Z (px _ aH aI)) Z<|aN a Z Z (fun w b=>bk Z Z (mj _ ((n &&& aF) ^^^ (n &&& aG)) (aH &&& aI))) Z<|aN a Z Z (fun w b=>bk Z Z (lV _ ((bi ^^^ bj) ^^^ b4) (((n &&& aF) ^^^ (n &&& aG)) ^^^ (aH &&& aI)))) Z ?_
   refine jp h fun G b5 h=>aN a Z Z (fun w b=>fk (v:=H G) (by rw[<-b5]; rfl)) Z<|gf a<|bL<|bS<|J 2 Z<|aQ (bk Z Z (lV _ x G)) Z<|J 1 Z<|aK h fun ac aP h=>aQ (cE u166 g8 Z Z (cA aP f)) Z<|aQ (bX u106 Z Z (a.x 3 Z (Up.elr Up.last aP Z))) Z<|aK h fun ad aR h=>aQ (cE u166 g8 Z Z (cA aR f)) Z<|aQ (bX u106 Z Z (a.x 3 Z (Up.elr Up.last aR Z))) Z<|aK h fun T aS h=>aQ (cE u166 g8 Z Z (cA aS f)) Z<|aQ (bX u106 Z Z (a.x 3 Z (Up.elr Up.last aS Z))) Z<|J 1 Z<|aQ (bk Z Z (lV _ T x)) Z<|J 1 Z<|aK h fun ae aT h=>aQ (cE u166 g8 Z Z (cA aT f)) Z<|aQ (bX u106 Z Z (a.x 3 Z (Up.elr Up.last aT Z))) Z<|aK h fun af aU h=>aQ (cE u166 g8 Z Z (cA aU f)) Z<|aQ (bX u106 Z Z (a.x 3 Z (Up.elr Up.last aU Z))) Z<|aQ (ig (vs:=[(0,H (x+G),[H (x+G)]),(1,H n,[H n]),(2,H ac,[H ac]),(3,H ad,[H ad]),(4,H (T+x),[H (T+x)]),(5,H j,[H j]),(6,H ae,[H ae]),(7,H af,[H af])]) (cells:=[H (x+G),H n,H ac,H ad,H (T+x),H j,H ae,H af]) Z H6 ⟨Z,Z,Z,Z,Z,Z,Z,Z,I⟩ (by kernel_rfl)) Z ?_
   exact kP (jx (m:=8) (xs:=e64.fl an) (xs':=e64.fl ([x+G,n,ac,ad,T+x,j,ae,af]:List UInt64)) (i:=3) Z rT Z Z Z Up.last (dQ f Z) (dQ Z Z) oU a) fun w a=>d7<|eH<|bL<|bS<|J 3 Z<|d7<|iz (iM (cp (wI (cT+1),([x+G,n,ac,ad,T+x,j,ae,af]:List UInt64)) _ _ ⟨Z,Z,a⟩ (eG h bE)) Z)
  refine fc<|cj<|cj<|have h:=ep h bE;fe<|bL<|gl4<|J 1 Z<|gl3<|cn<|eZ [(3,Q c 0),(5,d),(8,R q),(14,Q E 0),(20,R 0)] Z ?_
  refine fN (F.W5 q an) (fun (s:Int×List UInt64) L w=>L=[(3,Q c 0),(5,d),(8,R q),(14,Q E 0),(20,R s.1)]/\s.2.length=8/\St [] C w [X c (e64.fl s.2),W M d p,X E (e64.fl an)]) ?_ (0,k) ⟨Z,ab,(a.j [0,1,3] Z Z)⟩ h
  rintro cY ⟨cz,bR⟩ L w cZ z b6 h aV
  try dsimp only at z
  obtain⟨rfl,ag,a⟩:=z
  unfold F.W5 at h
  refine cw<|gl4<|J 2 Z<|gl3 ?_
  apply gl9 Z h<;>intro h
  ·refine gl5<|cw<|cn<|gV (fun w'=>St [] C w' [X c (e64.fl bR),W M d p,X E (e64.fl an)]) (fun i=>!([9].contains i)) gC (fun _ _ _ D=>D.2) (fun _ _ D=>D) (by kernel_rfl)<|have a:=a.drew;show lxE _ _ _ _ _ _ _ [0,1,2,3,4,5,6,7,8,9] _ _ from bT 2 Z a<|aK h fun bU aW h=>aN a Z Z (fun w b=>cE u166 g8 Z Z (cA aW ag)) Z<|aN a Z Z (fun w b=>bX u106 Z Z (b.x 0 Z (Up.elr Up.last aW Z))) Z<|bT 1 Z a<|aK h fun bV aX h=>aN a Z Z (fun w b=>cE u166 g8 Z Z (cA aX f)) Z<|aN a Z Z (fun w b=>bX u106 Z Z (b.x 2 Z (Up.elr Up.last aX Z))) Z<|aN a Z Z (fun w b=>bk Z Z (lV _ bU bV)) Z<|aK h fun c0 aY h=>aN a Z Z (fun w b=>cE u166 g8 Z Z (cA aY ag)) Z<|mD a Z Z (jx (m:=1) Z g8 Z Z Z (Up.elt (t':=(bU+bV)) Up.last aY Z Z) Z Z (nM Z) a (i:=0)) fun w a=>jp h fun cB ba h=>?_
   rw[ba]at a
   exact gf I<|eH<|bL<|bS<|J 3 Z<|d7<|iz (iM (b6 (wI (cz+1),cB) _ _ ⟨Z,(by rw[<-ba,bM]; exact ag),a⟩ (eG h aV)) Z)
  exact fc<|cj<|cj<|have h:=ep h aV;fe<|eH<|bL<|bS<|J 3 Z<|d7<|iz (iM (cf (wI (q+128),bR) _ _ ⟨Z,ag,(a.j [0,1] Z Z)⟩ (eG h bo)) Z)
 refine fc<|cj<|cj<|have h:=ep h bo;fe<|bL<|gl4<|J 1 Z<|gl1<|gl4<|J 1 Z<|gl3<|cn<|eZ [(3,Q c 0),(21,.slice none 0 0),(22,R 0)] Z ?_
 refine fN (F.Zg k) (fun (s:L00×Int) L w=>∃(ah:Value),L=[(3,Q c 0),(21,ah),(22,R s.2)]/\St [] C w [W M ah s.1,X c (e64.fl k)]) ?_ ([],0) ⟨L02,Z,((a.nil M).j [0,1] Z Z)⟩ h
 rintro c1 ⟨cC,au⟩ L w c2 z b7 h bb
 try dsimp only at z
 obtain⟨ah,rfl,a⟩:=z
 unfold F.Zg at h
 refine cw<|gl4<|J 2 Z<|gl3 ?_
 apply gl9 Z h<;>intro h
 ·refine gl5<|cw<|cn<|gl4<|J 1 Z<|gl3<|cn<|eZ [(3,Q c 0),(21,ah),(22,R au),(23,R 7)] Z ?_
  refine fN (F.XE k au) (fun (s:L00×Int) L w=>∃(av:Value),L=[(3,Q c 0),(21,av),(22,R au),(23,R s.2)]/\St [] C w [W M av s.1,X c (e64.fl k)]) ?_ (cC,7) ⟨ah,Z,a⟩ h
  rintro c3 ⟨cD,B⟩ L w c4 z b8 h bc
  try dsimp only at z
  obtain⟨av,rfl,a⟩:=z
  unfold F.XE at h
  refine cw<|gl4<|J 2 Z<|gl3 ?_
  apply gl9 Z h<;>intro h
  ·exact gl5<|cw<|cn<|bS<|J 2 Z<|aK h fun ai bd h=>aQ (cE u166 g8 Z Z (cA bd ab)) Z<|aQ (bX u106 Z Z (a.x 1 Z (Up.elr Up.last bd Z))) Z<|J 1 Z<|aQ (bk Z Z (rC _ 8 B)) Z<|aQ (io Z (uN Tryz.underlying3 Tryz.underlying65 (wI (8*B)))) Z<|aQ (bk Z Z (qf _ ai (UInt64.ofInt (wI (8*B))))) Z<|aQ (bk Z Z (px _ (bH ai ((UInt64.ofInt (wI (8*B))).toNat)) 255)) Z<|aQ (io Z (FH u106 Tryz.underlying5 ((bH ai ((UInt64.ofInt (wI (8*B))).toNat)) &&& 255))) Z<|mg (lR (e:=M) (l:=[((bH ai ((UInt64.ofInt (wI (8*B))).toNat)) &&& 255).toUInt8]) (vs:=[v8 (((bH ai ((UInt64.ofInt (wI (8*B))).toNat)) &&& 255).toUInt8)]) u25 ti5 Z Z Z Z q11 q11 a) Z fun c5 w a=>aK h fun cF b9 h=>mg (pg u25 ti5 Z Z Z a (i:=1) Z (a.ro 0 Z) b9) Z fun cG w a=>J 1 Z<|d7<|eH<|bL<|bS<|J 3 Z<|d7<|iz (iM (b8 (cF,wI (B - 1)) _ _ ⟨cG,Z,(a.j [1,2] Z Z)⟩ (eG h bc)) Z)
  exact fc<|cj<|cj<|have h:=ep h bc;fe<|eH<|bL<|bS<|J 3 Z<|d7<|iz (iM (b7 (cD,wI (au+1)) _ _ ⟨av,Z,a⟩ (eG h bb)) Z)
 refine fc<|cj<|cj<|have h:=ep h bb;fe<|bL<|gl4<|J 2 Z<|gl3<|iY ?_
 cases h
 exact gc Z Z (a.j [0] Z Z)
theorem Gu {f:World} {a1:L00} {j:Value} (a0:Int) {r:L00}
  (h:F.UF a0 a1=some r) (hT:TB [] f) (p:O [] f M j a1):Calls Tryz.prog 77 #[R a0,j] f (K fun v w=>St [] f w [W M v r]):=by
 refine ca2 21 Tryz.func77 Z Z Z<|have hS:=St.r f;?_
 unfold F.UF at h
 exact wk
end Go.Proofs
