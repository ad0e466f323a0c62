import Derived.Test.YtahgjafdhjbkeaaGreatDoorRW0
import Derived.Test.YtahgjafdhjbkeaaGreatDoorGkFman
import Derived.Test.YtahgjafdhjbkeaaGreatDoorRWbignuma
set_option linter.unusedVariables false
set_option linter.unusedSimpArgs false
set_option linter.unusedSectionVars false
set_option maxRecDepth 4000
namespace Go.Proofs
open Go Go.RowKit Go.Gk
open Go.Gk renaming aa -> V, af -> J, ag -> N, ai -> H, e32 -> X, gl3 -> P, gl4 -> R, own -> U, pB -> O, vB -> K, vI -> I
open Nat renaming le_of_ble_eq_true -> W
open Go.Gk.OE renaming bx -> Y
theorem j9 {B:World} {a0 a1:L0} {bF bG:Value} {r:L0×L0}
  (h:F.E8 a0 a1=some r) (S:RP [] B X bF a0) (E:RP [] B X bG a1):Calls Tryz.prog 183 #[bF,bG] B (Ret fun v w=>∃u0 u1:Value,v=.tuple #[u0,u1]/\St [] B w [U X u0 r.1,U X u1 r.2]):=by
 refine aB 273 Tryz.func183 Z Z Z<|have a:=St.k B;ax [(0,bF),(1,bG)] Z ?_
 unfold F.E8 at h
 refine R<|V 2 Z<|gl1<|R<|V 1 Z<|N (aC u30 Z (E.b a.fr)) Z<|V 1 Z<|P ?_
 apply gl9 Z h<;>intro h
 ·refine R<|V 2 Z<|gl8 ?_
  cases h
  exact bY Z Z Z ⟨L3,L3,Z,((a.nil X).nil X).d [1,0] Z Z⟩
 refine gl5<|aw<|R<|V 2 Z<|J h fun dm cC h=>bf a Z (kc  cC (S.b a.fr).rp (E.b a.fr).rp) Z fun w a=>V 1 Z<|P ?_
 apply gl9 Z h<;>intro h
 ·refine R<|V 1 Z<|J h fun dn cD h=>aV a Z (jy  cD (S.b a.fr).rp) Z fun cV w a=>V 2 Z<|gl8 ?_
  cases h
  exact bY Z Z Z ⟨L3,cV,Z,(a.nil X).d [0,1] Z Z⟩
 refine gl5<|aw<|R<|V 1 Z<|N (aC u30 Z (S.b a.fr)) Z<|V 1 Z<|P ?_
 apply gl9 Z h<;>intro h
 ·refine R<|V 1 Z<|J h fun a2 cE h=>bf a Z (kY  cE (S.b a.fr).rp) Z fun w a=>V 1 Z<|J h fun a3 cF h=>bf a Z (kY  cF (E.b a.fr).rp) Z fun w a=>V 2 Z<|gl1<|aX (fun w'=>St [] B w' []) (fun i=>!([3,7].contains i)) bQ (fun _ _ _ y=>y.2) (fun _ _ y=>y) (by kernel_rfl)<|have a:=a.drew;show lxE _ _ _ _ _ _ _ [0,1,2,3,4,5,6,7,8,9] _ _ from ao 2 Z a<|c7 h fun cG h=>H a Z Z (fun w k=>aj Z Z (ii _ a2 a3 cG)) Z<|J h fun dp cH h=>aY a Z Z (by kernel_rfl) Z (ff (a2 / a3) cH ) Z fun cW w A=>have a:=a.e A;ao 2 Z (a.d [] Z Z)<|c7 h fun b1 h=>H (a.d [] Z Z) Z Z (fun w k=>aj Z Z (ft _ a2 a3 b1)) Z<|J h fun c8 b2 h=>aY (a.d [] Z Z) Z Z (by kernel_rfl) Z (ff (a2%a3) b2 ) Z fun cI w A=>have a:=a.e A;ao 2 Z (a.d [] Z Z)<|bp (a.d [] Z Z)<|ak<|gl7 ?_
  cases h
  exact bY Z Z Z ⟨cW,cI,Z,a.d [1,0] Z Z⟩
 refine gl5<|aw<|R<|V 1 Z<|N (aC u30 Z (E.b a.fr)) Z<|V 1 Z<|P ?_
 apply gl9 Z h<;>intro h
 ·refine R<|V 2 Z<|J h fun cJ a4 h=>N (bk u30 aN Z Z (E.b a.fr) a4) Z<|N (a9 u38 Z Z (E.b a.fr) a4 Z) Z<|J h fun ae b3 h=>eI a Z (qw cJ b3 (S.b a.fr).rp) Z fun bI w a=>V 5 Z<|gl2<|V 2 Z<|bC (cq (e:=X) (l:=([ae.2]:L0)) (vs:=[v32 ae.2]) u30 aN Z Z Z Z (by decide) (by decide) a) Z fun cK w a=>have hG:=a.pick (os':=[U X cK ([ae.2]:L0)]++[U X bI ae.1]) [0,1] (by decide) Z;J h fun da b4 h=>aH Z (dR  b4 hG.f ) Z ?_
  rintro cL w ⟨c0,bJ,A⟩
  rw[<-bJ]at A
  have a:=hG.g A
  refine V 2 Z<|gl8 ?_
  cases h
  exact bY Z Z Z ⟨bI,cL,Z,a.d [1,0] Z Z⟩
 refine gl6<|V 1 Z<|J h fun bL b5 h=>bf a Z (iL  b5 (E.b a.fr).rp) Z fun w a=>V 1 Z<|N (aj Z Z (fO _ (wI (bL - 1)) 32 (by decide))) Z<|V 2 Z<|N (aD Z (dC u3 u87 (wI ((wI (32 - (Int.tmod (wI (bL - 1)) 32))) - 1)))) Z<|aZ h fun n b6 h=>N (ba (v:=v64 n) (by rw[<-b6]; rfl)) Z<|gl2<|V 2 Z<|J h fun b b7 h=>aV a Z (ju n b7 (E.b a.fr).rp) Z fun c w a=>V 1 Z<|gl2<|V 1 Z<|N (aC u30 Z (S.b a.fr)) Z<|V 1 Z<|J h fun db b8 h=>bC (c9 (e:=X) u30 aN Z Z Z a b8) Z fun d w a=>V 1 Z<|gl2<|V 3 Z<|J h fun cM b9 h=>aV a Z (ju n b9 (S.b a.fr).rp) Z fun cN w a=>bC (ql (e:=X) u30 aN Z Z Z a (i:=1) Z (a.ro 0 Z)) Z ?_
 rintro v_q w ⟨hv_q,a⟩
 subst v_q
 obtain⟨bM,ca,h⟩:=eK h
 rw[ca]at a
 refine gl2<|V 1 Z<|N (aC u30 Z (a.ro 2 Z)) Z<|V 1 Z<|gl2<|V 1 Z<|N (aC u30 Z (a.ro 1 Z)) Z<|V 3 Z<|aZ h fun aA cb h=>N (ba (v:=I aA) (by rw[<-cb]; rfl)) Z<|gl2<|V 2 Z<|J h fun bN ce h=>bC (c9 (e:=X) u30 aN Z Z Z a ce) Z fun j w a=>V 1 Z<|gl1<|aX (fun w'=>St [] B w' [U X j bN,U X cN cM,U X d bM,U X c b]) (fun _=>true) bQ (fun _ _ _ y=>y.2) (fun _ _ y=>y) (by kernel_rfl)<|have a:=a.drew;show lxE _ _ _ _ _ _ _ [0,1,2,3,4,5,6,7,8,9,10,11,12,13] _ _ from ao 3 Z a<|J h fun f a5 h=>H a Z Z (fun w k=>bk u30 aN Z Z (k.ro 3 Z) a5) Z<|H a Z Z (fun w k=>a9 u38 Z Z (k.ro 3 Z) a5 Z) Z<|H a Z Z (fun w k=>aD Z (bK u38 u119 f)) Z<|ao 3 Z a<|J h fun m a6 h=>H a Z Z (fun w k=>bk u30 aN Z Z (k.ro 3 Z) a6) Z<|H a Z Z (fun w k=>a9 u38 Z Z (k.ro 3 Z) a6 Z) Z<|H a Z Z (fun w k=>aD Z (bK u38 u119 m)) Z<|ao 2 Z a<|bp a<|ak<|aw<|R<|V 2 Z ?_
 refine P<|aq<|ax [(10,v64 n),(11,c),(12,d),(13,I (b.length:Int)),(15,j),(16,v64 f.toUInt64),(17,v64 m.toUInt64),(18,I aA)] Z ?_
 refine aT (F.FG n b f m) (fun (s:Int×L0×L0) L w=>L=[(10,v64 n),(11,c),(12,d),(13,I (b.length:Int)),(15,j),(16,v64 f.toUInt64),(17,v64 m.toUInt64),(18,I s.1)]/\St [] B w [U X c b,U X d s.2.1,U X j s.2.2]) ?_ (aA,bM,bN) ⟨Z,(a.d [3,2,0] Z Z)⟩ h
 rintro c1 ⟨o,q,p⟩ L w bO T cg h a7
 try dsimp only at T
 obtain⟨rfl,a⟩:=T
 unfold F.FG at h
 refine aw<|R<|V 2 Z<|P ?_
 apply gl9 Z h<;>intro h
 ·refine gl5<|aw<|aq<|aw<|aX (fun w'=>St [] B w' [U X c b,U X d q,U X j p]) (fun _=>true) bQ (fun _ _ _ y=>y.2) (fun _ _ y=>y) (by kernel_rfl)<|have a:=a.drew;show lxE _ _ _ _ _ _ _ [0,1,2,3,4,5,6,7,8,9,10,11,12,13,14,15,16,17] _ _ from ao 4 Z a<|J h fun aJ bb h=>H a Z Z (fun w k=>bk u30 aN Z Z (k.ro 1 Z) bb) Z<|H a Z Z (fun w k=>a9 u38 Z Z (k.ro 1 Z) bb Z) Z<|H a Z Z (fun w k=>aD Z (bK u38 u119 aJ)) Z<|H a Z Z (fun w k=>aj Z Z (du _ aJ.toUInt64 32)) Z<|ao 5 Z a<|J h fun bP be h=>H a Z Z (fun w k=>bk u30 aN Z Z (k.ro 1 Z) be) Z<|H a Z Z (fun w k=>a9 u38 Z Z (k.ro 1 Z) be Z) Z<|H a Z Z (fun w k=>aD Z (bK u38 u119 bP)) Z<|H a Z Z (fun w k=>aj Z Z (fo _ (bH aJ.toUInt64 32) bP.toUInt64)) Z<|aZ h fun C ch h=>H a Z Z (fun w k=>ba (v:=v64 C) (by rw[<-ch]; rfl)) Z<|bp a<|ak<|aw<|aX (fun w'=>St [] B w' [U X c b,U X d q,U X j p]) (fun _=>true) bQ (fun _ _ _ y=>y.2) (fun _ _ y=>y) (by kernel_rfl)<|have a:=a.drew;show lxE _ _ _ _ _ _ _ [0,1,2,3,4,5,6,7] _ _ from ao 2 Z a<|c7 h fun ci h=>?_
  refine H a Z Z (fun w k=>aj Z Z (ii _ C f.toUInt64 ci)) Z<|ao 2 Z a<|c7 h fun cj h=>H a Z Z (fun w k=>aj Z Z (ft _ C f.toUInt64 cj)) Z<|ao 2 Z a<|bp a<|ak ?_
  refine a8 (r:=bO) (fun (g:UInt64) L w=>L=[(10,v64 n),(11,c),(12,d),(13,I (b.length:Int)),(15,j),(16,v64 f.toUInt64),(17,v64 m.toUInt64),(18,I o),(20,v64 g)]/\St [] B w [U X c b,U X d q,U X j p]) (F.Fp q b o p) ?_ ?_
  rotate_left
  ·intro bg
   refine aq<|ax [(10,v64 n),(11,c),(12,d),(13,I (b.length:Int)),(15,j),(16,v64 f.toUInt64),(17,v64 m.toUInt64),(18,I o),(20,v64 (C / f.toUInt64)),(21,v64 (C%f.toUInt64))] Z ?_
   refine aT (F.FV b m o q f p) (fun (s:UInt64×UInt64) L w=>L=[(10,v64 n),(11,c),(12,d),(13,I (b.length:Int)),(15,j),(16,v64 f.toUInt64),(17,v64 m.toUInt64),(18,I o),(20,v64 s.1),(21,v64 s.2)]/\St [] B w [U X c b,U X d q,U X j p]) ?_ (C / f.toUInt64,C%f.toUInt64) ⟨Z,a⟩ h
   rintro dc ⟨u,z⟩ L w cO T ck h ah
   try dsimp only at T
   obtain⟨rfl,a⟩:=T
   unfold F.FV at h
   refine aw ?_
   refine a8 (r:=cO) (fun (g:Bool) L w=>L=[(10,v64 n),(11,c),(12,d),(13,I (b.length:Int)),(15,j),(16,v64 f.toUInt64),(17,v64 m.toUInt64),(18,I o),(20,v64 u),(21,v64 z),(154,K g)]/\St [] B w [U X c b,U X d q,U X j p]) (F.Em f u z q b o p) ?_ ?_
   rotate_left
   ·intro bh
    refine al<|V 1 Z<|N (aj Z Z (jP _ u 4294967295)) Z<|V 1 Z ?_
    cases G:(decide ((4294967295:UInt64)<u))
    case true=>
     have h:=cz h G
     try simp only[G]
     exact V 16 Z<|P<|aG (bh true _ _ ⟨Z,a⟩ h) Z
    case false=>
     have h:=cA h G
     try simp only[G]
     exact V 2 Z<|bB (t:=138) Z Z (aj Z Z (gD _ u m.toUInt64)) Z<|V 1 Z<|bB (t:=138) Z Z (aj Z Z (du _ z 32)) Z<|V 5 Z<|J h fun am bi h=>bB (t:=138) Z Z (bk u30 aN Z Z (a.ro 1 Z) bi) Z<|bB (t:=138) Z Z (a9 u38 Z Z (a.ro 1 Z) bi Z) Z<|bB (t:=138) Z Z (aD Z (bK u38 u119 am)) Z<|bB (t:=138) Z Z (aj Z Z (fo _ (bH z 32) am.toUInt64)) Z<|bB (t:=138) Z Z (aj Z Z (jP _ (u*m.toUInt64) ((bH z 32) ||| am.toUInt64))) Z<|V 1 Z<|P<|aG (bh (decide (((bH z 32) ||| am.toUInt64)<(u*m.toUInt64))) _ _ ⟨Z,a⟩ h) Z
   rintro dd L w hJ h
   try dsimp only at hJ
   obtain⟨rfl,a⟩:=hJ
   unfold F.Em at h
   apply gl9 Z h<;>intro h
   ·refine gl5<|aq<|R<|V 1 Z<|N (aj Z Z (eN _ u 1)) Z<|V 1 Z<|gl2<|V 2 Z<|N (aj Z Z (bT _ z f.toUInt64)) Z<|V 1 Z<|gl2<|V 1 Z<|N (aj Z Z (jP _ (z+f.toUInt64) 4294967295)) Z<|P ?_
    apply gl9 Z h<;>intro h
    ·exact aQ<|oZ Z<|av<|have h:=aI h ah;aR<|ak<|aG (bg (u - 1) _ _ ⟨Z,a⟩ h) Z
    exact cd<|aF<|bd (bc (ck (u - 1,z+f.toUInt64) _ _ ⟨Z,a⟩ (aK h ah)) Z)
   exact aQ<|av<|av<|have h:=aI h ah;aR<|ak<|aG (bg u _ _ ⟨Z,a⟩ h) Z
  rintro x L w hJ h
  try dsimp only at hJ
  obtain⟨rfl,a⟩:=hJ
  unfold F.Fp at h
  refine R<|V 2 Z<|gl1<|R<|V 1 Z<|P<|aq<|ax [(10,v64 n),(11,c),(12,d),(13,I (b.length:Int)),(15,j),(16,v64 f.toUInt64),(17,v64 m.toUInt64),(18,I o),(20,v64 x),(22,v64 0),(23,v64 0),(24,I 0)] Z ?_
  refine aT (F.E7 b o x p) (fun (s:UInt64×UInt64×Int×L0) L w=>L=[(10,v64 n),(11,c),(12,d),(13,I (b.length:Int)),(15,j),(16,v64 f.toUInt64),(17,v64 m.toUInt64),(18,I o),(20,v64 x),(22,v64 s.1),(23,v64 s.2.1),(24,I s.2.2.1)]/\St [] B w [U X c b,U X d s.2.2.2,U X j p]) ?_ (0,0,0,q) ⟨Z,a⟩ h
  rintro c2 ⟨aL,bR,cP,de⟩ L w df T cl h bj
  try dsimp only at T
  obtain⟨rfl,a⟩:=T
  unfold F.E7 at h
  refine aw<|R<|V 3 Z<|P ?_
  apply gl9 Z h<;>intro h
  ·refine gl5<|aw<|aq<|R<|V 4 Z<|J h fun aM bl h=>N (bk u30 aN Z Z (a.ro 0 Z) bl) Z<|N (a9 u38 Z Z (a.ro 0 Z) bl Z) Z<|N (aD Z (bK u38 u119 aM)) Z<|N (aj Z Z (gD _ x aM.toUInt64)) Z<|N (aj Z Z (bT _ aL (x*aM.toUInt64))) Z<|aZ h fun D cm h=>N (ba (v:=v64 D) (by rw[<-cm]; rfl)) Z<|gl2<|V 4 Z<|J h fun aP bm h=>N (bk u30 aN Z Z (a.ro 1 Z) bm) Z<|N (a9 u38 Z Z (a.ro 1 Z) bm Z) Z<|N (aD Z (bK u38 u119 aP)) Z<|V 1 Z<|N (aD Z (cc u119 u38 D)) Z<|N (aD Z (bK u38 u119 D.toUInt32)) Z<|N (aj Z Z (eN _ aP.toUInt64 D.toUInt32.toUInt64)) Z<|V 1 Z<|N (aj Z Z (eN _ (aP.toUInt64 - D.toUInt32.toUInt64) bR)) Z<|aZ h fun ab cn h=>N (ba (v:=v64 ab) (by rw[<-cn]; rfl)) Z<|gl2<|V 5 Z<|N (aD Z (cc u119 u38 ab)) Z<|J h fun dg bn h=>N (bk u30 aN Z Z (a.ro 1 Z) bn) Z<|bo (bX (t:=ab.toUInt32) aN Z Z a (i:=1) Z bn Z) ?_
   intro w a
   obtain⟨cQ,co,h⟩:=eK h
   rw[co]at a
   exact gl2<|V 1 Z<|N (aj Z Z (cf _ ab 63)) Z<|V 1 Z<|P<|al<|V 1 Z<|N (aj Z Z (cf _ D 32)) Z<|V 1 Z<|aE<|aF<|ak<|al<|V 3 Z<|aE<|bd (bc (cl (aO D 32,aO ab 63,wI (cP+1),cQ) _ _ ⟨Z,a⟩ (aK h bj)) Z)
  refine aQ<|av<|av<|have h:=aI h bj;aR<|ak<|R<|V 4 Z<|J h fun aS bq h=>N (bk u30 aN Z Z (a.ro 1 Z) bq) Z<|N (a9 u38 Z Z (a.ro 1 Z) bq Z) Z<|N (aD Z (bK u38 u119 aS)) Z<|V 1 Z<|N (aj Z Z (eN _ aS.toUInt64 aL)) Z<|V 1 Z<|N (aj Z Z (eN _ (aS.toUInt64 - aL) bR)) Z<|aZ h fun ac cp h=>N (ba (v:=v64 ac) (by rw[<-cp]; rfl)) Z<|gl2<|V 5 Z<|N (aD Z (cc u119 u38 ac)) Z<|J h fun dh br h=>N (bk u30 aN Z Z (a.ro 1 Z) br) Z<|bo (bX (t:=ac.toUInt32) aN Z Z a (i:=1) Z br Z) fun w a=>aZ h fun bS cr h=>?_
  rw[cr]at a
  refine P ?_
  refine a8 (r:=bO) (fun (g:UInt64×L0) L w=>L=[(10,v64 n),(11,c),(12,d),(13,I (b.length:Int)),(15,j),(16,v64 f.toUInt64),(17,v64 m.toUInt64),(18,I o),(20,v64 g.1)]/\St [] B w [U X c b,U X d g.2,U X j p]) (F.EZ o p) ?_ ?_
  rotate_left
  ·intro au
   refine R<|V 1 Z<|N (aj Z Z (cf _ ac 63)) Z<|N (aj Z Z (Bu _ (aO ac 63) 0)) Z<|P ?_
   apply gl9 Z h<;>intro h
   ·refine R<|V 1 Z<|N (aj Z Z (eN _ x 1)) Z<|V 1 Z<|gl2<|V 1 Z<|gl1<|R<|V 1 Z<|P<|aq<|ax [(10,v64 n),(11,c),(12,d),(13,I (b.length:Int)),(15,j),(16,v64 f.toUInt64),(17,v64 m.toUInt64),(18,I o),(20,v64 (x - 1)),(22,v64 0),(27,I 0)] Z ?_
    refine aT (F.Ey b o x p) (fun (s:UInt64×Int×L0) L w=>L=[(10,v64 n),(11,c),(12,d),(13,I (b.length:Int)),(15,j),(16,v64 f.toUInt64),(17,v64 m.toUInt64),(18,I o),(20,v64 (x - 1)),(22,v64 s.1),(27,I s.2.1)]/\St [] B w [U X c b,U X d s.2.2,U X j p]) ?_ (0,0,bS) ⟨Z,a⟩ h
    rintro di ⟨an,cR,cS⟩ L w dj T cs h bs
    try dsimp only at T
    obtain⟨rfl,a⟩:=T
    unfold F.Ey at h
    refine aw<|R<|V 3 Z<|P ?_
    apply gl9 Z h<;>intro h
    ·refine gl5<|aw<|aq<|aw<|aX (fun w'=>St [] B w' [U X c b,U X d cS,U X j p]) (fun _=>true) bQ (fun _ _ _ y=>y.2) (fun _ _ y=>y) (by kernel_rfl)<|have a:=a.drew;show lxE _ _ _ _ _ _ _ [0,1,2,3,4,5,6,7,8,9,10,11,12,13,14,15] _ _ from ao 5 Z a<|J h fun aU bt h=>H a Z Z (fun w k=>bk u30 aN Z Z (k.ro 1 Z) bt) Z<|H a Z Z (fun w k=>a9 u38 Z Z (k.ro 1 Z) bt Z) Z<|H a Z Z (fun w k=>aD Z (bK u38 u119 aU)) Z<|ao 2 Z a<|J h fun aW bu h=>H a Z Z (fun w k=>bk u30 aN Z Z (k.ro 0 Z) bu) Z<|H a Z Z (fun w k=>a9 u38 Z Z (k.ro 0 Z) bu Z) Z<|H a Z Z (fun w k=>aD Z (bK u38 u119 aW)) Z<|H a Z Z (fun w k=>aj Z Z (bT _ aU.toUInt64 aW.toUInt64)) Z<|H a Z Z (fun w k=>aj Z Z (bT _ an (aU.toUInt64+aW.toUInt64))) Z<|aZ h fun ad ct h=>H a Z Z (fun w k=>ba (v:=v64 ad) (by rw[<-ct]; rfl)) Z<|bp a<|ak<|R<|V 5 Z<|N (aD Z (cc u119 u38 ad)) Z<|J h fun dk bv h=>N (bk u30 aN Z Z (a.ro 1 Z) bv) Z<|bo (bX (t:=ad.toUInt32) aN Z Z a (i:=1) Z bv Z) ?_
     intro w a
     obtain⟨cT,cu,h⟩:=eK h
     rw[cu]at a
     exact P<|al<|V 1 Z<|N (aj Z Z (cf _ ad 32)) Z<|V 1 Z<|aE<|aF<|ak<|al<|V 3 Z<|aE<|bd (bc (cs (aO ad 32,wI (cR+1),cT) _ _ ⟨Z,a⟩ (aK h bs)) Z)
    refine aQ<|av<|av<|have h:=aI h bs;aR<|ak<|al<|V 4 Z<|J h fun bU bw h=>N (bk u30 aN Z Z (a.ro 1 Z) bw) Z<|N (a9 u38 Z Z (a.ro 1 Z) bw Z) Z<|V 1 Z<|N (aD Z (cc u119 u38 an)) Z<|N (aj Z Z (cZ _ bU an.toUInt32)) Z<|J h fun dl bx h=>N (bk u30 aN Z Z (a.ro 1 Z) bx) Z<|bo (bX (t:=(bU+an.toUInt32)) aN Z Z a (i:=1) Z bx Z) fun w a=>aZ h fun cU cv h=>?_
    rw[cv]at a
    exact P<|aG (au (x - 1,cU) _ _ ⟨Z,a⟩ h) Z
   exact gl5<|aG (au (x,bS) _ _ ⟨Z,a⟩ h) Z
  rintro⟨bz,cw⟩ L w hJ h
  try dsimp only at hJ
  obtain⟨rfl,a⟩:=hJ
  unfold F.EZ at h
  refine al<|V 3 Z<|N (aD Z (cc u119 u38 bz)) Z<|J h fun c3 az h=>N (bk u30 aN Z Z (a.ro 2 Z) az) Z<|bo (bX (t:=bz.toUInt32) aN Z Z a (i:=2) Z az Z) fun w a=>aZ h fun cx bV h=>?_
  rw[bV]at a
  exact aE<|aF<|ak<|al<|V 3 Z<|aE<|bd (bc (cg (wI (o - 1),cw,cx) _ _ ⟨Z,a⟩ (aK h a7)) Z)
 refine aQ<|av<|av<|have h:=aI h a7;aR<|ak<|R<|V 1 Z<|have hG:=a.pick (os':=[U X j p]++[U X c b,U X d q]) [2,0,1] (by decide) Z;J h fun cy bW h=>aH Z (dR  bW hG.f ) Z ?_
 rintro bA w ⟨cX,bD,A⟩
 rw[<-bD]at A
 have a:=hG.g A
 refine V 1 Z<|have hG:=a.pick (os':=[U X d q]++[U X bA cy,U X c b]) [2,0,1] (by decide) Z;J h fun c4 bZ h=>aH Z (dR  bZ hG.f ) Z ?_
 rintro c5 w ⟨cY,bE,A⟩
 rw[<-bE]at A
 have a:=hG.g A
 refine V 1 Z<|J h fun c6 b0 h=>aV a Z (qz n b0 (a.ro 0 Z).rp) Z fun cB w a=>V 2 Z<|P<|ay ?_
 cases h
 exact bY Z Z Z ⟨bA,cB,Z,a.d [2,0] Z Z⟩
theorem iM {o:World} {m y z j:L0} {c u x b:Value} {f A B g:Nat} {S:L2} (l n p d:Bool) {r:Bool×L0×Bool×L0}
  (h:F.Ga l m n y p z d j=some r) (a:St S o o [Y f [K l,c],U X c m,Y g [K d,b],U X b j]) (T:RP S o X u y) (hBa1:RB S o A [K n,u]) (ab:RP S o X x z) (hBa2:RB S o B [K p,x]):Calls Tryz.prog 176 #[O f 0,O A 0,O B 0,O g 0] o (Ret fun v w=>∃C D:Value,v=.tuple #[O f 0,O g 0]/\St S o w [Y f [K r.1,C],U X C r.2.1,Y g [K r.2.2.1,D],U X D r.2.2.2]):=by
 refine aB 46 Tryz.func176 Z Z Z<|ax [(0,O f 0),(1,O A 0),(2,O B 0),(3,O g 0)] Z ?_
 unfold F.Ga at h
 refine R<|V 2 Z<|gl1<|aX (fun w'=>St S o w' [Y f [K l,c],U X c m,Y g [K d,b],U X b j]) (fun _=>true) bQ (fun _ _ _ s=>s.2) (fun _ _ s=>s) (by kernel_rfl)<|have a:=a.drew;show lxE _ _ _ _ _ _ _ [0,1,2,3,4,5,6,7,8,9] _ _ from ao 1 Z a<|H a Z Z (fun w e=>aL Z) Z<|H a Z Z (fun w e=>am (k:=0) u65 Z Z nz4 Z) Z<|H a Z Z (fun w e=>au Tryz.underlying4 Z Z (hBa1.cell e.fr 0 Z)) Z<|ao 1 Z a<|H a Z Z (fun w e=>aL Z) Z<|H a Z Z (fun w e=>am (k:=0) u65 Z Z nz4 Z) Z<|H a Z Z (fun w e=>au Tryz.underlying4 Z Z (hBa2.cell e.fr 0 Z)) Z<|ao 2 Z a<|bp a<|ak<|aw<|aX (fun w'=>St S o w' [Y f [K l,c],U X c m,Y g [K d,b],U X b j]) (fun i=>!([8].contains i)) bQ (fun _ _ _ s=>s.2) (fun _ _ s=>s) (by kernel_rfl)<|have a:=a.drew;show lxE _ _ _ _ _ _ _ [0,1,2,3,4,5,6,7,8,9,10,11,12,13] _ _ from ao 1 Z a<|H a Z Z (fun w e=>aL Z) Z<|H a Z Z (fun w e=>am (k:=1) u65 Z Z dV Z) Z<|H a Z Z (fun w e=>au u30 Z Z (hBa1.cell e.fr 1 Z)) Z<|ao 1 Z a<|H a Z Z (fun w e=>aL Z) Z<|H a Z Z (fun w e=>am (k:=1) u65 Z Z dV Z) Z ?_
 refine H a Z Z (fun w e=>au u30 Z Z (hBa2.cell e.fr 1 Z)) Z<|J h fun E ah h=>aY a Z Z (by kernel_rfl) Z (j9  ah (T.b a.fr).rp (ab.b a.fr).rp) Z ?_
 rintro _ w ⟨an,ae,rfl,q⟩
 have a:=a.e q
 refine ao 5 Z (a.d [2,3,4,5] Z Z)<|bp (a.d [2,3,4,5] Z Z)<|ak<|R<|V 3 Z<|N (aj Z Z (nL _ n p Tryz.underlying4 Z)) Z<|V 1 Z<|have G:=a.pick (os':=[Y f [K l,c],U X c m,U X an E.1]++[U X ae E.2,Y g [K d,b],U X b j]) [2,3,0,1,4,5] (by decide) Z;J h fun L ac h=>aH Z (bW l (n != p) ac G.f ) Z ?_
 rintro _ w ⟨t,rfl,q⟩
 have a:=G.g q
 refine gl2<|V 3 Z<|have G:=a.pick (os':=[Y g [K d,b],U X b j,U X ae E.2]++[Y f [K L.1,t],U X t L.2]) [3,4,2,0,1] (by decide) Z;J h fun ap ad h=>aH Z (bW d n ad G.f ) Z ?_
 rintro _ w ⟨al,rfl,q⟩
 have a:=G.g q
 refine gl2<|V 4 Z<|P<|ay ?_
 cases h
 exact bY Z Z Z ⟨t,al,Z,a.d [2,3,0,1] Z Z⟩
theorem kk {o:World} {m u j:L0} {c t b:Value} {g x e:Nat} {S:L2} (l n d:Bool) {r:Bool×L0×Bool×L0}
  (h:F.Jz l m n u d j=some r) (a:St S o o [Y g [K l,c],U X c m,Y e [K d,b],U X b j]) (D:RP S o X t u) (hBa2:RB S o x [K n,t]):Calls Tryz.prog 176 #[O g 0,O e 0,O x 0,O e 0] o (Ret fun v w=>∃y z:Value,v=.tuple #[O g 0,O e 0]/\St S o w [Y g [K r.1,y],U X y r.2.1,Y e [K r.2.2.1,z],U X z r.2.2.2]):=by
 refine aB 46 Tryz.func176 Z Z Z<|ax [(0,O g 0),(1,O e 0),(2,O x 0),(3,O e 0)] Z ?_
 unfold F.Jz at h
 refine R<|V 2 Z<|gl1<|aX (fun w'=>St S o w' [Y g [K l,c],U X c m,Y e [K d,b],U X b j]) (fun _=>true) bQ (fun _ _ _ q=>q.2) (fun _ _ q=>q) (by kernel_rfl)<|have a:=a.drew;show lxE _ _ _ _ _ _ _ [0,1,2,3,4,5,6,7,8,9] _ _ from ao 1 Z a<|H a Z Z (fun w f=>aL Z) Z<|H a Z Z (fun w f=>am (k:=0) u65 Z Z nz4 Z) Z<|H a Z Z (fun w f=>au Tryz.underlying4 Z Z (f.q 2 Z 0)) Z<|ao 1 Z a<|H a Z Z (fun w f=>aL Z) Z<|H a Z Z (fun w f=>am (k:=0) u65 Z Z nz4 Z) Z<|H a Z Z (fun w f=>au Tryz.underlying4 Z Z (hBa2.cell f.fr 0 Z)) Z<|ao 2 Z a<|bp a<|ak<|aw<|aX (fun w'=>St S o w' [Y g [K l,c],U X c m,Y e [K d,b],U X b j]) (fun i=>!([8].contains i)) bQ (fun _ _ _ q=>q.2) (fun _ _ q=>q) (by kernel_rfl)<|have a:=a.drew;show lxE _ _ _ _ _ _ _ [0,1,2,3,4,5,6,7,8,9,10,11,12,13] _ _ from ao 1 Z a<|H a Z Z (fun w f=>aL Z) Z<|H a Z Z (fun w f=>am (k:=1) u65 Z Z dV Z) Z<|H a Z Z (fun w f=>au u30 Z Z (f.q 2 Z 1)) Z<|ao 1 Z a<|H a Z Z (fun w f=>aL Z) Z<|H a Z Z (fun w f=>am (k:=1) u65 Z Z dV Z) Z ?_
 refine H a Z Z (fun w f=>au u30 Z Z (hBa2.cell f.fr 1 Z)) Z<|J h fun A T h=>aY a Z Z (by kernel_rfl) Z (j9  T (a.ro 3 Z).rp (D.b a.fr).rp) Z ?_
 rintro _ w ⟨ac,L,rfl,p⟩
 have a:=a.e p
 refine ao 5 Z (a.d [2,3,4,5] Z Z)<|bp (a.d [2,3,4,5] Z Z)<|ak<|R<|V 3 Z<|N (aj Z Z (nL _ d n Tryz.underlying4 Z)) Z<|V 1 Z<|have B:=a.pick (os':=[Y g [K l,c],U X c m,U X ac A.1]++[U X L A.2,Y e [K d,b],U X b j]) [2,3,0,1,4,5] (by decide) Z;J h fun C E h=>aH Z (bW l (d != n) E B.f ) Z ?_
 rintro _ w ⟨s,rfl,p⟩
 have a:=B.g p
 refine gl2<|V 3 Z<|have B:=a.pick (os':=[Y e [K d,b],U X b j,U X L A.2]++[Y g [K C.1,s],U X s C.2]) [3,4,2,0,1] (by decide) Z;J h fun ad G h=>aH Z (bW d d G B.f ) Z ?_
 rintro _ w ⟨ab,rfl,p⟩
 have a:=B.g p
 refine gl2<|V 4 Z<|P<|ay ?_
 cases h
 exact bY Z Z Z ⟨s,ab,Z,a.d [2,3,0,1] Z Z⟩
theorem kj {o:World} {m u l:L0} {c t b:Value} {e x j:Nat} {S:L2} (d n f:Bool) {r:Bool×L0×Bool×L0}
  (h:F.JA d m n u f l=some r) (a:St S o o [Y e [K d,c],U X c m,Y j [K f,b],U X b l]) (D:RP S o X t u) (hBa2:RB S o x [K n,t]):Calls Tryz.prog 176 #[O e 0,O e 0,O x 0,O j 0] o (Ret fun v w=>∃y z:Value,v=.tuple #[O e 0,O j 0]/\St S o w [Y e [K r.1,y],U X y r.2.1,Y j [K r.2.2.1,z],U X z r.2.2.2]):=by
 refine aB 46 Tryz.func176 Z Z Z<|ax [(0,O e 0),(1,O e 0),(2,O x 0),(3,O j 0)] Z ?_
 unfold F.JA at h
 refine R<|V 2 Z<|gl1<|aX (fun w'=>St S o w' [Y e [K d,c],U X c m,Y j [K f,b],U X b l]) (fun _=>true) bQ (fun _ _ _ q=>q.2) (fun _ _ q=>q) (by kernel_rfl)<|have a:=a.drew;show lxE _ _ _ _ _ _ _ [0,1,2,3,4,5,6,7,8,9] _ _ from ao 1 Z a<|H a Z Z (fun w g=>aL Z) Z<|H a Z Z (fun w g=>am (k:=0) u65 Z Z nz4 Z) Z<|H a Z Z (fun w g=>au Tryz.underlying4 Z Z (g.q 0 Z 0)) Z<|ao 1 Z a<|H a Z Z (fun w g=>aL Z) Z<|H a Z Z (fun w g=>am (k:=0) u65 Z Z nz4 Z) Z<|H a Z Z (fun w g=>au Tryz.underlying4 Z Z (hBa2.cell g.fr 0 Z)) Z<|ao 2 Z a<|bp a<|ak<|aw<|aX (fun w'=>St S o w' [Y e [K d,c],U X c m,Y j [K f,b],U X b l]) (fun i=>!([8].contains i)) bQ (fun _ _ _ q=>q.2) (fun _ _ q=>q) (by kernel_rfl)<|have a:=a.drew;show lxE _ _ _ _ _ _ _ [0,1,2,3,4,5,6,7,8,9,10,11,12,13] _ _ from ao 1 Z a<|H a Z Z (fun w g=>aL Z) Z<|H a Z Z (fun w g=>am (k:=1) u65 Z Z dV Z) Z<|H a Z Z (fun w g=>au u30 Z Z (g.q 0 Z 1)) Z<|ao 1 Z a<|H a Z Z (fun w g=>aL Z) Z<|H a Z Z (fun w g=>am (k:=1) u65 Z Z dV Z) Z ?_
 refine H a Z Z (fun w g=>au u30 Z Z (hBa2.cell g.fr 1 Z)) Z<|J h fun A T h=>aY a Z Z (by kernel_rfl) Z (j9  T (a.ro 1 Z).rp (D.b a.fr).rp) Z ?_
 rintro _ w ⟨ac,L,rfl,p⟩
 have a:=a.e p
 refine ao 5 Z (a.d [2,3,4,5] Z Z)<|bp (a.d [2,3,4,5] Z Z)<|ak<|R<|V 3 Z<|N (aj Z Z (nL _ d n Tryz.underlying4 Z)) Z<|V 1 Z<|have B:=a.pick (os':=[Y e [K d,c],U X c m,U X ac A.1]++[U X L A.2,Y j [K f,b],U X b l]) [2,3,0,1,4,5] (by decide) Z;J h fun C E h=>aH Z (bW d (d != n) E B.f ) Z ?_
 rintro _ w ⟨s,rfl,p⟩
 have a:=B.g p
 refine gl2<|V 3 Z<|have B:=a.pick (os':=[Y j [K f,b],U X b l,U X L A.2]++[Y e [K C.1,s],U X s C.2]) [3,4,2,0,1] (by decide) Z;J h fun ad G h=>aH Z (bW f d G B.f ) Z ?_
 rintro _ w ⟨ab,rfl,p⟩
 have a:=B.g p
 refine gl2<|V 4 Z<|P<|ay ?_
 cases h
 exact bY Z Z Z ⟨s,ab,Z,a.d [2,3,0,1] Z Z⟩
theorem fJ {f:World} {d:L0} {a:Value} {c:Nat} {S:L2} (b:Bool) (a1:Int) {r:Bool×L0}
  (h:F.FS b d a1=some r) (e:St S f f [Y c [K b,a],U X a d]):Calls Tryz.prog 121 #[O c 0,I a1] f (Ret fun v w=>∃i:Value,v=O c 0/\St S f w [Y c [K r.1,i],U X i r.2]):=by
 refine aB 18 Tryz.func121 Z Z Z<|ax [(0,O c 0),(1,I a1)] Z ?_
 unfold F.FS at h
 refine R<|V 1 Z<|gl2<|V 1 Z<|N (aD Z (dC Tryz.underlying2 u119 a1)) Z<|V 1 Z<|P ?_
 refine a8 (r:=r) (fun (g:UInt64) L w=>L=[(0,O c 0),(1,I a1),(5,v64 g)]/\St S f w [Y c [K b,a],U X a d]) (F.Hy b d a1) ?_ ?_
 rotate_left
 ·intro j
  refine R<|V 2 Z<|P ?_
  apply gl9 Z h<;>intro h
  ·exact al<|V 1 Z<|N (jV Z (A4 (UInt64.ofInt a1))) Z<|V 1 Z<|P<|aG (j (0 - (UInt64.ofInt a1)) _ _ ⟨Z,e⟩ h) Z
  exact gl5<|aG (j (UInt64.ofInt a1) _ _ ⟨Z,e⟩ h) Z
 rintro n L w o h
 try dsimp only at o
 obtain⟨rfl,e⟩:=o
 unfold F.Hy at h
 refine R<|V 4 Z<|J h fun p k h=>aV e Z (ff n k ) Z fun q w e=>have s:=e.pick (os':=[Y c [K b,a],U X a d,U X q p]++[]) [1,2,0] (by decide) Z;J h fun u l h=>aH Z (bW b (decide (a1<0)) l s.f ) Z ?_
 rintro _ w ⟨m,rfl,t⟩
 have e:=s.g t
 refine V 1 Z<|P<|ay ?_
 cases h
 exact az Z Z ⟨m,Z,e.d [0,1] Z Z⟩
theorem dm {d:World} (a0:Int) {r:Bool×L0}
  (h:F.DI a0=some r) :Calls Tryz.prog 61 #[I a0] d (Ret fun v w=>∃b:Value,∃un0:Nat,v=O un0 0/\St [] d w [Y un0 [K r.1,b],U X b r.2]):=by
 refine aB 6 Tryz.func61 Z Z Z<|have a:=St.k d;ax [(0,I a0)] Z ?_
 unfold F.DI at h
 refine R<|V 1 Z<|gl2<|bg (bb (cs:=[K false,L3]) eM Z a) Z fun c w a=>V 1 Z ?_
 replace a:=a.nil X
 have f:=a.pick (os':=[Y c [K false,L3],U X (.slice none 0 0) []]++[]) [1,0] (by decide) Z
 refine J h fun j e h=>aH Z (fJ false a0 e f.f ) Z ?_
 rintro _ w ⟨g,rfl,i⟩
 have a:=f.g i
 refine V 1 Z<|P<|ay ?_
 cases h
 exact az Z Z ⟨g,c,Z,a.d [0,1] Z Z⟩
theorem jR {k:World} {a0 a1:L0} {b c:Value} {r:L0}
  (h:F.Fy a0 a1=some r) (l:RP [] k X b a0) (q:RP [] k X c a1):Calls Tryz.prog 125 #[b,c] k (Ret fun v w=>St [] k w [U X v r]):=by
 refine aB 45 Tryz.func125 Z Z Z<|have a:=St.k k;ax [(0,b),(1,c)] Z ?_
 unfold F.Fy at h
 refine R<|V 1 Z<|gl2<|V 1 Z<|N (aC u30 Z (l.b a.fr)) Z<|J h fun ad T h=>bC (c9 (e:=X) u30 aN Z Z Z a T) Z fun d w a=>V 1 Z<|gl2<|V 1 Z<|gl1<|R<|V 1 Z<|P<|aq<|ax [(0,b),(1,c),(5,d),(6,v64 0),(7,I 0)] Z ?_
 refine aT (F.HJ a0 a1) (fun (s:UInt64×Int×L0) L w=>L=[(0,b),(1,c),(5,d),(6,v64 s.1),(7,I s.2.1)]/\St [] k w [U X d s.2.2]) ?_ (0,0,ad) ⟨Z,a⟩ h
 rintro ao ⟨u,x,y⟩ L w ae hI ab h z
 try dsimp only at hI
 obtain⟨rfl,a⟩:=hI
 unfold F.HJ at h
 refine aw<|R<|V 2 Z<|N (aC u30 Z (l.b a.fr)) Z<|V 1 Z<|P ?_
 apply gl9 Z h<;>intro h
 ·refine gl5<|aw<|aq<|R<|V 2 Z<|J h fun f m h=>N (bk u30 aN Z Z (l.b a.fr) m) Z<|N (a9 u38 Z Z (l.b a.fr) m Z) Z<|N (aD Z (bK u38 u119 f)) Z<|V 1 Z<|N (aj Z Z (eN _ f.toUInt64 u)) Z<|V 1 Z<|P ?_
  refine a8 (r:=ae) (fun (g:UInt64) L w=>L=[(0,b),(1,c),(5,d),(7,I x),(8,v64 g)]/\St [] k w [U X d y]) (F.Gq x y) ?_ ?_
  rotate_left
  ·intro n
   refine R<|V 2 Z<|N (aC u30 Z (q.b a.fr)) Z<|V 1 Z<|P ?_
   apply gl9 Z h<;>intro h
   ·exact al<|V 3 Z<|J h fun A o h=>N (bk u30 aN Z Z (q.b a.fr) o) Z<|N (a9 u38 Z Z (q.b a.fr) o Z) Z<|N (aD Z (bK u38 u119 A)) Z<|N (aj Z Z (eN _ (f.toUInt64 - u) A.toUInt64)) Z<|aZ h fun B D h=>N (ba (v:=v64 B) (by rw[<-D]; rfl)) Z<|P<|aG (n B _ _ ⟨Z,a⟩ h) Z
   exact gl5<|aG (n (f.toUInt64 - u) _ _ ⟨Z,a⟩ h) Z
  rintro j L w hJ h
  try dsimp only at hJ
  obtain⟨rfl,a⟩:=hJ
  unfold F.Gq at h
  refine R<|V 3 Z<|N (aD Z (cc u119 u38 j)) Z<|J h fun ap p h=>N (bk u30 aN Z Z (a.ro 0 Z) p) Z<|bo (bX (t:=j.toUInt32) aN Z Z a (i:=0) Z p Z) fun w a=>aZ h fun ac E h=>?_
  rw[E]at a
  exact P<|al<|V 1 Z<|N (aj Z Z (cf _ j 63)) Z<|V 1 Z<|aE<|aF<|ak<|al<|V 3 Z<|aE<|bd (bc (ab (aO j 63,wI (x+1),ac) _ _ ⟨Z,a⟩ (aK h z)) Z)
 refine aQ<|av<|av<|have h:=aI h z;aR<|ak<|R<|V 1 Z<|have hG:=a.pick (os':=[U X d y]++[]) [0] (by decide) Z;J h fun ar G h=>aH Z (dR  G hG.f ) Z ?_
 rintro au w ⟨an,C,S⟩
 rw[<-C]at S
 have a:=hG.g S
 refine V 1 Z<|P<|ay ?_
 cases h
 exact az Z Z (a.d [0] Z Z)
theorem gj {d:World} {a1 a3:L0} {e f:Value} (a0 a2:Bool) {r:Bool×L0}
  (h:F.DZ a0 a1 a2 a3=some r) (b:RP [] d X e a1) (c:RP [] d X f a3):Calls Tryz.prog 148 #[K a0,e,K a2,f] d (Ret fun v w=>∃u1:Value,v=.tuple #[K r.1,u1]/\St [] d w [U X u1 r.2]):=by
 refine aB 29 Tryz.func148 Z Z Z<|have a:=St.k d;ax [(0,K a0),(1,e),(2,K a2),(3,f)] Z ?_
 unfold F.DZ at h
 refine R<|V 2 Z<|gl1<|R<|V 2 Z<|N (aj Z Z (BX _ a0 a2 Tryz.underlying4 Z)) Z<|P ?_
 apply gl9 Z h<;>intro h
 ·refine R<|V 3 Z<|J h fun o g h=>aV a Z (kh  g (b.b a.fr).rp (c.b a.fr).rp) Z fun l w a=>V 2 Z<|gl8 ?_
  cases h
  exact bY Z Z Z ⟨l,Z,a.d [0] Z Z⟩
 refine gl5<|aw<|R<|V 2 Z<|J h fun p i h=>bf a Z (kc  i (b.b a.fr).rp (c.b a.fr).rp) Z fun w a=>V 1 Z<|P ?_
 apply gl9 Z h<;>intro h
 ·refine R<|V 3 Z<|J h fun q j h=>aV a Z (jR  j (b.b a.fr).rp (c.b a.fr).rp) Z fun m w a=>V 2 Z<|gl8 ?_
  cases h
  exact bY Z Z Z ⟨m,Z,a.d [0] Z Z⟩
 refine gl6<|V 3 Z<|J h fun s k h=>aV a Z (jR  k (c.b a.fr).rp (b.b a.fr).rp) Z fun n w a=>V 2 Z<|P<|ay ?_
 cases h
 exact bY Z Z Z ⟨n,Z,a.d [0] Z Z⟩
theorem o4 {e:World} {g o p:L0} {c m n:Value} {d q s:Nat} {S:L2} (f j l:Bool) {r:Bool×L0}
  (h:F.G4 f g j o l p=some r) (a:St S e e [Y d [K f,c],U X c g]) (x:RP S e X m o) (hBa1:RB S e q [K j,m]) (y:RP S e X n p) (hBa2:RB S e s [K l,n]):Calls Tryz.prog 103 #[O d 0,O q 0,O s 0] e (Ret fun v w=>∃t:Value,v=O d 0/\St S e w [Y d [K r.1,t],U X t r.2]):=by
 refine aB 28 Tryz.func103 Z Z Z<|ax [(0,O d 0),(1,O q 0),(2,O s 0)] Z ?_
 unfold F.G4 at h
 refine R<|V 1 Z<|gl1<|have hsh1:=(a.ro 1 Z).shp;aX (fun w'=>St S e w' []) (fun i=>!([17,20].contains i)) bQ (fun _ _ _ A=>A.2) (fun _ _ A=>A) (by kernel_rfl)<|have a:=a.drew;show lxE _ _ _ _ _ _ _ [0,1,2,3,4,5,6,7,8,9,10,11,12,13,14,15,16,17,18,19,20,21] _ _ from ao 2 Z (a.d [] Z Z)<|H (a.d [] Z Z) Z Z (fun w b=>aL Z) Z<|H (a.d [] Z Z) Z Z (fun w b=>am (k:=0) u65 Z Z nz4 Z) Z<|H (a.d [] Z Z) Z Z (fun w b=>au Tryz.underlying4 Z Z (hBa1.cell b.fr 0 Z)) Z<|ao 1 Z (a.d [] Z Z)<|H (a.d [] Z Z) Z Z (fun w b=>aL Z) Z<|H (a.d [] Z Z) Z Z (fun w b=>am (k:=1) u65 Z Z dV Z) Z<|H (a.d [] Z Z) Z Z (fun w b=>au u30 Z Z (hBa1.cell b.fr 1 Z)) Z<|ao 1 Z (a.d [] Z Z)<|H (a.d [] Z Z) Z Z (fun w b=>aL Z) Z<|H (a.d [] Z Z) Z Z (fun w b=>am (k:=0) u65 Z Z nz4 Z) Z<|H (a.d [] Z Z) Z Z (fun w b=>au Tryz.underlying4 Z Z (hBa2.cell b.fr 0 Z)) Z<|ao 1 Z (a.d [] Z Z)<|H (a.d [] Z Z) Z Z (fun w b=>aL Z) Z<|H (a.d [] Z Z) Z Z (fun w b=>am (k:=1) u65 Z Z dV Z) Z<|H (a.d [] Z Z) Z Z (fun w b=>au u30 Z Z (hBa2.cell b.fr 1 Z)) Z ?_
 refine J h fun z B h=>aY (a.d [] Z Z) Z Z (by kernel_rfl) Z (gj j l B (x.b a.fr).rp (y.b a.fr).rp) Z ?_
 rintro _ w ⟨D,rfl,u⟩
 have a:=a.e u
 refine ao 2 Z (a.d [] Z Z)<|have E:=a.pick (os':=[Y d [K f,c],U X c g,U X D z.2]++[]) [1,2,0] (by decide) Z;J h fun L C h=>aY (a.d [] Z Z) Z Z (by kernel_rfl) Z (bW f z.1 C E.f ) Z ?_
 rintro _ w ⟨G,rfl,u⟩
 have a:=E.g u
 refine ao 1 Z (a.d [] Z Z)<|bp (a.d [] Z Z)<|ak<|ay ?_
 cases h
 exact az Z Z ⟨G,Z,a.d [0,1] Z Z⟩
theorem ej {f:World} {g m:L0} {c l:Value} {b n:Nat} {S:L2} (d j:Bool) {r:Bool×L0}
  (h:F.Eo d g j m=some r) (a:St S f f [Y b [K d,c],U X c g]) (q:RP S f X l m) (hBa2:RB S f n [K j,l]):Calls Tryz.prog 103 #[O b 0,O b 0,O n 0] f (Ret fun v w=>∃o:Value,v=O b 0/\St S f w [Y b [K r.1,o],U X o r.2]):=by
 refine aB 28 Tryz.func103 Z Z Z<|ax [(0,O b 0),(1,O b 0),(2,O n 0)] Z ?_
 unfold F.Eo at h
 refine R<|V 1 Z<|gl1<|have hsh1:=(a.ro 1 Z).shp;aX (fun w'=>St S f w' []) (fun i=>!([1004,1008,17,20].contains i)) bQ (fun _ _ _ t=>t.2) (fun _ _ t=>t) (by kernel_rfl)<|have a:=a.drew;show lxE _ _ _ _ _ _ _ [0,1,2,3,4,5,6,7,8,9,10,11,12,13,14,15,16,17,18,19,20,21] _ _ from ao 2 Z (a.d [] Z Z)<|H (a.d [] Z Z) Z Z (fun w e=>aL Z) Z<|H (a.d [] Z Z) Z Z (fun w e=>am (k:=0) u65 Z Z nz4 Z) Z<|n8 (a.d [] Z Z) Z Z Z (au Tryz.underlying4 Z Z (a.q 0 Z 0)) Z<|ao 1 Z (a.d [] Z Z)<|H (a.d [] Z Z) Z Z (fun w e=>aL Z) Z<|H (a.d [] Z Z) Z Z (fun w e=>am (k:=1) u65 Z Z dV Z) Z<|n8 (a.d [] Z Z) Z Z Z (au u30 Z Z (a.q 0 Z 1)) Z<|ao 1 Z (a.d [] Z Z)<|H (a.d [] Z Z) Z Z (fun w e=>aL Z) Z<|H (a.d [] Z Z) Z Z (fun w e=>am (k:=0) u65 Z Z nz4 Z) Z<|H (a.d [] Z Z) Z Z (fun w e=>au Tryz.underlying4 Z Z (hBa2.cell e.fr 0 Z)) Z<|ao 1 Z (a.d [] Z Z)<|H (a.d [] Z Z) Z Z (fun w e=>aL Z) Z<|H (a.d [] Z Z) Z Z (fun w e=>am (k:=1) u65 Z Z dV Z) Z<|H (a.d [] Z Z) Z Z (fun w e=>au u30 Z Z (hBa2.cell e.fr 1 Z)) Z<|J h fun s u h=>?_
 refine aY (a.d [] Z Z) Z Z (by kernel_rfl) Z (gj d j u (a.ro 1 Z).rp (q.b a.fr).rp) Z ?_
 rintro _ w ⟨y,rfl,p⟩
 have a:=a.e p
 refine ao 2 Z (a.d [] Z Z)<|have z:=a.pick (os':=[Y b [K d,c],U X c g,U X y s.2]++[]) [1,2,0] (by decide) Z;J h fun B x h=>aY (a.d [] Z Z) Z Z (by kernel_rfl) Z (bW d s.1 x z.f ) Z ?_
 rintro _ w ⟨A,rfl,p⟩
 have a:=z.g p
 refine ao 1 Z (a.d [] Z Z)<|bp (a.d [] Z Z)<|ak<|ay ?_
 cases h
 exact az Z Z ⟨A,Z,a.d [0,1] Z Z⟩
theorem j7 {e:World} {g o p:L0} {c m n:Value} {d q s:Nat} {S:L2} (f j l:Bool) {r:Bool×L0}
  (h:F.Gl f g j o l p=some r) (a:St S e e [Y d [K f,c],U X c g]) (x:RP S e X m o) (hBa1:RB S e q [K j,m]) (y:RP S e X n p) (hBa2:RB S e s [K l,n]):Calls Tryz.prog 146 #[O d 0,O q 0,O s 0] e (Ret fun v w=>∃t:Value,v=O d 0/\St S e w [Y d [K r.1,t],U X t r.2]):=by
 refine aB 29 Tryz.func146 Z Z Z<|ax [(0,O d 0),(1,O q 0),(2,O s 0)] Z ?_
 unfold F.Gl at h
 refine R<|V 1 Z<|gl1<|have hsh1:=(a.ro 1 Z).shp;aX (fun w'=>St S e w' []) (fun i=>!([18,21].contains i)) bQ (fun _ _ _ A=>A.2) (fun _ _ A=>A) (by kernel_rfl)<|have a:=a.drew;show lxE _ _ _ _ _ _ _ [0,1,2,3,4,5,6,7,8,9,10,11,12,13,14,15,16,17,18,19,20,21,22] _ _ from ao 2 Z (a.d [] Z Z)<|H (a.d [] Z Z) Z Z (fun w b=>aL Z) Z<|H (a.d [] Z Z) Z Z (fun w b=>am (k:=0) u65 Z Z nz4 Z) Z<|H (a.d [] Z Z) Z Z (fun w b=>au Tryz.underlying4 Z Z (hBa1.cell b.fr 0 Z)) Z<|ao 1 Z (a.d [] Z Z)<|H (a.d [] Z Z) Z Z (fun w b=>aL Z) Z<|H (a.d [] Z Z) Z Z (fun w b=>am (k:=1) u65 Z Z dV Z) Z<|H (a.d [] Z Z) Z Z (fun w b=>au u30 Z Z (hBa1.cell b.fr 1 Z)) Z<|ao 1 Z (a.d [] Z Z)<|H (a.d [] Z Z) Z Z (fun w b=>aL Z) Z<|H (a.d [] Z Z) Z Z (fun w b=>am (k:=0) u65 Z Z nz4 Z) Z<|H (a.d [] Z Z) Z Z (fun w b=>au Tryz.underlying4 Z Z (hBa2.cell b.fr 0 Z)) Z<|ao 2 Z (a.d [] Z Z)<|H (a.d [] Z Z) Z Z (fun w b=>aL Z) Z<|H (a.d [] Z Z) Z Z (fun w b=>am (k:=1) u65 Z Z dV Z) Z<|H (a.d [] Z Z) Z Z (fun w b=>au u30 Z Z (hBa2.cell b.fr 1 Z)) Z ?_
 refine J h fun z B h=>aY (a.d [] Z Z) Z Z (by kernel_rfl) Z (gj j (!l) B (x.b a.fr).rp (y.b a.fr).rp) Z ?_
 rintro _ w ⟨D,rfl,u⟩
 have a:=a.e u
 refine ao 2 Z (a.d [] Z Z)<|have E:=a.pick (os':=[Y d [K f,c],U X c g,U X D z.2]++[]) [1,2,0] (by decide) Z;J h fun L C h=>aY (a.d [] Z Z) Z Z (by kernel_rfl) Z (bW f z.1 C E.f ) Z ?_
 rintro _ w ⟨G,rfl,u⟩
 have a:=E.g u
 refine ao 1 Z (a.d [] Z Z)<|bp (a.d [] Z Z)<|ak<|ay ?_
 cases h
 exact az Z Z ⟨G,Z,a.d [0,1] Z Z⟩
theorem eW {f:World} {g m:L0} {c l:Value} {b n:Nat} {S:L2} (d j:Bool) {r:Bool×L0}
  (h:F.EJ d g j m=some r) (a:St S f f [Y b [K d,c],U X c g]) (q:RP S f X l m) (hBa2:RB S f n [K j,l]):Calls Tryz.prog 146 #[O b 0,O b 0,O n 0] f (Ret fun v w=>∃o:Value,v=O b 0/\St S f w [Y b [K r.1,o],U X o r.2]):=by
 refine aB 29 Tryz.func146 Z Z Z<|ax [(0,O b 0),(1,O b 0),(2,O n 0)] Z ?_
 unfold F.EJ at h
 refine R<|V 1 Z<|gl1<|have hsh1:=(a.ro 1 Z).shp;aX (fun w'=>St S f w' []) (fun i=>!([1004,1008,18,21].contains i)) bQ (fun _ _ _ t=>t.2) (fun _ _ t=>t) (by kernel_rfl)<|have a:=a.drew;show lxE _ _ _ _ _ _ _ [0,1,2,3,4,5,6,7,8,9,10,11,12,13,14,15,16,17,18,19,20,21,22] _ _ from ao 2 Z (a.d [] Z Z)<|H (a.d [] Z Z) Z Z (fun w e=>aL Z) Z<|H (a.d [] Z Z) Z Z (fun w e=>am (k:=0) u65 Z Z nz4 Z) Z<|n8 (a.d [] Z Z) Z Z Z (au Tryz.underlying4 Z Z (a.q 0 Z 0)) Z<|ao 1 Z (a.d [] Z Z)<|H (a.d [] Z Z) Z Z (fun w e=>aL Z) Z<|H (a.d [] Z Z) Z Z (fun w e=>am (k:=1) u65 Z Z dV Z) Z<|n8 (a.d [] Z Z) Z Z Z (au u30 Z Z (a.q 0 Z 1)) Z<|ao 1 Z (a.d [] Z Z)<|H (a.d [] Z Z) Z Z (fun w e=>aL Z) Z<|H (a.d [] Z Z) Z Z (fun w e=>am (k:=0) u65 Z Z nz4 Z) Z<|H (a.d [] Z Z) Z Z (fun w e=>au Tryz.underlying4 Z Z (hBa2.cell e.fr 0 Z)) Z<|ao 2 Z (a.d [] Z Z)<|H (a.d [] Z Z) Z Z (fun w e=>aL Z) Z<|H (a.d [] Z Z) Z Z (fun w e=>am (k:=1) u65 Z Z dV Z) Z<|H (a.d [] Z Z) Z Z (fun w e=>au u30 Z Z (hBa2.cell e.fr 1 Z)) Z ?_
 refine J h fun s u h=>aY (a.d [] Z Z) Z Z (by kernel_rfl) Z (gj d (!j) u (a.ro 1 Z).rp (q.b a.fr).rp) Z ?_
 rintro _ w ⟨y,rfl,p⟩
 have a:=a.e p
 refine ao 2 Z (a.d [] Z Z)<|have z:=a.pick (os':=[Y b [K d,c],U X c g,U X y s.2]++[]) [1,2,0] (by decide) Z;J h fun B x h=>aY (a.d [] Z Z) Z Z (by kernel_rfl) Z (bW d s.1 x z.f ) Z ?_
 rintro _ w ⟨A,rfl,p⟩
 have a:=z.g p
 refine ao 1 Z (a.d [] Z Z)<|bp (a.d [] Z Z)<|ak<|ay ?_
 cases h
 exact az Z Z ⟨A,Z,a.d [0,1] Z Z⟩
theorem mg {f:World} {g m:L0} {c l:Value} {b n:Nat} {S:L2} (d j:Bool) {r:Bool×L0}
  (h:F.H8 d g j m=some r) (a:St S f f [Y b [K d,c],U X c g]) (q:RP S f X l m) (hBa1:RB S f n [K j,l]):Calls Tryz.prog 146 #[O b 0,O n 0,O b 0] f (Ret fun v w=>∃o:Value,v=O b 0/\St S f w [Y b [K r.1,o],U X o r.2]):=by
 refine aB 29 Tryz.func146 Z Z Z<|ax [(0,O b 0),(1,O n 0),(2,O b 0)] Z ?_
 unfold F.H8 at h
 refine R<|V 1 Z<|gl1<|have hsh1:=(a.ro 1 Z).shp;aX (fun w'=>St S f w' []) (fun i=>!([1012,1017,18,21].contains i)) bQ (fun _ _ _ t=>t.2) (fun _ _ t=>t) (by kernel_rfl)<|have a:=a.drew;show lxE _ _ _ _ _ _ _ [0,1,2,3,4,5,6,7,8,9,10,11,12,13,14,15,16,17,18,19,20,21,22] _ _ from ao 2 Z (a.d [] Z Z)<|H (a.d [] Z Z) Z Z (fun w e=>aL Z) Z<|H (a.d [] Z Z) Z Z (fun w e=>am (k:=0) u65 Z Z nz4 Z) Z<|H (a.d [] Z Z) Z Z (fun w e=>au Tryz.underlying4 Z Z (hBa1.cell e.fr 0 Z)) Z<|ao 1 Z (a.d [] Z Z)<|H (a.d [] Z Z) Z Z (fun w e=>aL Z) Z<|H (a.d [] Z Z) Z Z (fun w e=>am (k:=1) u65 Z Z dV Z) Z<|H (a.d [] Z Z) Z Z (fun w e=>au u30 Z Z (hBa1.cell e.fr 1 Z)) Z<|ao 1 Z (a.d [] Z Z)<|H (a.d [] Z Z) Z Z (fun w e=>aL Z) Z<|H (a.d [] Z Z) Z Z (fun w e=>am (k:=0) u65 Z Z nz4 Z) Z<|n8 (a.d [] Z Z) Z Z Z (au Tryz.underlying4 Z Z (a.q 0 Z 0)) Z<|ao 2 Z (a.d [] Z Z)<|H (a.d [] Z Z) Z Z (fun w e=>aL Z) Z<|H (a.d [] Z Z) Z Z (fun w e=>am (k:=1) u65 Z Z dV Z) Z<|n8 (a.d [] Z Z) Z Z Z (au u30 Z Z (a.q 0 Z 1)) Z ?_
 refine J h fun s u h=>aY (a.d [] Z Z) Z Z (by kernel_rfl) Z (gj j (!d) u (q.b a.fr).rp (a.ro 1 Z).rp) Z ?_
 rintro _ w ⟨y,rfl,p⟩
 have a:=a.e p
 refine ao 2 Z (a.d [] Z Z)<|have z:=a.pick (os':=[Y b [K d,c],U X c g,U X y s.2]++[]) [1,2,0] (by decide) Z;J h fun B x h=>aY (a.d [] Z Z) Z Z (by kernel_rfl) Z (bW d s.1 x z.f ) Z ?_
 rintro _ w ⟨A,rfl,p⟩
 have a:=z.g p
 refine ao 1 Z (a.d [] Z Z)<|bp (a.d [] Z Z)<|ak<|ay ?_
 cases h
 exact az Z Z ⟨A,Z,a.d [0,1] Z Z⟩
theorem mB {x:World} {y ak an z:L0} {l ah H m:Value} {d ao ap e:Nat} {S:L2} (o ac A p:Bool) {r:Bool×L0×Bool×L0}
  (h:F.Gg o y ac ak A an p z=some r) (c:St S x x [Y d [K o,l],U X l y,Y e [K p,m],U X m z]) (aC:RP S x X ah ak) (hBa1:RB S x ao [K ac,ah]) (aj:RP S x X H an) (hBa2:RB S x ap [K A,H]):Calls Tryz.prog 170 #[O d 0,O ao 0,O ap 0,O e 0] x (Ret fun v w=>∃aq ar:Value,v=.tuple #[O d 0,O e 0]/\St S x w [Y d [K r.1,aq],U X aq r.2.1,Y e [K r.2.2.1,ar],U X ar r.2.2.2]):=by
 refine aB 45 Tryz.func170 Z Z Z<|ax [(0,O d 0),(1,O ao 0),(2,O ap 0),(3,O e 0)] Z ?_
 unfold F.Gg at h
 refine R<|V 2 Z<|gl2<|bg (bb (cs:=[K false,L3]) eM Z c) Z fun u w c=>V 1 Z ?_
 replace c:=c.nil X
 have b:=c.pick (os':=[Y u [K false,L3],U X (.slice none 0 0) []]++[Y d [K o,l],U X l y,Y e [K p,m],U X m z]) [1,0,2,3,4,5] (by decide) Z
 refine J h fun i aN h=>aH Z (fZ false A aN b.f (aj.f (W Z) b) (hBa2.f b)) Z ?_
 rintro _ w ⟨n,rfl,j⟩
 have c:=b.g j
 refine V 1 Z<|gl2<|V 4 Z<|have b:=c.pick (os':=[Y d [K o,l],U X l y,Y e [K p,m],U X m z]++[Y u [K i.1,n],U X n i.2]) [2,3,4,5,0,1] (by decide) Z;J h fun a aD h=>aH Z (iM o ac A p aD b.f (aC.f (W Z) b) (hBa1.f b) (aj.f (W Z) b) (hBa2.f b)) Z ?_
 rintro _ w ⟨q,f,rfl,j⟩
 have c:=b.g j
 refine P ?_
 refine a8 (r:=r) (fun (g:Bool×L0×Bool×L0) L w=>∃(B:Value) (C:Value),L=[(0,O d 0),(3,O e 0)]/\St S x w [U X B g.2.1,Y d [K g.1,B],U X C g.2.2.2,Y e [K g.2.2.1,C]]) (F.IL) ?_ ?_
 rotate_left
 ·intro D
  refine R<|V 1 Z<|N (aL Z) Z<|N (am (k:=0) u65 Z Z nz4 Z) Z<|N (au Tryz.underlying4 Z Z (c.q 2 Z 0)) Z<|P ?_
  apply gl9 Z h<;>intro h
  ·refine R<|V 1 Z<|N (aL Z) Z<|N (am (k:=0) u65 Z Z nz4 Z) Z<|N (au Tryz.underlying4 Z Z (c.q 4 Z 0)) Z<|P ?_
   apply gl9 Z h<;>intro h
   ·refine R<|V 2 Z<|J h fun s aE h=>bE c Z (dm 1 aE ) Z fun E av w c=>have b:=c.pick (os':=[Y d [K a.1,q],U X q a.2.1]++[Y av [K s.1,E],U X E s.2,Y e [K a.2.2.1,f],U X f a.2.2.2,Y u [K i.1,n],U X n i.2]) [2,3,0,1,4,5,6,7] (by decide) Z;J h fun G aF h=>aH Z (ej a.1 s.1 aF b.f (b.giveO 1 Z) (b.giveB 0 Z)) Z ?_
    rintro _ w ⟨ad,rfl,j⟩
    have c:=b.g j
    refine P<|al<|V 3 Z<|have b:=c.pick (os':=[Y e [K a.2.2.1,f],U X f a.2.2.2]++[Y d [K G.1,ad],U X ad G.2,Y av [K s.1,E],U X E s.2,Y u [K i.1,n],U X n i.2]) [4,5,0,1,2,3,6,7] (by decide) Z;J h fun aw aI h=>aH Z (eW a.2.2.1 i.1 aI b.f (b.giveO 5 Z) (b.giveB 4 Z)) Z ?_
    rintro _ w ⟨aO,rfl,j⟩
    have c:=b.g j
    exact P<|aG (D (G.1,G.2,aw.1,aw.2) _ _ ⟨ad,aO,Z,(c.d [3,2,1,0] Z Z)⟩ h) Z
   refine R<|V 2 Z<|J h fun t aJ h=>bE c Z (dm 1 aJ ) Z fun T az w c=>have b:=c.pick (os':=[Y d [K a.1,q],U X q a.2.1]++[Y az [K t.1,T],U X T t.2,Y e [K a.2.2.1,f],U X f a.2.2.2,Y u [K i.1,n],U X n i.2]) [2,3,0,1,4,5,6,7] (by decide) Z;J h fun ab aK h=>aH Z (eW a.1 t.1 aK b.f (b.giveO 1 Z) (b.giveB 0 Z)) Z ?_
   rintro _ w ⟨ae,rfl,j⟩
   have c:=b.g j
   refine P<|al<|V 3 Z<|have b:=c.pick (os':=[Y e [K a.2.2.1,f],U X f a.2.2.2]++[Y d [K ab.1,ae],U X ae ab.2,Y az [K t.1,T],U X T t.2,Y u [K i.1,n],U X n i.2]) [4,5,0,1,2,3,6,7] (by decide) Z;J h fun aA aM h=>aH Z (ej a.2.2.1 i.1 aM b.f (b.giveO 5 Z) (b.giveB 4 Z)) Z ?_
   rintro _ w ⟨aP,rfl,j⟩
   have c:=b.g j
   exact P<|aG (D (ab.1,ab.2,aA.1,aA.2) _ _ ⟨ae,aP,Z,(c.d [3,2,1,0] Z Z)⟩ h) Z
  exact gl5<|aG (D (a.1,a.2.1,a.2.2.1,a.2.2.2) _ _ ⟨q,f,Z,(c.d [1,0,3,2] Z Z)⟩ h) Z
 rintro⟨aR,aS,aT,aU⟩ L w hJ h
 try dsimp only at hJ
 obtain⟨B,C,rfl,c⟩:=hJ
 unfold F.IL at h
 refine R<|V 4 Z<|P<|ay ?_
 cases h
 exact bY Z Z Z ⟨B,C,Z,c.d [1,0,3,2] Z Z⟩
theorem ki {w0:World} {x H y:L0} {l ae m:Value} {e aj d:Nat} {S:L2} (o z p:Bool) {r:Bool×L0×Bool×L0}
  (h:F.Jj o x z H p y=some r) (c:St S w0 w0 [Y e [K o,l],U X l x,Y d [K p,m],U X m y]) (ah:RP S w0 X ae H) (hBa2:RB S w0 aj [K z,ae]):Calls Tryz.prog 170 #[O e 0,O d 0,O aj 0,O d 0] w0 (Ret fun v w=>∃ak an:Value,v=.tuple #[O e 0,O d 0]/\St S w0 w [Y e [K r.1,ak],U X ak r.2.1,Y d [K r.2.2.1,an],U X an r.2.2.2]):=by
 refine aB 45 Tryz.func170 Z Z Z<|ax [(0,O e 0),(1,O d 0),(2,O aj 0),(3,O d 0)] Z ?_
 unfold F.Jj at h
 refine R<|V 2 Z<|gl2<|bg (bb (cs:=[K false,L3]) eM Z c) Z fun u w c=>V 1 Z ?_
 replace c:=c.nil X
 have b:=c.pick (os':=[Y u [K false,L3],U X (.slice none 0 0) []]++[Y e [K o,l],U X l x,Y d [K p,m],U X m y]) [1,0,2,3,4,5] (by decide) Z
 refine J h fun i aF h=>aH Z (fZ false z aF b.f (ah.f (W Z) b) (hBa2.f b)) Z ?_
 rintro _ w ⟨n,rfl,j⟩
 have c:=b.g j
 refine V 1 Z<|gl2<|V 4 Z<|have b:=c.pick (os':=[Y e [K o,l],U X l x,Y d [K p,m],U X m y]++[Y u [K i.1,n],U X n i.2]) [2,3,4,5,0,1] (by decide) Z;J h fun a av h=>aH Z (kk o z p av b.f (ah.f (W Z) b) (hBa2.f b)) Z ?_
 rintro _ w ⟨q,f,rfl,j⟩
 have c:=b.g j
 refine P ?_
 refine a8 (r:=r) (fun (g:Bool×L0×Bool×L0) L w=>∃(A:Value) (B:Value),L=[(0,O e 0),(3,O d 0)]/\St S w0 w [U X A g.2.1,Y e [K g.1,A],U X B g.2.2.2,Y d [K g.2.2.1,B]]) (F.IW) ?_ ?_
 rotate_left
 ·intro C
  refine R<|V 1 Z<|N (aL Z) Z<|N (am (k:=0) u65 Z Z nz4 Z) Z<|N (au Tryz.underlying4 Z Z (c.q 2 Z 0)) Z<|P ?_
  apply gl9 Z h<;>intro h
  ·refine R<|V 1 Z<|N (aL Z) Z<|N (am (k:=0) u65 Z Z nz4 Z) Z<|N (au Tryz.underlying4 Z Z (c.q 4 Z 0)) Z<|P ?_
   apply gl9 Z h<;>intro h
   ·refine R<|V 2 Z<|J h fun s aw h=>bE c Z (dm 1 aw ) Z fun D ao w c=>have b:=c.pick (os':=[Y e [K a.1,q],U X q a.2.1]++[Y ao [K s.1,D],U X D s.2,Y d [K a.2.2.1,f],U X f a.2.2.2,Y u [K i.1,n],U X n i.2]) [2,3,0,1,4,5,6,7] (by decide) Z;J h fun E az h=>aH Z (ej a.1 s.1 az b.f (b.giveO 1 Z) (b.giveB 0 Z)) Z ?_
    rintro _ w ⟨ac,rfl,j⟩
    have c:=b.g j
    refine P<|al<|V 3 Z<|have b:=c.pick (os':=[Y d [K a.2.2.1,f],U X f a.2.2.2]++[Y e [K E.1,ac],U X ac E.2,Y ao [K s.1,D],U X D s.2,Y u [K i.1,n],U X n i.2]) [4,5,0,1,2,3,6,7] (by decide) Z;J h fun ap aA h=>aH Z (eW a.2.2.1 i.1 aA b.f (b.giveO 5 Z) (b.giveB 4 Z)) Z ?_
    rintro _ w ⟨aI,rfl,j⟩
    have c:=b.g j
    exact P<|aG (C (E.1,E.2,ap.1,ap.2) _ _ ⟨ac,aI,Z,(c.d [3,2,1,0] Z Z)⟩ h) Z
   refine R<|V 2 Z<|J h fun t aC h=>bE c Z (dm 1 aC ) Z fun G aq w c=>have b:=c.pick (os':=[Y e [K a.1,q],U X q a.2.1]++[Y aq [K t.1,G],U X G t.2,Y d [K a.2.2.1,f],U X f a.2.2.2,Y u [K i.1,n],U X n i.2]) [2,3,0,1,4,5,6,7] (by decide) Z;J h fun T aD h=>aH Z (eW a.1 t.1 aD b.f (b.giveO 1 Z) (b.giveB 0 Z)) Z ?_
   rintro _ w ⟨ad,rfl,j⟩
   have c:=b.g j
   refine P<|al<|V 3 Z<|have b:=c.pick (os':=[Y d [K a.2.2.1,f],U X f a.2.2.2]++[Y e [K T.1,ad],U X ad T.2,Y aq [K t.1,G],U X G t.2,Y u [K i.1,n],U X n i.2]) [4,5,0,1,2,3,6,7] (by decide) Z;J h fun ar aE h=>aH Z (ej a.2.2.1 i.1 aE b.f (b.giveO 5 Z) (b.giveB 4 Z)) Z ?_
   rintro _ w ⟨aJ,rfl,j⟩
   have c:=b.g j
   exact P<|aG (C (T.1,T.2,ar.1,ar.2) _ _ ⟨ad,aJ,Z,(c.d [3,2,1,0] Z Z)⟩ h) Z
  exact gl5<|aG (C (a.1,a.2.1,a.2.2.1,a.2.2.2) _ _ ⟨q,f,Z,(c.d [1,0,3,2] Z Z)⟩ h) Z
 rintro⟨aM,aN,aO,aP⟩ L w hJ h
 try dsimp only at hJ
 obtain⟨A,B,rfl,c⟩:=hJ
 unfold F.IW at h
 refine R<|V 4 Z<|P<|ay ?_
 cases h
 exact bY Z Z Z ⟨A,B,Z,c.d [1,0,3,2] Z Z⟩
theorem jS {d:World} {e m n:L0} {a j k:Value} {b o p:Nat} {S:L2} (c f g:Bool) {r:Bool×L0}
  (h:F.HF c e f m g n=some r) (i:St S d d [Y b [K c,a],U X a e]) (s:RP S d X j m) (hBa1:RB S d o [K f,j]) (t:RP S d X k n) (hBa2:RB S d p [K g,k]):Calls Tryz.prog 147 #[O b 0,O o 0,O p 0] d (Ret fun v w=>∃q:Value,v=O b 0/\St S d w [Y b [K r.1,q],U X q r.2]):=by
 refine aB 13 Tryz.func147 Z Z Z<|ax [(0,O b 0),(1,O o 0),(2,O p 0)] Z ?_
 unfold F.HF at h
 refine R<|V 1 Z<|gl2<|bg (bb (cs:=[K false,L3]) eM Z i) Z fun x w i=>V 3 Z ?_
 replace i:=i.nil X
 have l:=i.pick (os':=[Y x [K false,L3],U X (.slice none 0 0) [],Y b [K c,a],U X a e]++[]) [1,0,2,3] (by decide) Z
 refine J h fun A u h=>aH Z (mB false f g c u l.f (s.f (W Z) l) (hBa1.f l) (t.f (W Z) l) (hBa2.f l)) Z ?_
 rintro _ w ⟨B,y,rfl,z⟩
 have i:=l.g z
 refine gl2<|V 2 Z<|P<|ay ?_
 cases h
 exact az Z Z ⟨y,Z,i.d [2,3] Z Z⟩
theorem lR {i:World} {d j:L0} {b g:Value} {a k:Nat} {S:L2} (c e:Bool) {r:Bool×L0}
  (h:F.I6 c d e j=some r) (f:St S i i [Y a [K c,b],U X b d]) (m:RP S i X g j) (hBa2:RB S i k [K e,g]):Calls Tryz.prog 147 #[O a 0,O a 0,O k 0] i (Ret fun v w=>∃l:Value,v=O a 0/\St S i w [Y a [K r.1,l],U X l r.2]):=by
 refine aB 13 Tryz.func147 Z Z Z<|ax [(0,O a 0),(1,O a 0),(2,O k 0)] Z ?_
 unfold F.I6 at h
 refine R<|V 1 Z<|gl2<|bg (bb (cs:=[K false,L3]) eM Z f) Z fun p w f=>V 3 Z ?_
 replace f:=f.nil X
 have n:=f.pick (os':=[Y p [K false,L3],U X (.slice none 0 0) [],Y a [K c,b],U X b d]++[]) [1,0,2,3] (by decide) Z
 refine J h fun t o h=>aH Z (ki false e c o n.f (m.f (W Z) n) (hBa2.f n)) Z ?_
 rintro _ w ⟨u,q,rfl,s⟩
 have f:=n.g s
 refine gl2<|V 2 Z<|P<|ay ?_
 cases h
 exact az Z Z ⟨q,Z,f.d [2,3] Z Z⟩
end Go.Proofs
