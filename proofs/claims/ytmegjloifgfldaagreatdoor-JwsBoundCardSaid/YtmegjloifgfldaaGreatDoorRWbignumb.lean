import Derived.Test.YtmegjloifgfldaaGreatDoorRW0
import Derived.Test.YtmegjloifgfldaaGreatDoorGkFman
import Derived.Test.YtmegjloifgfldaaGreatDoorRWbignuma
set_option linter.unusedVariables false
set_option linter.unusedSimpArgs false
set_option linter.unusedSectionVars false
set_option maxRecDepth 4000
namespace Go.Proofs
open Go Go.RowKit Go.Gk
open Go.Gk renaming aa -> V, af -> M, ag -> O, ai -> J, e32 -> X, gl3 -> Q, gl4 -> R, own -> U, pB -> P, vB -> N, vI -> H
open Nat renaming le_of_ble_eq_true -> W
open Go.Gk.OE renaming bx -> Y
theorem kP {B:World} {a0 a1:Q0} {bM bN:Value} {r:Q0×Q0}
  (h:F.Ig a0 a1=some r) (S:RP [] B X bM a0) (E:RP [] B X bN a1):Calls Tryz.prog 185 #[bM,bN] B (Ret fun v w=>∃u0 u1:Value,v=.tuple #[u0,u1]/\St [] B w [U X u0 r.1,U X u1 r.2]):=by
 refine ax 273 Tryz.func185 Z Z Z<|have a:=St.k B;ay [(0,bM),(1,bN)] Z ?_
 unfold F.Ig at h
 refine R<|V 2 Z<|gl1<|R<|V 1 Z<|O (aD u57 Z (E.b a.fr)) Z<|V 1 Z<|Q ?_
 apply gl9 Z h<;>intro h
 ·refine R<|V 2 Z<|gl8 ?_
  cases h
  exact bH Z Z Z ⟨Q3,Q3,Z,((a.nil X).nil X).d [1,0] Z Z⟩
 refine gl5<|az<|R<|V 2 Z<|M h fun dn cC h=>aR a Z (kQ  cC (S.b a.fr).rp (E.b a.fr).rp) Z fun w a=>V 1 Z<|Q ?_
 apply gl9 Z h<;>intro h
 ·refine R<|V 1 Z<|M h fun dp cE h=>aO a Z (j2  cE (S.b a.fr).rp) Z fun cY w a=>V 2 Z<|gl8 ?_
  cases h
  exact bH Z Z Z ⟨Q3,cY,Z,(a.nil X).d [0,1] Z Z⟩
 refine gl5<|az<|R<|V 1 Z<|O (aD u57 Z (S.b a.fr)) Z<|V 1 Z<|Q ?_
 apply gl9 Z h<;>intro h
 ·refine R<|V 1 Z<|M h fun a3 cF h=>aR a Z (lR  cF (S.b a.fr).rp) Z fun w a=>V 1 Z<|M h fun a4 cG h=>aR a Z (lR  cG (E.b a.fr).rp) Z fun w a=>V 2 Z<|gl1<|aQ (fun w'=>St [] B w' []) (fun i=>!([3,7].contains i)) bL (fun _ _ _ y=>y.2) (fun _ _ y=>y) (by kernel_rfl)<|have a:=a.drew;show lxE _ _ _ _ _ _ _ [0,1,2,3,4,5,6,7,8,9] _ _ from an 2 Z a<|dh h fun cH h=>J a Z Z (fun w k=>aj Z Z (jo _ a3 a4 cH)) Z<|M h fun dq cI h=>aY a Z Z (by kernel_rfl) Z (eW (a3 / a4) cI ) Z fun cZ w A=>have a:=a.e A;an 2 Z (a.d [] Z Z)<|dh h fun b3 h=>J (a.d [] Z Z) Z Z (fun w k=>aj Z Z (ft _ a3 a4 b3)) Z<|M h fun c9 b4 h=>aY (a.d [] Z Z) Z Z (by kernel_rfl) Z (eW (a3%a4) b4 ) Z fun cJ w A=>have a:=a.e A;an 2 Z (a.d [] Z Z)<|a9 (a.d [] Z Z)<|al<|gl7 ?_
  cases h
  exact bH Z Z Z ⟨cZ,cJ,Z,a.d [1,0] Z Z⟩
 refine gl5<|az<|R<|V 1 Z<|O (aD u57 Z (E.b a.fr)) Z<|V 1 Z<|Q ?_
 apply gl9 Z h<;>intro h
 ·refine R<|V 2 Z<|M h fun cK a5 h=>O (bh u57 aN Z Z (E.b a.fr) a5) Z<|O (aW u106 Z Z (E.b a.fr) a5 Z) Z<|M h fun ae b5 h=>cV a Z (rR cK b5 (S.b a.fr).rp) Z fun bO w a=>V 5 Z<|gl2<|V 2 Z<|bm (bJ (e:=X) (l:=([ae.2]:Q0)) (vs:=[v32 ae.2]) u57 aN Z Z Z Z (by decide) (by decide) a) Z fun cL w a=>have hG:=a.pick (os':=[U X cL ([ae.2]:Q0)]++[U X bO ae.1]) [0,1] (by decide) Z;M h fun da b6 h=>aK Z (dA  b6 hG.f ) Z ?_
  rintro cM w ⟨c2,bP,A⟩
  rw[<-bP]at A
  have a:=hG.g A
  refine V 2 Z<|gl8 ?_
  cases h
  exact bH Z Z Z ⟨bO,cM,Z,a.d [1,0] Z Z⟩
 refine gl6<|V 1 Z<|M h fun bQ b7 h=>aR a Z (i6  b7 (E.b a.fr).rp) Z fun w a=>V 1 Z<|O (aj Z Z (jP _ (wI (bQ - 1)) 32 (by decide))) Z<|V 2 Z<|O (aG Z (fx u3 u67 (wI ((wI (32 - (Int.tmod (wI (bQ - 1)) 32))) - 1)))) Z<|bd h fun n b8 h=>O (bc (v:=v64 n) (by rw[<-b8]; rfl)) Z<|gl2<|V 2 Z<|M h fun b b9 h=>aO a Z (jW n b9 (E.b a.fr).rp) Z fun c w a=>V 1 Z<|gl2<|V 1 Z<|O (aD u57 Z (S.b a.fr)) Z<|V 1 Z<|M h fun db ca h=>bm (cW (e:=X) u57 aN Z Z Z a ca) Z fun d w a=>V 1 Z<|gl2<|V 3 Z<|M h fun cN cb h=>aO a Z (jW n cb (S.b a.fr).rp) Z fun cO w a=>bm (rF (e:=X) u57 aN Z Z Z a (i:=1) Z (a.ro 0 Z)) Z ?_
 rintro v_q w ⟨hv_q,a⟩
 subst v_q
 obtain⟨bR,cd,h⟩:=fF h
 rw[cd]at a
 refine gl2<|V 1 Z<|O (aD u57 Z (a.ro 2 Z)) Z<|V 1 Z<|gl2<|V 1 Z<|O (aD u57 Z (a.ro 1 Z)) Z<|V 3 Z<|bd h fun aC ce h=>O (bc (v:=H aC) (by rw[<-ce]; rfl)) Z<|gl2<|V 2 Z<|M h fun bS cf h=>bm (cW (e:=X) u57 aN Z Z Z a cf) Z fun j w a=>V 1 Z<|gl1<|aQ (fun w'=>St [] B w' [U X j bS,U X cO cN,U X d bR,U X c b]) (fun _=>true) bL (fun _ _ _ y=>y.2) (fun _ _ y=>y) (by kernel_rfl)<|have a:=a.drew;show lxE _ _ _ _ _ _ _ [0,1,2,3,4,5,6,7,8,9,10,11,12,13] _ _ from an 3 Z a<|M h fun f a6 h=>J a Z Z (fun w k=>bh u57 aN Z Z (k.ro 3 Z) a6) Z<|J a Z Z (fun w k=>aW u106 Z Z (k.ro 3 Z) a6 Z) Z<|J a Z Z (fun w k=>aG Z (bC u106 u103 f)) Z<|an 3 Z a<|M h fun m ba h=>J a Z Z (fun w k=>bh u57 aN Z Z (k.ro 3 Z) ba) Z<|J a Z Z (fun w k=>aW u106 Z Z (k.ro 3 Z) ba Z) Z<|J a Z Z (fun w k=>aG Z (bC u106 u103 m)) Z<|an 2 Z a<|a9 a<|al<|az<|R<|V 2 Z ?_
 refine Q<|av<|ay [(10,v64 n),(11,c),(12,d),(13,H (b.length:Int)),(15,j),(16,v64 f.toUInt64),(17,v64 m.toUInt64),(18,H aC)] Z ?_
 refine bg (F.IK n b f m) (fun (s:Int×Q0×Q0) L w=>L=[(10,v64 n),(11,c),(12,d),(13,H (b.length:Int)),(15,j),(16,v64 f.toUInt64),(17,v64 m.toUInt64),(18,H s.1)]/\St [] B w [U X c b,U X d s.2.1,U X j s.2.2]) ?_ (aC,bR,bS) ⟨Z,(a.d [3,2,0] Z Z)⟩ h
 rintro c3 ⟨o,q,p⟩ L w bT T ci h bb
 try dsimp only at T
 obtain⟨rfl,a⟩:=T
 unfold F.IK at h
 refine az<|R<|V 2 Z<|Q ?_
 apply gl9 Z h<;>intro h
 ·refine gl5<|az<|av<|az<|aQ (fun w'=>St [] B w' [U X c b,U X d q,U X j p]) (fun _=>true) bL (fun _ _ _ y=>y.2) (fun _ _ y=>y) (by kernel_rfl)<|have a:=a.drew;show lxE _ _ _ _ _ _ _ [0,1,2,3,4,5,6,7,8,9,10,11,12,13,14,15,16,17] _ _ from an 4 Z a<|M h fun aJ be h=>J a Z Z (fun w k=>bh u57 aN Z Z (k.ro 1 Z) be) Z<|J a Z Z (fun w k=>aW u106 Z Z (k.ro 1 Z) be Z) Z<|J a Z Z (fun w k=>aG Z (bC u106 u103 aJ)) Z<|J a Z Z (fun w k=>aj Z Z (cr _ aJ.toUInt64 32)) Z<|an 5 Z a<|M h fun bU bf h=>J a Z Z (fun w k=>bh u57 aN Z Z (k.ro 1 Z) bf) Z<|J a Z Z (fun w k=>aW u106 Z Z (k.ro 1 Z) bf Z) Z<|J a Z Z (fun w k=>aG Z (bC u106 u103 bU)) Z<|J a Z Z (fun w k=>aj Z Z (dO _ (aH aJ.toUInt64 32) bU.toUInt64)) Z<|bd h fun C cj h=>J a Z Z (fun w k=>bc (v:=v64 C) (by rw[<-cj]; rfl)) Z<|a9 a<|al<|az<|aQ (fun w'=>St [] B w' [U X c b,U X d q,U X j p]) (fun _=>true) bL (fun _ _ _ y=>y.2) (fun _ _ y=>y) (by kernel_rfl)<|have a:=a.drew;show lxE _ _ _ _ _ _ _ [0,1,2,3,4,5,6,7] _ _ from an 2 Z a ?_
  refine dh h fun ck h=>J a Z Z (fun w k=>aj Z Z (jo _ C f.toUInt64 ck)) Z<|an 2 Z a<|dh h fun cl h=>J a Z Z (fun w k=>aj Z Z (ft _ C f.toUInt64 cl)) Z<|an 2 Z a<|a9 a<|al ?_
  refine aT (r:=bT) (fun (g:UInt64) L w=>L=[(10,v64 n),(11,c),(12,d),(13,H (b.length:Int)),(15,j),(16,v64 f.toUInt64),(17,v64 m.toUInt64),(18,H o),(20,v64 g)]/\St [] B w [U X c b,U X d q,U X j p]) (F.Iz q b o p) ?_ ?_
  rotate_left
  ·intro bi
   refine av<|ay [(10,v64 n),(11,c),(12,d),(13,H (b.length:Int)),(15,j),(16,v64 f.toUInt64),(17,v64 m.toUInt64),(18,H o),(20,v64 (C / f.toUInt64)),(21,v64 (C%f.toUInt64))] Z ?_
   refine bg (F.I1 b m o q f p) (fun (s:UInt64×UInt64) L w=>L=[(10,v64 n),(11,c),(12,d),(13,H (b.length:Int)),(15,j),(16,v64 f.toUInt64),(17,v64 m.toUInt64),(18,H o),(20,v64 s.1),(21,v64 s.2)]/\St [] B w [U X c b,U X d q,U X j p]) ?_ (C / f.toUInt64,C%f.toUInt64) ⟨Z,a⟩ h
   rintro dc ⟨u,z⟩ L w cP T cm h ah
   try dsimp only at T
   obtain⟨rfl,a⟩:=T
   unfold F.I1 at h
   refine az ?_
   refine aT (r:=cP) (fun (g:Bool) L w=>L=[(10,v64 n),(11,c),(12,d),(13,H (b.length:Int)),(15,j),(16,v64 f.toUInt64),(17,v64 m.toUInt64),(18,H o),(20,v64 u),(21,v64 z),(154,N g)]/\St [] B w [U X c b,U X d q,U X j p]) (F.HB f u z q b o p) ?_ ?_
   rotate_left
   ·intro bj
    refine am<|V 1 Z<|O (aj Z Z (me _ u 4294967295)) Z<|V 1 Z ?_
    cases G:(decide ((4294967295:UInt64)<u))
    case true=>
     have h:=bD h G
     try simp only[G]
     exact V 16 Z<|Q<|aA (bj true _ _ ⟨Z,a⟩ h) Z
    case false=>
     have h:=bE h G
     try simp only[G]
     exact V 2 Z<|aI (t:=138) Z Z (aj Z Z (jw _ u m.toUInt64)) Z<|V 1 Z<|aI (t:=138) Z Z (aj Z Z (cr _ z 32)) Z<|V 5 Z<|M h fun ak bk h=>aI (t:=138) Z Z (bh u57 aN Z Z (a.ro 1 Z) bk) Z<|aI (t:=138) Z Z (aW u106 Z Z (a.ro 1 Z) bk Z) Z<|aI (t:=138) Z Z (aG Z (bC u106 u103 ak)) Z<|aI (t:=138) Z Z (aj Z Z (dO _ (aH z 32) ak.toUInt64)) Z<|aI (t:=138) Z Z (aj Z Z (me _ (u*m.toUInt64) ((aH z 32) ||| ak.toUInt64))) Z<|V 1 Z<|Q<|aA (bj (decide (((aH z 32) ||| ak.toUInt64)<(u*m.toUInt64))) _ _ ⟨Z,a⟩ h) Z
   rintro dd L w hJ h
   try dsimp only at hJ
   obtain⟨rfl,a⟩:=hJ
   unfold F.HB at h
   apply gl9 Z h<;>intro h
   ·refine gl5<|av<|R<|V 1 Z<|O (aj Z Z (fw _ u 1)) Z<|V 1 Z<|gl2<|V 2 Z<|O (aj Z Z (cD _ z f.toUInt64)) Z<|V 1 Z<|gl2<|V 1 Z<|O (aj Z Z (me _ (z+f.toUInt64) 4294967295)) Z<|Q ?_
    apply gl9 Z h<;>intro h
    ·exact a7<|ju Z<|aB<|have h:=aS h ah;a8<|al<|aA (bi (u - 1) _ _ ⟨Z,a⟩ h) Z
    exact cg<|aF<|bn (br (cm (u - 1,z+f.toUInt64) _ _ ⟨Z,a⟩ (aX h ah)) Z)
   exact a7<|aB<|aB<|have h:=aS h ah;a8<|al<|aA (bi u _ _ ⟨Z,a⟩ h) Z
  rintro x L w hJ h
  try dsimp only at hJ
  obtain⟨rfl,a⟩:=hJ
  unfold F.Iz at h
  refine R<|V 2 Z<|gl1<|R<|V 1 Z<|Q<|av<|ay [(10,v64 n),(11,c),(12,d),(13,H (b.length:Int)),(15,j),(16,v64 f.toUInt64),(17,v64 m.toUInt64),(18,H o),(20,v64 x),(22,v64 0),(23,v64 0),(24,H 0)] Z ?_
  refine bg (F.Ie b o x p) (fun (s:UInt64×UInt64×Int×Q0) L w=>L=[(10,v64 n),(11,c),(12,d),(13,H (b.length:Int)),(15,j),(16,v64 f.toUInt64),(17,v64 m.toUInt64),(18,H o),(20,v64 x),(22,v64 s.1),(23,v64 s.2.1),(24,H s.2.2.1)]/\St [] B w [U X c b,U X d s.2.2.2,U X j p]) ?_ (0,0,0,q) ⟨Z,a⟩ h
  rintro c4 ⟨aL,bV,cQ,de⟩ L w df T cn h bl
  try dsimp only at T
  obtain⟨rfl,a⟩:=T
  unfold F.Ie at h
  refine az<|R<|V 3 Z<|Q ?_
  apply gl9 Z h<;>intro h
  ·refine gl5<|az<|av<|R<|V 4 Z<|M h fun aM bp h=>O (bh u57 aN Z Z (a.ro 0 Z) bp) Z<|O (aW u106 Z Z (a.ro 0 Z) bp Z) Z<|O (aG Z (bC u106 u103 aM)) Z<|O (aj Z Z (jw _ x aM.toUInt64)) Z<|O (aj Z Z (cD _ aL (x*aM.toUInt64))) Z<|bd h fun D co h=>O (bc (v:=v64 D) (by rw[<-co]; rfl)) Z<|gl2<|V 4 Z<|M h fun aU bq h=>O (bh u57 aN Z Z (a.ro 1 Z) bq) Z<|O (aW u106 Z Z (a.ro 1 Z) bq Z) Z<|O (aG Z (bC u106 u103 aU)) Z<|V 1 Z<|O (aG Z (ch u103 u106 D)) Z<|O (aG Z (bC u106 u103 D.toUInt32)) Z<|O (aj Z Z (fw _ aU.toUInt64 D.toUInt32.toUInt64)) Z<|V 1 Z<|O (aj Z Z (fw _ (aU.toUInt64 - D.toUInt32.toUInt64) bV)) Z<|bd h fun ab cp h=>O (bc (v:=v64 ab) (by rw[<-cp]; rfl)) Z<|gl2<|V 5 Z<|O (aG Z (ch u103 u106 ab)) Z<|M h fun dg bs h=>O (bh u57 aN Z Z (a.ro 1 Z) bs) Z<|bo (bZ (t:=ab.toUInt32) aN Z Z a (i:=1) Z bs Z) ?_
   intro w a
   obtain⟨cR,cq,h⟩:=fF h
   rw[cq]at a
   exact gl2<|V 1 Z<|O (aj Z Z (cc _ ab 63)) Z<|V 1 Z<|Q<|am<|V 1 Z<|O (aj Z Z (cc _ D 32)) Z<|V 1 Z<|aE<|aF<|al<|am<|V 3 Z<|aE<|bn (br (cn (aP D 32,aP ab 63,wI (cQ+1),cR) _ _ ⟨Z,a⟩ (aX h bl)) Z)
  refine a7<|aB<|aB<|have h:=aS h bl;a8<|al<|R<|V 4 Z<|M h fun aV bt h=>O (bh u57 aN Z Z (a.ro 1 Z) bt) Z<|O (aW u106 Z Z (a.ro 1 Z) bt Z) Z<|O (aG Z (bC u106 u103 aV)) Z<|V 1 Z<|O (aj Z Z (fw _ aV.toUInt64 aL)) Z<|V 1 Z<|O (aj Z Z (fw _ (aV.toUInt64 - aL) bV)) Z<|bd h fun ac cs h=>O (bc (v:=v64 ac) (by rw[<-cs]; rfl)) Z<|gl2<|V 5 Z<|O (aG Z (ch u103 u106 ac)) Z<|M h fun di bu h=>O (bh u57 aN Z Z (a.ro 1 Z) bu) Z<|bo (bZ (t:=ac.toUInt32) aN Z Z a (i:=1) Z bu Z) fun w a=>bd h fun bW ct h=>?_
  rw[ct]at a
  refine Q ?_
  refine aT (r:=bT) (fun (g:UInt64×Q0) L w=>L=[(10,v64 n),(11,c),(12,d),(13,H (b.length:Int)),(15,j),(16,v64 f.toUInt64),(17,v64 m.toUInt64),(18,H o),(20,v64 g.1)]/\St [] B w [U X c b,U X d g.2,U X j p]) (F.H6 o p) ?_ ?_
  rotate_left
  ·intro au
   refine R<|V 1 Z<|O (aj Z Z (cc _ ac 63)) Z<|O (aj Z Z (Ej _ (aP ac 63) 0)) Z<|Q ?_
   apply gl9 Z h<;>intro h
   ·refine R<|V 1 Z<|O (aj Z Z (fw _ x 1)) Z<|V 1 Z<|gl2<|V 1 Z<|gl1<|R<|V 1 Z<|Q<|av<|ay [(10,v64 n),(11,c),(12,d),(13,H (b.length:Int)),(15,j),(16,v64 f.toUInt64),(17,v64 m.toUInt64),(18,H o),(20,v64 (x - 1)),(22,v64 0),(27,H 0)] Z ?_
    refine bg (F.HL b o x p) (fun (s:UInt64×Int×Q0) L w=>L=[(10,v64 n),(11,c),(12,d),(13,H (b.length:Int)),(15,j),(16,v64 f.toUInt64),(17,v64 m.toUInt64),(18,H o),(20,v64 (x - 1)),(22,v64 s.1),(27,H s.2.1)]/\St [] B w [U X c b,U X d s.2.2,U X j p]) ?_ (0,0,bW) ⟨Z,a⟩ h
    rintro dj ⟨ao,cS,cT⟩ L w dk T cu h bv
    try dsimp only at T
    obtain⟨rfl,a⟩:=T
    unfold F.HL at h
    refine az<|R<|V 3 Z<|Q ?_
    apply gl9 Z h<;>intro h
    ·refine gl5<|az<|av<|az<|aQ (fun w'=>St [] B w' [U X c b,U X d cT,U X j p]) (fun _=>true) bL (fun _ _ _ y=>y.2) (fun _ _ y=>y) (by kernel_rfl)<|have a:=a.drew;show lxE _ _ _ _ _ _ _ [0,1,2,3,4,5,6,7,8,9,10,11,12,13,14,15] _ _ from an 5 Z a<|M h fun aZ bw h=>J a Z Z (fun w k=>bh u57 aN Z Z (k.ro 1 Z) bw) Z<|J a Z Z (fun w k=>aW u106 Z Z (k.ro 1 Z) bw Z) Z<|J a Z Z (fun w k=>aG Z (bC u106 u103 aZ)) Z<|an 2 Z a<|M h fun a2 bx h=>J a Z Z (fun w k=>bh u57 aN Z Z (k.ro 0 Z) bx) Z<|J a Z Z (fun w k=>aW u106 Z Z (k.ro 0 Z) bx Z) Z<|J a Z Z (fun w k=>aG Z (bC u106 u103 a2)) Z<|J a Z Z (fun w k=>aj Z Z (cD _ aZ.toUInt64 a2.toUInt64)) Z<|J a Z Z (fun w k=>aj Z Z (cD _ ao (aZ.toUInt64+a2.toUInt64))) Z<|bd h fun ad cv h=>J a Z Z (fun w k=>bc (v:=v64 ad) (by rw[<-cv]; rfl)) Z<|a9 a<|al<|R<|V 5 Z<|O (aG Z (ch u103 u106 ad)) Z<|M h fun dl bz h=>O (bh u57 aN Z Z (a.ro 1 Z) bz) Z<|bo (bZ (t:=ad.toUInt32) aN Z Z a (i:=1) Z bz Z) ?_
     intro w a
     obtain⟨cU,cw,h⟩:=fF h
     rw[cw]at a
     exact Q<|am<|V 1 Z<|O (aj Z Z (cc _ ad 32)) Z<|V 1 Z<|aE<|aF<|al<|am<|V 3 Z<|aE<|bn (br (cu (aP ad 32,wI (cS+1),cU) _ _ ⟨Z,a⟩ (aX h bv)) Z)
    refine a7<|aB<|aB<|have h:=aS h bv;a8<|al<|am<|V 4 Z<|M h fun bX bA h=>O (bh u57 aN Z Z (a.ro 1 Z) bA) Z<|O (aW u106 Z Z (a.ro 1 Z) bA Z) Z<|V 1 Z<|O (aG Z (ch u103 u106 ao)) Z<|O (aj Z Z (eR _ bX ao.toUInt32)) Z<|M h fun dm bB h=>O (bh u57 aN Z Z (a.ro 1 Z) bB) Z<|bo (bZ (t:=(bX+ao.toUInt32)) aN Z Z a (i:=1) Z bB Z) fun w a=>bd h fun cX cx h=>?_
    rw[cx]at a
    exact Q<|aA (au (x - 1,cX) _ _ ⟨Z,a⟩ h) Z
   exact gl5<|aA (au (x,bW) _ _ ⟨Z,a⟩ h) Z
  rintro⟨bF,cy⟩ L w hJ h
  try dsimp only at hJ
  obtain⟨rfl,a⟩:=hJ
  unfold F.H6 at h
  refine am<|V 3 Z<|O (aG Z (ch u103 u106 bF)) Z<|M h fun c5 aw h=>O (bh u57 aN Z Z (a.ro 2 Z) aw) Z<|bo (bZ (t:=bF.toUInt32) aN Z Z a (i:=2) Z aw Z) fun w a=>bd h fun cz bY h=>?_
  rw[bY]at a
  exact aE<|aF<|al<|am<|V 3 Z<|aE<|bn (br (ci (wI (o - 1),cy,cz) _ _ ⟨Z,a⟩ (aX h bb)) Z)
 refine a7<|aB<|aB<|have h:=aS h bb;a8<|al<|R<|V 1 Z<|have hG:=a.pick (os':=[U X j p]++[U X c b,U X d q]) [2,0,1] (by decide) Z;M h fun cA b0 h=>aK Z (dA  b0 hG.f ) Z ?_
 rintro bG w ⟨c0,bI,A⟩
 rw[<-bI]at A
 have a:=hG.g A
 refine V 1 Z<|have hG:=a.pick (os':=[U X d q]++[U X bG cA,U X c b]) [2,0,1] (by decide) Z;M h fun c6 b1 h=>aK Z (dA  b1 hG.f ) Z ?_
 rintro c7 w ⟨c1,bK,A⟩
 rw[<-bK]at A
 have a:=hG.g A
 refine V 1 Z<|M h fun c8 b2 h=>aO a Z (rX n b2 (a.ro 0 Z).rp) Z fun cB w a=>V 2 Z<|Q<|ar ?_
 cases h
 exact bH Z Z Z ⟨bG,cB,Z,a.d [2,0] Z Z⟩
theorem i8 {o:World} {m y z j:Q0} {c u x b:Value} {f A B g:Nat} {S:Q2} (l n p d:Bool) {r:Bool×Q0×Bool×Q0}
  (h:F.Jf l m n y p z d j=some r) (a:St S o o [Y f [N l,c],U X c m,Y g [N d,b],U X b j]) (T:RP S o X u y) (hBa1:RB S o A [N n,u]) (ab:RP S o X x z) (hBa2:RB S o B [N p,x]):Calls Tryz.prog 180 #[P f 0,P A 0,P B 0,P g 0] o (Ret fun v w=>∃C D:Value,v=.tuple #[P f 0,P g 0]/\St S o w [Y f [N r.1,C],U X C r.2.1,Y g [N r.2.2.1,D],U X D r.2.2.2]):=by
 refine ax 46 Tryz.func180 Z Z Z<|ay [(0,P f 0),(1,P A 0),(2,P B 0),(3,P g 0)] Z ?_
 unfold F.Jf at h
 refine R<|V 2 Z<|gl1<|aQ (fun w'=>St S o w' [Y f [N l,c],U X c m,Y g [N d,b],U X b j]) (fun _=>true) bL (fun _ _ _ s=>s.2) (fun _ _ s=>s) (by kernel_rfl)<|have a:=a.drew;show lxE _ _ _ _ _ _ _ [0,1,2,3,4,5,6,7,8,9] _ _ from an 1 Z a<|J a Z Z (fun w e=>aL Z) Z<|J a Z Z (fun w e=>ak (k:=0) u130 Z Z nz4 Z) Z<|J a Z Z (fun w e=>ao u4 Z Z (hBa1.cell e.fr 0 Z)) Z<|an 1 Z a<|J a Z Z (fun w e=>aL Z) Z<|J a Z Z (fun w e=>ak (k:=0) u130 Z Z nz4 Z) Z<|J a Z Z (fun w e=>ao u4 Z Z (hBa2.cell e.fr 0 Z)) Z<|an 2 Z a<|a9 a<|al<|az<|aQ (fun w'=>St S o w' [Y f [N l,c],U X c m,Y g [N d,b],U X b j]) (fun i=>!([8].contains i)) bL (fun _ _ _ s=>s.2) (fun _ _ s=>s) (by kernel_rfl)<|have a:=a.drew;show lxE _ _ _ _ _ _ _ [0,1,2,3,4,5,6,7,8,9,10,11,12,13] _ _ from an 1 Z a<|J a Z Z (fun w e=>aL Z) Z<|J a Z Z (fun w e=>ak (k:=1) u130 Z Z dD Z) Z<|J a Z Z (fun w e=>ao u57 Z Z (hBa1.cell e.fr 1 Z)) Z<|an 1 Z a<|J a Z Z (fun w e=>aL Z) Z<|J a Z Z (fun w e=>ak (k:=1) u130 Z Z dD Z) Z ?_
 refine J a Z Z (fun w e=>ao u57 Z Z (hBa2.cell e.fr 1 Z)) Z<|M h fun E ah h=>aY a Z Z (by kernel_rfl) Z (kP  ah (T.b a.fr).rp (ab.b a.fr).rp) Z ?_
 rintro _ w ⟨ap,ae,rfl,q⟩
 have a:=a.e q
 refine an 5 Z (a.d [2,3,4,5] Z Z)<|a9 (a.d [2,3,4,5] Z Z)<|al<|R<|V 3 Z<|O (aj Z Z (kS _ n p u4 Z)) Z<|V 1 Z<|have G:=a.pick (os':=[Y f [N l,c],U X c m,U X ap E.1]++[U X ae E.2,Y g [N d,b],U X b j]) [2,3,0,1,4,5] (by decide) Z;M h fun L ac h=>aK Z (bS l (n != p) ac G.f ) Z ?_
 rintro _ w ⟨t,rfl,q⟩
 have a:=G.g q
 refine gl2<|V 3 Z<|have G:=a.pick (os':=[Y g [N d,b],U X b j,U X ae E.2]++[Y f [N L.1,t],U X t L.2]) [3,4,2,0,1] (by decide) Z;M h fun aq ad h=>aK Z (bS d n ad G.f ) Z ?_
 rintro _ w ⟨am,rfl,q⟩
 have a:=G.g q
 refine gl2<|V 4 Z<|Q<|ar ?_
 cases h
 exact bH Z Z Z ⟨t,am,Z,a.d [2,3,0,1] Z Z⟩
theorem kV {o:World} {m u j:Q0} {c t b:Value} {g x e:Nat} {S:Q2} (l n d:Bool) {r:Bool×Q0×Bool×Q0}
  (h:F.Mt l m n u d j=some r) (a:St S o o [Y g [N l,c],U X c m,Y e [N d,b],U X b j]) (D:RP S o X t u) (hBa2:RB S o x [N n,t]):Calls Tryz.prog 180 #[P g 0,P e 0,P x 0,P e 0] o (Ret fun v w=>∃y z:Value,v=.tuple #[P g 0,P e 0]/\St S o w [Y g [N r.1,y],U X y r.2.1,Y e [N r.2.2.1,z],U X z r.2.2.2]):=by
 refine ax 46 Tryz.func180 Z Z Z<|ay [(0,P g 0),(1,P e 0),(2,P x 0),(3,P e 0)] Z ?_
 unfold F.Mt at h
 refine R<|V 2 Z<|gl1<|aQ (fun w'=>St S o w' [Y g [N l,c],U X c m,Y e [N d,b],U X b j]) (fun _=>true) bL (fun _ _ _ q=>q.2) (fun _ _ q=>q) (by kernel_rfl)<|have a:=a.drew;show lxE _ _ _ _ _ _ _ [0,1,2,3,4,5,6,7,8,9] _ _ from an 1 Z a<|J a Z Z (fun w f=>aL Z) Z<|J a Z Z (fun w f=>ak (k:=0) u130 Z Z nz4 Z) Z<|J a Z Z (fun w f=>ao u4 Z Z (f.q 2 Z 0)) Z<|an 1 Z a<|J a Z Z (fun w f=>aL Z) Z<|J a Z Z (fun w f=>ak (k:=0) u130 Z Z nz4 Z) Z<|J a Z Z (fun w f=>ao u4 Z Z (hBa2.cell f.fr 0 Z)) Z<|an 2 Z a<|a9 a<|al<|az<|aQ (fun w'=>St S o w' [Y g [N l,c],U X c m,Y e [N d,b],U X b j]) (fun i=>!([8].contains i)) bL (fun _ _ _ q=>q.2) (fun _ _ q=>q) (by kernel_rfl)<|have a:=a.drew;show lxE _ _ _ _ _ _ _ [0,1,2,3,4,5,6,7,8,9,10,11,12,13] _ _ from an 1 Z a<|J a Z Z (fun w f=>aL Z) Z<|J a Z Z (fun w f=>ak (k:=1) u130 Z Z dD Z) Z<|J a Z Z (fun w f=>ao u57 Z Z (f.q 2 Z 1)) Z<|an 1 Z a<|J a Z Z (fun w f=>aL Z) Z<|J a Z Z (fun w f=>ak (k:=1) u130 Z Z dD Z) Z ?_
 refine J a Z Z (fun w f=>ao u57 Z Z (hBa2.cell f.fr 1 Z)) Z<|M h fun A T h=>aY a Z Z (by kernel_rfl) Z (kP  T (a.ro 3 Z).rp (D.b a.fr).rp) Z ?_
 rintro _ w ⟨ac,L,rfl,p⟩
 have a:=a.e p
 refine an 5 Z (a.d [2,3,4,5] Z Z)<|a9 (a.d [2,3,4,5] Z Z)<|al<|R<|V 3 Z<|O (aj Z Z (kS _ d n u4 Z)) Z<|V 1 Z<|have B:=a.pick (os':=[Y g [N l,c],U X c m,U X ac A.1]++[U X L A.2,Y e [N d,b],U X b j]) [2,3,0,1,4,5] (by decide) Z;M h fun C E h=>aK Z (bS l (d != n) E B.f ) Z ?_
 rintro _ w ⟨s,rfl,p⟩
 have a:=B.g p
 refine gl2<|V 3 Z<|have B:=a.pick (os':=[Y e [N d,b],U X b j,U X L A.2]++[Y g [N C.1,s],U X s C.2]) [3,4,2,0,1] (by decide) Z;M h fun ad G h=>aK Z (bS d d G B.f ) Z ?_
 rintro _ w ⟨ab,rfl,p⟩
 have a:=B.g p
 refine gl2<|V 4 Z<|Q<|ar ?_
 cases h
 exact bH Z Z Z ⟨s,ab,Z,a.d [2,3,0,1] Z Z⟩
theorem kU {o:World} {m u l:Q0} {c t b:Value} {e x j:Nat} {S:Q2} (d n f:Bool) {r:Bool×Q0×Bool×Q0}
  (h:F.Mu d m n u f l=some r) (a:St S o o [Y e [N d,c],U X c m,Y j [N f,b],U X b l]) (D:RP S o X t u) (hBa2:RB S o x [N n,t]):Calls Tryz.prog 180 #[P e 0,P e 0,P x 0,P j 0] o (Ret fun v w=>∃y z:Value,v=.tuple #[P e 0,P j 0]/\St S o w [Y e [N r.1,y],U X y r.2.1,Y j [N r.2.2.1,z],U X z r.2.2.2]):=by
 refine ax 46 Tryz.func180 Z Z Z<|ay [(0,P e 0),(1,P e 0),(2,P x 0),(3,P j 0)] Z ?_
 unfold F.Mu at h
 refine R<|V 2 Z<|gl1<|aQ (fun w'=>St S o w' [Y e [N d,c],U X c m,Y j [N f,b],U X b l]) (fun _=>true) bL (fun _ _ _ q=>q.2) (fun _ _ q=>q) (by kernel_rfl)<|have a:=a.drew;show lxE _ _ _ _ _ _ _ [0,1,2,3,4,5,6,7,8,9] _ _ from an 1 Z a<|J a Z Z (fun w g=>aL Z) Z<|J a Z Z (fun w g=>ak (k:=0) u130 Z Z nz4 Z) Z<|J a Z Z (fun w g=>ao u4 Z Z (g.q 0 Z 0)) Z<|an 1 Z a<|J a Z Z (fun w g=>aL Z) Z<|J a Z Z (fun w g=>ak (k:=0) u130 Z Z nz4 Z) Z<|J a Z Z (fun w g=>ao u4 Z Z (hBa2.cell g.fr 0 Z)) Z<|an 2 Z a<|a9 a<|al<|az<|aQ (fun w'=>St S o w' [Y e [N d,c],U X c m,Y j [N f,b],U X b l]) (fun i=>!([8].contains i)) bL (fun _ _ _ q=>q.2) (fun _ _ q=>q) (by kernel_rfl)<|have a:=a.drew;show lxE _ _ _ _ _ _ _ [0,1,2,3,4,5,6,7,8,9,10,11,12,13] _ _ from an 1 Z a<|J a Z Z (fun w g=>aL Z) Z<|J a Z Z (fun w g=>ak (k:=1) u130 Z Z dD Z) Z<|J a Z Z (fun w g=>ao u57 Z Z (g.q 0 Z 1)) Z<|an 1 Z a<|J a Z Z (fun w g=>aL Z) Z<|J a Z Z (fun w g=>ak (k:=1) u130 Z Z dD Z) Z ?_
 refine J a Z Z (fun w g=>ao u57 Z Z (hBa2.cell g.fr 1 Z)) Z<|M h fun A T h=>aY a Z Z (by kernel_rfl) Z (kP  T (a.ro 1 Z).rp (D.b a.fr).rp) Z ?_
 rintro _ w ⟨ac,L,rfl,p⟩
 have a:=a.e p
 refine an 5 Z (a.d [2,3,4,5] Z Z)<|a9 (a.d [2,3,4,5] Z Z)<|al<|R<|V 3 Z<|O (aj Z Z (kS _ d n u4 Z)) Z<|V 1 Z<|have B:=a.pick (os':=[Y e [N d,c],U X c m,U X ac A.1]++[U X L A.2,Y j [N f,b],U X b l]) [2,3,0,1,4,5] (by decide) Z;M h fun C E h=>aK Z (bS d (d != n) E B.f ) Z ?_
 rintro _ w ⟨s,rfl,p⟩
 have a:=B.g p
 refine gl2<|V 3 Z<|have B:=a.pick (os':=[Y j [N f,b],U X b l,U X L A.2]++[Y e [N C.1,s],U X s C.2]) [3,4,2,0,1] (by decide) Z;M h fun ad G h=>aK Z (bS f d G B.f ) Z ?_
 rintro _ w ⟨ab,rfl,p⟩
 have a:=B.g p
 refine gl2<|V 4 Z<|Q<|ar ?_
 cases h
 exact bH Z Z Z ⟨s,ab,Z,a.d [2,3,0,1] Z Z⟩
theorem fT {f:World} {d:Q0} {a:Value} {c:Nat} {S:Q2} (b:Bool) (a1:Int) {r:Bool×Q0}
  (h:F.IY b d a1=some r) (e:St S f f [Y c [N b,a],U X a d]):Calls Tryz.prog 135 #[P c 0,H a1] f (Ret fun v w=>∃i:Value,v=P c 0/\St S f w [Y c [N r.1,i],U X i r.2]):=by
 refine ax 18 Tryz.func135 Z Z Z<|ay [(0,P c 0),(1,H a1)] Z ?_
 unfold F.IY at h
 refine R<|V 1 Z<|gl2<|V 1 Z<|O (aG Z (fx Tryz.underlying2 u103 a1)) Z<|V 1 Z<|Q ?_
 refine aT (r:=r) (fun (g:UInt64) L w=>L=[(0,P c 0),(1,H a1),(5,v64 g)]/\St S f w [Y c [N b,a],U X a d]) (F.Ku b d a1) ?_ ?_
 rotate_left
 ·intro j
  refine R<|V 2 Z<|Q ?_
  apply gl9 Z h<;>intro h
  ·exact am<|V 1 Z<|O (nO Z (DP (UInt64.ofInt a1))) Z<|V 1 Z<|Q<|aA (j (0 - (UInt64.ofInt a1)) _ _ ⟨Z,e⟩ h) Z
  exact gl5<|aA (j (UInt64.ofInt a1) _ _ ⟨Z,e⟩ h) Z
 rintro n L w o h
 try dsimp only at o
 obtain⟨rfl,e⟩:=o
 unfold F.Ku at h
 refine R<|V 4 Z<|M h fun p k h=>aO e Z (eW n k ) Z fun q w e=>have s:=e.pick (os':=[Y c [N b,a],U X a d,U X q p]++[]) [1,2,0] (by decide) Z;M h fun u l h=>aK Z (bS b (decide (a1<0)) l s.f ) Z ?_
 rintro _ w ⟨m,rfl,t⟩
 have e:=s.g t
 refine V 1 Z<|Q<|ar ?_
 cases h
 exact au Z Z ⟨m,Z,e.d [0,1] Z Z⟩
theorem cZ {d:World} (a0:Int) {r:Bool×Q0}
  (h:F.GV a0=some r) :Calls Tryz.prog 84 #[H a0] d (Ret fun v w=>∃b:Value,∃un0:Nat,v=P un0 0/\St [] d w [Y un0 [N r.1,b],U X b r.2]):=by
 refine ax 6 Tryz.func84 Z Z Z<|have a:=St.k d;ay [(0,H a0)] Z ?_
 unfold F.GV at h
 refine R<|V 1 Z<|gl2<|bl (bf (cs:=[N false,Q3]) dw Z a) Z fun c w a=>V 1 Z ?_
 replace a:=a.nil X
 have f:=a.pick (os':=[Y c [N false,Q3],U X (.slice none 0 0) []]++[]) [1,0] (by decide) Z
 refine M h fun j e h=>aK Z (fT false a0 e f.f ) Z ?_
 rintro _ w ⟨g,rfl,i⟩
 have a:=f.g i
 refine V 1 Z<|Q<|ar ?_
 cases h
 exact au Z Z ⟨g,c,Z,a.d [0,1] Z Z⟩
theorem kv {k:World} {a0 a1:Q0} {b c:Value} {r:Q0}
  (h:F.ID a0 a1=some r) (l:RP [] k X b a0) (q:RP [] k X c a1):Calls Tryz.prog 140 #[b,c] k (Ret fun v w=>St [] k w [U X v r]):=by
 refine ax 45 Tryz.func140 Z Z Z<|have a:=St.k k;ay [(0,b),(1,c)] Z ?_
 unfold F.ID at h
 refine R<|V 1 Z<|gl2<|V 1 Z<|O (aD u57 Z (l.b a.fr)) Z<|M h fun ad T h=>bm (cW (e:=X) u57 aN Z Z Z a T) Z fun d w a=>V 1 Z<|gl2<|V 1 Z<|gl1<|R<|V 1 Z<|Q<|av<|ay [(0,b),(1,c),(5,d),(6,v64 0),(7,H 0)] Z ?_
 refine bg (F.KG a0 a1) (fun (s:UInt64×Int×Q0) L w=>L=[(0,b),(1,c),(5,d),(6,v64 s.1),(7,H s.2.1)]/\St [] k w [U X d s.2.2]) ?_ (0,0,ad) ⟨Z,a⟩ h
 rintro ao ⟨u,x,y⟩ L w ae hI ab h z
 try dsimp only at hI
 obtain⟨rfl,a⟩:=hI
 unfold F.KG at h
 refine az<|R<|V 2 Z<|O (aD u57 Z (l.b a.fr)) Z<|V 1 Z<|Q ?_
 apply gl9 Z h<;>intro h
 ·refine gl5<|az<|av<|R<|V 2 Z<|M h fun f m h=>O (bh u57 aN Z Z (l.b a.fr) m) Z<|O (aW u106 Z Z (l.b a.fr) m Z) Z<|O (aG Z (bC u106 u103 f)) Z<|V 1 Z<|O (aj Z Z (fw _ f.toUInt64 u)) Z<|V 1 Z<|Q ?_
  refine aT (r:=ae) (fun (g:UInt64) L w=>L=[(0,b),(1,c),(5,d),(7,H x),(8,v64 g)]/\St [] k w [U X d y]) (F.Jq x y) ?_ ?_
  rotate_left
  ·intro n
   refine R<|V 2 Z<|O (aD u57 Z (q.b a.fr)) Z<|V 1 Z<|Q ?_
   apply gl9 Z h<;>intro h
   ·exact am<|V 3 Z<|M h fun A o h=>O (bh u57 aN Z Z (q.b a.fr) o) Z<|O (aW u106 Z Z (q.b a.fr) o Z) Z<|O (aG Z (bC u106 u103 A)) Z<|O (aj Z Z (fw _ (f.toUInt64 - u) A.toUInt64)) Z<|bd h fun B D h=>O (bc (v:=v64 B) (by rw[<-D]; rfl)) Z<|Q<|aA (n B _ _ ⟨Z,a⟩ h) Z
   exact gl5<|aA (n (f.toUInt64 - u) _ _ ⟨Z,a⟩ h) Z
  rintro j L w hJ h
  try dsimp only at hJ
  obtain⟨rfl,a⟩:=hJ
  unfold F.Jq at h
  refine R<|V 3 Z<|O (aG Z (ch u103 u106 j)) Z<|M h fun ap p h=>O (bh u57 aN Z Z (a.ro 0 Z) p) Z<|bo (bZ (t:=j.toUInt32) aN Z Z a (i:=0) Z p Z) fun w a=>bd h fun ac E h=>?_
  rw[E]at a
  exact Q<|am<|V 1 Z<|O (aj Z Z (cc _ j 63)) Z<|V 1 Z<|aE<|aF<|al<|am<|V 3 Z<|aE<|bn (br (ab (aP j 63,wI (x+1),ac) _ _ ⟨Z,a⟩ (aX h z)) Z)
 refine a7<|aB<|aB<|have h:=aS h z;a8<|al<|R<|V 1 Z<|have hG:=a.pick (os':=[U X d y]++[]) [0] (by decide) Z;M h fun aq G h=>aK Z (dA  G hG.f ) Z ?_
 rintro aw w ⟨an,C,S⟩
 rw[<-C]at S
 have a:=hG.g S
 refine V 1 Z<|Q<|ar ?_
 cases h
 exact au Z Z (a.d [0] Z Z)
theorem gz {d:World} {a1 a3:Q0} {e f:Value} (a0 a2:Bool) {r:Bool×Q0}
  (h:F.He a0 a1 a2 a3=some r) (b:RP [] d X e a1) (c:RP [] d X f a3):Calls Tryz.prog 163 #[N a0,e,N a2,f] d (Ret fun v w=>∃u1:Value,v=.tuple #[N r.1,u1]/\St [] d w [U X u1 r.2]):=by
 refine ax 29 Tryz.func163 Z Z Z<|have a:=St.k d;ay [(0,N a0),(1,e),(2,N a2),(3,f)] Z ?_
 unfold F.He at h
 refine R<|V 2 Z<|gl1<|R<|V 2 Z<|O (aj Z Z (EK _ a0 a2 u4 Z)) Z<|Q ?_
 apply gl9 Z h<;>intro h
 ·refine R<|V 3 Z<|M h fun o g h=>aO a Z (kR  g (b.b a.fr).rp (c.b a.fr).rp) Z fun l w a=>V 2 Z<|gl8 ?_
  cases h
  exact bH Z Z Z ⟨l,Z,a.d [0] Z Z⟩
 refine gl5<|az<|R<|V 2 Z<|M h fun p i h=>aR a Z (kQ  i (b.b a.fr).rp (c.b a.fr).rp) Z fun w a=>V 1 Z<|Q ?_
 apply gl9 Z h<;>intro h
 ·refine R<|V 3 Z<|M h fun q j h=>aO a Z (kv  j (b.b a.fr).rp (c.b a.fr).rp) Z fun m w a=>V 2 Z<|gl8 ?_
  cases h
  exact bH Z Z Z ⟨m,Z,a.d [0] Z Z⟩
 refine gl6<|V 3 Z<|M h fun s k h=>aO a Z (kv  k (c.b a.fr).rp (b.b a.fr).rp) Z fun n w a=>V 2 Z<|Q<|ar ?_
 cases h
 exact bH Z Z Z ⟨n,Z,a.d [0] Z Z⟩
theorem pZ {e:World} {g o p:Q0} {c m n:Value} {d q s:Nat} {S:Q2} (f j l:Bool) {r:Bool×Q0}
  (h:F.JT f g j o l p=some r) (a:St S e e [Y d [N f,c],U X c g]) (x:RP S e X m o) (hBa1:RB S e q [N j,m]) (y:RP S e X n p) (hBa2:RB S e s [N l,n]):Calls Tryz.prog 122 #[P d 0,P q 0,P s 0] e (Ret fun v w=>∃t:Value,v=P d 0/\St S e w [Y d [N r.1,t],U X t r.2]):=by
 refine ax 28 Tryz.func122 Z Z Z<|ay [(0,P d 0),(1,P q 0),(2,P s 0)] Z ?_
 unfold F.JT at h
 refine R<|V 1 Z<|gl1<|have hsh1:=(a.ro 1 Z).shp;aQ (fun w'=>St S e w' []) (fun i=>!([17,20].contains i)) bL (fun _ _ _ A=>A.2) (fun _ _ A=>A) (by kernel_rfl)<|have a:=a.drew;show lxE _ _ _ _ _ _ _ [0,1,2,3,4,5,6,7,8,9,10,11,12,13,14,15,16,17,18,19,20,21] _ _ from an 2 Z (a.d [] Z Z)<|J (a.d [] Z Z) Z Z (fun w b=>aL Z) Z<|J (a.d [] Z Z) Z Z (fun w b=>ak (k:=0) u130 Z Z nz4 Z) Z<|J (a.d [] Z Z) Z Z (fun w b=>ao u4 Z Z (hBa1.cell b.fr 0 Z)) Z<|an 1 Z (a.d [] Z Z)<|J (a.d [] Z Z) Z Z (fun w b=>aL Z) Z<|J (a.d [] Z Z) Z Z (fun w b=>ak (k:=1) u130 Z Z dD Z) Z<|J (a.d [] Z Z) Z Z (fun w b=>ao u57 Z Z (hBa1.cell b.fr 1 Z)) Z<|an 1 Z (a.d [] Z Z)<|J (a.d [] Z Z) Z Z (fun w b=>aL Z) Z<|J (a.d [] Z Z) Z Z (fun w b=>ak (k:=0) u130 Z Z nz4 Z) Z<|J (a.d [] Z Z) Z Z (fun w b=>ao u4 Z Z (hBa2.cell b.fr 0 Z)) Z<|an 1 Z (a.d [] Z Z)<|J (a.d [] Z Z) Z Z (fun w b=>aL Z) Z<|J (a.d [] Z Z) Z Z (fun w b=>ak (k:=1) u130 Z Z dD Z) Z<|J (a.d [] Z Z) Z Z (fun w b=>ao u57 Z Z (hBa2.cell b.fr 1 Z)) Z ?_
 refine M h fun z B h=>aY (a.d [] Z Z) Z Z (by kernel_rfl) Z (gz j l B (x.b a.fr).rp (y.b a.fr).rp) Z ?_
 rintro _ w ⟨D,rfl,u⟩
 have a:=a.e u
 refine an 2 Z (a.d [] Z Z)<|have E:=a.pick (os':=[Y d [N f,c],U X c g,U X D z.2]++[]) [1,2,0] (by decide) Z;M h fun L C h=>aY (a.d [] Z Z) Z Z (by kernel_rfl) Z (bS f z.1 C E.f ) Z ?_
 rintro _ w ⟨G,rfl,u⟩
 have a:=E.g u
 refine an 1 Z (a.d [] Z Z)<|a9 (a.d [] Z Z)<|al<|ar ?_
 cases h
 exact au Z Z ⟨G,Z,a.d [0,1] Z Z⟩
theorem d8 {f:World} {g m:Q0} {c l:Value} {b n:Nat} {S:Q2} (d j:Bool) {r:Bool×Q0}
  (h:F.HE d g j m=some r) (a:St S f f [Y b [N d,c],U X c g]) (q:RP S f X l m) (hBa2:RB S f n [N j,l]):Calls Tryz.prog 122 #[P b 0,P b 0,P n 0] f (Ret fun v w=>∃o:Value,v=P b 0/\St S f w [Y b [N r.1,o],U X o r.2]):=by
 refine ax 28 Tryz.func122 Z Z Z<|ay [(0,P b 0),(1,P b 0),(2,P n 0)] Z ?_
 unfold F.HE at h
 refine R<|V 1 Z<|gl1<|have hsh1:=(a.ro 1 Z).shp;aQ (fun w'=>St S f w' []) (fun i=>!([1004,1008,17,20].contains i)) bL (fun _ _ _ t=>t.2) (fun _ _ t=>t) (by kernel_rfl)<|have a:=a.drew;show lxE _ _ _ _ _ _ _ [0,1,2,3,4,5,6,7,8,9,10,11,12,13,14,15,16,17,18,19,20,21] _ _ from an 2 Z (a.d [] Z Z)<|J (a.d [] Z Z) Z Z (fun w e=>aL Z) Z<|J (a.d [] Z Z) Z Z (fun w e=>ak (k:=0) u130 Z Z nz4 Z) Z<|ld (a.d [] Z Z) Z Z Z (ao u4 Z Z (a.q 0 Z 0)) Z<|an 1 Z (a.d [] Z Z)<|J (a.d [] Z Z) Z Z (fun w e=>aL Z) Z<|J (a.d [] Z Z) Z Z (fun w e=>ak (k:=1) u130 Z Z dD Z) Z<|ld (a.d [] Z Z) Z Z Z (ao u57 Z Z (a.q 0 Z 1)) Z<|an 1 Z (a.d [] Z Z)<|J (a.d [] Z Z) Z Z (fun w e=>aL Z) Z<|J (a.d [] Z Z) Z Z (fun w e=>ak (k:=0) u130 Z Z nz4 Z) Z<|J (a.d [] Z Z) Z Z (fun w e=>ao u4 Z Z (hBa2.cell e.fr 0 Z)) Z<|an 1 Z (a.d [] Z Z)<|J (a.d [] Z Z) Z Z (fun w e=>aL Z) Z<|J (a.d [] Z Z) Z Z (fun w e=>ak (k:=1) u130 Z Z dD Z) Z<|J (a.d [] Z Z) Z Z (fun w e=>ao u57 Z Z (hBa2.cell e.fr 1 Z)) Z ?_
 refine M h fun s u h=>aY (a.d [] Z Z) Z Z (by kernel_rfl) Z (gz d j u (a.ro 1 Z).rp (q.b a.fr).rp) Z ?_
 rintro _ w ⟨y,rfl,p⟩
 have a:=a.e p
 refine an 2 Z (a.d [] Z Z)<|have z:=a.pick (os':=[Y b [N d,c],U X c g,U X y s.2]++[]) [1,2,0] (by decide) Z;M h fun B x h=>aY (a.d [] Z Z) Z Z (by kernel_rfl) Z (bS d s.1 x z.f ) Z ?_
 rintro _ w ⟨A,rfl,p⟩
 have a:=z.g p
 refine an 1 Z (a.d [] Z Z)<|a9 (a.d [] Z Z)<|al<|ar ?_
 cases h
 exact au Z Z ⟨A,Z,a.d [0,1] Z Z⟩
theorem kL {e:World} {g o p:Q0} {c m n:Value} {d q s:Nat} {S:Q2} (f j l:Bool) {r:Bool×Q0}
  (h:F.Jn f g j o l p=some r) (a:St S e e [Y d [N f,c],U X c g]) (x:RP S e X m o) (hBa1:RB S e q [N j,m]) (y:RP S e X n p) (hBa2:RB S e s [N l,n]):Calls Tryz.prog 161 #[P d 0,P q 0,P s 0] e (Ret fun v w=>∃t:Value,v=P d 0/\St S e w [Y d [N r.1,t],U X t r.2]):=by
 refine ax 29 Tryz.func161 Z Z Z<|ay [(0,P d 0),(1,P q 0),(2,P s 0)] Z ?_
 unfold F.Jn at h
 refine R<|V 1 Z<|gl1<|have hsh1:=(a.ro 1 Z).shp;aQ (fun w'=>St S e w' []) (fun i=>!([18,21].contains i)) bL (fun _ _ _ A=>A.2) (fun _ _ A=>A) (by kernel_rfl)<|have a:=a.drew;show lxE _ _ _ _ _ _ _ [0,1,2,3,4,5,6,7,8,9,10,11,12,13,14,15,16,17,18,19,20,21,22] _ _ from an 2 Z (a.d [] Z Z)<|J (a.d [] Z Z) Z Z (fun w b=>aL Z) Z<|J (a.d [] Z Z) Z Z (fun w b=>ak (k:=0) u130 Z Z nz4 Z) Z<|J (a.d [] Z Z) Z Z (fun w b=>ao u4 Z Z (hBa1.cell b.fr 0 Z)) Z<|an 1 Z (a.d [] Z Z)<|J (a.d [] Z Z) Z Z (fun w b=>aL Z) Z<|J (a.d [] Z Z) Z Z (fun w b=>ak (k:=1) u130 Z Z dD Z) Z<|J (a.d [] Z Z) Z Z (fun w b=>ao u57 Z Z (hBa1.cell b.fr 1 Z)) Z<|an 1 Z (a.d [] Z Z)<|J (a.d [] Z Z) Z Z (fun w b=>aL Z) Z<|J (a.d [] Z Z) Z Z (fun w b=>ak (k:=0) u130 Z Z nz4 Z) Z<|J (a.d [] Z Z) Z Z (fun w b=>ao u4 Z Z (hBa2.cell b.fr 0 Z)) Z<|an 2 Z (a.d [] Z Z)<|J (a.d [] Z Z) Z Z (fun w b=>aL Z) Z<|J (a.d [] Z Z) Z Z (fun w b=>ak (k:=1) u130 Z Z dD Z) Z<|J (a.d [] Z Z) Z Z (fun w b=>ao u57 Z Z (hBa2.cell b.fr 1 Z)) Z ?_
 refine M h fun z B h=>aY (a.d [] Z Z) Z Z (by kernel_rfl) Z (gz j (!l) B (x.b a.fr).rp (y.b a.fr).rp) Z ?_
 rintro _ w ⟨D,rfl,u⟩
 have a:=a.e u
 refine an 2 Z (a.d [] Z Z)<|have E:=a.pick (os':=[Y d [N f,c],U X c g,U X D z.2]++[]) [1,2,0] (by decide) Z;M h fun L C h=>aY (a.d [] Z Z) Z Z (by kernel_rfl) Z (bS f z.1 C E.f ) Z ?_
 rintro _ w ⟨G,rfl,u⟩
 have a:=E.g u
 refine an 1 Z (a.d [] Z Z)<|a9 (a.d [] Z Z)<|al<|ar ?_
 cases h
 exact au Z Z ⟨G,Z,a.d [0,1] Z Z⟩
theorem eK {f:World} {g m:Q0} {c l:Value} {b n:Nat} {S:Q2} (d j:Bool) {r:Bool×Q0}
  (h:F.HX d g j m=some r) (a:St S f f [Y b [N d,c],U X c g]) (q:RP S f X l m) (hBa2:RB S f n [N j,l]):Calls Tryz.prog 161 #[P b 0,P b 0,P n 0] f (Ret fun v w=>∃o:Value,v=P b 0/\St S f w [Y b [N r.1,o],U X o r.2]):=by
 refine ax 29 Tryz.func161 Z Z Z<|ay [(0,P b 0),(1,P b 0),(2,P n 0)] Z ?_
 unfold F.HX at h
 refine R<|V 1 Z<|gl1<|have hsh1:=(a.ro 1 Z).shp;aQ (fun w'=>St S f w' []) (fun i=>!([1004,1008,18,21].contains i)) bL (fun _ _ _ t=>t.2) (fun _ _ t=>t) (by kernel_rfl)<|have a:=a.drew;show lxE _ _ _ _ _ _ _ [0,1,2,3,4,5,6,7,8,9,10,11,12,13,14,15,16,17,18,19,20,21,22] _ _ from an 2 Z (a.d [] Z Z)<|J (a.d [] Z Z) Z Z (fun w e=>aL Z) Z<|J (a.d [] Z Z) Z Z (fun w e=>ak (k:=0) u130 Z Z nz4 Z) Z<|ld (a.d [] Z Z) Z Z Z (ao u4 Z Z (a.q 0 Z 0)) Z<|an 1 Z (a.d [] Z Z)<|J (a.d [] Z Z) Z Z (fun w e=>aL Z) Z<|J (a.d [] Z Z) Z Z (fun w e=>ak (k:=1) u130 Z Z dD Z) Z<|ld (a.d [] Z Z) Z Z Z (ao u57 Z Z (a.q 0 Z 1)) Z<|an 1 Z (a.d [] Z Z)<|J (a.d [] Z Z) Z Z (fun w e=>aL Z) Z<|J (a.d [] Z Z) Z Z (fun w e=>ak (k:=0) u130 Z Z nz4 Z) Z<|J (a.d [] Z Z) Z Z (fun w e=>ao u4 Z Z (hBa2.cell e.fr 0 Z)) Z<|an 2 Z (a.d [] Z Z)<|J (a.d [] Z Z) Z Z (fun w e=>aL Z) Z<|J (a.d [] Z Z) Z Z (fun w e=>ak (k:=1) u130 Z Z dD Z) Z<|J (a.d [] Z Z) Z Z (fun w e=>ao u57 Z Z (hBa2.cell e.fr 1 Z)) Z ?_
 refine M h fun s u h=>aY (a.d [] Z Z) Z Z (by kernel_rfl) Z (gz d (!j) u (a.ro 1 Z).rp (q.b a.fr).rp) Z ?_
 rintro _ w ⟨y,rfl,p⟩
 have a:=a.e p
 refine an 2 Z (a.d [] Z Z)<|have z:=a.pick (os':=[Y b [N d,c],U X c g,U X y s.2]++[]) [1,2,0] (by decide) Z;M h fun B x h=>aY (a.d [] Z Z) Z Z (by kernel_rfl) Z (bS d s.1 x z.f ) Z ?_
 rintro _ w ⟨A,rfl,p⟩
 have a:=z.g p
 refine an 1 Z (a.d [] Z Z)<|a9 (a.d [] Z Z)<|al<|ar ?_
 cases h
 exact au Z Z ⟨A,Z,a.d [0,1] Z Z⟩
theorem mS {f:World} {g m:Q0} {c l:Value} {b n:Nat} {S:Q2} (d j:Bool) {r:Bool×Q0}
  (h:F.KZ d g j m=some r) (a:St S f f [Y b [N d,c],U X c g]) (q:RP S f X l m) (hBa1:RB S f n [N j,l]):Calls Tryz.prog 161 #[P b 0,P n 0,P b 0] f (Ret fun v w=>∃o:Value,v=P b 0/\St S f w [Y b [N r.1,o],U X o r.2]):=by
 refine ax 29 Tryz.func161 Z Z Z<|ay [(0,P b 0),(1,P n 0),(2,P b 0)] Z ?_
 unfold F.KZ at h
 refine R<|V 1 Z<|gl1<|have hsh1:=(a.ro 1 Z).shp;aQ (fun w'=>St S f w' []) (fun i=>!([1012,1017,18,21].contains i)) bL (fun _ _ _ t=>t.2) (fun _ _ t=>t) (by kernel_rfl)<|have a:=a.drew;show lxE _ _ _ _ _ _ _ [0,1,2,3,4,5,6,7,8,9,10,11,12,13,14,15,16,17,18,19,20,21,22] _ _ from an 2 Z (a.d [] Z Z)<|J (a.d [] Z Z) Z Z (fun w e=>aL Z) Z<|J (a.d [] Z Z) Z Z (fun w e=>ak (k:=0) u130 Z Z nz4 Z) Z<|J (a.d [] Z Z) Z Z (fun w e=>ao u4 Z Z (hBa1.cell e.fr 0 Z)) Z<|an 1 Z (a.d [] Z Z)<|J (a.d [] Z Z) Z Z (fun w e=>aL Z) Z<|J (a.d [] Z Z) Z Z (fun w e=>ak (k:=1) u130 Z Z dD Z) Z<|J (a.d [] Z Z) Z Z (fun w e=>ao u57 Z Z (hBa1.cell e.fr 1 Z)) Z<|an 1 Z (a.d [] Z Z)<|J (a.d [] Z Z) Z Z (fun w e=>aL Z) Z<|J (a.d [] Z Z) Z Z (fun w e=>ak (k:=0) u130 Z Z nz4 Z) Z<|ld (a.d [] Z Z) Z Z Z (ao u4 Z Z (a.q 0 Z 0)) Z<|an 2 Z (a.d [] Z Z)<|J (a.d [] Z Z) Z Z (fun w e=>aL Z) Z<|J (a.d [] Z Z) Z Z (fun w e=>ak (k:=1) u130 Z Z dD Z) Z<|ld (a.d [] Z Z) Z Z Z (ao u57 Z Z (a.q 0 Z 1)) Z ?_
 refine M h fun s u h=>aY (a.d [] Z Z) Z Z (by kernel_rfl) Z (gz j (!d) u (q.b a.fr).rp (a.ro 1 Z).rp) Z ?_
 rintro _ w ⟨y,rfl,p⟩
 have a:=a.e p
 refine an 2 Z (a.d [] Z Z)<|have z:=a.pick (os':=[Y b [N d,c],U X c g,U X y s.2]++[]) [1,2,0] (by decide) Z;M h fun B x h=>aY (a.d [] Z Z) Z Z (by kernel_rfl) Z (bS d s.1 x z.f ) Z ?_
 rintro _ w ⟨A,rfl,p⟩
 have a:=z.g p
 refine an 1 Z (a.d [] Z Z)<|a9 (a.d [] Z Z)<|al<|ar ?_
 cases h
 exact au Z Z ⟨A,Z,a.d [0,1] Z Z⟩
theorem nt {x:World} {y al an z:Q0} {l ah J m:Value} {d ap aq e:Nat} {S:Q2} (o ac A p:Bool) {r:Bool×Q0×Bool×Q0}
  (h:F.Jl o y ac al A an p z=some r) (c:St S x x [Y d [N o,l],U X l y,Y e [N p,m],U X m z]) (aD:RP S x X ah al) (hBa1:RB S x ap [N ac,ah]) (aj:RP S x X J an) (hBa2:RB S x aq [N A,J]):Calls Tryz.prog 178 #[P d 0,P ap 0,P aq 0,P e 0] x (Ret fun v w=>∃au av:Value,v=.tuple #[P d 0,P e 0]/\St S x w [Y d [N r.1,au],U X au r.2.1,Y e [N r.2.2.1,av],U X av r.2.2.2]):=by
 refine ax 45 Tryz.func178 Z Z Z<|ay [(0,P d 0),(1,P ap 0),(2,P aq 0),(3,P e 0)] Z ?_
 unfold F.Jl at h
 refine R<|V 2 Z<|gl2<|bl (bf (cs:=[N false,Q3]) dw Z c) Z fun u w c=>V 1 Z ?_
 replace c:=c.nil X
 have b:=c.pick (os':=[Y u [N false,Q3],U X (.slice none 0 0) []]++[Y d [N o,l],U X l y,Y e [N p,m],U X m z]) [1,0,2,3,4,5] (by decide) Z
 refine M h fun i aN h=>aK Z (gf false A aN b.f (aj.f (W Z) b) (hBa2.f b)) Z ?_
 rintro _ w ⟨n,rfl,j⟩
 have c:=b.g j
 refine V 1 Z<|gl2<|V 4 Z<|have b:=c.pick (os':=[Y d [N o,l],U X l y,Y e [N p,m],U X m z]++[Y u [N i.1,n],U X n i.2]) [2,3,4,5,0,1] (by decide) Z;M h fun a aE h=>aK Z (i8 o ac A p aE b.f (aD.f (W Z) b) (hBa1.f b) (aj.f (W Z) b) (hBa2.f b)) Z ?_
 rintro _ w ⟨q,f,rfl,j⟩
 have c:=b.g j
 refine Q ?_
 refine aT (r:=r) (fun (g:Bool×Q0×Bool×Q0) L w=>∃(B:Value) (C:Value),L=[(0,P d 0),(3,P e 0)]/\St S x w [U X B g.2.1,Y d [N g.1,B],U X C g.2.2.2,Y e [N g.2.2.1,C]]) (F.Lw) ?_ ?_
 rotate_left
 ·intro D
  refine R<|V 1 Z<|O (aL Z) Z<|O (ak (k:=0) u130 Z Z nz4 Z) Z<|O (ao u4 Z Z (c.q 2 Z 0)) Z<|Q ?_
  apply gl9 Z h<;>intro h
  ·refine R<|V 1 Z<|O (aL Z) Z<|O (ak (k:=0) u130 Z Z nz4 Z) Z<|O (ao u4 Z Z (c.q 4 Z 0)) Z<|Q ?_
   apply gl9 Z h<;>intro h
   ·refine R<|V 2 Z<|M h fun s aF h=>bz c Z (cZ 1 aF ) Z fun E aw w c=>have b:=c.pick (os':=[Y d [N a.1,q],U X q a.2.1]++[Y aw [N s.1,E],U X E s.2,Y e [N a.2.2.1,f],U X f a.2.2.2,Y u [N i.1,n],U X n i.2]) [2,3,0,1,4,5,6,7] (by decide) Z;M h fun G aG h=>aK Z (d8 a.1 s.1 aG b.f (b.giveO 1 Z) (b.giveB 0 Z)) Z ?_
    rintro _ w ⟨ad,rfl,j⟩
    have c:=b.g j
    refine Q<|am<|V 3 Z<|have b:=c.pick (os':=[Y e [N a.2.2.1,f],U X f a.2.2.2]++[Y d [N G.1,ad],U X ad G.2,Y aw [N s.1,E],U X E s.2,Y u [N i.1,n],U X n i.2]) [4,5,0,1,2,3,6,7] (by decide) Z;M h fun az aH h=>aK Z (eK a.2.2.1 i.1 aH b.f (b.giveO 5 Z) (b.giveB 4 Z)) Z ?_
    rintro _ w ⟨aO,rfl,j⟩
    have c:=b.g j
    exact Q<|aA (D (G.1,G.2,az.1,az.2) _ _ ⟨ad,aO,Z,(c.d [3,2,1,0] Z Z)⟩ h) Z
   refine R<|V 2 Z<|M h fun t aI h=>bz c Z (cZ 1 aI ) Z fun T aB w c=>have b:=c.pick (os':=[Y d [N a.1,q],U X q a.2.1]++[Y aB [N t.1,T],U X T t.2,Y e [N a.2.2.1,f],U X f a.2.2.2,Y u [N i.1,n],U X n i.2]) [2,3,0,1,4,5,6,7] (by decide) Z;M h fun ab aJ h=>aK Z (eK a.1 t.1 aJ b.f (b.giveO 1 Z) (b.giveB 0 Z)) Z ?_
   rintro _ w ⟨ae,rfl,j⟩
   have c:=b.g j
   refine Q<|am<|V 3 Z<|have b:=c.pick (os':=[Y e [N a.2.2.1,f],U X f a.2.2.2]++[Y d [N ab.1,ae],U X ae ab.2,Y aB [N t.1,T],U X T t.2,Y u [N i.1,n],U X n i.2]) [4,5,0,1,2,3,6,7] (by decide) Z;M h fun aC aM h=>aK Z (d8 a.2.2.1 i.1 aM b.f (b.giveO 5 Z) (b.giveB 4 Z)) Z ?_
   rintro _ w ⟨aP,rfl,j⟩
   have c:=b.g j
   exact Q<|aA (D (ab.1,ab.2,aC.1,aC.2) _ _ ⟨ae,aP,Z,(c.d [3,2,1,0] Z Z)⟩ h) Z
  exact gl5<|aA (D (a.1,a.2.1,a.2.2.1,a.2.2.2) _ _ ⟨q,f,Z,(c.d [1,0,3,2] Z Z)⟩ h) Z
 rintro⟨aR,aS,aU,aV⟩ L w hJ h
 try dsimp only at hJ
 obtain⟨B,C,rfl,c⟩:=hJ
 unfold F.Lw at h
 refine R<|V 4 Z<|Q<|ar ?_
 cases h
 exact bH Z Z Z ⟨B,C,Z,c.d [1,0,3,2] Z Z⟩
theorem kT {w0:World} {x J y:Q0} {l ae m:Value} {e aj d:Nat} {S:Q2} (o z p:Bool) {r:Bool×Q0×Bool×Q0}
  (h:F.L2 o x z J p y=some r) (c:St S w0 w0 [Y e [N o,l],U X l x,Y d [N p,m],U X m y]) (ah:RP S w0 X ae J) (hBa2:RB S w0 aj [N z,ae]):Calls Tryz.prog 178 #[P e 0,P d 0,P aj 0,P d 0] w0 (Ret fun v w=>∃al an:Value,v=.tuple #[P e 0,P d 0]/\St S w0 w [Y e [N r.1,al],U X al r.2.1,Y d [N r.2.2.1,an],U X an r.2.2.2]):=by
 refine ax 45 Tryz.func178 Z Z Z<|ay [(0,P e 0),(1,P d 0),(2,P aj 0),(3,P d 0)] Z ?_
 unfold F.L2 at h
 refine R<|V 2 Z<|gl2<|bl (bf (cs:=[N false,Q3]) dw Z c) Z fun u w c=>V 1 Z ?_
 replace c:=c.nil X
 have b:=c.pick (os':=[Y u [N false,Q3],U X (.slice none 0 0) []]++[Y e [N o,l],U X l x,Y d [N p,m],U X m y]) [1,0,2,3,4,5] (by decide) Z
 refine M h fun i aG h=>aK Z (gf false z aG b.f (ah.f (W Z) b) (hBa2.f b)) Z ?_
 rintro _ w ⟨n,rfl,j⟩
 have c:=b.g j
 refine V 1 Z<|gl2<|V 4 Z<|have b:=c.pick (os':=[Y e [N o,l],U X l x,Y d [N p,m],U X m y]++[Y u [N i.1,n],U X n i.2]) [2,3,4,5,0,1] (by decide) Z;M h fun a aw h=>aK Z (kV o z p aw b.f (ah.f (W Z) b) (hBa2.f b)) Z ?_
 rintro _ w ⟨q,f,rfl,j⟩
 have c:=b.g j
 refine Q ?_
 refine aT (r:=r) (fun (g:Bool×Q0×Bool×Q0) L w=>∃(A:Value) (B:Value),L=[(0,P e 0),(3,P d 0)]/\St S w0 w [U X A g.2.1,Y e [N g.1,A],U X B g.2.2.2,Y d [N g.2.2.1,B]]) (F.LI) ?_ ?_
 rotate_left
 ·intro C
  refine R<|V 1 Z<|O (aL Z) Z<|O (ak (k:=0) u130 Z Z nz4 Z) Z<|O (ao u4 Z Z (c.q 2 Z 0)) Z<|Q ?_
  apply gl9 Z h<;>intro h
  ·refine R<|V 1 Z<|O (aL Z) Z<|O (ak (k:=0) u130 Z Z nz4 Z) Z<|O (ao u4 Z Z (c.q 4 Z 0)) Z<|Q ?_
   apply gl9 Z h<;>intro h
   ·refine R<|V 2 Z<|M h fun s az h=>bz c Z (cZ 1 az ) Z fun D ap w c=>have b:=c.pick (os':=[Y e [N a.1,q],U X q a.2.1]++[Y ap [N s.1,D],U X D s.2,Y d [N a.2.2.1,f],U X f a.2.2.2,Y u [N i.1,n],U X n i.2]) [2,3,0,1,4,5,6,7] (by decide) Z;M h fun E aB h=>aK Z (d8 a.1 s.1 aB b.f (b.giveO 1 Z) (b.giveB 0 Z)) Z ?_
    rintro _ w ⟨ac,rfl,j⟩
    have c:=b.g j
    refine Q<|am<|V 3 Z<|have b:=c.pick (os':=[Y d [N a.2.2.1,f],U X f a.2.2.2]++[Y e [N E.1,ac],U X ac E.2,Y ap [N s.1,D],U X D s.2,Y u [N i.1,n],U X n i.2]) [4,5,0,1,2,3,6,7] (by decide) Z;M h fun aq aC h=>aK Z (eK a.2.2.1 i.1 aC b.f (b.giveO 5 Z) (b.giveB 4 Z)) Z ?_
    rintro _ w ⟨aH,rfl,j⟩
    have c:=b.g j
    exact Q<|aA (C (E.1,E.2,aq.1,aq.2) _ _ ⟨ac,aH,Z,(c.d [3,2,1,0] Z Z)⟩ h) Z
   refine R<|V 2 Z<|M h fun t aD h=>bz c Z (cZ 1 aD ) Z fun G au w c=>have b:=c.pick (os':=[Y e [N a.1,q],U X q a.2.1]++[Y au [N t.1,G],U X G t.2,Y d [N a.2.2.1,f],U X f a.2.2.2,Y u [N i.1,n],U X n i.2]) [2,3,0,1,4,5,6,7] (by decide) Z;M h fun T aE h=>aK Z (eK a.1 t.1 aE b.f (b.giveO 1 Z) (b.giveB 0 Z)) Z ?_
   rintro _ w ⟨ad,rfl,j⟩
   have c:=b.g j
   refine Q<|am<|V 3 Z<|have b:=c.pick (os':=[Y d [N a.2.2.1,f],U X f a.2.2.2]++[Y e [N T.1,ad],U X ad T.2,Y au [N t.1,G],U X G t.2,Y u [N i.1,n],U X n i.2]) [4,5,0,1,2,3,6,7] (by decide) Z;M h fun av aF h=>aK Z (d8 a.2.2.1 i.1 aF b.f (b.giveO 5 Z) (b.giveB 4 Z)) Z ?_
   rintro _ w ⟨aI,rfl,j⟩
   have c:=b.g j
   exact Q<|aA (C (T.1,T.2,av.1,av.2) _ _ ⟨ad,aI,Z,(c.d [3,2,1,0] Z Z)⟩ h) Z
  exact gl5<|aA (C (a.1,a.2.1,a.2.2.1,a.2.2.2) _ _ ⟨q,f,Z,(c.d [1,0,3,2] Z Z)⟩ h) Z
 rintro⟨aM,aN,aO,aP⟩ L w hJ h
 try dsimp only at hJ
 obtain⟨A,B,rfl,c⟩:=hJ
 unfold F.LI at h
 refine R<|V 4 Z<|Q<|ar ?_
 cases h
 exact bH Z Z Z ⟨A,B,Z,c.d [1,0,3,2] Z Z⟩
theorem kx {d:World} {e m n:Q0} {a j k:Value} {b o p:Nat} {S:Q2} (c f g:Bool) {r:Bool×Q0}
  (h:F.KB c e f m g n=some r) (i:St S d d [Y b [N c,a],U X a e]) (s:RP S d X j m) (hBa1:RB S d o [N f,j]) (t:RP S d X k n) (hBa2:RB S d p [N g,k]):Calls Tryz.prog 162 #[P b 0,P o 0,P p 0] d (Ret fun v w=>∃q:Value,v=P b 0/\St S d w [Y b [N r.1,q],U X q r.2]):=by
 refine ax 13 Tryz.func162 Z Z Z<|ay [(0,P b 0),(1,P o 0),(2,P p 0)] Z ?_
 unfold F.KB at h
 refine R<|V 1 Z<|gl2<|bl (bf (cs:=[N false,Q3]) dw Z i) Z fun x w i=>V 3 Z ?_
 replace i:=i.nil X
 have l:=i.pick (os':=[Y x [N false,Q3],U X (.slice none 0 0) [],Y b [N c,a],U X a e]++[]) [1,0,2,3] (by decide) Z
 refine M h fun A u h=>aK Z (nt false f g c u l.f (s.f (W Z) l) (hBa1.f l) (t.f (W Z) l) (hBa2.f l)) Z ?_
 rintro _ w ⟨B,y,rfl,z⟩
 have i:=l.g z
 refine gl2<|V 2 Z<|Q<|ar ?_
 cases h
 exact au Z Z ⟨y,Z,i.d [2,3] Z Z⟩
theorem mF {i:World} {d j:Q0} {b g:Value} {a k:Nat} {S:Q2} (c e:Bool) {r:Bool×Q0}
  (h:F.LP c d e j=some r) (f:St S i i [Y a [N c,b],U X b d]) (m:RP S i X g j) (hBa2:RB S i k [N e,g]):Calls Tryz.prog 162 #[P a 0,P a 0,P k 0] i (Ret fun v w=>∃l:Value,v=P a 0/\St S i w [Y a [N r.1,l],U X l r.2]):=by
 refine ax 13 Tryz.func162 Z Z Z<|ay [(0,P a 0),(1,P a 0),(2,P k 0)] Z ?_
 unfold F.LP at h
 refine R<|V 1 Z<|gl2<|bl (bf (cs:=[N false,Q3]) dw Z f) Z fun p w f=>V 3 Z ?_
 replace f:=f.nil X
 have n:=f.pick (os':=[Y p [N false,Q3],U X (.slice none 0 0) [],Y a [N c,b],U X b d]++[]) [1,0,2,3] (by decide) Z
 refine M h fun t o h=>aK Z (kT false e c o n.f (m.f (W Z) n) (hBa2.f n)) Z ?_
 rintro _ w ⟨u,q,rfl,s⟩
 have f:=n.g s
 refine gl2<|V 2 Z<|Q<|ar ?_
 cases h
 exact au Z Z ⟨q,Z,f.d [2,3] Z Z⟩
end Go.Proofs
