import Derived.Test.YtahgjafdhjbkeaaGreatDoorRW0
import Derived.Test.YtahgjafdhjbkeaaGreatDoorGkFman
import Derived.Test.YtahgjafdhjbkeaaGreatDoorRWbignuma
set_option linter.unusedVariables false
set_option linter.unusedSimpArgs false
set_option linter.unusedSectionVars false
set_option maxRecDepth 4000
namespace Go.Proofs
open Go Go.RowKit Go.Gk
open Go.Gk renaming aa → V, af → J, ag → N, e32 → X, gl3 → Q, gl4 → R, own → U, pB → O, vB → K, vI → H
open Nat renaming le_of_ble_eq_true → W
open Go.Gk.OE renaming bx → Y
theorem j3 {B:World} {a0 a1:List UInt32} {bH bI:Value} {r:List UInt32×List UInt32}
  (h:F.EC a0 a1=some r) (S:RP [] B X bH a0) (E:RP [] B X bI a1):Calls Tryz.prog 183 #[bH,bI] B (Ret fun v w=>∃u0 u1:Value,v=.tuple #[u0,u1]∧St [] B w [U X u0 r.1,U X u1 r.2]):=by
 refine aB 273 Tryz.func183 Z Z Z<|have a:=St.k B;ax [(0,bH),(1,bI)] Z ?_
 unfold F.EC at h
 refine R<|V 2 Z<|gl1<|R<|V 1 Z<|N (aC u30 Z (E.b a.fr)) Z<|V 1 Z<|Q ?_
 refine gl9 Z h (fun h=>?_) (fun h=>?_)
 ·refine R<|V 2 Z<|gl8 ?_
  cases h
  exact cf Z Z Z ⟨.slice none 0 0,.slice none 0 0,Z,((a.nil X).nil X).d [1,0] Z Z⟩
 refine gl5<|av<|R<|V 2 Z<|J h fun dl cA h=>bc a Z (j5  cA (S.b a.fr).rp (E.b a.fr).rp) Z fun w a=>V 1 Z<|Q ?_
 refine gl9 Z h (fun h=>?_) (fun h=>?_)
 ·refine R<|V 1 Z<|J h fun dm cB h=>aU a Z (jn  cB (S.b a.fr).rp) Z fun cW w a=>V 2 Z<|gl8 ?_
  cases h
  exact cf Z Z Z ⟨.slice none 0 0,cW,Z,(a.nil X).d [0,1] Z Z⟩
 refine gl5<|av<|R<|V 1 Z<|N (aC u30 Z (S.b a.fr)) Z<|V 1 Z<|Q ?_
 refine gl9 Z h (fun h=>?_) (fun h=>?_)
 ·refine R<|V 1 Z<|J h fun aY cC h=>bc a Z (kM  cC (S.b a.fr).rp) Z fun w a=>V 1 Z<|J h fun a2 cD h=>bc a Z (kM  cD (E.b a.fr).rp) Z fun w a=>V 2 Z<|gl1<|aX (fun w'=>St [] B w' []) (fun i=>!([3,7].contains i)) bR (fun _ _ _ y=>y.2) (fun _ _ y=>y) (by kernel_rfl)<|have a:=a.drew;show lxE _ _ _ _ _ _ _ [0,1,2,3,4,5,6,7,8,9] _ _ from an 2 Z a<|da h fun cE h=>ai a Z Z (fun w k=>aj Z Z (iL _ aY a2 cE)) Z<|J h fun dn cF h=>bb a Z Z (by kernel_rfl) Z (eO (aY / a2) cF ) Z fun cX w A=>have a:=a.e A;an 2 Z (a.d [] Z Z)<|da h fun b0 h=>ai (a.d [] Z Z) Z Z (fun w k=>aj Z Z (fx _ aY a2 b0)) Z<|J h fun c7 b1 h=>bb (a.d [] Z Z) Z Z (by kernel_rfl) Z (eO (aY%a2) b1 ) Z fun cG w A=>have a:=a.e A;an 2 Z (a.d [] Z Z)<|bn (a.d [] Z Z)<|ak<|gl7 ?_
  cases h
  exact cf Z Z Z ⟨cX,cG,Z,a.d [1,0] Z Z⟩
 refine gl5<|av<|R<|V 1 Z<|N (aC u30 Z (E.b a.fr)) Z<|V 1 Z<|Q ?_
 refine gl9 Z h (fun h=>?_) (fun h=>?_)
 ·refine R<|V 2 Z<|J h fun cJ a3 h=>N (bk u30 aN Z Z (E.b a.fr) a3) Z<|N (a8 u38 Z Z (E.b a.fr) a3 Z) Z<|J h fun ae b2 h=>eW a Z (p7 cJ b2 (S.b a.fr).rp) Z fun bJ w a=>V 5 Z<|gl2<|V 2 Z<|bG (cp (e:=X) (l:=([ae.2]:List UInt32)) (vs:=[v32 ae.2]) u30 aN Z Z Z Z (by decide) (by decide) a) Z fun cK w a=>have hG:=a.pick (os':=[U X cK ([ae.2]:List UInt32)]++[U X bJ ae.1]) [0,1] (by decide) Z;J h fun c8 b3 h=>aG Z (dK  b3 hG.f ) Z ?_
  rintro cL w ⟨c0,bK,A⟩
  rw [←bK]at A
  have a:=hG.g A
  refine V 2 Z<|gl8 ?_
  cases h
  exact cf Z Z Z ⟨bJ,cL,Z,a.d [1,0] Z Z⟩
 refine gl6<|V 1 Z<|J h fun bL b4 h=>bc a Z (iA  b4 (E.b a.fr).rp) Z fun w a=>V 1 Z<|N (aj Z Z (fW _ (wI (bL - 1)) 32 (by decide))) Z<|V 2 Z<|N (aD Z (dy u3 u87 (wI ((wI (32 - (Int.tmod (wI (bL - 1)) 32))) - 1)))) Z<|a7 h fun n b5 h=>N (a9 (v:=v64 n) (by rw [←b5]; rfl)) Z<|gl2<|V 2 Z<|J h fun b b6 h=>aU a Z (jj n b6 (E.b a.fr).rp) Z fun c w a=>V 1 Z<|gl2<|V 1 Z<|N (aC u30 Z (S.b a.fr)) Z<|V 1 Z<|J h fun c9 b7 h=>bG (dw (e:=X) u30 aN Z Z Z a b7) Z fun d w a=>V 1 Z<|gl2<|V 3 Z<|J h fun cM b8 h=>aU a Z (jj n b8 (S.b a.fr).rp) Z fun cN w a=>bG (tJ (e:=X) u30 aN Z Z Z a (i:=1) Z (a.ro 0 Z)) Z ?_
 rintro v_q w ⟨hv_q,a⟩
 subst v_q
 obtain ⟨bM,b9,h⟩:=fN h
 rw [b9]at a
 refine gl2<|V 1 Z<|N (aC u30 Z (a.ro 2 Z)) Z<|V 1 Z<|gl2<|V 1 Z<|N (aC u30 Z (a.ro 1 Z)) Z<|V 3 Z<|a7 h fun aA cb h=>N (a9 (v:=H aA) (by rw [←cb]; rfl)) Z<|gl2<|V 2 Z<|J h fun bN ce h=>bG (dw (e:=X) u30 aN Z Z Z a ce) Z fun j w a=>V 1 Z<|gl1<|aX (fun w'=>St [] B w' [U X j bN,U X cN cM,U X d bM,U X c b]) (fun _=>true) bR (fun _ _ _ y=>y.2) (fun _ _ y=>y) (by kernel_rfl)<|have a:=a.drew;show lxE _ _ _ _ _ _ _ [0,1,2,3,4,5,6,7,8,9,10,11,12,13] _ _ from an 3 Z a<|J h fun f a4 h=>ai a Z Z (fun w k=>bk u30 aN Z Z (k.ro 3 Z) a4) Z<|ai a Z Z (fun w k=>a8 u38 Z Z (k.ro 3 Z) a4 Z) Z<|ai a Z Z (fun w k=>aD Z (bD u38 u119 f)) Z<|an 3 Z a<|J h fun m a5 h=>ai a Z Z (fun w k=>bk u30 aN Z Z (k.ro 3 Z) a5) Z<|ai a Z Z (fun w k=>a8 u38 Z Z (k.ro 3 Z) a5 Z) Z<|ai a Z Z (fun w k=>aD Z (bD u38 u119 m)) Z<|an 2 Z a<|bn a<|ak<|av<|R<|V 2 Z ?_
 refine Q<|ar<|ax [(10,v64 n),(11,c),(12,d),(13,H (b.length:Int)),(15,j),(16,v64 f.toUInt64),(17,v64 m.toUInt64),(18,H aA)] Z ?_
 refine aT (F.Fe n b f m) (fun (s:Int×List UInt32×List UInt32) L w=>L=[(10,v64 n),(11,c),(12,d),(13,H (b.length:Int)),(15,j),(16,v64 f.toUInt64),(17,v64 m.toUInt64),(18,H s.1)]∧St [] B w [U X c b,U X d s.2.1,U X j s.2.2]) ?_ (aA,bM,bN) ⟨Z,(a.d [3,2,0] Z Z)⟩ h
 rintro c1 ⟨o,q,p⟩ L w bO T cg h a6
 try dsimp only at T
 obtain ⟨rfl,a⟩:=T
 unfold F.Fe at h
 refine av<|R<|V 2 Z<|Q ?_
 refine gl9 Z h (fun h=>?_) (fun h=>?_)
 ·refine gl5<|av<|ar<|av<|aX (fun w'=>St [] B w' [U X c b,U X d q,U X j p]) (fun _=>true) bR (fun _ _ _ y=>y.2) (fun _ _ y=>y) (by kernel_rfl)<|have a:=a.drew;show lxE _ _ _ _ _ _ _ [0,1,2,3,4,5,6,7,8,9,10,11,12,13,14,15,16,17] _ _ from an 4 Z a<|J h fun aJ ba h=>ai a Z Z (fun w k=>bk u30 aN Z Z (k.ro 1 Z) ba) Z<|ai a Z Z (fun w k=>a8 u38 Z Z (k.ro 1 Z) ba Z) Z<|ai a Z Z (fun w k=>aD Z (bD u38 u119 aJ)) Z<|ai a Z Z (fun w k=>aj Z Z (dr _ aJ.toUInt64 32)) Z<|an 5 Z a<|J h fun bP be h=>ai a Z Z (fun w k=>bk u30 aN Z Z (k.ro 1 Z) be) Z<|ai a Z Z (fun w k=>a8 u38 Z Z (k.ro 1 Z) be Z) Z<|ai a Z Z (fun w k=>aD Z (bD u38 u119 bP)) Z<|ai a Z Z (fun w k=>aj Z Z (eX _ (bB aJ.toUInt64 32) bP.toUInt64)) Z<|a7 h fun C ch h=>ai a Z Z (fun w k=>a9 (v:=v64 C) (by rw [←ch]; rfl)) Z<|bn a<|ak<|av<|aX (fun w'=>St [] B w' [U X c b,U X d q,U X j p]) (fun _=>true) bR (fun _ _ _ y=>y.2) (fun _ _ y=>y) (by kernel_rfl)<|have a:=a.drew;show lxE _ _ _ _ _ _ _ [0,1,2,3,4,5,6,7] _ _ from an 2 Z a<|da h fun ci h=>?_
  refine ai a Z Z (fun w k=>aj Z Z (iL _ C f.toUInt64 ci)) Z<|an 2 Z a<|da h fun cj h=>ai a Z Z (fun w k=>aj Z Z (fx _ C f.toUInt64 cj)) Z<|an 2 Z a<|bn a<|ak ?_
  refine aZ (r:=bO) (fun (g:UInt64) L w=>L=[(10,v64 n),(11,c),(12,d),(13,H (b.length:Int)),(15,j),(16,v64 f.toUInt64),(17,v64 m.toUInt64),(18,H o),(20,v64 g)]∧St [] B w [U X c b,U X d q,U X j p]) (F.EY q b o p) ?_ ?_
  rotate_left
  ·intro bg
   refine ar<|ax [(10,v64 n),(11,c),(12,d),(13,H (b.length:Int)),(15,j),(16,v64 f.toUInt64),(17,v64 m.toUInt64),(18,H o),(20,v64 (C / f.toUInt64)),(21,v64 (C%f.toUInt64))] Z ?_
   refine aT (F.Fq b m o q f p) (fun (s:UInt64×UInt64) L w=>L=[(10,v64 n),(11,c),(12,d),(13,H (b.length:Int)),(15,j),(16,v64 f.toUInt64),(17,v64 m.toUInt64),(18,H o),(20,v64 s.1),(21,v64 s.2)]∧St [] B w [U X c b,U X d q,U X j p]) ?_ (C / f.toUInt64,C%f.toUInt64) ⟨Z,a⟩ h
   rintro db ⟨u,z⟩ L w cO T ck h ah
   try dsimp only at T
   obtain ⟨rfl,a⟩:=T
   unfold F.Fq at h
   refine av ?_
   refine aZ (r:=cO) (fun (g:Bool) L w=>L=[(10,v64 n),(11,c),(12,d),(13,H (b.length:Int)),(15,j),(16,v64 f.toUInt64),(17,v64 m.toUInt64),(18,H o),(20,v64 u),(21,v64 z),(154,K g)]∧St [] B w [U X c b,U X d q,U X j p]) (F.DO f u z q b o p) ?_ ?_
   rotate_left
   ·intro bh
    refine al<|V 1 Z<|N (aj Z Z (jJ _ u 4294967295)) Z<|V 1 Z ?_
    cases G:(decide ((4294967295:UInt64)<u))
    case true=>
     have h:=cH h G
     try simp only [G]
     exact V 16 Z<|Q<|aH (bh true _ _ ⟨Z,a⟩ h) Z
    case false=>
     have h:=cI h G
     try simp only [G]
     exact V 2 Z<|bE (t:=138) Z Z (aj Z Z (gx _ u m.toUInt64)) Z<|V 1 Z<|bE (t:=138) Z Z (aj Z Z (dr _ z 32)) Z<|V 5 Z<|J h fun am bi h=>bE (t:=138) Z Z (bk u30 aN Z Z (a.ro 1 Z) bi) Z<|bE (t:=138) Z Z (a8 u38 Z Z (a.ro 1 Z) bi Z) Z<|bE (t:=138) Z Z (aD Z (bD u38 u119 am)) Z<|bE (t:=138) Z Z (aj Z Z (eX _ (bB z 32) am.toUInt64)) Z<|bE (t:=138) Z Z (aj Z Z (jJ _ (u*m.toUInt64) ((bB z 32) ||| am.toUInt64))) Z<|V 1 Z<|Q<|aH (bh (decide (((bB z 32) ||| am.toUInt64)<(u*m.toUInt64))) _ _ ⟨Z,a⟩ h) Z
   rintro dc L w hJ h
   try dsimp only at hJ
   obtain ⟨rfl,a⟩:=hJ
   unfold F.DO at h
   refine gl9 Z h (fun h=>?_) (fun h=>?_)
   ·refine gl5<|ar<|R<|V 1 Z<|N (aj Z Z (eA _ u 1)) Z<|V 1 Z<|gl2<|V 2 Z<|N (aj Z Z (bU _ z f.toUInt64)) Z<|V 1 Z<|gl2<|V 1 Z<|N (aj Z Z (jJ _ (z+f.toUInt64) 4294967295)) Z<|Q ?_
    refine gl9 Z h (fun h=>?_) (fun h=>?_)
    ·exact aQ<|oK Z<|au<|have h:=aI h ah;aR<|ak<|aH (bg (u - 1) _ _ ⟨Z,a⟩ h) Z
    exact cd<|aF<|bf (bd (ck (u - 1,z+f.toUInt64) _ _ ⟨Z,a⟩ (aL h ah)) Z)
   exact aQ<|au<|au<|have h:=aI h ah;aR<|ak<|aH (bg u _ _ ⟨Z,a⟩ h) Z
  rintro x L w hJ h
  try dsimp only at hJ
  obtain ⟨rfl,a⟩:=hJ
  unfold F.EY at h
  refine R<|V 2 Z<|gl1<|R<|V 1 Z<|Q<|ar<|ax [(10,v64 n),(11,c),(12,d),(13,H (b.length:Int)),(15,j),(16,v64 f.toUInt64),(17,v64 m.toUInt64),(18,H o),(20,v64 x),(22,v64 0),(23,v64 0),(24,H 0)] Z ?_
  refine aT (F.EB b o x p) (fun (s:UInt64×UInt64×Int×List UInt32) L w=>L=[(10,v64 n),(11,c),(12,d),(13,H (b.length:Int)),(15,j),(16,v64 f.toUInt64),(17,v64 m.toUInt64),(18,H o),(20,v64 x),(22,v64 s.1),(23,v64 s.2.1),(24,H s.2.2.1)]∧St [] B w [U X c b,U X d s.2.2.2,U X j p]) ?_ (0,0,0,q) ⟨Z,a⟩ h
  rintro c2 ⟨aK,bQ,cP,dd⟩ L w de T cl h bj
  try dsimp only at T
  obtain ⟨rfl,a⟩:=T
  unfold F.EB at h
  refine av<|R<|V 3 Z<|Q ?_
  refine gl9 Z h (fun h=>?_) (fun h=>?_)
  ·refine gl5<|av<|ar<|R<|V 4 Z<|J h fun aO bm h=>N (bk u30 aN Z Z (a.ro 0 Z) bm) Z<|N (a8 u38 Z Z (a.ro 0 Z) bm Z) Z<|N (aD Z (bD u38 u119 aO)) Z<|N (aj Z Z (gx _ x aO.toUInt64)) Z<|N (aj Z Z (bU _ aK (x*aO.toUInt64))) Z<|a7 h fun D cm h=>N (a9 (v:=v64 D) (by rw [←cm]; rfl)) Z<|gl2<|V 4 Z<|J h fun aP bo h=>N (bk u30 aN Z Z (a.ro 1 Z) bo) Z<|N (a8 u38 Z Z (a.ro 1 Z) bo Z) Z<|N (aD Z (bD u38 u119 aP)) Z<|V 1 Z<|N (aD Z (ca u119 u38 D)) Z<|N (aD Z (bD u38 u119 D.toUInt32)) Z<|N (aj Z Z (eA _ aP.toUInt64 D.toUInt32.toUInt64)) Z<|V 1 Z<|N (aj Z Z (eA _ (aP.toUInt64 - D.toUInt32.toUInt64) bQ)) Z<|a7 h fun ab cn h=>N (a9 (v:=v64 ab) (by rw [←cn]; rfl)) Z<|gl2<|V 5 Z<|N (aD Z (ca u119 u38 ab)) Z<|J h fun df bp h=>N (bk u30 aN Z Z (a.ro 1 Z) bp) Z<|bl (bZ (t:=ab.toUInt32) aN Z Z a (i:=1) Z bp Z) ?_
   intro w a
   obtain ⟨cQ,co,h⟩:=fN h
   rw [co]at a
   exact gl2<|V 1 Z<|N (aj Z Z (cc _ ab 63)) Z<|V 1 Z<|Q<|al<|V 1 Z<|N (aj Z Z (cc _ D 32)) Z<|V 1 Z<|aE<|aF<|ak<|al<|V 3 Z<|aE<|bf (bd (cl (aM D 32,aM ab 63,wI (cP+1),cQ) _ _ ⟨Z,a⟩ (aL h bj)) Z)
  refine aQ<|au<|au<|have h:=aI h bj;aR<|ak<|R<|V 4 Z<|J h fun aS bq h=>N (bk u30 aN Z Z (a.ro 1 Z) bq) Z<|N (a8 u38 Z Z (a.ro 1 Z) bq Z) Z<|N (aD Z (bD u38 u119 aS)) Z<|V 1 Z<|N (aj Z Z (eA _ aS.toUInt64 aK)) Z<|V 1 Z<|N (aj Z Z (eA _ (aS.toUInt64 - aK) bQ)) Z<|a7 h fun ac cq h=>N (a9 (v:=v64 ac) (by rw [←cq]; rfl)) Z<|gl2<|V 5 Z<|N (aD Z (ca u119 u38 ac)) Z<|J h fun dg br h=>N (bk u30 aN Z Z (a.ro 1 Z) br) Z<|bl (bZ (t:=ac.toUInt32) aN Z Z a (i:=1) Z br Z) fun w a=>a7 h fun bS cr h=>?_
  rw [cr]at a
  refine Q ?_
  refine aZ (r:=bO) (fun (g:UInt64×List UInt32) L w=>L=[(10,v64 n),(11,c),(12,d),(13,H (b.length:Int)),(15,j),(16,v64 f.toUInt64),(17,v64 m.toUInt64),(18,H o),(20,v64 g.1)]∧St [] B w [U X c b,U X d g.2,U X j p]) (F.Et o p) ?_ ?_
  rotate_left
  ·intro aw
   refine R<|V 1 Z<|N (aj Z Z (cc _ ac 63)) Z<|N (aj Z Z (A3 _ (aM ac 63) 0)) Z<|Q ?_
   refine gl9 Z h (fun h=>?_) (fun h=>?_)
   ·refine R<|V 1 Z<|N (aj Z Z (eA _ x 1)) Z<|V 1 Z<|gl2<|V 1 Z<|gl1<|R<|V 1 Z<|Q<|ar<|ax [(10,v64 n),(11,c),(12,d),(13,H (b.length:Int)),(15,j),(16,v64 f.toUInt64),(17,v64 m.toUInt64),(18,H o),(20,v64 (x - 1)),(22,v64 0),(27,H 0)] Z ?_
    refine aT (F.D3 b o x p) (fun (s:UInt64×Int×List UInt32) L w=>L=[(10,v64 n),(11,c),(12,d),(13,H (b.length:Int)),(15,j),(16,v64 f.toUInt64),(17,v64 m.toUInt64),(18,H o),(20,v64 (x - 1)),(22,v64 s.1),(27,H s.2.1)]∧St [] B w [U X c b,U X d s.2.2,U X j p]) ?_ (0,0,bS) ⟨Z,a⟩ h
    rintro dh ⟨ao,cR,cS⟩ L w di T cs h bs
    try dsimp only at T
    obtain ⟨rfl,a⟩:=T
    unfold F.D3 at h
    refine av<|R<|V 3 Z<|Q ?_
    refine gl9 Z h (fun h=>?_) (fun h=>?_)
    ·refine gl5<|av<|ar<|av<|aX (fun w'=>St [] B w' [U X c b,U X d cS,U X j p]) (fun _=>true) bR (fun _ _ _ y=>y.2) (fun _ _ y=>y) (by kernel_rfl)<|have a:=a.drew;show lxE _ _ _ _ _ _ _ [0,1,2,3,4,5,6,7,8,9,10,11,12,13,14,15] _ _ from an 5 Z a<|J h fun aV bt h=>ai a Z Z (fun w k=>bk u30 aN Z Z (k.ro 1 Z) bt) Z<|ai a Z Z (fun w k=>a8 u38 Z Z (k.ro 1 Z) bt Z) Z<|ai a Z Z (fun w k=>aD Z (bD u38 u119 aV)) Z<|an 2 Z a<|J h fun aW bu h=>ai a Z Z (fun w k=>bk u30 aN Z Z (k.ro 0 Z) bu) Z<|ai a Z Z (fun w k=>a8 u38 Z Z (k.ro 0 Z) bu Z) Z<|ai a Z Z (fun w k=>aD Z (bD u38 u119 aW)) Z<|ai a Z Z (fun w k=>aj Z Z (bU _ aV.toUInt64 aW.toUInt64)) Z<|ai a Z Z (fun w k=>aj Z Z (bU _ ao (aV.toUInt64+aW.toUInt64))) Z<|a7 h fun ad ct h=>ai a Z Z (fun w k=>a9 (v:=v64 ad) (by rw [←ct]; rfl)) Z<|bn a<|ak<|R<|V 5 Z<|N (aD Z (ca u119 u38 ad)) Z<|J h fun dj bv h=>N (bk u30 aN Z Z (a.ro 1 Z) bv) Z<|bl (bZ (t:=ad.toUInt32) aN Z Z a (i:=1) Z bv Z) ?_
     intro w a
     obtain ⟨cU,cu,h⟩:=fN h
     rw [cu]at a
     exact Q<|al<|V 1 Z<|N (aj Z Z (cc _ ad 32)) Z<|V 1 Z<|aE<|aF<|ak<|al<|V 3 Z<|aE<|bf (bd (cs (aM ad 32,wI (cR+1),cU) _ _ ⟨Z,a⟩ (aL h bs)) Z)
    refine aQ<|au<|au<|have h:=aI h bs;aR<|ak<|al<|V 4 Z<|J h fun bT bw h=>N (bk u30 aN Z Z (a.ro 1 Z) bw) Z<|N (a8 u38 Z Z (a.ro 1 Z) bw Z) Z<|V 1 Z<|N (aD Z (ca u119 u38 ao)) Z<|N (aj Z Z (cT _ bT ao.toUInt32)) Z<|J h fun dk bx h=>N (bk u30 aN Z Z (a.ro 1 Z) bx) Z<|bl (bZ (t:=(bT+ao.toUInt32)) aN Z Z a (i:=1) Z bx Z) fun w a=>a7 h fun cV cv h=>?_
    rw [cv]at a
    exact Q<|aH (aw (x - 1,cV) _ _ ⟨Z,a⟩ h) Z
   exact gl5<|aH (aw (x,bS) _ _ ⟨Z,a⟩ h) Z
  rintro ⟨bz,cw⟩ L w hJ h
  try dsimp only at hJ
  obtain ⟨rfl,a⟩:=hJ
  unfold F.Et at h
  refine al<|V 3 Z<|N (aD Z (ca u119 u38 bz)) Z<|J h fun c3 ay h=>N (bk u30 aN Z Z (a.ro 2 Z) ay) Z<|bl (bZ (t:=bz.toUInt32) aN Z Z a (i:=2) Z ay Z) fun w a=>a7 h fun cx bV h=>?_
  rw [bV]at a
  exact aE<|aF<|ak<|al<|V 3 Z<|aE<|bf (bd (cg (wI (o - 1),cw,cx) _ _ ⟨Z,a⟩ (aL h a6)) Z)
 refine aQ<|au<|au<|have h:=aI h a6;aR<|ak<|R<|V 1 Z<|have hG:=a.pick (os':=[U X j p]++[U X c b,U X d q]) [2,0,1] (by decide) Z;J h fun cy bW h=>aG Z (dK  bW hG.f ) Z ?_
 rintro bA w ⟨cY,bC,A⟩
 rw [←bC]at A
 have a:=hG.g A
 refine V 1 Z<|have hG:=a.pick (os':=[U X d q]++[U X bA cy,U X c b]) [2,0,1] (by decide) Z;J h fun c4 bX h=>aG Z (dK  bX hG.f ) Z ?_
 rintro c5 w ⟨cZ,bF,A⟩
 rw [←bF]at A
 have a:=hG.g A
 refine V 1 Z<|J h fun c6 bY h=>aU a Z (qa n bY (a.ro 0 Z).rp) Z fun cz w a=>V 2 Z<|Q<|az ?_
 cases h
 exact cf Z Z Z ⟨bA,cz,Z,a.d [2,0] Z Z⟩
theorem iC {o:World} {m y z j:List UInt32} {c u x b:Value} {f A B g:Nat} {S:List Nat} (l n p d:Bool) {r:Bool×List UInt32×Bool×List UInt32}
  (h:F.FF l m n y p z d j=some r) (a:St S o o [Y f [K l,c],U X c m,Y g [K d,b],U X b j]) (T:RP S o X u y) (hBa1:RB S o A [K n,u]) (ab:RP S o X x z) (hBa2:RB S o B [K p,x]):Calls Tryz.prog 176 #[O f 0,O A 0,O B 0,O g 0] o (Ret fun v w=>∃C D:Value,v=.tuple #[O f 0,O g 0]∧St S o w [Y f [K r.1,C],U X C r.2.1,Y g [K r.2.2.1,D],U X D r.2.2.2]):=by
 refine aB 46 Tryz.func176 Z Z Z<|ax [(0,O f 0),(1,O A 0),(2,O B 0),(3,O g 0)] Z ?_
 unfold F.FF at h
 refine R<|V 2 Z<|gl1<|aX (fun w'=>St S o w' [Y f [K l,c],U X c m,Y g [K d,b],U X b j]) (fun _=>true) bR (fun _ _ _ s=>s.2) (fun _ _ s=>s) (by kernel_rfl)<|have a:=a.drew;show lxE _ _ _ _ _ _ _ [0,1,2,3,4,5,6,7,8,9] _ _ from an 1 Z a<|ai a Z Z (fun w e=>aK Z) Z<|ai a Z Z (fun w e=>ao (k:=0) u65 Z Z nz4 Z) Z<|ai a Z Z (fun w e=>aw Tryz.underlying4 Z Z (hBa1.cell e.fr 0 Z)) Z<|an 1 Z a<|ai a Z Z (fun w e=>aK Z) Z<|ai a Z Z (fun w e=>ao (k:=0) u65 Z Z nz4 Z) Z<|ai a Z Z (fun w e=>aw Tryz.underlying4 Z Z (hBa2.cell e.fr 0 Z)) Z<|an 2 Z a<|bn a<|ak<|av<|aX (fun w'=>St S o w' [Y f [K l,c],U X c m,Y g [K d,b],U X b j]) (fun i=>!([8].contains i)) bR (fun _ _ _ s=>s.2) (fun _ _ s=>s) (by kernel_rfl)<|have a:=a.drew;show lxE _ _ _ _ _ _ _ [0,1,2,3,4,5,6,7,8,9,10,11,12,13] _ _ from an 1 Z a<|ai a Z Z (fun w e=>aK Z) Z<|ai a Z Z (fun w e=>ao (k:=1) u65 Z Z dP Z) Z<|ai a Z Z (fun w e=>aw u30 Z Z (hBa1.cell e.fr 1 Z)) Z<|an 1 Z a<|ai a Z Z (fun w e=>aK Z) Z<|ai a Z Z (fun w e=>ao (k:=1) u65 Z Z dP Z) Z ?_
 refine ai a Z Z (fun w e=>aw u30 Z Z (hBa2.cell e.fr 1 Z)) Z<|J h fun E ah h=>bb a Z Z (by kernel_rfl) Z (j3  ah (T.b a.fr).rp (ab.b a.fr).rp) Z ?_
 rintro _ w ⟨am,ae,rfl,q⟩
 have a:=a.e q
 refine an 5 Z (a.d [2,3,4,5] Z Z)<|bn (a.d [2,3,4,5] Z Z)<|ak<|R<|V 3 Z<|N (aj Z Z (nv _ n p Tryz.underlying4 Z)) Z<|V 1 Z<|have G:=a.pick (os':=[Y f [K l,c],U X c m,U X am E.1]++[U X ae E.2,Y g [K d,b],U X b j]) [2,3,0,1,4,5] (by decide) Z;J h fun L ac h=>aG Z (bX l (n != p) ac G.f ) Z ?_
 rintro _ w ⟨t,rfl,q⟩
 have a:=G.g q
 refine gl2<|V 3 Z<|have G:=a.pick (os':=[Y g [K d,b],U X b j,U X ae E.2]++[Y f [K L.1,t],U X t L.2]) [3,4,2,0,1] (by decide) Z;J h fun ap ad h=>aG Z (bX d n ad G.f ) Z ?_
 rintro _ w ⟨al,rfl,q⟩
 have a:=G.g q
 refine gl2<|V 4 Z<|Q<|az ?_
 cases h
 exact cf Z Z Z ⟨t,al,Z,a.d [2,3,0,1] Z Z⟩
theorem kb {o:World} {m u j:List UInt32} {c t b:Value} {g x e:Nat} {S:List Nat} (l n d:Bool) {r:Bool×List UInt32×Bool×List UInt32}
  (h:F.IX l m n u d j=some r) (a:St S o o [Y g [K l,c],U X c m,Y e [K d,b],U X b j]) (D:RP S o X t u) (hBa2:RB S o x [K n,t]):Calls Tryz.prog 176 #[O g 0,O e 0,O x 0,O e 0] o (Ret fun v w=>∃y z:Value,v=.tuple #[O g 0,O e 0]∧St S o w [Y g [K r.1,y],U X y r.2.1,Y e [K r.2.2.1,z],U X z r.2.2.2]):=by
 refine aB 46 Tryz.func176 Z Z Z<|ax [(0,O g 0),(1,O e 0),(2,O x 0),(3,O e 0)] Z ?_
 unfold F.IX at h
 refine R<|V 2 Z<|gl1<|aX (fun w'=>St S o w' [Y g [K l,c],U X c m,Y e [K d,b],U X b j]) (fun _=>true) bR (fun _ _ _ q=>q.2) (fun _ _ q=>q) (by kernel_rfl)<|have a:=a.drew;show lxE _ _ _ _ _ _ _ [0,1,2,3,4,5,6,7,8,9] _ _ from an 1 Z a<|ai a Z Z (fun w f=>aK Z) Z<|ai a Z Z (fun w f=>ao (k:=0) u65 Z Z nz4 Z) Z<|ai a Z Z (fun w f=>aw Tryz.underlying4 Z Z (f.q 2 Z 0)) Z<|an 1 Z a<|ai a Z Z (fun w f=>aK Z) Z<|ai a Z Z (fun w f=>ao (k:=0) u65 Z Z nz4 Z) Z<|ai a Z Z (fun w f=>aw Tryz.underlying4 Z Z (hBa2.cell f.fr 0 Z)) Z<|an 2 Z a<|bn a<|ak<|av<|aX (fun w'=>St S o w' [Y g [K l,c],U X c m,Y e [K d,b],U X b j]) (fun i=>!([8].contains i)) bR (fun _ _ _ q=>q.2) (fun _ _ q=>q) (by kernel_rfl)<|have a:=a.drew;show lxE _ _ _ _ _ _ _ [0,1,2,3,4,5,6,7,8,9,10,11,12,13] _ _ from an 1 Z a<|ai a Z Z (fun w f=>aK Z) Z<|ai a Z Z (fun w f=>ao (k:=1) u65 Z Z dP Z) Z<|ai a Z Z (fun w f=>aw u30 Z Z (f.q 2 Z 1)) Z<|an 1 Z a<|ai a Z Z (fun w f=>aK Z) Z<|ai a Z Z (fun w f=>ao (k:=1) u65 Z Z dP Z) Z ?_
 refine ai a Z Z (fun w f=>aw u30 Z Z (hBa2.cell f.fr 1 Z)) Z<|J h fun A T h=>bb a Z Z (by kernel_rfl) Z (j3  T (a.ro 3 Z).rp (D.b a.fr).rp) Z ?_
 rintro _ w ⟨ac,L,rfl,p⟩
 have a:=a.e p
 refine an 5 Z (a.d [2,3,4,5] Z Z)<|bn (a.d [2,3,4,5] Z Z)<|ak<|R<|V 3 Z<|N (aj Z Z (nv _ d n Tryz.underlying4 Z)) Z<|V 1 Z<|have B:=a.pick (os':=[Y g [K l,c],U X c m,U X ac A.1]++[U X L A.2,Y e [K d,b],U X b j]) [2,3,0,1,4,5] (by decide) Z;J h fun C E h=>aG Z (bX l (d != n) E B.f ) Z ?_
 rintro _ w ⟨s,rfl,p⟩
 have a:=B.g p
 refine gl2<|V 3 Z<|have B:=a.pick (os':=[Y e [K d,b],U X b j,U X L A.2]++[Y g [K C.1,s],U X s C.2]) [3,4,2,0,1] (by decide) Z;J h fun ad G h=>aG Z (bX d d G B.f ) Z ?_
 rintro _ w ⟨ab,rfl,p⟩
 have a:=B.g p
 refine gl2<|V 4 Z<|Q<|az ?_
 cases h
 exact cf Z Z Z ⟨s,ab,Z,a.d [2,3,0,1] Z Z⟩
theorem ka {o:World} {m u l:List UInt32} {c t b:Value} {e x j:Nat} {S:List Nat} (d n f:Bool) {r:Bool×List UInt32×Bool×List UInt32}
  (h:F.IY d m n u f l=some r) (a:St S o o [Y e [K d,c],U X c m,Y j [K f,b],U X b l]) (D:RP S o X t u) (hBa2:RB S o x [K n,t]):Calls Tryz.prog 176 #[O e 0,O e 0,O x 0,O j 0] o (Ret fun v w=>∃y z:Value,v=.tuple #[O e 0,O j 0]∧St S o w [Y e [K r.1,y],U X y r.2.1,Y j [K r.2.2.1,z],U X z r.2.2.2]):=by
 refine aB 46 Tryz.func176 Z Z Z<|ax [(0,O e 0),(1,O e 0),(2,O x 0),(3,O j 0)] Z ?_
 unfold F.IY at h
 refine R<|V 2 Z<|gl1<|aX (fun w'=>St S o w' [Y e [K d,c],U X c m,Y j [K f,b],U X b l]) (fun _=>true) bR (fun _ _ _ q=>q.2) (fun _ _ q=>q) (by kernel_rfl)<|have a:=a.drew;show lxE _ _ _ _ _ _ _ [0,1,2,3,4,5,6,7,8,9] _ _ from an 1 Z a<|ai a Z Z (fun w g=>aK Z) Z<|ai a Z Z (fun w g=>ao (k:=0) u65 Z Z nz4 Z) Z<|ai a Z Z (fun w g=>aw Tryz.underlying4 Z Z (g.q 0 Z 0)) Z<|an 1 Z a<|ai a Z Z (fun w g=>aK Z) Z<|ai a Z Z (fun w g=>ao (k:=0) u65 Z Z nz4 Z) Z<|ai a Z Z (fun w g=>aw Tryz.underlying4 Z Z (hBa2.cell g.fr 0 Z)) Z<|an 2 Z a<|bn a<|ak<|av<|aX (fun w'=>St S o w' [Y e [K d,c],U X c m,Y j [K f,b],U X b l]) (fun i=>!([8].contains i)) bR (fun _ _ _ q=>q.2) (fun _ _ q=>q) (by kernel_rfl)<|have a:=a.drew;show lxE _ _ _ _ _ _ _ [0,1,2,3,4,5,6,7,8,9,10,11,12,13] _ _ from an 1 Z a<|ai a Z Z (fun w g=>aK Z) Z<|ai a Z Z (fun w g=>ao (k:=1) u65 Z Z dP Z) Z<|ai a Z Z (fun w g=>aw u30 Z Z (g.q 0 Z 1)) Z<|an 1 Z a<|ai a Z Z (fun w g=>aK Z) Z<|ai a Z Z (fun w g=>ao (k:=1) u65 Z Z dP Z) Z ?_
 refine ai a Z Z (fun w g=>aw u30 Z Z (hBa2.cell g.fr 1 Z)) Z<|J h fun A T h=>bb a Z Z (by kernel_rfl) Z (j3  T (a.ro 1 Z).rp (D.b a.fr).rp) Z ?_
 rintro _ w ⟨ac,L,rfl,p⟩
 have a:=a.e p
 refine an 5 Z (a.d [2,3,4,5] Z Z)<|bn (a.d [2,3,4,5] Z Z)<|ak<|R<|V 3 Z<|N (aj Z Z (nv _ d n Tryz.underlying4 Z)) Z<|V 1 Z<|have B:=a.pick (os':=[Y e [K d,c],U X c m,U X ac A.1]++[U X L A.2,Y j [K f,b],U X b l]) [2,3,0,1,4,5] (by decide) Z;J h fun C E h=>aG Z (bX d (d != n) E B.f ) Z ?_
 rintro _ w ⟨s,rfl,p⟩
 have a:=B.g p
 refine gl2<|V 3 Z<|have B:=a.pick (os':=[Y j [K f,b],U X b l,U X L A.2]++[Y e [K C.1,s],U X s C.2]) [3,4,2,0,1] (by decide) Z;J h fun ad G h=>aG Z (bX f d G B.f ) Z ?_
 rintro _ w ⟨ab,rfl,p⟩
 have a:=B.g p
 refine gl2<|V 4 Z<|Q<|az ?_
 cases h
 exact cf Z Z Z ⟨s,ab,Z,a.d [2,3,0,1] Z Z⟩
theorem fy {f:World} {d:List UInt32} {a:Value} {c:Nat} {S:List Nat} (b:Bool) (a1:Int) {r:Bool×List UInt32}
  (h:F.Fo b d a1=some r) (e:St S f f [Y c [K b,a],U X a d]):Calls Tryz.prog 121 #[O c 0,H a1] f (Ret fun v w=>∃i:Value,v=O c 0∧St S f w [Y c [K r.1,i],U X i r.2]):=by
 refine aB 18 Tryz.func121 Z Z Z<|ax [(0,O c 0),(1,H a1)] Z ?_
 unfold F.Fo at h
 refine R<|V 1 Z<|gl2<|V 1 Z<|N (aD Z (dy Tryz.underlying2 u119 a1)) Z<|V 1 Z<|Q ?_
 refine aZ (r:=r) (fun (g:UInt64) L w=>L=[(0,O c 0),(1,H a1),(5,v64 g)]∧St S f w [Y c [K b,a],U X a d]) (F.GU b d a1) ?_ ?_
 rotate_left
 ·intro j
  refine R<|V 2 Z<|Q ?_
  refine gl9 Z h (fun h=>?_) (fun h=>?_)
  ·exact al<|V 1 Z<|N (i9 Z (AG (UInt64.ofInt a1))) Z<|V 1 Z<|Q<|aH (j (0 - (UInt64.ofInt a1)) _ _ ⟨Z,e⟩ h) Z
  exact gl5<|aH (j (UInt64.ofInt a1) _ _ ⟨Z,e⟩ h) Z
 rintro n L w o h
 try dsimp only at o
 obtain ⟨rfl,e⟩:=o
 unfold F.GU at h
 refine R<|V 4 Z<|J h fun p k h=>aU e Z (eO n k ) Z fun q w e=>have s:=e.pick (os':=[Y c [K b,a],U X a d,U X q p]++[]) [1,2,0] (by decide) Z;J h fun u l h=>aG Z (bX b (decide (a1<0)) l s.f ) Z ?_
 rintro _ w ⟨m,rfl,t⟩
 have e:=s.g t
 refine V 1 Z<|Q<|az ?_
 cases h
 exact ay Z Z ⟨m,Z,e.d [0,1] Z Z⟩
theorem dh {d:World} (a0:Int) {r:Bool×List UInt32}
  (h:F.De a0=some r) :Calls Tryz.prog 61 #[H a0] d (Ret fun v w=>∃b:Value,∃un0:Nat,v=O un0 0∧St [] d w [Y un0 [K r.1,b],U X b r.2]):=by
 refine aB 6 Tryz.func61 Z Z Z<|have a:=St.k d;ax [(0,H a0)] Z ?_
 unfold F.De at h
 refine R<|V 1 Z<|gl2<|bh (ba (cs:=[K false,.slice none 0 0]) en Z a) Z fun c w a=>V 1 Z ?_
 replace a:=a.nil X
 have f:=a.pick (os':=[Y c [K false,.slice none 0 0],U X (.slice none 0 0) []]++[]) [1,0] (by decide) Z
 refine J h fun j e h=>aG Z (fy false a0 e f.f ) Z ?_
 rintro _ w ⟨g,rfl,i⟩
 have a:=f.g i
 refine V 1 Z<|Q<|az ?_
 cases h
 exact ay Z Z ⟨g,c,Z,a.d [0,1] Z Z⟩
theorem jM {k:World} {a0 a1:List UInt32} {b c:Value} {r:List UInt32}
  (h:F.E8 a0 a1=some r) (l:RP [] k X b a0) (q:RP [] k X c a1):Calls Tryz.prog 125 #[b,c] k (Ret fun v w=>St [] k w [U X v r]):=by
 refine aB 45 Tryz.func125 Z Z Z<|have a:=St.k k;ax [(0,b),(1,c)] Z ?_
 unfold F.E8 at h
 refine R<|V 1 Z<|gl2<|V 1 Z<|N (aC u30 Z (l.b a.fr)) Z<|J h fun ad T h=>bG (dw (e:=X) u30 aN Z Z Z a T) Z fun d w a=>V 1 Z<|gl2<|V 1 Z<|gl1<|R<|V 1 Z<|Q<|ar<|ax [(0,b),(1,c),(5,d),(6,v64 0),(7,H 0)] Z ?_
 refine aT (F.G6 a0 a1) (fun (s:UInt64×Int×List UInt32) L w=>L=[(0,b),(1,c),(5,d),(6,v64 s.1),(7,H s.2.1)]∧St [] k w [U X d s.2.2]) ?_ (0,0,ad) ⟨Z,a⟩ h
 rintro ao ⟨u,x,y⟩ L w ae hI ab h z
 try dsimp only at hI
 obtain ⟨rfl,a⟩:=hI
 unfold F.G6 at h
 refine av<|R<|V 2 Z<|N (aC u30 Z (l.b a.fr)) Z<|V 1 Z<|Q ?_
 refine gl9 Z h (fun h=>?_) (fun h=>?_)
 ·refine gl5<|av<|ar<|R<|V 2 Z<|J h fun f m h=>N (bk u30 aN Z Z (l.b a.fr) m) Z<|N (a8 u38 Z Z (l.b a.fr) m Z) Z<|N (aD Z (bD u38 u119 f)) Z<|V 1 Z<|N (aj Z Z (eA _ f.toUInt64 u)) Z<|V 1 Z<|Q ?_
  refine aZ (r:=ae) (fun (g:UInt64) L w=>L=[(0,b),(1,c),(5,d),(7,H x),(8,v64 g)]∧St [] k w [U X d y]) (F.FR x y) ?_ ?_
  rotate_left
  ·intro n
   refine R<|V 2 Z<|N (aC u30 Z (q.b a.fr)) Z<|V 1 Z<|Q ?_
   refine gl9 Z h (fun h=>?_) (fun h=>?_)
   ·exact al<|V 3 Z<|J h fun A o h=>N (bk u30 aN Z Z (q.b a.fr) o) Z<|N (a8 u38 Z Z (q.b a.fr) o Z) Z<|N (aD Z (bD u38 u119 A)) Z<|N (aj Z Z (eA _ (f.toUInt64 - u) A.toUInt64)) Z<|a7 h fun B D h=>N (a9 (v:=v64 B) (by rw [←D]; rfl)) Z<|Q<|aH (n B _ _ ⟨Z,a⟩ h) Z
   exact gl5<|aH (n (f.toUInt64 - u) _ _ ⟨Z,a⟩ h) Z
  rintro j L w hJ h
  try dsimp only at hJ
  obtain ⟨rfl,a⟩:=hJ
  unfold F.FR at h
  refine R<|V 3 Z<|N (aD Z (ca u119 u38 j)) Z<|J h fun ap p h=>N (bk u30 aN Z Z (a.ro 0 Z) p) Z<|bl (bZ (t:=j.toUInt32) aN Z Z a (i:=0) Z p Z) fun w a=>a7 h fun ac E h=>?_
  rw [E]at a
  exact Q<|al<|V 1 Z<|N (aj Z Z (cc _ j 63)) Z<|V 1 Z<|aE<|aF<|ak<|al<|V 3 Z<|aE<|bf (bd (ab (aM j 63,wI (x+1),ac) _ _ ⟨Z,a⟩ (aL h z)) Z)
 refine aQ<|au<|au<|have h:=aI h z;aR<|ak<|R<|V 1 Z<|have hG:=a.pick (os':=[U X d y]++[]) [0] (by decide) Z;J h fun aq G h=>aG Z (dK  G hG.f ) Z ?_
 rintro aw w ⟨an,C,S⟩
 rw [←C]at S
 have a:=hG.g S
 refine V 1 Z<|Q<|az ?_
 cases h
 exact ay Z Z (a.d [0] Z Z)
theorem ge {d:World} {a1 a3:List UInt32} {e f:Value} (a0 a2:Bool) {r:Bool×List UInt32}
  (h:F.Dw a0 a1 a2 a3=some r) (b:RP [] d X e a1) (c:RP [] d X f a3):Calls Tryz.prog 148 #[K a0,e,K a2,f] d (Ret fun v w=>∃u1:Value,v=.tuple #[K r.1,u1]∧St [] d w [U X u1 r.2]):=by
 refine aB 29 Tryz.func148 Z Z Z<|have a:=St.k d;ax [(0,K a0),(1,e),(2,K a2),(3,f)] Z ?_
 unfold F.Dw at h
 refine R<|V 2 Z<|gl1<|R<|V 2 Z<|N (aj Z Z (Bw _ a0 a2 Tryz.underlying4 Z)) Z<|Q ?_
 refine gl9 Z h (fun h=>?_) (fun h=>?_)
 ·refine R<|V 3 Z<|J h fun o g h=>aU a Z (j8  g (b.b a.fr).rp (c.b a.fr).rp) Z fun l w a=>V 2 Z<|gl8 ?_
  cases h
  exact cf Z Z Z ⟨l,Z,a.d [0] Z Z⟩
 refine gl5<|av<|R<|V 2 Z<|J h fun p i h=>bc a Z (j5  i (b.b a.fr).rp (c.b a.fr).rp) Z fun w a=>V 1 Z<|Q ?_
 refine gl9 Z h (fun h=>?_) (fun h=>?_)
 ·refine R<|V 3 Z<|J h fun q j h=>aU a Z (jM  j (b.b a.fr).rp (c.b a.fr).rp) Z fun m w a=>V 2 Z<|gl8 ?_
  cases h
  exact cf Z Z Z ⟨m,Z,a.d [0] Z Z⟩
 refine gl6<|V 3 Z<|J h fun s k h=>aU a Z (jM  k (c.b a.fr).rp (b.b a.fr).rp) Z fun n w a=>V 2 Z<|Q<|az ?_
 cases h
 exact cf Z Z Z ⟨n,Z,a.d [0] Z Z⟩
theorem oM {e:World} {g o p:List UInt32} {c m n:Value} {d q s:Nat} {S:List Nat} (f j l:Bool) {r:Bool×List UInt32}
  (h:F.Gp f g j o l p=some r) (a:St S e e [Y d [K f,c],U X c g]) (x:RP S e X m o) (hBa1:RB S e q [K j,m]) (y:RP S e X n p) (hBa2:RB S e s [K l,n]):Calls Tryz.prog 103 #[O d 0,O q 0,O s 0] e (Ret fun v w=>∃t:Value,v=O d 0∧St S e w [Y d [K r.1,t],U X t r.2]):=by
 refine aB 28 Tryz.func103 Z Z Z<|ax [(0,O d 0),(1,O q 0),(2,O s 0)] Z ?_
 unfold F.Gp at h
 refine R<|V 1 Z<|gl1<|have hsh1:=(a.ro 1 Z).shp;aX (fun w'=>St S e w' []) (fun i=>!([17,20].contains i)) bR (fun _ _ _ A=>A.2) (fun _ _ A=>A) (by kernel_rfl)<|have a:=a.drew;show lxE _ _ _ _ _ _ _ [0,1,2,3,4,5,6,7,8,9,10,11,12,13,14,15,16,17,18,19,20,21] _ _ from an 2 Z (a.d [] Z Z)<|ai (a.d [] Z Z) Z Z (fun w b=>aK Z) Z<|ai (a.d [] Z Z) Z Z (fun w b=>ao (k:=0) u65 Z Z nz4 Z) Z<|ai (a.d [] Z Z) Z Z (fun w b=>aw Tryz.underlying4 Z Z (hBa1.cell b.fr 0 Z)) Z<|an 1 Z (a.d [] Z Z)<|ai (a.d [] Z Z) Z Z (fun w b=>aK Z) Z<|ai (a.d [] Z Z) Z Z (fun w b=>ao (k:=1) u65 Z Z dP Z) Z<|ai (a.d [] Z Z) Z Z (fun w b=>aw u30 Z Z (hBa1.cell b.fr 1 Z)) Z<|an 1 Z (a.d [] Z Z)<|ai (a.d [] Z Z) Z Z (fun w b=>aK Z) Z<|ai (a.d [] Z Z) Z Z (fun w b=>ao (k:=0) u65 Z Z nz4 Z) Z<|ai (a.d [] Z Z) Z Z (fun w b=>aw Tryz.underlying4 Z Z (hBa2.cell b.fr 0 Z)) Z<|an 1 Z (a.d [] Z Z)<|ai (a.d [] Z Z) Z Z (fun w b=>aK Z) Z<|ai (a.d [] Z Z) Z Z (fun w b=>ao (k:=1) u65 Z Z dP Z) Z<|ai (a.d [] Z Z) Z Z (fun w b=>aw u30 Z Z (hBa2.cell b.fr 1 Z)) Z ?_
 refine J h fun z B h=>bb (a.d [] Z Z) Z Z (by kernel_rfl) Z (ge j l B (x.b a.fr).rp (y.b a.fr).rp) Z ?_
 rintro _ w ⟨D,rfl,u⟩
 have a:=a.e u
 refine an 2 Z (a.d [] Z Z)<|have E:=a.pick (os':=[Y d [K f,c],U X c g,U X D z.2]++[]) [1,2,0] (by decide) Z;J h fun L C h=>bb (a.d [] Z Z) Z Z (by kernel_rfl) Z (bX f z.1 C E.f ) Z ?_
 rintro _ w ⟨G,rfl,u⟩
 have a:=E.g u
 refine an 1 Z (a.d [] Z Z)<|bn (a.d [] Z Z)<|ak<|az ?_
 cases h
 exact ay Z Z ⟨G,Z,a.d [0,1] Z Z⟩
theorem ea {f:World} {g m:List UInt32} {c l:Value} {b n:Nat} {S:List Nat} (d j:Bool) {r:Bool×List UInt32}
  (h:F.DQ d g j m=some r) (a:St S f f [Y b [K d,c],U X c g]) (q:RP S f X l m) (hBa2:RB S f n [K j,l]):Calls Tryz.prog 103 #[O b 0,O b 0,O n 0] f (Ret fun v w=>∃o:Value,v=O b 0∧St S f w [Y b [K r.1,o],U X o r.2]):=by
 refine aB 28 Tryz.func103 Z Z Z<|ax [(0,O b 0),(1,O b 0),(2,O n 0)] Z ?_
 unfold F.DQ at h
 refine R<|V 1 Z<|gl1<|have hsh1:=(a.ro 1 Z).shp;aX (fun w'=>St S f w' []) (fun i=>!([1004,1008,17,20].contains i)) bR (fun _ _ _ t=>t.2) (fun _ _ t=>t) (by kernel_rfl)<|have a:=a.drew;show lxE _ _ _ _ _ _ _ [0,1,2,3,4,5,6,7,8,9,10,11,12,13,14,15,16,17,18,19,20,21] _ _ from an 2 Z (a.d [] Z Z)<|ai (a.d [] Z Z) Z Z (fun w e=>aK Z) Z<|ai (a.d [] Z Z) Z Z (fun w e=>ao (k:=0) u65 Z Z nz4 Z) Z<|nM (a.d [] Z Z) Z Z Z (aw Tryz.underlying4 Z Z (a.q 0 Z 0)) Z<|an 1 Z (a.d [] Z Z)<|ai (a.d [] Z Z) Z Z (fun w e=>aK Z) Z<|ai (a.d [] Z Z) Z Z (fun w e=>ao (k:=1) u65 Z Z dP Z) Z<|nM (a.d [] Z Z) Z Z Z (aw u30 Z Z (a.q 0 Z 1)) Z<|an 1 Z (a.d [] Z Z)<|ai (a.d [] Z Z) Z Z (fun w e=>aK Z) Z<|ai (a.d [] Z Z) Z Z (fun w e=>ao (k:=0) u65 Z Z nz4 Z) Z<|ai (a.d [] Z Z) Z Z (fun w e=>aw Tryz.underlying4 Z Z (hBa2.cell e.fr 0 Z)) Z<|an 1 Z (a.d [] Z Z)<|ai (a.d [] Z Z) Z Z (fun w e=>aK Z) Z<|ai (a.d [] Z Z) Z Z (fun w e=>ao (k:=1) u65 Z Z dP Z) Z<|ai (a.d [] Z Z) Z Z (fun w e=>aw u30 Z Z (hBa2.cell e.fr 1 Z)) Z<|J h fun s u h=>?_
 refine bb (a.d [] Z Z) Z Z (by kernel_rfl) Z (ge d j u (a.ro 1 Z).rp (q.b a.fr).rp) Z ?_
 rintro _ w ⟨y,rfl,p⟩
 have a:=a.e p
 refine an 2 Z (a.d [] Z Z)<|have z:=a.pick (os':=[Y b [K d,c],U X c g,U X y s.2]++[]) [1,2,0] (by decide) Z;J h fun B x h=>bb (a.d [] Z Z) Z Z (by kernel_rfl) Z (bX d s.1 x z.f ) Z ?_
 rintro _ w ⟨A,rfl,p⟩
 have a:=z.g p
 refine an 1 Z (a.d [] Z Z)<|bn (a.d [] Z Z)<|ak<|az ?_
 cases h
 exact ay Z Z ⟨A,Z,a.d [0,1] Z Z⟩
theorem j0 {e:World} {g o p:List UInt32} {c m n:Value} {d q s:Nat} {S:List Nat} (f j l:Bool) {r:Bool×List UInt32}
  (h:F.FN f g j o l p=some r) (a:St S e e [Y d [K f,c],U X c g]) (x:RP S e X m o) (hBa1:RB S e q [K j,m]) (y:RP S e X n p) (hBa2:RB S e s [K l,n]):Calls Tryz.prog 146 #[O d 0,O q 0,O s 0] e (Ret fun v w=>∃t:Value,v=O d 0∧St S e w [Y d [K r.1,t],U X t r.2]):=by
 refine aB 29 Tryz.func146 Z Z Z<|ax [(0,O d 0),(1,O q 0),(2,O s 0)] Z ?_
 unfold F.FN at h
 refine R<|V 1 Z<|gl1<|have hsh1:=(a.ro 1 Z).shp;aX (fun w'=>St S e w' []) (fun i=>!([18,21].contains i)) bR (fun _ _ _ A=>A.2) (fun _ _ A=>A) (by kernel_rfl)<|have a:=a.drew;show lxE _ _ _ _ _ _ _ [0,1,2,3,4,5,6,7,8,9,10,11,12,13,14,15,16,17,18,19,20,21,22] _ _ from an 2 Z (a.d [] Z Z)<|ai (a.d [] Z Z) Z Z (fun w b=>aK Z) Z<|ai (a.d [] Z Z) Z Z (fun w b=>ao (k:=0) u65 Z Z nz4 Z) Z<|ai (a.d [] Z Z) Z Z (fun w b=>aw Tryz.underlying4 Z Z (hBa1.cell b.fr 0 Z)) Z<|an 1 Z (a.d [] Z Z)<|ai (a.d [] Z Z) Z Z (fun w b=>aK Z) Z<|ai (a.d [] Z Z) Z Z (fun w b=>ao (k:=1) u65 Z Z dP Z) Z<|ai (a.d [] Z Z) Z Z (fun w b=>aw u30 Z Z (hBa1.cell b.fr 1 Z)) Z<|an 1 Z (a.d [] Z Z)<|ai (a.d [] Z Z) Z Z (fun w b=>aK Z) Z<|ai (a.d [] Z Z) Z Z (fun w b=>ao (k:=0) u65 Z Z nz4 Z) Z<|ai (a.d [] Z Z) Z Z (fun w b=>aw Tryz.underlying4 Z Z (hBa2.cell b.fr 0 Z)) Z<|an 2 Z (a.d [] Z Z)<|ai (a.d [] Z Z) Z Z (fun w b=>aK Z) Z<|ai (a.d [] Z Z) Z Z (fun w b=>ao (k:=1) u65 Z Z dP Z) Z<|ai (a.d [] Z Z) Z Z (fun w b=>aw u30 Z Z (hBa2.cell b.fr 1 Z)) Z ?_
 refine J h fun z B h=>bb (a.d [] Z Z) Z Z (by kernel_rfl) Z (ge j (!l) B (x.b a.fr).rp (y.b a.fr).rp) Z ?_
 rintro _ w ⟨D,rfl,u⟩
 have a:=a.e u
 refine an 2 Z (a.d [] Z Z)<|have E:=a.pick (os':=[Y d [K f,c],U X c g,U X D z.2]++[]) [1,2,0] (by decide) Z;J h fun L C h=>bb (a.d [] Z Z) Z Z (by kernel_rfl) Z (bX f z.1 C E.f ) Z ?_
 rintro _ w ⟨G,rfl,u⟩
 have a:=E.g u
 refine an 1 Z (a.d [] Z Z)<|bn (a.d [] Z Z)<|ak<|az ?_
 cases h
 exact ay Z Z ⟨G,Z,a.d [0,1] Z Z⟩
theorem eG {f:World} {g m:List UInt32} {c l:Value} {b n:Nat} {S:List Nat} (d j:Bool) {r:Bool×List UInt32}
  (h:F.Ee d g j m=some r) (a:St S f f [Y b [K d,c],U X c g]) (q:RP S f X l m) (hBa2:RB S f n [K j,l]):Calls Tryz.prog 146 #[O b 0,O b 0,O n 0] f (Ret fun v w=>∃o:Value,v=O b 0∧St S f w [Y b [K r.1,o],U X o r.2]):=by
 refine aB 29 Tryz.func146 Z Z Z<|ax [(0,O b 0),(1,O b 0),(2,O n 0)] Z ?_
 unfold F.Ee at h
 refine R<|V 1 Z<|gl1<|have hsh1:=(a.ro 1 Z).shp;aX (fun w'=>St S f w' []) (fun i=>!([1004,1008,18,21].contains i)) bR (fun _ _ _ t=>t.2) (fun _ _ t=>t) (by kernel_rfl)<|have a:=a.drew;show lxE _ _ _ _ _ _ _ [0,1,2,3,4,5,6,7,8,9,10,11,12,13,14,15,16,17,18,19,20,21,22] _ _ from an 2 Z (a.d [] Z Z)<|ai (a.d [] Z Z) Z Z (fun w e=>aK Z) Z<|ai (a.d [] Z Z) Z Z (fun w e=>ao (k:=0) u65 Z Z nz4 Z) Z<|nM (a.d [] Z Z) Z Z Z (aw Tryz.underlying4 Z Z (a.q 0 Z 0)) Z<|an 1 Z (a.d [] Z Z)<|ai (a.d [] Z Z) Z Z (fun w e=>aK Z) Z<|ai (a.d [] Z Z) Z Z (fun w e=>ao (k:=1) u65 Z Z dP Z) Z<|nM (a.d [] Z Z) Z Z Z (aw u30 Z Z (a.q 0 Z 1)) Z<|an 1 Z (a.d [] Z Z)<|ai (a.d [] Z Z) Z Z (fun w e=>aK Z) Z<|ai (a.d [] Z Z) Z Z (fun w e=>ao (k:=0) u65 Z Z nz4 Z) Z<|ai (a.d [] Z Z) Z Z (fun w e=>aw Tryz.underlying4 Z Z (hBa2.cell e.fr 0 Z)) Z<|an 2 Z (a.d [] Z Z)<|ai (a.d [] Z Z) Z Z (fun w e=>aK Z) Z<|ai (a.d [] Z Z) Z Z (fun w e=>ao (k:=1) u65 Z Z dP Z) Z<|ai (a.d [] Z Z) Z Z (fun w e=>aw u30 Z Z (hBa2.cell e.fr 1 Z)) Z ?_
 refine J h fun s u h=>bb (a.d [] Z Z) Z Z (by kernel_rfl) Z (ge d (!j) u (a.ro 1 Z).rp (q.b a.fr).rp) Z ?_
 rintro _ w ⟨y,rfl,p⟩
 have a:=a.e p
 refine an 2 Z (a.d [] Z Z)<|have z:=a.pick (os':=[Y b [K d,c],U X c g,U X y s.2]++[]) [1,2,0] (by decide) Z;J h fun B x h=>bb (a.d [] Z Z) Z Z (by kernel_rfl) Z (bX d s.1 x z.f ) Z ?_
 rintro _ w ⟨A,rfl,p⟩
 have a:=z.g p
 refine an 1 Z (a.d [] Z Z)<|bn (a.d [] Z Z)<|ak<|az ?_
 cases h
 exact ay Z Z ⟨A,Z,a.d [0,1] Z Z⟩
theorem lS {f:World} {g m:List UInt32} {c l:Value} {b n:Nat} {S:List Nat} (d j:Bool) {r:Bool×List UInt32}
  (h:F.Hp d g j m=some r) (a:St S f f [Y b [K d,c],U X c g]) (q:RP S f X l m) (hBa1:RB S f n [K j,l]):Calls Tryz.prog 146 #[O b 0,O n 0,O b 0] f (Ret fun v w=>∃o:Value,v=O b 0∧St S f w [Y b [K r.1,o],U X o r.2]):=by
 refine aB 29 Tryz.func146 Z Z Z<|ax [(0,O b 0),(1,O n 0),(2,O b 0)] Z ?_
 unfold F.Hp at h
 refine R<|V 1 Z<|gl1<|have hsh1:=(a.ro 1 Z).shp;aX (fun w'=>St S f w' []) (fun i=>!([1012,1017,18,21].contains i)) bR (fun _ _ _ t=>t.2) (fun _ _ t=>t) (by kernel_rfl)<|have a:=a.drew;show lxE _ _ _ _ _ _ _ [0,1,2,3,4,5,6,7,8,9,10,11,12,13,14,15,16,17,18,19,20,21,22] _ _ from an 2 Z (a.d [] Z Z)<|ai (a.d [] Z Z) Z Z (fun w e=>aK Z) Z<|ai (a.d [] Z Z) Z Z (fun w e=>ao (k:=0) u65 Z Z nz4 Z) Z<|ai (a.d [] Z Z) Z Z (fun w e=>aw Tryz.underlying4 Z Z (hBa1.cell e.fr 0 Z)) Z<|an 1 Z (a.d [] Z Z)<|ai (a.d [] Z Z) Z Z (fun w e=>aK Z) Z<|ai (a.d [] Z Z) Z Z (fun w e=>ao (k:=1) u65 Z Z dP Z) Z<|ai (a.d [] Z Z) Z Z (fun w e=>aw u30 Z Z (hBa1.cell e.fr 1 Z)) Z<|an 1 Z (a.d [] Z Z)<|ai (a.d [] Z Z) Z Z (fun w e=>aK Z) Z<|ai (a.d [] Z Z) Z Z (fun w e=>ao (k:=0) u65 Z Z nz4 Z) Z<|nM (a.d [] Z Z) Z Z Z (aw Tryz.underlying4 Z Z (a.q 0 Z 0)) Z<|an 2 Z (a.d [] Z Z)<|ai (a.d [] Z Z) Z Z (fun w e=>aK Z) Z<|ai (a.d [] Z Z) Z Z (fun w e=>ao (k:=1) u65 Z Z dP Z) Z<|nM (a.d [] Z Z) Z Z Z (aw u30 Z Z (a.q 0 Z 1)) Z ?_
 refine J h fun s u h=>bb (a.d [] Z Z) Z Z (by kernel_rfl) Z (ge j (!d) u (q.b a.fr).rp (a.ro 1 Z).rp) Z ?_
 rintro _ w ⟨y,rfl,p⟩
 have a:=a.e p
 refine an 2 Z (a.d [] Z Z)<|have z:=a.pick (os':=[Y b [K d,c],U X c g,U X y s.2]++[]) [1,2,0] (by decide) Z;J h fun B x h=>bb (a.d [] Z Z) Z Z (by kernel_rfl) Z (bX d s.1 x z.f ) Z ?_
 rintro _ w ⟨A,rfl,p⟩
 have a:=z.g p
 refine an 1 Z (a.d [] Z Z)<|bn (a.d [] Z Z)<|ak<|az ?_
 cases h
 exact ay Z Z ⟨A,Z,a.d [0,1] Z Z⟩
theorem mp {x:World} {y ak am z:List UInt32} {l ah ai m:Value} {d an ap e:Nat} {S:List Nat} (o ac A p:Bool) {r:Bool×List UInt32×Bool×List UInt32}
  (h:F.FK o y ac ak A am p z=some r) (c:St S x x [Y d [K o,l],U X l y,Y e [K p,m],U X m z]) (aC:RP S x X ah ak) (hBa1:RB S x an [K ac,ah]) (aj:RP S x X ai am) (hBa2:RB S x ap [K A,ai]):Calls Tryz.prog 170 #[O d 0,O an 0,O ap 0,O e 0] x (Ret fun v w=>∃aq ar:Value,v=.tuple #[O d 0,O e 0]∧St S x w [Y d [K r.1,aq],U X aq r.2.1,Y e [K r.2.2.1,ar],U X ar r.2.2.2]):=by
 refine aB 45 Tryz.func170 Z Z Z<|ax [(0,O d 0),(1,O an 0),(2,O ap 0),(3,O e 0)] Z ?_
 unfold F.FK at h
 refine R<|V 2 Z<|gl2<|bh (ba (cs:=[K false,.slice none 0 0]) en Z c) Z fun u w c=>V 1 Z ?_
 replace c:=c.nil X
 have b:=c.pick (os':=[Y u [K false,.slice none 0 0],U X (.slice none 0 0) []]++[Y d [K o,l],U X l y,Y e [K p,m],U X m z]) [1,0,2,3,4,5] (by decide) Z
 refine J h fun i aN h=>aG Z (fT false A aN b.f (aj.f (W Z) b) (hBa2.f b)) Z ?_
 rintro _ w ⟨n,rfl,j⟩
 have c:=b.g j
 refine V 1 Z<|gl2<|V 4 Z<|have b:=c.pick (os':=[Y d [K o,l],U X l y,Y e [K p,m],U X m z]++[Y u [K i.1,n],U X n i.2]) [2,3,4,5,0,1] (by decide) Z;J h fun a aD h=>aG Z (iC o ac A p aD b.f (aC.f (W Z) b) (hBa1.f b) (aj.f (W Z) b) (hBa2.f b)) Z ?_
 rintro _ w ⟨q,f,rfl,j⟩
 have c:=b.g j
 refine Q ?_
 refine aZ (r:=r) (fun (g:Bool×List UInt32×Bool×List UInt32) L w=>∃(B:Value) (C:Value),L=[(0,O d 0),(3,O e 0)]∧St S x w [U X B g.2.1,Y d [K g.1,B],U X C g.2.2.2,Y e [K g.2.2.1,C]]) (F.H5) ?_ ?_
 rotate_left
 ·intro D
  refine R<|V 1 Z<|N (aK Z) Z<|N (ao (k:=0) u65 Z Z nz4 Z) Z<|N (aw Tryz.underlying4 Z Z (c.q 2 Z 0)) Z<|Q ?_
  refine gl9 Z h (fun h=>?_) (fun h=>?_)
  ·refine R<|V 1 Z<|N (aK Z) Z<|N (ao (k:=0) u65 Z Z nz4 Z) Z<|N (aw Tryz.underlying4 Z Z (c.q 4 Z 0)) Z<|Q ?_
   refine gl9 Z h (fun h=>?_) (fun h=>?_)
   ·refine R<|V 2 Z<|J h fun s aE h=>bH c Z (dh 1 aE ) Z fun E au w c=>have b:=c.pick (os':=[Y d [K a.1,q],U X q a.2.1]++[Y au [K s.1,E],U X E s.2,Y e [K a.2.2.1,f],U X f a.2.2.2,Y u [K i.1,n],U X n i.2]) [2,3,0,1,4,5,6,7] (by decide) Z;J h fun G aF h=>aG Z (ea a.1 s.1 aF b.f (b.giveO 1 Z) (b.giveB 0 Z)) Z ?_
    rintro _ w ⟨ad,rfl,j⟩
    have c:=b.g j
    refine Q<|al<|V 3 Z<|have b:=c.pick (os':=[Y e [K a.2.2.1,f],U X f a.2.2.2]++[Y d [K G.1,ad],U X ad G.2,Y au [K s.1,E],U X E s.2,Y u [K i.1,n],U X n i.2]) [4,5,0,1,2,3,6,7] (by decide) Z;J h fun av aI h=>aG Z (eG a.2.2.1 i.1 aI b.f (b.giveO 5 Z) (b.giveB 4 Z)) Z ?_
    rintro _ w ⟨aO,rfl,j⟩
    have c:=b.g j
    exact Q<|aH (D (G.1,G.2,av.1,av.2) _ _ ⟨ad,aO,Z,(c.d [3,2,1,0] Z Z)⟩ h) Z
   refine R<|V 2 Z<|J h fun t aJ h=>bH c Z (dh 1 aJ ) Z fun T ay w c=>have b:=c.pick (os':=[Y d [K a.1,q],U X q a.2.1]++[Y ay [K t.1,T],U X T t.2,Y e [K a.2.2.1,f],U X f a.2.2.2,Y u [K i.1,n],U X n i.2]) [2,3,0,1,4,5,6,7] (by decide) Z;J h fun ab aL h=>aG Z (eG a.1 t.1 aL b.f (b.giveO 1 Z) (b.giveB 0 Z)) Z ?_
   rintro _ w ⟨ae,rfl,j⟩
   have c:=b.g j
   refine Q<|al<|V 3 Z<|have b:=c.pick (os':=[Y e [K a.2.2.1,f],U X f a.2.2.2]++[Y d [K ab.1,ae],U X ae ab.2,Y ay [K t.1,T],U X T t.2,Y u [K i.1,n],U X n i.2]) [4,5,0,1,2,3,6,7] (by decide) Z;J h fun aA aM h=>aG Z (ea a.2.2.1 i.1 aM b.f (b.giveO 5 Z) (b.giveB 4 Z)) Z ?_
   rintro _ w ⟨aP,rfl,j⟩
   have c:=b.g j
   exact Q<|aH (D (ab.1,ab.2,aA.1,aA.2) _ _ ⟨ae,aP,Z,(c.d [3,2,1,0] Z Z)⟩ h) Z
  exact gl5<|aH (D (a.1,a.2.1,a.2.2.1,a.2.2.2) _ _ ⟨q,f,Z,(c.d [1,0,3,2] Z Z)⟩ h) Z
 rintro ⟨aR,aS,aT,aU⟩ L w hJ h
 try dsimp only at hJ
 obtain ⟨B,C,rfl,c⟩:=hJ
 unfold F.H5 at h
 refine R<|V 4 Z<|Q<|az ?_
 cases h
 exact cf Z Z Z ⟨B,C,Z,c.d [1,0,3,2] Z Z⟩
theorem j9 {w0:World} {x ai y:List UInt32} {l ae m:Value} {e aj d:Nat} {S:List Nat} (o z p:Bool) {r:Bool×List UInt32×Bool×List UInt32}
  (h:F.IE o x z ai p y=some r) (c:St S w0 w0 [Y e [K o,l],U X l x,Y d [K p,m],U X m y]) (ah:RP S w0 X ae ai) (hBa2:RB S w0 aj [K z,ae]):Calls Tryz.prog 170 #[O e 0,O d 0,O aj 0,O d 0] w0 (Ret fun v w=>∃ak am:Value,v=.tuple #[O e 0,O d 0]∧St S w0 w [Y e [K r.1,ak],U X ak r.2.1,Y d [K r.2.2.1,am],U X am r.2.2.2]):=by
 refine aB 45 Tryz.func170 Z Z Z<|ax [(0,O e 0),(1,O d 0),(2,O aj 0),(3,O d 0)] Z ?_
 unfold F.IE at h
 refine R<|V 2 Z<|gl2<|bh (ba (cs:=[K false,.slice none 0 0]) en Z c) Z fun u w c=>V 1 Z ?_
 replace c:=c.nil X
 have b:=c.pick (os':=[Y u [K false,.slice none 0 0],U X (.slice none 0 0) []]++[Y e [K o,l],U X l x,Y d [K p,m],U X m y]) [1,0,2,3,4,5] (by decide) Z
 refine J h fun i aF h=>aG Z (fT false z aF b.f (ah.f (W Z) b) (hBa2.f b)) Z ?_
 rintro _ w ⟨n,rfl,j⟩
 have c:=b.g j
 refine V 1 Z<|gl2<|V 4 Z<|have b:=c.pick (os':=[Y e [K o,l],U X l x,Y d [K p,m],U X m y]++[Y u [K i.1,n],U X n i.2]) [2,3,4,5,0,1] (by decide) Z;J h fun a au h=>aG Z (kb o z p au b.f (ah.f (W Z) b) (hBa2.f b)) Z ?_
 rintro _ w ⟨q,f,rfl,j⟩
 have c:=b.g j
 refine Q ?_
 refine aZ (r:=r) (fun (g:Bool×List UInt32×Bool×List UInt32) L w=>∃(A:Value) (B:Value),L=[(0,O e 0),(3,O d 0)]∧St S w0 w [U X A g.2.1,Y e [K g.1,A],U X B g.2.2.2,Y d [K g.2.2.1,B]]) (F.Ig) ?_ ?_
 rotate_left
 ·intro C
  refine R<|V 1 Z<|N (aK Z) Z<|N (ao (k:=0) u65 Z Z nz4 Z) Z<|N (aw Tryz.underlying4 Z Z (c.q 2 Z 0)) Z<|Q ?_
  refine gl9 Z h (fun h=>?_) (fun h=>?_)
  ·refine R<|V 1 Z<|N (aK Z) Z<|N (ao (k:=0) u65 Z Z nz4 Z) Z<|N (aw Tryz.underlying4 Z Z (c.q 4 Z 0)) Z<|Q ?_
   refine gl9 Z h (fun h=>?_) (fun h=>?_)
   ·refine R<|V 2 Z<|J h fun s av h=>bH c Z (dh 1 av ) Z fun D an w c=>have b:=c.pick (os':=[Y e [K a.1,q],U X q a.2.1]++[Y an [K s.1,D],U X D s.2,Y d [K a.2.2.1,f],U X f a.2.2.2,Y u [K i.1,n],U X n i.2]) [2,3,0,1,4,5,6,7] (by decide) Z;J h fun E ay h=>aG Z (ea a.1 s.1 ay b.f (b.giveO 1 Z) (b.giveB 0 Z)) Z ?_
    rintro _ w ⟨ac,rfl,j⟩
    have c:=b.g j
    refine Q<|al<|V 3 Z<|have b:=c.pick (os':=[Y d [K a.2.2.1,f],U X f a.2.2.2]++[Y e [K E.1,ac],U X ac E.2,Y an [K s.1,D],U X D s.2,Y u [K i.1,n],U X n i.2]) [4,5,0,1,2,3,6,7] (by decide) Z;J h fun ap aA h=>aG Z (eG a.2.2.1 i.1 aA b.f (b.giveO 5 Z) (b.giveB 4 Z)) Z ?_
    rintro _ w ⟨aI,rfl,j⟩
    have c:=b.g j
    exact Q<|aH (C (E.1,E.2,ap.1,ap.2) _ _ ⟨ac,aI,Z,(c.d [3,2,1,0] Z Z)⟩ h) Z
   refine R<|V 2 Z<|J h fun t aC h=>bH c Z (dh 1 aC ) Z fun G aq w c=>have b:=c.pick (os':=[Y e [K a.1,q],U X q a.2.1]++[Y aq [K t.1,G],U X G t.2,Y d [K a.2.2.1,f],U X f a.2.2.2,Y u [K i.1,n],U X n i.2]) [2,3,0,1,4,5,6,7] (by decide) Z;J h fun T aD h=>aG Z (eG a.1 t.1 aD b.f (b.giveO 1 Z) (b.giveB 0 Z)) Z ?_
   rintro _ w ⟨ad,rfl,j⟩
   have c:=b.g j
   refine Q<|al<|V 3 Z<|have b:=c.pick (os':=[Y d [K a.2.2.1,f],U X f a.2.2.2]++[Y e [K T.1,ad],U X ad T.2,Y aq [K t.1,G],U X G t.2,Y u [K i.1,n],U X n i.2]) [4,5,0,1,2,3,6,7] (by decide) Z;J h fun ar aE h=>aG Z (ea a.2.2.1 i.1 aE b.f (b.giveO 5 Z) (b.giveB 4 Z)) Z ?_
   rintro _ w ⟨aJ,rfl,j⟩
   have c:=b.g j
   exact Q<|aH (C (T.1,T.2,ar.1,ar.2) _ _ ⟨ad,aJ,Z,(c.d [3,2,1,0] Z Z)⟩ h) Z
  exact gl5<|aH (C (a.1,a.2.1,a.2.2.1,a.2.2.2) _ _ ⟨q,f,Z,(c.d [1,0,3,2] Z Z)⟩ h) Z
 rintro ⟨aM,aN,aO,aP⟩ L w hJ h
 try dsimp only at hJ
 obtain ⟨A,B,rfl,c⟩:=hJ
 unfold F.Ig at h
 refine R<|V 4 Z<|Q<|az ?_
 cases h
 exact cf Z Z Z ⟨A,B,Z,c.d [1,0,3,2] Z Z⟩
theorem jN {d:World} {e m n:List UInt32} {a j k:Value} {b o p:Nat} {S:List Nat} (c f g:Bool) {r:Bool×List UInt32}
  (h:F.G2 c e f m g n=some r) (i:St S d d [Y b [K c,a],U X a e]) (s:RP S d X j m) (hBa1:RB S d o [K f,j]) (t:RP S d X k n) (hBa2:RB S d p [K g,k]):Calls Tryz.prog 147 #[O b 0,O o 0,O p 0] d (Ret fun v w=>∃q:Value,v=O b 0∧St S d w [Y b [K r.1,q],U X q r.2]):=by
 refine aB 13 Tryz.func147 Z Z Z<|ax [(0,O b 0),(1,O o 0),(2,O p 0)] Z ?_
 unfold F.G2 at h
 refine R<|V 1 Z<|gl2<|bh (ba (cs:=[K false,.slice none 0 0]) en Z i) Z fun x w i=>V 3 Z ?_
 replace i:=i.nil X
 have l:=i.pick (os':=[Y x [K false,.slice none 0 0],U X (.slice none 0 0) [],Y b [K c,a],U X a e]++[]) [1,0,2,3] (by decide) Z
 refine J h fun A u h=>aG Z (mp false f g c u l.f (s.f (W Z) l) (hBa1.f l) (t.f (W Z) l) (hBa2.f l)) Z ?_
 rintro _ w ⟨B,y,rfl,z⟩
 have i:=l.g z
 refine gl2<|V 2 Z<|Q<|az ?_
 cases h
 exact ay Z Z ⟨y,Z,i.d [2,3] Z Z⟩
theorem lF {i:World} {d j:List UInt32} {b g:Value} {a k:Nat} {S:List Nat} (c e:Bool) {r:Bool×List UInt32}
  (h:F.Ip c d e j=some r) (f:St S i i [Y a [K c,b],U X b d]) (m:RP S i X g j) (hBa2:RB S i k [K e,g]):Calls Tryz.prog 147 #[O a 0,O a 0,O k 0] i (Ret fun v w=>∃l:Value,v=O a 0∧St S i w [Y a [K r.1,l],U X l r.2]):=by
 refine aB 13 Tryz.func147 Z Z Z<|ax [(0,O a 0),(1,O a 0),(2,O k 0)] Z ?_
 unfold F.Ip at h
 refine R<|V 1 Z<|gl2<|bh (ba (cs:=[K false,.slice none 0 0]) en Z f) Z fun p w f=>V 3 Z ?_
 replace f:=f.nil X
 have n:=f.pick (os':=[Y p [K false,.slice none 0 0],U X (.slice none 0 0) [],Y a [K c,b],U X b d]++[]) [1,0,2,3] (by decide) Z
 refine J h fun t o h=>aG Z (j9 false e c o n.f (m.f (W Z) n) (hBa2.f n)) Z ?_
 rintro _ w ⟨u,q,rfl,s⟩
 have f:=n.g s
 refine gl2<|V 2 Z<|Q<|az ?_
 cases h
 exact ay Z Z ⟨q,Z,f.d [2,3] Z Z⟩
end Go.Proofs
