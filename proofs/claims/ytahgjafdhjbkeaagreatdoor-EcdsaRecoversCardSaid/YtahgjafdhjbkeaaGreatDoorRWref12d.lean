import Derived.Test.YtahgjafdhjbkeaaGreatDoorRW0
import Derived.Test.YtahgjafdhjbkeaaGreatDoorGkFman
import Derived.Test.YtahgjafdhjbkeaaGreatDoorRWref11
import Derived.Test.YtahgjafdhjbkeaaGreatDoorRWref12c
import Derived.Test.YtahgjafdhjbkeaaGreatDoorRWref4
import Derived.Test.YtahgjafdhjbkeaaGreatDoorRWref7
set_option linter.unusedVariables false
set_option linter.unusedSimpArgs false
set_option linter.unusedSectionVars false
set_option maxRecDepth 4000
namespace Go.Proofs
open Go Go.RowKit Go.Gk
open Go.Gk renaming aa -> V, af -> J, ag -> N, ai -> H, e32 -> X, gl3 -> P, gl4 -> R, own -> U, pB -> O, red -> Q, vB -> K, vI -> I
open Nat renaming le_of_ble_eq_true -> W
open Go.Gk.OE renaming bx -> Y
open Go.Gk.Rds renaming cons -> M
theorem kC {E:World} {a2:L1} {a3 a4 u z:L0} {A B C f j:Value} (a0 a1:Int) (m:Bool) {r:L1×L1×Int}
  (h:F.Hz a0 a1 a2 a3 a4 u z m=some r) (hT:TB [] E) (bc:RP [] E e8 A a2) (bd:RP [] E X B a3) (be:RP [] E X C a4) (aE:RP [] E X f u) (aF:RP [] E X j z):Calls Tryz.prog 11 #[I a0,I a1,A,B,C,.agg #[f,j,K m]] E (Ret fun v w=>∃u0 u1:Value,v=.tuple #[u0,u1,I r.2.2]/\St [] E w [U e8 u0 r.1,U e8 u1 r.2.1]):=by
 refine aB 110 Tryz.func11 Z Z Z<|have a:=St.k E;have n:=Fz.k (S:=[]) (w0:=E);?_
 have hTT:TOk [] [] E:=TOk.nil
 have e:Rds [] E [Q X j z,Q X f u,Q X C a4,Q X B a3,Q e8 A a2]:=M (RP.h (W Z) aF) (M (RP.h (W Z) aE) (M (RP.h (W Z) be) (M (RP.h (W Z) bd) (M (RP.h (W Z) bc) (Rds.nil)))))
 have o:Off [] [Q X j z,Q X f u,Q X C a4,Q X B a3,Q e8 A a2]:=Off.emp
 refine ax [(0,I a0),(1,I a1),(2,A),(3,B),(4,C),(5,.agg #[f,j,K m])] Z ?_
 unfold F.Hz at h
 refine R<|bg (cg (cs:=[f,j,K m]) Z Z a) Z fun D w a=>V 3 Z<|gl1<|R<|V 1 Z<|J h fun bL aU h=>bf a Z (ux a0 aU ) Z fun w a=>V 1 Z<|P ?_
 apply gl9 Z h<;>intro h
 ·refine R<|V 3 Z<|gl8 ?_
  cases h
  replace a:=n.st a
  exact dH Z Z Z Z ⟨L3,L3,Z,((a.nil e8).nil e8).d [1,0] Z Z⟩
 refine gl5<|aw<|R<|V 1 Z<|J h fun bO aW h=>bf a Z (fQ a1 aW ) Z fun w a=>V 1 Z<|P ?_
 apply gl9 Z h<;>intro h
 ·refine R<|V 3 Z<|gl8 ?_
  cases h
  replace a:=n.st a
  exact dH Z Z Z Z ⟨L3,L3,Z,((a.nil e8).nil e8).d [1,0] Z Z⟩
 refine gl6<|V 1 Z<|N (aM (us:=[f,j,K m]) u33 Z cR Z (a.p 0 Z Z)) Z<|J h fun bh aX h=>bf a Z (pq a1 m aX ((e.rp 3 Z).b a.fr).rp ((e.rp 4 Z).b a.fr).rp) Z fun w a=>V 1 Z<|gl1 ?_
 refine a8 (r:=r) (fun (g:Bool) L w=>L=[(0,I a0),(1,I a1),(2,A),(3,B),(4,C),(11,O D 0),(43,K g)]/\SfT [] [] E w [Q X j z,Q X f u,Q X C a4,Q X B a3,Q e8 A a2] [Y D [f,j,K m]]) (F.GV a1 a3 a4 u z m a0 a2) ?_ ?_
 rotate_left
 ·intro H
  refine al<|V 3 Z ?_
  cases ae:(!bh)
  case true=>
   have h:=cz h ae
   try simp only[ae]
   exact V 3 Z<|P<|aG (H true _ _ ⟨Z,(SfT.mk' n (e.pick [4,3,2,1,0] Z) (o.pick [4,3,2,1,0] Z) a)⟩ h) Z
  case false=>
   have h:=cA h ae
   try simp only[ae]
   exact bB (t:=40) Z Z (am (k:=2) u33 Z Z nz4 Z) Z<|bB (t:=40) Z Z (au Tryz.underlying4 Z Z (a.q 0 Z 2)) Z<|V 1 Z<|P<|aG (H m _ _ ⟨Z,(SfT.mk' n (e.pick [4,3,2,1,0] Z) (o.pick [4,3,2,1,0] Z) a)⟩ h) Z
 rintro bP L w hJ h
 try dsimp only at hJ
 obtain⟨rfl,⟨bR,bs,n,e,o,a⟩⟩:=hJ
 unfold F.GV at h
 apply gl9 Z h<;>intro h
 ·refine R<|V 3 Z<|gl8 ?_
  cases h
  replace a:=n.st a
  exact dH Z Z Z Z ⟨L3,L3,Z,((a.nil e8).nil e8).d [1,0] Z Z⟩
 refine gl6<|V 1 Z<|J h fun G aH h=>aV a Z (rN a1 aH ) Z fun T w a=>V 1 Z<|gl1 ?_
 refine a8 (r:=r) (fun (g:Bool) L w=>L=[(0,I a0),(1,I a1),(2,A),(3,B),(4,C),(11,O D 0),(16,T),(62,K g)]/\SfT [] [] E w [Q X j z,Q X f u,Q X T G,Q X C a4,Q X B a3,Q e8 A a2] [Y D [f,j,K m]]) (F.F6 a0 a1 a2 a3 a4 u z m G) ?_ ?_
 rotate_left
 ·intro ah
  refine al<|V 2 Z<|J h fun aY aI h=>bf a Z (li  aI ((e.rp 1 Z).b a.fr).rp (a.ro 0 Z).rp) Z fun w a=>V 2 Z ?_
  cases ab:(!aY)
  case true=>
   have h:=cz h ab
   try simp only[ab]
   refine V 12 Z<|P ?_
   replace a:=a.pick (os':=[U X T G]++[Y D [f,j,K m]]) [0,1] (by decide) rfl
   obtain⟨bt,bk,n,e,o,a⟩:=n.frzT hTT e o a
   exact aG (ah true _ _ ⟨Z,(SfT.mk' n (e.pick [4,3,5,2,1,0] Z) (o.pick [4,3,5,2,1,0] Z) a)⟩ h) Z
  case false=>
   have h:=cA h ab
   try simp only[ab]
   refine V 2 Z<|J h fun aZ aJ h=>cw (t:=50) Z Z (by kernel_rfl) Z (li  aJ ((e.rp 2 Z).b a.fr).rp (a.ro 0 Z).rp) Z ?_
   rintro _ w ⟨rfl,ad⟩
   have a:=a.e ad
   refine V 3 Z ?_
   cases ac:(!aZ)
   case true=>
    have h:=cz h ac
    try simp only[ac]
    refine V 6 Z<|P ?_
    replace a:=a.pick (os':=[U X T G]++[Y D [f,j,K m]]) [0,1] (by decide) rfl
    obtain⟨bu,bl,n,e,o,a⟩:=n.frzT hTT e o a
    exact aG (ah true _ _ ⟨Z,(SfT.mk' n (e.pick [4,3,5,2,1,0] Z) (o.pick [4,3,5,2,1,0] Z) a)⟩ h) Z
   case false=>
    have h:=cA h ac
    try simp only[ac]
    refine bB (t:=56) Z Z (aM (us:=[f,j,K m]) u33 Z cR Z (a.p 1 Z Z)) Z<|V 2 Z<|J h fun a5 aK h=>cw (t:=56) Z Z (by kernel_rfl) Z (ub m aK ((e.rp 3 Z).b a.fr).rp ((e.rp 4 Z).b a.fr).rp ((e.rp 1 Z).b a.fr).rp (a.ro 0 Z).rp) Z ?_
    rintro _ w ⟨rfl,ad⟩
    have a:=a.e ad
    refine V 2 Z<|P ?_
    replace a:=a.pick (os':=[U X T G]++[Y D [f,j,K m]]) [0,1] (by decide) rfl
    obtain⟨bv,bm,n,e,o,a⟩:=n.frzT hTT e o a
    exact aG (ah (!a5) _ _ ⟨Z,(SfT.mk' n (e.pick [4,3,5,2,1,0] Z) (o.pick [4,3,5,2,1,0] Z) a)⟩ h) Z
 rintro bw L w hJ h
 try dsimp only at hJ
 obtain⟨rfl,⟨bA,bn,n,e,o,a⟩⟩:=hJ
 unfold F.F6 at h
 apply gl9 Z h<;>intro h
 ·refine R<|V 3 Z<|gl8 ?_
  cases h
  replace a:=n.st a
  exact dH Z Z Z Z ⟨L3,L3,Z,((a.nil e8).nil e8).d [1,0] Z Z⟩
 refine gl6<|V 2 Z<|J h fun an aL h=>eI a Z (ww  aL ((e.rp 1 Z).b a.fr).rp ((e.rp 3 Z).b a.fr).rp) Z fun ao w a=>V 5 Z<|gl2<|V 3 Z<|J h fun ap aN h=>eI a Z (lH  aN ((e.rp 2 Z).b a.fr).rp (a.ro 0 Z).rp ((e.rp 3 Z).b a.fr).rp) Z fun aq w a=>V 5 Z<|gl2<|V 3 Z<|J h fun ar aO h=>aV a Z (pI a0 a1 aO (hT.b (n.st a).fr) ((e.rp 0 Z).b a.fr).rp) Z fun av w a=>V 2 Z<|J h fun az aP h=>eI a Z (lH  aP (a.ro 0 Z).rp (a.ro 2 Z).rp ((e.rp 3 Z).b a.fr).rp) Z fun aA w a=>V 5 Z<|gl2<|V 2 Z<|J h fun aC aQ h=>eI a Z (pv  aQ (RO.nil _ X).rp (a.ro 0 Z).rp ((e.rp 3 Z).b a.fr).rp) Z fun aD w a=>V 5 Z<|gl1 ?_
 replace a:=a.pick (os':=[U X aD aC.1,U X aA az.1,U X av ar,U X aq ap.1,U X ao an.1]++[Y D [f,j,K m]]) [0,1,2,3,4,5] (by decide) rfl
 obtain⟨bC,bo,n,e,o,a⟩:=n.frzT hTT e o a
 refine J h fun p aR h=>J h fun d aS h=>cF (es:=[Q X aD aC.1,Q X aA az.1,Q X av ar,Q X aq ap.1,Q X ao an.1,Q X j z,Q X f u,Q X T G,Q X C a4,Q X B a3,Q e8 A a2]) (os:=[Y D [f,j,K m]]) (fun i=>[5,6,7,8].contains i) (fun i=>if i=5 then some 6 else if i=7 then some 8 else none) (fun i=>if i=8 then [6] else []) (fun i=>[]) (fun i=>[]) (fun i=>if i=8 then [6,7] else []) (fun i=>if i=5 then (fun h v x y=>∃q:Value,∃s:Value,v=.agg #[q,s,K p.2.2]/\x=[U X q p.1,U X s p.2.1]/\y=[]) else if i=6 then (fun h v x y=>∃b:Value,∃c:Value,v=.agg #[b,c,K d.2.2]/\x=[]/\y=[Q X b d.1,Q X c d.2.1]) else if i=7 then (fun h v x y=>∃l:Nat,v=O l 0/\x=[Y l [L3,L3,K false]]/\y=[]) else (fun h v x y=>∃l:Nat,∃b:Value,∃c:Value,h=[(.agg #[b,c,K d.2.2],[],[Q X b d.1,Q X c d.2.1]),(O l 0,[Y l [L3,L3,K false]],[])]/\v=undef/\x=[Y l [b,c,K d.2.2]]/\y=[Q X b d.1,Q X c d.2.1])) (SfT.mk' n e o a) (fun k hk=>rfl) hTT rfl (fun i=>(bZ (by rintro h v x y ⟨_,_,rfl,rfl,rfl⟩; exact bM rfl) (bZ (by rintro h v x y ⟨_,_,rfl,rfl,rfl⟩; exact bM rfl) (bZ (by rintro h v x y ⟨_,rfl,rfl,rfl⟩; exact bM rfl) (by rintro h v x y ⟨_,_,_,_,rfl,rfl,rfl⟩; exact bM rfl))))) bQ (by kernel_rfl) (by kernel_rfl) ?_
 show dZ _ _ _ _ _ _ _ _ _ _ _ _ _ _ _ _ [0,1,2,3,4,5,6,7,8] _ _
 refine bN 3 Z<|bj Z Z (fun w Sb wb n e o hF=>aM (us:=[f,j,K m]) u33 Z cR Z (hF.p 0 Z Z)) Z<|bN 1 Z ?_
 refine bI (fun h v x y=>∃q:Value,∃s:Value,v=.agg #[q,s,K p.2.2]/\x=[U X q p.1,U X s p.2.1]/\y=[]) [] [] [] _ Z Z (fun h v x y=>Z) Z Z Z Z ⟨_,_,_,undef,undef,Z,Z,Z⟩ (by kernel_rfl) Z (fun w Sl Tl n hTT e o a=>?_) Z ?_
 ·refine bG (sG a1 aR ) ?_
  rintro _ w ⟨q,s,rfl,ad⟩
  have a:=a.e ad
  exact⟨_,_,⟨q,s,Z,Z,Z⟩,SfT.mk' n Rds.nil Off.nil a⟩
 rintro v_q x_q y_q ⟨q,s,rfl,rfl,rfl⟩
 refine bI (fun h v x y=>∃b:Value,∃c:Value,v=.agg #[b,c,K d.2.2]/\x=[]/\y=[Q X b d.1,Q X c d.2.1]) [] [U X q p.1,U X s p.2.1] [] _ Z Z (fun h v x y=>Z) Z Z Z Z ⟨_,_,_,undef,undef,Z,Z,Z⟩ (by kernel_rfl) Z (fun w Sl Tl n hTT e o a=>?_) Z ?_
 ·replace a:=a.pick (os':=[U X q p.1,U X s p.2.1]++[Y D [f,j,K m]]) [0,1,2] (by decide) rfl
  obtain⟨n,e,o,a⟩:=n.frzK hTT e o a
  refine bG (rM a1 m p.2.2 aS (n.okT hTT a) (e.i o 7 Z) (e.i o 10 Z) (e.i o 4 Z) (e.i o 5 Z) (e.i o 12 Z) (e.i o 11 Z)) ?_
  rintro _ w ⟨b,c,rfl,ad,bi⟩
  obtain⟨bF,bp,n,e,o,a⟩:=n.l e o a ad bi rfl
  exact⟨_,_,⟨b,c,Z,Z,Z⟩,SfT.mk' n (e.pick [13,14] Z) (o.pick [13,14] Z) a⟩
 rintro v_q x_q y_q ⟨b,c,rfl,rfl,rfl⟩
 refine eP (fun h v x y=>∃l:Nat,v=O l 0/\x=[Y l [L3,L3,K false]]/\y=[]) [] [] [] _ Z Z (fun h v x y=>Z) Z Z Z Z ⟨_,_,_,0,Z,Z,Z⟩ (fun w Sl Tl n hTT e o a=>?_) Z ?_
 ·refine iV (bb (cs:=[L3,L3,K false]) mY Z a) ?_
  rintro _ w ⟨l,rfl,a⟩
  exact⟨_,_,⟨l,Z,Z,Z⟩,SfT.mk' n Rds.nil Off.nil a⟩
 rintro v_q x_q y_q ⟨l,rfl,rfl,rfl⟩
 refine j1 (fun h v x y=>∃l:Nat,∃b:Value,∃c:Value,h=[(.agg #[b,c,K d.2.2],[],[Q X b d.1,Q X c d.2.1]),(O l 0,[Y l [L3,L3,K false]],[])]/\v=undef/\x=[Y l [b,c,K d.2.2]]/\y=[Q X b d.1,Q X c d.2.1]) [(.agg #[b,c,K d.2.2],[],[Q X b d.1,Q X c d.2.1]),(O l 0,[Y l [L3,L3,K false]],[])] [Y l [L3,L3,K false]] [Q X b d.1,Q X c d.2.1] _ Z Z (fun h v x y=>Z) Z Z Z Z ⟨_,_,_,l,b,c,Z,Z,Z,Z⟩ (fun w Sl Tl n hTT e o a=>?_) ?_
 ·refine i6 (bz (i:=0) (us:=[b,c,K d.2.2]) Z cR Z Z Z ⟨((e.rp 12 Z).b a.fr).one,((e.rp 11 Z).b a.fr).one,Z,trivial⟩ Z a) ?_
  intro w a
  exact⟨_,_,⟨l,b,c,Z,Z,Z,Z⟩,SfT.mk' n (e.pick [12,11] Z) (o.pick [12,11] Z) a⟩
 rintro v_q x_q y_q ⟨b_57',u0_52_0',u0_52_1',hh,rfl,rfl,rfl⟩
 replace hh:([(.agg #[b,c,K d.2.2],[],[Q X b d.1,Q X c d.2.1]),(O l 0,[Y l [L3,L3,K false]],[])]:List Th)=[(.agg #[u0_52_0',u0_52_1',K d.2.2],[],[Q X u0_52_0' d.1,Q X u0_52_1' d.2.1]),(O b_57' 0,[Y b_57' [L3,L3,K false]],[])]:=hh
 cases hh
 refine dv fun w hQ=>?_
 obtain⟨bJ,bq,n,e,o,a⟩:=hQ
 refine ak<|aw<|R<|N (am (k:=2) u33 Z Z nz4 Z) Z<|N (au Tryz.underlying4 Z Z (a.q 0 Z 2)) Z<|P ?_
 apply gl9 Z h<;>intro h
 ·refine R<|V 3 Z<|gl8 ?_
  cases h
  replace a:=n.st a
  exact dH Z Z Z Z ⟨L3,L3,Z,((a.nil e8).nil e8).d [1,0] Z Z⟩
 refine gl6<|V 1 Z<|N (aM (us:=[b,c,K d.2.2]) u33 Z cR Z (a.p 0 Z Z)) Z<|J h fun bK aT h=>bE a Z (qU a1 d.2.2 aT ((e.rp 12 Z).b a.fr).rp ((e.rp 11 Z).b a.fr).rp) Z fun a9 ba w a=>V 7 Z<|gl2<|V 5 Z<|P<|ay ?_
 cases h
 replace a:=n.st a
 exact dH Z Z Z Z ⟨a9,ba,Z,a.d [0,1] Z Z⟩
end Go.Proofs
