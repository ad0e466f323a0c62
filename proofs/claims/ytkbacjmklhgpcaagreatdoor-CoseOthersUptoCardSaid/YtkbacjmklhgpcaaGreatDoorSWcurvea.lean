import Derived.Test.YtkbacjmklhgpcaaGreatDoorSW0
import Derived.Test.YtkbacjmklhgpcaaGreatDoorSAw
import Derived.Test.YtkbacjmklhgpcaaGreatDoorQGkFman
import Derived.Test.YtkbacjmklhgpcaaGreatDoorSWbignumc
import Derived.Test.YtkbacjmklhgpcaaGreatDoorSWnatb
set_option linter.unusedVariables false
set_option linter.unusedSimpArgs false
set_option linter.unusedSectionVars false
set_option maxRecDepth 20000
set_option maxHeartbeats 20000000
namespace Go.Proofs
open Go Go.RowKit Go.Gk
open Go.Gk renaming RP -> O, Ret -> N, ar -> J, e32 -> X, e8 -> K, own -> W, pB -> Q, red -> P, vB -> U, vI -> V
open Go.Gk.OE renaming bx -> Y
open Go.Gk.Rds renaming cons -> R
theorem xp {j:World} (a0:L01) {r:Bool×L00}
  (h:F.S5 a0=some r) :Calls Tryz.prog 180 #[vS a0] j (N fun v w=>∃f:Value,∃un0:Nat,v=Q un0 0/\St [] j w [Y un0 [U r.1,f],W X f r.2]):=by
 refine ca1 12 Tryz.func180 Z Z Z<|have hS:=St.r j;?_
 unfold F.S5 at h
 exact wk
theorem AY {B:World} {T:L02} {r:Bool×L00×Bool×L00×Bool×L00×Bool×L00×Bool×L00×Int}
  (h:F.XS =some r) (hTT:TOk [] T B):Calls Tryz.prog 141 #[] B (N fun v w=>∃b0:Nat,∃C:Nat,∃f:Value,∃D:Nat,∃j:Value,∃E:Nat,∃p:Value,∃G:Nat,∃u:Value,∃aa:Nat,∃A:Value,v=Q b0 0/\St [] B w []/\Rds T w [Y b0 [Q C 0,Q D 0,Q E 0,Q G 0,Q aa 0,V r.2.2.2.2.2.2.2.2.2.2,.func (.func 181) #[] #[]],Y aa [U r.2.2.2.2.2.2.2.2.1,A],P X A r.2.2.2.2.2.2.2.2.2.1,Y G [U r.2.2.2.2.2.2.1,u],P X u r.2.2.2.2.2.2.2.1,Y E [U r.2.2.2.2.1,p],P X p r.2.2.2.2.2.1,Y D [U r.2.2.1,j],P X j r.2.2.2.1,Y C [U r.1,f],P X f r.2.1]):=by
 refine dN 8 Tryz.func141 Z Z Z<|have hS:=St.r B;have hZ:=Fz.r (S:=[]) (w0:=B);?_
 have hA0:Rds T B []:=Rds.nil
 have hA:=hA0.all
 have hP:=hA0.off Z
 refine km [] trivial ?_
 unfold F.XS at h
 exact wk
theorem Cy {B:World} {T:L02} {r:Bool×L00×Bool×L00×Bool×L00×Bool×L00×Bool×L00×Int}
  (h:F.Zr =some r) (hTT:TOk [] T B):Calls Tryz.prog 142 #[] B (N fun v w=>∃b0:Nat,∃C:Nat,∃f:Value,∃D:Nat,∃j:Value,∃E:Nat,∃p:Value,∃G:Nat,∃u:Value,∃aa:Nat,∃A:Value,v=Q b0 0/\St [] B w []/\Rds T w [Y b0 [Q C 0,Q D 0,Q E 0,Q G 0,Q aa 0,V r.2.2.2.2.2.2.2.2.2.2,.func (.func 181) #[] #[]],Y aa [U r.2.2.2.2.2.2.2.2.1,A],P X A r.2.2.2.2.2.2.2.2.2.1,Y G [U r.2.2.2.2.2.2.1,u],P X u r.2.2.2.2.2.2.2.1,Y E [U r.2.2.2.2.1,p],P X p r.2.2.2.2.2.1,Y D [U r.2.2.1,j],P X j r.2.2.2.1,Y C [U r.1,f],P X f r.2.1]):=by
 refine dN 8 Tryz.func142 Z Z Z<|have hS:=St.r B;have hZ:=Fz.r (S:=[]) (w0:=B);?_
 have hA0:Rds T B []:=Rds.nil
 have hA:=hA0.all
 have hP:=hA0.off Z
 refine km [] trivial ?_
 unfold F.Zr at h
 exact wk
theorem EM {f:World} {T:L02} (a0:Int) {r:Option (Bool×L00×Bool×L00×Bool×L00×Bool×L00×Bool×L00×Int)}
  (h:F.UT a0=some r) (hTT:TOk [] T f):Calls Tryz.prog 108 #[V a0] f (N fun v w=>sM r (v=.pointer none/\St [] f w []) (fun c=>∃b0:Nat,∃C:Nat,∃j:Value,∃D:Nat,∃p:Value,∃E:Nat,∃u:Value,∃G:Nat,∃A:Value,∃aa:Nat,∃B:Value,v=Q b0 0/\St [] f w []/\Rds T w [Y b0 [Q C 0,Q D 0,Q E 0,Q G 0,Q aa 0,V c.2.2.2.2.2.2.2.2.2.2,.func (.func 181) #[] #[]],Y aa [U c.2.2.2.2.2.2.2.2.1,B],P X B c.2.2.2.2.2.2.2.2.2.1,Y G [U c.2.2.2.2.2.2.1,A],P X A c.2.2.2.2.2.2.2.1,Y E [U c.2.2.2.2.1,u],P X u c.2.2.2.2.2.1,Y D [U c.2.2.1,p],P X p c.2.2.2.1,Y C [U c.1,j],P X j c.2.1])):=by
 refine ca1 10 Tryz.func108 Z Z Z<|have hS:=St.r f;have hZ:=Fz.r (S:=[]) (w0:=f);?_
 have hA0:Rds T f []:=Rds.nil
 have hA:=hA0.all
 have hP:=hA0.off Z
 unfold F.UT at h
 exact wk
theorem mj {f:World} {C D E G T am:L00} {j p u A B af:Value} {J ag ah ai aj ak al:Nat} {S:L02} (aa ab ac ad ae:Bool) (an:Int) (ap:Bool) {r:Bool×L00}
  (h:F.Uh aa C ab D ac E ad G ae T an ap am=some r) (hS:St S f f [Y al [U ap,af],W X af am]) (au:O S f X j C) (aA:RB S f ag [U aa,j]) (av:O S f X p D) (aC:RB S f ah [U ab,p]) (ax:O S f X u E) (aD:RB S f ai [U ac,u]) (ay:O S f X A G) (aE:RB S f aj [U ad,A]) (az:O S f X B T) (aF:RB S f ak [U ae,B]) (hBa0:RB S f J [Q ag 0,Q ah 0,Q ai 0,Q aj 0,Q ak 0,V an,.func (.func 181) #[] #[]]):Calls Tryz.prog 146 #[Q J 0,Q al 0] f (N fun v w=>∃aq:Value,v=Q al 0/\St S f w [Y al [U r.1,aq],W X aq r.2]):=by
 refine ca2 12 Tryz.func146 Z Z Z ?_
 unfold F.Uh at h
 exact wk
theorem gE {f:World} {C D E G S al am:L00} {j p u A B ae af:Value} {au ag ah ai aj ak av ax:Nat} (T aa ab ac ad:Bool) (an:Int) (ap aq:Bool) {r:Bool×L00}
  (h:F.SY T C aa D ab E ac G ad S an ap al aq am=some r) (ay:O [] f X j C) (aE:RB [] f ag [U T,j]) (az:O [] f X p D) (aF:RB [] f ah [U aa,p]) (aA:O [] f X u E) (aG:RB [] f ai [U ab,u]) (aC:O [] f X A G) (aJ:RB [] f aj [U ac,A]) (aD:O [] f X B S) (aK:RB [] f ak [U ad,B]) (hBa0:RB [] f au [Q ag 0,Q ah 0,Q ai 0,Q aj 0,Q ak 0,V an,.func (.func 181) #[] #[]]) (aL:O [] f X ae al) (hBa1:RB [] f av [U ap,ae]) (aM:O [] f X af am) (hBa2:RB [] f ax [U aq,af]):Calls Tryz.prog 143 #[Q au 0,Q av 0,Q ax 0] f (N fun v w=>∃J:Value,∃un0:Nat,v=Q un0 0/\St [] f w [Y un0 [U r.1,J],W X J r.2]):=by
 refine ca3 13 Tryz.func143 Z Z Z<|have hS:=St.r f;?_
 unfold F.SY at h
 exact wk
theorem f8 {f:World} {C D E G S ak:L00} {j p u A B ae:Value} {ap af ag ah ai aj aq:Nat} (T aa ab ac ad:Bool) (al a1:Int) (am:Bool) {r:Bool×L00}
  (h:F.TP T C aa D ab E ac G ad S al a1 am ak=some r) (J:O [] f X j C) (az:RB [] f af [U T,j]) (au:O [] f X p D) (aA:RB [] f ag [U aa,p]) (av:O [] f X u E) (aC:RB [] f ah [U ab,u]) (ax:O [] f X A G) (aD:RB [] f ai [U ac,A]) (ay:O [] f X B S) (aE:RB [] f aj [U ad,B]) (hBa0:RB [] f ap [Q af 0,Q ag 0,Q ah 0,Q ai 0,Q aj 0,V al,.func (.func 181) #[] #[]]) (aF:O [] f X ae ak) (hBa2:RB [] f aq [U am,ae]):Calls Tryz.prog 145 #[Q ap 0,V a1,Q aq 0] f (N fun v w=>∃an:Value,∃un0:Nat,v=Q un0 0/\St [] f w [Y un0 [U r.1,an],W X an r.2]):=by
 refine ca3 12 Tryz.func145 Z Z Z<|have hS:=St.r f;?_
 unfold F.TP at h
 exact wk
theorem gD {f:World} {C D E G S al am:L00} {j p u A B ae af:Value} {au ag ah ai aj ak av ax:Nat} (T aa ab ac ad:Bool) (an:Int) (ap aq:Bool) {r:Bool×L00}
  (h:F.Tt T C aa D ab E ac G ad S an ap al aq am=some r) (ay:O [] f X j C) (aE:RB [] f ag [U T,j]) (az:O [] f X p D) (aF:RB [] f ah [U aa,p]) (aA:O [] f X u E) (aG:RB [] f ai [U ab,u]) (aC:O [] f X A G) (aJ:RB [] f aj [U ac,A]) (aD:O [] f X B S) (aK:RB [] f ak [U ad,B]) (hBa0:RB [] f au [Q ag 0,Q ah 0,Q ai 0,Q aj 0,Q ak 0,V an,.func (.func 181) #[] #[]]) (aL:O [] f X ae al) (hBa1:RB [] f av [U ap,ae]) (aM:O [] f X af am) (hBa2:RB [] f ax [U aq,af]):Calls Tryz.prog 144 #[Q au 0,Q av 0,Q ax 0] f (N fun v w=>∃J:Value,∃un0:Nat,v=Q un0 0/\St [] f w [Y un0 [U r.1,J],W X J r.2]):=by
 refine ca3 13 Tryz.func144 Z Z Z<|have hS:=St.r f;?_
 unfold F.Tt at h
 exact wk
theorem uo {f:World} {C D E G S al am:L00} {j p u A B ae af:Value} {J ag ah ai aj ak au av:Nat} (T aa ab ac ad:Bool) (an:Int) (ap aq:Bool) {r:Bool}
  (h:F.VT T C aa D ab E ac G ad S an ap al aq am=some r) (ax:O [] f X j C) (aD:RB [] f ag [U T,j]) (ay:O [] f X p D) (aE:RB [] f ah [U aa,p]) (az:O [] f X u E) (aF:RB [] f ai [U ab,u]) (aA:O [] f X A G) (aG:RB [] f aj [U ac,A]) (aC:O [] f X B S) (aJ:RB [] f ak [U ad,B]) (hBa0:RB [] f J [Q ag 0,Q ah 0,Q ai 0,Q aj 0,Q ak 0,V an,.func (.func 181) #[] #[]]) (aK:O [] f X ae al) (hBa1:RB [] f au [U ap,ae]) (aL:O [] f X af am) (hBa2:RB [] f av [U aq,af]):Calls Tryz.prog 109 #[Q J 0,Q au 0,Q av 0] f (N fun v w=>v=U r/\St [] f w []):=by
 refine ca3 55 Tryz.func109 Z Z Z<|have hS:=St.r f;?_
 unfold F.VT at h
 exact wk
theorem wX {f:World} {a1 a2:L01} {j p:Value} (a0:Int) {r:L00×L00×Bool×Int}
  (h:F.Xh a0 a1 a2=some r) (C:O [] f K j a1) (D:O [] f K p a2):Calls Tryz.prog 61 #[V a0,j,p] f (N fun v w=>∃A B:Value,v=.tuple #[.agg #[A,B,U r.2.2.1],V r.2.2.2]/\St [] f w [W X A r.1,W X B r.2.1]):=by
 refine ca3 48 Tryz.func61 Z Z Z<|have hS:=St.r f;have hZ:=Fz.r (S:=[]) (w0:=f);?_
 have hTT:TOk [] [] f:=TOk.nil
 have hA:Rds [] f [P K p a2,P K j a1]:=R (O.q (ao Z) D) (R (O.q (ao Z) C) (Rds.nil))
 have hP:Off [] [P K p a2,P K j a1]:=Off.emp
 unfold F.Xh at h
 let z1:=fun u=>mkZ 4 (F.WR a1 a2) (fun g L w=>L=[(1,j),(2,p),(6,Q u 0),(41,U g)]/\SfT [] [] f w [P K p a2,P K j a1] [Y u [L03,L03,U false]]) [(6,Q u 0)] [Y u [L03,L03,U false]] []
 exact wk
theorem Ab {f:World} (a0:Int) {r:Int}
  (h:F.Wn a0=some r) :Calls Tryz.prog 62 #[V a0] f (N fun v w=>v=V r/\St [] f w []):=by
 refine ca1 12 Tryz.func62 Z Z Z<|have hS:=St.r f;have hZ:=Fz.r (S:=[]) (w0:=f);?_
 have hTT:TOk [] [] f:=TOk.nil
 have hA:Rds [] f []:=Rds.nil
 have hP:Off [] []:=Off.emp
 unfold F.Wn at h
 exact wk
theorem CM {j:World} {p:L00} {f:Value} {A:Nat} (u:Bool) {r:L00}
  (h:F.Uo u p=some r) (B:O [] j X f p) (hBa0:RB [] j A [U u,f]):Calls Tryz.prog 111 #[Q A 0] j (N fun v w=>St [] j w [W X v r]):=by
 refine ca1 6 Tryz.func111 Z Z Z<|have hS:=St.r j;?_
 unfold F.Uo at h
 exact wk
theorem y8 {f:World} (a0:Int) {r:L00}
  (h:F.Zj a0=some r) :Calls Tryz.prog 63 #[V a0] f (N fun v w=>St [] f w [W X v r]):=by
 refine ca1 13 Tryz.func63 Z Z Z<|have hS:=St.r f;have hZ:=Fz.r (S:=[]) (w0:=f);?_
 have hTT:TOk [] [] f:=TOk.nil
 have hA:Rds [] f []:=Rds.nil
 have hP:Off [] []:=Off.emp
 unfold F.Zj at h
 exact wk
theorem F0 {j:World} {a0:L00} {p:Value} {r:Bool×L00}
  (h:F.Vl a0=some r) (u:O [] j X p a0):Calls Tryz.prog 159 #[p] j (N fun v w=>∃f:Value,∃un0:Nat,v=Q un0 0/\St [] j w [Y un0 [U r.1,f],W X f r.2]):=by
 refine ca1 7 Tryz.func159 Z Z Z<|have hS:=St.r j;?_
 unfold F.Vl at h
 exact wk
theorem uh {C:World}  {r:Bool×L00×Bool×L00×Bool×L00}
  (h:F.T8 =some r) :Calls Tryz.prog 118 #[] C (N fun v w=>∃f j p:Value,∃u A B:Nat,v=.agg #[Q u 0,Q A 0,Q B 0]/\St [] C w [Y u [U r.1,f],W X f r.2.1,Y A [U r.2.2.1,j],W X j r.2.2.2.1,Y B [U r.2.2.2.2.1,p],W X p r.2.2.2.2.2]):=by
 refine dN 5 Tryz.func118 Z Z Z<|have hS:=St.r C;km [] trivial ?_
 unfold F.T8 at h
 exact wk
theorem r9 {f:World} {ab ac ad ae af J au:L00} {j p u A B al am:Value} {aD C D E G aa:Nat} {T:L02} (ag ah ai aj ak:Bool) (av:Int) (aE:Bool) {r:Bool×L00×Bool×L00×Bool×L00×Bool}
  (h:F.WO ag ab ah ac ai ad aj ae ak af av J au aE=some r) (hTT:TOk [] T f) (ax:O T f X j ab) (aF:RB T f C [U ag,j]) (ay:O T f X p ac) (aG:RB T f D [U ah,p]) (az:O T f X u ad) (aJ:RB T f E [U ai,u]) (aA:O T f X A ae) (aK:RB T f G [U aj,A]) (aC:O T f X B af) (aL:RB T f aa [U ak,B]) (hBa0:RB T f aD [Q C 0,Q D 0,Q E 0,Q G 0,Q aa 0,V av,.func (.func 181) #[] #[]]) (aP:O T f X al J) (aR:O T f X am au):Calls Tryz.prog 158 #[Q aD 0,.agg #[al,am,U aE]] f (N fun v w=>∃aM:Nat,∃an:Value,∃aN:Nat,∃ap:Value,∃aO:Nat,∃aq:Value,v=.tuple #[.agg #[Q aM 0,Q aN 0,Q aO 0],U r.2.2.2.2.2.2]/\St [] f w []/\Rds T w [Y aO [U r.2.2.2.2.1,aq],P X aq r.2.2.2.2.2.1,Y aN [U r.2.2.1,ap],P X ap r.2.2.2.1,Y aM [U r.1,an],P X an r.2.1]):=by
 refine ca2 33 Tryz.func158 Z Z Z<|have hS:=St.r f;have hZ:=Fz.r (S:=[]) (w0:=f);?_
 have hA0:Rds T f [P X am au,P X al J,Y aD [Q C 0,Q D 0,Q E 0,Q G 0,Q aa 0,V av,.func (.func 181) #[] #[]],Y aa [U ak,B],P X B af,Y G [U aj,A],P X A ae,Y E [U ai,u],P X u ad,Y D [U ah,p],P X p ac,Y C [U ag,j],P X j ab]:=R (O.q (ao Z) aR) (R (O.q (ao Z) aP) (R hBa0.q (R aL.q (R (O.q (ao Z) aC) (R aK.q (R (O.q (ao Z) aA) (R aJ.q (R (O.q (ao Z) az) (R aG.q (R (O.q (ao Z) ay) (R aF.q (R (O.q (ao Z) ax) (Rds.nil)))))))))))))
 have hA:=hA0.all
 have hP:=hA0.off Z
 unfold F.WO at h
 exact wk
theorem BV {f:World} {ab ac:L00} {j p:Value} {T:L02} (a0:Int) (ad:Bool) {r:Option (Bool×L00×Bool×L00×Bool×L00×Bool×L00×Bool×L00×Int×Bool×L00×Bool×L00×Bool×L00)×Bool}
  (h:F.Y0 a0 ab ac ad=some r) (hTT:TOk [] T f) (am:O T f X j ab) (an:O T f X p ac):Calls Tryz.prog 114 #[V a0,.agg #[j,p,U ad]] f (N fun v w=>sM r.1 (v=.tuple #[.pointer none,.agg #[.pointer none,.pointer none,.pointer none],U r.2]/\St [] f w []) (fun c=>∃b0:Nat,∃ae:Nat,∃u:Value,∃af:Nat,∃A:Value,∃ag:Nat,∃B:Value,∃ah:Nat,∃C:Value,∃ai:Nat,∃D:Value,∃aj:Nat,∃E:Value,∃ak:Nat,∃G:Value,∃al:Nat,∃aa:Value,v=.tuple #[Q b0 0,.agg #[Q aj 0,Q ak 0,Q al 0],U r.2]/\St [] f w []/\Rds T w [Y al [U c.2.2.2.2.2.2.2.2.2.2.2.2.2.2.2.1,aa],P X aa c.2.2.2.2.2.2.2.2.2.2.2.2.2.2.2.2,Y ak [U c.2.2.2.2.2.2.2.2.2.2.2.2.2.1,G],P X G c.2.2.2.2.2.2.2.2.2.2.2.2.2.2.1,Y aj [U c.2.2.2.2.2.2.2.2.2.2.2.1,E],P X E c.2.2.2.2.2.2.2.2.2.2.2.2.1,Y b0 [Q ae 0,Q af 0,Q ag 0,Q ah 0,Q ai 0,V c.2.2.2.2.2.2.2.2.2.2.1,.func (.func 181) #[] #[]],Y ai [U c.2.2.2.2.2.2.2.2.1,D],P X D c.2.2.2.2.2.2.2.2.2.1,Y ah [U c.2.2.2.2.2.2.1,C],P X C c.2.2.2.2.2.2.2.1,Y ag [U c.2.2.2.2.1,B],P X B c.2.2.2.2.2.1,Y af [U c.2.2.1,A],P X A c.2.2.2.1,Y ae [U c.1,u],P X u c.2.1])):=by
 refine ca2 24 Tryz.func114 Z Z Z<|have hS:=St.r f;have hZ:=Fz.r (S:=[]) (w0:=f);?_
 have hA0:Rds T f [P X p ac,P X j ab]:=R (O.q (ao Z) an) (R (O.q (ao Z) am) (Rds.nil))
 have hA:=hA0.all
 have hP:=hA0.off Z
 unfold F.Y0 at h
 have cf:Cf 1:=trivial
 exact wk
theorem wV {f:World} {a0:L00} {j:Value} {r:Bool×L00×Bool}
  (h:F.U3 a0=some r) (u:O [] f X j a0):Calls Tryz.prog 115 #[j] f (N fun v w=>∃p:Value,∃un0:Nat,v=.tuple #[Q un0 0,U r.2.2]/\St [] f w [Y un0 [U r.1,p],W X p r.2.1]):=by
 refine ca1 9 Tryz.func115 Z Z Z<|have hS:=St.r f;have hZ:=Fz.r (S:=[]) (w0:=f);?_
 have hTT:TOk [] [] f:=TOk.nil
 have hA:Rds [] f [P X j a0]:=R (O.q (ao Z) u) (Rds.nil)
 have hP:Off [] [P X j a0]:=Off.emp
 unfold F.U3 at h
 exact wk
end Go.Proofs
