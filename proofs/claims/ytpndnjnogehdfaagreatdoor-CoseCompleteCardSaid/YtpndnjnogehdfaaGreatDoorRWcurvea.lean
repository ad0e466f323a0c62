import Derived.Test.YtpndnjnogehdfaaGreatDoorRW0
import Derived.Test.YtpndnjnogehdfaaGreatDoorRAw
import Derived.Test.YtpndnjnogehdfaaGreatDoorGkFman
import Derived.Test.YtpndnjnogehdfaaGreatDoorRWbignumc
import Derived.Test.YtpndnjnogehdfaaGreatDoorRWnatb
set_option linter.unusedVariables false
set_option linter.unusedSimpArgs false
set_option linter.unusedSectionVars false
set_option maxRecDepth 20000
set_option maxHeartbeats 20000000
namespace Go.Proofs
open Go Go.RowKit Go.Gk
open Go.Gk renaming RP -> N, Rds -> I, Ret -> K, al -> O, e32 -> X, own -> W, pB -> R, red -> P, vB -> V, vI -> U
open Go.Gk.OE renaming bx -> Y
open Go.Gk.Rds renaming cons -> Q
theorem wx {j:World} (a0:Y3) {r:Bool×Y0}
  (h:F.QP a0=some r) :Calls Tryz.prog 140 #[vS a0] j (K fun v w=>∃f:Value,∃un0:Nat,v=R un0 0/\St [] j w [Y un0 [V r.1,f],W X f r.2]):=by
 refine ca1 12 Tryz.func140 Z Z Z<|have hS:=St.q j;?_
 unfold F.QP at h
 exact wk
theorem z7 {B:World} {T:Y4} {r:Bool×Y0×Bool×Y0×Bool×Y0×Bool×Y0×Bool×Y0×Int}
  (h:F.U4 =some r) (hTT:TOk [] T B):Calls Tryz.prog 94 #[] B (K fun v w=>∃b0:Nat,∃C:Nat,∃f:Value,∃D:Nat,∃j:Value,∃E:Nat,∃p:Value,∃G:Nat,∃u:Value,∃aa:Nat,∃A:Value,v=R b0 0/\St [] B w []/\I T w [Y b0 [R C 0,R D 0,R E 0,R G 0,R aa 0,U r.2.2.2.2.2.2.2.2.2.2,.func (.func 141) #[] #[]],Y aa [V r.2.2.2.2.2.2.2.2.1,A],P X A r.2.2.2.2.2.2.2.2.2.1,Y G [V r.2.2.2.2.2.2.1,u],P X u r.2.2.2.2.2.2.2.1,Y E [V r.2.2.2.2.1,p],P X p r.2.2.2.2.2.1,Y D [V r.2.2.1,j],P X j r.2.2.2.1,Y C [V r.1,f],P X f r.2.1]):=by
 refine eZ 8 Tryz.func94 Z Z Z<|have hS:=St.q B;have hZ:=Fz.q (S:=[]) (w0:=B);?_
 have hA0:I T B []:=I.nil
 have hA:=hA0.all
 have hP:=hA0.off Z
 refine lL [] trivial ?_
 unfold F.U4 at h
 exact wk
theorem Br {B:World} {T:Y4} {r:Bool×Y0×Bool×Y0×Bool×Y0×Bool×Y0×Bool×Y0×Int}
  (h:F.Wq =some r) (hTT:TOk [] T B):Calls Tryz.prog 95 #[] B (K fun v w=>∃b0:Nat,∃C:Nat,∃f:Value,∃D:Nat,∃j:Value,∃E:Nat,∃p:Value,∃G:Nat,∃u:Value,∃aa:Nat,∃A:Value,v=R b0 0/\St [] B w []/\I T w [Y b0 [R C 0,R D 0,R E 0,R G 0,R aa 0,U r.2.2.2.2.2.2.2.2.2.2,.func (.func 141) #[] #[]],Y aa [V r.2.2.2.2.2.2.2.2.1,A],P X A r.2.2.2.2.2.2.2.2.2.1,Y G [V r.2.2.2.2.2.2.1,u],P X u r.2.2.2.2.2.2.2.1,Y E [V r.2.2.2.2.1,p],P X p r.2.2.2.2.2.1,Y D [V r.2.2.1,j],P X j r.2.2.2.1,Y C [V r.1,f],P X f r.2.1]):=by
 refine eZ 8 Tryz.func95 Z Z Z<|have hS:=St.q B;have hZ:=Fz.q (S:=[]) (w0:=B);?_
 have hA0:I T B []:=I.nil
 have hA:=hA0.all
 have hP:=hA0.off Z
 refine lL [] trivial ?_
 unfold F.Wq at h
 exact wk
theorem DA {f:World} {T:Y4} (a0:Int) {r:Option (Bool×Y0×Bool×Y0×Bool×Y0×Bool×Y0×Bool×Y0×Int)}
  (h:F.Sm a0=some r) (hTT:TOk [] T f):Calls Tryz.prog 53 #[U a0] f (K fun v w=>oO r (v=.pointer none/\St [] f w []) (fun c=>∃b0:Nat,∃C:Nat,∃j:Value,∃D:Nat,∃p:Value,∃E:Nat,∃u:Value,∃G:Nat,∃A:Value,∃aa:Nat,∃B:Value,v=R b0 0/\St [] f w []/\I T w [Y b0 [R C 0,R D 0,R E 0,R G 0,R aa 0,U c.2.2.2.2.2.2.2.2.2.2,.func (.func 141) #[] #[]],Y aa [V c.2.2.2.2.2.2.2.2.1,B],P X B c.2.2.2.2.2.2.2.2.2.1,Y G [V c.2.2.2.2.2.2.1,A],P X A c.2.2.2.2.2.2.2.1,Y E [V c.2.2.2.2.1,u],P X u c.2.2.2.2.2.1,Y D [V c.2.2.1,p],P X p c.2.2.2.1,Y C [V c.1,j],P X j c.2.1])):=by
 refine ca1 10 Tryz.func53 Z Z Z<|have hS:=St.q f;have hZ:=Fz.q (S:=[]) (w0:=f);?_
 have hA0:I T f []:=I.nil
 have hA:=hA0.all
 have hP:=hA0.off Z
 unfold F.Sm at h
 exact wk
theorem zb {f:World} (a0:Int) {r:Int}
  (h:F.SS a0=some r) :Calls Tryz.prog 23 #[U a0] f (K fun v w=>v=U r/\St [] f w []):=by
 refine ca1 12 Tryz.func23 Z Z Z<|have hS:=St.q f;have hZ:=Fz.q (S:=[]) (w0:=f);?_
 have hTT:TOk [] [] f:=TOk.nil
 have hA:I [] f []:=I.nil
 have hP:Off [] []:=Off.emp
 unfold F.SS at h
 exact wk
theorem EJ {j:World} {a0:Y0} {p:Value} {r:Bool×Y0}
  (h:F.SX a0=some r) (u:N [] j X p a0):Calls Tryz.prog 109 #[p] j (K fun v w=>∃f:Value,∃un0:Nat,v=R un0 0/\St [] j w [Y un0 [V r.1,f],W X f r.2]):=by
 refine ca1 7 Tryz.func109 Z Z Z<|have hS:=St.q j;?_
 unfold F.SX at h
 exact wk
theorem tt {C:World}  {r:Bool×Y0×Bool×Y0×Bool×Y0}
  (h:F.Ry =some r) :Calls Tryz.prog 70 #[] C (K fun v w=>∃f j p:Value,∃u A B:Nat,v=.agg #[R u 0,R A 0,R B 0]/\St [] C w [Y u [V r.1,f],W X f r.2.1,Y A [V r.2.2.1,j],W X j r.2.2.2.1,Y B [V r.2.2.2.2.1,p],W X p r.2.2.2.2.2]):=by
 refine eZ 5 Tryz.func70 Z Z Z<|have hS:=St.q C;lL [] trivial ?_
 unfold F.Ry at h
 exact wk
theorem lF {f:World} {C D E G T am:Y0} {j p u A B af:Value} {ar ag ah ai aj ak O:Nat} {S:Y4} (aa ab ac ad ae:Bool) (ao:Int) (ap:Bool) {r:Bool×Y0}
  (h:F.RJ aa C ab D ac E ad G ae T ao ap am=some r) (hS:St S f f [Y O [V ap,af],W X af am]) (au:N S f X j C) (aA:RB S f ag [V aa,j]) (aw:N S f X p D) (aC:RB S f ah [V ab,p]) (ax:N S f X u E) (aD:RB S f ai [V ac,u]) (ay:N S f X A G) (aE:RB S f aj [V ad,A]) (az:N S f X B T) (aF:RB S f ak [V ae,B]) (hBa0:RB S f ar [R ag 0,R ah 0,R ai 0,R aj 0,R ak 0,U ao,.func (.func 141) #[] #[]]):Calls Tryz.prog 156 #[R ar 0,R O 0] f (K fun v w=>∃aq:Value,v=R O 0/\St S f w [Y O [V r.1,aq],W X aq r.2]):=by
 refine ca2 12 Tryz.func156 Z Z Z ?_
 unfold F.RJ at h
 exact wk
theorem i9 {f:World} {C D E G S O am:Y0} {j p u A B ae af:Value} {au ag ah ai aj ak aw ax:Nat} (T aa ab ac ad:Bool) (ao:Int) (ap aq:Bool) {r:Bool×Y0}
  (h:F.QJ T C aa D ab E ac G ad S ao ap O aq am=some r) (ay:N [] f X j C) (aE:RB [] f ag [V T,j]) (az:N [] f X p D) (aF:RB [] f ah [V aa,p]) (aA:N [] f X u E) (aG:RB [] f ai [V ab,u]) (aC:N [] f X A G) (aJ:RB [] f aj [V ac,A]) (aD:N [] f X B S) (aK:RB [] f ak [V ad,B]) (hBa0:RB [] f au [R ag 0,R ah 0,R ai 0,R aj 0,R ak 0,U ao,.func (.func 141) #[] #[]]) (aL:N [] f X ae O) (hBa1:RB [] f aw [V ap,ae]) (aM:N [] f X af am) (hBa2:RB [] f ax [V aq,af]):Calls Tryz.prog 111 #[R au 0,R aw 0,R ax 0] f (K fun v w=>∃ar:Value,∃un0:Nat,v=R un0 0/\St [] f w [Y un0 [V r.1,ar],W X ar r.2]):=by
 refine ca3 13 Tryz.func111 Z Z Z<|have hS:=St.q f;?_
 unfold F.QJ at h
 exact wk
theorem ii {f:World} {C D E G S ak:Y0} {j p u A B ae:Value} {ap af ag ah ai aj aq:Nat} (T aa ab ac ad:Bool) (O a1:Int) (am:Bool) {r:Bool×Y0}
  (h:F.Ri T C aa D ab E ac G ad S O a1 am ak=some r) (ar:N [] f X j C) (az:RB [] f af [V T,j]) (au:N [] f X p D) (aA:RB [] f ag [V aa,p]) (aw:N [] f X u E) (aC:RB [] f ah [V ab,u]) (ax:N [] f X A G) (aD:RB [] f ai [V ac,A]) (ay:N [] f X B S) (aE:RB [] f aj [V ad,B]) (hBa0:RB [] f ap [R af 0,R ag 0,R ah 0,R ai 0,R aj 0,U O,.func (.func 141) #[] #[]]) (aF:N [] f X ae ak) (hBa2:RB [] f aq [V am,ae]):Calls Tryz.prog 114 #[R ap 0,U a1,R aq 0] f (K fun v w=>∃ao:Value,∃un0:Nat,v=R un0 0/\St [] f w [Y un0 [V r.1,ao],W X ao r.2]):=by
 refine ca3 12 Tryz.func114 Z Z Z<|have hS:=St.q f;?_
 unfold F.Ri at h
 exact wk
theorem i0 {f:World} {C D E G S O am:Y0} {j p u A B ae af:Value} {au ag ah ai aj ak aw ax:Nat} (T aa ab ac ad:Bool) (ao:Int) (ap aq:Bool) {r:Bool×Y0}
  (h:F.Q6 T C aa D ab E ac G ad S ao ap O aq am=some r) (ay:N [] f X j C) (aE:RB [] f ag [V T,j]) (az:N [] f X p D) (aF:RB [] f ah [V aa,p]) (aA:N [] f X u E) (aG:RB [] f ai [V ab,u]) (aC:N [] f X A G) (aJ:RB [] f aj [V ac,A]) (aD:N [] f X B S) (aK:RB [] f ak [V ad,B]) (hBa0:RB [] f au [R ag 0,R ah 0,R ai 0,R aj 0,R ak 0,U ao,.func (.func 141) #[] #[]]) (aL:N [] f X ae O) (hBa1:RB [] f aw [V ap,ae]) (aM:N [] f X af am) (hBa2:RB [] f ax [V aq,af]):Calls Tryz.prog 112 #[R au 0,R aw 0,R ax 0] f (K fun v w=>∃ar:Value,∃un0:Nat,v=R un0 0/\St [] f w [Y un0 [V r.1,ar],W X ar r.2]):=by
 refine ca3 13 Tryz.func112 Z Z Z<|have hS:=St.q f;?_
 unfold F.Q6 at h
 exact wk
theorem tC {f:World} {C D E G S O am:Y0} {j p u A B ae af:Value} {ar ag ah ai aj ak au aw:Nat} (T aa ab ac ad:Bool) (ao:Int) (ap aq:Bool) {r:Bool}
  (h:F.Tn T C aa D ab E ac G ad S ao ap O aq am=some r) (ax:N [] f X j C) (aD:RB [] f ag [V T,j]) (ay:N [] f X p D) (aE:RB [] f ah [V aa,p]) (az:N [] f X u E) (aF:RB [] f ai [V ab,u]) (aA:N [] f X A G) (aG:RB [] f aj [V ac,A]) (aC:N [] f X B S) (aJ:RB [] f ak [V ad,B]) (hBa0:RB [] f ar [R ag 0,R ah 0,R ai 0,R aj 0,R ak 0,U ao,.func (.func 141) #[] #[]]) (aK:N [] f X ae O) (hBa1:RB [] f au [V ap,ae]) (aL:N [] f X af am) (hBa2:RB [] f aw [V aq,af]):Calls Tryz.prog 142 #[R ar 0,R au 0,R aw 0] f (K fun v w=>v=V r/\St [] f w []):=by
 refine ca3 55 Tryz.func142 Z Z Z<|have hS:=St.q f;?_
 unfold F.Tn at h
 exact wk
theorem ry {f:World} {ab ac ad ae af ar au:Y0} {j p u A B O am:Value} {aD C D E G aa:Nat} {T:Y4} (ag ah ai aj ak:Bool) (aw:Int) (aE:Bool) {r:Bool×Y0×Bool×Y0×Bool×Y0×Bool}
  (h:F.Uc ag ab ah ac ai ad aj ae ak af aw ar au aE=some r) (hTT:TOk [] T f) (ax:N T f X j ab) (aF:RB T f C [V ag,j]) (ay:N T f X p ac) (aG:RB T f D [V ah,p]) (az:N T f X u ad) (aJ:RB T f E [V ai,u]) (aA:N T f X A ae) (aK:RB T f G [V aj,A]) (aC:N T f X B af) (aL:RB T f aa [V ak,B]) (hBa0:RB T f aD [R C 0,R D 0,R E 0,R G 0,R aa 0,U aw,.func (.func 141) #[] #[]]) (aP:N T f X O ar) (aQ:N T f X am au):Calls Tryz.prog 96 #[R aD 0,.agg #[O,am,V aE]] f (K fun v w=>∃aM:Nat,∃ao:Value,∃aN:Nat,∃ap:Value,∃aO:Nat,∃aq:Value,v=.tuple #[.agg #[R aM 0,R aN 0,R aO 0],V r.2.2.2.2.2.2]/\St [] f w []/\I T w [Y aO [V r.2.2.2.2.1,aq],P X aq r.2.2.2.2.2.1,Y aN [V r.2.2.1,ap],P X ap r.2.2.2.1,Y aM [V r.1,ao],P X ao r.2.1]):=by
 refine ca2 33 Tryz.func96 Z Z Z<|have hS:=St.q f;have hZ:=Fz.q (S:=[]) (w0:=f);?_
 have hA0:I T f [P X am au,P X O ar,Y aD [R C 0,R D 0,R E 0,R G 0,R aa 0,U aw,.func (.func 141) #[] #[]],Y aa [V ak,B],P X B af,Y G [V aj,A],P X A ae,Y E [V ai,u],P X u ad,Y D [V ah,p],P X p ac,Y C [V ag,j],P X j ab]:=Q (N.p (an Z) aQ) (Q (N.p (an Z) aP) (Q hBa0.p (Q aL.p (Q (N.p (an Z) aC) (Q aK.p (Q (N.p (an Z) aA) (Q aJ.p (Q (N.p (an Z) az) (Q aG.p (Q (N.p (an Z) ay) (Q aF.p (Q (N.p (an Z) ax) (I.nil)))))))))))))
 have hA:=hA0.all
 have hP:=hA0.off Z
 unfold F.Uc at h
 exact wk
theorem rR {f:World} {ab ac:Y0} {j p:Value} {T:Y4} (a0:Int) (ad:Bool) {r:Option (Bool×Y0×Bool×Y0×Bool×Y0×Bool×Y0×Bool×Y0×Int×Bool×Y0×Bool×Y0×Bool×Y0)×Bool}
  (h:F.Tg a0 ab ac ad=some r) (hTT:TOk [] T f) (am:N T f X j ab) (ao:N T f X p ac):Calls Tryz.prog 54 #[U a0,.agg #[j,p,V ad]] f (K fun v w=>oO r.1 (v=.tuple #[.pointer none,.agg #[.pointer none,.pointer none,.pointer none],V r.2]/\St [] f w []) (fun c=>∃b0:Nat,∃ae:Nat,∃u:Value,∃af:Nat,∃A:Value,∃ag:Nat,∃B:Value,∃ah:Nat,∃C:Value,∃ai:Nat,∃D:Value,∃aj:Nat,∃E:Value,∃ak:Nat,∃G:Value,∃O:Nat,∃aa:Value,v=.tuple #[R b0 0,.agg #[R aj 0,R ak 0,R O 0],V r.2]/\St [] f w []/\I T w [Y O [V c.2.2.2.2.2.2.2.2.2.2.2.2.2.2.2.1,aa],P X aa c.2.2.2.2.2.2.2.2.2.2.2.2.2.2.2.2,Y ak [V c.2.2.2.2.2.2.2.2.2.2.2.2.2.1,G],P X G c.2.2.2.2.2.2.2.2.2.2.2.2.2.2.1,Y aj [V c.2.2.2.2.2.2.2.2.2.2.2.1,E],P X E c.2.2.2.2.2.2.2.2.2.2.2.2.1,Y b0 [R ae 0,R af 0,R ag 0,R ah 0,R ai 0,U c.2.2.2.2.2.2.2.2.2.2.1,.func (.func 141) #[] #[]],Y ai [V c.2.2.2.2.2.2.2.2.1,D],P X D c.2.2.2.2.2.2.2.2.2.1,Y ah [V c.2.2.2.2.2.2.1,C],P X C c.2.2.2.2.2.2.2.1,Y ag [V c.2.2.2.2.1,B],P X B c.2.2.2.2.2.1,Y af [V c.2.2.1,A],P X A c.2.2.2.1,Y ae [V c.1,u],P X u c.2.1])):=by
 refine ca2 24 Tryz.func54 Z Z Z<|have hS:=St.q f;have hZ:=Fz.q (S:=[]) (w0:=f);?_
 have hA0:I T f [P X p ac,P X j ab]:=Q (N.p (an Z) ao) (Q (N.p (an Z) am) (I.nil))
 have hA:=hA0.all
 have hP:=hA0.off Z
 unfold F.Tg at h
 have cf:Cf 1:=trivial
 exact wk
theorem DR {p:World} {u A:Y0} {f j:Value} (a0:Int) (B:Bool) {r:Bool}
  (h:F.Va a0 u A B=some r) (C:N [] p X f u) (D:N [] p X j A):Calls Tryz.prog 24 #[U a0,.agg #[f,j,V B]] p (K fun v w=>v=V r/\St [] p w []):=by
 refine ca2 16 Tryz.func24 Z Z Z<|have hS:=St.q p;have hZ:=Fz.q (S:=[]) (w0:=p);?_
 have hTT:TOk [] [] p:=TOk.nil
 have hA:I [] p [P X j A,P X f u]:=Q (N.p (an Z) D) (Q (N.p (an Z) C) (I.nil))
 have hP:Off [] [P X j A,P X f u]:=Off.emp
 unfold F.Va at h
 exact wk
theorem BA {j:World} {p:Y0} {f:Value} {A:Nat} (u:Bool) {r:Y0}
  (h:F.RN u p=some r) (B:N [] j X f p) (hBa0:RB [] j A [V u,f]):Calls Tryz.prog 55 #[R A 0] j (K fun v w=>St [] j w [W X v r]):=by
 refine ca1 6 Tryz.func55 Z Z Z<|have hS:=St.q j;?_
 unfold F.RN at h
 exact wk
theorem yb {f:World} (a0:Int) {r:Y0}
  (h:F.UJ a0=some r) :Calls Tryz.prog 25 #[U a0] f (K fun v w=>St [] f w [W X v r]):=by
 refine ca1 13 Tryz.func25 Z Z Z<|have hS:=St.q f;have hZ:=Fz.q (S:=[]) (w0:=f);?_
 have hTT:TOk [] [] f:=TOk.nil
 have hA:I [] f []:=I.nil
 have hP:Off [] []:=Off.emp
 unfold F.UJ at h
 exact wk
theorem vY {f:World} {a0:Y0} {j:Value} {r:Bool×Y0×Bool}
  (h:F.SD a0=some r) (u:N [] f X j a0):Calls Tryz.prog 67 #[j] f (K fun v w=>∃p:Value,∃un0:Nat,v=.tuple #[R un0 0,V r.2.2]/\St [] f w [Y un0 [V r.1,p],W X p r.2.1]):=by
 refine ca1 9 Tryz.func67 Z Z Z<|have hS:=St.q f;have hZ:=Fz.q (S:=[]) (w0:=f);?_
 have hTT:TOk [] [] f:=TOk.nil
 have hA:I [] f [P X j a0]:=Q (N.p (an Z) u) (I.nil)
 have hP:Off [] [P X j a0]:=Off.emp
 unfold F.SD at h
 exact wk
end Go.Proofs
