import Derived.Test.YthnmbmmifamifaaGreatDoorRW0
import Derived.Test.YthnmbmmifamifaaGreatDoorRAw
import Derived.Test.YthnmbmmifamifaaGreatDoorGkFman
import Derived.Test.YthnmbmmifamifaaGreatDoorRWbignumc
import Derived.Test.YthnmbmmifamifaaGreatDoorRWnata
set_option linter.unusedVariables false
set_option linter.unusedSimpArgs false
set_option linter.unusedSectionVars false
set_option maxRecDepth 20000
set_option maxHeartbeats 20000000
namespace Go.Proofs
open Go Go.RowKit Go.Gk
open Go.Gk renaming RP -> O, Rds -> N, Ret -> K, ar -> J, e32 -> Y, e8 -> M, own -> W, pB -> Q, red -> U, vB -> P, vI -> R
open Go.Gk.OE renaming bx -> X
open Go.Gk.Rds renaming cons -> V
theorem zl {j:World} (a0:L00) {r:Bool×L8}
  (h:F.T9 a0=some r) :Calls Tryz.prog 237 #[vS a0] j (K fun v w=>∃f:Value,∃un0:Nat,v=Q un0 0/\St [] j w [X un0 [P r.1,f],W Y f r.2]):=by
 refine ca1 12 Tryz.func237 Z Z Z<|have hS:=St.r j;?_
 unfold F.T9 at h
 exact wk
theorem Cj {B:World} {T:L01} {r:Bool×L8×Bool×L8×Bool×L8×Bool×L8×Bool×L8×Int}
  (h:F.ZN =some r) (hTT:TOk [] T B):Calls Tryz.prog 181 #[] B (K fun v w=>∃b0:Nat,∃C:Nat,∃f:Value,∃D:Nat,∃j:Value,∃E:Nat,∃p:Value,∃G:Nat,∃u:Value,∃aa:Nat,∃A:Value,v=Q b0 0/\St [] B w []/\N T w [X b0 [Q C 0,Q D 0,Q E 0,Q G 0,Q aa 0,R r.2.2.2.2.2.2.2.2.2.2,.func (.func 238) #[] #[]],X aa [P r.2.2.2.2.2.2.2.2.1,A],U Y A r.2.2.2.2.2.2.2.2.2.1,X G [P r.2.2.2.2.2.2.1,u],U Y u r.2.2.2.2.2.2.2.1,X E [P r.2.2.2.2.1,p],U Y p r.2.2.2.2.2.1,X D [P r.2.2.1,j],U Y j r.2.2.2.1,X C [P r.1,f],U Y f r.2.1]):=by
 refine dP 8 Tryz.func181 Z Z Z<|have hS:=St.r B;have hZ:=Fz.r (S:=[]) (w0:=B);?_
 have hA0:N T B []:=N.nil
 have hA:=hA0.all
 have hP:=hA0.off Z
 refine jy [] I ?_
 unfold F.ZN at h
 exact wk
theorem DO {B:World} {T:L01} {r:Bool×L8×Bool×L8×Bool×L8×Bool×L8×Bool×L8×Int}
  (h:F.abT =some r) (hTT:TOk [] T B):Calls Tryz.prog 182 #[] B (K fun v w=>∃b0:Nat,∃C:Nat,∃f:Value,∃D:Nat,∃j:Value,∃E:Nat,∃p:Value,∃G:Nat,∃u:Value,∃aa:Nat,∃A:Value,v=Q b0 0/\St [] B w []/\N T w [X b0 [Q C 0,Q D 0,Q E 0,Q G 0,Q aa 0,R r.2.2.2.2.2.2.2.2.2.2,.func (.func 238) #[] #[]],X aa [P r.2.2.2.2.2.2.2.2.1,A],U Y A r.2.2.2.2.2.2.2.2.2.1,X G [P r.2.2.2.2.2.2.1,u],U Y u r.2.2.2.2.2.2.2.1,X E [P r.2.2.2.2.1,p],U Y p r.2.2.2.2.2.1,X D [P r.2.2.1,j],U Y j r.2.2.2.1,X C [P r.1,f],U Y f r.2.1]):=by
 refine dP 8 Tryz.func182 Z Z Z<|have hS:=St.r B;have hZ:=Fz.r (S:=[]) (w0:=B);?_
 have hA0:N T B []:=N.nil
 have hA:=hA0.all
 have hP:=hA0.off Z
 refine jy [] I ?_
 unfold F.abT at h
 exact wk
theorem Gr {f:World} {T:L01} (a0:Int) {r:Option (Bool×L8×Bool×L8×Bool×L8×Bool×L8×Bool×L8×Int)}
  (h:F.Vi a0=some r) (hTT:TOk [] T f):Calls Tryz.prog 114 #[R a0] f (K fun v w=>ut r (v=.pointer none/\St [] f w []) (fun c=>∃b0:Nat,∃C:Nat,∃j:Value,∃D:Nat,∃p:Value,∃E:Nat,∃u:Value,∃G:Nat,∃A:Value,∃aa:Nat,∃B:Value,v=Q b0 0/\St [] f w []/\N T w [X b0 [Q C 0,Q D 0,Q E 0,Q G 0,Q aa 0,R c.2.2.2.2.2.2.2.2.2.2,.func (.func 238) #[] #[]],X aa [P c.2.2.2.2.2.2.2.2.1,B],U Y B c.2.2.2.2.2.2.2.2.2.1,X G [P c.2.2.2.2.2.2.1,A],U Y A c.2.2.2.2.2.2.2.1,X E [P c.2.2.2.2.1,u],U Y u c.2.2.2.2.2.1,X D [P c.2.2.1,p],U Y p c.2.2.2.1,X C [P c.1,j],U Y j c.2.1])):=by
 refine ca1 10 Tryz.func114 Z Z Z<|have hS:=St.r f;have hZ:=Fz.r (S:=[]) (w0:=f);?_
 have hA0:N T f []:=N.nil
 have hA:=hA0.all
 have hP:=hA0.off Z
 unfold F.Vi at h
 exact wk
theorem n6 {f:World} {C D E G T an:L8} {j p u A B af:Value} {au ag ah aj ak al am:Nat} {S:L01} (aa ab ac ad ae:Bool) (ao:Int) (ap:Bool) {r:Bool×L8}
  (h:F.Vc aa C ab D ac E ad G ae T ao ap an=some r) (hS:St S f f [X am [P ap,af],W Y af an]) (av:O S f Y j C) (aA:RB S f ag [P aa,j]) (aw:O S f Y p D) (aC:RB S f ah [P ab,p]) (ax:O S f Y u E) (aD:RB S f aj [P ac,u]) (ay:O S f Y A G) (aE:RB S f ak [P ad,A]) (az:O S f Y B T) (aF:RB S f al [P ae,B]) (hBa0:RB S f au [Q ag 0,Q ah 0,Q aj 0,Q ak 0,Q al 0,R ao,.func (.func 238) #[] #[]]):Calls Tryz.prog 186 #[Q au 0,Q am 0] f (K fun v w=>∃J:Value,v=Q am 0/\St S f w [X am [P r.1,J],W Y J r.2]):=by
 refine ca2 12 Tryz.func186 Z Z Z ?_
 unfold F.Vc at h
 exact wk
theorem gH {f:World} {C D E G S am an:L8} {j p u A B ae af:Value} {av ag ah aj ak al aw ax:Nat} (T aa ab ac ad:Bool) (ao:Int) (ap J:Bool) {r:Bool×L8}
  (h:F.TZ T C aa D ab E ac G ad S ao ap am J an=some r) (ay:O [] f Y j C) (aE:RB [] f ag [P T,j]) (az:O [] f Y p D) (aF:RB [] f ah [P aa,p]) (aA:O [] f Y u E) (aG:RB [] f aj [P ab,u]) (aC:O [] f Y A G) (aJ:RB [] f ak [P ac,A]) (aD:O [] f Y B S) (aK:RB [] f al [P ad,B]) (hBa0:RB [] f av [Q ag 0,Q ah 0,Q aj 0,Q ak 0,Q al 0,R ao,.func (.func 238) #[] #[]]) (aL:O [] f Y ae am) (hBa1:RB [] f aw [P ap,ae]) (aM:O [] f Y af an) (hBa2:RB [] f ax [P J,af]):Calls Tryz.prog 183 #[Q av 0,Q aw 0,Q ax 0] f (K fun v w=>∃au:Value,∃un0:Nat,v=Q un0 0/\St [] f w [X un0 [P r.1,au],W Y au r.2]):=by
 refine ca3 13 Tryz.func183 Z Z Z<|have hS:=St.r f;?_
 unfold F.TZ at h
 exact wk
theorem fY {f:World} {C D E G S al:L8} {j p u A B ae:Value} {ap af ag ah aj ak J:Nat} (T aa ab ac ad:Bool) (am a1:Int) (an:Bool) {r:Bool×L8}
  (h:F.UO T C aa D ab E ac G ad S am a1 an al=some r) (au:O [] f Y j C) (az:RB [] f af [P T,j]) (av:O [] f Y p D) (aA:RB [] f ag [P aa,p]) (aw:O [] f Y u E) (aC:RB [] f ah [P ab,u]) (ax:O [] f Y A G) (aD:RB [] f aj [P ac,A]) (ay:O [] f Y B S) (aE:RB [] f ak [P ad,B]) (hBa0:RB [] f ap [Q af 0,Q ag 0,Q ah 0,Q aj 0,Q ak 0,R am,.func (.func 238) #[] #[]]) (aF:O [] f Y ae al) (hBa2:RB [] f J [P an,ae]):Calls Tryz.prog 185 #[Q ap 0,R a1,Q J 0] f (K fun v w=>∃ao:Value,∃un0:Nat,v=Q un0 0/\St [] f w [X un0 [P r.1,ao],W Y ao r.2]):=by
 refine ca3 12 Tryz.func185 Z Z Z<|have hS:=St.r f;?_
 unfold F.UO at h
 exact wk
theorem gD {f:World} {C D E G S am an:L8} {j p u A B ae af:Value} {av ag ah aj ak al aw ax:Nat} (T aa ab ac ad:Bool) (ao:Int) (ap J:Bool) {r:Bool×L8}
  (h:F.Un T C aa D ab E ac G ad S ao ap am J an=some r) (ay:O [] f Y j C) (aE:RB [] f ag [P T,j]) (az:O [] f Y p D) (aF:RB [] f ah [P aa,p]) (aA:O [] f Y u E) (aG:RB [] f aj [P ab,u]) (aC:O [] f Y A G) (aJ:RB [] f ak [P ac,A]) (aD:O [] f Y B S) (aK:RB [] f al [P ad,B]) (hBa0:RB [] f av [Q ag 0,Q ah 0,Q aj 0,Q ak 0,Q al 0,R ao,.func (.func 238) #[] #[]]) (aL:O [] f Y ae am) (hBa1:RB [] f aw [P ap,ae]) (aM:O [] f Y af an) (hBa2:RB [] f ax [P J,af]):Calls Tryz.prog 184 #[Q av 0,Q aw 0,Q ax 0] f (K fun v w=>∃au:Value,∃un0:Nat,v=Q un0 0/\St [] f w [X un0 [P r.1,au],W Y au r.2]):=by
 refine ca3 13 Tryz.func184 Z Z Z<|have hS:=St.r f;?_
 unfold F.Un at h
 exact wk
theorem vQ {f:World} {C D E G S am an:L8} {j p u A B ae af:Value} {au ag ah aj ak al av aw:Nat} (T aa ab ac ad:Bool) (ao:Int) (ap J:Bool) {r:Bool}
  (h:F.WW T C aa D ab E ac G ad S ao ap am J an=some r) (ax:O [] f Y j C) (aD:RB [] f ag [P T,j]) (ay:O [] f Y p D) (aE:RB [] f ah [P aa,p]) (az:O [] f Y u E) (aF:RB [] f aj [P ab,u]) (aA:O [] f Y A G) (aG:RB [] f ak [P ac,A]) (aC:O [] f Y B S) (aJ:RB [] f al [P ad,B]) (hBa0:RB [] f au [Q ag 0,Q ah 0,Q aj 0,Q ak 0,Q al 0,R ao,.func (.func 238) #[] #[]]) (aK:O [] f Y ae am) (hBa1:RB [] f av [P ap,ae]) (aL:O [] f Y af an) (hBa2:RB [] f aw [P J,af]):Calls Tryz.prog 115 #[Q au 0,Q av 0,Q aw 0] f (K fun v w=>v=P r/\St [] f w []):=by
 refine ca3 55 Tryz.func115 Z Z Z<|have hS:=St.r f;?_
 unfold F.WW at h
 exact wk
theorem yX {f:World} {a1 a2:L00} {j p:Value} (a0:Int) {r:L8×L8×Bool×Int}
  (h:F.YM a0 a1 a2=some r) (C:O [] f M j a1) (D:O [] f M p a2):Calls Tryz.prog 42 #[R a0,j,p] f (K fun v w=>∃A B:Value,v=.tuple #[.agg #[A,B,P r.2.2.1],R r.2.2.2]/\St [] f w [W Y A r.1,W Y B r.2.1]):=by
 refine ca3 48 Tryz.func42 Z Z Z<|have hS:=St.r f;have hZ:=Fz.r (S:=[]) (w0:=f);?_
 have hTT:TOk [] [] f:=TOk.nil
 have hA:N [] f [U M p a2,U M j a1]:=V (O.q (ai Z) D) (V (O.q (ai Z) C) (N.nil))
 have hP:Off [] [U M p a2,U M j a1]:=Off.emp
 unfold F.YM at h
 let z1:=fun u=>mkZ 4 (F.Yg a1 a2) (fun g L w=>L=[(1,j),(2,p),(6,Q u 0),(41,P g)]/\SfT [] [] f w [U M p a2,U M j a1] [X u [L02,L02,P false]]) [(6,Q u 0)] [X u [L02,L02,P false]] []
 exact wk
theorem Bs {f:World} (a0:Int) {r:Int}
  (h:F.Xy a0=some r) :Calls Tryz.prog 43 #[R a0] f (K fun v w=>v=R r/\St [] f w []):=by
 refine ca1 12 Tryz.func43 Z Z Z<|have hS:=St.r f;have hZ:=Fz.r (S:=[]) (w0:=f);?_
 have hTT:TOk [] [] f:=TOk.nil
 have hA:N [] f []:=N.nil
 have hP:Off [] []:=Off.emp
 unfold F.Xy at h
 exact wk
theorem D4 {j:World} {p:L8} {f:Value} {A:Nat} (u:Bool) {r:L8}
  (h:F.UN u p=some r) (B:O [] j Y f p) (hBa0:RB [] j A [P u,f]):Calls Tryz.prog 117 #[Q A 0] j (K fun v w=>St [] j w [W Y v r]):=by
 refine ca1 6 Tryz.func117 Z Z Z<|have hS:=St.r j;?_
 unfold F.UN at h
 exact wk
theorem AR {f:World} (a0:Int) {r:L8}
  (h:F.abK a0=some r) :Calls Tryz.prog 44 #[R a0] f (K fun v w=>St [] f w [W Y v r]):=by
 refine ca1 13 Tryz.func44 Z Z Z<|have hS:=St.r f;have hZ:=Fz.r (S:=[]) (w0:=f);?_
 have hTT:TOk [] [] f:=TOk.nil
 have hA:N [] f []:=N.nil
 have hP:Off [] []:=Off.emp
 unfold F.abK at h
 exact wk
theorem HO {j:World} {a0:L8} {p:Value} {r:Bool×L8}
  (h:F.Wh a0=some r) (u:O [] j Y p a0):Calls Tryz.prog 199 #[p] j (K fun v w=>∃f:Value,∃un0:Nat,v=Q un0 0/\St [] j w [X un0 [P r.1,f],W Y f r.2]):=by
 refine ca1 7 Tryz.func199 Z Z Z<|have hS:=St.r j;?_
 unfold F.Wh at h
 exact wk
theorem vJ {C:World}  {r:Bool×L8×Bool×L8×Bool×L8}
  (h:F.U5 =some r) :Calls Tryz.prog 124 #[] C (K fun v w=>∃f j p:Value,∃u A B:Nat,v=.agg #[Q u 0,Q A 0,Q B 0]/\St [] C w [X u [P r.1,f],W Y f r.2.1,X A [P r.2.2.1,j],W Y j r.2.2.2.1,X B [P r.2.2.2.2.1,p],W Y p r.2.2.2.2.2]):=by
 refine dP 5 Tryz.func124 Z Z Z<|have hS:=St.r C;jy [] I ?_
 unfold F.U5 at h
 exact wk
theorem tQ {f:World} {ab ac ad ae af au av:L8} {j p u A B am an:Value} {aD C D E G aa:Nat} {T:L01} (ag ah aj ak al:Bool) (aw:Int) (aE:Bool) {r:Bool×L8×Bool×L8×Bool×L8×Bool}
  (h:F.Yd ag ab ah ac aj ad ak ae al af aw au av aE=some r) (hTT:TOk [] T f) (ax:O T f Y j ab) (aF:RB T f C [P ag,j]) (ay:O T f Y p ac) (aG:RB T f D [P ah,p]) (az:O T f Y u ad) (aJ:RB T f E [P aj,u]) (aA:O T f Y A ae) (aK:RB T f G [P ak,A]) (aC:O T f Y B af) (aL:RB T f aa [P al,B]) (hBa0:RB T f aD [Q C 0,Q D 0,Q E 0,Q G 0,Q aa 0,R aw,.func (.func 238) #[] #[]]) (aR:O T f Y am au) (aS:O T f Y an av):Calls Tryz.prog 198 #[Q aD 0,.agg #[am,an,P aE]] f (K fun v w=>∃aM:Nat,∃ao:Value,∃aO:Nat,∃ap:Value,∃aP:Nat,∃J:Value,v=.tuple #[.agg #[Q aM 0,Q aO 0,Q aP 0],P r.2.2.2.2.2.2]/\St [] f w []/\N T w [X aP [P r.2.2.2.2.1,J],U Y J r.2.2.2.2.2.1,X aO [P r.2.2.1,ap],U Y ap r.2.2.2.1,X aM [P r.1,ao],U Y ao r.2.1]):=by
 refine ca2 33 Tryz.func198 Z Z Z<|have hS:=St.r f;have hZ:=Fz.r (S:=[]) (w0:=f);?_
 have hA0:N T f [U Y an av,U Y am au,X aD [Q C 0,Q D 0,Q E 0,Q G 0,Q aa 0,R aw,.func (.func 238) #[] #[]],X aa [P al,B],U Y B af,X G [P ak,A],U Y A ae,X E [P aj,u],U Y u ad,X D [P ah,p],U Y p ac,X C [P ag,j],U Y j ab]:=V (O.q (ai Z) aS) (V (O.q (ai Z) aR) (V hBa0.q (V aL.q (V (O.q (ai Z) aC) (V aK.q (V (O.q (ai Z) aA) (V aJ.q (V (O.q (ai Z) az) (V aG.q (V (O.q (ai Z) ay) (V aF.q (V (O.q (ai Z) ax) (N.nil)))))))))))))
 have hA:=hA0.all
 have hP:=hA0.off Z
 unfold F.Yd at h
 exact wk
theorem Dk {f:World} {ab ac:L8} {j p:Value} {T:L01} (a0:Int) (ad:Bool) {r:Option (Bool×L8×Bool×L8×Bool×L8×Bool×L8×Bool×L8×Int×Bool×L8×Bool×L8×Bool×L8)×Bool}
  (h:F.abp a0 ab ac ad=some r) (hTT:TOk [] T f) (an:O T f Y j ab) (ao:O T f Y p ac):Calls Tryz.prog 120 #[R a0,.agg #[j,p,P ad]] f (K fun v w=>ut r.1 (v=.tuple #[.pointer none,.agg #[.pointer none,.pointer none,.pointer none],P r.2]/\St [] f w []) (fun c=>∃b0:Nat,∃ae:Nat,∃u:Value,∃af:Nat,∃A:Value,∃ag:Nat,∃B:Value,∃ah:Nat,∃C:Value,∃aj:Nat,∃D:Value,∃ak:Nat,∃E:Value,∃al:Nat,∃G:Value,∃am:Nat,∃aa:Value,v=.tuple #[Q b0 0,.agg #[Q ak 0,Q al 0,Q am 0],P r.2]/\St [] f w []/\N T w [X am [P c.2.2.2.2.2.2.2.2.2.2.2.2.2.2.2.1,aa],U Y aa c.2.2.2.2.2.2.2.2.2.2.2.2.2.2.2.2,X al [P c.2.2.2.2.2.2.2.2.2.2.2.2.2.1,G],U Y G c.2.2.2.2.2.2.2.2.2.2.2.2.2.2.1,X ak [P c.2.2.2.2.2.2.2.2.2.2.2.1,E],U Y E c.2.2.2.2.2.2.2.2.2.2.2.2.1,X b0 [Q ae 0,Q af 0,Q ag 0,Q ah 0,Q aj 0,R c.2.2.2.2.2.2.2.2.2.2.1,.func (.func 238) #[] #[]],X aj [P c.2.2.2.2.2.2.2.2.1,D],U Y D c.2.2.2.2.2.2.2.2.2.1,X ah [P c.2.2.2.2.2.2.1,C],U Y C c.2.2.2.2.2.2.2.1,X ag [P c.2.2.2.2.1,B],U Y B c.2.2.2.2.2.1,X af [P c.2.2.1,A],U Y A c.2.2.2.1,X ae [P c.1,u],U Y u c.2.1])):=by
 refine ca2 24 Tryz.func120 Z Z Z<|have hS:=St.r f;have hZ:=Fz.r (S:=[]) (w0:=f);?_
 have hA0:N T f [U Y p ac,U Y j ab]:=V (O.q (ai Z) ao) (V (O.q (ai Z) an) (N.nil))
 have hA:=hA0.all
 have hP:=hA0.off Z
 unfold F.abp at h
 have cf:Cf 1:=I
 exact wk
theorem yU {f:World} {a0:L8} {j:Value} {r:Bool×L8×Bool}
  (h:F.VV a0=some r) (u:O [] f Y j a0):Calls Tryz.prog 121 #[j] f (K fun v w=>∃p:Value,∃un0:Nat,v=.tuple #[Q un0 0,P r.2.2]/\St [] f w [X un0 [P r.1,p],W Y p r.2.1]):=by
 refine ca1 9 Tryz.func121 Z Z Z<|have hS:=St.r f;have hZ:=Fz.r (S:=[]) (w0:=f);?_
 have hTT:TOk [] [] f:=TOk.nil
 have hA:N [] f [U Y j a0]:=V (O.q (ai Z) u) (N.nil)
 have hP:Off [] [U Y j a0]:=Off.emp
 unfold F.VV at h
 exact wk
end Go.Proofs
