import Derived.Test.YthnmbmmifamifaaGreatDoorRW0
import Derived.Test.YthnmbmmifamifaaGreatDoorRAw
import Derived.Test.YthnmbmmifamifaaGreatDoorGkFman
import Derived.Test.YthnmbmmifamifaaGreatDoorRWbignumc
import Derived.Test.YthnmbmmifamifaaGreatDoorRWcurvea
set_option linter.unusedVariables false
set_option linter.unusedSimpArgs false
set_option linter.unusedSectionVars false
set_option maxRecDepth 20000
set_option maxHeartbeats 20000000
namespace Go.Proofs
open Go Go.RowKit Go.Gk
open Go.Gk renaming RP -> O, Rds -> N, Ret -> K, ar -> J, e32 -> Y, own -> W, pB -> Q, red -> U, vB -> P, vI -> R
open Go.Gk.OE renaming bx -> X
open Go.Gk.Rds renaming cons -> V
theorem so {j:World} {af ag ah aj ak al am an:L8} {p u A B C D E G:Value} {aT aa ab ac ad ae az aA aC:Nat} {T:L01} (ao ap J au av:Bool) (aG:Int) (aw ax ay:Bool) {r:Bool×L8×Bool×L8×Bool×L8}
  (h:F.W7 ao af ap ag J ah au aj av ak aG aw al ax am ay an=some r) (hTT:TOk [] T j) (aJ:O T j Y p af) (aU:RB T j aa [P ao,p]) (aK:O T j Y u ag) (aW:RB T j ab [P ap,u]) (aL:O T j Y A ah) (ba:RB T j ac [P J,A]) (aM:O T j Y B aj) (bb:RB T j ad [P au,B]) (aO:O T j Y C ak) (bc:RB T j ae [P av,C]) (hBa0:RB T j aT [Q aa 0,Q ab 0,Q ac 0,Q ad 0,Q ae 0,R aG,.func (.func 238) #[] #[]]) (aP:O T j Y D al) (bd:RB T j az [P aw,D]) (aR:O T j Y E am) (be:RB T j aA [P ax,E]) (aS:O T j Y G an) (bf:RB T j aC [P ay,G]):Calls Tryz.prog 202 #[Q aT 0,.agg #[Q az 0,Q aA 0,Q aC 0]] j (K fun v w=>∃bg:Nat,∃aD:Value,∃bh:Nat,∃aE:Value,∃bi:Nat,∃aF:Value,v=.agg #[Q bg 0,Q bh 0,Q bi 0]/\St [] j w []/\N T w [X bi [P r.2.2.2.2.1,aF],U Y aF r.2.2.2.2.2,X bh [P r.2.2.1,aE],U Y aE r.2.2.2.1,X bg [P r.1,aD],U Y aD r.2.1]):=by
 refine ca2 86 Tryz.func202 Z Z Z<|have hS:=St.r j;have hZ:=Fz.r (S:=[]) (w0:=j);?_
 have hA0:N T j [X aC [P ay,G],U Y G an,X aA [P ax,E],U Y E am,X az [P aw,D],U Y D al,X aT [Q aa 0,Q ab 0,Q ac 0,Q ad 0,Q ae 0,R aG,.func (.func 238) #[] #[]],X ae [P av,C],U Y C ak,X ad [P au,B],U Y B aj,X ac [P J,A],U Y A ah,X ab [P ap,u],U Y u ag,X aa [P ao,p],U Y p af]:=V bf.q (V (O.q (ai Z) aS) (V be.q (V (O.q (ai Z) aR) (V bd.q (V (O.q (ai Z) aP) (V hBa0.q (V bc.q (V (O.q (ai Z) aO) (V bb.q (V (O.q (ai Z) aM) (V ba.q (V (O.q (ai Z) aL) (V aW.q (V (O.q (ai Z) aK) (V aU.q (V (O.q (ai Z) aJ) (N.nil)))))))))))))))))
 have hA:=hA0.all
 have hP:=hA0.off Z
 unfold F.W7 at h
 let m1c5:=fun (bj:Bool×L8) (bl:Bool×L8) (bm:Bool×L8) (bn:Bool×L8) (bo:Bool×L8)=>mkM 6 [(6,[],[],[],[]),(8,[],[],[],[]),(12,[8],[8],[],[]),(13,[8],[12],[],[]),(14,[],[6,13],[],[]),(15,[],[14],[],[])] [6,8,12,13,14,15] [15] [] [] [(6,fun h v x y=>∃bp:Nat,∃br:Value,v=Q bp 0/\x=[X bp [P bj.1,br],W Y br bj.2]/\y=[]),(8,fun h v x y=>∃f:Nat,v=Q f 0/\x=[X f [P false,L02]]/\y=[]),(12,fun h v x y=>∃bs:Value,∃f:Nat,h=[(Q f 0,[X f [P false,L02]],[])]/\v=Q f 0/\x=[X f [P bl.1,bs],W Y bs bl.2]/\y=[]),(13,fun h v x y=>∃bt:Value,∃f:Nat,h=[(Q f 0,[X f [P false,L02]],[])]/\v=Q f 0/\x=[X f [P bm.1,bt],W Y bt bm.2]/\y=[]),(14,fun h v x y=>∃bu:Nat,∃bv:Value,v=Q bu 0/\x=[X bu [P bn.1,bv],W Y bv bn.2]/\y=[]),(15,fun h v x y=>∃bw:Nat,∃bz:Value,v=Q bw 0/\x=[X bw [P bo.1,bz],W Y bz bo.2]/\y=[])] []
 exact wk
theorem vb {f:World} {ah aj ak al am an ao ap J au av:L8} {j p u A B C D E G aa ab:Value} {bm ac ad ae af ag aK aL aM aO aP aR:Nat} {T:L01} (aw ax ay az aA:Bool) (aW:Int) (aC aD aE aF aG aJ:Bool) {r:Bool×L8×Bool×L8×Bool×L8}
  (h:F.Vl aw ah ax aj ay ak az al aA am aW aC an aD ao aE ap aF J aG au aJ av=some r) (hTT:TOk [] T f) (ba:O T f Y j ah) (bn:RB T f ac [P aw,j]) (bb:O T f Y p aj) (bo:RB T f ad [P ax,p]) (bc:O T f Y u ak) (bp:RB T f ae [P ay,u]) (bd:O T f Y A al) (br:RB T f af [P az,A]) (be:O T f Y B am) (bs:RB T f ag [P aA,B]) (hBa0:RB T f bm [Q ac 0,Q ad 0,Q ae 0,Q af 0,Q ag 0,R aW,.func (.func 238) #[] #[]]) (bf:O T f Y C an) (bt:RB T f aK [P aC,C]) (bg:O T f Y D ao) (bu:RB T f aL [P aD,D]) (bh:O T f Y E ap) (bv:RB T f aM [P aE,E]) (bi:O T f Y G J) (bw:RB T f aO [P aF,G]) (bj:O T f Y aa au) (bz:RB T f aP [P aG,aa]) (bl:O T f Y ab av) (bA:RB T f aR [P aJ,ab]):Calls Tryz.prog 123 #[Q bm 0,.agg #[Q aK 0,Q aL 0,Q aM 0],.agg #[Q aO 0,Q aP 0,Q aR 0]] f (K fun v w=>∃bB:Nat,∃aS:Value,∃bC:Nat,∃aT:Value,∃bD:Nat,∃aU:Value,v=.agg #[Q bB 0,Q bC 0,Q bD 0]/\St [] f w []/\N T w [X bD [P r.2.2.2.2.1,aU],U Y aU r.2.2.2.2.2,X bC [P r.2.2.1,aT],U Y aT r.2.2.2.1,X bB [P r.1,aS],U Y aS r.2.1]):=by
 refine ca3 137 Tryz.func123 Z Z Z<|have hS:=St.r f;have hZ:=Fz.r (S:=[]) (w0:=f);?_
 have hA0:N T f [X aR [P aJ,ab],U Y ab av,X aP [P aG,aa],U Y aa au,X aO [P aF,G],U Y G J,X aM [P aE,E],U Y E ap,X aL [P aD,D],U Y D ao,X aK [P aC,C],U Y C an,X bm [Q ac 0,Q ad 0,Q ae 0,Q af 0,Q ag 0,R aW,.func (.func 238) #[] #[]],X ag [P aA,B],U Y B am,X af [P az,A],U Y A al,X ae [P ay,u],U Y u ak,X ad [P ax,p],U Y p aj,X ac [P aw,j],U Y j ah]:=V bA.q (V (O.q (ai Z) bl) (V bz.q (V (O.q (ai Z) bj) (V bw.q (V (O.q (ai Z) bi) (V bv.q (V (O.q (ai Z) bh) (V bu.q (V (O.q (ai Z) bg) (V bt.q (V (O.q (ai Z) bf) (V hBa0.q (V bs.q (V (O.q (ai Z) be) (V br.q (V (O.q (ai Z) bd) (V bp.q (V (O.q (ai Z) bc) (V bo.q (V (O.q (ai Z) bb) (V bn.q (V (O.q (ai Z) ba) (N.nil)))))))))))))))))))))))
 have hA:=hA0.all
 have hP:=hA0.off Z
 unfold F.Vl at h
 exact wk
theorem um {f:World} {G S T aa ab ac ad ae:L8} {j p u A B C D E:Value} {aD ao ap J au av aw ax ay:Nat} (af ag ah aj ak:Bool) (az:Int) (al am an:Bool) {r:L8×L8×Bool}
  (h:F.Vu af G ag S ah T aj aa ak ab az al ac am ad an ae=some r) (aE:O [] f Y j G) (aP:RB [] f ao [P af,j]) (aF:O [] f Y p S) (aR:RB [] f ap [P ag,p]) (aG:O [] f Y u T) (aS:RB [] f J [P ah,u]) (aJ:O [] f Y A aa) (aT:RB [] f au [P aj,A]) (aK:O [] f Y B ab) (aU:RB [] f av [P ak,B]) (hBa0:RB [] f aD [Q ao 0,Q ap 0,Q J 0,Q au 0,Q av 0,R az,.func (.func 238) #[] #[]]) (aL:O [] f Y C ac) (aW:RB [] f aw [P al,C]) (aM:O [] f Y D ad) (ba:RB [] f ax [P am,D]) (aO:O [] f Y E ae) (bb:RB [] f ay [P an,E]):Calls Tryz.prog 127 #[Q aD 0,.agg #[Q aw 0,Q ax 0,Q ay 0]] f (K fun v w=>∃aA aC:Value,v=.agg #[aA,aC,P r.2.2]/\St [] f w [W Y aA r.1,W Y aC r.2.1]):=by
 refine ca2 40 Tryz.func127 Z Z Z<|have hS:=St.r f;?_
 unfold F.Vu at h
 exact wk
theorem kF {f:World} {ah aj ak al am an ao ap J au av:L8} {j p u A B C D E G aa ab:Value} {bn ac ad ae af ag aK aL aM aO aP aR:Nat} {T:L01} (aw ax ay az aA:Bool) (aW:Int) (aC aD aE a2 aF aG aJ:Bool) {r:Bool×L8×Bool×L8×Bool×L8}
  (h:F.Vs aw ah ax aj ay ak az al aA am aW aC an aD ao aE ap a2 aF J aG au aJ av=some r) (hTT:TOk [] T f) (bb:O T f Y j ah) (bo:RB T f ac [P aw,j]) (bc:O T f Y p aj) (bp:RB T f ad [P ax,p]) (bd:O T f Y u ak) (br:RB T f ae [P ay,u]) (be:O T f Y A al) (bs:RB T f af [P az,A]) (bf:O T f Y B am) (bt:RB T f ag [P aA,B]) (hBa0:RB T f bn [Q ac 0,Q ad 0,Q ae 0,Q af 0,Q ag 0,R aW,.func (.func 238) #[] #[]]) (bg:O T f Y C an) (bu:RB T f aK [P aC,C]) (bh:O T f Y D ao) (bv:RB T f aL [P aD,D]) (bi:O T f Y E ap) (bw:RB T f aM [P aE,E]) (bj:O T f Y G J) (bz:RB T f aO [P aF,G]) (bl:O T f Y aa au) (bA:RB T f aP [P aG,aa]) (bm:O T f Y ab av) (bB:RB T f aR [P aJ,ab]):Calls Tryz.prog 238 #[Q bn 0,.agg #[Q aK 0,Q aL 0,Q aM 0],P a2,.agg #[Q aO 0,Q aP 0,Q aR 0]] f (K fun v w=>∃bC:Nat,∃aS:Value,∃bD:Nat,∃aT:Value,∃bE:Nat,∃aU:Value,v=.agg #[Q bC 0,Q bD 0,Q bE 0]/\St [] f w []/\N T w [X bE [P r.2.2.2.2.1,aU],U Y aU r.2.2.2.2.2,X bD [P r.2.2.1,aT],U Y aT r.2.2.2.1,X bC [P r.1,aS],U Y aS r.2.1]):=by
 refine ca4 18 Tryz.func238 Z Z Z<|have hS:=St.r f;have hZ:=Fz.r (S:=[]) (w0:=f);?_
 have hA0:N T f [X aR [P aJ,ab],U Y ab av,X aP [P aG,aa],U Y aa au,X aO [P aF,G],U Y G J,X aM [P aE,E],U Y E ap,X aL [P aD,D],U Y D ao,X aK [P aC,C],U Y C an,X bn [Q ac 0,Q ad 0,Q ae 0,Q af 0,Q ag 0,R aW,.func (.func 238) #[] #[]],X ag [P aA,B],U Y B am,X af [P az,A],U Y A al,X ae [P ay,u],U Y u ak,X ad [P ax,p],U Y p aj,X ac [P aw,j],U Y j ah]:=V bB.q (V (O.q (ai Z) bm) (V bA.q (V (O.q (ai Z) bl) (V bz.q (V (O.q (ai Z) bj) (V bw.q (V (O.q (ai Z) bi) (V bv.q (V (O.q (ai Z) bh) (V bu.q (V (O.q (ai Z) bg) (V hBa0.q (V bt.q (V (O.q (ai Z) bf) (V bs.q (V (O.q (ai Z) be) (V br.q (V (O.q (ai Z) bd) (V bp.q (V (O.q (ai Z) bc) (V bo.q (V (O.q (ai Z) bb) (N.nil)))))))))))))))))))))))
 have hA:=hA0.all
 have hP:=hA0.off Z
 unfold F.Vs at h
 let z1:=fun bF ba=>mkZ 5 (F.acK) (fun g L w=>∃bG bH bI bJ bK bN,L=[(5,Q bF 0),(8,Q ba 0)]/\SfT [] T f w [X bK [P g.2.2.2.2.1,bN],U Y bN g.2.2.2.2.2,X bI [P g.2.2.1,bJ],U Y bJ g.2.2.2.1,X bG [P g.1,bH],U Y bH g.2.1] [X bF [Q bG 0,Q bI 0,Q bK 0],X ba [.pointer none,.pointer none,.pointer none]]) [(5,Q bF 0),(8,Q ba 0)] [X ba [.pointer none,.pointer none,.pointer none]] []
 exact wk
end Go.Proofs
