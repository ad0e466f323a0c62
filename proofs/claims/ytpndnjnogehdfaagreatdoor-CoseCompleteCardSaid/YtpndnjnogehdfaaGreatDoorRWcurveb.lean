import Derived.Test.YtpndnjnogehdfaaGreatDoorRW0
import Derived.Test.YtpndnjnogehdfaaGreatDoorRAw
import Derived.Test.YtpndnjnogehdfaaGreatDoorGkFman
import Derived.Test.YtpndnjnogehdfaaGreatDoorRWbignumc
import Derived.Test.YtpndnjnogehdfaaGreatDoorRWcurvea
set_option linter.unusedVariables false
set_option linter.unusedSimpArgs false
set_option linter.unusedSectionVars false
set_option maxRecDepth 20000
set_option maxHeartbeats 20000000
namespace Go.Proofs
open Go Go.RowKit Go.Gk
open Go.Gk renaming RP -> N, Rds -> I, Ret -> K, al -> O, e32 -> X, own -> W, pB -> R, red -> P, vB -> V, vI -> U
open Go.Gk.OE renaming bx -> Y
open Go.Gk.Rds renaming cons -> Q
theorem qw {j:World} {af ag ah ai aj ak O am:Y0} {p u A B C D E G:Value} {aR aa ab ac ad ae az aA aC:Nat} {T:Y4} (ao ap aq ar au:Bool) (aG:Int) (aw ax ay:Bool) {r:Bool×Y0×Bool×Y0×Bool×Y0}
  (h:F.Tr ao af ap ag aq ah ar ai au aj aG aw ak ax O ay am=some r) (hTT:TOk [] T j) (aJ:N T j X p af) (aS:RB T j aa [V ao,p]) (aK:N T j X u ag) (aU:RB T j ab [V ap,u]) (aL:N T j X A ah) (aW:RB T j ac [V aq,A]) (aM:N T j X B ai) (aZ:RB T j ad [V ar,B]) (aN:N T j X C aj) (ba:RB T j ae [V au,C]) (hBa0:RB T j aR [R aa 0,R ab 0,R ac 0,R ad 0,R ae 0,U aG,.func (.func 141) #[] #[]]) (aO:N T j X D ak) (bb:RB T j az [V aw,D]) (aP:N T j X E O) (bc:RB T j aA [V ax,E]) (aQ:N T j X G am) (be:RB T j aC [V ay,G]):Calls Tryz.prog 113 #[R aR 0,.agg #[R az 0,R aA 0,R aC 0]] j (K fun v w=>∃bf:Nat,∃aD:Value,∃bg:Nat,∃aE:Value,∃bh:Nat,∃aF:Value,v=.agg #[R bf 0,R bg 0,R bh 0]/\St [] j w []/\I T w [Y bh [V r.2.2.2.2.1,aF],P X aF r.2.2.2.2.2,Y bg [V r.2.2.1,aE],P X aE r.2.2.2.1,Y bf [V r.1,aD],P X aD r.2.1]):=by
 refine ca2 86 Tryz.func113 Z Z Z<|have hS:=St.q j;have hZ:=Fz.q (S:=[]) (w0:=j);?_
 have hA0:I T j [Y aC [V ay,G],P X G am,Y aA [V ax,E],P X E O,Y az [V aw,D],P X D ak,Y aR [R aa 0,R ab 0,R ac 0,R ad 0,R ae 0,U aG,.func (.func 141) #[] #[]],Y ae [V au,C],P X C aj,Y ad [V ar,B],P X B ai,Y ac [V aq,A],P X A ah,Y ab [V ap,u],P X u ag,Y aa [V ao,p],P X p af]:=Q be.p (Q (N.p (an Z) aQ) (Q bc.p (Q (N.p (an Z) aP) (Q bb.p (Q (N.p (an Z) aO) (Q hBa0.p (Q ba.p (Q (N.p (an Z) aN) (Q aZ.p (Q (N.p (an Z) aM) (Q aW.p (Q (N.p (an Z) aL) (Q aU.p (Q (N.p (an Z) aK) (Q aS.p (Q (N.p (an Z) aJ) (I.nil)))))))))))))))))
 have hA:=hA0.all
 have hP:=hA0.off Z
 unfold F.Tr at h
 let m1c5:=fun (bi:Bool×Y0) (bj:Bool×Y0) (bk:Bool×Y0) (bl:Bool×Y0) (bm:Bool×Y0) (rid:Nat)=>mkM rid [(6,[],[],[],[]),(8,[],[],[],[]),(12,[8],[8],[],[]),(13,[8],[12],[],[]),(14,[],[6,13],[],[]),(15,[],[14],[],[])] [6,8,12,13,14,15] [15] [] [] [(6,fun h v x y=>∃bn:Nat,∃bo:Value,v=R bn 0/\x=[Y bn [V bi.1,bo],W X bo bi.2]/\y=[]),(8,fun h v x y=>∃f:Nat,v=R f 0/\x=[Y f [V false,Y5]]/\y=[]),(12,fun h v x y=>∃bq:Value,∃f:Nat,h=[(R f 0,[Y f [V false,Y5]],[])]/\v=R f 0/\x=[Y f [V bj.1,bq],W X bq bj.2]/\y=[]),(13,fun h v x y=>∃br:Value,∃f:Nat,h=[(R f 0,[Y f [V false,Y5]],[])]/\v=R f 0/\x=[Y f [V bk.1,br],W X br bk.2]/\y=[]),(14,fun h v x y=>∃bs:Nat,∃bt:Value,v=R bs 0/\x=[Y bs [V bl.1,bt],W X bt bl.2]/\y=[]),(15,fun h v x y=>∃bv:Nat,∃bw:Value,v=R bv 0/\x=[Y bv [V bm.1,bw],W X bw bm.2]/\y=[])] []
 exact wk
theorem sK {f:World} {ah ai aj ak O am ao ap aq ar au:Y0} {j p u A B C D E G aa ab:Value} {bk ac ad ae af ag aK aL aM aN aO aP:Nat} {T:Y4} (aw ax ay az aA:Bool) (aU:Int) (aC aD aE aF aG aJ:Bool) {r:Bool×Y0×Bool×Y0×Bool×Y0}
  (h:F.RQ aw ah ax ai ay aj az ak aA O aU aC am aD ao aE ap aF aq aG ar aJ au=some r) (hTT:TOk [] T f) (aW:N T f X j ah) (bl:RB T f ac [V aw,j]) (aZ:N T f X p ai) (bm:RB T f ad [V ax,p]) (ba:N T f X u aj) (bn:RB T f ae [V ay,u]) (bb:N T f X A ak) (bo:RB T f af [V az,A]) (bc:N T f X B O) (bq:RB T f ag [V aA,B]) (hBa0:RB T f bk [R ac 0,R ad 0,R ae 0,R af 0,R ag 0,U aU,.func (.func 141) #[] #[]]) (be:N T f X C am) (br:RB T f aK [V aC,C]) (bf:N T f X D ao) (bs:RB T f aL [V aD,D]) (bg:N T f X E ap) (bt:RB T f aM [V aE,E]) (bh:N T f X G aq) (bv:RB T f aN [V aF,G]) (bi:N T f X aa ar) (bw:RB T f aO [V aG,aa]) (bj:N T f X ab au) (bz:RB T f aP [V aJ,ab]):Calls Tryz.prog 69 #[R bk 0,.agg #[R aK 0,R aL 0,R aM 0],.agg #[R aN 0,R aO 0,R aP 0]] f (K fun v w=>∃bA:Nat,∃aQ:Value,∃bB:Nat,∃aR:Value,∃bD:Nat,∃aS:Value,v=.agg #[R bA 0,R bB 0,R bD 0]/\St [] f w []/\I T w [Y bD [V r.2.2.2.2.1,aS],P X aS r.2.2.2.2.2,Y bB [V r.2.2.1,aR],P X aR r.2.2.2.1,Y bA [V r.1,aQ],P X aQ r.2.1]):=by
 refine ca3 137 Tryz.func69 Z Z Z<|have hS:=St.q f;have hZ:=Fz.q (S:=[]) (w0:=f);?_
 have hA0:I T f [Y aP [V aJ,ab],P X ab au,Y aO [V aG,aa],P X aa ar,Y aN [V aF,G],P X G aq,Y aM [V aE,E],P X E ap,Y aL [V aD,D],P X D ao,Y aK [V aC,C],P X C am,Y bk [R ac 0,R ad 0,R ae 0,R af 0,R ag 0,U aU,.func (.func 141) #[] #[]],Y ag [V aA,B],P X B O,Y af [V az,A],P X A ak,Y ae [V ay,u],P X u aj,Y ad [V ax,p],P X p ai,Y ac [V aw,j],P X j ah]:=Q bz.p (Q (N.p (an Z) bj) (Q bw.p (Q (N.p (an Z) bi) (Q bv.p (Q (N.p (an Z) bh) (Q bt.p (Q (N.p (an Z) bg) (Q bs.p (Q (N.p (an Z) bf) (Q br.p (Q (N.p (an Z) be) (Q hBa0.p (Q bq.p (Q (N.p (an Z) bc) (Q bo.p (Q (N.p (an Z) bb) (Q bn.p (Q (N.p (an Z) ba) (Q bm.p (Q (N.p (an Z) aZ) (Q bl.p (Q (N.p (an Z) aW) (I.nil)))))))))))))))))))))))
 have hA:=hA0.all
 have hP:=hA0.off Z
 unfold F.RQ at h
 exact wk
theorem rS {f:World} {G S T aa ab ac ad ae:Y0} {j p u A B C D E:Value} {aD ao ap aq ar au aw ax ay:Nat} (af ag ah ai aj:Bool) (az:Int) (ak O am:Bool) {r:Y0×Y0×Bool}
  (h:F.RZ af G ag S ah T ai aa aj ab az ak ac O ad am ae=some r) (aE:N [] f X j G) (aO:RB [] f ao [V af,j]) (aF:N [] f X p S) (aP:RB [] f ap [V ag,p]) (aG:N [] f X u T) (aQ:RB [] f aq [V ah,u]) (aJ:N [] f X A aa) (aR:RB [] f ar [V ai,A]) (aK:N [] f X B ab) (aS:RB [] f au [V aj,B]) (hBa0:RB [] f aD [R ao 0,R ap 0,R aq 0,R ar 0,R au 0,U az,.func (.func 141) #[] #[]]) (aL:N [] f X C ac) (aU:RB [] f aw [V ak,C]) (aM:N [] f X D ad) (aW:RB [] f ax [V O,D]) (aN:N [] f X E ae) (aZ:RB [] f ay [V am,E]):Calls Tryz.prog 73 #[R aD 0,.agg #[R aw 0,R ax 0,R ay 0]] f (K fun v w=>∃aA aC:Value,v=.agg #[aA,aC,V r.2.2]/\St [] f w [W X aA r.1,W X aC r.2.1]):=by
 refine ca2 40 Tryz.func73 Z Z Z<|have hS:=St.q f;?_
 unfold F.RZ at h
 exact wk
theorem rz {f:World} {ah ai aj ak O am ao ap aq ar au:Y0} {j p u A B C D E G aa ab:Value} {bl ac ad ae af ag aK aL aM aN aO aP:Nat} {T:Y4} (aw ax ay az aA:Bool) (aU:Int) (aC aD aE a2 aF aG aJ:Bool) {r:Bool×Y0×Bool×Y0×Bool×Y0}
  (h:F.RY aw ah ax ai ay aj az ak aA O aU aC am aD ao aE ap a2 aF aq aG ar aJ au=some r) (hTT:TOk [] T f) (aZ:N T f X j ah) (bm:RB T f ac [V aw,j]) (ba:N T f X p ai) (bn:RB T f ad [V ax,p]) (bb:N T f X u aj) (bo:RB T f ae [V ay,u]) (bc:N T f X A ak) (bq:RB T f af [V az,A]) (be:N T f X B O) (br:RB T f ag [V aA,B]) (hBa0:RB T f bl [R ac 0,R ad 0,R ae 0,R af 0,R ag 0,U aU,.func (.func 141) #[] #[]]) (bf:N T f X C am) (bs:RB T f aK [V aC,C]) (bg:N T f X D ao) (bt:RB T f aL [V aD,D]) (bh:N T f X E ap) (bv:RB T f aM [V aE,E]) (bi:N T f X G aq) (bw:RB T f aN [V aF,G]) (bj:N T f X aa ar) (bz:RB T f aO [V aG,aa]) (bk:N T f X ab au) (bA:RB T f aP [V aJ,ab]):Calls Tryz.prog 141 #[R bl 0,.agg #[R aK 0,R aL 0,R aM 0],V a2,.agg #[R aN 0,R aO 0,R aP 0]] f (K fun v w=>∃bB:Nat,∃aQ:Value,∃bD:Nat,∃aR:Value,∃bF:Nat,∃aS:Value,v=.agg #[R bB 0,R bD 0,R bF 0]/\St [] f w []/\I T w [Y bF [V r.2.2.2.2.1,aS],P X aS r.2.2.2.2.2,Y bD [V r.2.2.1,aR],P X aR r.2.2.2.1,Y bB [V r.1,aQ],P X aQ r.2.1]):=by
 refine ca4 18 Tryz.func141 Z Z Z<|have hS:=St.q f;have hZ:=Fz.q (S:=[]) (w0:=f);?_
 have hA0:I T f [Y aP [V aJ,ab],P X ab au,Y aO [V aG,aa],P X aa ar,Y aN [V aF,G],P X G aq,Y aM [V aE,E],P X E ap,Y aL [V aD,D],P X D ao,Y aK [V aC,C],P X C am,Y bl [R ac 0,R ad 0,R ae 0,R af 0,R ag 0,U aU,.func (.func 141) #[] #[]],Y ag [V aA,B],P X B O,Y af [V az,A],P X A ak,Y ae [V ay,u],P X u aj,Y ad [V ax,p],P X p ai,Y ac [V aw,j],P X j ah]:=Q bA.p (Q (N.p (an Z) bk) (Q bz.p (Q (N.p (an Z) bj) (Q bw.p (Q (N.p (an Z) bi) (Q bv.p (Q (N.p (an Z) bh) (Q bt.p (Q (N.p (an Z) bg) (Q bs.p (Q (N.p (an Z) bf) (Q hBa0.p (Q br.p (Q (N.p (an Z) be) (Q bq.p (Q (N.p (an Z) bc) (Q bo.p (Q (N.p (an Z) bb) (Q bn.p (Q (N.p (an Z) ba) (Q bm.p (Q (N.p (an Z) aZ) (I.nil)))))))))))))))))))))))
 have hA:=hA0.all
 have hP:=hA0.off Z
 unfold F.RY at h
 let z1:=fun bG aW=>mkZ 5 (F.Xk) (fun g L w=>∃bH bI bK bL bM bN,L=[(5,R bG 0),(8,R aW 0)]/\SfT [] T f w [Y bM [V g.2.2.2.2.1,bN],P X bN g.2.2.2.2.2,Y bK [V g.2.2.1,bL],P X bL g.2.2.2.1,Y bH [V g.1,bI],P X bI g.2.1] [Y bG [R bH 0,R bK 0,R bM 0],Y aW [.pointer none,.pointer none,.pointer none]]) [(5,R bG 0),(8,R aW 0)] [Y aW [.pointer none,.pointer none,.pointer none]] []
 exact wk
end Go.Proofs
