import Derived.Test.YtkbacjmklhgpcaaGreatDoorSW0
import Derived.Test.YtkbacjmklhgpcaaGreatDoorSAw
import Derived.Test.YtkbacjmklhgpcaaGreatDoorQGkFman
import Derived.Test.YtkbacjmklhgpcaaGreatDoorSWbignumc
import Derived.Test.YtkbacjmklhgpcaaGreatDoorSWcurvea
set_option linter.unusedVariables false
set_option linter.unusedSimpArgs false
set_option linter.unusedSectionVars false
set_option maxRecDepth 20000
set_option maxHeartbeats 20000000
namespace Go.Proofs
open Go Go.RowKit Go.Gk
open Go.Gk renaming RP -> O, Ret -> N, ar -> J, e32 -> X, own -> W, pB -> Q, red -> P, vB -> U, vI -> V
open Go.Gk.OE renaming bx -> Y
open Go.Gk.Rds renaming cons -> R
theorem qQ {j:World} {af ag ah ai aj ak al am:L00} {p u A B C D E G:Value} {aS aa ab ac ad ae az aA aC:Nat} {T:L02} (an ap aq J au:Bool) (aG:Int) (av ax ay:Bool) {r:Bool×L00×Bool×L00×Bool×L00}
  (h:F.VY an af ap ag aq ah J ai au aj aG av ak ax al ay am=some r) (hTT:TOk [] T j) (aJ:O T j X p af) (aT:RB T j aa [U an,p]) (aK:O T j X u ag) (aU:RB T j ab [U ap,u]) (aL:O T j X A ah) (aW:RB T j ac [U aq,A]) (aM:O T j X B ai) (aZ:RB T j ad [U J,B]) (aN:O T j X C aj) (ba:RB T j ae [U au,C]) (hBa0:RB T j aS [Q aa 0,Q ab 0,Q ac 0,Q ad 0,Q ae 0,V aG,.func (.func 181) #[] #[]]) (aO:O T j X D ak) (bb:RB T j az [U av,D]) (aP:O T j X E al) (bc:RB T j aA [U ax,E]) (aR:O T j X G am) (bd:RB T j aC [U ay,G]):Calls Tryz.prog 162 #[Q aS 0,.agg #[Q az 0,Q aA 0,Q aC 0]] j (N fun v w=>∃be:Nat,∃aD:Value,∃bf:Nat,∃aE:Value,∃bg:Nat,∃aF:Value,v=.agg #[Q be 0,Q bf 0,Q bg 0]/\St [] j w []/\Rds T w [Y bg [U r.2.2.2.2.1,aF],P X aF r.2.2.2.2.2,Y bf [U r.2.2.1,aE],P X aE r.2.2.2.1,Y be [U r.1,aD],P X aD r.2.1]):=by
 refine ca2 86 Tryz.func162 Z Z Z<|have hS:=St.r j;have hZ:=Fz.r (S:=[]) (w0:=j);?_
 have hA0:Rds T j [Y aC [U ay,G],P X G am,Y aA [U ax,E],P X E al,Y az [U av,D],P X D ak,Y aS [Q aa 0,Q ab 0,Q ac 0,Q ad 0,Q ae 0,V aG,.func (.func 181) #[] #[]],Y ae [U au,C],P X C aj,Y ad [U J,B],P X B ai,Y ac [U aq,A],P X A ah,Y ab [U ap,u],P X u ag,Y aa [U an,p],P X p af]:=R bd.q (R (O.q (ao Z) aR) (R bc.q (R (O.q (ao Z) aP) (R bb.q (R (O.q (ao Z) aO) (R hBa0.q (R ba.q (R (O.q (ao Z) aN) (R aZ.q (R (O.q (ao Z) aM) (R aW.q (R (O.q (ao Z) aL) (R aU.q (R (O.q (ao Z) aK) (R aT.q (R (O.q (ao Z) aJ) (Rds.nil)))))))))))))))))
 have hA:=hA0.all
 have hP:=hA0.off Z
 unfold F.VY at h
 let m1c5:=fun (bh:Bool×L00) (bi:Bool×L00) (bj:Bool×L00) (bk:Bool×L00) (bl:Bool×L00) (rid:Nat)=>mkM rid [(6,[],[],[],[]),(8,[],[],[],[]),(12,[8],[8],[],[]),(13,[8],[12],[],[]),(14,[],[6,13],[],[]),(15,[],[14],[],[])] [6,8,12,13,14,15] [15] [] [] [(6,fun h v x y=>∃bm:Nat,∃bn:Value,v=Q bm 0/\x=[Y bm [U bh.1,bn],W X bn bh.2]/\y=[]),(8,fun h v x y=>∃f:Nat,v=Q f 0/\x=[Y f [U false,L03]]/\y=[]),(12,fun h v x y=>∃bo:Value,∃f:Nat,h=[(Q f 0,[Y f [U false,L03]],[])]/\v=Q f 0/\x=[Y f [U bi.1,bo],W X bo bi.2]/\y=[]),(13,fun h v x y=>∃bp:Value,∃f:Nat,h=[(Q f 0,[Y f [U false,L03]],[])]/\v=Q f 0/\x=[Y f [U bj.1,bp],W X bp bj.2]/\y=[]),(14,fun h v x y=>∃br:Nat,∃bs:Value,v=Q br 0/\x=[Y br [U bk.1,bs],W X bs bk.2]/\y=[]),(15,fun h v x y=>∃bt:Nat,∃bu:Value,v=Q bt 0/\x=[Y bt [U bl.1,bu],W X bu bl.2]/\y=[])] []
 exact wk
theorem tz {f:World} {ah ai aj ak al am an ap aq J au:L00} {j p u A B C D E G aa ab:Value} {bj ac ad ae af ag aK aL aM aN aO aP:Nat} {T:L02} (av ax ay az aA:Bool) (aU:Int) (aC aD aE aF aG aJ:Bool) {r:Bool×L00×Bool×L00×Bool×L00}
  (h:F.Uq av ah ax ai ay aj az ak aA al aU aC am aD an aE ap aF aq aG J aJ au=some r) (hTT:TOk [] T f) (aW:O T f X j ah) (bk:RB T f ac [U av,j]) (aZ:O T f X p ai) (bl:RB T f ad [U ax,p]) (ba:O T f X u aj) (bm:RB T f ae [U ay,u]) (bb:O T f X A ak) (bn:RB T f af [U az,A]) (bc:O T f X B al) (bo:RB T f ag [U aA,B]) (hBa0:RB T f bj [Q ac 0,Q ad 0,Q ae 0,Q af 0,Q ag 0,V aU,.func (.func 181) #[] #[]]) (bd:O T f X C am) (bp:RB T f aK [U aC,C]) (be:O T f X D an) (br:RB T f aL [U aD,D]) (bf:O T f X E ap) (bs:RB T f aM [U aE,E]) (bg:O T f X G aq) (bt:RB T f aN [U aF,G]) (bh:O T f X aa J) (bu:RB T f aO [U aG,aa]) (bi:O T f X ab au) (bv:RB T f aP [U aJ,ab]):Calls Tryz.prog 117 #[Q bj 0,.agg #[Q aK 0,Q aL 0,Q aM 0],.agg #[Q aN 0,Q aO 0,Q aP 0]] f (N fun v w=>∃bw:Nat,∃aR:Value,∃bz:Nat,∃aS:Value,∃bC:Nat,∃aT:Value,v=.agg #[Q bw 0,Q bz 0,Q bC 0]/\St [] f w []/\Rds T w [Y bC [U r.2.2.2.2.1,aT],P X aT r.2.2.2.2.2,Y bz [U r.2.2.1,aS],P X aS r.2.2.2.1,Y bw [U r.1,aR],P X aR r.2.1]):=by
 refine ca3 137 Tryz.func117 Z Z Z<|have hS:=St.r f;have hZ:=Fz.r (S:=[]) (w0:=f);?_
 have hA0:Rds T f [Y aP [U aJ,ab],P X ab au,Y aO [U aG,aa],P X aa J,Y aN [U aF,G],P X G aq,Y aM [U aE,E],P X E ap,Y aL [U aD,D],P X D an,Y aK [U aC,C],P X C am,Y bj [Q ac 0,Q ad 0,Q ae 0,Q af 0,Q ag 0,V aU,.func (.func 181) #[] #[]],Y ag [U aA,B],P X B al,Y af [U az,A],P X A ak,Y ae [U ay,u],P X u aj,Y ad [U ax,p],P X p ai,Y ac [U av,j],P X j ah]:=R bv.q (R (O.q (ao Z) bi) (R bu.q (R (O.q (ao Z) bh) (R bt.q (R (O.q (ao Z) bg) (R bs.q (R (O.q (ao Z) bf) (R br.q (R (O.q (ao Z) be) (R bp.q (R (O.q (ao Z) bd) (R hBa0.q (R bo.q (R (O.q (ao Z) bc) (R bn.q (R (O.q (ao Z) bb) (R bm.q (R (O.q (ao Z) ba) (R bl.q (R (O.q (ao Z) aZ) (R bk.q (R (O.q (ao Z) aW) (Rds.nil)))))))))))))))))))))))
 have hA:=hA0.all
 have hP:=hA0.off Z
 unfold F.Uq at h
 exact wk
theorem sG {f:World} {G S T aa ab ac ad ae:L00} {j p u A B C D E:Value} {aD an ap aq J au av ax ay:Nat} (af ag ah ai aj:Bool) (az:Int) (ak al am:Bool) {r:L00×L00×Bool}
  (h:F.UC af G ag S ah T ai aa aj ab az ak ac al ad am ae=some r) (aE:O [] f X j G) (aO:RB [] f an [U af,j]) (aF:O [] f X p S) (aP:RB [] f ap [U ag,p]) (aG:O [] f X u T) (aR:RB [] f aq [U ah,u]) (aJ:O [] f X A aa) (aS:RB [] f J [U ai,A]) (aK:O [] f X B ab) (aT:RB [] f au [U aj,B]) (hBa0:RB [] f aD [Q an 0,Q ap 0,Q aq 0,Q J 0,Q au 0,V az,.func (.func 181) #[] #[]]) (aL:O [] f X C ac) (aU:RB [] f av [U ak,C]) (aM:O [] f X D ad) (aW:RB [] f ax [U al,D]) (aN:O [] f X E ae) (aZ:RB [] f ay [U am,E]):Calls Tryz.prog 121 #[Q aD 0,.agg #[Q av 0,Q ax 0,Q ay 0]] f (N fun v w=>∃aA aC:Value,v=.agg #[aA,aC,U r.2.2]/\St [] f w [W X aA r.1,W X aC r.2.1]):=by
 refine ca2 40 Tryz.func121 Z Z Z<|have hS:=St.r f;?_
 unfold F.UC at h
 exact wk
theorem se {f:World} {ah ai aj ak al am an ap aq J au:L00} {j p u A B C D E G aa ab:Value} {bk ac ad ae af ag aK aL aM aN aO aP:Nat} {T:L02} (av ax ay az aA:Bool) (aU:Int) (aC aD aE a2 aF aG aJ:Bool) {r:Bool×L00×Bool×L00×Bool×L00}
  (h:F.Uz av ah ax ai ay aj az ak aA al aU aC am aD an aE ap a2 aF aq aG J aJ au=some r) (hTT:TOk [] T f) (aZ:O T f X j ah) (bl:RB T f ac [U av,j]) (ba:O T f X p ai) (bm:RB T f ad [U ax,p]) (bb:O T f X u aj) (bn:RB T f ae [U ay,u]) (bc:O T f X A ak) (bo:RB T f af [U az,A]) (bd:O T f X B al) (bp:RB T f ag [U aA,B]) (hBa0:RB T f bk [Q ac 0,Q ad 0,Q ae 0,Q af 0,Q ag 0,V aU,.func (.func 181) #[] #[]]) (be:O T f X C am) (br:RB T f aK [U aC,C]) (bf:O T f X D an) (bs:RB T f aL [U aD,D]) (bg:O T f X E ap) (bt:RB T f aM [U aE,E]) (bh:O T f X G aq) (bu:RB T f aN [U aF,G]) (bi:O T f X aa J) (bv:RB T f aO [U aG,aa]) (bj:O T f X ab au) (bw:RB T f aP [U aJ,ab]):Calls Tryz.prog 181 #[Q bk 0,.agg #[Q aK 0,Q aL 0,Q aM 0],U a2,.agg #[Q aN 0,Q aO 0,Q aP 0]] f (N fun v w=>∃bz:Nat,∃aR:Value,∃bC:Nat,∃aS:Value,∃bD:Nat,∃aT:Value,v=.agg #[Q bz 0,Q bC 0,Q bD 0]/\St [] f w []/\Rds T w [Y bD [U r.2.2.2.2.1,aT],P X aT r.2.2.2.2.2,Y bC [U r.2.2.1,aS],P X aS r.2.2.2.1,Y bz [U r.1,aR],P X aR r.2.1]):=by
 refine ca4 18 Tryz.func181 Z Z Z<|have hS:=St.r f;have hZ:=Fz.r (S:=[]) (w0:=f);?_
 have hA0:Rds T f [Y aP [U aJ,ab],P X ab au,Y aO [U aG,aa],P X aa J,Y aN [U aF,G],P X G aq,Y aM [U aE,E],P X E ap,Y aL [U aD,D],P X D an,Y aK [U aC,C],P X C am,Y bk [Q ac 0,Q ad 0,Q ae 0,Q af 0,Q ag 0,V aU,.func (.func 181) #[] #[]],Y ag [U aA,B],P X B al,Y af [U az,A],P X A ak,Y ae [U ay,u],P X u aj,Y ad [U ax,p],P X p ai,Y ac [U av,j],P X j ah]:=R bw.q (R (O.q (ao Z) bj) (R bv.q (R (O.q (ao Z) bi) (R bu.q (R (O.q (ao Z) bh) (R bt.q (R (O.q (ao Z) bg) (R bs.q (R (O.q (ao Z) bf) (R br.q (R (O.q (ao Z) be) (R hBa0.q (R bp.q (R (O.q (ao Z) bd) (R bo.q (R (O.q (ao Z) bc) (R bn.q (R (O.q (ao Z) bb) (R bm.q (R (O.q (ao Z) ba) (R bl.q (R (O.q (ao Z) aZ) (Rds.nil)))))))))))))))))))))))
 have hA:=hA0.all
 have hP:=hA0.off Z
 unfold F.Uz at h
 let z1:=fun bE aW=>mkZ 5 (F.aaw) (fun g L w=>∃bF bG bI bJ bK bM,L=[(5,Q bE 0),(8,Q aW 0)]/\SfT [] T f w [Y bK [U g.2.2.2.2.1,bM],P X bM g.2.2.2.2.2,Y bI [U g.2.2.1,bJ],P X bJ g.2.2.2.1,Y bF [U g.1,bG],P X bG g.2.1] [Y bE [Q bF 0,Q bI 0,Q bK 0],Y aW [.pointer none,.pointer none,.pointer none]]) [(5,Q bE 0),(8,Q aW 0)] [Y aW [.pointer none,.pointer none,.pointer none]] []
 exact wk
end Go.Proofs
