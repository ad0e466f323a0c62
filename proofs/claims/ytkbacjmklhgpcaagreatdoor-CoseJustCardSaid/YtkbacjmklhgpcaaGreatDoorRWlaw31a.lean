import Derived.Test.YtkbacjmklhgpcaaGreatDoorRW0
import Derived.Test.YtkbacjmklhgpcaaGreatDoorRAw
import Derived.Test.YtkbacjmklhgpcaaGreatDoorGkFman
import Derived.Test.YtkbacjmklhgpcaaGreatDoorRWcborc
import Derived.Test.YtkbacjmklhgpcaaGreatDoorRWcoseb
import Derived.Test.YtkbacjmklhgpcaaGreatDoorRWjws
import Derived.Test.YtkbacjmklhgpcaaGreatDoorRWkeyset
set_option linter.unusedVariables false
set_option linter.unusedSimpArgs false
set_option linter.unusedSectionVars false
set_option maxRecDepth 20000
set_option maxHeartbeats 20000000
namespace Go.Proofs
open Go Go.RowKit Go.Gk
open Go.Gk renaming RP -> O, Ret -> N, aq -> K, e64 -> H, e8 -> I, eP -> J, own -> W, pB -> Q, red -> P, vB -> U, vI -> V
open Go.Gk.OE renaming bx -> Y
theorem A7 {f:World} {a0 a1:L01} {j p:Value} {r:Bool}
  (h:F.TX a0 a1=some r) (u:O [] f I j a0) (A:O [] f I p a1):Calls Tryz.prog 10 #[j,p] f (N fun v w=>v=U r/\St [] f w []):=by
 refine ca2 26 Tryz.func10 Z Z Z<|have hS:=St.r f;?_
 unfold F.TX at h
 let i1:=mkI (F.abR a0 a1) (fun s L w=>L=[(0,j),(1,p),(5,V s)]/\St [] f w [])
 exact wk
theorem yW {f:World}  {r:Bool}
  (h:F.X9 =some r) (hT:TB [] f):Calls Tryz.prog 5 #[] f (N fun v w=>v=U r/\St [] f w []):=by
 refine dY 113 Tryz.func5 Z Z Z<|have hS:=St.r f;kj [] trivial ?_
 unfold F.X9 at h
 let j1:=mkJ 4 (F.T1) (fun g L w=>L=[(67,U g)]/\St [] f w []) [] []
 exact wk
theorem Cn {p:World} {a0:L01} {u:Value} {r:L01×Bool}
  (h:F.YD a0=some r) (hT:TB [] p) (A:O [] p I u a0):Calls Tryz.prog 8 #[u] p (N fun v w=>∃u0:Value,v=.tuple #[u0,U r.2]/\St [] p w [P I u0 r.1]):=by
 refine ca1 38 Tryz.func8 Z Z Z<|have hS:=St.r p;?_
 unfold F.YD at h
 let j1:=fun f (j:List (Int×UInt64×L01×Int)×Int×Int)=>mkJ 4 (F.abx j) (fun g L w=>L=[(4,f),(20,U g)]/\St [] p w [W (J eI (J H (J eS eI))) f j.1]) [(4,f)] [W (J eI (J H (J eS eI))) f j.1]
 let j2:=fun f (j:List (Int×UInt64×L01×Int)×Int×Int)=>mkJ 8 (F.abk j) (fun g L w=>L=[(4,f),(7,V g)]/\St [] p w [W (J eI (J H (J eS eI))) f j.1]) [(4,f)] [W (J eI (J H (J eS eI))) f j.1]
 exact wk
theorem xn {f:World} {a0:List L01} {j:Value} (a1:L01) {r:Bool}
  (h:F.Zj a0 a1=some r) (p:O [] f eS j a0):Calls Tryz.prog 11 #[j,vS a1] f (N fun v w=>v=U r/\St [] f w []):=by
 refine ca2 18 Tryz.func11 Z Z Z<|have hS:=St.r f;?_
 unfold F.Zj at h
 let i1:=mkI (F.aaf a0 a1) (fun s L w=>L=[(0,j),(1,vS a1),(5,V s)]/\St [] f w [])
 exact wk
theorem c_law31_CoseJust {j:World} {a0 a1 aa ab ac ad ae:L01} {a3:List L01} {aj ak p u A B C ai:Value} (D E:Int) {r:Bool}
  (h:F.aaA a0 a1 D E aa ab ac ad ae a3=some r) (hT:TB [] j) (ar:O [] j I aj a0) (au:O [] j I ak a1) (al:O [] j I p aa) (am:O [] j I u ab) (an:O [] j I A ac) (ap:O [] j I B ad) (K:O [] j I C ae) (av:O [] j eS ai a3):Calls Tryz.prog 3 #[aj,ak,.agg #[V D,V E,p,u,A,B,C],ai] j (N fun v w=>v=U r/\St [] j w []):=by
 refine ca4 155 Tryz.func3 Z Z Z<|have hS:=St.r j;?_
 unfold F.aaA at h
 let j1:=fun af S T ag ah (G:L01×Int) (f:Int×L01×L01×L01×L01×Int)=>mkJ 13 (F.Uc D E aa ab ac ad ae a3 f G) (fun g L w=>L=[(3,ai),(6,Q af 0),(9,V f.1),(11,ag),(12,ah),(13,S),(15,T),(16,V G.2),(119,U g)]/\St [] j w [Y af [V D,V E,p,u,A,B,C],W I ag f.2.2.1,W I ah f.2.2.2.1,W I S f.2.2.2.2.1,W I T G.1]) [(6,Q af 0),(9,V f.1),(11,ag),(12,ah),(13,S),(15,T),(16,V G.2)] [Y af [V D,V E,p,u,A,B,C],W I ag f.2.2.1,W I ah f.2.2.2.1,W I S f.2.2.2.2.1,W I T G.1]
 exact wk
theorem v7 {f:World} {a0 a1 a2 a3:L01} {u j p A:Value} (a4 a5:Bool) {r:List (Int×UInt64×L01×Int)}
  (h:F.abL a0 a1 a2 a3 a4 a5=some r) (D:O [] f I u a0) (E:O [] f I j a1) (G:O [] f I p a2) (S:O [] f I A a3):Calls Tryz.prog 14 #[u,j,p,A,U a4,U a5] f (N fun v w=>St [] f w [W (J eI (J H (J eS eI))) v r]):=by
 refine ca6 48 Tryz.func14 Z Z Z<|have hS:=St.r f;?_
 unfold F.abL at h
 let j1:=mkJ 5 (F.abh a0 a3 a4 a1 a2) (fun (g:(List (Int×UInt64×L01×Int))) L w=>∃C,L=[(0,u),(1,j),(2,p),(3,A),(4,U a4),(13,C)]/\St [] f w [W (J eI (J H (J eS eI))) C g]) [] []
 let j2:=mkJ 9 (F.aaZ a1 a2) (fun (g:(List (Int×UInt64×L01×Int))) L w=>∃B,L=[(1,j),(2,p),(13,B)]/\St [] f w [W (J eI (J H (J eS eI))) B g]) [] []
 exact wk
theorem zn {j:World} {a0 a1 a2 ac ad ae af ag:L01} {a4:List L01} {ak al am u A B C D an:Value} (E G:Int) {r:Bool}
  (h:F.abF a0 a1 a2 E G ac ad ae af ag a4=some r) (hT:TB [] j) (aw:O [] j I ak a0) (ay:O [] j I al a1) (az:O [] j I am a2) (ap:O [] j I u ac) (K:O [] j I A ad) (ar:O [] j I B ae) (au:O [] j I C af) (av:O [] j I D ag) (aA:O [] j eS an a4):Calls Tryz.prog 15 #[ak,al,am,.agg #[V E,V G,u,A,B,C,D],an] j (N fun v w=>v=U r/\St [] j w []):=by
 refine ca5 97 Tryz.func15 Z Z Z<|have hS:=St.r j;?_
 unfold F.abF at h
 let j1:=fun ah S T aa ab ai aj (f:Int×L01×L01×L01×L01×Int) (p:Int×L01×L01×L01×L01×Int)=>mkJ 5 (F.aaW a0 a1 a2 E G ac ad ae af ag a4 p f) (fun g L w=>L=[(0,ak),(1,al),(2,am),(4,an),(8,Q ah 0),(11,V p.1),(13,ai),(14,aj),(15,S),(17,V f.1),(19,T),(20,aa),(21,ab),(52,U g)]/\St [] j w [Y ah [V E,V G,u,A,B,C,D],W I ai p.2.2.1,W I aj p.2.2.2.1,W I S p.2.2.2.2.1,W I T f.2.2.1,W I aa f.2.2.2.1,W I ab f.2.2.2.2.1]) [(8,Q ah 0),(11,V p.1),(13,ai),(14,aj),(15,S),(17,V f.1),(19,T),(20,aa),(21,ab)] [Y ah [V E,V G,u,A,B,C,D],W I ai p.2.2.1,W I aj p.2.2.2.1,W I S p.2.2.2.2.1,W I T f.2.2.1,W I aa f.2.2.2.1,W I ab f.2.2.2.2.1]
 exact wk
end Go.Proofs
