import Derived.Test.YtkbacjmklhgpcaaGreatDoorSW0
import Derived.Test.YtkbacjmklhgpcaaGreatDoorSAw
import Derived.Test.YtkbacjmklhgpcaaGreatDoorQGkFman
import Derived.Test.YtkbacjmklhgpcaaGreatDoorSWcborc
import Derived.Test.YtkbacjmklhgpcaaGreatDoorSWcoseb
import Derived.Test.YtkbacjmklhgpcaaGreatDoorSWjws
import Derived.Test.YtkbacjmklhgpcaaGreatDoorSWkeyset
set_option linter.unusedVariables false
set_option linter.unusedSimpArgs false
set_option linter.unusedSectionVars false
set_option maxRecDepth 20000
set_option maxHeartbeats 20000000
namespace Go.Proofs
open Go Go.RowKit Go.Gk
open Go.Gk renaming RP -> O, Ret -> N, ar -> J, e64 -> H, e8 -> K, eP -> I, own -> W, pB -> Q, red -> P, vB -> U, vI -> V
open Go.Gk.OE renaming bx -> Y
theorem A6 {f:World} {a0 a1:L01} {j p:Value} {r:Bool}
  (h:F.TG a0 a1=some r) (u:O [] f K j a0) (A:O [] f K p a1):Calls Tryz.prog 10 #[j,p] f (N fun v w=>v=U r/\St [] f w []):=by
 refine ca2 26 Tryz.func10 Z Z Z<|have hS:=St.r f;?_
 unfold F.TG at h
 let i1:=mkI (F.abK a0 a1) (fun s L w=>L=[(0,j),(1,p),(5,V s)]/\St [] f w [])
 exact wk
theorem yK {f:World}  {r:Bool}
  (h:F.Wv =some r) (hT:TB [] f):Calls Tryz.prog 5 #[] f (N fun v w=>v=U r/\St [] f w []):=by
 refine dN 113 Tryz.func5 Z Z Z<|have hS:=St.r f;km [] trivial ?_
 unfold F.Wv at h
 let j1:=mkJ 4 (F.TX) (fun g L w=>L=[(67,U g)]/\St [] f w []) [] []
 exact wk
theorem Cl {p:World} {a0:L01} {u:Value} {r:L01×Bool}
  (h:F.aa6 a0=some r) (hT:TB [] p) (A:O [] p K u a0):Calls Tryz.prog 8 #[u] p (N fun v w=>∃u0:Value,v=.tuple #[u0,U r.2]/\St [] p w [P K u0 r.1]):=by
 refine ca1 38 Tryz.func8 Z Z Z<|have hS:=St.r p;?_
 unfold F.aa6 at h
 let j1:=fun f (j:List (Int×UInt64×L01×Int)×Int×Int)=>mkJ 4 (F.abs j) (fun g L w=>L=[(4,f),(20,U g)]/\St [] p w [W (I eI (I H (I eS eI))) f j.1]) [(4,f)] [W (I eI (I H (I eS eI))) f j.1]
 let j2:=fun f (j:List (Int×UInt64×L01×Int)×Int×Int)=>mkJ 8 (F.abg j) (fun g L w=>L=[(4,f),(7,V g)]/\St [] p w [W (I eI (I H (I eS eI))) f j.1]) [(4,f)] [W (I eI (I H (I eS eI))) f j.1]
 exact wk
theorem xc {f:World} {a0:List L01} {j:Value} (a1:L01) {r:Bool}
  (h:F.abn a0 a1=some r) (p:O [] f eS j a0):Calls Tryz.prog 11 #[j,vS a1] f (N fun v w=>v=U r/\St [] f w []):=by
 refine ca2 18 Tryz.func11 Z Z Z<|have hS:=St.r f;?_
 unfold F.abn at h
 let i1:=mkI (F.abB a0 a1) (fun s L w=>L=[(0,j),(1,vS a1),(5,V s)]/\St [] f w [])
 exact wk
theorem uD {j:World} {a0 a1 aa ab ac ad ae:L01} {a3:List L01} {aj ak p u A B C ai:Value} (D E:Int) {r:Bool}
  (h:F.abF a0 a1 D E aa ab ac ad ae a3=some r) (hT:TB [] j) (J:O [] j K aj a0) (au:O [] j K ak a1) (al:O [] j K p aa) (am:O [] j K u ab) (an:O [] j K A ac) (ap:O [] j K B ad) (aq:O [] j K C ae) (av:O [] j eS ai a3):Calls Tryz.prog 3 #[aj,ak,.agg #[V D,V E,p,u,A,B,C],ai] j (N fun v w=>v=U r/\St [] j w []):=by
 refine ca4 155 Tryz.func3 Z Z Z<|have hS:=St.r j;?_
 unfold F.abF at h
 let j1:=fun af S T ag ah (G:L01×Int) (f:Int×L01×L01×L01×L01×Int)=>mkJ 13 (F.UD D E aa ab ac ad ae a3 f G) (fun g L w=>L=[(3,ai),(6,Q af 0),(9,V f.1),(11,ag),(12,ah),(13,S),(15,T),(16,V G.2),(119,U g)]/\St [] j w [Y af [V D,V E,p,u,A,B,C],W K ag f.2.2.1,W K ah f.2.2.2.1,W K S f.2.2.2.2.1,W K T G.1]) [(6,Q af 0),(9,V f.1),(11,ag),(12,ah),(13,S),(15,T),(16,V G.2)] [Y af [V D,V E,p,u,A,B,C],W K ag f.2.2.1,W K ah f.2.2.2.1,W K S f.2.2.2.2.1,W K T G.1]
 exact wk
theorem vR {f:World} {a0 a1 a2 a3:L01} {u j p A:Value} (a4 a5:Bool) {r:List (Int×UInt64×L01×Int)}
  (h:F.VL a0 a1 a2 a3 a4 a5=some r) (D:O [] f K u a0) (E:O [] f K j a1) (G:O [] f K p a2) (S:O [] f K A a3):Calls Tryz.prog 14 #[u,j,p,A,U a4,U a5] f (N fun v w=>St [] f w [W (I eI (I H (I eS eI))) v r]):=by
 refine ca6 48 Tryz.func14 Z Z Z<|have hS:=St.r f;?_
 unfold F.VL at h
 let j1:=mkJ 5 (F.aar a0 a3 a4 a1 a2) (fun (g:(List (Int×UInt64×L01×Int))) L w=>∃C,L=[(0,u),(1,j),(2,p),(3,A),(4,U a4),(13,C)]/\St [] f w [W (I eI (I H (I eS eI))) C g]) [] []
 let j2:=mkJ 9 (F.ZW a1 a2) (fun (g:(List (Int×UInt64×L01×Int))) L w=>∃B,L=[(1,j),(2,p),(13,B)]/\St [] f w [W (I eI (I H (I eS eI))) B g]) [] []
 exact wk
theorem ze {j:World} {a0 a1 a2 ac ad ae af ag:L01} {a4:List L01} {ak al am u A B C D an:Value} (E G:Int) {r:Bool}
  (h:F.Wi a0 a1 a2 E G ac ad ae af ag a4=some r) (hT:TB [] j) (ax:O [] j K ak a0) (ay:O [] j K al a1) (az:O [] j K am a2) (ap:O [] j K u ac) (aq:O [] j K A ad) (J:O [] j K B ae) (au:O [] j K C af) (av:O [] j K D ag) (aA:O [] j eS an a4):Calls Tryz.prog 15 #[ak,al,am,.agg #[V E,V G,u,A,B,C,D],an] j (N fun v w=>v=U r/\St [] j w []):=by
 refine ca5 97 Tryz.func15 Z Z Z<|have hS:=St.r j;?_
 unfold F.Wi at h
 let j1:=fun ah S T aa ab ai aj (f:Int×L01×L01×L01×L01×Int) (p:Int×L01×L01×L01×L01×Int)=>mkJ 5 (F.Ws a0 a1 a2 E G ac ad ae af ag a4 p f) (fun g L w=>L=[(0,ak),(1,al),(2,am),(4,an),(8,Q ah 0),(11,V p.1),(13,ai),(14,aj),(15,S),(17,V f.1),(19,T),(20,aa),(21,ab),(52,U g)]/\St [] j w [Y ah [V E,V G,u,A,B,C,D],W K ai p.2.2.1,W K aj p.2.2.2.1,W K S p.2.2.2.2.1,W K T f.2.2.1,W K aa f.2.2.2.1,W K ab f.2.2.2.2.1]) [(8,Q ah 0),(11,V p.1),(13,ai),(14,aj),(15,S),(17,V f.1),(19,T),(20,aa),(21,ab)] [Y ah [V E,V G,u,A,B,C,D],W K ai p.2.2.1,W K aj p.2.2.2.1,W K S p.2.2.2.2.1,W K T f.2.2.1,W K aa f.2.2.2.1,W K ab f.2.2.2.2.1]
 exact wk
end Go.Proofs
