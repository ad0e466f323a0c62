import Derived.Test.YtkbacjmklhgpcaaGreatDoorSW0
import Derived.Test.YtkbacjmklhgpcaaGreatDoorSAw
import Derived.Test.YtkbacjmklhgpcaaGreatDoorQGkFman
import Derived.Test.YtkbacjmklhgpcaaGreatDoorSWcborc
import Derived.Test.YtkbacjmklhgpcaaGreatDoorSWcosea
import Derived.Test.YtkbacjmklhgpcaaGreatDoorSWjws
import Derived.Test.YtkbacjmklhgpcaaGreatDoorSWkeyset
import Derived.Test.YtkbacjmklhgpcaaGreatDoorSWlib
set_option linter.unusedVariables false
set_option linter.unusedSimpArgs false
set_option linter.unusedSectionVars false
set_option maxRecDepth 20000
set_option maxHeartbeats 20000000
namespace Go.Proofs
open Go Go.RowKit Go.Gk
open Go.Gk renaming RP -> O, Ret -> N, e64 -> H, e8 -> K, eP -> I, own -> W, pB -> Q, vB -> U, vI -> V
open Go.Gk.OE renaming bx -> Y
theorem yI {w0:World} {a0:L01} {ak:Value} {r:List (Int×L01×L01×Bool×Int×Int)×L01×Bool×L01×Bool×List L01×Bool×L01×Bool×Bool×Int×Bool×Int×Bool×Int×Int}
  (h:F.U4 a0=some r) (hT:TB [] w0) (am:O [] w0 K ak a0):Calls Tryz.prog 16 #[ak] w0 (N fun v w=>∃ag ah:Value,v=.tuple #[.agg #[ag,vS r.2.1,U r.2.2.1,vS r.2.2.2.1,U r.2.2.2.2.1,ah,U r.2.2.2.2.2.2.1,vS r.2.2.2.2.2.2.2.1,U r.2.2.2.2.2.2.2.2.1,U r.2.2.2.2.2.2.2.2.2.1,V r.2.2.2.2.2.2.2.2.2.2.1,U r.2.2.2.2.2.2.2.2.2.2.2.1,V r.2.2.2.2.2.2.2.2.2.2.2.2.1,U r.2.2.2.2.2.2.2.2.2.2.2.2.2.1,V r.2.2.2.2.2.2.2.2.2.2.2.2.2.2.1],V r.2.2.2.2.2.2.2.2.2.2.2.2.2.2.2]/\St [] w0 w [W (I eI (I eS (I eS (I eB (I eI eI))))) ag r.1,W eS ah r.2.2.2.2.2.1]):=by
 refine ca1 120 Tryz.func16 Z Z Z<|have hS:=St.r w0;?_
 unfold F.U4 at h
 let i1:=fun D C T E S (f:L01×Bool×Bool) (j:L01×Bool×Bool) (p:Bool×Int×Bool) (u:Bool×Int×Bool) (A:Bool×Int×Bool) (B:L01×Bool×Bool) (G:Int×Bool) (ab:List (Int×UInt64×L01×Int)×Int×Int) (ac:(Int×UInt64×L01×Int))=>mkI (F.abD ab G ac f j p u A B) (fun s L w=>∃aa,L=[(2,Q D 0),(4,Q T 0),(7,Q E 0),(11,Q C 0),(12,V G.1),(86,V ac.2.2.2),(87,V s.1)]/\St [] w0 w [Y D [L03,vS [],U false,vS [],U false,L03,U false,vS [],U false,U false,V 0,U false,V 0,U false,V 0],Y T [S],Y E [U s.2.1],Y C [L03,vS f.1,U f.2.1,vS j.1,U j.2.1,aa,U true,vS B.1,U B.2.1,U p.1,V p.2.1,U u.1,V u.2.1,U A.1,V A.2.1],W (I eI (I H (I eS eI))) S ab.1,W eS aa s.2.2])
 let j1:=fun D C E (f:L01×Bool×Bool) (j:L01×Bool×Bool) (p:Bool×Int×Bool) (u:Bool×Int×Bool) (A:Bool×Int×Bool) (B:L01×Bool×Bool)=>mkJ 28 (F.aav f j p u A B) (fun g L w=>∃ai,L=[(2,Q D 0),(7,Q E 0),(11,Q C 0)]/\St [] w0 w [Y D [L03,vS [],U false,vS [],U false,L03,U false,vS [],U false,U false,V 0,U false,V 0,U false,V 0],Y E [U g.1],Y C [L03,vS f.1,U f.2.1,vS j.1,U j.2.1,ai,U g.2.2,vS B.1,U B.2.1,U p.1,V p.2.1,U u.1,V u.2.1,U A.1,V A.2.1],W eS ai g.2.1]) [(2,Q D 0),(7,Q E 0),(11,Q C 0)] [Y D [L03,vS [],U false,vS [],U false,L03,U false,vS [],U false,U false,V 0,U false,V 0,U false,V 0]]
 let j2:=fun D C T E S (f:L01×Bool×Bool) (j:L01×Bool×Bool) (p:Bool×Int×Bool) (u:Bool×Int×Bool) (A:Bool×Int×Bool) (B:L01×Bool×Bool) (G:Int×Bool) (ab:List (Int×UInt64×L01×Int)×Int×Int)=>mkJ 21 (F.aa7 ab G f j p u A B) (fun g L w=>∃aj,L=[(2,Q D 0),(4,Q T 0),(7,Q E 0),(11,Q C 0),(12,V G.1)]/\St [] w0 w [Y D [L03,vS [],U false,vS [],U false,L03,U false,vS [],U false,U false,V 0,U false,V 0,U false,V 0],Y T [S],Y E [U G.2],Y C [L03,vS f.1,U f.2.1,vS j.1,U j.2.1,aj,U true,vS B.1,U B.2.1,U p.1,V p.2.1,U u.1,V u.2.1,U A.1,V A.2.1],W (I eI (I H (I eS eI))) S ab.1,W eS aj g]) [(2,Q D 0),(4,Q T 0),(7,Q E 0),(11,Q C 0),(12,V G.1)] [Y D [L03,vS [],U false,vS [],U false,L03,U false,vS [],U false,U false,V 0,U false,V 0,U false,V 0],Y T [S],Y E [U G.2],W (I eI (I H (I eS eI))) S ab.1]
 let j3:=fun D C T E aa S (f:L01×Bool×Bool) (j:L01×Bool×Bool) (p:Bool×Int×Bool) (u:Bool×Int×Bool) (A:Bool×Int×Bool) (B:L01×Bool×Bool) (G:Int×Bool) (ab:List (Int×UInt64×L01×Int)×Int×Int) (ac:(Int×UInt64×L01×Int)) ad af=>mkJ 25 (F.abu ab G ad af f j p u A B) (fun g L w=>L=[(2,Q D 0),(4,Q T 0),(7,Q E 0),(11,Q C 0),(12,V G.1),(13,V ad),(86,V ac.2.2.2),(87,V ad)]/\St [] w0 w [Y D [L03,vS [],U false,vS [],U false,L03,U false,vS [],U false,U false,V 0,U false,V 0,U false,V 0],Y T [S],Y E [U g],Y C [L03,vS f.1,U f.2.1,vS j.1,U j.2.1,aa,U true,vS B.1,U B.2.1,U p.1,V p.2.1,U u.1,V u.2.1,U A.1,V A.2.1],W (I eI (I H (I eS eI))) S ab.1,W eS aa af]) [(2,Q D 0),(4,Q T 0),(7,Q E 0),(11,Q C 0),(12,V G.1),(13,V ad),(86,V ac.2.2.2),(87,V ad)] [Y D [L03,vS [],U false,vS [],U false,L03,U false,vS [],U false,U false,V 0,U false,V 0,U false,V 0],Y T [S],Y C [L03,vS f.1,U f.2.1,vS j.1,U j.2.1,aa,U true,vS B.1,U B.2.1,U p.1,V p.2.1,U u.1,V u.2.1,U A.1,V A.2.1],W (I eI (I H (I eS eI))) S ab.1,W eS aa af]
 let r1:=fun (D:Nat) (C:Nat) (T:Nat) (E:Nat) (aa:Value) (S:Value) (f:L01×Bool×Bool) (j:L01×Bool×Bool) (p:Bool×Int×Bool) (u:Bool×Int×Bool) (A:Bool×Int×Bool) (B:L01×Bool×Bool) (ab:List (Int×UInt64×L01×Int)×Int×Int) al=>(14,([Y D [L03,vS [],U false,vS [],U false,L03,U false,vS [],U false,U false,V 0,U false,V 0,U false,V 0],Y T [S],W (I eI (I H (I eS eI))) S ab.1,Y E [U al],Y C [L03,vS f.1,U f.2.1,vS j.1,U j.2.1,aa,U true,vS B.1,U B.2.1,U p.1,V p.2.1,U u.1,V u.2.1,U A.1,V A.2.1]]:List OE))
 exact wk
theorem yY {f:World} {a0 a1 C D E G S:L01} {a3:List L01} {ab ac j p u A B ad:Value} (T aa:Int) {r:L01×Int}
  (h:F.Vs a0 a1 T aa C D E G S a3=some r) (hT:TB [] f) (aj:O [] f K ab a0) (ak:O [] f K ac a1) (ae:O [] f K j C) (af:O [] f K p D) (ag:O [] f K u E) (ah:O [] f K A G) (ai:O [] f K B S) (al:O [] f eS ad a3):Calls Tryz.prog 7 #[ab,ac,.agg #[V T,V aa,j,p,u,A,B],ad] f (N fun v w=>∃u0:Value,v=.tuple #[u0,V r.2]/\St [] f w [W K u0 r.1]):=by
 refine ca4 45 Tryz.func7 Z Z Z<|have hS:=St.r f;?_
 unfold F.Vs at h
 exact wk
end Go.Proofs
