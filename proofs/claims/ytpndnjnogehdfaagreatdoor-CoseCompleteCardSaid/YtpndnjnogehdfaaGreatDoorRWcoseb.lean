import Derived.Test.YtpndnjnogehdfaaGreatDoorRW0
import Derived.Test.YtpndnjnogehdfaaGreatDoorRAw
import Derived.Test.YtpndnjnogehdfaaGreatDoorGkFman
import Derived.Test.YtpndnjnogehdfaaGreatDoorRWcborc
import Derived.Test.YtpndnjnogehdfaaGreatDoorRWcosea
import Derived.Test.YtpndnjnogehdfaaGreatDoorRWjws
import Derived.Test.YtpndnjnogehdfaaGreatDoorRWkeyset
import Derived.Test.YtpndnjnogehdfaaGreatDoorRWlib
set_option linter.unusedVariables false
set_option linter.unusedSimpArgs false
set_option linter.unusedSectionVars false
set_option maxRecDepth 20000
set_option maxHeartbeats 20000000
namespace Go.Proofs
open Go Go.RowKit Go.Gk
open Go.Gk renaming RP -> N, Ret -> K, al -> O, e8 -> H, eP -> J, own -> W, pB -> R, vB -> V, vI -> U
open Go.Gk.OE renaming bx -> Y
theorem xL {w0:World} {a0:Y3} {ak:Value} {r:List (Int×Y3×Y3×Bool×Int×Int)×Y3×Bool×Y3×Bool×List Y3×Bool×Y3×Bool×Bool×Int×Bool×Int×Bool×Int×Int}
  (h:F.SE a0=some r) (hT:TB [] w0) (am:N [] w0 H ak a0):Calls Tryz.prog 13 #[ak] w0 (K fun v w=>∃ag ah:Value,v=.tuple #[.agg #[ag,vS r.2.1,V r.2.2.1,vS r.2.2.2.1,V r.2.2.2.2.1,ah,V r.2.2.2.2.2.2.1,vS r.2.2.2.2.2.2.2.1,V r.2.2.2.2.2.2.2.2.1,V r.2.2.2.2.2.2.2.2.2.1,U r.2.2.2.2.2.2.2.2.2.2.1,V r.2.2.2.2.2.2.2.2.2.2.2.1,U r.2.2.2.2.2.2.2.2.2.2.2.2.1,V r.2.2.2.2.2.2.2.2.2.2.2.2.2.1,U r.2.2.2.2.2.2.2.2.2.2.2.2.2.2.1],U r.2.2.2.2.2.2.2.2.2.2.2.2.2.2.2]/\St [] w0 w [W (J eI (J eS (J eS (J eB (J eI eI))))) ag r.1,W eS ah r.2.2.2.2.2.1]):=by
 refine ca1 120 Tryz.func13 Z Z Z<|have hS:=St.q w0;?_
 unfold F.SE at h
 let i1:=fun D C T E S (f:Y3×Bool×Bool) (j:Y3×Bool×Bool) (p:Bool×Int×Bool) (u:Bool×Int×Bool) (A:Bool×Int×Bool) (B:Y3×Bool×Bool) (G:Int×Bool) (ab:List (Int×UInt64×Y3×Int)×Int×Int) (ac:(Int×UInt64×Y3×Int))=>mkI (F.Yq ab G ac f j p u A B) (fun s L w=>∃aa,L=[(2,R D 0),(4,R T 0),(7,R E 0),(11,R C 0),(12,U G.1),(86,U ac.2.2.2),(87,U s.1)]/\St [] w0 w [Y D [Y5,vS [],V false,vS [],V false,Y5,V false,vS [],V false,V false,U 0,V false,U 0,V false,U 0],Y T [S],Y E [V s.2.1],Y C [Y5,vS f.1,V f.2.1,vS j.1,V j.2.1,aa,V true,vS B.1,V B.2.1,V p.1,U p.2.1,V u.1,U u.2.1,V A.1,U A.2.1],W (J eI (J e64 (J eS eI))) S ab.1,W eS aa s.2.2])
 let j1:=fun D C E (f:Y3×Bool×Bool) (j:Y3×Bool×Bool) (p:Bool×Int×Bool) (u:Bool×Int×Bool) (A:Bool×Int×Bool) (B:Y3×Bool×Bool)=>mkJ 28 (F.Xj f j p u A B) (fun g L w=>∃ai,L=[(2,R D 0),(7,R E 0),(11,R C 0)]/\St [] w0 w [Y D [Y5,vS [],V false,vS [],V false,Y5,V false,vS [],V false,V false,U 0,V false,U 0,V false,U 0],Y E [V g.1],Y C [Y5,vS f.1,V f.2.1,vS j.1,V j.2.1,ai,V g.2.2,vS B.1,V B.2.1,V p.1,U p.2.1,V u.1,U u.2.1,V A.1,U A.2.1],W eS ai g.2.1]) [(2,R D 0),(7,R E 0),(11,R C 0)] [Y D [Y5,vS [],V false,vS [],V false,Y5,V false,vS [],V false,V false,U 0,V false,U 0,V false,U 0]]
 let j2:=fun D C T E S (f:Y3×Bool×Bool) (j:Y3×Bool×Bool) (p:Bool×Int×Bool) (u:Bool×Int×Bool) (A:Bool×Int×Bool) (B:Y3×Bool×Bool) (G:Int×Bool) (ab:List (Int×UInt64×Y3×Int)×Int×Int)=>mkJ 21 (F.X0 ab G f j p u A B) (fun g L w=>∃aj,L=[(2,R D 0),(4,R T 0),(7,R E 0),(11,R C 0),(12,U G.1)]/\St [] w0 w [Y D [Y5,vS [],V false,vS [],V false,Y5,V false,vS [],V false,V false,U 0,V false,U 0,V false,U 0],Y T [S],Y E [V G.2],Y C [Y5,vS f.1,V f.2.1,vS j.1,V j.2.1,aj,V true,vS B.1,V B.2.1,V p.1,U p.2.1,V u.1,U u.2.1,V A.1,U A.2.1],W (J eI (J e64 (J eS eI))) S ab.1,W eS aj g]) [(2,R D 0),(4,R T 0),(7,R E 0),(11,R C 0),(12,U G.1)] [Y D [Y5,vS [],V false,vS [],V false,Y5,V false,vS [],V false,V false,U 0,V false,U 0,V false,U 0],Y T [S],Y E [V G.2],W (J eI (J e64 (J eS eI))) S ab.1]
 let j3:=fun D C T E aa S (f:Y3×Bool×Bool) (j:Y3×Bool×Bool) (p:Bool×Int×Bool) (u:Bool×Int×Bool) (A:Bool×Int×Bool) (B:Y3×Bool×Bool) (G:Int×Bool) (ab:List (Int×UInt64×Y3×Int)×Int×Int) (ac:(Int×UInt64×Y3×Int)) ad af=>mkJ 25 (F.Yi ab G ad af f j p u A B) (fun g L w=>L=[(2,R D 0),(4,R T 0),(7,R E 0),(11,R C 0),(12,U G.1),(13,U ad),(86,U ac.2.2.2),(87,U ad)]/\St [] w0 w [Y D [Y5,vS [],V false,vS [],V false,Y5,V false,vS [],V false,V false,U 0,V false,U 0,V false,U 0],Y T [S],Y E [V g],Y C [Y5,vS f.1,V f.2.1,vS j.1,V j.2.1,aa,V true,vS B.1,V B.2.1,V p.1,U p.2.1,V u.1,U u.2.1,V A.1,U A.2.1],W (J eI (J e64 (J eS eI))) S ab.1,W eS aa af]) [(2,R D 0),(4,R T 0),(7,R E 0),(11,R C 0),(12,U G.1),(13,U ad),(86,U ac.2.2.2),(87,U ad)] [Y D [Y5,vS [],V false,vS [],V false,Y5,V false,vS [],V false,V false,U 0,V false,U 0,V false,U 0],Y T [S],Y C [Y5,vS f.1,V f.2.1,vS j.1,V j.2.1,aa,V true,vS B.1,V B.2.1,V p.1,U p.2.1,V u.1,U u.2.1,V A.1,U A.2.1],W (J eI (J e64 (J eS eI))) S ab.1,W eS aa af]
 let r1:=fun (D:Nat) (C:Nat) (T:Nat) (E:Nat) (aa:Value) (S:Value) (f:Y3×Bool×Bool) (j:Y3×Bool×Bool) (p:Bool×Int×Bool) (u:Bool×Int×Bool) (A:Bool×Int×Bool) (B:Y3×Bool×Bool) (ab:List (Int×UInt64×Y3×Int)×Int×Int) O=>(14,([Y D [Y5,vS [],V false,vS [],V false,Y5,V false,vS [],V false,V false,U 0,V false,U 0,V false,U 0],Y T [S],W (J eI (J e64 (J eS eI))) S ab.1,Y E [V O],Y C [Y5,vS f.1,V f.2.1,vS j.1,V j.2.1,aa,V true,vS B.1,V B.2.1,V p.1,U p.2.1,V u.1,U u.2.1,V A.1,U A.2.1]]:List OE))
 exact wk
theorem x9 {f:World} {a0 a1 C D E G S:Y3} {a3:List Y3} {ab ac j p u A B ad:Value} (T aa:Int) {r:Y3×Int}
  (h:F.Si a0 a1 T aa C D E G S a3=some r) (hT:TB [] f) (aj:N [] f H ab a0) (ak:N [] f H ac a1) (ae:N [] f H j C) (af:N [] f H p D) (ag:N [] f H u E) (ah:N [] f H A G) (ai:N [] f H B S) (O:N [] f eS ad a3):Calls Tryz.prog 11 #[ab,ac,.agg #[U T,U aa,j,p,u,A,B],ad] f (K fun v w=>∃u0:Value,v=.tuple #[u0,U r.2]/\St [] f w [W H u0 r.1]):=by
 refine ca4 45 Tryz.func11 Z Z Z<|have hS:=St.q f;?_
 unfold F.Si at h
 exact wk
end Go.Proofs
