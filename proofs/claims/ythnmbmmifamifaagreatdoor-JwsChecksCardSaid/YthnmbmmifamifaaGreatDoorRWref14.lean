import Derived.Test.YthnmbmmifamifaaGreatDoorRW0
import Derived.Test.YthnmbmmifamifaaGreatDoorRAw
import Derived.Test.YthnmbmmifamifaaGreatDoorGkFman
import Derived.Test.YthnmbmmifamifaaGreatDoorRWref11
import Derived.Test.YthnmbmmifamifaaGreatDoorRWref13c
import Derived.Test.YthnmbmmifamifaaGreatDoorRWref4
import Derived.Test.YthnmbmmifamifaaGreatDoorRWref9
import Derived.Test.YthnmbmmifamifaaGreatDoorRWref12c
set_option linter.unusedVariables false
set_option linter.unusedSimpArgs false
set_option linter.unusedSectionVars false
section
set_option maxRecDepth 20000
set_option maxHeartbeats 20000000
namespace Go.Proofs
open Go Go.RowKit Go.Gk
open Go.Gk renaming RP -> O,Rds -> N,Ret -> K,ar -> J,e8 -> M,own -> W,pB -> Q,red -> U,vB -> P,vI -> R
open Go.Gk.OE renaming bx -> X
open Go.Gk.Rds renaming cons -> V
theorem zA {f:World} {a0 a1:L00} {p j:Value} {r:Bool}
  (h:F.aaO a0 a1=some r) (u:O [] f M p a0) (A:O [] f M j a1):Calls Tryz.prog 143 #[p,j] f (K fun v w=>v=P r/\St [] f w []):=by
 refine ca2 71 Tryz.func143 Z Z Z<|have hS:=St.r f;?_
 unfold F.aaO at h
 let j1:=mkJ 3 (F.W2 a0 a1) (fun g L w=>L=[(0,p),(1,j),(28,P g)]/\St [] f w []) [] []
 let j2:=mkJ 5 (F.Yi a1) (fun g L w=>L=[(1,j),(37,P g)]/\St [] f w []) [] []
 let j3:=mkJ 7 (F.W8 a1) (fun g L w=>L=[(1,j),(61,P g)]/\St [] f w []) [] []
 exact wk
theorem A1 {B:World} {D E G C T:L00} {f j p u A:Value} (aa ab:Int) {r:Bool}
  (h:F.Zz aa ab D E G C T=some r) (ad:O [] B M f D) (ae:O [] B M j E) (af:O [] B M p G) (ag:O [] B M u C) (ah:O [] B M A T):Calls Tryz.prog 63 #[.agg #[R aa,R ab,f,j,p,u,A]] B (K fun v w=>v=P r/\St [] B w []):=by
 refine ca1 129 Tryz.func63 Z Z Z<|have hS:=St.r B;have hZ:=Fz.r (S:=[]) (w0:=B);?_
 have hTT:TOk [] [] B:=TOk.nil
 have hA:N [] B [U M A T,U M u C,U M p G,U M j E,U M f D]:=V (O.q (ai Z) ah) (V (O.q (ai Z) ag) (V (O.q (ai Z) af) (V (O.q (ai Z) ae) (V (O.q (ai Z) ad) (N.nil)))))
 have hP:Off [] [U M A T,U M u C,U M p G,U M j E,U M f D]:=Off.emp
 unfold F.Zz at h
 let z1:=fun ac=>mkZ 12 (F.abi C) (fun g L w=>L=[(1,Q ac 0),(120,P g)]/\SfT [] [] B w [X ac [R aa,R ab,f,j,p,u,A],U M A T,U M u C,U M p G,U M j E,U M f D] []) [(1,Q ac 0)] [] [X ac [R aa,R ab,f,j,p,u,A]]
 exact wk
theorem AG {f:World} {C D E G S:L00} {j p u A B:Value} (T aa:Int) {r:Int}
  (h:F.ZI T aa C D E G S=some r) (ab:O [] f M j C) (ac:O [] f M p D) (ad:O [] f M u E) (ae:O [] f M A G) (af:O [] f M B S):Calls Tryz.prog 21 #[.agg #[R T,R aa,j,p,u,A,B]] f (K fun v w=>v=R r/\St [] f w []):=by
 refine ca1 5 Tryz.func21 Z Z Z<|have hS:=St.r f;?_
 unfold F.ZI at h
 exact wk
theorem CT {f:World} (a0:Int) {r:Int}
  (h:F.Vo a0=some r) :Calls Tryz.prog 64 #[R a0] f (K fun v w=>v=R r/\St [] f w []):=by
 refine ca1 9 Tryz.func64 Z Z Z<|have hS:=St.r f;?_
 unfold F.Vo at h
 let j1:=mkJ 7 (F.acT) (fun g L w=>L=[(6,P g)]/\St [] f w []) [] []
 exact wk
theorem Aw {u:World} {a1:L00} {G:Value} (a0:Int) (a2:UInt8) {r:L00}
  (h:F.Zd a0 a1 a2=some r) (hT:TB [] u) (S:O [] u M G a1):Calls Tryz.prog 144 #[R a0,G,v8 a2] u (K fun v w=>St [] u w [W M v r]):=by
 refine ca3 41 Tryz.func144 Z Z Z<|have hS:=St.r u;?_
 unfold F.Zd at h
 let i1:=fun p A=>mkI (F.ac5 a0 A a2) (fun s L w=>∃f,L=[(0,R a0),(2,v8 a2),(7,p),(8,f),(9,R s.2)]/\St [] u w [W M f s.1,W M p A])
 let i2:=mkI (F.acW a0 a1 a2) (fun s L w=>∃j,L=[(0,R a0),(2,v8 a2),(7,G),(8,j),(9,R s.2)]/\St [] u w [W M j s.1])
 let j1:=fun f p B C A=>mkJ 12 (F.ac1 a2 B C) (fun g L w=>L=[(0,R a0),(2,v8 a2),(7,p),(8,f),(9,R C),(10,v8 g)]/\St [] u w [W M p A,W M f B]) [(7,p),(8,f),(9,R C)] [W M p A,W M f B]
 let j2:=fun j D E=>mkJ 12 (F.acP a2 D E) (fun g L w=>L=[(0,R a0),(2,v8 a2),(7,G),(8,j),(9,R E),(10,v8 g)]/\St [] u w [W M j D]) [(8,j),(9,R E)] [W M j D]
 exact wk
theorem Gz {f:World} {a1 a2:L00} {j p:Value} (a0:Int) {r:L00}
  (h:F.aaM a0 a1 a2=some r) (hT:TB [] f) (D:O [] f M j a1) (E:O [] f M p a2):Calls Tryz.prog 66 #[R a0,j,p] f (K fun v w=>St [] f w [W M v r]):=by
 refine ca3 53 Tryz.func66 Z Z Z<|have hS:=St.r f;?_
 unfold F.aaM at h
 let i1:=mkI (F.adh a0 a1 a2) (fun s L w=>∃C,L=[(0,R a0),(1,j),(2,p),(7,C),(8,R s.2)]/\St [] f w [W M C s.1])
 let i2:=fun u A=>mkI (F.adl a0 A) (fun s L w=>∃B,L=[(0,R a0),(9,u),(10,B),(11,R s.2)]/\St [] f w [W M B s.1,W M u A])
 exact wk
theorem Bi {f:World} {a0 a1:L00} {j p:Value} {r:Bool}
  (h:F.aax a0 a1=some r) (u:O [] f M j a0) (A:O [] f M p a1):Calls Tryz.prog 65 #[j,p] f (K fun v w=>v=P r/\St [] f w []):=by
 refine ca2 26 Tryz.func65 Z Z Z<|have hS:=St.r f;?_
 unfold F.aax at h
 let i1:=mkI (F.Yn a0 a1) (fun s L w=>L=[(0,j),(1,p),(5,R s)]/\St [] f w [])
 exact wk
theorem BH {f:World} {a1 a2 a3:L00} {j p u:Value} (a0:Int) {r:Bool}
  (h:F.aaJ a0 a1 a2 a3=some r) (hT:TB [] f) (A:O [] f M j a1) (B:O [] f M p a2) (C:O [] f M u a3):Calls Tryz.prog 23 #[R a0,j,p,u] f (K fun v w=>v=P r/\St [] f w []):=by
 refine ca4 20 Tryz.func23 Z Z Z<|have hS:=St.r f;?_
 unfold F.aaJ at h
 exact wk
theorem DJ {a:World}  {r:List (Int×Int×Int×Int×Int)}
  (h:F.adb =some r) :Calls Tryz.prog 62 #[] a (K fun v w=>St [] a w [W (eP eI (eP eI (eP eI (eP eI eI)))) v r]):=by
 refine dP 14 Tryz.func62 Z Z Z<|have b:=St.r a;jy [] I ?_
 unfold F.adb at h
 refine gl4<|J 1 Z<|gl2<|aQ (ig (vs:=[(0,R 1,[R 1]),(1,R 1,[R 1]),(2,R 0,[R 0]),(3,R 1,[R 1]),(4,R 1,[R 1])]) (cells:=[R 1,R 1,R 0,R 1,R 1]) Z nK ⟨Z,Z,Z,Z,Z,I⟩ Z) Z<|aQ (ig (vs:=[(0,R 2,[R 2]),(1,R 1,[R 1]),(2,R 0,[R 0]),(3,R 2,[R 2]),(4,R 1,[R 1])]) (cells:=[R 2,R 1,R 0,R 2,R 1]) Z nK ⟨Z,Z,Z,Z,Z,I⟩ Z) Z<|aQ (ig (vs:=[(0,R 3,[R 3]),(1,R 1,[R 1]),(2,R 0,[R 0]),(3,R 3,[R 3]),(4,R 1,[R 1])]) (cells:=[R 3,R 1,R 0,R 3,R 1]) Z nK ⟨Z,Z,Z,Z,Z,I⟩ Z) Z<|aQ (ig (vs:=[(0,R 4,[R 4]),(1,R 2,[R 2]),(2,R 0,[R 0]),(3,R 1,[R 1]),(4,R 2,[R 2])]) (cells:=[R 4,R 2,R 0,R 1,R 2]) Z nK ⟨Z,Z,Z,Z,Z,I⟩ Z) Z<|aQ (ig (vs:=[(0,R 5,[R 5]),(1,R 2,[R 2]),(2,R 0,[R 0]),(3,R 2,[R 2]),(4,R 2,[R 2])]) (cells:=[R 5,R 2,R 0,R 2,R 2]) Z nK ⟨Z,Z,Z,Z,Z,I⟩ Z) Z<|aQ (ig (vs:=[(0,R 6,[R 6]),(1,R 2,[R 2]),(2,R 0,[R 0]),(3,R 3,[R 3]),(4,R 2,[R 2])]) (cells:=[R 6,R 2,R 0,R 3,R 2]) Z nK ⟨Z,Z,Z,Z,Z,I⟩ Z) Z<|aQ (ig (vs:=[(0,R 7,[R 7]),(1,R 2,[R 2]),(2,R 0,[R 0]),(3,R 1,[R 1]),(4,R 3,[R 3])]) (cells:=[R 7,R 2,R 0,R 1,R 3]) Z nK ⟨Z,Z,Z,Z,Z,I⟩ Z) Z ?_
 refine aQ (ig (vs:=[(0,R 8,[R 8]),(1,R 2,[R 2]),(2,R 0,[R 0]),(3,R 2,[R 2]),(4,R 3,[R 3])]) (cells:=[R 8,R 2,R 0,R 2,R 3]) Z nK ⟨Z,Z,Z,Z,Z,I⟩ Z) Z<|aQ (ig (vs:=[(0,R 9,[R 9]),(1,R 2,[R 2]),(2,R 0,[R 0]),(3,R 3,[R 3]),(4,R 3,[R 3])]) (cells:=[R 9,R 2,R 0,R 3,R 3]) Z nK ⟨Z,Z,Z,Z,Z,I⟩ Z) Z<|aQ (ig (vs:=[(0,R 10,[R 10]),(1,R 3,[R 3]),(2,R 1,[R 1]),(3,R 1,[R 1]),(4,R 4,[R 4])]) (cells:=[R 10,R 3,R 1,R 1,R 4]) Z nK ⟨Z,Z,Z,Z,Z,I⟩ Z) Z<|aQ (ig (vs:=[(0,R 11,[R 11]),(1,R 3,[R 3]),(2,R 2,[R 2]),(3,R 2,[R 2]),(4,R 4,[R 4])]) (cells:=[R 11,R 3,R 2,R 2,R 4]) Z nK ⟨Z,Z,Z,Z,Z,I⟩ Z) Z<|aQ (ig (vs:=[(0,R 12,[R 12]),(1,R 4,[R 4]),(2,R 3,[R 3]),(3,R 0,[R 0]),(4,R 5,[R 5])]) (cells:=[R 12,R 4,R 3,R 0,R 5]) Z nK ⟨Z,Z,Z,Z,Z,I⟩ Z) Z<|mg (K8 (e:=(eP eI (eP eI (eP eI (eP eI eI))))) (l:=([(1,1,0,1,1),(2,1,0,2,1),(3,1,0,3,1),(4,2,0,1,2),(5,2,0,2,2),(6,2,0,3,2),(7,2,0,1,3),(8,2,0,2,3),(9,2,0,3,3),(10,3,1,1,4),(11,3,2,2,4),(12,4,3,0,5)]:List (Int×Int×Int×Int×Int))) (vs:=[(0,.agg #[R 1,R 1,R 0,R 1,R 1],[R 1,R 1,R 0,R 1,R 1]),(1,.agg #[R 2,R 1,R 0,R 2,R 1],[R 2,R 1,R 0,R 2,R 1]),(2,.agg #[R 3,R 1,R 0,R 3,R 1],[R 3,R 1,R 0,R 3,R 1]),(3,.agg #[R 4,R 2,R 0,R 1,R 2],[R 4,R 2,R 0,R 1,R 2]),(4,.agg #[R 5,R 2,R 0,R 2,R 2],[R 5,R 2,R 0,R 2,R 2]),(5,.agg #[R 6,R 2,R 0,R 3,R 2],[R 6,R 2,R 0,R 3,R 2]),(6,.agg #[R 7,R 2,R 0,R 1,R 3],[R 7,R 2,R 0,R 1,R 3]),(7,.agg #[R 8,R 2,R 0,R 2,R 3],[R 8,R 2,R 0,R 2,R 3]),(8,.agg #[R 9,R 2,R 0,R 3,R 3],[R 9,R 2,R 0,R 3,R 3]),(9,.agg #[R 10,R 3,R 1,R 1,R 4],[R 10,R 3,R 1,R 1,R 4]),(10,.agg #[R 11,R 3,R 2,R 2,R 4],[R 11,R 3,R 2,R 2,R 4]),(11,.agg #[R 12,R 4,R 3,R 0,R 5],[R 12,R 4,R 3,R 0,R 5])]) Tryz.underlying91 QB Z ⟨Z,Z,Z,Z,Z,Z,Z,Z,Z,Z,Z,Z,I⟩ Z Z (ai Z) (ai Z) b) Z ?_
 rintro c w b
 refine J 1 Z<|gl3<|iY ?_
 cases h
 exact gc Z Z (b.j [0] Z Z)
theorem Dg {f:World} (a0:Int) {r:Int×Int×Int×Int×Int×Bool}
  (h:F.abk a0=some r) :Calls Tryz.prog 20 #[R a0] f (K fun v w=>v=.tuple #[.agg #[R r.1,R r.2.1,R r.2.2.1,R r.2.2.2.1,R r.2.2.2.2.1],P r.2.2.2.2.2]/\St [] f w []):=by
 refine ca1 25 Tryz.func20 Z Z Z<|have hS:=St.r f;?_
 unfold F.abk at h
 let i1:=fun j p u=>mkI (F.Wg a0 u) (fun s L w=>L=[(0,R a0),(2,Q j 0),(4,p),(5,R s)]/\St [] f w [X j [R 0,R 0,R 0,R 0,R 0],W (eP eI (eP eI (eP eI (eP eI eI)))) p u])
 exact wk
theorem qH {f:World} {C D E G S:L00} {j p u A B:Value} (a0 T aa:Int) {r:Bool}
  (h:F.Wb a0 T aa C D E G S=some r) (ab:O [] f M j C) (ac:O [] f M p D) (ad:O [] f M u E) (ae:O [] f M A G) (af:O [] f M B S):Calls Tryz.prog 8 #[R a0,.agg #[R T,R aa,j,p,u,A,B]] f (K fun v w=>v=P r/\St [] f w []):=by
 refine ca2 32 Tryz.func8 Z Z Z<|have hS:=St.r f;?_
 unfold F.Wb at h
 exact wk
theorem oq {j:World} {G S T aa ab a3:L00} {p u A B C ae:Value} (a0 E D:Int) (a2:L00) {r:Int}
  (h:F.V3 a0 E D G S T aa ab a2 a3=some r) (hT:TB [] j) (af:O [] j M p G) (ag:O [] j M u S) (ah:O [] j M A T) (aj:O [] j M B aa) (ak:O [] j M C ab) (al:O [] j M ae a3):Calls Tryz.prog 9 #[R a0,.agg #[R E,R D,p,u,A,B,C],vS a2,ae] j (K fun v w=>v=R r/\St [] j w []):=by
 refine ca4 105 Tryz.func9 Z Z Z<|have hS:=St.r j;?_
 unfold F.V3 at h
 let j1:=fun ac ad (f:Int×Int×Int×Int×Int×Bool)=>mkJ 11 (F.V6 D G S T aa ab a2 a3 f) (fun g L w=>L=[(2,vS a2),(3,ae),(5,Q ac 0),(9,Q ad 0),(13,R f.2.2.2.1),(46,P g)]/\St [] j w [X ac [R E,R D,p,u,A,B,C],X ad [R f.1,R f.2.1,R f.2.2.1,R f.2.2.2.1,R f.2.2.2.2.1]]) [(5,Q ac 0),(9,Q ad 0),(13,R f.2.2.2.1)] [X ac [R E,R D,p,u,A,B,C],X ad [R f.1,R f.2.1,R f.2.2.1,R f.2.2.2.1,R f.2.2.2.2.1]]
 let j2:=mkJ 26 (F.VD) (fun g L w=>L=[(15,P g)]/\St [] j w []) [] []
 exact wk
end Go.Proofs
end
