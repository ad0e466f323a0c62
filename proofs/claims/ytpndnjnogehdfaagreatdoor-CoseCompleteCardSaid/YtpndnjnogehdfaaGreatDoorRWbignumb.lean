import Derived.Test.YtpndnjnogehdfaaGreatDoorRW0
import Derived.Test.YtpndnjnogehdfaaGreatDoorRAw
import Derived.Test.YtpndnjnogehdfaaGreatDoorGkFman
import Derived.Test.YtpndnjnogehdfaaGreatDoorRWbignuma
set_option linter.unusedVariables false
set_option linter.unusedSimpArgs false
set_option linter.unusedSectionVars false
set_option maxRecDepth 20000
set_option maxHeartbeats 20000000
namespace Go.Proofs
open Go Go.RowKit Go.Gk
open Go.Gk renaming RP -> N, Ret -> K, al -> O, e32 -> X, own -> W, pB -> R, v64 -> M, vB -> V, vI -> U
open Go.Gk.OE renaming bx -> Y
theorem AQ {S:World} {a0 a1:Y0} {aa ab:Value} {r:Y0×Y0}
  (h:F.SM a0 a1=some r) (ac:N [] S X aa a0) (ad:N [] S X ab a1):Calls Tryz.prog 203 #[aa,ab] S (K fun v w=>∃u0 u1:Value,v=.tuple #[u0,u1]/\St [] S w [W X u0 r.1,W X u1 r.2]):=by
 refine ca2 273 Tryz.func203 Z Z Z<|have hS:=St.q S;?_
 unfold F.SM at h
 let i1:=fun j u p E (f:Y0) (C:UInt32) (D:UInt32)=>mkI (F.Ud E f C D) (fun s L w=>L=[(10,M E),(11,j),(12,u),(13,U (f.length:Int)),(15,p),(16,M C.toUInt64),(17,M D.toUInt64),(18,U s.1)]/\St [] S w [W X j f,W X u s.2.1,W X p s.2.2])
 let i2:=fun j u p E (f:Y0) (C:UInt32) (D:UInt32) A G B=>mkI (F.Ux f D A G C B) (fun s L w=>L=[(10,M E),(11,j),(12,u),(13,U (f.length:Int)),(15,p),(16,M C.toUInt64),(17,M D.toUInt64),(18,U A),(20,M s.1),(21,M s.2)]/\St [] S w [W X j f,W X u G,W X p B])
 let i3:=fun j u p E (f:Y0) (C:UInt32) (D:UInt32) A B T=>mkI (F.Tz f A T B) (fun s L w=>L=[(10,M E),(11,j),(12,u),(13,U (f.length:Int)),(15,p),(16,M C.toUInt64),(17,M D.toUInt64),(18,U A),(20,M T),(22,M s.1),(23,M s.2.1),(24,U s.2.2.1)]/\St [] S w [W X j f,W X u s.2.2.2,W X p B])
 let i4:=fun j u p E (f:Y0) (C:UInt32) (D:UInt32) A B T=>mkI (F.SQ f A T B) (fun s L w=>L=[(10,M E),(11,j),(12,u),(13,U (f.length:Int)),(15,p),(16,M C.toUInt64),(17,M D.toUInt64),(18,U A),(20,M (T - 1)),(22,M s.1),(27,U s.2.1)]/\St [] S w [W X j f,W X u s.2.2,W X p B])
 let j1:=fun j u p E (f:Y0) (C:UInt32) (D:UInt32) A G B=>mkJ 29 (F.TW G f A B) (fun g L w=>L=[(10,M E),(11,j),(12,u),(13,U (f.length:Int)),(15,p),(16,M C.toUInt64),(17,M D.toUInt64),(18,U A),(20,M g)]/\St [] S w [W X j f,W X u G,W X p B]) [(10,M E),(11,j),(12,u),(13,U (f.length:Int)),(15,p),(16,M C.toUInt64),(17,M D.toUInt64),(18,U A)] [W X j f,W X u G,W X p B]
 let j2:=fun j u p E (f:Y0) (C:UInt32) (D:UInt32) A B=>mkJ 50 (F.Tp A B) (fun g L w=>L=[(10,M E),(11,j),(12,u),(13,U (f.length:Int)),(15,p),(16,M C.toUInt64),(17,M D.toUInt64),(18,U A),(20,M g.1)]/\St [] S w [W X j f,W X u g.2,W X p B]) [(10,M E),(11,j),(12,u),(13,U (f.length:Int)),(15,p),(16,M C.toUInt64),(17,M D.toUInt64),(18,U A)] [W X j f,W X p B]
 exact wk
theorem qY {f:World} {D E G T:Y0} {j p u A:Value} {B ag ah C:Nat} {S:Y4} (aa ab ac ad:Bool) {r:Bool×Y0×Bool×Y0}
  (h:F.Ts aa D ab E ac G ad T=some r) (hS:St S f f [Y B [V aa,j],W X j D,Y C [V ad,A],W X A T]) (ai:N S f X p E) (hBa1:RB S f ag [V ab,p]) (aj:N S f X u G) (hBa2:RB S f ah [V ac,u]):Calls Tryz.prog 193 #[R B 0,R ag 0,R ah 0,R C 0] f (K fun v w=>∃ae af:Value,v=.tuple #[R B 0,R C 0]/\St S f w [Y B [V r.1,ae],W X ae r.2.1,Y C [V r.2.2.1,af],W X af r.2.2.2]):=by
 refine ca4 46 Tryz.func193 Z Z Z ?_
 unfold F.Ts at h
 exact wk
theorem oR {B:World} {C D E:Y0} {j p u:Value} {A ad f:Nat} {S:Y4} (G T aa:Bool) {r:Bool×Y0×Bool×Y0}
  (h:F.XV G C T D aa E=some r) (hS:St S B B [Y A [V G,j],W X j C,Y f [V aa,u],W X u E]) (ae:N S B X p D) (hBa2:RB S B ad [V T,p]):Calls Tryz.prog 193 #[R A 0,R f 0,R ad 0,R f 0] B (K fun v w=>∃ab ac:Value,v=.tuple #[R A 0,R f 0]/\St S B w [Y A [V r.1,ab],W X ab r.2.1,Y f [V r.2.2.1,ac],W X ac r.2.2.2]):=by
 refine ca4 46 Tryz.func193 Z Z Z ?_
 unfold F.XV at h
 exact wk
theorem oQ {B:World} {C D E:Y0} {j p u:Value} {f ad A:Nat} {S:Y4} (G T aa:Bool) {r:Bool×Y0×Bool×Y0}
  (h:F.Ya G C T D aa E=some r) (hS:St S B B [Y f [V G,j],W X j C,Y A [V aa,u],W X u E]) (ae:N S B X p D) (hBa2:RB S B ad [V T,p]):Calls Tryz.prog 193 #[R f 0,R f 0,R ad 0,R A 0] B (K fun v w=>∃ab ac:Value,v=.tuple #[R f 0,R A 0]/\St S B w [Y f [V r.1,ab],W X ab r.2.1,Y A [V r.2.2.1,ac],W X ac r.2.2.2]):=by
 refine ca4 46 Tryz.func193 Z Z Z ?_
 unfold F.Ya at h
 exact wk
theorem yK {j:World} {a0 a1:Y0} {p u:Value} {r:Y0}
  (h:F.S2 a0 a1=some r) (C:N [] j X p a0) (D:N [] j X u a1):Calls Tryz.prog 117 #[p,u] j (K fun v w=>St [] j w [W X v r]):=by
 refine ca2 45 Tryz.func117 Z Z Z<|have hS:=St.q j;?_
 unfold F.S2 at h
 let i1:=fun f=>mkI (F.Wo a0 a1) (fun s L w=>L=[(0,p),(1,u),(5,f),(6,M s.1),(7,U s.2.1)]/\St [] j w [W X f s.2.2])
 let j1:=fun f A B=>mkJ 10 (F.UX A B) (fun g L w=>L=[(0,p),(1,u),(5,f),(7,U A),(8,M g)]/\St [] j w [W X f B]) [(5,f),(7,U A)] [W X f B]
 exact wk
theorem oy {f:World} {a1 a3:Y0} {j p:Value} (a0 a2:Bool) {r:Bool×Y0}
  (h:F.Rt a0 a1 a2 a3=some r) (u:N [] f X j a1) (A:N [] f X p a3):Calls Tryz.prog 190 #[V a0,j,V a2,p] f (K fun v w=>∃u1:Value,v=.tuple #[V r.1,u1]/\St [] f w [W X u1 r.2]):=by
 refine ca4 29 Tryz.func190 Z Z Z<|have hS:=St.q f;?_
 unfold F.Rt at h
 exact wk
theorem lZ {f:World} {B C D:Y0} {j p u:Value} {A ab ac:Nat} {S:Y4} (E G T:Bool) {r:Bool×Y0}
  (h:F.T5 E B G C T D=some r) (hS:St S f f [Y A [V E,j],W X j B]) (ad:N S f X p C) (hBa1:RB S f ab [V G,p]) (ae:N S f X u D) (hBa2:RB S f ac [V T,u]):Calls Tryz.prog 159 #[R A 0,R ab 0,R ac 0] f (K fun v w=>∃aa:Value,v=R A 0/\St S f w [Y A [V r.1,aa],W X aa r.2]):=by
 refine ca3 28 Tryz.func159 Z Z Z ?_
 unfold F.T5 at h
 have cf:Cf 0:=trivial
 exact wk
theorem qk {f:World} {g m:Y0} {b l:Value} {a n:Nat} {S:Y4} (c j:Bool) {r:Bool×Y0}
  (h:F.RX c g j m=some r) (hS:St S f f [Y a [V c,b],W X b g]) (q:N S f X l m) (hBa2:RB S f n [V j,l]):Calls Tryz.prog 159 #[R a 0,R a 0,R n 0] f (K fun v w=>∃o:Value,v=R a 0/\St S f w [Y a [V r.1,o],W X o r.2]):=by
 refine eZ 28 Tryz.func159 Z Z Z<|gl [(0,R a 0),(1,R a 0),(2,R n 0)] Z ?_
 unfold F.RX at h
 refine gl4<|O 1 Z<|gl1<|have hsh1:=(hS.ro 1 Z).shp;kj (fun w'=>St S f w' []) (fun i=>!([1004,1008,17,20].contains i)) ky (fun _ _ _ t=>t.2) (fun _ _ t=>t) (by kernel_rfl)<|have hS:=hS.drew;show lxE _ _ _ _ _ _ _ [0,1,2,3,4,5,6,7,8,9,10,11,12,13,14,15,16,17,18,19,20,21] _ _ from cM 2 Z (hS.f [] Z Z)<|dg (hS.f [] Z Z) Z Z (fun w d=>gf Z) Z<|dg (hS.f [] Z Z) Z Z (fun w d=>bc (k:=0) u194 Z Z nz4 Z) Z<|uz (hS.f [] Z Z) Z Z Z (bY Tryz.underlying4 Z Z (hS.s 0 Z 0)) Z<|cM 1 Z (hS.f [] Z Z)<|dg (hS.f [] Z Z) Z Z (fun w d=>gf Z) Z<|dg (hS.f [] Z Z) Z Z (fun w d=>bc (k:=1) u194 Z Z zq Z) Z<|uz (hS.f [] Z Z) Z Z Z (bY u23 Z Z (hS.s 0 Z 1)) Z<|cM 1 Z (hS.f [] Z Z)<|dg (hS.f [] Z Z) Z Z (fun w d=>gf Z) Z<|dg (hS.f [] Z Z) Z Z (fun w d=>bc (k:=0) u194 Z Z nz4 Z) Z<|dg (hS.f [] Z Z) Z Z (fun w d=>bY Tryz.underlying4 Z Z (hBa2.cell d.fr 0 Z)) Z<|cM 1 Z (hS.f [] Z Z)<|dg (hS.f [] Z Z) Z Z (fun w d=>gf Z) Z<|dg (hS.f [] Z Z) Z Z (fun w d=>bc (k:=1) u194 Z Z zq Z) Z<|dg (hS.f [] Z Z) Z Z (fun w d=>bY u23 Z Z (hBa2.cell d.fr 1 Z)) Z ?_
 refine bZ h fun s u h=>kf (hS.f [] Z Z) Z Z (by kernel_rfl) Z (oy c j u (hS.ro 1 Z).rp (q.now hS.fr).rp) Z ?_
 rintro _ w ⟨y,rfl,p⟩
 have hS:=hS.call p
 refine cM 2 Z (hS.f [] Z Z)<|have z:=hS.pick (os':=[Y a [V c,b],W X b g,W X y s.2]++[]) [1,2,0] (by decide) Z;bZ h fun B x h=>kf (hS.f [] Z Z) Z Z (by kernel_rfl) Z (lE c s.1 x z.give ) Z ?_
 rintro _ w ⟨A,rfl,p⟩
 have hS:=z.j p
 refine cM 1 Z (hS.f [] Z Z)<|jk (hS.f [] Z Z)<|bp<|f5 ?_
 cases h
 exact gC Z Z ⟨A,Z,hS.f [0,1] Z Z⟩
theorem tP {f:World} {B C D:Y0} {j p u:Value} {A ab ac:Nat} {S:Y4} (E G T:Bool) {r:Bool×Y0}
  (h:F.Tx E B G C T D=some r) (hS:St S f f [Y A [V E,j],W X j B]) (ad:N S f X p C) (hBa1:RB S f ab [V G,p]) (ae:N S f X u D) (hBa2:RB S f ac [V T,u]):Calls Tryz.prog 158 #[R A 0,R ab 0,R ac 0] f (K fun v w=>∃aa:Value,v=R A 0/\St S f w [Y A [V r.1,aa],W X aa r.2]):=by
 refine ca3 29 Tryz.func158 Z Z Z ?_
 unfold F.Tx at h
 have cf:Cf 0:=trivial
 exact wk
theorem qJ {u:World} {A B:Y0} {j p:Value} {f G:Nat} {S:Y4} (C D:Bool) {r:Bool×Y0}
  (h:F.Sa C A D B=some r) (hS:St S u u [Y f [V C,j],W X j A]) (T:N S u X p B) (hBa2:RB S u G [V D,p]):Calls Tryz.prog 158 #[R f 0,R f 0,R G 0] u (K fun v w=>∃E:Value,v=R f 0/\St S u w [Y f [V r.1,E],W X E r.2]):=by
 refine ca3 29 Tryz.func158 Z Z Z ?_
 unfold F.Sa at h
 have cf:Cf 3:=trivial
 exact wk
theorem qE {f:World} {g m:Y0} {b l:Value} {a n:Nat} {S:Y4} (c j:Bool) {r:Bool×Y0}
  (h:F.UZ c g j m=some r) (hS:St S f f [Y a [V c,b],W X b g]) (q:N S f X l m) (hBa1:RB S f n [V j,l]):Calls Tryz.prog 158 #[R a 0,R n 0,R a 0] f (K fun v w=>∃o:Value,v=R a 0/\St S f w [Y a [V r.1,o],W X o r.2]):=by
 refine eZ 29 Tryz.func158 Z Z Z<|gl [(0,R a 0),(1,R n 0),(2,R a 0)] Z ?_
 unfold F.UZ at h
 refine gl4<|O 1 Z<|gl1<|have hsh1:=(hS.ro 1 Z).shp;kj (fun w'=>St S f w' []) (fun i=>!([1012,1017,18,21].contains i)) ky (fun _ _ _ t=>t.2) (fun _ _ t=>t) (by kernel_rfl)<|have hS:=hS.drew;show lxE _ _ _ _ _ _ _ [0,1,2,3,4,5,6,7,8,9,10,11,12,13,14,15,16,17,18,19,20,21,22] _ _ from cM 2 Z (hS.f [] Z Z)<|dg (hS.f [] Z Z) Z Z (fun w d=>gf Z) Z<|dg (hS.f [] Z Z) Z Z (fun w d=>bc (k:=0) u194 Z Z nz4 Z) Z<|dg (hS.f [] Z Z) Z Z (fun w d=>bY Tryz.underlying4 Z Z (hBa1.cell d.fr 0 Z)) Z<|cM 1 Z (hS.f [] Z Z)<|dg (hS.f [] Z Z) Z Z (fun w d=>gf Z) Z<|dg (hS.f [] Z Z) Z Z (fun w d=>bc (k:=1) u194 Z Z zq Z) Z<|dg (hS.f [] Z Z) Z Z (fun w d=>bY u23 Z Z (hBa1.cell d.fr 1 Z)) Z<|cM 1 Z (hS.f [] Z Z)<|dg (hS.f [] Z Z) Z Z (fun w d=>gf Z) Z<|dg (hS.f [] Z Z) Z Z (fun w d=>bc (k:=0) u194 Z Z nz4 Z) Z<|uz (hS.f [] Z Z) Z Z Z (bY Tryz.underlying4 Z Z (hS.s 0 Z 0)) Z<|cM 2 Z (hS.f [] Z Z)<|dg (hS.f [] Z Z) Z Z (fun w d=>gf Z) Z<|dg (hS.f [] Z Z) Z Z (fun w d=>bc (k:=1) u194 Z Z zq Z) Z<|uz (hS.f [] Z Z) Z Z Z (bY u23 Z Z (hS.s 0 Z 1)) Z ?_
 refine bZ h fun s u h=>kf (hS.f [] Z Z) Z Z (by kernel_rfl) Z (oy j (!c) u (q.now hS.fr).rp (hS.ro 1 Z).rp) Z ?_
 rintro _ w ⟨y,rfl,p⟩
 have hS:=hS.call p
 refine cM 2 Z (hS.f [] Z Z)<|have z:=hS.pick (os':=[Y a [V c,b],W X b g,W X y s.2]++[]) [1,2,0] (by decide) Z;bZ h fun B x h=>kf (hS.f [] Z Z) Z Z (by kernel_rfl) Z (lE c s.1 x z.give ) Z ?_
 rintro _ w ⟨A,rfl,p⟩
 have hS:=z.j p
 refine cM 1 Z (hS.f [] Z Z)<|jk (hS.f [] Z Z)<|bp<|f5 ?_
 cases h
 exact gC Z Z ⟨A,Z,hS.f [0,1] Z Z⟩
theorem qW {p:World} {D E G T:Y0} {u A B C:Value} {f ai aj j:Nat} {S:Y4} (aa ab ac ad:Bool) {r:Bool×Y0×Bool×Y0}
  (h:F.Tv aa D ab E ac G ad T=some r) (hS:St S p p [Y f [V aa,u],W X u D,Y j [V ad,C],W X C T]) (ak:N S p X A E) (hBa1:RB S p ai [V ab,A]) (O:N S p X B G) (hBa2:RB S p aj [V ac,B]):Calls Tryz.prog 192 #[R f 0,R ai 0,R aj 0,R j 0] p (K fun v w=>∃ae af:Value,v=.tuple #[R f 0,R j 0]/\St S p w [Y f [V r.1,ae],W X ae r.2.1,Y j [V r.2.2.1,af],W X af r.2.2.2]):=by
 refine ca4 45 Tryz.func192 Z Z Z ?_
 unfold F.Tv at h
 let j1:=mkJ 10 (F.W8) (fun g L w=>∃ag ah,L=[(0,R f 0),(3,R j 0)]/\St S p w [Y f [V g.1,ag],Y j [V g.2.2.1,ah],W X ag g.2.1,W X ah g.2.2.2]) [] []
 exact wk
theorem oP {p:World} {C D E:Y0} {u A B:Value} {j af f:Nat} {S:Y4} (G T aa:Bool) {r:Bool×Y0×Bool×Y0}
  (h:F.WC G C T D aa E=some r) (hS:St S p p [Y j [V G,u],W X u C,Y f [V aa,B],W X B E]) (ag:N S p X A D) (hBa2:RB S p af [V T,A]):Calls Tryz.prog 192 #[R j 0,R f 0,R af 0,R f 0] p (K fun v w=>∃ab ac:Value,v=.tuple #[R j 0,R f 0]/\St S p w [Y j [V r.1,ab],W X ab r.2.1,Y f [V r.2.2.1,ac],W X ac r.2.2.2]):=by
 refine ca4 45 Tryz.func192 Z Z Z ?_
 unfold F.WC at h
 let j1:=mkJ 10 (F.Xg) (fun g L w=>∃ad ae,L=[(0,R j 0),(3,R f 0)]/\St S p w [Y j [V g.1,ad],Y f [V g.2.2.1,ae],W X ad g.2.1,W X ae g.2.2.2]) [] []
 exact wk
theorem td {f:World} {B C D:Y0} {j p u:Value} {A ab ac:Nat} {S:Y4} (E G T:Bool) {r:Bool×Y0}
  (h:F.UK E B G C T D=some r) (hS:St S f f [Y A [V E,j],W X j B]) (ad:N S f X p C) (hBa1:RB S f ab [V G,p]) (ae:N S f X u D) (hBa2:RB S f ac [V T,u]):Calls Tryz.prog 162 #[R A 0,R ab 0,R ac 0] f (K fun v w=>∃aa:Value,v=R A 0/\St S f w [Y A [V r.1,aa],W X aa r.2]):=by
 refine ca3 13 Tryz.func162 Z Z Z ?_
 unfold F.UK at h
 exact wk
theorem qo {u:World} {A B:Y0} {j p:Value} {f G:Nat} {S:Y4} (C D:Bool) {r:Bool×Y0}
  (h:F.Wf C A D B=some r) (hS:St S u u [Y f [V C,j],W X j A]) (T:N S u X p B) (hBa2:RB S u G [V D,p]):Calls Tryz.prog 162 #[R f 0,R f 0,R G 0] u (K fun v w=>∃E:Value,v=R f 0/\St S u w [Y f [V r.1,E],W X E r.2]):=by
 refine ca3 13 Tryz.func162 Z Z Z ?_
 unfold F.Wf at h
 exact wk
theorem ti {f:World} {u A:Y0} {j p:Value} {D E:Nat} (B C:Bool) {r:Int}
  (h:F.R5 B u C A=some r) (G:N [] f X j u) (hBa0:RB [] f D [V B,j]) (S:N [] f X p A) (hBa1:RB [] f E [V C,p]):Calls Tryz.prog 164 #[R D 0,R E 0] f (K fun v w=>v=U r/\St [] f w []):=by
 refine ca2 35 Tryz.func164 Z Z Z<|have hS:=St.q f;?_
 unfold F.R5 at h
 exact wk
end Go.Proofs
