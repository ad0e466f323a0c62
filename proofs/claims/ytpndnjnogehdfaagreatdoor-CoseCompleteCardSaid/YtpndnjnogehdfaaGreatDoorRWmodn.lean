import Derived.Test.YtpndnjnogehdfaaGreatDoorRW0
import Derived.Test.YtpndnjnogehdfaaGreatDoorRAw
import Derived.Test.YtpndnjnogehdfaaGreatDoorGkFman
import Derived.Test.YtpndnjnogehdfaaGreatDoorRWnatb
set_option linter.unusedVariables false
set_option linter.unusedSimpArgs false
set_option linter.unusedSectionVars false
set_option maxRecDepth 20000
set_option maxHeartbeats 20000000
namespace Go.Proofs
open Go Go.RowKit Go.Gk
open Go.Gk renaming RP -> N, Rds -> I, Ret -> K, al -> O, e32 -> X, own -> W, red -> P, vI -> U
open Go.Gk.Rds renaming cons -> Q
theorem B2 {f:World} {a0:Y0} {j:Value} {r:Int}
  (h:F.Vm a0=some r) (p:N [] f X j a0):Calls Tryz.prog 101 #[j] f (K fun v w=>v=U r/\St [] f w []):=by
 refine ca1 7 Tryz.func101 Z Z Z<|have hS:=St.q f;?_
 unfold F.Vm at h
 exact wk
theorem rH {j:World} {a0:List Y0} {f:Value} {s0:List SV} {r:Int}
  (h:F.Sj a0=some r) (p:N [] j eV f s0) (hl0:jo [] j X s0 a0):Calls Tryz.prog 58 #[f] j (K fun v w=>v=U r/\St [] j w []):=by
 refine ca1 23 Tryz.func58 Z Z Z<|have hS:=St.q j;?_
 unfold F.Sj at h
 let i1:=mkI (F.S0 a0) (fun s L w=>L=[(0,f),(5,f),(6,U (a0.length:Int)),(7,U s)]/\St [] j w [])
 exact wk
theorem pi {f:World} {a0 a1:Y0} {j p:Value} {r:Y0}
  (h:F.RM a0 a1=some r) (u:N [] f X j a0) (A:N [] f X p a1):Calls Tryz.prog 59 #[j,p] f (K fun v w=>St [] f w [W X v r]):=by
 refine ca2 16 Tryz.func59 Z Z Z<|have hS:=St.q f;?_
 unfold F.RM at h
 exact wk
theorem BP {f:World} {a0 a1:Y0} {j p:Value} {r:Y0}
  (h:F.Uk a0 a1=some r) (u:N [] f X j a0) (A:N [] f X p a1):Calls Tryz.prog 103 #[j,p] f (K fun v w=>St [] f w [W X v r]):=by
 refine ca2 12 Tryz.func103 Z Z Z<|have hS:=St.q f;?_
 unfold F.Uk at h
 exact wk
theorem zX {f:World} {a0 a1 a2:Y0} {p u A:Value} {r:Y0}
  (h:F.To a0 a1 a2=some r) (B:N [] f X p a0) (C:N [] f X u a1) (D:N [] f X A a2):Calls Tryz.prog 66 #[p,u,A] f (K fun v w=>St [] f w [W X v r]):=by
 refine ca3 26 Tryz.func66 Z Z Z<|have hS:=St.q f;?_
 unfold F.To at h
 let j1:=mkJ 5 (F.Xi) (fun g L w=>∃j,L=[(7,j)]/\St [] f w [W X j g]) [] []
 exact wk
theorem uL {j:World} {a0 a1:Y0} {C f:Value} {T:Y4} {r:Y0×Y0}
  (h:F.UV a0 a1=some r) (hTT:TOk [] T j) (af:N T j X C a0) (ag:N T j X f a1):Calls Tryz.prog 61 #[C,f] j (K fun v w=>∃u0:Value,∃u1:Value,v=.tuple #[u0,u1]/\St [] j w []/\I T w [P X u1 r.2,P X u0 r.1]):=by
 refine ca2 59 Tryz.func61 Z Z Z<|have hS:=St.q j;have hZ:=Fz.q (S:=[]) (w0:=j);?_
 have hA0:I T j [P X f a1,P X C a0]:=Q (N.p (an Z) ag) (Q (N.p (an Z) af) (I.nil))
 have hA:=hA0.all
 have hP:=hA0.off Z
 unfold F.UV at h
 let i1:=mkI (F.Uu a1) (fun s L w=>∃D p E u,L=[(1,f),(6,D),(7,p),(8,E),(9,u)]/\SfT [] T j w [P X u s.2.2.2,P X E s.2.2.1,P X p s.2.1,P X D s.1,P X f a1] [])
 let i2:=fun p u G aa=>mkI (F.Wg a1 G aa) (fun s L w=>∃A B,L=[(1,f),(6,A),(7,p),(8,B),(9,u)]/\SfT [] T j w [P X u aa,P X B s.2,P X p G,P X A s.1,P X f a1] [])
 let i3:=fun A B ab ac=>mkI (F.U9 a1 ab ac) (fun s L w=>∃ad ae,L=[(1,f),(6,A),(7,ad),(8,B),(9,ae)]/\SfT [] T j w [P X ae s.2,P X B ac,P X ad s.1,P X A ab,P X f a1] [])
 exact wk
theorem Dv {f:World} {a0 a1:Y0} {c d:Value} {r:Y0×Int}
  (h:F.Te a0 a1=some r) (s:N [] f X c a0) (t:N [] f X d a1):Calls Tryz.prog 28 #[c,d] f (K fun v w=>∃u0:Value,v=.tuple #[u0,U r.2]/\St [] f w [W X u0 r.1]):=by
 refine eZ 40 Tryz.func28 Z Z Z<|have a:=St.q f;have g:=Fz.q (S:=[]) (w0:=f);?_
 have hTT:TOk [] [] f:=TOk.nil
 have b:I [] f [P X d a1,P X c a0]:=Q (N.p (an Z) t) (Q (N.p (an Z) s) (I.nil))
 have i:Off [] [P X d a1,P X c a0]:=Off.emp
 refine gl [(0,c),(1,d)] Z ?_
 unfold F.Te at h
 refine gl4<|O 2 Z<|gl3<|DV 0 Z<|gl4<|O 2 Z<|gl1<|gl4<|O 2 Z<|jC (jW (e:=eV) (l:=([SV.of c,SV.of d]:List SV)) (vs:=[c,d]) Tryz.underlying184 Mr Z Z Z (AZ ((b.rp 0 Z).now a.fr).sv (AZ ((b.rp 1 Z).now a.fr).sv Z)) (by decide) (by decide) a) Z fun u w a=>bZ h fun aa m h=>nu a Z (rH  m (a.ro 0 Z).rp ⟨((b.rp 0 Z).now a.fr).svrp,((b.rp 1 Z).now a.fr).svrp,trivial⟩) Z fun w a=>O 1 Z<|gl2<|O 2 Z<|gl3 ?_
 apply gl9 Z h<;>intro h
 ·refine gl4<|O 3 Z<|gl8<|HB ?_
  cases h
  replace a:=g.st a
  exact jw Z Z Z ⟨Y5,Z,(a.nil X).f [0] Z Z⟩
 refine gl6<|O 2 Z<|bZ h fun x n h=>uD a Z (pi  n ((b.rp 0 Z).now a.fr).rp ((b.rp 1 Z).now a.fr).rp) Z fun y w a=>O 1 Z<|gl1<|gl4<|O 1 Z<|bZ h fun ab o h=>nu a Z (wO 0 o ((b.rp 1 Z).now a.fr).rp) Z fun w a=>gl3 ?_
 apply gl9 Z h<;>intro h
 ·refine gl4<|O 2 Z ?_
  replace a:=a.pick (os':=[W X y x,W eV u ([SV.of c,SV.of d]:List SV)]++[]) [0,1] (by decide) rfl
  obtain⟨g,b,i,a⟩:=g.frzK hTT b i a
  refine bZ h fun ac p h=>kx Z (uL  p (g.okT hTT a) (b.rpT i 3 Z) (b.rpT i 1 Z)) Z ?_
  rintro _ w ⟨C,D,rfl,z,A⟩
  obtain⟨E,B,g,b,i,a⟩:=g.callK b i a z A rfl
  refine O 5 Z<|gl3<|Iu<|EX<|H4<|cb<|gl5<|cb<|gl4<|O 1 Z<|jC (jW (e:=X) (l:=([1]:Y0)) (vs:=[v32 1]) Tryz.underlying24 z6 Z Z Z Z (by decide) (by decide) a) Z fun G w a=>bZ h fun L j h=>nu a Z (wP  j ((b.rp 4 Z).now a.fr).rp (a.ro 0 Z).rp) Z fun w a=>O 1 Z<|gl3 ?_
  apply gl9 Z h<;>intro h
  ·refine gl4<|O 2 Z<|gl8<|A9 ?_
   cases h
   replace a:=g.st a
   exact jw Z Z Z ⟨Y5,Z,(a.nil X).f [0] Z Z⟩
  refine gl6<|O 2 Z<|bZ h fun T k h=>uD a Z (pi  k ((b.rp 5 Z).now a.fr).rp ((b.rp 1 Z).now a.fr).rp) Z fun q w a=>O 2 Z<|gl3<|f5<|A9 ?_
  cases h
  replace a:=g.st a
  exact jw Z Z Z ⟨q,Z,a.f [0] Z Z⟩
 refine gl6<|O 2 Z ?_
 cases h
theorem DM {f:World} {a0 a1 a2:Y0} {j p u:Value} {r:Y0×Int}
  (h:F.SG a0 a1 a2=some r) (A:N [] f X j a0) (B:N [] f X p a1) (C:N [] f X u a2):Calls Tryz.prog 29 #[j,p,u] f (K fun v w=>∃u0:Value,v=.tuple #[u0,U r.2]/\St [] f w [W X u0 r.1]):=by
 refine ca3 22 Tryz.func29 Z Z Z<|have hS:=St.q f;?_
 unfold F.SG at h
 exact wk
theorem DL {f:World} {a0 a1 a2:Y0} {j p u:Value} {r:Y0×Int}
  (h:F.V7 a0 a1 a2=some r) (A:N [] f X j a0) (B:N [] f X p a1) (C:N [] f X u a2):Calls Tryz.prog 31 #[j,p,u] f (K fun v w=>∃u0:Value,v=.tuple #[u0,U r.2]/\St [] f w [W X u0 r.1]):=by
 refine ca3 25 Tryz.func31 Z Z Z<|have hS:=St.q f;?_
 unfold F.V7 at h
 exact wk
end Go.Proofs
