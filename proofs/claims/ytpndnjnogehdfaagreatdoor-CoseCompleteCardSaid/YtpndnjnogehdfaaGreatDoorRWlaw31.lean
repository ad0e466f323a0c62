import Derived.Test.YtpndnjnogehdfaaGreatDoorRW0
import Derived.Test.YtpndnjnogehdfaaGreatDoorRAw
import Derived.Test.YtpndnjnogehdfaaGreatDoorGkFman
import Derived.Test.YtpndnjnogehdfaaGreatDoorRWcborc
import Derived.Test.YtpndnjnogehdfaaGreatDoorRWcoseb
import Derived.Test.YtpndnjnogehdfaaGreatDoorRWecdsa
import Derived.Test.YtpndnjnogehdfaaGreatDoorRWnatb
set_option linter.unusedVariables false
set_option linter.unusedSimpArgs false
set_option linter.unusedSectionVars false
set_option maxRecDepth 20000
set_option maxHeartbeats 20000000
namespace Go.Proofs
open Go Go.RowKit Go.Gk
open Go.Gk renaming RP -> N, Ret -> K, al -> O, e32 -> X, e8 -> H, eP -> J, own -> W, pB -> R, vB -> V, vI -> U
open Go.Gk.OE renaming bx -> Y
theorem rD {f:World} {a0 a1:Y3} {j p:Value} {r:Bool}
  (h:F.Ro a0 a1=some r) (u:N [] f H j a0) (A:N [] f H p a1):Calls Tryz.prog 9 #[j,p] f (K fun v w=>v=V r/\St [] f w []):=by
 refine ca2 26 Tryz.func9 Z Z Z<|have hS:=St.q f;?_
 unfold F.Ro at h
 let i1:=mkI (F.Yw a0 a1) (fun s L w=>L=[(0,j),(1,p),(5,U s)]/\St [] f w [])
 exact wk
theorem xN {f:World}  {r:Bool}
  (h:F.Vh =some r) (hT:TB [] f):Calls Tryz.prog 4 #[] f (K fun v w=>v=V r/\St [] f w []):=by
 refine eZ 113 Tryz.func4 Z Z Z<|have hS:=St.q f;lL [] trivial ?_
 unfold F.Vh at h
 let j1:=mkJ 4 (F.Rq) (fun g L w=>L=[(67,V g)]/\St [] f w []) [] []
 exact wk
theorem uZ {f:World} {a0 a1 a2 a3:Y3} {u j p A:Value} (a4 a5:Bool) {r:List (Int×UInt64×Y3×Int)}
  (h:F.VX a0 a1 a2 a3 a4 a5=some r) (D:N [] f H u a0) (E:N [] f H j a1) (G:N [] f H p a2) (S:N [] f H A a3):Calls Tryz.prog 7 #[u,j,p,A,V a4,V a5] f (K fun v w=>St [] f w [W (J eI (J e64 (J eS eI))) v r]):=by
 refine ca6 48 Tryz.func7 Z Z Z<|have hS:=St.q f;?_
 unfold F.VX at h
 let j1:=mkJ 5 (F.Xf a0 a3 a4 a1 a2) (fun (g:(List (Int×UInt64×Y3×Int))) L w=>∃C,L=[(0,u),(1,j),(2,p),(3,A),(4,V a4),(13,C)]/\St [] f w [W (J eI (J e64 (J eS eI))) C g]) [] []
 let j2:=mkJ 9 (F.WO a1 a2) (fun (g:(List (Int×UInt64×Y3×Int))) L w=>∃B,L=[(1,j),(2,p),(13,B)]/\St [] f w [W (J eI (J e64 (J eS eI))) B g]) [] []
 exact wk
set_option maxHeartbeats 8000000 in
theorem tS {x:World} {a0 a1 a2:Y3} {b a ai:Value} {S:Y4} {r:Bool}
  (h:F.TF a0 a1 a2=some r) (hS:St S x x [W H b a0,W H a a1]) (bl:N S x H ai a2):Calls Tryz.prog 12 #[b,a,ai] x (K fun v w=>v=V r/\St S x w []):=by
 refine eZ 127 Tryz.func12 Z Z Z<|gl [(0,b),(1,a),(2,ai)] Z ?_
 unfold F.TF at h
 refine gl4<|O 1 Z<|gl1<|gl4<|O 1 Z<|gl3<|cx<|gl [(0,b),(1,a),(2,ai),(7,U 0)] Z ?_
 refine ji (F.XM a1 a2) (fun (s:Int×Y3) L w=>L=[(0,b),(1,a),(2,ai),(7,U s.1)]/\St S x w [W H b s.2,W H a a1]) ?_ (0,a0) ⟨Z,hS⟩ h
 rintro bo ⟨bm,k⟩ L w bI m aX h ay
 try dsimp only at m
 obtain⟨rfl,hS⟩:=m
 unfold F.XM at h
 refine cb<|gl4<|O 2 Z<|aT (fc u22 Z (hS.ro 0 Z)) Z<|O 1 Z<|gl3 ?_
 apply gl9 Z h<;>intro h
 ·refine gl5<|cb<|cx<|bC<|O 2 Z<|bZ h fun bJ az h=>aT (kP u22 ti5 Z Z (hS.ro 0 Z) az) Z<|gh (qD (t:=71) ti5 Z Z hS (i:=0) Z az Z) fun w hS=>kI h fun bn aY h=>?_
  rw[aY]at hS
  exact c6<|ef<|bp<|bC<|O 3 Z<|c6<|gZ (ko (aX (wI (bm+1),bn) _ _ ⟨Z,hS⟩ (ia h ay)) Z)
 refine eE<|bu<|bu<|have h:=fV h ay;eF<|bp<|cb<|gl4<|O 2 Z<|bZ h fun bq aJ h=>nu hS Z (rD  aJ (hS.ro 1 Z).rp (bl.now hS.fr).rp) Z fun w hS=>O 1 Z<|gl3 ?_
 apply gl9 Z h<;>intro h
 ·refine gl4<|O 1 Z<|gl8 ?_
  cases h
  exact gC Z Z ⟨Z,hS.f [] Z Z⟩
 refine gl5<|cb<|gl4<|O 1 Z<|gl3<|cx<|gl [(0,b),(1,a),(8,U 0)] Z ?_
 refine ji (F.Yl k) (fun (s:Int×Y3) L w=>L=[(0,b),(1,a),(8,U s.1)]/\St S x w [W H b k,W H a s.2]) ?_ (0,a1) ⟨Z,hS⟩ h
 rintro br ⟨aZ,c⟩ L w bs m aK h aj
 try dsimp only at m
 obtain⟨rfl,hS⟩:=m
 unfold F.Yl at h
 refine cb<|gl4<|O 2 Z<|aT (fc u22 Z (hS.ro 1 Z)) Z<|O 1 Z<|gl3 ?_
 apply gl9 Z h<;>intro h
 ·refine gl5<|cb<|cx<|bC<|O 2 Z<|bZ h fun bt ak h=>aT (kP u22 ti5 Z Z (hS.ro 1 Z) ak) Z<|gh (qD (t:=72) ti5 Z Z hS (i:=1) Z ak Z) fun w hS=>kI h fun ba aL h=>?_
  rw[aL]at hS
  exact c6<|ef<|bp<|bC<|O 3 Z<|c6<|gZ (ko (aK (wI (aZ+1),ba) _ _ ⟨Z,hS⟩ (ia h aj)) Z)
 refine eE<|bu<|bu<|have h:=fV h aj;eF<|bp<|gl4<|O 2 Z<|have aM:=(hS.ro 0 Z).tw;?_
 replace hS:=hS.twin 0 rfl
 refine gl2<|O 2 Z<|have aN:=(hS.ro 2 Z).tw;?_
 replace hS:=hS.twin 2 rfl
 refine gl1<|gl4<|O 1 Z<|gl3<|cx<|gl [(0,b),(1,a),(9,b),(10,a),(11,U 0)] Z ?_
 refine ji (F.Yb c k) (fun (s:Y3×Int) L w=>∃(f:Value) (y:Nat),L=[(0,b),(1,a),(9,f),(10,a),(11,U s.2)]/\Tw b k f s.1 y/\St S x w [W H f s.1,twE H b k y,twE H a c 0,W H a c]) ?_ (k,0) ⟨b,0,Z,aM,(hS.f [2,1,0,3] Z Z)⟩ h
 rintro bv ⟨af,bb⟩ L w bw m aO h am
 try dsimp only at m
 obtain⟨f,y,rfl,n,hS⟩:=m
 unfold F.Yb at h
 refine cb<|gl4<|O 2 Z<|gl3 ?_
 apply gl9 Z h<;>intro h
 ·refine gl5<|cb<|cx<|bC<|O 1 Z<|jC (jW (e:=H) (l:=[81]) (vs:=[v8 81]) u22 ti5 Z Z Z Z (by decide) (by decide) hS) Z fun bx w hS=>bZ h fun bc aP h=>jC (sP u22 ti5 Z Z Z hS (i:=1) (j:=2) Z Z n (hS.ro 0 Z) aP) Z ?_
  rintro bd w ⟨be,aQ,hS⟩
  exact O 1 Z<|c6<|ef<|bp<|bC<|O 3 Z<|c6<|gZ (ko (aO (bc,wI (bb+1)) _ _ ⟨bd,be,Z,aQ,(hS.f [1,2,3,4] Z Z)⟩ (ia h am)) Z)
 refine eE<|bu<|bu<|have h:=fV h am;eF<|bp<|cb<|gl4<|O 1 Z<|gl3<|cx<|gl [(0,b),(1,a),(9,f),(10,a),(12,U 0)] Z ?_
 refine ji (F.XF k af c) (fun (s:Y3×Int) L w=>∃(d:Value) (u:Nat),L=[(0,b),(1,a),(9,f),(10,d),(12,U s.2)]/\Tw a c d s.1 u/\St S x w [W H d s.1,twE H b k y,W H f af,twE H a c u]) ?_ (c,0) ⟨a,0,Z,aN,(hS.f [3,1,0,2] Z Z)⟩ h
 rintro bz ⟨z,bf⟩ L w bA m aR h an
 try dsimp only at m
 obtain⟨d,u,rfl,o,hS⟩:=m
 unfold F.XF at h
 refine cb<|gl4<|O 2 Z<|gl3 ?_
 apply gl9 Z h<;>intro h
 ·refine gl5<|cb<|cx<|bC<|O 1 Z<|jC (jW (e:=H) (l:=[82]) (vs:=[v8 82]) u22 ti5 Z Z Z Z (by decide) (by decide) hS) Z fun bB w hS=>bZ h fun bg aS h=>jC (sP u22 ti5 Z Z Z hS (i:=1) (j:=4) Z Z o (hS.ro 0 Z) aS) Z ?_
  rintro bh w ⟨bi,aU,hS⟩
  exact O 1 Z<|c6<|ef<|bp<|bC<|O 3 Z<|c6<|gZ (ko (aR (bg,wI (bf+1)) _ _ ⟨bh,bi,Z,aU,(hS.f [1,2,3,4] Z Z)⟩ (ia h an)) Z)
 refine eE<|bu<|bu<|have h:=fV h an;eF<|bp<|cb<|gl4<|O 1 Z<|gl3<|cx<|gl [(0,b),(1,a),(9,f),(10,d),(13,U 0)] Z ?_
 refine ji (F.XY k af c z) (fun (s:Int) L w=>L=[(0,b),(1,a),(9,f),(10,d),(13,U s)]/\St S x w [twE H b k y,W H f af,twE H a c u,W H d z]) ?_ 0 ⟨Z,(hS.f [1,2,3,0] Z Z)⟩ h
 rintro bD A L w bj m aV h ag
 try dsimp only at m
 obtain⟨rfl,hS⟩:=m
 unfold F.XY at h
 refine cb<|gl4<|O 2 Z<|aT (fc u22 Z (hS.ro 1 Z)) Z<|O 1 Z<|gl3 ?_
 apply gl9 Z h<;>intro h
 ·refine gl5<|cb<|cx ?_
  refine gI (r:=bj) (fun (g:Bool) L w=>L=[(0,b),(1,a),(9,f),(10,d),(13,U A),(89,V g)]/\St S x w [twE H b k y,W H f af,twE H a c u,W H d z]) (F.Sr A) ?_ ?_
  rotate_left
  ·intro p
   refine bC<|O 2 Z<|aT (fc u22 Z (hS.twro n 1 0 Z Z)) Z<|O 2 Z ?_
   cases C:(decide (A<(k.length:Int)))
   case true=>
    have h:=fD h C
    try simp only[C]
    refine O 2 Z<|bZ h fun aA ao h=>cc (t:=63) Z Z (kP u22 ti5 Z Z (hS.twro n 1 0 Z Z) ao) Z<|cc (t:=63) Z Z (kW Tryz.underlying5 Z Z (hS.twro n 1 0 Z Z) ao Z) Z<|cc (t:=63) Z Z (bE Z Z (mj _ aA 71)) Z<|O 1 Z ?_
    cases D:(aA != 71)
    case true=>
     have h:=fD h D
     try simp only[D]
     exact O 20 Z<|gl3<|cz (p true _ _ ⟨Z,hS⟩ h) Z
    case false=>
     have h:=fE h D
     try simp only[D]
     refine O 2 Z<|bZ h fun aB ap h=>cc (t:=69) Z Z (kP u22 ti5 Z Z (hS.ro 1 Z) ap) Z<|cc (t:=69) Z Z (kW Tryz.underlying5 Z Z (hS.ro 1 Z) ap Z) Z<|cc (t:=69) Z Z (bE Z Z (mj _ aB 71)) Z<|O 3 Z ?_
     cases E:(aB != 71)
     case true=>
      have h:=fD h E
      try simp only[E]
      exact O 12 Z<|gl3<|cz (p true _ _ ⟨Z,hS⟩ h) Z
     case false=>
      have h:=fE h E
      try simp only[E]
      refine O 2 Z<|cc (t:=77) Z Z (fc u22 Z (hS.twro n 1 0 Z Z)) Z<|O 2 Z ?_
      cases G:(decide ((k.length:Int)<=A))
      case true=>
       have h:=fD h G
       try simp only[G]
       exact O 2 Z<|bZ h fun aC aq h=>cc (t:=82) Z Z (kP u22 ti5 Z Z (hS.ro 1 Z) aq) Z<|cc (t:=82) Z Z (kW Tryz.underlying5 Z Z (hS.ro 1 Z) aq Z) Z<|cc (t:=82) Z Z (bE Z Z (mj _ aC 81)) Z<|O 2 Z<|gl3<|cz (p (aC != 81) _ _ ⟨Z,hS⟩ h) Z
      case false=>
       have h:=fE h G
       try simp only[G]
       exact O 7 Z<|gl3<|cz (p false _ _ ⟨Z,hS⟩ h) Z
   case false=>
    have h:=fE h C
    try simp only[C]
    refine O 16 Z<|cc (t:=77) Z Z (fc u22 Z (hS.twro n 1 0 Z Z)) Z<|O 2 Z ?_
    cases T:(decide ((k.length:Int)<=A))
    case true=>
     have h:=fD h T
     try simp only[T]
     exact O 2 Z<|bZ h fun aD ar h=>cc (t:=82) Z Z (kP u22 ti5 Z Z (hS.ro 1 Z) ar) Z<|cc (t:=82) Z Z (kW Tryz.underlying5 Z Z (hS.ro 1 Z) ar Z) Z<|cc (t:=82) Z Z (bE Z Z (mj _ aD 81)) Z<|O 2 Z<|gl3<|cz (p (aD != 81) _ _ ⟨Z,hS⟩ h) Z
    case false=>
     have h:=fE h T
     try simp only[T]
     exact O 7 Z<|gl3<|cz (p false _ _ ⟨Z,hS⟩ h) Z
  rintro bF L w hJ h
  try dsimp only at hJ
  obtain⟨rfl,hS⟩:=hJ
  unfold F.Sr at h
  apply gl9 Z h<;>intro h
  ·refine gl4<|O 1 Z<|gl3<|f5<|dR<|de<|de<|have h:=fV h ag;dR<|de ?_
   cases h
   exact gC Z Z ⟨Z,hS.f [] Z Z⟩
  exact kC<|ef<|bp<|bC<|O 3 Z<|c6<|gZ (ko (aV (wI (A+1)) _ _ ⟨Z,hS⟩ (ia h ag)) Z)
 refine eE<|bu<|bu<|have h:=fV h ag;eF<|bp<|cb<|gl4<|O 1 Z<|gl3<|cx<|gl [(1,a),(10,d),(14,U 0)] Z ?_
 refine ji (F.Xz c z) (fun (s:Int) L w=>L=[(1,a),(10,d),(14,U s)]/\St S x w [twE H a c u,W H d z]) ?_ 0 ⟨Z,(hS.f [2,3] Z Z)⟩ h
 rintro bG B L w bk m aW h ah
 try dsimp only at m
 obtain⟨rfl,hS⟩:=m
 unfold F.Xz at h
 refine cb<|gl4<|O 2 Z<|aT (fc u22 Z (hS.ro 1 Z)) Z<|O 1 Z<|gl3 ?_
 apply gl9 Z h<;>intro h
 ·refine gl5<|cb<|cx ?_
  refine gI (r:=bk) (fun (g:Bool) L w=>L=[(1,a),(10,d),(14,U B),(126,V g)]/\St S x w [twE H a c u,W H d z]) (F.SB B) ?_ ?_
  rotate_left
  ·intro q
   refine bC<|O 2 Z<|aT (fc u22 Z (hS.twro o 1 0 Z Z)) Z<|O 2 Z ?_
   cases aa:(decide (B<(c.length:Int)))
   case true=>
    have h:=fD h aa
    try simp only[aa]
    refine O 2 Z<|bZ h fun aF au h=>cc (t:=100) Z Z (kP u22 ti5 Z Z (hS.twro o 1 0 Z Z) au) Z<|cc (t:=100) Z Z (kW Tryz.underlying5 Z Z (hS.twro o 1 0 Z Z) au Z) Z<|cc (t:=100) Z Z (bE Z Z (mj _ aF 72)) Z<|O 1 Z ?_
    cases ab:(aF != 72)
    case true=>
     have h:=fD h ab
     try simp only[ab]
     exact O 20 Z<|gl3<|cz (q true _ _ ⟨Z,hS⟩ h) Z
    case false=>
     have h:=fE h ab
     try simp only[ab]
     refine O 2 Z<|bZ h fun aG av h=>cc (t:=106) Z Z (kP u22 ti5 Z Z (hS.ro 1 Z) av) Z<|cc (t:=106) Z Z (kW Tryz.underlying5 Z Z (hS.ro 1 Z) av Z) Z<|cc (t:=106) Z Z (bE Z Z (mj _ aG 72)) Z<|O 3 Z ?_
     cases ac:(aG != 72)
     case true=>
      have h:=fD h ac
      try simp only[ac]
      exact O 12 Z<|gl3<|cz (q true _ _ ⟨Z,hS⟩ h) Z
     case false=>
      have h:=fE h ac
      try simp only[ac]
      refine O 2 Z<|cc (t:=114) Z Z (fc u22 Z (hS.twro o 1 0 Z Z)) Z<|O 2 Z ?_
      cases ad:(decide ((c.length:Int)<=B))
      case true=>
       have h:=fD h ad
       try simp only[ad]
       exact O 2 Z<|bZ h fun aH aw h=>cc (t:=119) Z Z (kP u22 ti5 Z Z (hS.ro 1 Z) aw) Z<|cc (t:=119) Z Z (kW Tryz.underlying5 Z Z (hS.ro 1 Z) aw Z) Z<|cc (t:=119) Z Z (bE Z Z (mj _ aH 82)) Z<|O 2 Z<|gl3<|cz (q (aH != 82) _ _ ⟨Z,hS⟩ h) Z
      case false=>
       have h:=fE h ad
       try simp only[ad]
       exact O 7 Z<|gl3<|cz (q false _ _ ⟨Z,hS⟩ h) Z
   case false=>
    have h:=fE h aa
    try simp only[aa]
    refine O 16 Z<|cc (t:=114) Z Z (fc u22 Z (hS.twro o 1 0 Z Z)) Z<|O 2 Z ?_
    cases ae:(decide ((c.length:Int)<=B))
    case true=>
     have h:=fD h ae
     try simp only[ae]
     exact O 2 Z<|bZ h fun aI ax h=>cc (t:=119) Z Z (kP u22 ti5 Z Z (hS.ro 1 Z) ax) Z<|cc (t:=119) Z Z (kW Tryz.underlying5 Z Z (hS.ro 1 Z) ax Z) Z<|cc (t:=119) Z Z (bE Z Z (mj _ aI 82)) Z<|O 2 Z<|gl3<|cz (q (aI != 82) _ _ ⟨Z,hS⟩ h) Z
    case false=>
     have h:=fE h ae
     try simp only[ae]
     exact O 7 Z<|gl3<|cz (q false _ _ ⟨Z,hS⟩ h) Z
  rintro bH L w hJ h
  try dsimp only at hJ
  obtain⟨rfl,hS⟩:=hJ
  unfold F.SB at h
  apply gl9 Z h<;>intro h
  ·refine gl4<|O 1 Z<|gl3<|f5<|dR<|de<|de<|have h:=fV h ah;dR<|de ?_
   cases h
   exact gC Z Z ⟨Z,hS.f [] Z Z⟩
  exact kC<|ef<|bp<|bC<|O 3 Z<|c6<|gZ (ko (aW (wI (B+1)) _ _ ⟨Z,hS⟩ (ia h ah)) Z)
 refine eE<|bu<|bu<|have h:=fV h ah;eF<|bp<|gl4<|O 1 Z<|gl3<|f5 ?_
 cases h
 exact gC Z Z ⟨Z,hS.f [] Z Z⟩
theorem c_law31_CoseComplete {C:World} {a0 a1:Y3} {a2 a3 E G:Y0} {ac ad af ag p u:Value} (j:Bool) {r:Bool}
  (h:F.Xm a0 a1 a2 a3 E G j=some r) (hT:TB [] C) (ao:N [] C H ac a0) (ap:N [] C H ad a1) (aq:N [] C X af a2) (ar:N [] C X ag a3) (O:N [] C X p E) (am:N [] C X u G):Calls Tryz.prog 3 #[ac,ad,af,ag,.agg #[p,u,V j]] C (K fun v w=>v=V r/\St [] C w []):=by
 refine ca5 186 Tryz.func3 Z Z Z<|have hS:=St.q C;?_
 unfold F.Xm at h
 let j1:=fun B ah ai (aj:Y3×Bool) (ak:Y3×Bool)=>mkJ 7 (F.SR a0 a1 aj ak a2 a3 E G j) (fun g L w=>L=[(0,ac),(1,ad),(2,af),(3,ag),(9,R B 0),(11,ah),(13,ai),(63,V g)]/\St [] C w [Y B [p,u,V j],W H ah aj.1,W H ai ak.1]) [(9,R B 0),(11,ah),(13,ai)] [Y B [p,u,V j],W H ah aj.1,W H ai ak.1]
 let j2:=fun B f S (A:Y3×Int) (ae:Int×Y3×Y3×Y3×Y3×Int)=>mkJ 16 (F.Vu a0 a1 a2 a3 E G j A ae) (fun g L w=>L=[(0,ac),(1,ad),(2,af),(3,ag),(9,R B 0),(16,f),(22,S),(103,V g)]/\St [] C w [Y B [p,u,V j],W H f A.1,W H S ae.2.2.2.2.1]) [(9,R B 0),(16,f),(22,S)] [Y B [p,u,V j],W H f A.1,W H S ae.2.2.2.2.1]
 let j3:=fun T f aa ab (A:Y3×Int) (D:Y3×Y3×Int)=>mkJ 25 (F.SH a0 a1 A D) (fun g L w=>L=[(0,ac),(1,ad),(16,f),(27,R T 0),(170,V g)]/\St [] C w [Y T [U 3,U 1,Y5,Y5,Y5,aa,ab],W H f A.1,W H aa D.1,W H ab D.2.1]) [(16,f),(27,R T 0)] [Y T [U 3,U 1,Y5,Y5,Y5,aa,ab],W H f A.1,W H aa D.1,W H ab D.2.1]
 exact wk
end Go.Proofs
