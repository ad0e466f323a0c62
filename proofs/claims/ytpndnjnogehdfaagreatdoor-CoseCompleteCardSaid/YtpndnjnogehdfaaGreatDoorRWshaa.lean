import Derived.Test.YtpndnjnogehdfaaGreatDoorRW0
import Derived.Test.YtpndnjnogehdfaaGreatDoorRAw
import Derived.Test.YtpndnjnogehdfaaGreatDoorGkFman
import Derived.Test.YtpndnjnogehdfaaGreatDoorRWlib
set_option linter.unusedVariables false
set_option linter.unusedSimpArgs false
set_option linter.unusedSectionVars false
set_option maxRecDepth 20000
set_option maxHeartbeats 20000000
namespace Go.Proofs
open Go Go.RowKit Go.Gk
open Go.Gk renaming RP -> N, Ret -> K, al -> O, e32 -> X, e8 -> H, pB -> R, v64 -> M, vB -> V, vI -> U
open Go.Gk.OE renaming bx -> Y
theorem DU {f:World} (a0:Int) {r:Int}
  (h:F.RE a0=some r) :Calls Tryz.prog 22 #[U a0] f (K fun v w=>v=U r/\St [] f w []):=by
 refine ca1 10 Tryz.func22 Z Z Z<|have hS:=St.q f;?_
 unfold F.RE at h
 exact wk
theorem xx {d:World} (a0:Int) {r:Option (Int×Y0×List UInt64×Y3×UInt64)}
  (h:F.W4 a0=some r) (j:TB [] d):Calls Tryz.prog 105 #[U a0] d (K fun v w=>∃u0:Value,v=u0/\rO u0 (r.map (fun c=>[U c.1]++(X.fl c.2.1++(e64.fl c.2.2.1++(H.fl c.2.2.2.1++[M c.2.2.2.2])))))/\(∀c,r=some c->c.2.1.length=8/\c.2.2.1.length=8/\c.2.2.2.1.length=128)/\St [] d w (oH u0 (r.map (fun c=>[U c.1]++(X.fl c.2.1++(e64.fl c.2.2.1++(H.fl c.2.2.2.1++[M c.2.2.2.2])))))++[])):=by
 refine eZ 27 Tryz.func105 Z Z Z<|have a:=St.q d;gl [(0,U a0)] Z ?_
 unfold F.W4 at h
 refine gl4<|O 1 Z<|gl2<|O 1 Z<|aT (xA (vs:=[(0,U a0,[U a0])]) (cells:=[U a0]++(X.fl (List.replicate 8 0)++(e64.fl (List.replicate 8 0)++(H.fl (List.replicate 128 0)++[M 0])))) Z GT ⟨Z,trivial⟩ (by kernel_rfl)) Z<|oq (sh (cs:=[U a0]++(X.fl (List.replicate 8 0)++(e64.fl (List.replicate 8 0)++(H.fl (List.replicate 128 0)++[M 0])))) Z Z a) Z fun f w a=>O 1 Z<|gl3 ?_
 refine gI (r:=r) (fun (g:Y0×List UInt64) L w=>L=[(3,R f 0)]/\g.1.length=8/\g.2.length=8/\St [] d w [Y f ([U a0]++(X.fl g.1++(e64.fl g.2++(H.fl (List.replicate 128 0)++[M 0]))))]) (F.Ws a0) ?_ ?_
 rotate_left
 ·intro b
  refine gl4<|O 1 Z<|gl3<|cx<|gl4<|O 2 Z<|gl3 ?_
  apply gl9 Z h<;>intro h
  ·exact bC<|O 1 Z<|aT (n8 (us:=X.fl F.Rm) Tryz.underlying227 Z EH (fG (show F.Rm.length=8 from Z) Z) Z (j.sha_start256.cells a.fr)) Z<|aT (gf Z) Z<|aT (bc (k:=1) u231 Z Z JG Z) Z<|gh (ob (m:=8) (xs:=X.fl (List.replicate 8 0)) (xs':=X.fl F.Rm) (i:=0) Z EH Z Z Z (Up.r (k:=1) Z Up.here Z) (fG bd Z) (fG (show F.Rm.length=8 from Z) Z) up a) fun w a=>c6<|ef<|bp<|cz (b (F.Rm,(List.replicate 8 0)) _ _ ⟨Z,(show F.Rm.length=8 from Z),bd,a⟩ h) Z
  refine gl4<|O 2 Z<|gl3 ?_
  apply gl9 Z h<;>intro h
  ·exact bC<|O 1 Z<|aT (n8 (us:=e64.fl F.Rl) Tryz.underlying228 Z uM (fG (show F.Rl.length=8 from Z) Z) Z (j.sha_start384.cells a.fr)) Z<|aT (gf Z) Z<|aT (bc (k:=9) u231 Z Z DW Z) Z<|gh (ob (m:=8) (xs:=e64.fl (List.replicate 8 0)) (xs':=e64.fl F.Rl) (i:=0) Z uM Z Z Z (Up.r (k:=1) Z (Up.r (k:=8) (fG bd Z) Up.here Z) Z) (fG bd Z) (fG (show F.Rl.length=8 from Z) Z) up a) fun w a=>c6<|ef<|bp<|cz (b ((List.replicate 8 0),F.Rl) _ _ ⟨Z,bd,(show F.Rl.length=8 from Z),a⟩ h) Z
  refine gl4<|O 2 Z<|gl3 ?_
  apply gl9 Z h<;>intro h
  ·exact bC<|O 1 Z<|aT (n8 (us:=e64.fl F.Rn) Tryz.underlying228 Z uM (fG (show F.Rn.length=8 from Z) Z) Z (j.sha_start512.cells a.fr)) Z<|aT (gf Z) Z<|aT (bc (k:=9) u231 Z Z DW Z) Z<|gh (ob (m:=8) (xs:=e64.fl (List.replicate 8 0)) (xs':=e64.fl F.Rn) (i:=0) Z uM Z Z Z (Up.r (k:=1) Z (Up.r (k:=8) (fG bd Z) Up.here Z) Z) (fG bd Z) (fG (show F.Rn.length=8 from Z) Z) up a) fun w a=>c6<|ef<|bp<|cz (b ((List.replicate 8 0),F.Rn) _ _ ⟨Z,bd,(show F.Rn.length=8 from Z),a⟩ h) Z
  refine gl4<|O 1 Z<|gl3<|f5<|dR<|de ?_
  cases h
  exact gC Z Z ⟨.pointer none,Z,Z,(fun c hc=>by cases hc),a.f [] Z Z⟩
 rintro⟨p,q⟩ L w o h
 try dsimp only at o
 obtain⟨rfl,l,n,a⟩:=o
 unfold F.Ws at h
 refine gl4<|O 2 Z<|gl3<|f5 ?_
 cases h
 exact gC Z Z ⟨R f 0,Z,⟨_,Z⟩,(fun c hc=>by cases hc; exact⟨l,n,bd⟩),a.f [0] Z Z⟩
theorem sY {f:World} (a0:Int) {r:Int}
  (h:F.VJ a0=some r) :Calls Tryz.prog 150 #[U a0] f (K fun v w=>v=U r/\St [] f w []):=by
 refine ca1 9 Tryz.func150 Z Z Z<|have hS:=St.q f;?_
 unfold F.VJ at h
 let j1:=mkJ 7 (F.Xy) (fun g L w=>L=[(6,V g)]/\St [] f w []) [] []
 exact wk
theorem qX {D:World} {B:Nat} {S:Y4} (p:Int) (A:Y0) (f:List UInt64) (j:Y3) (u:UInt64) {r:Int×Y0×List UInt64×Y3×UInt64}
  (h:F.UT p A f j u=some r) (hS:St S D D [Y B ([U p]++(X.fl A++(e64.fl f++(H.fl j++[M u]))))]) (hT:TB S D) (ag:A.length=8) (ah:f.length=8) (ai:j.length=128):Calls Tryz.prog 185 #[R B 0] D (K fun v w=>v=.tuple #[]/\r.2.1.length=8/\r.2.2.1.length=8/\r.2.2.2.1.length=128/\St S D w [Y B ([U r.1]++(X.fl r.2.1++(e64.fl r.2.2.1++(H.fl r.2.2.2.1++[M r.2.2.2.2]))))]):=by
 refine ca1 221 Tryz.func185 Z Z Z ?_
 unfold F.UT at h
 let i1:=fun C=>mkI (F.Xe j A p f u) (fun s L w=>L=[(0,R B 0),(2,R C 0),(21,U s.1)]/\s.2.length=64/\St S D w [Y B ([U p]++(X.fl A++(e64.fl f++(H.fl j++[M u])))),Y C (X.fl s.2)])
 let i2:=fun C=>mkI (F.TZ A p f j u) (fun s L w=>L=[(0,R B 0),(2,R C 0),(5,U s.1)]/\s.2.length=64/\St S D w [Y B ([U p]++(X.fl A++(e64.fl f++(H.fl j++[M u])))),Y C (X.fl s.2)])
 let i3:=fun C E=>mkI (F.Wc A E p f j u) (fun s L w=>L=[(0,R B 0),(2,R C 0),(8,v32 s.1),(9,v32 s.2.1),(10,v32 s.2.2.1),(11,v32 s.2.2.2.1),(12,v32 s.2.2.2.2.1),(13,v32 s.2.2.2.2.2.1),(14,v32 s.2.2.2.2.2.2.1),(15,v32 s.2.2.2.2.2.2.2.1),(136,U s.2.2.2.2.2.2.2.2)]/\St S D w [Y B ([U p]++(X.fl A++(e64.fl f++(H.fl j++[M u])))),Y C (X.fl E)])
 let i4:=fun G T aa ab ac ad ae af=>mkI (F.Vc p f j u G T aa ab ac ad ae af) (fun s L w=>L=[(0,R B 0),(204,.agg #[v32 G,v32 T,v32 aa,v32 ab,v32 ac,v32 ad,v32 ae,v32 af]),(205,U s.1)]/\s.2.length=8/\St S D w [Y B ([U p]++(X.fl s.2++(e64.fl f++(H.fl j++[M u]))))])
 exact wk
theorem qV {D:World} {A:Nat} {S:Y4} (p:Int) (f:Y0) (B:List UInt64) (j:Y3) (u:UInt64) {r:Int×Y0×List UInt64×Y3×UInt64}
  (h:F.VY p f B j u=some r) (hS:St S D D [Y A ([U p]++(X.fl f++(e64.fl B++(H.fl j++[M u]))))]) (hT:TB S D) (ai:f.length=8) (aj:B.length=8) (ak:j.length=128):Calls Tryz.prog 186 #[R A 0] D (K fun v w=>v=.tuple #[]/\r.2.1.length=8/\r.2.2.1.length=8/\r.2.2.2.1.length=128/\St S D w [Y A ([U r.1]++(X.fl r.2.1++(e64.fl r.2.2.1++(H.fl r.2.2.2.1++[M r.2.2.2.2]))))]):=by
 refine ca1 216 Tryz.func186 Z Z Z ?_
 unfold F.VY at h
 let i1:=fun C=>mkI (F.WN j B p f u) (fun s L w=>L=[(0,R A 0),(2,R C 0),(22,U s.1)]/\s.2.length=80/\St S D w [Y A ([U p]++(X.fl f++(e64.fl B++(H.fl j++[M u])))),Y C (e64.fl s.2)])
 let i2:=fun C (G:Y3) E=>mkI (F.Vf E G) (fun s L w=>L=[(0,R A 0),(2,R C 0),(3,U E),(22,U E),(33,slV (.slice (some ⟨A,17,none⟩) 128 128) H.sz ((wI (8*E):Int).toNat) ((wI ((wI (8*E))+8):Int).toNat)),(34,U (G.length:Int)),(35,U s.1)]/\s.2.length=80/\St S D w [Y A ([U p]++(X.fl f++(e64.fl B++(H.fl j++[M u])))),Y C (e64.fl s.2)])
 let i3:=fun C=>mkI (F.TA B p f j u) (fun s L w=>L=[(0,R A 0),(2,R C 0),(6,U s.1)]/\s.2.length=80/\St S D w [Y A ([U p]++(X.fl f++(e64.fl B++(H.fl j++[M u])))),Y C (e64.fl s.2)])
 let i4:=fun C T=>mkI (F.Wu B T p f j u) (fun s L w=>L=[(0,R A 0),(2,R C 0),(9,M s.1),(10,M s.2.1),(11,M s.2.2.1),(12,M s.2.2.2.1),(13,M s.2.2.2.2.1),(14,M s.2.2.2.2.2.1),(15,M s.2.2.2.2.2.2.1),(16,M s.2.2.2.2.2.2.2.1),(131,U s.2.2.2.2.2.2.2.2)]/\St S D w [Y A ([U p]++(X.fl f++(e64.fl B++(H.fl j++[M u])))),Y C (e64.fl T)])
 let i5:=fun aa ab ac ad ae af ag ah=>mkI (F.V9 p f j u aa ab ac ad ae af ag ah) (fun s L w=>L=[(0,R A 0),(199,.agg #[M aa,M ab,M ac,M ad,M ae,M af,M ag,M ah]),(200,U s.1)]/\s.2.length=8/\St S D w [Y A ([U p]++(X.fl f++(e64.fl s.2++(H.fl j++[M u]))))])
 exact wk
theorem nL {u:World} {A:Nat} {S:Y4} (B:Int) (f:Y0) (j:List UInt64) (p:Y3) (C:UInt64) {r:Int×Y0×List UInt64×Y3×UInt64}
  (h:F.TC B f j p C=some r) (hS:St S u u [Y A ([U B]++(X.fl f++(e64.fl j++(H.fl p++[M C]))))]) (hT:TB S u) (D:f.length=8) (E:j.length=8) (G:p.length=128):Calls Tryz.prog 151 #[R A 0] u (K fun v w=>v=.tuple #[]/\r.2.1.length=8/\r.2.2.1.length=8/\r.2.2.2.1.length=128/\St S u w [Y A ([U r.1]++(X.fl r.2.1++(e64.fl r.2.2.1++(H.fl r.2.2.2.1++[M r.2.2.2.2]))))]):=by
 refine ca1 11 Tryz.func151 Z Z Z ?_
 unfold F.TC at h
 exact wk
theorem nK {A:World} {a1:Y3} {B:Value} {l:Nat} {S:Y4} (q:Int) (t:Y0) (u:List UInt64) (x:Y3) (D:UInt64) {r:Int×Y0×List UInt64×Y3×UInt64}
  (h:F.SC q t u x D a1=some r) (hS:St S A A [Y l ([U q]++(X.fl t++(e64.fl u++(H.fl x++[M D]))))]) (hT:TB S A) (ad:t.length=8) (ae:u.length=8) (af:x.length=128) (au:N S A H B a1):Calls Tryz.prog 106 #[R l 0,B] A (K fun v w=>v=.tuple #[]/\r.2.1.length=8/\r.2.2.1.length=8/\r.2.2.2.1.length=128/\St S A w [Y l ([U r.1]++(X.fl r.2.1++(e64.fl r.2.2.1++(H.fl r.2.2.2.1++[M r.2.2.2.2]))))]):=by
 refine eZ 50 Tryz.func106 Z Z Z<|gl [(0,R l 0),(1,B)] Z ?_
 unfold F.SC at h
 refine gl4<|O 1 Z<|aT (gf Z) Z<|aT (bc (k:=0) u231 Z Z ME Z) Z<|aT (bY Tryz.underlying41 Z Z (hS.bxg 0 Z (Up.get0 Up.here))) Z<|bZ h fun p ap h=>nu hS Z (sY q ap ) Z fun w hS=>O 1 Z<|gl3<|cx<|gl [(0,R l 0),(1,B),(4,U p)] Z ?_
 refine ji (F.SN p) (fun (s:Y3×Int×Y0×List UInt64×Y3×UInt64) L w=>∃(C:Value),L=[(0,R l 0),(1,C),(4,U p)]/\N S A H C s.1/\s.2.2.1.length=8/\s.2.2.2.1.length=8/\s.2.2.2.2.1.length=128/\St S A w [Y l ([U s.2.1]++(X.fl s.2.2.1++(e64.fl s.2.2.2.1++(H.fl s.2.2.2.2.1++[M s.2.2.2.2.2]))))]) ?_ (a1,q,t,u,x,D) ⟨B,Z,au,ad,ae,af,hS⟩ h
 rintro ay ⟨ao,T,aa,ab,az,f⟩ L w aA hI G h y
 try dsimp only at hI
 obtain⟨C,rfl,n,g,c,b,hS⟩:=hI
 unfold F.SN at h
 refine cb<|gl4<|O 1 Z<|aT (fc u22 Z (n.now hS.fr)) Z<|O 1 Z<|gl3 ?_
 apply gl9 Z h<;>intro h
 ·refine gl5<|cx<|gl4<|O 1 Z<|aT (gf Z) Z<|aT (bc (k:=145) u231 Z Z tz Z) Z<|aT (bY u62 Z Z (hS.bxg 0 Z (Up.get0 (Up.r (k:=1) Z (Up.r (k:=8) (fG g Z) (Up.r (k:=8) (fG c Z) (Up.r (k:=128) (fG b Z) Up.last Z) Z) Z) Z)))) Z<|O 1 Z<|aT (gr Z (oa Tryz.underlying3 u62 p)) Z<|sa h fun ag h=>aT (bE Z Z (Ch _ f (UInt64.ofInt p) ag)) Z<|aT (gr Z (Cg u62 Tryz.underlying3 (f%(UInt64.ofInt p)))) Z<|kI h fun aq ah h=>aT (dz (v:=U aq) (by rw[<-ah]; rfl)) Z<|gl2<|O 1 Z<|aT (gf Z) Z<|aT (bc (k:=17) u231 Z Z JB Z) Z<|O 2 Z<|bZ h fun aB a h=>aT (Ni (e:=H) Tryz.underlying229 sz5 Z Z Z Z b a) Z<|O 1 Z<|jC (Gn (e:=H) u22 ti5 Z Z Z hS (i:=0) Z b (Up.r (k:=1) Z (Up.r (k:=8) (fG g Z) (Up.r (k:=8) (fG c Z) Up.here Z) Z) Z) (n.now hS.fr) (by have:=(fM a).1; omega) (fM a).1.2.2) Z ?_
  rintro v_q w ⟨hv_q,hS⟩
  subst v_q
  obtain⟨E,j,h⟩:=ic h
  rw[j]at hS
  refine kI h fun d ai h=>aT (dz (v:=U d) (by rw[<-ai]; rfl)) Z<|gl2<|O 1 Z<|aT (gf Z) Z<|aT (bc (k:=145) u231 Z Z tz Z) Z<|aT (bY u62 Z Z (hS.bxg 0 Z (Up.get0 (Up.r (k:=1) Z (Up.r (k:=8) (fG g Z) (Up.r (k:=8) (fG c Z) (Up.r (k:=128) (fG (by rw[<-j,ka _ _ _ _ (by have:=(fM a).1; omega) (fM a).1.2.2]; exact b) Z) Up.last Z) Z) Z) Z)))) Z<|O 1 Z<|aT (gr Z (oa Tryz.underlying3 u62 d)) Z<|aT (bE Z Z (Cy _ f (UInt64.ofInt d))) Z<|aT (gf Z) Z<|aT (bc (k:=145) u231 Z Z tz Z) Z<|gh (ob (m:=1) (xs:=[M f]) (xs':=[M (f+(UInt64.ofInt d))]) (i:=0) Z No Z Z Z (Up.r (k:=1) Z (Up.r (k:=8) (fG g Z) (Up.r (k:=8) (fG c Z) (Up.r (k:=128) (fG (by rw[<-j,ka _ _ _ _ (by have:=(fM a).1; omega) (fM a).1.2.2]; exact b) Z) Up.last Z) Z) Z) Z) Z Z (vF Z) hS) fun w hS=>gl2<|O 2 Z<|bZ h fun ac z h=>aT (uh u22 ti5 Z Z (n.now hS.fr) z) Z<|O 1 Z<|gl2<|O 5 Z<|gl3 ?_
  apply gl9 Z h<;>intro h
  ·refine bC<|O 1 Z<|have hG:=hS.pick (os':=[Y l ([U T]++(X.fl aa++(e64.fl ab++(H.fl E++[M (f+(UInt64.ofInt d))]))))]++[]) [0] (by decide) Z;bZ h fun o aj h=>kx Z (nL T aa ab E (f+(UInt64.ofInt d)) aj hG.give (hT.give hG) g c (by rw[<-j,ka _ _ _ _ (by have:=(fM a).1; omega) (fM a).1.2.2]; exact b)) Z ?_
   rintro _ w ⟨rfl,ak,am,an,aw⟩
   have hS:=hG.j aw
   exact c6<|ef<|gZ (ko (G (ac,o.1,o.2.1,o.2.2.1,o.2.2.2.1,o.2.2.2.2) _ _ ⟨slV C H.sz ((d:Int).toNat) ao.length,Z,(n.g_sll z),ak,am,an,hS⟩ (ia h y)) Z)
  exact kC<|ef<|gZ (ko (G (ac,T,aa,ab,E,f+(UInt64.ofInt d)) _ _ ⟨slV C H.sz ((d:Int).toNat) ao.length,Z,(n.g_sll z),g,c,(by rw[<-j,ka _ _ _ _ (by have:=(fM a).1; omega) (fM a).1.2.2]; exact b),hS⟩ (ia h y)) Z)
 refine eE<|bu<|bu<|have h:=fV h y;eF ?_
 cases h
 exact CT Z ⟨Z,g,c,b,hS.f [0] Z Z⟩
end Go.Proofs
