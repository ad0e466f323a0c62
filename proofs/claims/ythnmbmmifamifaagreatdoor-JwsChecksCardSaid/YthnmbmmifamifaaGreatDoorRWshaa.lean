import Derived.Test.YthnmbmmifamifaaGreatDoorRW0
import Derived.Test.YthnmbmmifamifaaGreatDoorRAw
import Derived.Test.YthnmbmmifamifaaGreatDoorGkFman
import Derived.Test.YthnmbmmifamifaaGreatDoorRWlib
set_option linter.unusedVariables false
set_option linter.unusedSimpArgs false
set_option linter.unusedSectionVars false
set_option maxRecDepth 20000
set_option maxHeartbeats 20000000
namespace Go.Proofs
open Go Go.RowKit Go.Gk
open Go.Gk renaming RP -> O, Ret -> K, ar -> J, e32 -> Y, e8 -> M, pB -> Q, v64 -> H, vB -> P, vI -> R
open Go.Gk.OE renaming bx -> X
theorem GP {f:World} (a0:Int) {r:Int}
  (h:F.Uk a0=some r) :Calls Tryz.prog 14 #[R a0] f (K fun v w=>v=R r/\St [] f w []):=by
 refine ca1 10 Tryz.func14 Z Z Z<|have hS:=St.r f;?_
 unfold F.Uk at h
 exact wk
theorem vl {f:World} (a0:Int) {r:Int}
  (h:F.Va a0=some r) :Calls Tryz.prog 178 #[R a0] f (K fun v w=>v=R r/\St [] f w []):=by
 refine ca1 9 Tryz.func178 Z Z Z<|have hS:=St.r f;?_
 unfold F.Va at h
 let j1:=mkJ 7 (F.acQ) (fun g L w=>L=[(6,P g)]/\St [] f w []) [] []
 exact wk
theorem Ah {d:World} (a0:Int) {r:Option (Int×L8×List UInt64×L00×UInt64)}
  (h:F.acy a0=some r) (j:TB [] d):Calls Tryz.prog 111 #[R a0] d (K fun v w=>∃u0:Value,v=u0/\Hn u0 (r.map (fun c=>[R c.1]++(Y.fl c.2.1++(e64.fl c.2.2.1++(M.fl c.2.2.2.1++[H c.2.2.2.2])))))/\(∀c,r=some c->c.2.1.length=8/\c.2.2.1.length=8/\c.2.2.2.1.length=128)/\St [] d w (Hk u0 (r.map (fun c=>[R c.1]++(Y.fl c.2.1++(e64.fl c.2.2.1++(M.fl c.2.2.2.1++[H c.2.2.2.2])))))++[])):=by
 refine dP 27 Tryz.func111 Z Z Z<|have a:=St.r d;eZ [(0,R a0)] Z ?_
 unfold F.acy at h
 refine gl4<|J 1 Z<|gl2<|J 1 Z<|aQ (ig (vs:=[(0,R a0,[R a0])]) (cells:=[R a0]++(Y.fl (List.replicate 8 0)++(e64.fl (List.replicate 8 0)++(M.fl (List.replicate 128 0)++[H 0])))) Z Qg ⟨Z,I⟩ (by kernel_rfl)) Z<|mZ (rF (cs:=[R a0]++(Y.fl (List.replicate 8 0)++(e64.fl (List.replicate 8 0)++(M.fl (List.replicate 128 0)++[H 0])))) Z Z a) Z fun f w a=>J 1 Z<|gl3 ?_
 refine iF (r:=r) (fun (g:L8×List UInt64) L w=>L=[(3,Q f 0)]/\g.1.length=8/\g.2.length=8/\St [] d w [X f ([R a0]++(Y.fl g.1++(e64.fl g.2++(M.fl (List.replicate 128 0)++[H 0]))))]) (F.abX a0) ?_ ?_
 rotate_left
 ·intro b
  refine gl4<|J 1 Z<|gl3<|cn<|gl4<|J 2 Z<|gl3 ?_
  apply gl9 Z h<;>intro h
  ·exact bS<|J 1 Z<|aQ (mH (us:=Y.fl F.UR) u150 Z om (dQ (show F.UR.length=8 from Z) Z) Z (j.sha_start256.cells a.fr)) Z<|aQ (mU Z) Z<|aQ (dH (k:=1) u172 Z Z Sx Z) Z<|kP (jx (m:=8) (xs:=Y.fl (List.replicate 8 0)) (xs':=Y.fl F.UR) (i:=0) Z om Z Z Z (Up.s (k:=1) Z Up.here Z) (dQ aZ Z) (dQ (show F.UR.length=8 from Z) Z) oU a) fun w a=>d7<|eH<|bL<|ef (b (F.UR,(List.replicate 8 0)) _ _ ⟨Z,(show F.UR.length=8 from Z),aZ,a⟩ h) Z
  refine gl4<|J 2 Z<|gl3 ?_
  apply gl9 Z h<;>intro h
  ·exact bS<|J 1 Z<|aQ (mH (us:=e64.fl F.UQ) u166 Z rT (dQ (show F.UQ.length=8 from Z) Z) Z (j.sha_start384.cells a.fr)) Z<|aQ (mU Z) Z<|aQ (dH (k:=9) u172 Z Z NF Z) Z<|kP (jx (m:=8) (xs:=e64.fl (List.replicate 8 0)) (xs':=e64.fl F.UQ) (i:=0) Z rT Z Z Z (Up.s (k:=1) Z (Up.s (k:=8) (dQ aZ Z) Up.here Z) Z) (dQ aZ Z) (dQ (show F.UQ.length=8 from Z) Z) oU a) fun w a=>d7<|eH<|bL<|ef (b ((List.replicate 8 0),F.UQ) _ _ ⟨Z,aZ,(show F.UQ.length=8 from Z),a⟩ h) Z
  refine gl4<|J 2 Z<|gl3 ?_
  apply gl9 Z h<;>intro h
  ·exact bS<|J 1 Z<|aQ (mH (us:=e64.fl F.UU) u166 Z rT (dQ (show F.UU.length=8 from Z) Z) Z (j.sha_start512.cells a.fr)) Z<|aQ (mU Z) Z<|aQ (dH (k:=9) u172 Z Z NF Z) Z<|kP (jx (m:=8) (xs:=e64.fl (List.replicate 8 0)) (xs':=e64.fl F.UU) (i:=0) Z rT Z Z Z (Up.s (k:=1) Z (Up.s (k:=8) (dQ aZ Z) Up.here Z) Z) (dQ aZ Z) (dQ (show F.UU.length=8 from Z) Z) oU a) fun w a=>d7<|eH<|bL<|ef (b ((List.replicate 8 0),F.UU) _ _ ⟨Z,aZ,(show F.UU.length=8 from Z),a⟩ h) Z
  refine gl4<|J 1 Z<|gl3<|iY<|pj<|mp ?_
  cases h
  exact gc Z Z ⟨.pointer none,Z,Z,(fun c hc=>by cases hc),a.j [] Z Z⟩
 rintro⟨p,q⟩ L w o h
 try dsimp only at o
 obtain⟨rfl,l,n,a⟩:=o
 unfold F.abX at h
 refine gl4<|J 2 Z<|gl3<|iY ?_
 cases h
 exact gc Z Z ⟨Q f 0,Z,⟨_,Z⟩,(fun c hc=>by cases hc; exact⟨l,n,aZ⟩),a.j [0] Z Z⟩
theorem td {D:World} {B:Nat} {S:L01} (p:Int) (A:L8) (f:List UInt64) (j:L00) (u:UInt64) {r:Int×L8×List UInt64×L00×UInt64}
  (h:F.Zu p A f j u=some r) (hS:St S D D [X B ([R p]++(Y.fl A++(e64.fl f++(M.fl j++[H u]))))]) (hT:TB S D) (ag:A.length=8) (ah:f.length=8) (aj:j.length=128):Calls Tryz.prog 235 #[Q B 0] D (K fun v w=>v=.tuple #[]/\r.2.1.length=8/\r.2.2.1.length=8/\r.2.2.2.1.length=128/\St S D w [X B ([R r.1]++(Y.fl r.2.1++(e64.fl r.2.2.1++(M.fl r.2.2.2.1++[H r.2.2.2.2]))))]):=by
 refine ca1 221 Tryz.func235 Z Z Z ?_
 unfold F.Zu at h
 let i1:=fun C=>mkI (F.acG j A p f u) (fun s L w=>L=[(0,Q B 0),(2,Q C 0),(21,R s.1)]/\s.2.length=64/\St S D w [X B ([R p]++(Y.fl A++(e64.fl f++(M.fl j++[H u])))),X C (Y.fl s.2)])
 let i2:=fun C=>mkI (F.X0 A p f j u) (fun s L w=>L=[(0,Q B 0),(2,Q C 0),(5,R s.1)]/\s.2.length=64/\St S D w [X B ([R p]++(Y.fl A++(e64.fl f++(M.fl j++[H u])))),X C (Y.fl s.2)])
 let i3:=fun C E=>mkI (F.abw A E p f j u) (fun s L w=>L=[(0,Q B 0),(2,Q C 0),(8,v32 s.1),(9,v32 s.2.1),(10,v32 s.2.2.1),(11,v32 s.2.2.2.1),(12,v32 s.2.2.2.2.1),(13,v32 s.2.2.2.2.2.1),(14,v32 s.2.2.2.2.2.2.1),(15,v32 s.2.2.2.2.2.2.2.1),(136,R s.2.2.2.2.2.2.2.2)]/\St S D w [X B ([R p]++(Y.fl A++(e64.fl f++(M.fl j++[H u])))),X C (Y.fl E)])
 let i4:=fun G T aa ab ac ad ae af=>mkI (F.ZX p f j u G T aa ab ac ad ae af) (fun s L w=>L=[(0,Q B 0),(204,.agg #[v32 G,v32 T,v32 aa,v32 ab,v32 ac,v32 ad,v32 ae,v32 af]),(205,R s.1)]/\s.2.length=8/\St S D w [X B ([R p]++(Y.fl s.2++(e64.fl f++(M.fl j++[H u]))))])
 exact wk
theorem ta {D:World} {A:Nat} {S:L01} (p:Int) (f:L8) (B:List UInt64) (j:L00) (u:UInt64) {r:Int×L8×List UInt64×L00×UInt64}
  (h:F.abj p f B j u=some r) (hS:St S D D [X A ([R p]++(Y.fl f++(e64.fl B++(M.fl j++[H u]))))]) (hT:TB S D) (aj:f.length=8) (ak:B.length=8) (al:j.length=128):Calls Tryz.prog 236 #[Q A 0] D (K fun v w=>v=.tuple #[]/\r.2.1.length=8/\r.2.2.1.length=8/\r.2.2.2.1.length=128/\St S D w [X A ([R r.1]++(Y.fl r.2.1++(e64.fl r.2.2.1++(M.fl r.2.2.2.1++[H r.2.2.2.2]))))]):=by
 refine ca1 216 Tryz.func236 Z Z Z ?_
 unfold F.abj at h
 let i1:=fun C=>mkI (F.acl j B p f u) (fun s L w=>L=[(0,Q A 0),(2,Q C 0),(22,R s.1)]/\s.2.length=80/\St S D w [X A ([R p]++(Y.fl f++(e64.fl B++(M.fl j++[H u])))),X C (e64.fl s.2)])
 let i2:=fun C (G:L00) E=>mkI (F.ZY E G) (fun s L w=>L=[(0,Q A 0),(2,Q C 0),(3,R E),(22,R E),(33,slV (.slice (some ⟨A,17,none⟩) 128 128) M.sz ((wI (8*E):Int).toNat) ((wI ((wI (8*E))+8):Int).toNat)),(34,R (G.length:Int)),(35,R s.1)]/\s.2.length=80/\St S D w [X A ([R p]++(Y.fl f++(e64.fl B++(M.fl j++[H u])))),X C (e64.fl s.2)])
 let i3:=fun C=>mkI (F.Xo B p f j u) (fun s L w=>L=[(0,Q A 0),(2,Q C 0),(6,R s.1)]/\s.2.length=80/\St S D w [X A ([R p]++(Y.fl f++(e64.fl B++(M.fl j++[H u])))),X C (e64.fl s.2)])
 let i4:=fun C T=>mkI (F.abZ B T p f j u) (fun s L w=>L=[(0,Q A 0),(2,Q C 0),(9,H s.1),(10,H s.2.1),(11,H s.2.2.1),(12,H s.2.2.2.1),(13,H s.2.2.2.2.1),(14,H s.2.2.2.2.2.1),(15,H s.2.2.2.2.2.2.1),(16,H s.2.2.2.2.2.2.2.1),(131,R s.2.2.2.2.2.2.2.2)]/\St S D w [X A ([R p]++(Y.fl f++(e64.fl B++(M.fl j++[H u])))),X C (e64.fl T)])
 let i5:=fun aa ab ac ad ae af ag ah=>mkI (F.abu p f j u aa ab ac ad ae af ag ah) (fun s L w=>L=[(0,Q A 0),(199,.agg #[H aa,H ab,H ac,H ad,H ae,H af,H ag,H ah]),(200,R s.1)]/\s.2.length=8/\St S D w [X A ([R p]++(Y.fl f++(e64.fl s.2++(M.fl j++[H u]))))])
 exact wk
theorem qa {u:World} {A:Nat} {S:L01} (B:Int) (f:L8) (j:List UInt64) (p:L00) (C:UInt64) {r:Int×L8×List UInt64×L00×UInt64}
  (h:F.Xp B f j p C=some r) (hS:St S u u [X A ([R B]++(Y.fl f++(e64.fl j++(M.fl p++[H C]))))]) (hT:TB S u) (D:f.length=8) (E:j.length=8) (G:p.length=128):Calls Tryz.prog 180 #[Q A 0] u (K fun v w=>v=.tuple #[]/\r.2.1.length=8/\r.2.2.1.length=8/\r.2.2.2.1.length=128/\St S u w [X A ([R r.1]++(Y.fl r.2.1++(e64.fl r.2.2.1++(M.fl r.2.2.2.1++[H r.2.2.2.2]))))]):=by
 refine ca1 11 Tryz.func180 Z Z Z ?_
 unfold F.Xp at h
 exact wk
theorem p9 {A:World} {a1:L00} {B:Value} {l:Nat} {S:L01} (q:Int) (t:L8) (u:List UInt64) (x:L00) (D:UInt64) {r:Int×L8×List UInt64×L00×UInt64}
  (h:F.VU q t u x D a1=some r) (hS:St S A A [X l ([R q]++(Y.fl t++(e64.fl u++(M.fl x++[H D]))))]) (hT:TB S A) (ad:t.length=8) (ae:u.length=8) (af:x.length=128) (au:O S A M B a1):Calls Tryz.prog 112 #[Q l 0,B] A (K fun v w=>v=.tuple #[]/\r.2.1.length=8/\r.2.2.1.length=8/\r.2.2.2.1.length=128/\St S A w [X l ([R r.1]++(Y.fl r.2.1++(e64.fl r.2.2.1++(M.fl r.2.2.2.1++[H r.2.2.2.2]))))]):=by
 refine dP 50 Tryz.func112 Z Z Z<|eZ [(0,Q l 0),(1,B)] Z ?_
 unfold F.VU at h
 refine gl4<|J 1 Z<|aQ (mU Z) Z<|aQ (dH (k:=0) u172 Z Z TN Z) Z<|aQ (bX Tryz.underlying37 Z Z (hS.x 0 Z (Up.get0 Up.here))) Z<|aK h fun p ao h=>my hS Z (vl q ao ) Z fun w hS=>J 1 Z<|gl3<|cn<|eZ [(0,Q l 0),(1,B),(4,R p)] Z ?_
 refine fN (F.V5 p) (fun (s:L00×Int×L8×List UInt64×L00×UInt64) L w=>∃(C:Value),L=[(0,Q l 0),(1,C),(4,R p)]/\O S A M C s.1/\s.2.2.1.length=8/\s.2.2.2.1.length=8/\s.2.2.2.2.1.length=128/\St S A w [X l ([R s.2.1]++(Y.fl s.2.2.1++(e64.fl s.2.2.2.1++(M.fl s.2.2.2.2.1++[H s.2.2.2.2.2]))))]) ?_ (a1,q,t,u,x,D) ⟨B,Z,au,ad,ae,af,hS⟩ h
 rintro ay ⟨an,T,aa,ab,az,f⟩ L w aA hI G h y
 try dsimp only at hI
 obtain⟨C,rfl,n,g,c,b,hS⟩:=hI
 unfold F.V5 at h
 refine cw<|gl4<|J 1 Z<|aQ (dV u25 Z (n.f hS.fr)) Z<|J 1 Z<|gl3 ?_
 apply gl9 Z h<;>intro h
 ·refine gl5<|cn<|gl4<|J 1 Z<|aQ (mU Z) Z<|aQ (dH (k:=145) u172 Z Z A5 Z) Z<|aQ (bX u106 Z Z (hS.x 0 Z (Up.get0 (Up.s (k:=1) Z (Up.s (k:=8) (dQ g Z) (Up.s (k:=8) (dQ c Z) (Up.s (k:=128) (dQ b Z) Up.last Z) Z) Z) Z)))) Z<|J 1 Z<|aQ (io Z (uN Tryz.underlying3 u106 p)) Z<|wL h fun ag h=>aQ (bk Z Z (E9 _ f (UInt64.ofInt p) ag)) Z<|aQ (io Z (E8 u106 Tryz.underlying3 (f%(UInt64.ofInt p)))) Z<|jp h fun ap ah h=>aQ (fk (v:=R ap) (by rw[<-ah]; rfl)) Z<|gl2<|J 1 Z<|aQ (mU Z) Z<|aQ (dH (k:=17) u172 Z Z Sa Z) Z<|J 2 Z<|aK h fun aB a h=>aQ (Rd (e:=M) Tryz.underlying170 sz5 Z Z Z Z b a) Z<|J 1 Z<|mg (JC (e:=M) u25 ti5 Z Z Z hS (i:=0) Z b (Up.s (k:=1) Z (Up.s (k:=8) (dQ g Z) (Up.s (k:=8) (dQ c Z) Up.here Z) Z) Z) (n.f hS.fr) (by have:=(gL a).1; omega) (gL a).1.2.2) Z ?_
  rintro v_q w ⟨hv_q,hS⟩
  subst v_q
  obtain⟨E,j,h⟩:=ke h
  rw[j]at hS
  refine jp h fun d ai h=>aQ (fk (v:=R d) (by rw[<-ai]; rfl)) Z<|gl2<|J 1 Z<|aQ (mU Z) Z<|aQ (dH (k:=145) u172 Z Z A5 Z) Z<|aQ (bX u106 Z Z (hS.x 0 Z (Up.get0 (Up.s (k:=1) Z (Up.s (k:=8) (dQ g Z) (Up.s (k:=8) (dQ c Z) (Up.s (k:=128) (dQ (by rw[<-j,kA _ _ _ _ (by have:=(gL a).1; omega) (gL a).1.2.2]; exact b) Z) Up.last Z) Z) Z) Z)))) Z<|J 1 Z<|aQ (io Z (uN Tryz.underlying3 u106 d)) Z<|aQ (bk Z Z (lV _ f (UInt64.ofInt d))) Z<|aQ (mU Z) Z<|aQ (dH (k:=145) u172 Z Z A5 Z) Z<|kP (jx (m:=1) (xs:=[H f]) (xs':=[H (f+(UInt64.ofInt d))]) (i:=0) Z g8 Z Z Z (Up.s (k:=1) Z (Up.s (k:=8) (dQ g Z) (Up.s (k:=8) (dQ c Z) (Up.s (k:=128) (dQ (by rw[<-j,kA _ _ _ _ (by have:=(gL a).1; omega) (gL a).1.2.2]; exact b) Z) Up.last Z) Z) Z) Z) Z Z (nM Z) hS) fun w hS=>gl2<|J 2 Z<|aK h fun ac z h=>aQ (wG u25 ti5 Z Z (n.f hS.fr) z) Z<|J 1 Z<|gl2<|J 5 Z<|gl3 ?_
  apply gl9 Z h<;>intro h
  ·refine bS<|J 1 Z<|have hG:=hS.pick (os':=[X l ([R T]++(Y.fl aa++(e64.fl ab++(M.fl E++[H (f+(UInt64.ofInt d))]))))]++[]) [0] q11 Z;aK h fun o aj h=>nI Z (qa T aa ab E (f+(UInt64.ofInt d)) aj hG.give (hT.give hG) g c (by rw[<-j,kA _ _ _ _ (by have:=(gL a).1; omega) (gL a).1.2.2]; exact b)) Z ?_
   rintro _ w ⟨rfl,ak,al,am,aw⟩
   have hS:=hG.back aw
   exact d7<|eH<|iz (iM (G (ac,o.1,o.2.1,o.2.2.1,o.2.2.2.1,o.2.2.2.2) _ _ ⟨slV C M.sz ((d:Int).toNat) an.length,Z,(n.g_sll z),ak,al,am,hS⟩ (eG h y)) Z)
  exact pu<|eH<|iz (iM (G (ac,T,aa,ab,E,f+(UInt64.ofInt d)) _ _ ⟨slV C M.sz ((d:Int).toNat) an.length,Z,(n.g_sll z),g,c,(by rw[<-j,kA _ _ _ _ (by have:=(gL a).1; omega) (gL a).1.2.2]; exact b),hS⟩ (eG h y)) Z)
 refine fc<|cj<|cj<|have h:=ep h y;fe ?_
 cases h
 exact uQ Z ⟨Z,g,c,b,hS.j [0] Z Z⟩
end Go.Proofs
