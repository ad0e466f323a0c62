import Derived.Test.YtkbacjmklhgpcaaGreatDoorSW0
import Derived.Test.YtkbacjmklhgpcaaGreatDoorSAw
import Derived.Test.YtkbacjmklhgpcaaGreatDoorQGkFman
import Derived.Test.YtkbacjmklhgpcaaGreatDoorSWlib
set_option linter.unusedVariables false
set_option linter.unusedSimpArgs false
set_option linter.unusedSectionVars false
set_option maxRecDepth 20000
set_option maxHeartbeats 20000000
namespace Go.Proofs
open Go Go.RowKit Go.Gk
open Go.Gk renaming RP -> O, Ret -> N, ar -> J, e32 -> X, e64 -> H, e8 -> K, pB -> Q, v64 -> M, vB -> U, vI -> V
open Go.Gk.OE renaming bx -> Y
theorem E3 {f:World} (a0:Int) {r:Int}
  (h:F.Tp a0=some r) :Calls Tryz.prog 26 #[V a0] f (N fun v w=>v=V r/\St [] f w []):=by
 refine ca1 10 Tryz.func26 Z Z Z<|have hS:=St.r f;?_
 unfold F.Tp at h
 exact wk
theorem tM {f:World} (a0:Int) {r:Int}
  (h:F.Ub a0=some r) :Calls Tryz.prog 138 #[V a0] f (N fun v w=>v=V r/\St [] f w []):=by
 refine ca1 9 Tryz.func138 Z Z Z<|have hS:=St.r f;?_
 unfold F.Ub at h
 let j1:=mkJ 7 (F.aaI) (fun g L w=>L=[(6,U g)]/\St [] f w []) [] []
 exact wk
theorem yq {d:World} (a0:Int) {r:Option (Int×L00×List UInt64×L01×UInt64)}
  (h:F.aad a0=some r) (j:TB [] d):Calls Tryz.prog 105 #[V a0] d (N fun v w=>∃u0:Value,v=u0/\sA u0 (r.map (fun c=>[V c.1]++(X.fl c.2.1++(H.fl c.2.2.1++(K.fl c.2.2.2.1++[M c.2.2.2.2])))))/\(∀c,r=some c->c.2.1.length=8/\c.2.2.1.length=8/\c.2.2.2.1.length=128)/\St [] d w (o7 u0 (r.map (fun c=>[V c.1]++(X.fl c.2.1++(H.fl c.2.2.1++(K.fl c.2.2.2.1++[M c.2.2.2.2])))))++[])):=by
 refine dN 27 Tryz.func105 Z Z Z<|have a:=St.r d;ig [(0,V a0)] Z ?_
 unfold F.aad at h
 refine gl4<|J 1 Z<|gl2<|J 1 Z<|aQ (sF (vs:=[(0,V a0,[V a0])]) (cells:=[V a0]++(X.fl (List.replicate 8 0)++(H.fl (List.replicate 8 0)++(K.fl (List.replicate 128 0)++[M 0])))) Z Pk ⟨Z,trivial⟩ (by kernel_rfl)) Z<|qd (sU (cs:=[V a0]++(X.fl (List.replicate 8 0)++(H.fl (List.replicate 8 0)++(K.fl (List.replicate 128 0)++[M 0])))) Z Z a) Z fun f w a=>J 1 Z<|gl3 ?_
 refine ja (r:=r) (fun (g:L00×List UInt64) L w=>L=[(3,Q f 0)]/\g.1.length=8/\g.2.length=8/\St [] d w [Y f ([V a0]++(X.fl g.1++(H.fl g.2++(K.fl (List.replicate 128 0)++[M 0]))))]) (F.Zv a0) ?_ ?_
 rotate_left
 ·intro b
  refine gl4<|J 1 Z<|gl3<|cR<|gl4<|J 2 Z<|gl3 ?_
  apply gl9 Z h<;>intro h
  ·exact bV<|J 1 Z<|aQ (mQ (us:=X.fl F.TT) u206 Z qG (fu (show F.TT.length=8 from Z) Z) Z (j.sha_start256.cells a.fr)) Z<|aQ (gW Z) Z<|aQ (bu (k:=1) u221 Z Z QG Z) Z<|ia (oD (m:=8) (xs:=X.fl (List.replicate 8 0)) (xs':=X.fl F.TT) (i:=0) Z qG Z Z Z (Up.s (k:=1) Z Up.here Z) (fu bq Z) (fu (show F.TT.length=8 from Z) Z) vd a) fun w a=>dy<|fk<|bA<|de (b (F.TT,(List.replicate 8 0)) _ _ ⟨Z,(show F.TT.length=8 from Z),bq,a⟩ h) Z
  refine gl4<|J 2 Z<|gl3 ?_
  apply gl9 Z h<;>intro h
  ·exact bV<|J 1 Z<|aQ (mQ (us:=H.fl F.TS) Tryz.underlying218 Z zA (fu (show F.TS.length=8 from Z) Z) Z (j.sha_start384.cells a.fr)) Z<|aQ (gW Z) Z<|aQ (bu (k:=9) u221 Z Z LG Z) Z<|ia (oD (m:=8) (xs:=H.fl (List.replicate 8 0)) (xs':=H.fl F.TS) (i:=0) Z zA Z Z Z (Up.s (k:=1) Z (Up.s (k:=8) (fu bq Z) Up.here Z) Z) (fu bq Z) (fu (show F.TS.length=8 from Z) Z) vd a) fun w a=>dy<|fk<|bA<|de (b ((List.replicate 8 0),F.TS) _ _ ⟨Z,bq,(show F.TS.length=8 from Z),a⟩ h) Z
  refine gl4<|J 2 Z<|gl3 ?_
  apply gl9 Z h<;>intro h
  ·exact bV<|J 1 Z<|aQ (mQ (us:=H.fl F.TU) Tryz.underlying218 Z zA (fu (show F.TU.length=8 from Z) Z) Z (j.sha_start512.cells a.fr)) Z<|aQ (gW Z) Z<|aQ (bu (k:=9) u221 Z Z LG Z) Z<|ia (oD (m:=8) (xs:=H.fl (List.replicate 8 0)) (xs':=H.fl F.TU) (i:=0) Z zA Z Z Z (Up.s (k:=1) Z (Up.s (k:=8) (fu bq Z) Up.here Z) Z) (fu bq Z) (fu (show F.TU.length=8 from Z) Z) vd a) fun w a=>dy<|fk<|bA<|de (b ((List.replicate 8 0),F.TU) _ _ ⟨Z,bq,(show F.TU.length=8 from Z),a⟩ h) Z
  refine gl4<|J 1 Z<|gl3<|gM<|fc<|dQ ?_
  cases h
  exact jl Z Z ⟨.pointer none,Z,Z,(fun c hc=>by cases hc),a.f [] Z Z⟩
 rintro⟨p,q⟩ L w o h
 try dsimp only at o
 obtain⟨rfl,l,n,a⟩:=o
 unfold F.Zv at h
 refine gl4<|J 2 Z<|gl3<|gM ?_
 cases h
 exact jl Z Z ⟨Q f 0,Z,⟨_,Z⟩,(fun c hc=>by cases hc; exact⟨l,n,bq⟩),a.f [0] Z Z⟩
theorem rA {D:World} {B:Nat} {S:L02} (p:Int) (A:L00) (f:List UInt64) (j:L01) (u:UInt64) {r:Int×L00×List UInt64×L01×UInt64}
  (h:F.XE p A f j u=some r) (hS:St S D D [Y B ([V p]++(X.fl A++(H.fl f++(K.fl j++[M u]))))]) (hT:TB S D) (ag:A.length=8) (ah:f.length=8) (ai:j.length=128):Calls Tryz.prog 178 #[Q B 0] D (N fun v w=>v=.tuple #[]/\r.2.1.length=8/\r.2.2.1.length=8/\r.2.2.2.1.length=128/\St S D w [Y B ([V r.1]++(X.fl r.2.1++(H.fl r.2.2.1++(K.fl r.2.2.2.1++[M r.2.2.2.2]))))]):=by
 refine ca1 221 Tryz.func178 Z Z Z ?_
 unfold F.XE at h
 let i1:=fun C=>mkI (F.aap j A p f u) (fun s L w=>L=[(0,Q B 0),(2,Q C 0),(21,V s.1)]/\s.2.length=64/\St S D w [Y B ([V p]++(X.fl A++(H.fl f++(K.fl j++[M u])))),Y C (X.fl s.2)])
 let i2:=fun C=>mkI (F.WF A p f j u) (fun s L w=>L=[(0,Q B 0),(2,Q C 0),(5,V s.1)]/\s.2.length=64/\St S D w [Y B ([V p]++(X.fl A++(H.fl f++(K.fl j++[M u])))),Y C (X.fl s.2)])
 let i3:=fun C E=>mkI (F.Zb A E p f j u) (fun s L w=>L=[(0,Q B 0),(2,Q C 0),(8,v32 s.1),(9,v32 s.2.1),(10,v32 s.2.2.1),(11,v32 s.2.2.2.1),(12,v32 s.2.2.2.2.1),(13,v32 s.2.2.2.2.2.1),(14,v32 s.2.2.2.2.2.2.1),(15,v32 s.2.2.2.2.2.2.2.1),(136,V s.2.2.2.2.2.2.2.2)]/\St S D w [Y B ([V p]++(X.fl A++(H.fl f++(K.fl j++[M u])))),Y C (X.fl E)])
 let i4:=fun G T aa ab ac ad ae af=>mkI (F.X0 p f j u G T aa ab ac ad ae af) (fun s L w=>L=[(0,Q B 0),(204,.agg #[v32 G,v32 T,v32 aa,v32 ab,v32 ac,v32 ad,v32 ae,v32 af]),(205,V s.1)]/\s.2.length=8/\St S D w [Y B ([V p]++(X.fl s.2++(H.fl f++(K.fl j++[M u]))))])
 exact wk
theorem ry {D:World} {A:Nat} {S:L02} (p:Int) (f:L00) (B:List UInt64) (j:L01) (u:UInt64) {r:Int×L00×List UInt64×L01×UInt64}
  (h:F.YX p f B j u=some r) (hS:St S D D [Y A ([V p]++(X.fl f++(H.fl B++(K.fl j++[M u]))))]) (hT:TB S D) (ai:f.length=8) (aj:B.length=8) (ak:j.length=128):Calls Tryz.prog 179 #[Q A 0] D (N fun v w=>v=.tuple #[]/\r.2.1.length=8/\r.2.2.1.length=8/\r.2.2.2.1.length=128/\St S D w [Y A ([V r.1]++(X.fl r.2.1++(H.fl r.2.2.1++(K.fl r.2.2.2.1++[M r.2.2.2.2]))))]):=by
 refine ca1 216 Tryz.func179 Z Z Z ?_
 unfold F.YX at h
 let i1:=fun C=>mkI (F.ZV j B p f u) (fun s L w=>L=[(0,Q A 0),(2,Q C 0),(22,V s.1)]/\s.2.length=80/\St S D w [Y A ([V p]++(X.fl f++(H.fl B++(K.fl j++[M u])))),Y C (H.fl s.2)])
 let i2:=fun C (G:L01) E=>mkI (F.X5 E G) (fun s L w=>L=[(0,Q A 0),(2,Q C 0),(3,V E),(22,V E),(33,slV (.slice (some ⟨A,17,none⟩) 128 128) K.sz ((wI (8*E):Int).toNat) ((wI ((wI (8*E))+8):Int).toNat)),(34,V (G.length:Int)),(35,V s.1)]/\s.2.length=80/\St S D w [Y A ([V p]++(X.fl f++(H.fl B++(K.fl j++[M u])))),Y C (H.fl s.2)])
 let i3:=fun C=>mkI (F.We B p f j u) (fun s L w=>L=[(0,Q A 0),(2,Q C 0),(6,V s.1)]/\s.2.length=80/\St S D w [Y A ([V p]++(X.fl f++(H.fl B++(K.fl j++[M u])))),Y C (H.fl s.2)])
 let i4:=fun C T=>mkI (F.Zx B T p f j u) (fun s L w=>L=[(0,Q A 0),(2,Q C 0),(9,M s.1),(10,M s.2.1),(11,M s.2.2.1),(12,M s.2.2.2.1),(13,M s.2.2.2.2.1),(14,M s.2.2.2.2.2.1),(15,M s.2.2.2.2.2.2.1),(16,M s.2.2.2.2.2.2.2.1),(131,V s.2.2.2.2.2.2.2.2)]/\St S D w [Y A ([V p]++(X.fl f++(H.fl B++(K.fl j++[M u])))),Y C (H.fl T)])
 let i5:=fun aa ab ac ad ae af ag ah=>mkI (F.Y8 p f j u aa ab ac ad ae af ag ah) (fun s L w=>L=[(0,Q A 0),(199,.agg #[M aa,M ab,M ac,M ad,M ae,M af,M ag,M ah]),(200,V s.1)]/\s.2.length=8/\St S D w [Y A ([V p]++(X.fl f++(H.fl s.2++(K.fl j++[M u]))))])
 exact wk
theorem om {u:World} {A:Nat} {S:L02} (B:Int) (f:L00) (j:List UInt64) (p:L01) (C:UInt64) {r:Int×L00×List UInt64×L01×UInt64}
  (h:F.Wf B f j p C=some r) (hS:St S u u [Y A ([V B]++(X.fl f++(H.fl j++(K.fl p++[M C]))))]) (hT:TB S u) (D:f.length=8) (E:j.length=8) (G:p.length=128):Calls Tryz.prog 140 #[Q A 0] u (N fun v w=>v=.tuple #[]/\r.2.1.length=8/\r.2.2.1.length=8/\r.2.2.2.1.length=128/\St S u w [Y A ([V r.1]++(X.fl r.2.1++(H.fl r.2.2.1++(K.fl r.2.2.2.1++[M r.2.2.2.2]))))]):=by
 refine ca1 11 Tryz.func140 Z Z Z ?_
 unfold F.Wf at h
 exact wk
theorem ol {A:World} {a1:L01} {B:Value} {l:Nat} {S:L02} (q:Int) (t:L00) (u:List UInt64) (x:L01) (D:UInt64) {r:Int×L00×List UInt64×L01×UInt64}
  (h:F.U2 q t u x D a1=some r) (hS:St S A A [Y l ([V q]++(X.fl t++(H.fl u++(K.fl x++[M D]))))]) (hT:TB S A) (ad:t.length=8) (ae:u.length=8) (af:x.length=128) (au:O S A K B a1):Calls Tryz.prog 106 #[Q l 0,B] A (N fun v w=>v=.tuple #[]/\r.2.1.length=8/\r.2.2.1.length=8/\r.2.2.2.1.length=128/\St S A w [Y l ([V r.1]++(X.fl r.2.1++(H.fl r.2.2.1++(K.fl r.2.2.2.1++[M r.2.2.2.2]))))]):=by
 refine dN 50 Tryz.func106 Z Z Z<|ig [(0,Q l 0),(1,B)] Z ?_
 unfold F.U2 at h
 refine gl4<|J 1 Z<|aQ (gW Z) Z<|aQ (bu (k:=0) u221 Z Z Rq Z) Z<|aQ (cb Tryz.underlying69 Z Z (hS.bxg 0 Z (Up.get0 Up.here))) Z<|cq h fun p ao h=>pe hS Z (tM q ao ) Z fun w hS=>J 1 Z<|gl3<|cR<|ig [(0,Q l 0),(1,B),(4,V p)] Z ?_
 refine kJ (F.Ve p) (fun (s:L01×Int×L00×List UInt64×L01×UInt64) L w=>∃(C:Value),L=[(0,Q l 0),(1,C),(4,V p)]/\O S A K C s.1/\s.2.2.1.length=8/\s.2.2.2.1.length=8/\s.2.2.2.2.1.length=128/\St S A w [Y l ([V s.2.1]++(X.fl s.2.2.1++(H.fl s.2.2.2.1++(K.fl s.2.2.2.2.1++[M s.2.2.2.2.2]))))]) ?_ (a1,q,t,u,x,D) ⟨B,Z,au,ad,ae,af,hS⟩ h
 rintro ay ⟨an,T,aa,ab,az,f⟩ L w aA hI G h y
 try dsimp only at hI
 obtain⟨C,rfl,n,g,c,b,hS⟩:=hI
 unfold F.Ve at h
 refine cI<|gl4<|J 1 Z<|aQ (gt u22 Z (n.now hS.fr)) Z<|J 1 Z<|gl3 ?_
 apply gl9 Z h<;>intro h
 ·refine gl5<|cR<|gl4<|J 1 Z<|aQ (gW Z) Z<|aQ (bu (k:=145) u221 Z Z xv Z) Z<|aQ (cb u38 Z Z (hS.bxg 0 Z (Up.get0 (Up.s (k:=1) Z (Up.s (k:=8) (fu g Z) (Up.s (k:=8) (fu c Z) (Up.s (k:=128) (fu b Z) Up.last Z) Z) Z) Z)))) Z<|J 1 Z<|aQ (fK Z (oC Tryz.underlying3 u38 p)) Z<|sS h fun ag h=>aQ (bH Z Z (Dw _ f (UInt64.ofInt p) ag)) Z<|aQ (fK Z (Dv u38 Tryz.underlying3 (f%(UInt64.ofInt p)))) Z<|kH h fun ap ah h=>aQ (dp (v:=V ap) (by rw[<-ah]; rfl)) Z<|gl2<|J 1 Z<|aQ (gW Z) Z<|aQ (bu (k:=17) u221 Z Z Q6 Z) Z<|J 2 Z<|cq h fun aB a h=>aQ (PL (e:=K) Tryz.underlying219 sz5 Z Z Z Z b a) Z<|J 1 Z<|kQ (HO (e:=K) u22 ti5 Z Z Z hS (i:=0) Z b (Up.s (k:=1) Z (Up.s (k:=8) (fu g Z) (Up.s (k:=8) (fu c Z) Up.here Z) Z) Z) (n.now hS.fr) (by have:=(fT a).1; omega) (fT a).1.2.2) Z ?_
  rintro v_q w ⟨hv_q,hS⟩
  subst v_q
  obtain⟨E,j,h⟩:=jp h
  rw[j]at hS
  refine kH h fun d ai h=>aQ (dp (v:=V d) (by rw[<-ai]; rfl)) Z<|gl2<|J 1 Z<|aQ (gW Z) Z<|aQ (bu (k:=145) u221 Z Z xv Z) Z<|aQ (cb u38 Z Z (hS.bxg 0 Z (Up.get0 (Up.s (k:=1) Z (Up.s (k:=8) (fu g Z) (Up.s (k:=8) (fu c Z) (Up.s (k:=128) (fu (by rw[<-j,jD _ _ _ _ (by have:=(fT a).1; omega) (fT a).1.2.2]; exact b) Z) Up.last Z) Z) Z) Z)))) Z<|J 1 Z<|aQ (fK Z (oC Tryz.underlying3 u38 d)) Z<|aQ (bH Z Z (DK _ f (UInt64.ofInt d))) Z<|aQ (gW Z) Z<|aQ (bu (k:=145) u221 Z Z xv Z) Z<|ia (oD (m:=1) (xs:=[M f]) (xs':=[M (f+(UInt64.ofInt d))]) (i:=0) Z R3 Z Z Z (Up.s (k:=1) Z (Up.s (k:=8) (fu g Z) (Up.s (k:=8) (fu c Z) (Up.s (k:=128) (fu (by rw[<-j,jD _ _ _ _ (by have:=(fT a).1; omega) (fT a).1.2.2]; exact b) Z) Up.last Z) Z) Z) Z) Z Z (wE Z) hS) fun w hS=>gl2<|J 2 Z<|cq h fun ac z h=>aQ (uW u22 ti5 Z Z (n.now hS.fr) z) Z<|J 1 Z<|gl2<|J 5 Z<|gl3 ?_
  apply gl9 Z h<;>intro h
  ·refine bV<|J 1 Z<|have hG:=hS.pick (os':=[Y l ([V T]++(X.fl aa++(H.fl ab++(K.fl E++[M (f+(UInt64.ofInt d))]))))]++[]) [0] (by decide) Z;cq h fun o aj h=>lU Z (om T aa ab E (f+(UInt64.ofInt d)) aj hG.give (hT.give hG) g c (by rw[<-j,jD _ _ _ _ (by have:=(fT a).1; omega) (fT a).1.2.2]; exact b)) Z ?_
   rintro _ w ⟨rfl,ak,al,am,aw⟩
   have hS:=hG.p aw
   exact dy<|fk<|jk (mr (G (ac,o.1,o.2.1,o.2.2.1,o.2.2.2.1,o.2.2.2.2) _ _ ⟨slV C K.sz ((d:Int).toNat) an.length,Z,(n.g_sll z),ak,al,am,hS⟩ (jH h y)) Z)
  exact mN<|fk<|jk (mr (G (ac,T,aa,ab,E,f+(UInt64.ofInt d)) _ _ ⟨slV C K.sz ((d:Int).toNat) an.length,Z,(n.g_sll z),g,c,(by rw[<-j,jD _ _ _ _ (by have:=(fT a).1; omega) (fT a).1.2.2]; exact b),hS⟩ (jH h y)) Z)
 refine fw<|bB<|bB<|have h:=iR h y;fx ?_
 cases h
 exact s8 Z ⟨Z,g,c,b,hS.f [0] Z Z⟩
end Go.Proofs
