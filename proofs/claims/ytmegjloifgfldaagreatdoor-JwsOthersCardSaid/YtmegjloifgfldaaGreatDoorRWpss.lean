import Derived.Test.YtmegjloifgfldaaGreatDoorRW0
import Derived.Test.YtmegjloifgfldaaGreatDoorGkFb64
import Derived.Test.YtmegjloifgfldaaGreatDoorRWlib
import Derived.Test.YtmegjloifgfldaaGreatDoorRWmodn
import Derived.Test.YtmegjloifgfldaaGreatDoorRWnatb
import Derived.Test.YtmegjloifgfldaaGreatDoorRWrsa1
import Derived.Test.YtmegjloifgfldaaGreatDoorRWshab
set_option linter.unusedVariables false
set_option linter.unusedSimpArgs false
set_option linter.unusedSectionVars false
set_option maxRecDepth 4000
namespace Go.Proofs
open Go Go.RowKit Go.Gk
open Go.Gk renaming aa -> V, af -> M, ag -> O, ai -> J, e32 -> X, gl3 -> Q, gl4 -> R, own -> U, vB -> N, vI -> H
open Nat renaming le_of_ble_eq_true -> W
theorem qT {a:World} (a0:Int) {r:UInt8}
  (h:F.KD a0=some r) :Calls Tryz.prog 69 #[H a0] a (Ret fun v w=>v=v8 r/\St [] a w []):=by
 refine ay 8 Tryz.func69 Z Z Z<|have c:=St.k a;ax [(0,H a0)] Z ?_
 unfold F.KD at h
 refine R<|V 1 Z<|gl2<|V 1 Z<|O (aj Z Z (A2 _ a0 7)) Z<|V 1 Z<|O (aj Z Z (A2 _ (wI (8 - (j3 a0 7))) 7)) Z<|db h fun b h=>O (aj Z Z (Bj _ 255 (j3 (wI (8 - (j3 a0 7))) 7) b)) Z<|V 1 Z<|Q<|aq ?_
 cases h
 exact au Z Z ⟨Z,c⟩
theorem yH {p:World} {a1 a2:Q1} {j k u:Value} {S:Q2} (a0:Int) (D f:Nat) {r:Q1}
  (h:F.LX a0 a1 a2 D f=some r) (a:St S p p [U e8 k a2]) (hT:TB S p) (ak:RP S p e8 j a1) (au:io k e8.sz D f u):Calls Tryz.prog 71 #[H a0,j,u] p (Ret fun v w=>v=.tuple #[]/\St S p w [U e8 k r]):=by
 refine ay 56 Tryz.func71 Z Z Z<|ax [(0,H a0),(1,j),(2,u)] Z ?_
 unfold F.LX at h
 refine R<|V 1 Z<|Q<|av<|ax [(0,H a0),(1,j),(2,u),(6,v32 0)] Z ?_
 refine bf (F.I8 a0 a1 f) (fun (s:Nat×UInt32×Q1) L w=>∃(o:Value),L=[(0,H a0),(1,j),(2,o),(6,v32 s.2.1)]/\io k e8.sz s.1 f o/\St S p w [U e8 k s.2.2]) ?_ (D,0,a2) ⟨u,Z,au,a⟩ h
 rintro aB ⟨d,b,x⟩ L w aL E ao h G
 try dsimp only at E
 obtain⟨o,rfl,c,a⟩:=E
 unfold F.I8 at h
 refine az<|R<|V 1 Z<|O (aD u25 Z ((a.ro 0 Z).po c)) Z<|V 1 Z<|Q ?_
 apply gl9 Z h<;>intro h
 ·refine gl5<|az<|av<|R<|V 3 Z<|O (aj Z Z (de _ b 24)) Z<|O (aE Z (fT u106 Tryz.underlying5 (bv b 24))) Z<|V 1 Z<|O (aj Z Z (de _ b 16)) Z<|O (aE Z (fT u106 Tryz.underlying5 (bv b 16))) Z<|V 1 Z<|O (aj Z Z (de _ b 8)) Z<|O (aE Z (fT u106 Tryz.underlying5 (bv b 8))) Z<|V 1 Z<|O (aE Z (fT u106 Tryz.underlying5 b)) Z<|bn (bJ (e:=e8) (l:=[(bv b 24).toUInt8,(bv b 16).toUInt8,(bv b 8).toUInt8,b.toUInt8]) (vs:=[v8 ((bv b 24).toUInt8),v8 ((bv b 16).toUInt8),v8 ((bv b 8).toUInt8),v8 b.toUInt8]) u25 ti5 Z Z Z Z (by decide) (by decide) a) Z fun T w a=>bn (bJ (e:=eV) (l:=([SV.of j,SV.of T]:List SV)) (vs:=[j,T]) u117 iy Z Z Z (cb (ak.b a.fr).sv (cb (a.ro 0 Z).sv Z)) (by decide) (by decide) a) Z fun aC w a=>M h fun g ad h=>aM a Z (fE a0 ad (hT.b a.fr) (a.ro 0 Z).rp ⟨(ak.b a.fr).svrp,(a.ro 1 Z).svrp,K⟩) Z fun q w a=>V 1 Z<|gl1<|R<|V 1 Z<|O (aD u25 Z (a.ro 0 Z)) Z<|V 1 Z<|O (aD u25 Z ((a.ro 3 Z).po c)) Z<|O (rT Z Z) Z<|V 1 Z<|Q<|av ?_
  refine ax [(0,H a0),(1,j),(2,o),(6,v32 b),(7,q),(34,H (min (g.length:Int) (((x.drop d).take (f - d)).length:Int))),(35,H 0)] Z ?_
  refine bf (F.I4 f d b x g) (fun (s:Int×Q1) L w=>L=[(0,H a0),(1,j),(2,o),(6,v32 b),(7,q),(34,H (min (g.length:Int) (((x.drop d).take (f - d)).length:Int))),(35,H s.1)]/\St S p w [U e8 k s.2,U e8 q g]) ?_ (0,x) ⟨Z,(a.d [3,0] Z Z)⟩ h
  rintro aF ⟨ap,m⟩ L w aI E ae h y
  try dsimp only at E
  obtain⟨rfl,a⟩:=E
  unfold F.I4 at h
  refine R<|V 1 Z<|gl1 ?_
  apply gl9 Z h<;>intro h
  ·refine gl5<|az<|av<|R<|V 2 Z<|Q<|dy (fun w'=>St S p w' [U e8 k m,U e8 q g]) (fun i=>!([10].contains i)) bK (fun _ _ _ hf=>hf.2) (fun _ _ hf=>hf) (by kernel_rfl)<|have a:=a.drew;show lxE _ _ _ _ _ _ _ [0,1,2,3,4,5,6,7,8,9,10] _ _ from an 2 Z a<|M h fun ab z h=>J a Z Z (fun w n=>bh u25 ti5 Z Z ((n.ro 0 Z).po c) z) Z<|J a Z Z (fun w n=>aX Tryz.underlying5 Z Z ((n.ro 0 Z).po c) z Z) Z<|an 2 Z a<|M h fun ac A h=>J a Z Z (fun w n=>bh u25 ti5 Z Z (n.ro 1 Z) A) Z<|J a Z Z (fun w n=>aX Tryz.underlying5 Z Z (n.ro 1 Z) A Z) Z<|J a Z Z (fun w n=>aj Z Z (rf _ ab ac)) Z<|M h fun aJ B h=>J a Z Z (fun w n=>bh u25 ti5 Z Z ((n.ro 0 Z).po c) B) Z<|gu a Z Z (qc (t:=(ab ^^^ ac)) ti5 Z Z a (i:=0) Z c B Z) fun w a=>bg h fun ar ah h=>?_
   rw[ah]at a
   exact a8 K<|aH<|am<|al<|V 2 Z<|aG<|bo (br (ae (wI (ap+1),ar) _ _ ⟨Z,a⟩ (aW h y)) Z)
  exact aZ<|aA<|aA<|have h:=aR h y;a7<|am<|al<|V 2 Z<|O (aD u25 Z (a.ro 1 Z)) Z<|V 1 Z<|O (aD u25 Z ((a.ro 0 Z).po c)) Z<|O (rT Z Z) Z<|M h fun aK C h=>O (oG u25 ti5 Z Z ((a.ro 0 Z).po c) C) Z<|V 1 Z<|aG<|aH<|am<|al<|V 1 Z<|O (aj Z Z (eP _ b 1)) Z<|V 1 Z<|aG<|bo (br (ao (d+(min (g.length:Int) (((m.drop d).take (f - d)).length:Int):Int).toNat,b+1,m) _ _ ⟨slV o e8.sz (min (g.length:Int) (((m.drop d).take (f - d)).length:Int):Int).toNat ((m.drop d).take (f - d)).length,Z,((a.ro 0 Z).pcut c C),(a.d [0] Z Z)⟩ (aW h G)) Z)
 refine aZ<|aA<|aA<|have h:=aR h G;a7 ?_
 cases h
 exact gp Z ⟨Z,a.d [0] Z Z⟩
theorem vZ {d:World} {a1 a2:Q1} {b c:Value} (a0:Int) {r:Q1}
  (h:F.LM a0 a1 a2=some r) (m:TB [] d) (f:RP [] d e8 b a1) (g:RP [] d e8 c a2):Calls Tryz.prog 72 #[H a0,b,c] d (Ret fun v w=>St [] d w [U e8 v r]):=by
 refine ay 13 Tryz.func72 Z Z Z<|have a:=St.k d;ax [(0,H a0),(1,b),(2,c)] Z ?_
 unfold F.LM at h
 refine R<|V 1 Z<|gl2<|V 1 Z<|M h fun n j h=>bn (cV (e:=e8) u25 ti5 Z Z Z a j) Z fun i w a=>V 2 Z<|bn (bJ (e:=eV) (l:=([SV.of i,SV.of b,SV.of c]:List SV)) (vs:=[i,b,c]) u117 iy Z Z Z (cb (a.ro 0 Z).sv (cb (f.b a.fr).sv (cb (g.b a.fr).sv Z))) (by decide) (by decide) a) Z fun o w a=>M h fun p k h=>aM a Z (fE a0 k (m.b a.fr) (a.ro 0 Z).rp ⟨(a.ro 1 Z).svrp,(f.b a.fr).svrp,(g.b a.fr).svrp,K⟩) Z fun q w a=>V 1 Z<|Q<|aq ?_
 cases h
 exact au Z Z (a.d [0] Z Z)
theorem wQ {o:World} {a1 a2:Q1} {p q:Value} (a0 a3:Int) {r:Bool}
  (h:F.KO a0 a1 a2 a3=some r) (hT:TB [] o) (be:RP [] o e8 p a1) (f:RP [] o e8 q a2):Calls Tryz.prog 32 #[H a0,p,q,H a3] o (Ret fun v w=>v=N r/\St [] o w []):=by
 refine ay 123 Tryz.func32 Z Z Z<|have a:=St.k o;ax [(0,H a0),(1,p),(2,q),(3,H a3)] Z ?_
 unfold F.KO at h
 refine R<|V 1 Z<|gl2<|V 1 Z<|M h fun d bj h=>aS a Z (eH a0 bj ) Z fun w a=>V 1 Z<|gl1 ?_
 refine aU (r:=r) (fun (g:Bool) L w=>L=[(0,H a0),(1,p),(2,q),(3,H a3),(9,H d),(33,N g)]/\St [] o w []) (F.IV a2 a3 d a0 a1) ?_ ?_
 rotate_left
 ·intro u
  refine al<|V 3 Z ?_
  cases x:(d == 0)
  case true=>
   have h:=bH h x
   try simp only[x]
   exact V 13 Z<|Q<|aB (u true _ _ ⟨Z,a⟩ h) Z
  case false=>
   have h:=bI h x
   try simp only[x]
   refine V 4 Z ?_
   cases y:(decide (a3<0))
   case true=>
    have h:=bH h y
    try simp only[y]
    exact V 9 Z<|Q<|aB (u true _ _ ⟨Z,a⟩ h) Z
   case false=>
    have h:=bI h y
    try simp only[y]
    refine V 4 Z ?_
    cases z:(decide ((65536:Int)<a3))
    case true=>
     have h:=bH h z
     try simp only[z]
     exact V 5 Z<|Q<|aB (u true _ _ ⟨Z,a⟩ h) Z
    case false=>
     have h:=bI h z
     try simp only[z]
     exact V 1 Z<|aO (t:=28) Z Z (aD u25 Z (be.b a.fr)) Z<|V 3 Z<|Q<|aB (u ((a1.length:Int) != d) _ _ ⟨Z,a⟩ h) Z
 rintro bC L w hJ h
 try dsimp only at hJ
 obtain⟨rfl,a⟩:=hJ
 unfold F.IV at h
 apply gl9 Z h<;>intro h
 ·refine R<|V 1 Z<|gl8 ?_
  cases h
  exact au Z Z ⟨Z,a⟩
 refine gl6<|V 2 Z<|O (aj Z Z (sL _ (wI (a3+7)) 3 3 Z)) Z<|V 1 Z<|gl1 ?_
 refine aU (r:=r) (fun (g:Bool) L w=>L=[(0,H a0),(1,p),(2,q),(3,H a3),(9,H d),(10,H (eA (wI (a3+7)) 3)),(64,N g)]/\St [] o w []) (F.Hl a0 a2 a3 d a1) ?_ ?_
 rotate_left
 ·intro l
  refine aQ (fun w'=>St [] o w' []) (fun i=>!([24].contains i)) bK (fun _ _ _ S=>S.2) (fun _ _ S=>S) (by kernel_rfl)<|have a:=a.drew;show lxE _ _ _ _ _ _ _ [0,1,2,3,4,5,6,7,8,9,10,11,12,13,14,15,16,17,18,19,20,21,22,23,24,25,26,27] _ _ from an 1 Z a<|J a Z Z (fun w c=>aD u25 Z (f.b c.fr)) Z<|an 3 Z a ?_
  cases A:((a2.length:Int) != (eA (wI (a3+7)) 3))
  case true=>
   have h:=bH h A
   try simp only[A]
   exact a9 (b:=true) (t:=41) a Z Z Z Z Z Z<|a9 (b:=true) (t:=41) a Z Z Z Z Z Z<|a9 (b:=true) (t:=41) a Z Z Z Z Z Z<|a9 (b:=true) (t:=41) a Z Z Z Z Z Z<|a9 (b:=true) (t:=41) a Z Z Z Z Z Z<|an 2 Z a<|a9 (b:=true) (t:=48) a Z Z Z Z Z Z<|a9 (b:=true) (t:=48) a Z Z Z Z Z Z<|a9 (b:=true) (t:=48) a Z Z Z Z Z Z<|a9 (b:=true) (t:=48) a Z Z Z Z Z Z<|a9 (b:=true) (t:=48) a Z Z Z Z Z Z<|a9 (b:=true) (t:=48) a Z Z Z Z Z Z<|an 2 Z a<|a9 (b:=true) (t:=56) a Z Z Z Z Z Z<|a9 (b:=true) (t:=56) a Z Z Z Z Z Z<|a9 (b:=true) (t:=56) a Z Z Z Z Z Z<|a9 (b:=true) (t:=56) a Z Z Z Z Z Z<|en (b:=true) (t:=56) a Z Z Z Z Z Z<|a9 (b:=true) (t:=56) a Z Z Z Z Z Z<|a9 (b:=true) (t:=56) a Z Z Z Z Z Z<|an 1 Z a<|a8 a<|am<|aB (l true _ _ ⟨Z,a⟩ h) Z
  case false=>
   have h:=bI h A
   try simp only[A]
   refine bW (t:=41) a Z Z Z Z (fun w c=>ea Z) Z<|bW (t:=41) a Z Z Z Z (fun w c=>ea Z) Z<|bW (t:=41) a Z Z Z Z (fun w c=>aj Z Z (ee _ 2 d)) Z<|bW (t:=41) a Z Z Z Z (fun w c=>aj Z Z (jF _ (wI (2*d)) 2)) Z<|bW (t:=41) a Z Z Z Z (fun w c=>aj Z Z (gz _ (eA (wI (a3+7)) 3) (wI ((wI (2*d))+2)))) Z<|an 2 Z a ?_
   cases B:(decide ((eA (wI (a3+7)) 3)<(wI ((wI (2*d))+2))))
   case true=>
    have h:=bH h B
    try simp only[B]
    exact a9 (b:=true) (t:=48) a Z Z Z Z Z Z<|a9 (b:=true) (t:=48) a Z Z Z Z Z Z<|a9 (b:=true) (t:=48) a Z Z Z Z Z Z<|a9 (b:=true) (t:=48) a Z Z Z Z Z Z<|a9 (b:=true) (t:=48) a Z Z Z Z Z Z<|a9 (b:=true) (t:=48) a Z Z Z Z Z Z<|an 2 Z a<|a9 (b:=true) (t:=56) a Z Z Z Z Z Z<|a9 (b:=true) (t:=56) a Z Z Z Z Z Z<|a9 (b:=true) (t:=56) a Z Z Z Z Z Z<|a9 (b:=true) (t:=56) a Z Z Z Z Z Z<|en (b:=true) (t:=56) a Z Z Z Z Z Z<|a9 (b:=true) (t:=56) a Z Z Z Z Z Z<|a9 (b:=true) (t:=56) a Z Z Z Z Z Z<|an 1 Z a<|a8 a<|am<|aB (l true _ _ ⟨Z,a⟩ h) Z
   case false=>
    have h:=bI h B
    try simp only[B]
    refine bW (t:=48) a Z Z Z Z (fun w c=>ea Z) Z<|bW (t:=48) a Z Z Z Z (fun w c=>ea Z) Z<|bW (t:=48) a Z Z Z Z (fun w c=>aj Z Z (rc _ (eA (wI (a3+7)) 3) 1)) Z<|M h fun bi aw h=>bW (t:=48) a Z Z Z Z (fun w c=>bh u25 ti5 Z Z (f.b c.fr) aw) Z<|bW (t:=48) a Z Z Z Z (fun w c=>aX Tryz.underlying5 Z Z (f.b c.fr) aw Z) Z<|bW (t:=48) a Z Z Z Z (fun w c=>aj Z Z (qe _ bi 188)) Z<|an 2 Z a ?_
    cases m:(bi != 188)
    case true=>
     have h:=bH h m
     try simp only[m]
     exact a9 (b:=true) (t:=56) a Z Z Z Z Z Z<|a9 (b:=true) (t:=56) a Z Z Z Z Z Z<|a9 (b:=true) (t:=56) a Z Z Z Z Z Z<|a9 (b:=true) (t:=56) a Z Z Z Z Z Z<|en (b:=true) (t:=56) a Z Z Z Z Z Z<|a9 (b:=true) (t:=56) a Z Z Z Z Z Z<|a9 (b:=true) (t:=56) a Z Z Z Z Z Z<|an 1 Z a<|a8 a<|am<|aB (l true _ _ ⟨Z,a⟩ h) Z
    case false=>
     have h:=bI h m
     try simp only[m]
     refine bW (t:=56) a Z Z Z Z (fun w c=>ea Z) Z<|M h fun T ac h=>bW (t:=56) a Z Z Z Z (fun w c=>bh u25 ti5 Z Z (f.b c.fr) ac) Z<|bW (t:=56) a Z Z Z Z (fun w c=>aX Tryz.underlying5 Z Z (f.b c.fr) ac Z) Z<|bW (t:=56) a Z Z Z Z (fun w c=>ea Z) Z<|M h fun ab aK h=>iJ (t:=56) a Z Z Z Z (by kernel_rfl) Z (qT a3 aK ) Z ?_
     rintro _ w ⟨rfl,k⟩
     have a:=a.e k
     exact bW (t:=56) a Z Z Z Z (fun w c=>aj Z Z (zO _ T ab)) Z<|bW (t:=56) a Z Z Z Z (fun w c=>aj Z Z (qe _ (T &&& ~~~ ab) 0)) Z<|an 1 Z a<|a8 a<|am<|aB (l ((T &&& ~~~ ab) != 0) _ _ ⟨Z,a⟩ h) Z
 rintro bs L w hJ h
 try dsimp only at hJ
 obtain⟨rfl,a⟩:=hJ
 unfold F.Hl at h
 apply gl9 Z h<;>intro h
 ·refine R<|V 1 Z<|gl8 ?_
  cases h
  exact au Z Z ⟨Z,a⟩
 refine gl6<|V 7 Z<|M h fun bk C h=>O (ze u25 ti5 Z Z Z (f.b a.fr) C) Z<|V 1 Z<|gl2<|V 5 Z<|M h fun bt ad h=>O (mz u25 ti5 Z Z (f.b a.fr) ad) Z<|M h fun aC aL h=>aM a Z (j0  aL ((f.g_slh ad).b a.fr).rp) Z fun j w a=>V 1 Z<|gl2<|V 3 Z<|have hG:=a.pick (os':=[U e8 j aC]++[]) [0] (by decide) Z;M h fun bl aT h=>aJ Z (yH a0 0 aC.length aT hG.f (hT.f hG) ((f.g_sl C).f (W Z) hG) (a.ro 0 Z).whole) Z ?_
 rintro _ w ⟨rfl,k⟩
 have a:=hG.g k
 refine gl1<|dy (fun w'=>St [] o w' [U e8 j bl]) (fun i=>!([4,7].contains i)) bK (fun _ _ _ S=>S.2) (fun _ _ S=>S) (by kernel_rfl)<|have a:=a.drew;show lxE _ _ _ _ _ _ _ [0,1,2,3,4,5,6,7] _ _ from an 1 Z a<|M h fun aE ae h=>J a Z Z (fun w c=>bh u25 ti5 Z Z (c.ro 0 Z) ae) Z<|J a Z Z (fun w c=>aX Tryz.underlying5 Z Z (c.ro 0 Z) ae Z) Z<|an 1 Z a<|M h fun aF aV h=>aY a Z Z (by kernel_rfl) Z (qT a3 aV ) Z ?_
 rintro _ w ⟨rfl,k⟩
 have a:=a.e k
 refine J a Z Z (fun w c=>aj Z Z (me _ aE aF)) Z<|M h fun bu ah h=>J a Z Z (fun w c=>bh u25 ti5 Z Z (c.ro 0 Z) ah) Z<|gu a Z Z (bX (t:=(aE &&& aF)) ti5 Z Z a (i:=0) Z ah Z) fun w a=>bg h fun D a4 h=>?_
 rw[a4]at a
 refine a8 K<|am<|R<|V 1 Z<|O (aD u25 Z (a.ro 0 Z)) Z<|V 3 Z<|bg h fun e a5 h=>O (bd (v:=H e) (by rw[<-a5]; rfl)) Z<|gl1<|R<|V 2 Z<|db h fun E h=>O (mz u25 ti5 Z Z (a.ro 0 Z) (ox E)) Z<|O (aD u25 Z ((a.ro 0 Z).tk E.2)) Z<|V 1 Z<|Q<|av<|ax [(0,H a0),(1,p),(11,slV q e8.sz ((wI ((wI ((eA (wI (a3+7)) 3) - d)) - 1):Int).toNat) ((wI ((eA (wI (a3+7)) 3) - 1):Int).toNat)),(12,j),(13,H e),(98,slV j e8.sz 0 ((e:Int).toNat)),(99,H ((D.take ((e:Int).toNat)).length:Int)),(100,H 0)] Z ?_
 refine bf (F.IR a0 a1 bk D e) (fun (s:Int) L w=>L=[(0,H a0),(1,p),(11,slV q e8.sz ((wI ((wI ((eA (wI (a3+7)) 3) - d)) - 1):Int).toNat) ((wI ((eA (wI (a3+7)) 3) - 1):Int).toNat)),(12,j),(13,H e),(98,slV j e8.sz 0 ((e:Int).toNat)),(99,H ((D.take ((e:Int).toNat)).length:Int)),(100,H s)]/\St [] o w [U e8 j D]) ?_ 0 ⟨Z,a⟩ h
 rintro bv bm L w bw hI a6 h G
 try dsimp only at hI
 obtain⟨rfl,a⟩:=hI
 unfold F.IR at h
 refine R<|V 1 Z<|gl1 ?_
 apply gl9 Z h<;>intro h
 ·refine gl5<|az<|av<|R<|M h fun bn ak h=>O (sI u25 ti5 Z Z (a.ro 0 Z) E.2 ak) Z<|O (aX Tryz.underlying5 Z Z (a.ro 0 Z) (sZ ak) Z) Z<|V 1 Z<|gl2<|V 1 Z<|O (aj Z Z (qe _ bn 0)) Z<|Q ?_
  apply gl9 Z h<;>intro h
  ·refine R<|V 1 Z<|Q<|aq<|bb<|aN<|aN<|have h:=aR h G;bb<|aN ?_
   cases h
   exact au Z Z ⟨Z,a.d [] Z Z⟩
  exact cf<|aH<|am<|al<|V 2 Z<|aG<|bo (br (a6 (wI (bm+1)) _ _ ⟨Z,a⟩ (aW h G)) Z)
 refine aZ<|aA<|aA<|have h:=aR h G;a7<|am<|R<|V 2 Z<|M h fun aI ao h=>O (bh u25 ti5 Z Z (a.ro 0 Z) ao) Z<|O (aX Tryz.underlying5 Z Z (a.ro 0 Z) ao Z) Z<|O (aj Z Z (fc _ aI 1)) Z<|V 1 Z ?_
 cases n:(aI == 1)
 case true=>
  have h:=bH h n
  try simp only[n]
  refine V 5 Z<|M h fun bx ap h=>aO (t:=112) Z Z (oG u25 ti5 Z Z (a.ro 0 Z) ap) Z<|M h fun bz ba h=>bU (t:=112) Z Z (by kernel_rfl) Z (vZ a0 ba (hT.b a.fr) (be.b a.fr).rp ((a.ro 0 Z).g_sll ap).rp) Z fun bA w k=>have a:=a.e k;V 1 Z<|M h fun bB bc h=>bU (t:=112) Z Z (by kernel_rfl) Z (j1  bc (a.ro 0 Z).rp ((f.g_sl C).b a.fr).rp) Z ?_
  rintro _ w ⟨rfl,k⟩
  have a:=a.e k
  refine V 2 Z<|Q<|aq ?_
  cases h
  exact au Z Z ⟨Z,a.d [] Z Z⟩
 case false=>
  have h:=bI h n
  try simp only[n]
  refine V 11 Z<|Q<|aq ?_
  cases h
  exact au Z Z ⟨Z,a.d [] Z Z⟩
theorem tT {c:World} {a1 a2 a3 a4:Q1} {o k d p:Value} (a0:Int) {r:Int}
  (h:F.LJ a0 a1 a2 a3 a4=some r) (hT:TB [] c) (q:RP [] c e8 o a1) (D:RP [] c e8 k a2) (E:RP [] c e8 d a3) (G:RP [] c e8 p a4):Calls Tryz.prog 10 #[H a0,o,k,d,p] c (Ret fun v w=>v=H r/\St [] c w []):=by
 refine ay 74 Tryz.func10 Z Z Z<|have a:=St.k c;ax [(0,H a0),(1,o),(2,k),(3,d),(4,p)] Z ?_
 unfold F.LJ at h
 refine R<|V 1 Z<|gl1<|R<|V 1 Z<|M h fun aI ad h=>aS a Z (eH a0 ad ) Z fun w a=>V 1 Z<|Q ?_
 apply gl9 Z h<;>intro h
 ·refine R<|V 1 Z<|gl8 ?_
  cases h
  exact au Z Z ⟨Z,a⟩
 refine gl5<|az<|R<|V 2 Z<|M h fun aJ ae h=>aS a Z (mS  ae (q.b a.fr).rp (D.b a.fr).rp) Z fun w a=>V 1 Z<|Q ?_
 apply gl9 Z h<;>intro h
 ·refine R<|V 1 Z<|gl8 ?_
  cases h
  exact au Z Z ⟨Z,a⟩
 refine gl6<|V 1 Z<|M h fun S ah h=>aM a Z (ci  ah (q.b a.fr).rp) Z fun T w a=>V 1 Z<|M h fun ab J h=>aM a Z (ci  J (G.b a.fr).rp) Z fun ac w a=>V 2 Z<|gl1 ?_
 refine aU (r:=r) (fun (g:Bool) L w=>L=[(0,H a0),(2,k),(3,d),(11,T),(12,ac),(39,N g)]/\St [] c w [U X T S,U X ac ab]) (F.Km a0 a2 a3 S ab) ?_ ?_
 rotate_left
 ·intro m
  refine al<|V 1 Z<|O (aD u25 Z (G.b a.fr)) Z<|V 1 Z<|O (aD u25 Z (q.b a.fr)) Z<|V 2 Z ?_
  cases f:((a4.length:Int) != (a1.length:Int))
  case true=>
   have h:=bH h f
   try simp only[f]
   exact V 5 Z<|Q<|aB (m true _ _ ⟨Z,(a.d [1,0] Z Z)⟩ h) Z
  case false=>
   have h:=bI h f
   try simp only[f]
   refine V 2 Z<|M h fun ak u h=>bU (t:=34) Z Z (by kernel_rfl) Z (du  u (a.ro 0 Z).rp (a.ro 1 Z).rp) Z ?_
   rintro _ w ⟨rfl,i⟩
   have a:=a.e i
   exact V 2 Z<|Q<|aB (m (decide ((0:Int)<=ak)) _ _ ⟨Z,(a.d [1,0] Z Z)⟩ h) Z
 rintro ap L w s h
 try dsimp only at s
 obtain⟨rfl,a⟩:=s
 unfold F.Km at h
 apply gl9 Z h<;>intro h
 ·refine R<|V 1 Z<|gl8 ?_
  cases h
  exact au Z Z ⟨Z,a.d [] Z Z⟩
 refine gl6<|V 2 Z<|M h fun ar x h=>aM a Z (ci  x (D.b a.fr).rp) Z fun av w a=>V 1 Z<|M h fun aw y h=>cU a Z (mp  y (a.ro 2 Z).rp (a.ro 0 Z).rp (a.ro 1 Z).rp) Z fun aA w a=>V 5 Z<|gl1<|R<|V 2 Z<|Q ?_
 apply gl9 Z h<;>intro h
 ·refine R<|V 1 Z<|gl8 ?_
  cases h
  exact au Z Z ⟨Z,a.d [] Z Z⟩
 refine gl6<|V 1 Z<|M h fun j z h=>aS a Z (dM  z (a.ro 2 Z).rp) Z fun w a=>V 2 Z<|gl2<|V 3 Z<|O (aj Z Z (sL _ (wI ((wI (j - 1))+7)) 3 3 Z)) Z<|M h fun am A h=>cU a Z (lJ (eA (wI ((wI (j - 1))+7)) 3) A (a.ro 0 Z).rp) Z fun aC w a=>V 5 Z<|gl1 ?_
 refine aU (r:=r) (fun (g:Bool) L w=>L=[(73,N g)]/\St [] c w []) (F.KT) ?_ ?_
 rotate_left
 ·intro n
  refine al<|V 3 Z ?_
  cases b:(!am.2)
  case true=>
   have h:=bH h b
   try simp only[b]
   exact V 10 Z<|Q<|aB (n true _ _ ⟨Z,(a.d [] Z Z)⟩ h) Z
  case false=>
   have h:=bI h b
   try simp only[b]
   refine V 3 Z<|kq (t:=63) Z Z (bJ (e:=eV) (l:=([SV.of d]:List SV)) (vs:=[d]) u117 iy Z Z Z (cb (E.b a.fr).sv Z) (by decide) (by decide) a) Z fun aE w a=>M h fun aF B h=>bU (t:=63) Z Z (by kernel_rfl) Z (fE a0 B (hT.b a.fr) (a.ro 0 Z).rp ⟨(E.b a.fr).svrp,K⟩) Z fun aG w i=>have a:=a.e i;V 2 Z<|M h fun an C h=>bU (t:=63) Z Z (by kernel_rfl) Z (wQ a0 (wI (j - 1)) C (hT.b a.fr) (a.ro 0 Z).rp (a.ro 2 Z).rp) Z ?_
   rintro _ w ⟨rfl,i⟩
   have a:=a.e i
   exact V 2 Z<|Q<|aB (n (!an) _ _ ⟨Z,(a.d [] Z Z)⟩ h) Z
 rintro aH L w s h
 try dsimp only at s
 obtain⟨rfl,a⟩:=s
 unfold F.KT at h
 apply gl9 Z h<;>intro h
 ·refine R<|V 1 Z<|gl8 ?_
  cases h
  exact au Z Z ⟨Z,a⟩
 refine gl6<|V 1 Z<|Q<|aq ?_
 cases h
 exact au Z Z ⟨Z,a⟩
end Go.Proofs
