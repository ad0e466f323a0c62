import Derived.Test.YtahgjafdhjbkeaaGreatDoorRW0
import Derived.Test.YtahgjafdhjbkeaaGreatDoorGkFman
import Derived.Test.YtahgjafdhjbkeaaGreatDoorRWref6
import Derived.Test.YtahgjafdhjbkeaaGreatDoorRWref7
set_option linter.unusedVariables false
set_option linter.unusedSimpArgs false
set_option linter.unusedSectionVars false
set_option maxRecDepth 4000
namespace Go.Proofs
open Go Go.RowKit Go.Gk
open Go.Gk renaming aa -> V, af -> J, ag -> N, ai -> H, e32 -> X, gl3 -> P, gl4 -> R, own -> U, pB -> O, vB -> K, vI -> I
open Go.Gk.OE renaming bx -> Y
theorem fQ {a:World} (a0:Int) {r:Int}
  (h:F.D3 a0=some r) :Calls Tryz.prog 26 #[I a0] a (Ret fun v w=>v=I r/\St [] a w []):=by
 refine aB 8 Tryz.func26 Z Z Z<|have b:=St.k a;ax [(0,I a0)] Z ?_
 unfold F.D3 at h
 refine R<|V 1 Z<|gl1<|R<|V 1 Z<|P<|aq<|R<|V 2 Z<|P ?_
 apply gl9 Z h<;>intro h
 ·refine R<|V 1 Z<|P<|ay<|bu<|aU ?_
  cases h
  exact az Z Z ⟨Z,b⟩
 refine R<|V 2 Z<|P ?_
 apply gl9 Z h<;>intro h
 ·refine R<|V 1 Z<|P<|ay<|bu<|aU ?_
  cases h
  exact az Z Z ⟨Z,b⟩
 refine cd<|aF<|ak<|R<|V 1 Z<|P<|ay ?_
 cases h
 exact az Z Z ⟨Z,b⟩
theorem lf {j:World} {a0:L0} {b:Value} {r:L0}
  (h:F.G1 a0=some r) (f:RP [] j X b a0):Calls Tryz.prog 74 #[b] j (Ret fun v w=>St [] j w [U X v r]):=by
 refine aB 33 Tryz.func74 Z Z Z<|have a:=St.k j;ax [(0,b)] Z ?_
 unfold F.G1 at h
 refine R<|V 1 Z<|gl2<|V 1 Z<|gl2<|V 1 Z<|N (aC u31 Z (f.b a.fr)) Z<|V 1 Z<|gl1<|aq<|ax [(0,b),(3,.slice none 0 0),(4,I (a0.length:Int))] Z ?_
 refine aT (F.I9 a0) (fun (s:Int) L w=>L=[(0,b),(3,.slice none 0 0),(4,I s)]/\St [] j w []) ?_ (a0.length:Int) ⟨Z,a⟩ h
 rintro T c L w G o B h p
 try dsimp only at o
 obtain⟨rfl,a⟩:=o
 unfold F.I9 at h
 refine aw ?_
 refine a8 (r:=G) (fun (g:Bool) L w=>L=[(0,b),(3,.slice none 0 0),(4,I c),(17,K g)]/\St [] j w []) (F.I1 c a0) ?_ ?_
 rotate_left
 ·intro q
  refine al<|V 3 Z ?_
  cases d:(decide ((0:Int)<c))
  case true=>
   have h:=cz h d
   try simp only[d]
   exact V 3 Z<|J h fun A u h=>bB (t:=10) Z Z (bk u31 aN Z Z (f.b a.fr) u) Z<|bB (t:=10) Z Z (a9 u38 Z Z (f.b a.fr) u Z) Z<|bB (t:=10) Z Z (aj Z Z (k7 _ A 0)) Z<|V 1 Z<|P<|aG (q (A == 0) _ _ ⟨Z,a⟩ h) Z
  case false=>
   have h:=cA h d
   try simp only[d]
   exact V 7 Z<|P<|aG (q false _ _ ⟨Z,a⟩ h) Z
 rintro ae L w S h
 try dsimp only at S
 obtain⟨rfl,a⟩:=S
 unfold F.I1 at h
 apply gl9 Z h<;>intro h
 ·exact gl5<|aq<|al<|V 3 Z<|aE<|aF<|bd (bc (B (wI (c - 1)) _ _ ⟨Z,a⟩ (aK h p)) Z)
 refine aQ<|av<|av<|have h:=aI h p;aR<|ak<|aw<|R<|V 1 Z<|P<|aq<|ax [(0,b),(3,.slice none 0 0),(4,I c),(5,I 0)] Z ?_
 refine aT (F.EN a0 c) (fun (s:L0×Int) L w=>∃(k:Value),L=[(0,b),(3,k),(4,I c),(5,I s.2)]/\St [] j w [U X k s.1]) ?_ ([],0) ⟨L3,Z,(a.nil X)⟩ h
 rintro ab ⟨ah,C⟩ L w ac o y h m
 try dsimp only at o
 obtain⟨k,rfl,a⟩:=o
 unfold F.EN at h
 refine aw<|R<|V 3 Z<|P ?_
 apply gl9 Z h<;>intro h
 ·exact gl5<|aw<|aq<|al<|V 3 Z<|J h fun x n h=>N (bk u31 aN Z Z (f.b a.fr) n) Z<|N (a9 u38 Z Z (f.b a.fr) n Z) Z<|bC (cq (e:=X) (l:=([x]:L0)) (vs:=[v32 x]) u31 aN Z Z Z Z (by decide) (by decide) a) Z fun ad w a=>J h fun D z h=>bC (dN u31 aN Z Z Z a (i:=1) Z (a.ro 0 Z) z) Z fun E w a=>V 1 Z<|aE<|aF<|ak<|al<|V 3 Z<|aE<|bd (bc (y (D,wI (C+1)) _ _ ⟨E,Z,(a.d [1] Z Z)⟩ (aK h m)) Z)
 refine aQ<|av<|av<|have h:=aI h m;aR<|ak<|R<|V 2 Z<|P<|ay ?_
 cases h
 exact az Z Z (a.d [0] Z Z)
theorem rV {a:World} (a0:UInt8) {r:UInt32}
  (h:F.It a0=some r) :Calls Tryz.prog 136 #[v8 a0] a (Ret fun v w=>v=v32 r/\St [] a w []):=by
 refine aB 12 Tryz.func136 Z Z Z<|have b:=St.k a;ax [(0,v8 a0)] Z ?_
 unfold F.It at h
 refine R<|V 1 Z<|gl1<|R<|V 1 Z<|N (aj Z Z (qd _ a0 97)) Z<|P ?_
 apply gl9 Z h<;>intro h
 ·refine R<|V 1 Z<|N (aj Z Z (nJ _ a0 97)) Z<|N (aD Z (fv Tryz.underlying5 u38 (a0 - 97))) Z<|N (aj Z Z (cZ _ ((a0 - 97).toUInt32) 10)) Z<|V 1 Z<|gl8 ?_
  cases h
  exact az Z Z ⟨Z,b⟩
 refine gl6<|V 1 Z<|N (aj Z Z (nJ _ a0 48)) Z<|N (aD Z (fv Tryz.underlying5 u38 (a0 - 48))) Z<|V 1 Z<|P<|ay ?_
 cases h
 exact az Z Z ⟨Z,b⟩
theorem dD {g:World} (a0:L1) {r:L0}
  (h:F.Dw a0=some r) :Calls Tryz.prog 81 #[vS a0] g (Ret fun v w=>St [] g w [U X v r]):=by
 refine aB 32 Tryz.func81 Z Z Z<|have a:=St.k g;ax [(0,vS a0)] Z ?_
 unfold F.Dw at h
 refine R<|V 1 Z<|gl2<|V 1 Z<|gl1<|R<|V 1 Z<|N (kf Tryz.underlying9 Z) Z<|V 1 Z<|P<|aq<|ax [(0,vS a0),(3,.slice none 0 0),(4,I (a0.length:Int))] Z ?_
 refine aT (F.Fx a0) (fun (s:L0×Int) L w=>∃(b:Value),L=[(0,vS a0),(3,b),(4,I s.2)]/\St [] g w [U X b s.1]) ?_ ([],(a0.length:Int)) ⟨L3,Z,(a.nil X)⟩ h
 rintro B ⟨t,c⟩ L w G j u h k
 try dsimp only at j
 obtain⟨b,rfl,a⟩:=j
 unfold F.Fx at h
 refine aw<|R<|V 2 Z<|P ?_
 apply gl9 Z h<;>intro h
 ·refine gl5<|aw<|aq<|R<|V 1 Z<|gl1<|R<|V 3 Z<|P<|aq<|ax [(0,vS a0),(3,b),(4,I c),(5,v32 0),(6,I (wI (c - 8)))] Z ?_
  refine aT (F.EY a0 t c) (fun (s:UInt32×Int) L w=>L=[(0,vS a0),(3,b),(4,I c),(5,v32 s.1),(6,I s.2)]/\St [] g w [U X b t]) ?_ (0,wI (c - 8)) ⟨Z,a⟩ h
  rintro C ⟨d,A⟩ L w D j n h f
  try dsimp only at j
  obtain⟨rfl,a⟩:=j
  unfold F.EY at h
  refine aw<|R<|V 3 Z<|P ?_
  apply gl9 Z h<;>intro h
  ·exact gl5<|aw<|aq<|al<|V 1 Z<|N (aj Z Z (Bf _ 16 d)) Z<|V 2 Z<|J h fun x o h=>N (kG Tryz.underlying9 Z Z o) Z<|J h fun m p h=>bf a Z (rV x p ) Z fun w a=>N (aj Z Z (cZ _ (16*d) m)) Z<|V 1 Z<|aE<|aF<|ak<|al<|V 3 Z<|aE<|bd (bc (n ((16*d)+m,wI (A+1)) _ _ ⟨Z,a⟩ (aK h f)) Z)
  exact aQ<|av<|av<|have h:=aI h f;aR<|ak<|al<|V 2 Z<|bC (cq (e:=X) (l:=([d]:L0)) (vs:=[v32 d]) u31 aN Z Z Z Z (by decide) (by decide) a) Z fun E w a=>J h fun y q h=>bC (dN u31 aN Z Z Z a (i:=1) Z (a.ro 0 Z) q) Z fun z w a=>V 1 Z<|aE<|aF<|ak<|al<|V 3 Z<|aE<|bd (bc (u (y,wI (c - 8)) _ _ ⟨z,Z,(a.d [1] Z Z)⟩ (aK h k)) Z)
 refine aQ<|av<|av<|have h:=aI h k;aR<|ak<|R<|V 2 Z<|P<|ay ?_
 cases h
 exact az Z Z (a.d [0] Z Z)
theorem fw {b:World} (a0:Int) {r:L0}
  (h:F.D5 a0=some r) :Calls Tryz.prog 76 #[I a0] b (Ret fun v w=>St [] b w [U X v r]):=by
 refine aB 10 Tryz.func76 Z Z Z<|have a:=St.k b;ax [(0,I a0)] Z ?_
 unfold F.D5 at h
 refine R<|V 1 Z<|gl1<|R<|V 1 Z<|P<|aq<|R<|V 2 Z<|P ?_
 apply gl9 Z h<;>intro h
 ·refine R<|J h fun e c h=>aV a Z (dD [102,102,102,102,102,102,102,102,48,48,48,48,48,48,48,49,48,48,48,48,48,48,48,48,48,48,48,48,48,48,48,48,48,48,48,48,48,48,48,48,102,102,102,102,102,102,102,102,102,102,102,102,102,102,102,102,102,102,102,102,102,102,102,102] c ) Z fun f w a=>V 1 Z<|P<|ay<|bu<|aU ?_
  cases h
  exact az Z Z (a.d [0] Z Z)
 refine R<|V 2 Z<|P ?_
 apply gl9 Z h<;>intro h
 ·refine R<|J h fun g d h=>aV a Z (dD [102,102,102,102,102,102,102,102,102,102,102,102,102,102,102,102,102,102,102,102,102,102,102,102,102,102,102,102,102,102,102,102,102,102,102,102,102,102,102,102,102,102,102,102,102,102,102,102,102,102,102,102,102,102,102,102,102,102,102,102,102,102,102,101,102,102,102,102,102,102,102,102,48,48,48,48,48,48,48,48,48,48,48,48,48,48,48,48,102,102,102,102,102,102,102,102] d ) Z fun i w a=>V 1 Z<|P<|ay<|bu<|aU ?_
  cases h
  exact az Z Z (a.d [0] Z Z)
 refine cd<|aF<|ak<|R<|V 1 Z<|P<|ay ?_
 cases h
 exact az Z Z ((a.nil X).d [0] Z Z)
theorem jd {b:World} {a1 a2:L0} {c d:Value} (a0:Int) {r:L0}
  (h:F.EU a0 a1 a2=some r) (g:RP [] b X c a1) (i:RP [] b X d a2):Calls Tryz.prog 79 #[I a0,c,d] b (Ret fun v w=>St [] b w [U X v r]):=by
 refine aB 18 Tryz.func79 Z Z Z<|have a:=St.k b;ax [(0,I a0),(1,c),(2,d)] Z ?_
 unfold F.EU at h
 refine R<|V 1 Z<|gl2<|V 3 Z<|J h fun j e h=>aV a Z (fw a0 e ) Z fun k w a=>J h fun l f h=>eI a Z (lH  f (g.b a.fr).rp (i.b a.fr).rp (a.ro 0 Z).rp) Z fun m w a=>V 5 Z<|gl2<|V 2 Z<|P<|ay ?_
 cases h
 exact az Z Z (a.d [0] Z Z)
theorem uI {b:World} {a1 a2:L0} {c d:Value} (a0:Int) {r:L0}
  (h:F.HZ a0 a1 a2=some r) (g:RP [] b X c a1) (i:RP [] b X d a2):Calls Tryz.prog 78 #[I a0,c,d] b (Ret fun v w=>St [] b w [U X v r]):=by
 refine aB 18 Tryz.func78 Z Z Z<|have a:=St.k b;ax [(0,I a0),(1,c),(2,d)] Z ?_
 unfold F.HZ at h
 refine R<|V 1 Z<|gl2<|V 3 Z<|J h fun j e h=>aV a Z (fw a0 e ) Z fun k w a=>J h fun l f h=>eI a Z (pv  f (g.b a.fr).rp (i.b a.fr).rp (a.ro 0 Z).rp) Z fun m w a=>V 5 Z<|gl2<|V 2 Z<|P<|ay ?_
 cases h
 exact az Z Z (a.d [0] Z Z)
theorem yB {b:World} (a0:Int) {r:L0}
  (h:F.Io a0=some r) :Calls Tryz.prog 80 #[I a0] b (Ret fun v w=>St [] b w [U X v r]):=by
 refine aB 7 Tryz.func80 Z Z Z<|have a:=St.k b;ax [(0,I a0)] Z ?_
 unfold F.Io at h
 refine R<|V 1 Z<|gl1<|R<|V 2 Z<|P ?_
 apply gl9 Z h<;>intro h
 ·refine R<|J h fun e c h=>aV a Z (dD [53,97,99,54,51,53,100,56,97,97,51,97,57,51,101,55,98,51,101,98,98,100,53,53,55,54,57,56,56,54,98,99,54,53,49,100,48,54,98,48,99,99,53,51,98,48,102,54,51,98,99,101,51,99,51,101,50,55,100,50,54,48,52,98] c ) Z fun f w a=>V 1 Z<|gl8 ?_
  cases h
  exact az Z Z (a.d [0] Z Z)
 refine gl6<|J h fun g d h=>aV a Z (dD [98,51,51,49,50,102,97,55,101,50,51,101,101,55,101,52,57,56,56,101,48,53,54,98,101,51,102,56,50,100,49,57,49,56,49,100,57,99,54,101,102,101,56,49,52,49,49,50,48,51,49,52,48,56,56,102,53,48,49,51,56,55,53,97,99,54,53,54,51,57,56,100,56,97,50,101,100,49,57,100,50,97,56,53,99,56,101,100,100,51,101,99,50,97,101,102] d ) Z fun i w a=>V 1 Z<|P<|ay ?_
 cases h
 exact az Z Z (a.d [0] Z Z)
theorem uF {b:World} {a1 a2:L0} {c d:Value} (a0:Int) {r:L0}
  (h:F.I7 a0 a1 a2=some r) (g:RP [] b X c a1) (i:RP [] b X d a2):Calls Tryz.prog 77 #[I a0,c,d] b (Ret fun v w=>St [] b w [U X v r]):=by
 refine aB 18 Tryz.func77 Z Z Z<|have a:=St.k b;ax [(0,I a0),(1,c),(2,d)] Z ?_
 unfold F.I7 at h
 refine R<|V 1 Z<|gl2<|V 3 Z<|J h fun j e h=>aV a Z (fw a0 e ) Z fun k w a=>J h fun l f h=>eI a Z (wh  f (g.b a.fr).rp (i.b a.fr).rp (a.ro 0 Z).rp) Z fun m w a=>V 5 Z<|gl2<|V 2 Z<|P<|ay ?_
 cases h
 exact az Z Z (a.d [0] Z Z)
theorem pq {m:World} {n o:L0} {b c:Value} (a0:Int) (i:Bool) {r:Bool}
  (h:F.Hk a0 n o i=some r) (s:RP [] m X b n) (u:RP [] m X c o):Calls Tryz.prog 34 #[I a0,.agg #[b,c,K i]] m (Ret fun v w=>v=K r/\St [] m w []):=by
 refine aB 63 Tryz.func34 Z Z Z<|have a:=St.k m;ax [(0,I a0),(1,.agg #[b,c,K i])] Z ?_
 unfold F.Hk at h
 refine R<|bg (cg (cs:=[b,c,K i]) Z Z a) Z fun aW w a=>V 1 Z<|gl1<|R<|V 1 Z<|J h fun aX ah h=>bf a Z (fQ a0 ah ) Z fun w a=>V 1 Z<|P ?_
 apply gl9 Z h<;>intro h
 ·refine R<|V 1 Z<|gl8 ?_
  cases h
  exact az Z Z ⟨Z,a.d [] Z Z⟩
 refine gl6<|N (am (k:=0) u33 Z Z cH Z) Z<|N (au u31 Z Z (a.q 0 Z 0)) Z<|J h fun p H h=>aV a Z (lf  H (s.b a.fr).rp) Z fun ac w a=>V 1 Z<|gl2<|N (am (k:=1) u33 Z Z cH Z) Z<|N (au u31 Z Z (a.q 1 Z 1)) Z<|J h fun ad aj h=>aV a Z (lf  aj (u.b a.fr).rp) Z fun ae w a=>V 1 Z<|gl1<|R<|N (am (k:=2) u33 Z Z nz4 Z) Z<|N (au Tryz.underlying4 Z Z (a.q 2 Z 2)) Z<|P ?_
 apply gl9 Z h<;>intro h
 ·refine R<|V 1 Z<|N (aC u31 Z (a.ro 1 Z)) Z<|V 2 Z ?_
  cases d:((p.length:Int) == 0)
  case true=>
   have h:=cz h d
   try simp only[d]
   refine V 1 Z<|bB (t:=22) Z Z (aC u31 Z (a.ro 0 Z)) Z<|V 3 Z<|gl8 ?_
   cases h
   exact az Z Z ⟨Z,a.d [] Z Z⟩
  case false=>
   have h:=cA h d
   try simp only[d]
   refine V 5 Z<|gl8 ?_
   cases h
   exact az Z Z ⟨Z,a.d [] Z Z⟩
 refine gl5<|aw ?_
 refine a8 (r:=r) (fun (g:Bool) L w=>L=[(0,I a0),(5,ac),(6,ae),(38,K g)]/\St [] m w [U X ac p,U X ae ad]) (F.HR a0 p ad) ?_ ?_
 rotate_left
 ·intro j
  refine al<|V 2 Z<|J h fun ap x h=>aV a Z (fw a0 x ) Z fun aq w a=>J h fun ak y h=>bf a Z (md  y (a.ro 2 Z).rp (a.ro 0 Z).rp) Z fun w a=>V 2 Z ?_
  cases f:(decide ((0:Int)<=ak))
  case true=>
   have h:=cz h f
   try simp only[f]
   exact V 6 Z<|P<|aG (j true _ _ ⟨Z,(a.d [2,1] Z Z)⟩ h) Z
  case false=>
   have h:=cA h f
   try simp only[f]
   refine V 2 Z<|J h fun ar z h=>cw (t:=32) Z Z (by kernel_rfl) Z (fw a0 z ) Z fun av w q=>have a:=a.e q;J h fun an A h=>cw (t:=32) Z Z (by kernel_rfl) Z (md  A (a.ro 2 Z).rp (a.ro 0 Z).rp) Z ?_
   rintro _ w ⟨rfl,q⟩
   have a:=a.e q
   exact V 2 Z<|P<|aG (j (decide ((0:Int)<=an)) _ _ ⟨Z,(a.d [3,2] Z Z)⟩ h) Z
 rintro aA L w hJ h
 try dsimp only at hJ
 obtain⟨rfl,a⟩:=hJ
 unfold F.HR at h
 apply gl9 Z h<;>intro h
 ·refine R<|V 1 Z<|gl8 ?_
  cases h
  exact az Z Z ⟨Z,a.d [] Z Z⟩
 refine gl6<|V 7 Z<|J h fun aD B h=>aV a Z (jd a0 B (a.ro 0 Z).rp (a.ro 0 Z).rp) Z fun aE w a=>J h fun aF C h=>aV a Z (jd a0 C (a.ro 1 Z).rp (a.ro 0 Z).rp) Z fun aH w a=>V 1 Z<|bC (cq (e:=X) (l:=([3]:L0)) (vs:=[v32 3]) u31 aN Z Z Z Z (by decide) (by decide) a) Z fun aI w a=>V 1 Z<|J h fun aJ D h=>aV a Z (jd a0 D (a.ro 0 Z).rp (a.ro 3 Z).rp) Z fun aK w a=>J h fun aL E h=>aV a Z (uI a0 E (a.ro 2 Z).rp (a.ro 0 Z).rp) Z fun aM w a=>V 1 Z<|J h fun aO G h=>aV a Z (yB a0 G ) Z fun aP w a=>J h fun aQ S h=>aV a Z (uF a0 S (a.ro 1 Z).rp (a.ro 0 Z).rp) Z fun aR w a=>V 1 Z<|gl2<|V 3 Z<|J h fun aS T h=>aV a Z (jd a0 T (a.ro 8 Z).rp (a.ro 8 Z).rp) Z fun aT w a=>V 1 Z<|J h fun aU ab h=>bf a Z (md  ab (a.ro 0 Z).rp (a.ro 1 Z).rp) Z fun w a=>V 2 Z<|P<|ay ?_
 cases h
 exact az Z Z ⟨Z,a.d [] Z Z⟩
theorem rN {b:World} (a0:Int) {r:L0}
  (h:F.H9 a0=some r) :Calls Tryz.prog 35 #[I a0] b (Ret fun v w=>St [] b w [U X v r]):=by
 refine aB 10 Tryz.func35 Z Z Z<|have a:=St.k b;ax [(0,I a0)] Z ?_
 unfold F.H9 at h
 refine R<|V 1 Z<|gl1<|R<|V 1 Z<|P<|aq<|R<|V 2 Z<|P ?_
 apply gl9 Z h<;>intro h
 ·refine R<|J h fun e c h=>aV a Z (dD [102,102,102,102,102,102,102,102,48,48,48,48,48,48,48,48,102,102,102,102,102,102,102,102,102,102,102,102,102,102,102,102,98,99,101,54,102,97,97,100,97,55,49,55,57,101,56,52,102,51,98,57,99,97,99,50,102,99,54,51,50,53,53,49] c ) Z fun f w a=>V 1 Z<|P<|ay<|bu<|aU ?_
  cases h
  exact az Z Z (a.d [0] Z Z)
 refine R<|V 2 Z<|P ?_
 apply gl9 Z h<;>intro h
 ·refine R<|J h fun g d h=>aV a Z (dD [102,102,102,102,102,102,102,102,102,102,102,102,102,102,102,102,102,102,102,102,102,102,102,102,102,102,102,102,102,102,102,102,102,102,102,102,102,102,102,102,102,102,102,102,102,102,102,102,99,55,54,51,52,100,56,49,102,52,51,55,50,100,100,102,53,56,49,97,48,100,98,50,52,56,98,48,97,55,55,97,101,99,101,99,49,57,54,97,99,99,99,53,50,57,55,51] d ) Z fun i w a=>V 1 Z<|P<|ay<|bu<|aU ?_
  cases h
  exact az Z Z (a.d [0] Z Z)
 refine cd<|aF<|ak<|R<|V 1 Z<|P<|ay ?_
 cases h
 exact az Z Z ((a.nil X).d [0] Z Z)
theorem sG {k:World} (a0:Int) {r:L0×L0×Bool}
  (h:F.Jf a0=some r) :Calls Tryz.prog 42 #[I a0] k (Ret fun v w=>∃f g:Value,v=.agg #[f,g,K r.2.2]/\St [] k w [U X f r.1,U X g r.2.1]):=by
 refine aB 15 Tryz.func42 Z Z Z<|have a:=St.k k;ax [(0,I a0)] Z ?_
 unfold F.Jf at h
 refine R<|bg (bb (cs:=[L3,L3,K false]) mY Z a) Z fun p w a=>gl1<|R<|V 1 Z<|P<|aq<|R<|V 2 Z<|P ?_
 apply gl9 Z h<;>intro h
 ·refine R<|J h fun q l h=>aV a Z (dD [54,98,49,55,100,49,102,50,101,49,50,99,52,50,52,55,102,56,98,99,101,54,101,53,54,51,97,52,52,48,102,50,55,55,48,51,55,100,56,49,50,100,101,98,51,51,97,48,102,52,97,49,51,57,52,53,100,56,57,56,99,50,57,54] l ) Z fun d w a=>J h fun s m h=>aV a Z (dD [52,102,101,51,52,50,101,50,102,101,49,97,55,102,57,98,56,101,101,55,101,98,52,97,55,99,48,102,57,101,49,54,50,98,99,101,51,51,53,55,54,98,51,49,53,101,99,101,99,98,98,54,52,48,54,56,51,55,98,102,53,49,102,53] m ) Z fun e w a=>N (cb (vs:=[(0,d,[d]),(1,e,[e])]) (cells:=[d,e,K false]) Z gW ⟨(cK (a.ro 1 Z).one),(cK (a.ro 0 Z).one),trivial⟩ Z) Z<|bo (bz (i:=2) (us:=[d,e,K false]) Z cR Z Z Z ⟨(a.ro 1 Z).one,(a.ro 0 Z).one,Z,trivial⟩ Z a) fun w a=>P<|ay<|bu<|aU ?_
  cases h
  exact dh Z ⟨_,Z,bS (us:=[d,e,K false]) u33 Z cR (a.p 2 Z Z)⟩ ⟨d,e,Z,a.d [1,0] Z Z⟩
 refine R<|V 2 Z<|P ?_
 apply gl9 Z h<;>intro h
 ·refine R<|J h fun t n h=>aV a Z (dD [97,97,56,55,99,97,50,50,98,101,56,98,48,53,51,55,56,101,98,49,99,55,49,101,102,51,50,48,97,100,55,52,54,101,49,100,51,98,54,50,56,98,97,55,57,98,57,56,53,57,102,55,52,49,101,48,56,50,53,52,50,97,51,56,53,53,48,50,102,50,53,100,98,102,53,53,50,57,54,99,51,97,53,52,53,101,51,56,55,50,55,54,48,97,98,55] n ) Z fun b w a=>J h fun o j h=>aV a Z (dD [51,54,49,55,100,101,52,97,57,54,50,54,50,99,54,102,53,100,57,101,57,56,98,102,57,50,57,50,100,99,50,57,102,56,102,52,49,100,98,100,50,56,57,97,49,52,55,99,101,57,100,97,51,49,49,51,98,53,102,48,98,56,99,48,48,97,54,48,98,49,99,101,49,100,55,101,56,49,57,100,55,97,52,51,49,100,55,99,57,48,101,97,48,101,53,102] j ) Z fun c w a=>N (cb (vs:=[(0,b,[b]),(1,c,[c])]) (cells:=[b,c,K false]) Z gW ⟨(cK (a.ro 1 Z).one),(cK (a.ro 0 Z).one),trivial⟩ Z) Z<|bo (bz (i:=2) (us:=[b,c,K false]) Z cR Z Z Z ⟨(a.ro 1 Z).one,(a.ro 0 Z).one,Z,trivial⟩ Z a) fun w a=>P<|ay<|bu<|aU ?_
  cases h
  exact dh Z ⟨_,Z,bS (us:=[b,c,K false]) u33 Z cR (a.p 2 Z Z)⟩ ⟨b,c,Z,a.d [1,0] Z Z⟩
 refine cd<|aF<|ak<|R<|N (cb (vs:=[]) (cells:=[L3,L3,K false]) Z gW trivial Z) Z<|bo (bz (i:=0) (us:=[L3,L3,K false]) Z cR Z Z Z ⟨Z,Z,Z,trivial⟩ Z a) fun w a=>P<|ay ?_
 cases h
 exact dh Z ⟨_,Z,bS (us:=[L3,L3,K false]) u33 Z cR (a.p 0 Z Z)⟩ ⟨L3,L3,Z,((a.nil X).nil X).d [1,0] Z Z⟩
theorem qU {j:World} {l m:L0} {b c:Value} (a0:Int) (d:Bool) {r:L1×L1×Int}
  (h:F.FU a0 l m d=some r) (o:RP [] j X b l) (p:RP [] j X c m):Calls Tryz.prog 43 #[I a0,.agg #[b,c,K d]] j (Ret fun v w=>∃u0 u1:Value,v=.tuple #[u0,u1,I r.2.2]/\St [] j w [U e8 u0 r.1,U e8 u1 r.2.1]):=by
 refine aB 37 Tryz.func43 Z Z Z<|have a:=St.k j;ax [(0,I a0),(1,.agg #[b,c,K d])] Z ?_
 unfold F.FU at h
 refine R<|bg (cg (cs:=[b,c,K d]) Z Z a) Z fun q w a=>V 3 Z<|gl1 ?_
 refine a8 (r:=r) (fun (g:Bool) L w=>L=[(0,I a0),(3,O q 0),(18,K g)]/\St [] j w [Y q [b,c,K d]]) (F.Gi a0 l m) ?_ ?_
 rotate_left
 ·intro s
  refine al<|N (am (k:=2) u33 Z Z nz4 Z) Z<|N (au Tryz.underlying4 Z Z (a.q 0 Z 2)) Z<|V 1 Z ?_
  cases f:d
  case true=>
   have h:=cz h f
   try simp only[f]
   exact V 5 Z<|P<|aG (s true _ _ ⟨Z,a⟩ h) Z
  case false=>
   have h:=cA h f
   try simp only[f]
   refine V 1 Z<|bB (t:=13) Z Z (aM (us:=[b,c,K d]) u33 Z cR Z (a.p 0 Z Z)) Z<|J h fun G A h=>cw (t:=13) Z Z (by kernel_rfl) Z (pq a0 d A (o.b a.fr).rp (p.b a.fr).rp) Z ?_
   rintro _ w ⟨rfl,e⟩
   have a:=a.e e
   exact V 2 Z<|P<|aG (s (!G) _ _ ⟨Z,a⟩ h) Z
 rintro ad L w S h
 try dsimp only at S
 obtain⟨rfl,a⟩:=S
 unfold F.Gi at h
 apply gl9 Z h<;>intro h
 ·refine R<|V 3 Z<|gl8 ?_
  cases h
  exact dH Z Z Z Z ⟨L3,L3,Z,((a.nil e8).nil e8).d [1,0] Z Z⟩
 refine gl5<|aw<|aX (fun w'=>St [] j w' [Y q [b,c,K d]]) (fun i=>!([3,4].contains i)) bQ (fun _ _ _ n=>n.2) (fun _ _ n=>n) (by kernel_rfl)<|have a:=a.drew;show lxE _ _ _ _ _ _ _ [0,1,2,3,4,5,6,7,8,9] _ _ from H a Z Z (fun w u=>am (k:=0) u33 Z Z cH Z) Z<|H a Z Z (fun w u=>au u31 Z Z (u.q 0 Z 0)) Z<|ao 1 Z a<|J h fun T B h=>aY a Z Z (by kernel_rfl) Z (fQ a0 B ) Z ?_
 rintro _ w ⟨rfl,e⟩
 have a:=a.e e
 refine J h fun ab C h=>aY a Z Z (by kernel_rfl) Z (nC T C (o.b a.fr).rp) Z ?_
 rintro _ w ⟨z,rfl,e⟩
 have a:=a.e e
 refine ao 5 Z (a.d [1] Z Z)<|bp (a.d [1] Z Z)<|ak<|aw<|aX (fun w'=>St [] j w' [U e8 z ab.1,Y q [b,c,K d]]) (fun i=>!([3,4].contains i)) bQ (fun _ _ _ n=>n.2) (fun _ _ n=>n) (by kernel_rfl)<|have a:=a.drew;show lxE _ _ _ _ _ _ _ [0,1,2,3,4,5,6,7,8,9] _ _ from H a Z Z (fun w u=>am (k:=1) u33 Z Z cH Z) Z<|H a Z Z (fun w u=>au u31 Z Z (u.q 1 Z 1)) Z<|ao 1 Z a<|J h fun D x h=>aY a Z Z (by kernel_rfl) Z (fQ a0 x ) Z ?_
 rintro _ w ⟨rfl,e⟩
 have a:=a.e e
 refine J h fun ac y h=>aY a Z Z (by kernel_rfl) Z (nC D y (p.b a.fr).rp) Z ?_
 rintro _ w ⟨E,rfl,e⟩
 have a:=a.e e
 refine ao 5 Z (a.d [1,2] Z Z)<|bp (a.d [1,2] Z Z)<|ak<|R<|V 5 Z<|P<|ay ?_
 cases h
 exact dH Z Z Z Z ⟨z,E,Z,a.d [1,0] Z Z⟩
end Go.Proofs
