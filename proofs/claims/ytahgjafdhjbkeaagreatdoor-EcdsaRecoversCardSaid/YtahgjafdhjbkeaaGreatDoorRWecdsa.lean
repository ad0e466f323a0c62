import Derived.Test.YtahgjafdhjbkeaaGreatDoorRW0
import Derived.Test.YtahgjafdhjbkeaaGreatDoorGkFman
import Derived.Test.YtahgjafdhjbkeaaGreatDoorRWcurved
import Derived.Test.YtahgjafdhjbkeaaGreatDoorRWmodn
import Derived.Test.YtahgjafdhjbkeaaGreatDoorRWnatb
import Derived.Test.YtahgjafdhjbkeaaGreatDoorRWshab
set_option linter.unusedVariables false
set_option linter.unusedSimpArgs false
set_option linter.unusedSectionVars false
set_option maxRecDepth 4000
namespace Go.Proofs
open Go Go.RowKit Go.Gk
open Go.Gk renaming aa -> V, af -> J, ag -> N, ai -> H, e32 -> X, gl3 -> P, gl4 -> R, own -> U, pB -> O, vB -> K, vI -> I
open Go.Gk.OE renaming bx -> Y
theorem k5 {c:World} {a0 a1:L0} {d e:Value} {r:Bool}
  (h:F.GU a0 a1=some r) (f:RP [] c X d a0) (j:RP [] c X e a1):Calls Tryz.prog 19 #[d,e] c (Ret fun v w=>v=K r/\St [] c w []):=by
 refine aB 14 Tryz.func19 Z Z Z<|have a:=St.k c;ax [(0,d),(1,e)] Z ?_
 unfold F.GU at h
 refine R<|V 1 Z<|gl2<|V 1 Z<|J h fun k g h=>bf a Z (gx  g (f.b a.fr).rp) Z fun w a=>V 2 Z ?_
 cases b:(decide ((0:Int)<k))
 case true=>
  have h:=cz h b
  try simp only[b]
  refine V 2 Z<|J h fun m i h=>cw (t:=8) Z Z (by kernel_rfl) Z (ic  i (f.b a.fr).rp (j.b a.fr).rp) Z ?_
  rintro _ w ⟨rfl,l⟩
  have a:=a.e l
  refine V 3 Z<|P<|ay ?_
  cases h
  exact az Z Z ⟨Z,a⟩
 case false=>
  have h:=cA h b
  try simp only[b]
  refine V 6 Z<|P<|ay ?_
  cases h
  exact az Z Z ⟨Z,a⟩
theorem q6 {c:World} {a2:L1} {b:Value} (a0 a1:Int) {r:L0}
  (h:F.Iu a0 a1 a2=some r) (k:TB [] c) (f:RP [] c e8 b a2):Calls Tryz.prog 22 #[I a0,I a1,b] c (Ret fun v w=>St [] c w [U X v r]):=by
 refine aB 20 Tryz.func22 Z Z Z<|have a:=St.k c;ax [(0,I a0),(1,I a1),(2,b)] Z ?_
 unfold F.Iu at h
 refine R<|V 1 Z<|gl2<|V 2 Z<|bC (cq (e:=eV) (l:=([SV.of b]:List SV)) (vs:=[b]) u127 Ca Z Z Z (eQ (f.b a.fr).sv Z) (by decide) (by decide) a) Z fun m w a=>J h fun n g h=>aV a Z (yo a0 g (k.b a.fr) (a.ro 0 Z).rp ⟨(f.b a.fr).svrp,trivial⟩) Z fun o w a=>V 1 Z<|gl2<|V 2 Z<|N (aC u24 Z (a.ro 0 Z)) Z<|V 1 Z<|J h fun p i h=>bf a Z (mP a1 i ) Z fun w a=>N (Bh Z Z) Z<|c7 h fun d h=>N (jH u24 ti5 Z Z (a.ro 0 Z) (gu d)) Z<|J h fun q j h=>aV a Z (kF  j ((a.ro 0 Z).tk d.2).rp) Z fun s w a=>V 1 Z<|P<|ay ?_
 cases h
 exact az Z Z (a.d [0] Z Z)
theorem ud {e:World} {f g a1 a2:L0} {b c i j:Value} (d:Bool) {r:Bool}
  (h:F.IX f g d a1 a2=some r) (l:RP [] e X b f) (q:RP [] e X c g) (o:RP [] e X i a1) (p:RP [] e X j a2):Calls Tryz.prog 24 #[.agg #[b,c,K d],i,j] e (Ret fun v w=>v=K r/\St [] e w []):=by
 refine aB 24 Tryz.func24 Z Z Z<|have a:=St.k e;ax [(0,.agg #[b,c,K d]),(1,i),(2,j)] Z ?_
 unfold F.IX at h
 refine R<|bg (cg (cs:=[b,c,K d]) Z Z a) Z fun s w a=>V 1 Z<|gl1<|R<|N (am (k:=2) u33 Z Z nz4 Z) Z<|N (au Tryz.underlying4 Z Z (a.q 0 Z 2)) Z<|P ?_
 apply gl9 Z h<;>intro h
 ·refine R<|V 1 Z<|gl8 ?_
  cases h
  exact az Z Z ⟨Z,a.d [] Z Z⟩
 refine gl6<|N (am (k:=0) u33 Z Z cH Z) Z<|N (au u31 Z Z (a.q 0 Z 0)) Z<|V 1 Z<|J h fun t m h=>bE a Z (nm  m (l.b a.fr).rp (p.b a.fr).rp) Z fun u x w a=>V 7 Z<|gl2<|V 2 Z<|J h fun y n h=>bf a Z (ic  n (a.ro 1 Z).rp (o.b a.fr).rp) Z fun w a=>V 2 Z<|P<|ay ?_
 cases h
 exact az Z Z ⟨Z,a.d [] Z Z⟩
theorem kE {f:World} {a2:L1} {a3 a4 n o:L0} {z A B c d:Value} (a0 a1:Int) (b:Bool) {r:L1×L1×Int}
  (h:F.GT a0 a1 a2 a3 a4 n o b=some r) (hT:TB [] f) (aK:RP [] f e8 z a2) (S:RP [] f X A a3) (ar:RP [] f X B a4) (p:RP [] f X c n) (q:RP [] f X d o):Calls Tryz.prog 10 #[I a0,I a1,z,A,B,.agg #[c,d,K b]] f (Ret fun v w=>∃u0 u1:Value,v=.tuple #[u0,u1,I r.2.2]/\St [] f w [U e8 u0 r.1,U e8 u1 r.2.1]):=by
 refine aB 105 Tryz.func10 Z Z Z<|have a:=St.k f;ax [(0,I a0),(1,I a1),(2,z),(3,A),(4,B),(5,.agg #[c,d,K b])] Z ?_
 unfold F.GT at h
 refine R<|bg (cg (cs:=[c,d,K b]) Z Z a) Z fun E w a=>V 3 Z<|gl1<|R<|V 1 Z<|J h fun a7 az h=>bf a Z (lS a0 az ) Z fun w a=>V 1 Z<|P ?_
 apply gl9 Z h<;>intro h
 ·refine R<|V 3 Z<|gl8 ?_
  cases h
  exact dH Z Z Z Z ⟨L3,L3,Z,((a.nil e8).nil e8).d [1,0] Z Z⟩
 refine gl5<|aw<|R<|V 1 Z<|J h fun a9 aA h=>bf a Z (mP a1 aA ) Z fun w a=>V 1 Z<|P ?_
 apply gl9 Z h<;>intro h
 ·refine R<|V 3 Z<|gl8 ?_
  cases h
  exact dH Z Z Z Z ⟨L3,L3,Z,((a.nil e8).nil e8).d [1,0] Z Z⟩
 refine gl5<|aw ?_
 refine a8 (r:=r) (fun (g:Bool) L w=>L=[(0,I a0),(1,I a1),(2,z),(3,A),(4,B),(11,O E 0),(36,K g)]/\St [] f w [Y E [c,d,K b]]) (F.II a1 a3 a4 n o b a0 a2) ?_ ?_
 rotate_left
 ·intro T
  refine al<|N (am (k:=2) u33 Z Z nz4 Z) Z<|N (au Tryz.underlying4 Z Z (a.q 0 Z 2)) Z<|V 1 Z ?_
  cases s:b
  case true=>
   have h:=cz h s
   try simp only[s]
   exact V 5 Z<|P<|aG (T true _ _ ⟨Z,a⟩ h) Z
  case false=>
   have h:=cA h s
   try simp only[s]
   refine V 1 Z<|bB (t:=31) Z Z (aM (us:=[c,d,K b]) u33 Z cR Z (a.p 0 Z Z)) Z<|J h fun aL aC h=>cw (t:=31) Z Z (by kernel_rfl) Z (wl a1 b aC (p.b a.fr).rp (q.b a.fr).rp) Z ?_
   rintro _ w ⟨rfl,C⟩
   have a:=a.e C
   exact V 2 Z<|P<|aG (T (!aL) _ _ ⟨Z,a⟩ h) Z
 rintro ba L w D h
 try dsimp only at D
 obtain⟨rfl,a⟩:=D
 unfold F.II at h
 apply gl9 Z h<;>intro h
 ·refine R<|V 3 Z<|gl8 ?_
  cases h
  exact dH Z Z Z Z ⟨L3,L3,Z,((a.nil e8).nil e8).d [1,0] Z Z⟩
 refine gl6<|V 1 Z<|J h fun av aD h=>aV a Z (rX a1 aD ) Z fun ab w a=>V 1 Z<|gl1 ?_
 refine a8 (r:=r) (fun (g:Bool) L w=>L=[(0,I a0),(1,I a1),(2,z),(3,A),(4,B),(11,O E 0),(15,ab),(55,K g)]/\St [] f w [Y E [c,d,K b],U X ab av]) (F.FY a0 a1 a2 a3 a4 n o b av) ?_ ?_
 rotate_left
 ·intro u
  refine al<|V 2 Z<|J h fun aE ad h=>bf a Z (k5  ad (S.b a.fr).rp (a.ro 0 Z).rp) Z fun w a=>V 2 Z ?_
  cases j:(!aE)
  case true=>
   have h:=cz h j
   try simp only[j]
   exact V 12 Z<|P<|aG (u true _ _ ⟨Z,(a.d [1,0] Z Z)⟩ h) Z
  case false=>
   have h:=cA h j
   try simp only[j]
   refine V 2 Z<|J h fun aF ae h=>cw (t:=43) Z Z (by kernel_rfl) Z (k5  ae (ar.b a.fr).rp (a.ro 0 Z).rp) Z ?_
   rintro _ w ⟨rfl,C⟩
   have a:=a.e C
   refine V 3 Z ?_
   cases l:(!aF)
   case true=>
    have h:=cz h l
    try simp only[l]
    exact V 6 Z<|P<|aG (u true _ _ ⟨Z,(a.d [1,0] Z Z)⟩ h) Z
   case false=>
    have h:=cA h l
    try simp only[l]
    refine bB (t:=49) Z Z (aM (us:=[c,d,K b]) u33 Z cR Z (a.p 1 Z Z)) Z<|V 2 Z<|J h fun aH ah h=>cw (t:=49) Z Z (by kernel_rfl) Z (ud b ah (p.b a.fr).rp (q.b a.fr).rp (S.b a.fr).rp (a.ro 0 Z).rp) Z ?_
    rintro _ w ⟨rfl,C⟩
    have a:=a.e C
    exact V 2 Z<|P<|aG (u (!aH) _ _ ⟨Z,(a.d [1,0] Z Z)⟩ h) Z
 rintro aO L w D h
 try dsimp only at D
 obtain⟨rfl,a⟩:=D
 unfold F.FY at h
 apply gl9 Z h<;>intro h
 ·refine R<|V 3 Z<|gl8 ?_
  cases h
  exact dH Z Z Z Z ⟨L3,L3,Z,((a.nil e8).nil e8).d [1,0] Z Z⟩
 refine gl6<|V 2 Z<|J h fun aP H h=>eI a Z (vU  H (S.b a.fr).rp (a.ro 1 Z).rp) Z fun aQ w a=>V 5 Z<|gl2<|V 3 Z<|J h fun aR aj h=>eI a Z (py  aj (ar.b a.fr).rp (a.ro 0 Z).rp (a.ro 2 Z).rp) Z fun aS w a=>V 5 Z<|gl2<|V 3 Z<|J h fun aT ak h=>aV a Z (q6 a0 a1 ak (hT.b a.fr) (aK.b a.fr).rp) Z fun aU w a=>V 2 Z<|J h fun aW an h=>eI a Z (py  an (a.ro 0 Z).rp (a.ro 2 Z).rp (a.ro 4 Z).rp) Z fun aX w a=>V 5 Z<|gl2<|V 2 Z<|J h fun aY ao h=>eI a Z (we  ao (RO.nil _ X).rp (a.ro 0 Z).rp (a.ro 5 Z).rp) Z fun aZ w a=>V 4 Z<|gl2<|V 3 Z<|N (aM (us:=[c,d,K b]) u33 Z cR Z (a.p 5 Z Z)) Z<|J h fun e ap h=>bE a Z (rR a1 b ap (a.ro 0 Z).rp (a.ro 3 Z).rp (p.b a.fr).rp (q.b a.fr).rp) Z fun x y w a=>V 3 Z<|bg (bb (cs:=[L3,L3,K false]) mY Z a) Z fun ac w a=>bo (bz (i:=0) (us:=[x,y,K e.2.2.1]) Z cR Z Z Z ⟨(a.ro 1 Z).one,(a.ro 2 Z).one,Z,trivial⟩ Z a) fun w a=>V 1 Z<|gl1 ?_
 refine a8 (r:=r) (fun (g:Bool) L w=>L=[(1,I a1),(22,O ac 0),(98,K g)]/\St [] f w [Y ac [x,y,K e.2.2.1],U X x e.1,U X y e.2.1]) (F.FM a1 e) ?_ ?_
 rotate_left
 ·intro G
  refine al<|V 3 Z ?_
  cases m:(e.2.2.2 != 0)
  case true=>
   have h:=cz h m
   try simp only[m]
   exact V 3 Z<|P<|aG (G true _ _ ⟨Z,(a.d [0,1,2] Z Z)⟩ h) Z
  case false=>
   have h:=cA h m
   try simp only[m]
   exact bB (t:=95) Z Z (am (k:=2) u33 Z Z nz4 Z) Z<|bB (t:=95) Z Z (au Tryz.underlying4 Z Z (a.q 0 Z 2)) Z<|V 1 Z<|P<|aG (G e.2.2.1 _ _ ⟨Z,(a.d [0,1,2] Z Z)⟩ h) Z
 rintro a5 L w D h
 try dsimp only at D
 obtain⟨rfl,a⟩:=D
 unfold F.FM at h
 apply gl9 Z h<;>intro h
 ·refine R<|V 3 Z<|gl8 ?_
  cases h
  exact dH Z Z Z Z ⟨L3,L3,Z,((a.nil e8).nil e8).d [1,0] Z Z⟩
 refine gl6<|V 1 Z<|N (aM (us:=[x,y,K e.2.2.1]) u33 Z cR Z (a.p 0 Z Z)) Z<|J h fun a6 aq h=>bE a Z (qX a1 e.2.2.1 aq (a.ro 1 Z).rp (a.ro 2 Z).rp) Z fun aI aJ w a=>V 6 Z<|P<|ay ?_
 cases h
 exact dH Z Z Z Z ⟨aI,aJ,Z,a.d [0,1] Z Z⟩
end Go.Proofs
