import Derived.Test.YtahgjafdhjbkeaaGreatDoorRW0
import Derived.Test.YtahgjafdhjbkeaaGreatDoorGkFman
set_option linter.unusedVariables false
set_option linter.unusedSimpArgs false
set_option linter.unusedSectionVars false
set_option maxRecDepth 4000
namespace Go.Proofs
open Go Go.RowKit Go.Gk
open Go.Gk renaming aa -> V, af -> J, ag -> N, ai -> H, e32 -> X, gl3 -> P, gl4 -> R, own -> U, vB -> K, vI -> I
theorem kV {e:World} {a0:L0} {a:Value} (a1:Int) {r:UInt64}
  (h:F.Gc a0 a1=some r) (b:RP [] e X a a0):Calls Tryz.prog 134 #[a,I a1] e (Ret fun v w=>v=v64 r/\St [] e w []):=by
 refine aB 14 Tryz.func134 Z Z Z<|have c:=St.k e;ax [(0,a),(1,I a1)] Z ?_
 unfold F.Gc at h
 refine R<|V 1 Z<|gl1<|R<|V 2 Z<|N (aC u31 Z (b.b c.fr)) Z<|V 1 Z<|P ?_
 apply gl9 Z h<;>intro h
 ·refine R<|V 1 Z<|gl8 ?_
  cases h
  exact az Z Z ⟨Z,c⟩
 refine gl6<|V 2 Z<|J h fun f d h=>N (bk u31 aN Z Z (b.b c.fr) d) Z<|N (a9 u38 Z Z (b.b c.fr) d Z) Z<|N (aD Z (bK u38 u119 f)) Z<|V 1 Z<|P<|ay ?_
 cases h
 exact az Z Z ⟨Z,c⟩
theorem md {e:World} {a0 a1:L0} {b c:Value} {r:Int}
  (h:F.Fv a0 a1=some r) (k:RP [] e X b a0) (f:RP [] e X c a1):Calls Tryz.prog 75 #[b,c] e (Ret fun v w=>v=I r/\St [] e w []):=by
 refine aB 35 Tryz.func75 Z Z Z<|have a:=St.k e;ax [(0,b),(1,c)] Z ?_
 unfold F.Fv at h
 refine R<|V 1 Z<|gl2<|V 1 Z<|N (aC u31 Z (k.b a.fr)) Z<|V 1 Z<|P ?_
 refine a8 (r:=r) (fun (g:Int) L w=>L=[(0,b),(1,c),(5,I g)]/\St [] e w []) (F.Iv a0 a1) ?_ ?_
 rotate_left
 ·intro i
  refine R<|V 1 Z<|N (aC u31 Z (f.b a.fr)) Z<|V 2 Z<|P ?_
  apply gl9 Z h<;>intro h
  ·exact al<|V 1 Z<|N (aC u31 Z (f.b a.fr)) Z<|V 1 Z<|P<|aG (i (a1.length:Int) _ _ ⟨Z,a⟩ h) Z
  exact gl5<|aG (i (a0.length:Int) _ _ ⟨Z,a⟩ h) Z
 rintro l L w t h
 try dsimp only at t
 obtain⟨rfl,a⟩:=t
 unfold F.Iv at h
 refine aw<|R<|V 3 Z<|P<|aq<|ax [(0,b),(1,c),(6,I (wI (l - 1)))] Z ?_
 refine aT (F.E1 a0 a1) (fun (s:Int) L w=>L=[(0,b),(1,c),(6,I s)]/\St [] e w []) ?_ (wI (l - 1)) ⟨Z,a⟩ h
 rintro x j L w y u o h d
 try dsimp only at u
 obtain⟨rfl,a⟩:=u
 unfold F.E1 at h
 refine aw<|R<|V 2 Z<|P ?_
 apply gl9 Z h<;>intro h
 ·refine gl5<|aw<|aq<|R<|V 2 Z<|J h fun m p h=>bf a Z (kV j p (k.b a.fr).rp) Z fun w a=>V 1 Z<|gl2<|V 2 Z<|J h fun n q h=>bf a Z (kV j q (f.b a.fr).rp) Z fun w a=>V 1 Z<|gl1<|R<|V 2 Z<|N (aj Z Z (ou _ m n)) Z<|P ?_
  apply gl9 Z h<;>intro h
  ·refine R<|V 1 Z<|gl8<|bu<|aU<|aU<|have h:=aI h d;bu<|aU ?_
   cases h
   exact az Z Z ⟨Z,a⟩
  refine gl6<|V 2 Z<|N (aj Z Z (jP _ m n)) Z<|P ?_
  apply gl9 Z h<;>intro h
  ·refine R<|V 1 Z<|P<|ay<|bu<|aU<|aU<|have h:=aI h d;bu<|aU ?_
   cases h
   exact az Z Z ⟨Z,a⟩
  exact cd<|aF<|ak<|al<|V 3 Z<|aE<|bd (bc (o (wI (j - 1)) _ _ ⟨Z,a⟩ (aK h d)) Z)
 refine aQ<|av<|av<|have h:=aI h d;aR<|ak<|R<|V 1 Z<|P<|ay ?_
 cases h
 exact az Z Z ⟨Z,a⟩
theorem mz {c:World} {a0:L0} {d:Value} (a1:Int) {r:UInt8}
  (h:F.GC a0 a1=some r) (j:RP [] c X d a0):Calls Tryz.prog 167 #[d,I a1] c (Ret fun v w=>v=v8 r/\St [] c w []):=by
 refine aB 22 Tryz.func167 Z Z Z<|have a:=St.k c;ax [(0,d),(1,I a1)] Z ?_
 unfold F.GC at h
 refine R<|V 1 Z<|gl2<|V 2 Z<|N (aj Z Z (dW _ a1 4 (by decide))) Z<|J h fun f g h=>bf a Z (kV (wI (Int.tdiv a1 4)) g (j.b a.fr).rp) Z fun w a=>V 1 Z<|gl1<|R<|V 1 Z<|P<|aq<|ax [(1,I a1),(5,v64 f),(6,I 0)] Z ?_
 refine aT (F.FR a1) (fun (s:UInt64×Int) L w=>L=[(1,I a1),(5,v64 s.1),(6,I s.2)]/\St [] c w []) ?_ (f,0) ⟨Z,a⟩ h
 rintro m ⟨b,k⟩ L w n l i h e
 try dsimp only at l
 obtain⟨rfl,a⟩:=l
 unfold F.FR at h
 refine aw<|R<|V 2 Z<|N (aj Z Z (fO _ a1 4 (by decide))) Z<|V 1 Z<|P ?_
 apply gl9 Z h<;>intro h
 ·exact gl5<|aw<|aq<|al<|V 1 Z<|N (aj Z Z (ii _ b 256 (by decide))) Z<|V 1 Z<|aE<|aF<|ak<|al<|V 3 Z<|aE<|bd (bc (i (b / 256,wI (k+1)) _ _ ⟨Z,a⟩ (aK h e)) Z)
 refine aQ<|av<|av<|have h:=aI h e;aR<|ak<|R<|V 1 Z<|N (aj Z Z (ft _ b 256 (by decide))) Z<|N (aD Z (jQ u119 Tryz.underlying5 (b%256))) Z<|V 1 Z<|P<|ay ?_
 cases h
 exact az Z Z ⟨Z,a⟩
theorem tG {f:World} {a0:L0} {b:Value} {r:L1}
  (h:F.H5 a0=some r) (m:RP [] f X b a0):Calls Tryz.prog 142 #[b] f (Ret fun v w=>St [] f w [U e8 v r]):=by
 refine aB 33 Tryz.func142 Z Z Z<|have a:=St.k f;ax [(0,b)] Z ?_
 unfold F.H5 at h
 refine R<|V 1 Z<|gl2<|V 1 Z<|N (aC u31 Z (m.b a.fr)) Z<|N (aj Z Z (el _ 4 (a0.length:Int))) Z<|aZ h fun n C h=>N (ba (v:=I n) (by rw[<-C]; rfl)) Z<|gl1<|aq<|ax [(0,b),(3,I n)] Z ?_
 refine aT (F.FD a0) (fun (s:Int) L w=>L=[(0,b),(3,I s)]/\St [] f w []) ?_ n ⟨Z,a⟩ h
 rintro ad c L w T o D h p
 try dsimp only at o
 obtain⟨rfl,a⟩:=o
 unfold F.FD at h
 refine aw ?_
 refine a8 (r:=T) (fun (g:Bool) L w=>L=[(0,b),(3,I c),(17,K g)]/\St [] f w []) (F.Gs c a0) ?_ ?_
 rotate_left
 ·intro q
  refine al<|V 3 Z ?_
  cases d:(decide ((0:Int)<c))
  case true=>
   have h:=cz h d
   try simp only[d]
   refine V 3 Z<|J h fun B E h=>cw (t:=11) Z Z (by kernel_rfl) Z (mz (wI (c - 1)) E (m.b a.fr).rp) Z ?_
   rintro _ w ⟨rfl,ab⟩
   have a:=a.e ab
   exact bB (t:=11) Z Z (aj Z Z (gp _ B 0)) Z<|V 1 Z<|P<|aG (q (B == 0) _ _ ⟨Z,a⟩ h) Z
  case false=>
   have h:=cA h d
   try simp only[d]
   exact V 6 Z<|P<|aG (q false _ _ ⟨Z,a⟩ h) Z
 rintro an L w hJ h
 try dsimp only at hJ
 obtain⟨rfl,a⟩:=hJ
 unfold F.Gs at h
 apply gl9 Z h<;>intro h
 ·exact gl5<|aq<|al<|V 3 Z<|aE<|aF<|bd (bc (D (wI (c - 1)) _ _ ⟨Z,a⟩ (aK h p)) Z)
 refine aQ<|av<|av<|have h:=aI h p;aR<|ak<|R<|V 1 Z<|gl1<|R<|V 3 Z<|P<|aq<|ax [(0,b),(4,.slice none 0 0),(5,I (wI (c - 1)))] Z ?_
 refine aT (F.EA a0) (fun (s:L1×Int) L w=>∃(j:Value),L=[(0,b),(4,j),(5,I s.2)]/\St [] f w [U e8 j s.1]) ?_ ([],wI (c - 1)) ⟨L3,Z,(a.nil e8)⟩ h
 rintro ae ⟨ah,u⟩ L w H o y h k
 try dsimp only at o
 obtain⟨j,rfl,a⟩:=o
 unfold F.EA at h
 refine aw<|R<|V 2 Z<|P ?_
 apply gl9 Z h<;>intro h
 ·exact gl5<|aw<|aq<|al<|V 3 Z<|J h fun x z h=>bf a Z (mz u z (m.b a.fr).rp) Z fun w a=>bC (cq (e:=e8) (l:=[x]) (vs:=[v8 x]) u24 ti5 Z Z Z Z (by decide) (by decide) a) Z fun am w a=>J h fun G A h=>bC (dN u24 ti5 Z Z Z a (i:=1) Z (a.ro 0 Z) A) Z fun S w a=>V 1 Z<|aE<|aF<|ak<|al<|V 3 Z<|aE<|bd (bc (y (G,wI (u - 1)) _ _ ⟨S,Z,(a.d [1] Z Z)⟩ (aK h k)) Z)
 refine aQ<|av<|av<|have h:=aI h k;aR<|ak<|R<|V 2 Z<|P<|ay ?_
 cases h
 exact az Z Z (a.d [0] Z Z)
theorem nC {f:World} {a0:L0} {j:Value} (a1:Int) {r:L1×Bool}
  (h:F.G0 a0 a1=some r) (q:RP [] f X j a0):Calls Tryz.prog 96 #[j,I a1] f (Ret fun v w=>∃u0:Value,v=.tuple #[u0,K r.2]/\St [] f w [U e8 u0 r.1]):=by
 refine aB 30 Tryz.func96 Z Z Z<|have a:=St.k f;ax [(0,j),(1,I a1)] Z ?_
 unfold F.G0 at h
 refine R<|V 2 Z<|gl2<|V 1 Z<|J h fun k n h=>aV a Z (tG  n (q.b a.fr).rp) Z fun m w a=>V 1 Z<|gl1 ?_
 refine a8 (r:=r) (fun (g:Bool) L w=>L=[(1,I a1),(6,m),(21,K g)]/\St [] f w [U e8 m k]) (F.Hr a1 k) ?_ ?_
 rotate_left
 ·intro d
  refine al<|V 3 Z ?_
  cases b:(decide (a1<0))
  case true=>
   have h:=cz h b
   try simp only[b]
   exact V 9 Z<|P<|aG (d true _ _ ⟨Z,a⟩ h) Z
  case false=>
   have h:=cA h b
   try simp only[b]
   refine V 4 Z ?_
   cases c:(decide ((16384:Int)<a1))
   case true=>
    have h:=cz h c
    try simp only[c]
    exact V 5 Z<|P<|aG (d true _ _ ⟨Z,a⟩ h) Z
   case false=>
    have h:=cA h c
    try simp only[c]
    exact V 1 Z<|bB (t:=16) Z Z (aC u24 Z (a.ro 0 Z)) Z<|V 3 Z<|P<|aG (d (decide (a1<(k.length:Int))) _ _ ⟨Z,a⟩ h) Z
 rintro x L w s h
 try dsimp only at s
 obtain⟨rfl,a⟩:=s
 unfold F.Hr at h
 apply gl9 Z h<;>intro h
 ·refine R<|V 2 Z<|gl8 ?_
  cases h
  exact bY Z Z Z ⟨L3,Z,(a.nil e8).d [0] Z Z⟩
 refine gl6<|V 2 Z<|N (aC u24 Z (a.ro 0 Z)) Z<|V 1 Z<|J h fun y o h=>bC (c9 (e:=e8) u24 ti5 Z Z Z a o) Z fun z w a=>V 1 Z<|gl2<|V 2 Z<|J h fun u l h=>bC (dN u24 ti5 Z Z Z a (i:=0) Z (a.ro 1 Z) l) Z fun p w a=>V 2 Z<|P<|ay ?_
 cases h
 exact bY Z Z Z ⟨p,Z,a.d [0] Z Z⟩
end Go.Proofs
