import Derived.Test.YtahgjafdhjbkeaaGreatDoorRW0
import Derived.Test.YtahgjafdhjbkeaaGreatDoorGkFman
set_option linter.unusedVariables false
set_option linter.unusedSimpArgs false
set_option linter.unusedSectionVars false
set_option maxRecDepth 4000
namespace Go.Proofs
open Go Go.RowKit Go.Gk
open Go.Gk renaming aa → V, af → J, ag → N, e32 → X, gl3 → Q, gl4 → R, own → U, red → P, vB → K, vI → H
open Nat renaming le_of_ble_eq_true → W
open Go.Gk.Rds renaming cons → M
theorem dg {f:World} {a0:List UInt32} {b:Value} {r:List UInt32}
  (h:F.C8 a0=some r) (d:RP [] f X b a0):Calls Tryz.prog 70 #[b] f (Ret fun v w=>St [] f w [U X v r]):=by
 refine aB 24 Tryz.func70 Z Z Z<|have a:=St.k f;ax [(0,b)] Z ?_
 unfold F.C8 at h
 refine R<|V 1 Z<|gl2<|V 1 Z<|N (aC u31 Z (d.b a.fr)) Z<|V 1 Z<|gl1<|ar<|ax [(0,b),(3,H (a0.length:Int))] Z ?_
 refine aT (F.Ir a0) (fun (s:Int) L w=>L=[(0,b),(3,H s)]∧St [] f w []) ?_ (a0.length:Int) ⟨Z,a⟩ h
 rintro x e L w p q o h i
 try dsimp only at q
 obtain ⟨rfl,a⟩:=q
 unfold F.Ir at h
 refine av ?_
 refine aZ (r:=p) (fun (g:Bool) L w=>L=[(0,b),(3,H e),(16,K g)]∧St [] f w []) (F.Iu a0 e) ?_ ?_
 rotate_left
 ·intro j
  refine al<|V 3 Z ?_
  cases c:(decide ((0:Int)<e))
  case true=>
   have h:=cH h c
   try simp only [c]
   exact V 3 Z<|J h fun n k h=>bE (t:=9) Z Z (bk u31 aN Z Z (d.b a.fr) k) Z<|bE (t:=9) Z Z (a8 u38 Z Z (d.b a.fr) k Z) Z<|bE (t:=9) Z Z (aj Z Z (jF _ n 0)) Z<|V 1 Z<|Q<|aH (j (n == 0) _ _ ⟨Z,a⟩ h) Z
  case false=>
   have h:=cI h c
   try simp only [c]
   exact V 7 Z<|Q<|aH (j false _ _ ⟨Z,a⟩ h) Z
 rintro A L w u h
 try dsimp only at u
 obtain ⟨rfl,a⟩:=u
 unfold F.Iu at h
 refine gl9 Z h (fun h=>?_) (fun h=>?_)
 ·exact gl5<|ar<|al<|V 3 Z<|aE<|aF<|bf (bd (o (wI (e - 1)) _ _ ⟨Z,a⟩ (aL h i)) Z)
 refine aQ<|au<|au<|have h:=aI h i;aR<|ak<|R<|V 1 Z<|gl2<|V 3 Z<|J h fun B l h=>N (jy u31 aN Z Z (d.b a.fr) l) Z<|J h fun y m h=>bG (jb u31 aN Z Z Z a ((d.g_slh l).b a.fr) m) Z fun z w a=>V 1 Z<|Q<|az ?_
 cases h
 exact ay Z Z (a.d [0] Z Z)
theorem lQ {a:World}  {r:List UInt32}
  (h:F.DR =some r) :Calls Tryz.prog 86 #[] a (Ret fun v w=>St [] a w [U X v r]):=by
 refine aB 2 Tryz.func86 Z Z Z<|have b:=St.k a;j1 [] I ?_
 unfold F.DR at h
 refine R<|V 1 Z<|gl2<|bG (cp (e:=X) (l:=([1]:List UInt32)) (vs:=[v32 1]) u31 aN Z Z Z Z (by decide) (by decide) b) Z fun c w b=>V 1 Z<|Q<|az ?_
 cases h
 exact ay Z Z (b.d [0] Z Z)
theorem d8 {e:World} {a0:List UInt32} {a:Value} (a1:Int) {r:UInt64}
  (h:F.Dg a0 a1=some r) (b:RP [] e X a a0):Calls Tryz.prog 137 #[a,H a1] e (Ret fun v w=>v=v64 r∧St [] e w []):=by
 refine aB 14 Tryz.func137 Z Z Z<|have c:=St.k e;ax [(0,a),(1,H a1)] Z ?_
 unfold F.Dg at h
 refine R<|V 1 Z<|gl1<|R<|V 2 Z<|N (aC u31 Z (b.b c.fr)) Z<|V 1 Z<|Q ?_
 refine gl9 Z h (fun h=>?_) (fun h=>?_)
 ·refine R<|V 1 Z<|gl8 ?_
  cases h
  exact ay Z Z ⟨Z,c⟩
 refine gl6<|V 2 Z<|J h fun f d h=>N (bk u31 aN Z Z (b.b c.fr) d) Z<|N (a8 u38 Z Z (b.b c.fr) d Z) Z<|N (aD Z (bD u38 u119 f)) Z<|V 1 Z<|Q<|az ?_
 cases h
 exact ay Z Z ⟨Z,c⟩
theorem fi {f:World} {a0 a1:List UInt32} {c d:Value} {r:Int}
  (h:F.Df a0 a1=some r) (g:RP [] f X c a0) (i:RP [] f X d a1):Calls Tryz.prog 82 #[c,d] f (Ret fun v w=>v=H r∧St [] f w []):=by
 refine aB 30 Tryz.func82 Z Z Z<|have a:=St.k f;ax [(0,c),(1,d)] Z ?_
 unfold F.Df at h
 refine R<|V 1 Z<|gl1<|R<|V 1 Z<|N (aC u31 Z (g.b a.fr)) Z<|V 1 Z<|N (aC u31 Z (i.b a.fr)) Z<|N (kR Z Z) Z<|V 1 Z<|a7 h fun j k h=>N (a9 (v:=H j) (by rw [←k]; rfl)) Z<|Q<|ar<|ax [(0,c),(1,d),(5,H j)] Z ?_
 refine aT (F.EK a0 a1) (fun (s:Int) L w=>L=[(0,c),(1,d),(5,H s)]∧St [] f w []) ?_ j ⟨Z,a⟩ h
 rintro z e L w A q l h b
 try dsimp only at q
 obtain ⟨rfl,a⟩:=q
 unfold F.EK at h
 refine av<|R<|V 2 Z<|Q ?_
 refine gl9 Z h (fun h=>?_) (fun h=>?_)
 ·refine gl5<|av<|ar<|av<|R<|V 2 Z<|J h fun t m h=>bc a Z (d8 e m (g.b a.fr).rp) Z fun w a=>V 2 Z<|J h fun u n h=>bc a Z (d8 e n (i.b a.fr).rp) Z fun w a=>N (aj Z Z (n8 _ t u)) Z<|Q ?_
  refine gl9 Z h (fun h=>?_) (fun h=>?_)
  ·refine R<|V 1 Z<|gl8<|bA<|aW<|aW<|have h:=aI h b;bA<|aW ?_
   cases h
   exact ay Z Z ⟨Z,a⟩
  refine gl6<|V 2 Z<|J h fun x o h=>bc a Z (d8 e o (g.b a.fr).rp) Z fun w a=>V 2 Z<|J h fun y p h=>bc a Z (d8 e p (i.b a.fr).rp) Z fun w a=>N (aj Z Z (jJ _ x y)) Z<|Q ?_
  refine gl9 Z h (fun h=>?_) (fun h=>?_)
  ·refine R<|V 1 Z<|Q<|az<|bA<|aW<|aW<|have h:=aI h b;bA<|aW ?_
   cases h
   exact ay Z Z ⟨Z,a⟩
  exact cd<|aF<|ak<|al<|V 3 Z<|aE<|bf (bd (l (wI (e - 1)) _ _ ⟨Z,a⟩ (aL h b)) Z)
 refine aQ<|au<|au<|have h:=aI h b;aR<|ak<|R<|V 1 Z<|Q<|az ?_
 cases h
 exact ay Z Z ⟨Z,a⟩
theorem ik {d:World} {a0:List UInt32} {a1:List (List UInt32)} {b c:Value} {s1:List SV} {r:Int}
  (h:F.DB a0 a1=some r) (m:RP [] d X b a0) (g:RP [] d eV c s1) (hl1:gL [] d X s1 a1):Calls Tryz.prog 84 #[b,c] d (Ret fun v w=>v=H r∧St [] d w []):=by
 refine aB 27 Tryz.func84 Z Z Z<|have a:=St.k d;ax [(0,b),(1,c)] Z ?_
 unfold F.DB at h
 refine R<|V 1 Z<|gl1<|R<|V 1 Z<|Q<|ar<|ax [(0,b),(1,c),(5,H 0)] Z ?_
 refine aT (F.Dh a0 a1) (fun (s:Int) L w=>L=[(0,b),(1,c),(5,H s)]∧St [] d w []) ?_ 0 ⟨Z,a⟩ h
 rintro u q L w D t n h e
 try dsimp only at t
 obtain ⟨rfl,a⟩:=t
 unfold F.Dh at h
 refine av<|R<|V 2 Z<|N (rA u98 Z (g.b a.fr) hl1.len) Z<|V 1 Z<|Q ?_
 refine gl9 Z h (fun h=>?_) (fun h=>?_)
 ·refine gl5<|av<|ar<|R<|V 2 Z<|J h fun E o h=>?_
  obtain ⟨x,f,i⟩:=hl1.get o
  refine N (bk u98 lH Z Z (g.b a.fr) f) Z<|N (a8 u31 Z Z (g.b a.fr) f Z) Z<|J h fun G p h=>aU a Z (dg  p (i.b a.fr).rp) Z fun S w a=>N (aC u31 Z (a.ro 0 Z)) Z<|V 1 Z<|Q ?_
  refine gl9 Z h (fun h=>?_) (fun h=>?_)
  ·refine R<|V 1 Z<|Q<|az<|bA<|aW<|aW<|have h:=aI h e;bA<|aW ?_
   cases h
   exact ay Z Z ⟨Z,a.d [] Z Z⟩
  exact cd<|aF<|ak<|al<|V 3 Z<|aE<|bf (bd (n (wI (q+1)) _ _ ⟨Z,(a.d [] Z Z)⟩ (aL h e)) Z)
 refine aQ<|au<|au<|have h:=aI h e;aR<|ak<|av<|R<|V 1 Z<|J h fun y j h=>aU a Z (dg  j (m.b a.fr).rp) Z fun z w a=>N (aC u31 Z (a.ro 0 Z)) Z<|V 1 Z<|Q ?_
 refine gl9 Z h (fun h=>?_) (fun h=>?_)
 ·refine R<|V 1 Z<|gl8 ?_
  cases h
  exact ay Z Z ⟨Z,a.d [] Z Z⟩
 refine gl5<|av<|R<|V 1 Z<|J h fun A k h=>aU a Z (lQ  k ) Z fun B w a=>J h fun C l h=>bc a Z (fi  l (m.b a.fr).rp (a.ro 0 Z).rp) Z fun w a=>V 1 Z<|Q ?_
 refine gl9 Z h (fun h=>?_) (fun h=>?_)
 ·refine R<|V 1 Z<|gl8 ?_
  cases h
  exact ay Z Z ⟨Z,a.d [] Z Z⟩
 refine gl6<|V 1 Z<|Q<|az ?_
 cases h
 exact ay Z Z ⟨Z,a.d [] Z Z⟩
theorem gk {l:World} {a0 a1:List UInt32} {d f:Value} {r:List UInt32}
  (h:F.DN a0 a1=some r) (o:RP [] l X d a0) (m:RP [] l X f a1):Calls Tryz.prog 89 #[d,f] l (Ret fun v w=>St [] l w [U X v r]):=by
 refine aB 69 Tryz.func89 Z Z Z<|have a:=St.k l;ax [(0,d),(1,f)] Z ?_
 unfold F.DN at h
 refine R<|V 1 Z<|gl2<|V 1 Z<|N (aC u31 Z (o.b a.fr)) Z<|V 1 Z<|N (aC u31 Z (m.b a.fr)) Z<|V 1 Z<|J h fun aq ac h=>bG (dw (e:=X) u31 aN Z Z Z a ac) Z fun g w a=>V 1 Z<|gl1<|R<|V 1 Z<|Q<|ar<|ax [(0,d),(1,f),(5,g),(6,H 0)] Z ?_
 refine aT (F.FB a0 a1) (fun (s:Int×List UInt32) L w=>L=[(0,d),(1,f),(5,g),(6,H s.1)]∧St [] l w [U X g s.2]) ?_ (0,aq) ⟨Z,a⟩ h
 rintro aA ⟨p,aw⟩ L w aS B ad h C
 try dsimp only at B
 obtain ⟨rfl,a⟩:=B
 unfold F.FB at h
 refine av<|R<|V 2 Z<|N (aC u31 Z (o.b a.fr)) Z<|V 1 Z<|Q ?_
 refine gl9 Z h (fun h=>?_) (fun h=>?_)
 ·refine gl5<|av<|ar<|R<|V 1 Z<|gl1<|R<|V 1 Z<|Q<|ar<|ax [(0,d),(1,f),(5,g),(6,H p),(7,v64 0),(8,H 0)] Z ?_
  refine aT (F.EV a0 a1 p) (fun (s:UInt64×Int×List UInt32) L w=>L=[(0,d),(1,f),(5,g),(6,H p),(7,v64 s.1),(8,H s.2.1)]∧St [] l w [U X g s.2.2]) ?_ (0,0,aw) ⟨Z,a⟩ h
  rintro aG ⟨D,ae,ah⟩ L w aH B E h q
  try dsimp only at B
  obtain ⟨rfl,a⟩:=B
  unfold F.EV at h
  refine av<|R<|V 2 Z<|N (aC u31 Z (m.b a.fr)) Z<|V 1 Z<|Q ?_
  refine gl9 Z h (fun h=>?_) (fun h=>?_)
  ·refine gl5<|av<|ar<|av<|aX (fun w'=>St [] l w' [U X g ah]) (fun _=>true) bR (fun _ _ _ hf=>hf.2) (fun _ _ hf=>hf) (by kernel_rfl)<|have a:=a.drew;show lxE _ _ _ _ _ _ _ [0,1,2,3,4,5,6,7,8,9,10,11,12,13,14,15,16,17,18,19,20,21] _ _ from an 4 Z a<|J h fun n u h=>ai a Z Z (fun w b=>bk u31 aN Z Z (b.ro 0 Z) u) Z<|ai a Z Z (fun w b=>a8 u38 Z Z (b.ro 0 Z) u Z) Z<|ai a Z Z (fun w b=>aD Z (bD u38 u119 n)) Z<|an 2 Z a<|J h fun j x h=>ai a Z Z (fun w b=>bk u31 aN Z Z (o.b b.fr) x) Z<|ai a Z Z (fun w b=>a8 u38 Z Z (o.b b.fr) x Z) Z<|ai a Z Z (fun w b=>aD Z (bD u38 u119 j)) Z<|an 2 Z a<|J h fun k y h=>ai a Z Z (fun w b=>bk u31 aN Z Z (m.b b.fr) y) Z<|ai a Z Z (fun w b=>a8 u38 Z Z (m.b b.fr) y Z) Z<|ai a Z Z (fun w b=>aD Z (bD u38 u119 k)) Z<|ai a Z Z (fun w b=>aj Z Z (gx _ j.toUInt64 k.toUInt64)) Z<|ai a Z Z (fun w b=>aj Z Z (bU _ n.toUInt64 (j.toUInt64*k.toUInt64))) Z<|an 1 Z a<|ai a Z Z (fun w b=>aj Z Z (bU _ (n.toUInt64+(j.toUInt64*k.toUInt64)) D)) Z ?_
   refine a7 h fun c G h=>ai a Z Z (fun w b=>a9 (v:=v64 c) (by rw [←G]; rfl)) Z<|bn a<|ak<|R<|V 5 Z<|N (aj Z Z (ej _ c 4294967295)) Z<|N (aD Z (ca u119 u38 (c &&& 4294967295))) Z<|J h fun aJ z h=>N (bk u31 aN Z Z (a.ro 0 Z) z) Z<|bl (bZ (t:=((c &&& 4294967295).toUInt32)) aN Z Z a (i:=0) Z z Z) fun w a=>a7 h fun ao S h=>?_
   rw [S]at a
   exact Q<|al<|V 1 Z<|N (aj Z Z (cc _ c 32)) Z<|V 1 Z<|aE<|aF<|ak<|al<|V 3 Z<|aE<|bf (bd (E (aM c 32,wI (ae+1),ao) _ _ ⟨Z,a⟩ (aL h q)) Z)
  refine aQ<|au<|au<|have h:=aI h q;aR<|ak<|al<|V 3 Z<|N (aC u31 Z (m.b a.fr)) Z<|V 2 Z<|N (aD Z (ca u119 u38 D)) Z<|J h fun aK A h=>N (bk u31 aN Z Z (a.ro 0 Z) A) Z<|bl (bZ (t:=D.toUInt32) aN Z Z a (i:=0) Z A Z) fun w a=>a7 h fun ap T h=>?_
  rw [T]at a
  exact aE<|aF<|ak<|al<|V 3 Z<|aE<|bf (bd (ad (wI (p+1),ap) _ _ ⟨Z,a⟩ (aL h C)) Z)
 refine aQ<|au<|au<|have h:=aI h C;aR<|ak<|R<|V 1 Z<|J h fun aO ab h=>aU a Z (dg  ab (a.ro 0 Z).rp) Z fun aP w a=>V 1 Z<|Q<|az ?_
 cases h
 exact ay Z Z (a.d [0] Z Z)
theorem jB {c:World} {a0:List UInt32} {a:Value} (a1:Int) {r:Bool}
  (h:F.Eh a0 a1=some r) (f:RP [] c X a a0):Calls Tryz.prog 94 #[a,H a1] c (Ret fun v w=>v=K r∧St [] c w []):=by
 refine aB 15 Tryz.func94 Z Z Z<|have d:=St.k c;ax [(0,a),(1,H a1)] Z ?_
 unfold F.Eh at h
 refine R<|V 1 Z<|gl2<|V 2 Z<|N (aj Z Z (dV _ a1 32 (by decide))) Z<|J h fun b e h=>bc d Z (d8 (wI (Int.tdiv a1 32)) e (f.b d.fr).rp) Z fun w d=>V 1 Z<|N (aj Z Z (fW _ a1 32 (by decide))) Z<|N (aD Z (dy u3 u87 (Int.tmod a1 32))) Z<|N (aj Z Z (cc _ b (UInt64.ofInt (Int.tmod a1 32)))) Z<|N (aj Z Z (ej _ (aM b ((UInt64.ofInt (Int.tmod a1 32)).toNat)) 1)) Z<|N (aj Z Z (qb _ ((aM b ((UInt64.ofInt (Int.tmod a1 32)).toNat)) &&& 1) 1)) Z<|V 1 Z<|Q<|az ?_
 cases h
 exact ay Z Z ⟨Z,d⟩
theorem gI {p:World} {a0 a1:List UInt32} {ap aq:Value} {r:List UInt32×List UInt32}
  (h:F.Ea a0 a1=some r) (bw:RP [] p X ap a0) (bx:RP [] p X aq a1):Calls Tryz.prog 83 #[ap,aq] p (Ret fun v w=>∃u0 u1:Value,v=.tuple #[u0,u1]∧St [] p w [U X u0 r.1,U X u1 r.2]):=by
 refine aB 110 Tryz.func83 Z Z Z<|have a:=St.k p;ax [(0,ap),(1,aq)] Z ?_
 unfold F.Ea at h
 refine R<|V 2 Z<|gl2<|V 1 Z<|J h fun o be h=>aU a Z (dg  be (bw.b a.fr).rp) Z fun d w a=>V 1 Z<|gl2<|V 1 Z<|J h fun l bg h=>aU a Z (dg  bg (bx.b a.fr).rp) Z fun f w a=>V 1 Z<|gl2<|V 1 Z<|N (aC u31 Z (a.ro 1 Z)) Z<|J h fun bz bh h=>bG (dw (e:=X) u31 aN Z Z Z a bh) Z fun j w a=>V 1 Z<|gl2<|V 1 Z<|N (aC u31 Z (a.ro 1 Z)) Z<|V 1 Z<|J h fun bi aO h=>bG (dw (e:=X) u31 aN Z Z Z a aO) Z fun c w a=>V 1 Z<|gl1<|R<|V 1 Z<|N (aC u31 Z (a.ro 3 Z)) Z<|N (aj Z Z (dR _ 32 (o.length:Int))) Z<|V 1 Z<|a7 h fun z aP h=>N (a9 (v:=H z) (by rw [←aP]; rfl)) Z<|Q<|ar<|ax [(0,d),(1,f),(6,j),(7,c),(8,H z)] Z ?_
 refine aT (F.EA o l) (fun (s:Int×List UInt32×List UInt32) L w=>L=[(0,d),(1,f),(6,j),(7,c),(8,H s.1)]∧St [] p w [U X d o,U X f l,U X j s.2.1,U X c s.2.2]) ?_ (z,bz,bi) ⟨Z,(a.d [3,2,1,0] Z Z)⟩ h
 rintro bA ⟨b,k,A⟩ L w aw x aS h E
 try dsimp only at x
 obtain ⟨rfl,a⟩:=x
 unfold F.EA at h
 refine av<|R<|V 2 Z<|Q ?_
 refine gl9 Z h (fun h=>?_) (fun h=>?_)
 ·refine gl5 ?_
  refine aZ (r:=aw) (fun (g:List UInt32×List UInt32) L w=>L=[(0,d),(1,f),(6,j),(7,c),(8,H b)]∧St [] p w [U X d o,U X f l,U X j g.1,U X c g.2]) (F.D4 b) ?_ ?_
  rotate_left
  ·intro G
   refine ar<|R<|V 1 Z<|Q ?_
   refine aZ (r:=aw) (fun (g:UInt32) L w=>L=[(0,d),(1,f),(6,j),(7,c),(8,H b),(9,v32 g)]∧St [] p w [U X d o,U X f l,U X j k,U X c A]) (F.F1 A l k b) ?_ ?_
   rotate_left
   ·intro S
    refine R<|V 2 Z<|J h fun bB aV h=>bc a Z (jB b aV (a.ro 0 Z).rp) Z fun w a=>Q ?_
    refine gl9 Z h (fun h=>?_) (fun h=>?_)
    ·exact al<|V 1 Z<|Q<|aH (S 1 _ _ ⟨Z,a⟩ h) Z
    exact gl5<|aH (S 0 _ _ ⟨Z,a⟩ h) Z
   rintro ay L w y h
   try dsimp only at y
   obtain ⟨rfl,a⟩:=y
   unfold F.F1 at h
   refine av<|R<|V 1 Z<|Q<|ar<|ax [(0,d),(1,f),(6,j),(7,c),(8,H b),(9,v32 ay),(10,H 0)] Z ?_
   refine aT (F.Gm l k b) (fun (s:UInt32×Int×List UInt32) L w=>L=[(0,d),(1,f),(6,j),(7,c),(8,H b),(9,v32 s.1),(10,H s.2.1)]∧St [] p w [U X d o,U X f l,U X j k,U X c s.2.2]) ?_ (ay,0,A) ⟨Z,a⟩ h
   rintro bC ⟨aA,bj,aG⟩ L w bE x aW h T
   try dsimp only at x
   obtain ⟨rfl,a⟩:=x
   unfold F.Gm at h
   refine av<|R<|V 2 Z<|N (aC u31 Z (a.ro 3 Z)) Z<|V 1 Z<|Q ?_
   refine gl9 Z h (fun h=>?_) (fun h=>?_)
   ·refine gl5<|av<|ar<|R<|V 2 Z<|J h fun aJ ab h=>N (bk u31 aN Z Z (a.ro 3 Z) ab) Z<|N (a8 u38 Z Z (a.ro 3 Z) ab Z) Z<|N (aj Z Z (cL _ aJ 31)) Z<|V 1 Z<|gl2<|V 4 Z<|J h fun B ac h=>N (bk u31 aN Z Z (a.ro 3 Z) ac) Z<|N (a8 u38 Z Z (a.ro 3 Z) ac Z) Z<|N (aj Z Z (d9 _ B 1)) Z<|V 1 Z<|N (aj Z Z (eo _ (bN B 1) aA)) Z<|J h fun bF ad h=>N (bk u31 aN Z Z (a.ro 3 Z) ad) Z<|bl (bZ (t:=((bN B 1) ||| aA)) aN Z Z a (i:=3) Z ad Z) fun w a=>a7 h fun bm aX h=>?_
    rw [aX]at a
    exact Q<|al<|V 2 Z<|aE<|aF<|ak<|al<|V 3 Z<|aE<|bf (bd (aW (bu aJ 31,wI (bj+1),bm) _ _ ⟨Z,a⟩ (aL h T)) Z)
   refine aQ<|au<|au<|have h:=aI h T;aR<|ak<|R<|V 2 Z<|J h fun bH aY h=>bc a Z (fi  aY (a.ro 3 Z).rp (a.ro 1 Z).rp) Z fun w a=>V 1 Z<|Q ?_
   refine gl9 Z h (fun h=>?_) (fun h=>?_)
   ·refine R<|V 1 Z<|gl1<|R<|V 1 Z<|Q<|ar<|ax [(0,d),(1,f),(6,j),(7,c),(8,H b),(12,v64 0),(13,H 0)] Z ?_
    refine aT (F.DT l b k) (fun (s:UInt64×Int×List UInt32) L w=>L=[(0,d),(1,f),(6,j),(7,c),(8,H b),(12,v64 s.1),(13,H s.2.1)]∧St [] p w [U X d o,U X f l,U X j k,U X c s.2.2]) ?_ (0,0,aG) ⟨Z,a⟩ h
    rintro bI ⟨m,q,C⟩ L w bn x a2 h ae
    try dsimp only at x
    obtain ⟨rfl,a⟩:=x
    unfold F.DT at h
    refine av<|R<|V 2 Z<|N (aC u31 Z (a.ro 3 Z)) Z<|V 1 Z<|Q ?_
    refine gl9 Z h (fun h=>?_) (fun h=>?_)
    ·refine gl5<|av<|ar<|R<|V 2 Z<|J h fun n a3 h=>bc a Z (d8 q a3 (a.ro 1 Z).rp) Z fun w a=>V 1 Z<|N (aj Z Z (bU _ n m)) Z<|V 1 Z<|gl2<|V 2 Z<|J h fun u ah h=>N (bk u31 aN Z Z (a.ro 3 Z) ah) Z<|N (a8 u38 Z Z (a.ro 3 Z) ah Z) Z<|N (aD Z (bD u38 u119 u)) Z<|V 1 Z<|gl2<|V 1 Z<|Q ?_
     refine aZ (r:=bn) (fun (g:UInt64×UInt64) L w=>L=[(0,d),(1,f),(6,j),(7,c),(8,H b),(12,v64 g.1),(13,H q),(14,v64 (n+m)),(15,v64 g.2)]∧St [] p w [U X d o,U X f l,U X j k,U X c C]) (F.Gz m q C n) ?_ ?_
     rotate_left
     ·intro ai
      refine R<|V 2 Z<|N (aj Z Z (n8 _ u.toUInt64 (n+m))) Z<|Q ?_
      refine gl9 Z h (fun h=>?_) (fun h=>?_)
      ·exact R<|V 1 Z<|N (aj Z Z (bU _ u.toUInt64 4294967296)) Z<|a7 h fun aK a4 h=>N (a9 (v:=v64 aK) (by rw [←a4]; rfl)) Z<|Q<|al<|V 1 Z<|Q<|aH (ai (1,aK) _ _ ⟨Z,a⟩ h) Z
      exact gl5<|aH (ai (0,u.toUInt64) _ _ ⟨Z,a⟩ h) Z
     rintro ⟨bo,D⟩ L w y h
     try dsimp only at y
     obtain ⟨rfl,a⟩:=y
     unfold F.Gz at h
     refine al<|V 4 Z<|N (aj Z Z (eA _ D (n+m))) Z<|N (aD Z (ca u119 u38 (D - (n+m)))) Z<|J h fun bJ am h=>N (bk u31 aN Z Z (a.ro 3 Z) am) Z<|bl (bZ (t:=((D - (n+m)).toUInt32)) aN Z Z a (i:=3) Z am Z) fun w a=>a7 h fun bp a5 h=>?_
     rw [a5]at a
     exact aE<|aF<|ak<|al<|V 3 Z<|aE<|bf (bd (a2 (bo,wI (q+1),bp) _ _ ⟨Z,a⟩ (aL h ae)) Z)
    refine aQ<|au<|au<|have h:=aI h ae;aR<|ak<|al<|V 2 Z<|N (aj Z Z (dV _ b 32 (by decide))) Z<|V 2 Z<|N (aj Z Z (dV _ b 32 (by decide))) Z<|J h fun aM an h=>N (bk u31 aN Z Z (a.ro 2 Z) an) Z<|N (a8 u38 Z Z (a.ro 2 Z) an Z) Z<|V 1 Z<|N (aj Z Z (fW _ b 32 (by decide))) Z<|N (aD Z (dy u3 u87 (Int.tmod b 32))) Z<|N (aj Z Z (d9 _ 1 (UInt64.ofInt (Int.tmod b 32)))) Z<|N (aj Z Z (eo _ aM (bN 1 ((UInt64.ofInt (Int.tmod b 32)).toNat)))) Z<|J h fun bK ao h=>N (bk u31 aN Z Z (a.ro 2 Z) ao) Z<|bl (bZ (t:=(aM ||| (bN 1 ((UInt64.ofInt (Int.tmod b 32)).toNat)))) aN Z Z a (i:=2) Z ao Z) fun w a=>a7 h fun bq a6 h=>?_
    rw [a6]at a
    exact aE<|aF<|ak<|aH (G (bq,C) _ _ ⟨Z,a⟩ h) Z
   exact cd<|aF<|ak<|aH (G (k,aG) _ _ ⟨Z,a⟩ h) Z
  rintro ⟨br,bs⟩ L w y h
  try dsimp only at y
  obtain ⟨rfl,a⟩:=y
  unfold F.D4 at h
  exact al<|V 3 Z<|aE<|bf (bd (aS (wI (b - 1),br,bs) _ _ ⟨Z,a⟩ (aL h E)) Z)
 refine aQ<|au<|au<|have h:=aI h E;aR<|ak<|R<|V 1 Z<|J h fun bL ba h=>aU a Z (dg  ba (a.ro 2 Z).rp) Z fun bt w a=>V 1 Z<|J h fun bM bb h=>aU a Z (dg  bb (a.ro 4 Z).rp) Z fun bv w a=>V 2 Z<|Q<|az ?_
 cases h
 exact cf Z Z Z ⟨bt,bv,Z,a.d [1,0] Z Z⟩
theorem ew {a:World} {a0 a1:List UInt32} {b c:Value} {r:List UInt32}
  (h:F.Di a0 a1=some r) (f:RP [] a X b a0) (g:RP [] a X c a1):Calls Tryz.prog 85 #[b,c] a (Ret fun v w=>St [] a w [U X v r]):=by
 refine aB 14 Tryz.func85 Z Z Z<|have d:=St.k a;ax [(0,b),(1,c)] Z ?_
 unfold F.Di at h
 refine R<|V 1 Z<|gl2<|V 2 Z<|J h fun i e h=>bH d Z (gI  e (f.b d.fr).rp (g.b d.fr).rp) Z fun j k w d=>V 5 Z<|gl2<|V 2 Z<|Q<|az ?_
 cases h
 exact ay Z Z (d.d [1] Z Z)
theorem lg {d:World} {a0 a1 a2:List UInt32} {b c f:Value} {r:List UInt32×Int}
  (h:F.DG a0 a1 a2=some r) (g:RP [] d X b a0) (i:RP [] d X c a1) (j:RP [] d X f a2):Calls Tryz.prog 39 #[b,c,f] d (Ret fun v w=>∃u0:Value,v=.tuple #[u0,H r.2]∧St [] d w [U X u0 r.1]):=by
 refine aB 22 Tryz.func39 Z Z Z<|have a:=St.k d;ax [(0,b),(1,c),(2,f)] Z ?_
 unfold F.DG at h
 refine R<|V 2 Z<|gl2<|V 3 Z<|bG (cp (e:=eV) (l:=([SV.of b,SV.of c]:List SV)) (vs:=[b,c]) u98 lH Z Z Z (fH (g.b a.fr).sv (fH (i.b a.fr).sv Z)) (by decide) (by decide) a) Z fun p w a=>J h fun q k h=>bc a Z (ik  k (j.b a.fr).rp (a.ro 0 Z).rp ⟨(g.b a.fr).svrp,(i.b a.fr).svrp,I⟩) Z fun w a=>V 1 Z<|gl1<|R<|V 2 Z<|Q ?_
 refine gl9 Z h (fun h=>?_) (fun h=>?_)
 ·refine R<|V 3 Z<|gl8 ?_
  cases h
  exact cf Z Z Z ⟨.slice none 0 0,Z,(a.nil X).d [0] Z Z⟩
 refine gl6<|V 2 Z<|J h fun s m h=>aU a Z (gk  m (g.b a.fr).rp (i.b a.fr).rp) Z fun t w a=>V 1 Z<|J h fun u n h=>aU a Z (ew  n (a.ro 0 Z).rp (j.b a.fr).rp) Z fun o w a=>V 2 Z<|Q<|az ?_
 cases h
 exact cf Z Z Z ⟨o,Z,a.d [0] Z Z⟩
theorem gG {j:World} {a0 a1:List UInt32} {f g:Value} {r:List UInt32}
  (h:F.DJ a0 a1=some r) (x:RP [] j X f a0) (y:RP [] j X g a1):Calls Tryz.prog 88 #[f,g] j (Ret fun v w=>St [] j w [U X v r]):=by
 refine aB 37 Tryz.func88 Z Z Z<|have a:=St.k j;ax [(0,f),(1,g)] Z ?_
 unfold F.DJ at h
 refine R<|V 1 Z<|gl2<|V 1 Z<|gl2<|V 1 Z<|gl1<|R<|V 1 Z<|Q<|ar<|ax [(0,f),(1,g),(5,.slice none 0 0),(6,v64 0),(7,H 0)] Z ?_
 refine aT (F.FH a0 a1) (fun (s:List UInt32×UInt64×Int) L w=>∃(k:Value),L=[(0,f),(1,g),(5,k),(6,v64 s.2.1),(7,H s.2.2)]∧St [] j w [U X k s.1]) ?_ ([],0,0) ⟨.slice none 0 0,Z,(a.nil X)⟩ h
 rintro E ⟨ab,d,m⟩ L w ac D z h n
 try dsimp only at D
 obtain ⟨k,rfl,a⟩:=D
 unfold F.FH at h
 refine av<|R<|V 2 Z<|N (aC u31 Z (x.b a.fr)) Z<|V 1 Z<|N (aC u31 Z (y.b a.fr)) Z<|N (kR Z Z) Z<|V 1 Z<|Q ?_
 refine gl9 Z h (fun h=>?_) (fun h=>?_)
 ·exact gl5<|av<|ar<|R<|V 2 Z<|J h fun c A h=>bc a Z (d8 m A (x.b a.fr).rp) Z fun w a=>V 2 Z<|J h fun b p h=>bc a Z (d8 m p (y.b a.fr).rp) Z fun w a=>N (aj Z Z (bU _ c b)) Z<|V 1 Z<|N (aj Z Z (bU _ (c+b) d)) Z<|V 1 Z<|gl2<|V 2 Z<|N (aj Z Z (ej _ ((c+b)+d) 4294967295)) Z<|N (aD Z (ca u119 u38 (((c+b)+d) &&& 4294967295))) Z<|bG (cp (e:=X) (l:=([(((c+b)+d) &&& 4294967295).toUInt32]:List UInt32)) (vs:=[v32 ((((c+b)+d) &&& 4294967295).toUInt32)]) u31 aN Z Z Z Z (by decide) (by decide) a) Z fun G w a=>J h fun B q h=>bG (dG u31 aN Z Z Z a (i:=1) Z (a.ro 0 Z) q) Z fun C w a=>V 1 Z<|Q<|al<|V 1 Z<|N (aj Z Z (cc _ ((c+b)+d) 32)) Z<|a7 h fun o t h=>N (a9 (v:=v64 o) (by rw [←t]; rfl)) Z<|aE<|aF<|ak<|al<|V 3 Z<|aE<|bf (bd (z (B,o,wI (m+1)) _ _ ⟨C,Z,(a.d [1] Z Z)⟩ (aL h n)) Z)
 refine aQ<|au<|au<|have h:=aI h n;aR<|ak<|R<|V 1 Z<|J h fun S u h=>aU a Z (dg  u (a.ro 0 Z).rp) Z fun T w a=>V 1 Z<|Q<|az ?_
 cases h
 exact ay Z Z (a.d [0] Z Z)
theorem ez {n:World} {a0 a1:List UInt32} {d f:Value} {r:List UInt32}
  (h:F.Do a0 a1=some r) (y:RP [] n X d a0) (G:RP [] n X f a1):Calls Tryz.prog 87 #[d,f] n (Ret fun v w=>St [] n w [U X v r]):=by
 refine aB 38 Tryz.func87 Z Z Z<|have a:=St.k n;ax [(0,d),(1,f)] Z ?_
 unfold F.Do at h
 refine R<|V 1 Z<|gl2<|V 1 Z<|gl2<|V 1 Z<|gl1<|R<|V 1 Z<|Q<|ar<|ax [(0,d),(1,f),(5,.slice none 0 0),(6,v64 0),(7,H 0)] Z ?_
 refine aT (F.GF a0 a1) (fun (s:List UInt32×UInt64×Int) L w=>∃(k:Value),L=[(0,d),(1,f),(5,k),(6,v64 s.2.1),(7,H s.2.2)]∧St [] n w [U X k s.1]) ?_ ([],0,0) ⟨.slice none 0 0,Z,(a.nil X)⟩ h
 rintro ac ⟨z,c,m⟩ L w S T A h q
 try dsimp only at T
 obtain ⟨k,rfl,a⟩:=T
 unfold F.GF at h
 refine av<|R<|V 2 Z<|N (aC u31 Z (y.b a.fr)) Z<|V 1 Z<|Q ?_
 refine gl9 Z h (fun h=>?_) (fun h=>?_)
 ·refine gl5<|av<|ar<|R<|V 2 Z<|J h fun o B h=>bc a Z (d8 m B (y.b a.fr).rp) Z fun w a=>V 1 Z<|gl2<|V 2 Z<|J h fun b t h=>bc a Z (d8 m t (G.b a.fr).rp) Z fun w a=>V 1 Z<|N (aj Z Z (bU _ b c)) Z<|V 1 Z<|gl2<|V 1 Z<|Q ?_
  refine aZ (r:=S) (fun (g:UInt64×UInt64) L w=>L=[(0,d),(1,f),(5,k),(6,v64 g.1),(7,H m),(8,v64 g.2),(9,v64 (b+c))]∧St [] n w [U X k z]) (F.Gh z c m b) ?_ ?_
  rotate_left
  ·intro p
   refine R<|V 2 Z<|N (aj Z Z (n8 _ o (b+c))) Z<|Q ?_
   refine gl9 Z h (fun h=>?_) (fun h=>?_)
   ·exact R<|V 1 Z<|N (aj Z Z (bU _ o 4294967296)) Z<|V 1 Z<|Q<|al<|V 1 Z<|Q<|aH (p (1,o+4294967296) _ _ ⟨Z,a⟩ h) Z
   exact gl5<|aH (p (0,o) _ _ ⟨Z,a⟩ h) Z
  rintro ⟨C,j⟩ L w hJ h
  try dsimp only at hJ
  obtain ⟨rfl,a⟩:=hJ
  unfold F.Gh at h
  exact al<|V 3 Z<|N (aj Z Z (eA _ j (b+c))) Z<|N (aD Z (ca u119 u38 (j - (b+c)))) Z<|bG (cp (e:=X) (l:=([(j - (b+c)).toUInt32]:List UInt32)) (vs:=[v32 ((j - (b+c)).toUInt32)]) u31 aN Z Z Z Z (by decide) (by decide) a) Z fun ad w a=>J h fun D u h=>bG (dG u31 aN Z Z Z a (i:=1) Z (a.ro 0 Z) u) Z fun E w a=>V 1 Z<|aE<|aF<|ak<|al<|V 3 Z<|aE<|bf (bd (A (D,C,wI (m+1)) _ _ ⟨E,Z,(a.d [1] Z Z)⟩ (aL h q)) Z)
 refine aQ<|au<|au<|have h:=aI h q;aR<|ak<|R<|V 1 Z<|J h fun ae x h=>aU a Z (dg  x (a.ro 0 Z).rp) Z fun ah w a=>V 1 Z<|Q<|az ?_
 cases h
 exact ay Z Z (a.d [0] Z Z)
theorem vz {f:World} {a0 a1 a2:List UInt32} {b c g:Value} {r:List UInt32×Int}
  (h:F.Hx a0 a1 a2=some r) (i:RP [] f X b a0) (j:RP [] f X c a1) (d:RP [] f X g a2):Calls Tryz.prog 40 #[b,c,g] f (Ret fun v w=>∃u0:Value,v=.tuple #[u0,H r.2]∧St [] f w [U X u0 r.1]):=by
 refine aB 28 Tryz.func40 Z Z Z<|have a:=St.k f;ax [(0,b),(1,c),(2,g)] Z ?_
 unfold F.Hx at h
 refine R<|V 2 Z<|gl2<|V 3 Z<|bG (cp (e:=eV) (l:=([SV.of b,SV.of c]:List SV)) (vs:=[b,c]) u98 lH Z Z Z (fH (i.b a.fr).sv (fH (j.b a.fr).sv Z)) (by decide) (by decide) a) Z fun A w a=>J h fun B o h=>bc a Z (ik  o (d.b a.fr).rp (a.ro 0 Z).rp ⟨(i.b a.fr).svrp,(j.b a.fr).svrp,I⟩) Z fun w a=>V 1 Z<|gl1<|R<|V 2 Z<|Q ?_
 refine gl9 Z h (fun h=>?_) (fun h=>?_)
 ·refine R<|V 3 Z<|gl8 ?_
  cases h
  exact cf Z Z Z ⟨.slice none 0 0,Z,(a.nil X).d [0] Z Z⟩
 refine gl6<|V 2 Z<|J h fun C p h=>aU a Z (ew  p (i.b a.fr).rp (d.b a.fr).rp) Z fun D w a=>V 1 Z<|J h fun E q h=>aU a Z (gG  q (a.ro 0 Z).rp (d.b a.fr).rp) Z fun G w a=>V 2 Z<|J h fun t k h=>aU a Z (ew  k (j.b a.fr).rp (d.b a.fr).rp) Z fun u w a=>J h fun x m h=>aU a Z (ez  m (a.ro 1 Z).rp (a.ro 0 Z).rp) Z fun y w a=>V 1 Z<|J h fun z n h=>aU a Z (ew  n (a.ro 0 Z).rp (d.b a.fr).rp) Z fun s w a=>V 2 Z<|Q<|az ?_
 cases h
 exact cf Z Z Z ⟨s,Z,a.d [0] Z Z⟩
theorem vF {d:World} {a0 a1 a2:List UInt32} {b c f:Value} {r:List UInt32×Int}
  (h:F.HJ a0 a1 a2=some r) (g:RP [] d X b a0) (i:RP [] d X c a1) (j:RP [] d X f a2):Calls Tryz.prog 135 #[b,c,f] d (Ret fun v w=>∃u0:Value,v=.tuple #[u0,H r.2]∧St [] d w [U X u0 r.1]):=by
 refine aB 22 Tryz.func135 Z Z Z<|have a:=St.k d;ax [(0,b),(1,c),(2,f)] Z ?_
 unfold F.HJ at h
 refine R<|V 2 Z<|gl2<|V 3 Z<|bG (cp (e:=eV) (l:=([SV.of b,SV.of c]:List SV)) (vs:=[b,c]) u98 lH Z Z Z (fH (g.b a.fr).sv (fH (i.b a.fr).sv Z)) (by decide) (by decide) a) Z fun p w a=>J h fun q k h=>bc a Z (ik  k (j.b a.fr).rp (a.ro 0 Z).rp ⟨(g.b a.fr).svrp,(i.b a.fr).svrp,I⟩) Z fun w a=>V 1 Z<|gl1<|R<|V 2 Z<|Q ?_
 refine gl9 Z h (fun h=>?_) (fun h=>?_)
 ·refine R<|V 3 Z<|gl8 ?_
  cases h
  exact cf Z Z Z ⟨.slice none 0 0,Z,(a.nil X).d [0] Z Z⟩
 refine gl6<|V 2 Z<|J h fun s m h=>aU a Z (gG  m (g.b a.fr).rp (i.b a.fr).rp) Z fun t w a=>V 1 Z<|J h fun u n h=>aU a Z (ew  n (a.ro 0 Z).rp (j.b a.fr).rp) Z fun o w a=>V 2 Z<|Q<|az ?_
 cases h
 exact cf Z Z Z ⟨o,Z,a.d [0] Z Z⟩
theorem vQ {d:World} {a0 a1:List UInt32} {c k:Value} {r:List UInt32×Int}
  (h:F.Gg a0 a1=some r) (aO:RP [] d X c a0) (aP:RP [] d X k a1):Calls Tryz.prog 38 #[c,k] d (Ret fun v w=>∃u0:Value,v=.tuple #[u0,H r.2]∧St [] d w [U X u0 r.1]):=by
 refine aB 59 Tryz.func38 Z Z Z<|have a:=St.k d;have f:=Fz.k (S:=[]) (w0:=d);?_
 have hTT:TOk [] [] d:=TOk.nil
 have b:Rds [] d [P X k a1,P X c a0]:=M (RP.h (W Z) aP) (M (RP.h (W Z) aO) (Rds.nil))
 have m:Off [] [P X k a1,P X c a0]:=Off.emp
 refine ax [(0,c),(1,k)] Z ?_
 unfold F.Gg at h
 refine R<|V 2 Z<|gl2<|V 2 Z<|bG (cp (e:=eV) (l:=([SV.of c]:List SV)) (vs:=[c]) u98 lH Z Z Z (fH ((b.rp 0 Z).b a.fr).sv Z) (by decide) (by decide) a) Z fun aS w a=>J h fun be am h=>bc a Z (ik  am ((b.rp 1 Z).b a.fr).rp (a.ro 0 Z).rp ⟨((b.rp 0 Z).b a.fr).svrp,I⟩) Z fun w a=>V 1 Z<|gl1<|R<|V 2 Z<|Q ?_
 refine gl9 Z h (fun h=>?_) (fun h=>?_)
 ·refine R<|V 3 Z<|gl8 ?_
  cases h
  replace a:=f.st a
  exact cf Z Z Z ⟨.slice none 0 0,Z,(a.nil X).d [0] Z Z⟩
 refine gl6<|V 1 Z<|J h fun t an h=>aU a Z (dg  an ((b.rp 1 Z).b a.fr).rp) Z fun g w a=>V 1 Z<|gl2<|V 2 Z<|gl2<|V 2 Z<|J h fun aj ao h=>aU a Z (ew  ao ((b.rp 0 Z).b a.fr).rp (a.ro 0 Z).rp) Z fun x w a=>V 1 Z<|gl2<|V 1 Z<|gl2<|J h fun y C h=>aU a Z (lQ  C ) Z fun n w a=>V 1 Z<|gl1<|ar ?_
 replace a:=a.pick (os':=[U X n y,U X x aj,U X g t,U eV aS ([SV.of c]:List SV)]++[]) [0,1,2,3] (by decide) rfl
 obtain ⟨aZ,aW,f,b,m,a⟩:=f.frzT hTT b m a
 refine ax [(1,g),(7,g),(8,x),(9,.slice none 0 0),(10,n)] Z ?_
 refine aT (F.FT t) (fun (s:List UInt32×List UInt32×List UInt32×List UInt32) L w=>∃(o:Value) (i:Value) (p:Value) (j:Value),L=[(1,g),(7,o),(8,i),(9,p),(10,j)]∧SfT [] [] d w [P X j s.2.2.2,P X p s.2.2.1,P X i s.2.1,P X o s.1,P X g t] []) ?_ (t,aj,[],y) ⟨g,x,.slice none 0 0,n,Z,(SfT.mk' f (M (b.nth 5 Z) (M OE.kept.nil (b.pick [4,3,3] Z))) (Off.cons (m.nth 5 Z) (Off.cons Off.nilrd (m.pick [4,3,3] Z))) a)⟩ h
 rintro a2 ⟨a3,ap,a4,aq⟩ L w a5 hI D h u
 try dsimp only at hI
 obtain ⟨o,i,p,j,rfl,⟨a6,aX,f,b,m,a⟩⟩:=hI
 unfold F.FT at h
 refine av<|R<|V 1 Z<|N (aC u31 Z ((b.rp 2 Z).b a.fr)) Z<|V 1 Z<|Q ?_
 refine gl9 Z h (fun h=>?_) (fun h=>?_)
 ·refine gl5<|ar<|R<|V 2 Z<|J h fun q E h=>bH a Z (gI  E ((b.rp 1 Z).b a.fr).rp ((b.rp 2 Z).b a.fr).rp) Z fun aw z w a=>V 5 Z<|gl2<|V 2 Z<|J h fun ay G h=>aU a Z (gG  G ((b.rp 3 Z).b a.fr).rp ((b.rp 0 Z).b a.fr).rp) Z fun aA w a=>V 2 Z<|J h fun aD T h=>aU a Z (gk  T (a.ro 1 Z).rp ((b.rp 4 Z).b a.fr).rp) Z fun aG w a=>V 1 Z<|J h fun aH ab h=>aU a Z (ew  ab (a.ro 0 Z).rp ((b.rp 0 Z).b a.fr).rp) Z fun aJ w a=>J h fun aK ac h=>aU a Z (ez  ac (a.ro 2 Z).rp (a.ro 0 Z).rp) Z fun aM w a=>V 1 Z<|J h fun A ad h=>aU a Z (ew  ad (a.ro 0 Z).rp ((b.rp 0 Z).b a.fr).rp) Z fun B w a=>V 1 Z<|gl2<|V 2 Z<|gl2<|V 2 Z<|gl2<|V 2 Z<|Q<|al<|V 2 Z<|aE<|aF ?_
  replace a:=a.pick (os':=[U X B A,U X aM aK,U X aJ aH,U X aG aD,U X aA ay,U X aw q.1,U X z q.2]++[]) [0,1,2,3,4,5,6] (by decide) rfl
  obtain ⟨a7,aY,f,b,m,a⟩:=f.frzT hTT b m a
  exact bf (bd (D (ap,q.2,aq,A) _ _ ⟨i,z,j,B,Z,(SfT.mk' f (b.pick [11,4,5,2,0] Z) (m.pick [11,4,5,2,0] Z) a)⟩ (aL h u)) Z)
 refine aQ<|au<|au<|have h:=aI h u;aR<|ak<|av<|R<|V 1 Z<|J h fun a8 ae h=>aU a Z (lQ  ae ) Z fun a9 w a=>J h fun ba ah h=>bc a Z (fi  ah ((b.rp 1 Z).b a.fr).rp (a.ro 0 Z).rp) Z fun w a=>V 1 Z<|Q ?_
 refine gl9 Z h (fun h=>?_) (fun h=>?_)
 ·refine R<|V 2 Z<|gl8 ?_
  cases h
  replace a:=f.st a
  exact cf Z Z Z ⟨.slice none 0 0,Z,(a.nil X).d [0] Z Z⟩
 refine gl6<|V 2 Z<|J h fun bb ai h=>aU a Z (ew  ai ((b.rp 3 Z).b a.fr).rp ((b.rp 0 Z).b a.fr).rp) Z fun aN w a=>V 2 Z<|Q<|az ?_
 cases h
 replace a:=f.st a
 exact cf Z Z Z ⟨aN,Z,a.d [0] Z Z⟩
end Go.Proofs
