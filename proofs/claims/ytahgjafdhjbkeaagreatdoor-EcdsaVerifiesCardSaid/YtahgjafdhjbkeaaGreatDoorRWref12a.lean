import Derived.Test.YtahgjafdhjbkeaaGreatDoorRW0
import Derived.Test.YtahgjafdhjbkeaaGreatDoorGkFman
import Derived.Test.YtahgjafdhjbkeaaGreatDoorRWref11
import Derived.Test.YtahgjafdhjbkeaaGreatDoorRWref4
import Derived.Test.YtahgjafdhjbkeaaGreatDoorRWref7
set_option linter.unusedVariables false
set_option linter.unusedSimpArgs false
set_option linter.unusedSectionVars false
set_option maxRecDepth 4000
namespace Go.Proofs
open Go Go.RowKit Go.Gk
open Go.Gk renaming aa → V, af → J, ag → N, e32 → X, gl3 → Q, gl4 → R, own → U, pB → O, red → P, vB → K, vI → H
open Nat renaming le_of_ble_eq_true → W
open Go.Gk.OE renaming bx → Y
open Go.Gk.Rds renaming cons → M
theorem iN {m:World} {a0:List UInt8} {f:Value} {r:List UInt32}
  (h:F.EU a0=some r) (g:RP [] m e8 f a0):Calls Tryz.prog 30 #[f] m (Ret fun v w=>St [] m w [U X v r]):=by
 refine aB 42 Tryz.func30 Z Z Z<|have a:=St.k m;ax [(0,f)] Z ?_
 unfold F.EU at h
 refine R<|V 1 Z<|gl2<|V 1 Z<|N (aC u24 Z (g.b a.fr)) Z<|V 1 Z<|N (aj Z Z (dV _ (wI ((a0.length:Int)+3)) 4 (by decide))) Z<|J h fun B x h=>bG (dw (e:=X) u31 aN Z Z Z a x) Z fun j w a=>V 1 Z<|gl1<|R<|V 1 Z<|Q<|ar<|ax [(0,f),(3,j),(4,H 0)] Z ?_
 refine aT (F.E2 a0) (fun (s:Int×List UInt32) L w=>L=[(0,f),(3,j),(4,H s.1)]∧St [] m w [U X j s.2]) ?_ (0,B) ⟨Z,a⟩ h
 rintro E ⟨c,C⟩ L w ab D y h n
 try dsimp only at D
 obtain ⟨rfl,a⟩:=D
 unfold F.E2 at h
 refine av<|R<|V 2 Z<|N (aC u24 Z (g.b a.fr)) Z<|V 1 Z<|Q ?_
 refine gl9 Z h (fun h=>?_) (fun h=>?_)
 ·refine gl5<|av<|ar<|de (fun w'=>St [] m w' [U X j C]) (fun i=>!([24].contains i)) bR (fun _ _ _ z=>z.2) (fun _ _ z=>z) (by kernel_rfl)<|have a:=a.drew;show lxE _ _ _ _ _ _ _ [0,1,2,3,4,5,6,7,8,9,10,11,12,13,14,15,16,17,18,19,20,21,22,23,24] _ _ from an 2 Z a<|ai a Z Z (fun w b=>aj Z Z (dV _ c 4 (by decide))) Z<|an 2 Z a<|ai a Z Z (fun w b=>aj Z Z (dV _ c 4 (by decide))) Z<|J h fun u o h=>ai a Z Z (fun w b=>bk u31 aN Z Z (b.ro 0 Z) o) Z<|ai a Z Z (fun w b=>a8 u38 Z Z (b.ro 0 Z) o Z) Z<|an 2 Z a<|ai a Z Z (fun w b=>aC u24 Z (g.b b.fr)) Z<|an 3 Z a<|J h fun d k h=>ai a Z Z (fun w b=>bk u24 ti5 Z Z (g.b b.fr) k) Z<|ai a Z Z (fun w b=>a8 Tryz.underlying5 Z Z (g.b b.fr) k Z) Z<|ai a Z Z (fun w b=>aD Z (eM Tryz.underlying5 u38 d)) Z<|an 1 Z a<|ai a Z Z (fun w b=>aj Z Z (fW _ c 4 (by decide))) Z<|ai a Z Z (fun w b=>aj Z Z (dR _ 8 (Int.tmod c 4))) Z<|ai a Z Z (fun w b=>aD Z (dy u3 u87 (wI (8*(Int.tmod c 4))))) Z<|ai a Z Z (fun w b=>aj Z Z (d9 _ d.toUInt32 (UInt64.ofInt (wI (8*(Int.tmod c 4)))))) Z<|ai a Z Z (fun w b=>aj Z Z (eo _ u (bN d.toUInt32 ((UInt64.ofInt (wI (8*(Int.tmod c 4)))).toNat)))) Z ?_
  refine J h fun G l h=>ai a Z Z (fun w b=>bk u31 aN Z Z (b.ro 0 Z) l) Z<|fU a Z Z (bZ (t:=(u ||| (bN d.toUInt32 ((UInt64.ofInt (wI (8*(Int.tmod c 4)))).toNat)))) aN Z Z a (i:=0) Z l Z) fun w a=>a7 h fun A p h=>?_
  rw [p]at a
  exact bn I<|aF<|ak<|al<|V 3 Z<|aE<|bf (bd (y (wI (c+1),A) _ _ ⟨Z,a⟩ (aL h n)) Z)
 refine aQ<|au<|au<|have h:=aI h n;aR<|ak<|R<|V 1 Z<|J h fun S q h=>aU a Z (dg  q (a.ro 0 Z).rp) Z fun T w a=>V 1 Z<|Q<|az ?_
 cases h
 exact ay Z Z (a.d [0] Z Z)
theorem ph {c:World} {a2:List UInt8} {d:Value} (a0 a1:Int) {r:List UInt32}
  (h:F.HF a0 a1 a2=some r) (t:TB [] c) (q:RP [] c e8 d a2):Calls Tryz.prog 29 #[H a0,H a1,d] c (Ret fun v w=>St [] c w [U X v r]):=by
 refine aB 22 Tryz.func29 Z Z Z<|have a:=St.k c;ax [(0,H a0),(1,H a1),(2,d)] Z ?_
 unfold F.HF at h
 refine R<|V 1 Z<|gl2<|V 2 Z<|J h fun k n h=>aU a Z (vt a0 n (t.b a.fr) (q.b a.fr).rp) Z fun l w a=>V 1 Z<|Q ?_
 refine aZ (r:=r) (fun (g:List UInt8) L w=>∃(e:Value),L=[(7,e)]∧St [] c w [U e8 e g]) (F.Gn) ?_ ?_
 rotate_left
 ·intro b
  refine R<|V 1 Z<|N (aC u24 Z (a.ro 0 Z)) Z<|V 1 Z<|J h fun y o h=>bc a Z (eY a1 o ) Z fun w a=>V 1 Z<|Q ?_
  refine gl9 Z h (fun h=>?_) (fun h=>?_)
  ·exact al<|V 2 Z<|J h fun m p h=>bc a Z (eY a1 p ) Z fun w a=>da h fun f h=>N (jy u24 ti5 Z Z (a.ro 0 Z) (iB f)) Z<|V 1 Z<|Q<|aH (b (k.take ((m:Int).toNat)) _ _ ⟨slV l e8.sz 0 ((m:Int).toNat),Z,(a.trunc (i:=0) Z f.2)⟩ h) Z
  exact gl5<|aH (b k _ _ ⟨l,Z,a⟩ h) Z
 rintro z L w s h
 try dsimp only at s
 obtain ⟨e,rfl,a⟩:=s
 unfold F.Gn at h
 refine R<|V 1 Z<|J h fun u j h=>aU a Z (iN  j (a.ro 0 Z).rp) Z fun x w a=>V 1 Z<|Q<|az ?_
 cases h
 exact ay Z Z (a.d [0] Z Z)
theorem k6 {c:World} {a0 a1:List UInt32} {d e:Value} {r:Bool}
  (h:F.F8 a0 a1=some r) (f:RP [] c X d a0) (j:RP [] c X e a1):Calls Tryz.prog 36 #[d,e] c (Ret fun v w=>v=K r∧St [] c w []):=by
 refine aB 15 Tryz.func36 Z Z Z<|have a:=St.k c;ax [(0,d),(1,e)] Z ?_
 unfold F.F8 at h
 refine R<|V 1 Z<|gl2<|V 1 Z<|J h fun k g h=>aU a Z (dg  g (f.b a.fr).rp) Z fun m w a=>N (aC u31 Z (a.ro 0 Z)) Z<|V 2 Z ?_
 cases b:(decide ((0:Int)<(k.length:Int)))
 case true=>
  have h:=cH h b
  try simp only [b]
  refine V 2 Z<|J h fun n i h=>cR (t:=9) Z Z (by kernel_rfl) Z (fi  i (f.b a.fr).rp (j.b a.fr).rp) Z ?_
  rintro _ w ⟨rfl,l⟩
  have a:=a.e l
  refine V 3 Z<|Q<|az ?_
  cases h
  exact ay Z Z ⟨Z,a.d [] Z Z⟩
 case false=>
  have h:=cI h b
  try simp only [b]
  refine V 6 Z<|Q<|az ?_
  cases h
  exact ay Z Z ⟨Z,a.d [] Z Z⟩
theorem rm {f:World} (a0:Int) {r:List UInt32×List UInt32×Int}
  (h:F.HT a0=some r) :Calls Tryz.prog 90 #[H a0] f (Ret fun v w=>∃g j:Value,v=.agg #[g,j,H r.2.2]∧St [] f w [U X g r.1,U X j r.2.1]):=by
 refine aB 30 Tryz.func90 Z Z Z<|have a:=St.k f;have p:=Fz.k (S:=[]) (w0:=f);?_
 have hTT:TOk [] [] f:=TOk.nil
 have B:Rds [] f []:=Rds.nil
 have C:Off [] []:=Off.emp
 refine ax [(0,H a0)] Z ?_
 unfold F.HT at h
 refine R<|bh (ba (cs:=[.slice none 0 0,.slice none 0 0,H 0]) zZ Z a) Z fun x w a=>gl2<|V 1 Z<|J h fun c n h=>aU a Z (fe a0 n ) Z fun d w a=>V 1 Z<|gl2<|V 1 Z<|N (aC u31 Z (a.ro 0 Z)) Z<|V 1 Z<|gl2<|V 1 Z<|N (aj Z Z (dR _ 2 (c.length:Int))) Z<|V 1 Z<|J h fun y o h=>bG (dw (e:=X) u31 aN Z Z Z a o) Z fun z w a=>V 1 Z<|gl2<|V 2 Z<|N (aj Z Z (dR _ 2 (c.length:Int))) Z<|J h fun A k h=>N (bk u31 aN Z Z (a.ro 0 Z) k) Z<|bl (bZ (t:=1) aN Z Z a (i:=0) Z k Z) fun w a=>a7 h fun q l h=>?_
 rw [l]at a
 refine gl2<|V 2 Z<|J h fun s m h=>bH a Z (gI  m (a.ro 0 Z).rp (a.ro 1 Z).rp) Z fun b u w a=>V 5 Z<|gl2<|V 3 Z<|N (bT (vs:=[(0,d,[d]),(1,b,[b]),(2,H (c.length:Int),[H (c.length:Int)])]) (cells:=[d,b,H (c.length:Int)]) Z Cf ⟨(cz (a.ro 3 Z).one),(cz (a.ro 0 Z).one),Z,I⟩ Z) Z<|bl (bq (i:=4) (us:=[d,b,H (c.length:Int)]) Z bV Z Z Z ⟨(a.ro 3 Z).one,(a.ro 0 Z).one,Z,I⟩ Z a) fun w a=>Q<|az ?_
 cases h
 replace a:=p.st a
 exact dc Z ⟨_,Z,bM (us:=[d,b,H (c.length:Int)]) u101 Z bV (a.p 4 Z Z)⟩ ⟨d,b,Z,a.d [3,0] Z Z⟩
theorem nf {t:World} {u z:List UInt32} {j m:Value} {T:List Nat} (p:Bool) {r:List UInt32×List UInt32×List UInt32}
  (h:F.GS u z p=some r) (hTT:TOk [] T t) (V:RP T t X j u) (ab:RP T t X m z):Calls Tryz.prog 91 #[.agg #[j,m,K p]] t (Ret fun v w=>∃B:Value,∃C:Value,∃D:Value,v=.agg #[B,C,D]∧St [] t w []∧Rds T w [P X D r.2.2,P X C r.2.1,P X B r.1]):=by
 refine aB 14 Tryz.func91 Z Z Z<|have d:=St.k t;have n:=Fz.k (S:=[]) (w0:=t);?_
 have hA0:Rds T t [P X m z,P X j u]:=M (RP.h (W Z) ab) (M (RP.h (W Z) V) (Rds.nil))
 have o:=hA0.all
 have s:=hA0.off Z
 refine ax [(0,.agg #[j,m,K p])] Z ?_
 unfold F.GS at h
 refine R<|bh (cu (cs:=[j,m,K p]) Z Z d) Z fun ae w d=>bh (ba (cs:=[.slice none 0 0,.slice none 0 0,.slice none 0 0]) lZ Z d) Z fun A w d=>gl1<|R<|N (ao (k:=2) u33 Z Z nz4 Z) Z<|N (aw Tryz.underlying4 Z Z (d.q 1 Z 2)) Z<|Q ?_
 refine gl9 Z h (fun h=>?_) (fun h=>?_)
 ·refine R<|N (bT (vs:=[]) (cells:=[.slice none 0 0,.slice none 0 0,.slice none 0 0]) Z k7 I Z) Z<|bl (bq (i:=0) (us:=[.slice none 0 0,.slice none 0 0,.slice none 0 0]) Z cQ Z Z Z ⟨Z,Z,Z,I⟩ Z d) fun w d=>gl8 ?_
  cases h
  obtain ⟨E,hR⟩:=n.outT hTT o s d
  exact dc Z ⟨_,Z,bM (us:=[.slice none 0 0,.slice none 0 0,.slice none 0 0]) u104 Z cQ (d.p 0 Z Z)⟩ ⟨.slice none 0 0,.slice none 0 0,.slice none 0 0,Z,E,(M OE.kept.nil (M OE.kept.nil (M OE.kept.nil Rds.nil)))⟩
 refine gl5<|av<|J h fun f ah h=>J h fun g ai h=>cO (es:=[P X m z,P X j u]) (os:=[Y ae [j,m,K p]]) (fun i=>[2,5,6,7,8].contains i) (fun i=>if i=2 then some 7 else if i=5 then some 7 else if i=6 then some 7 else if i=7 then some 8 else none) (fun i=>[]) (fun i=>if i=8 then [Y A [.slice none 0 0,.slice none 0 0,.slice none 0 0]] else []) (fun i=>[]) (fun i=>if i=7 then [2,5,6] else if i=8 then [2,5,6] else []) (fun i=>if i=2 then (fun h v x y=>∃b:Value,v=b∧x=[U X b f]∧y=[]) else if i=5 then (fun h v x y=>∃c:Value,v=c∧x=[U X c g]∧y=[]) else if i=6 then (fun h v x y=>∃a:Value,v=a∧x=[U X a ([1]:List UInt32)]∧y=[]) else if i=7 then (fun h v x y=>∃b:Value,∃c:Value,∃a:Value,h=[(b,[U X b f],[]),(c,[U X c g],[]),(a,[U X a ([1]:List UInt32)],[])]∧v=.agg #[b,c,a]∧x=[U X b f,U X c g,U X a ([1]:List UInt32)]∧y=[]) else (fun h v x y=>∃b:Value,∃c:Value,∃a:Value,h=[(b,[U X b f],[]),(c,[U X c g],[]),(a,[U X a ([1]:List UInt32)],[])]∧v=undef∧x=[U X b f,U X c g,U X a ([1]:List UInt32),Y A [b,c,a]]∧y=[])) (SfT.mk' n o s (d.pick (os':=[Y A [.slice none 0 0,.slice none 0 0,.slice none 0 0],Y ae [j,m,K p]]) [0,1] (by decide) rfl)) (fun k hk=>(if_neg (fun q=>by subst q; exact absurd hk (by decide)))) hTT rfl (fun i=>(cl (by rintro h v x y ⟨_,rfl,rfl,rfl⟩; exact bQ rfl) (cl (by rintro h v x y ⟨_,rfl,rfl,rfl⟩; exact bQ rfl) (cl (by rintro h v x y ⟨_,rfl,rfl,rfl⟩; exact bQ rfl) (cl (by rintro h v x y ⟨_,_,_,_,rfl,rfl,rfl⟩; exact bQ rfl) (by rintro h v x y ⟨_,_,_,_,rfl,rfl,rfl⟩; exact bQ rfl)))))) bR (by kernel_rfl) (by kernel_rfl) ?_
 show dY _ _ _ _ _ _ _ _ _ _ _ _ _ _ _ _ [0,1,2,3,4,5,6,7,8] _ _
 refine bz Z Z (fun w Sb wb n o s G=>ao (k:=0) u33 Z Z cZ Z) Z<|bz Z Z (fun w Sb wb n o s G=>aw u31 Z Z (G.q 0 Z 0)) Z ?_
 refine bK (fun h v x y=>∃b:Value,v=b∧x=[U X b f]∧y=[]) [] [] [] _ Z Z (fun h v x y=>Z) Z Z Z Z ⟨_,_,_,undef,Z,Z,Z⟩ (by kernel_rfl) Z (fun w Sl Tl n hTT o s d=>?_) Z ?_
 ·refine bJ (dg  ah ((o.rp 0 Z).b d.fr).rp) ?_
  rintro b w L
  have d:=d.e L
  exact ⟨_,_,⟨b,Z,Z,Z⟩,SfT.mk' n Rds.nil Off.nil d⟩
 rintro b x_q y_q ⟨_,rfl,rfl,rfl⟩
 refine bz Z Z (fun w Sb wb n o s G=>ao (k:=1) u33 Z Z cZ Z) Z<|bz Z Z (fun w Sb wb n o s G=>aw u31 Z Z (G.q 0 Z 1)) Z ?_
 refine bK (fun h v x y=>∃c:Value,v=c∧x=[U X c g]∧y=[]) [] [] [] _ Z Z (fun h v x y=>Z) Z Z Z Z ⟨_,_,_,undef,Z,Z,Z⟩ (by kernel_rfl) Z (fun w Sl Tl n hTT o s d=>?_) Z ?_
 ·refine bJ (dg  ai ((o.rp 1 Z).b d.fr).rp) ?_
  rintro c w L
  have d:=d.e L
  exact ⟨_,_,⟨c,Z,Z,Z⟩,SfT.mk' n Rds.nil Off.nil d⟩
 rintro c x_q y_q ⟨_,rfl,rfl,rfl⟩
 refine gl (fun h v x y=>∃a:Value,v=a∧x=[U X a ([1]:List UInt32)]∧y=[]) [] [] [] _ Z Z (fun h v x y=>Z) Z Z Z Z ⟨_,_,_,undef,Z,Z,Z⟩ (fun w Sl Tl n hTT o s d=>?_) Z ?_
 ·refine nG (cp (e:=X) (l:=([1]:List UInt32)) (vs:=[v32 1]) u31 aN Z Z Z Z (by decide) (by decide) d) ?_
  rintro a w d
  exact ⟨_,_,⟨a,Z,Z,Z⟩,SfT.mk' n Rds.nil Off.nil d⟩
 rintro a x_q y_q ⟨_,rfl,rfl,rfl⟩
 refine gl (fun h v x y=>∃b:Value,∃c:Value,∃a:Value,h=[(b,[U X b f],[]),(c,[U X c g],[]),(a,[U X a ([1]:List UInt32)],[])]∧v=.agg #[b,c,a]∧x=[U X b f,U X c g,U X a ([1]:List UInt32)]∧y=[]) [(b,[U X b f],[]),(c,[U X c g],[]),(a,[U X a ([1]:List UInt32)],[])] [U X b f,U X c g,U X a ([1]:List UInt32)] [] _ Z Z (fun h v x y=>Z) Z Z Z Z ⟨_,_,_,b,c,a,Z,Z,Z,Z⟩ (fun w Sl Tl n hTT o s d=>?_) Z ?_
 ·exact ry (bT (vs:=[(0,b,[b]),(1,c,[c]),(2,a,[a])]) (cells:=[b,c,a]) Z k7 ⟨(cz (d.ro 0 Z).one),(cz (d.ro 1 Z).one),(cz (d.ro 2 Z).one),I⟩ Z) ⟨_,_,⟨b,c,a,Z,Z,Z,Z⟩,SfT.mk' n Rds.nil Off.nil d⟩
 rintro v_q x_q y_q ⟨v_6',v_9',v_11',hh,rfl,rfl,rfl⟩
 replace hh:([(b,[U X b f],[]),(c,[U X c g],[]),(a,[U X a ([1]:List UInt32)],[])]:List Th)=[(v_6',[U X v_6' f],[]),(v_9',[U X v_9' g],[]),(v_11',[U X v_11' ([1]:List UInt32)],[])]:=hh
 cases hh
 refine kU (fun h v x y=>∃b:Value,∃c:Value,∃a:Value,h=[(b,[U X b f],[]),(c,[U X c g],[]),(a,[U X a ([1]:List UInt32)],[])]∧v=undef∧x=[U X b f,U X c g,U X a ([1]:List UInt32),Y A [b,c,a]]∧y=[]) [(b,[U X b f],[]),(c,[U X c g],[]),(a,[U X a ([1]:List UInt32)],[])] [U X b f,U X c g,U X a ([1]:List UInt32),Y A [.slice none 0 0,.slice none 0 0,.slice none 0 0]] [] _ Z Z (fun h v x y=>Z) Z Z Z Z ⟨_,_,_,b,c,a,Z,Z,Z,Z⟩ (fun w Sl Tl n hTT o s d=>?_) ?_
 ·refine jL (bq (i:=3) (us:=[b,c,a]) Z cQ Z Z Z ⟨(d.ro 0 Z).one,(d.ro 1 Z).one,(d.ro 2 Z).one,I⟩ Z d) ?_
  intro w d
  exact ⟨_,_,⟨b,c,a,Z,Z,Z,Z⟩,SfT.mk' n Rds.nil Off.nil d⟩
 rintro v_q x_q y_q ⟨v_6',v_9',v_11',hh,rfl,rfl,rfl⟩
 replace hh:([(b,[U X b f],[]),(c,[U X c g],[]),(a,[U X a ([1]:List UInt32)],[])]:List Th)=[(v_6',[U X v_6' f],[]),(v_9',[U X v_9' g],[]),(v_11',[U X v_11' ([1]:List UInt32)],[])]:=hh
 cases hh
 refine dH fun w hQ=>?_
 obtain ⟨aq,an,n,o,s,d⟩:=hQ
 refine ak<|az ?_
 cases h
 obtain ⟨E,hR⟩:=n.outT hTT o s d
 exact dc Z ⟨_,Z,bM (us:=[b,c,a]) u104 Z cQ (d.p 3 Z Z)⟩ ⟨b,c,a,Z,E,(hR.pick [4,5,6] Z)⟩
theorem mg {a:World} {a0:List UInt32} {b:Value} {T:List Nat} (a1:Int) {r:List UInt32}
  (h:F.GG a0 a1=some r) (hTT:TOk [] T a) (g:RP T a X b a0):Calls Tryz.prog 180 #[b,H a1] a (Ret fun v w=>∃u0:Value,v=u0∧St [] a w []∧Rds T w [P X u0 r]):=by
 refine aB 12 Tryz.func180 Z Z Z<|have e:=St.k a;have i:=Fz.k (S:=[]) (w0:=a);?_
 have hA0:Rds T a [P X b a0]:=M (RP.h (W Z) g) (Rds.nil)
 have f:=hA0.all
 have j:=hA0.off Z
 refine ax [(0,b),(1,H a1)] Z ?_
 unfold F.GG at h
 refine R<|V 1 Z<|gl1<|R<|V 1 Z<|N (aC u31 Z ((f.rp 0 Z).b e.fr)) Z<|V 2 Z<|Q ?_
 refine gl9 Z h (fun h=>?_) (fun h=>?_)
 ·refine R<|V 1 Z<|gl8 ?_
  cases h
  obtain ⟨c,k⟩:=i.outT hTT f j e
  exact ay Z Z ⟨.slice none 0 0,Z,c,(M OE.kept.nil Rds.nil)⟩
 refine gl6<|V 2 Z<|J h fun l d h=>N (o5 u31 aN Z Z ((f.rp 0 Z).b e.fr) d) Z<|V 1 Z<|Q<|az ?_
 cases h
 obtain ⟨c,k⟩:=i.outT hTT f j e
 exact ay Z Z ⟨slV b X.sz ((a1:Int).toNat) a0.length,Z,c,(M (RP.h (W Z) ((k.rp 0 Z).g_sll d)) Rds.nil)⟩
theorem n9 {o:World} {n p a1:List UInt32} {d e u:Value} {T:List Nat} (g:Int) {r:List UInt32}
  (h:F.Hy n p g a1=some r) (hTT:TOk [] T o) (aj:RP T o X d n) (am:RP T o X e p) (aM:RP T o X u a1):Calls Tryz.prog 166 #[.agg #[d,e,H g],u] o (Ret fun v w=>∃u0:Value,v=u0∧St [] o w []∧Rds T w [P X u0 r]):=by
 refine aB 35 Tryz.func166 Z Z Z<|have a:=St.k o;have c:=Fz.k (S:=[]) (w0:=o);?_
 have hA0:Rds T o [P X u a1,P X e p,P X d n]:=M (RP.h (W Z) aM) (M (RP.h (W Z) am) (M (RP.h (W Z) aj) (Rds.nil)))
 have b:=hA0.all
 have f:=hA0.off Z
 refine ax [(0,.agg #[d,e,H g]),(1,u)] Z ?_
 unfold F.Hy at h
 refine R<|bh (cu (cs:=[d,e,H g]) rfl rfl a) rfl fun q w a=>V 1 rfl<|gl1<|J h fun E aG h=>J h fun C aH h=>J h fun G an h=>cO (es:=[P X u a1,P X e p,P X d n]) (os:=[Y q [d,e,H g]]) (fun i=>[4,7,11].contains i) (fun i=>if i=7 then some 11 else none) (fun i=>if i=7 then [4] else []) (fun i=>[]) (fun i=>[]) (fun i=>[]) (fun i=>if i=4 then (fun h v x y=>∃m:Value,v=m∧x=[]∧y=[P X m E]) else if i=7 then (fun h v x y=>∃l:Value,v=l∧x=[U X l C]∧y=[]) else (fun h v x y=>∃j:Value,v=j∧x=[]∧y=[P X j G])) (SfT.mk' c b f a) (fun k hk=>rfl) hTT rfl (fun i=>(cl (by rintro h v x y ⟨_,rfl,rfl,rfl⟩; exact bQ rfl) (cl (by rintro h v x y ⟨_,rfl,rfl,rfl⟩; exact bQ rfl) (by rintro h v x y ⟨_,rfl,rfl,rfl⟩; exact bQ rfl)))) bR (by kernel_rfl) (by kernel_rfl)<|show dY _ _ _ _ _ _ _ _ _ _ _ _ _ _ _ _ [0,1,2,3,4,5,6,7,8,9,10,11,12] _ _ from bP 1 rfl<|bz rfl rfl (fun w Sb wb c b f z=>ao (k:=2) u101 rfl rfl nz3 rfl) rfl<|bz rfl rfl (fun w Sb wb c b f z=>aw u3 rfl rfl (z.q 0 rfl 2)) rfl<|bP 1 rfl ?_
 refine bK (fun h v x y=>∃m:Value,v=m∧x=[]∧y=[P X m E]) [] [] [] _ Z Z (fun h v x y=>Z) Z Z Z Z ⟨_,_,_,undef,Z,Z,Z⟩ (by kernel_rfl) Z (fun w Sl Tl c hTT b f a=>?_) Z ?_
 ·replace a:=a.pick (os':=[]++[Y q [d,e,H g]]) [0] (by decide) rfl
  obtain ⟨c,b,f,a⟩:=c.frzK hTT b f a
  refine bJ (mg (wI (g - 1)) aG (c.okT hTT a) (b.i f 2 Z)) ?_
  rintro m w ⟨_,rfl,A,ad⟩
  obtain ⟨bg,a0,c,b,f,a⟩:=c.l b f a A ad rfl
  exact ⟨_,_,⟨m,Z,Z,Z⟩,SfT.mk' c (b.pick [3] Z) (f.pick [3] Z) a⟩
 rintro m x_q y_q ⟨_,rfl,rfl,rfl⟩
 refine bz Z Z (fun w Sb wb c b f z=>ao (k:=1) u101 Z Z cZ Z) Z<|bz Z Z (fun w Sb wb c b f z=>aw u31 Z Z (z.q 0 Z 1)) Z ?_
 refine bK (fun h v x y=>∃l:Value,v=l∧x=[U X l C]∧y=[]) [] [] [P X m E] _ Z Z (fun h v x y=>Z) Z Z Z Z ⟨_,_,_,undef,Z,Z,Z⟩ (by kernel_rfl) Z (fun w Sl Tl c hTT b f a=>?_) Z ?_
 ·refine bJ (gk  aH ((b.rp 3 Z).b a.fr).rp ((b.rp 1 Z).b a.fr).rp) ?_
  rintro l w A
  have a:=a.e A
  exact ⟨_,_,⟨l,Z,Z,Z⟩,SfT.mk' c Rds.nil Off.nil a⟩
 rintro l x_q y_q ⟨_,rfl,rfl,rfl⟩
 refine bz Z Z (fun w Sb wb c b f z=>ao (k:=2) u101 Z Z nz3 Z) Z<|bz Z Z (fun w Sb wb c b f z=>aw u3 Z Z (z.q 0 Z 2)) Z<|bP 1 Z ?_
 refine bK (fun h v x y=>∃j:Value,v=j∧x=[]∧y=[P X j G]) [] [U X l C] [] _ Z Z (fun h v x y=>Z) Z Z Z Z ⟨_,_,_,undef,Z,Z,Z⟩ (by kernel_rfl) Z (fun w Sl Tl c hTT b f a=>?_) Z ?_
 ·replace a:=a.pick (os':=[U X l C]++[Y q [d,e,H g]]) [0,1] (by decide) rfl
  obtain ⟨c,b,f,a⟩:=c.frzK hTT b f a
  refine bJ (mg (wI (g+1)) an (c.okT hTT a) (b.i f 3 Z)) ?_
  rintro j w ⟨_,rfl,A,ad⟩
  obtain ⟨a2,aV,c,b,f,a⟩:=c.l b f a A ad rfl
  exact ⟨_,_,⟨j,Z,Z,Z⟩,SfT.mk' c (b.pick [4] Z) (f.pick [4] Z) a⟩
 rintro j x_q y_q ⟨_,rfl,rfl,rfl⟩
 refine bP 1 Z<|dH fun w hQ=>?_
 obtain ⟨a4,aW,c,b,f,a⟩:=hQ
 refine ak<|R<|V 2 Z<|N (ao (k:=0) u101 Z Z cZ Z) Z<|N (aw u31 Z Z (a.q 0 Z 0)) Z<|J h fun aJ ap h=>aU a Z (gk  ap ((b.rp 3 Z).b a.fr).rp ((b.rp 0 Z).b a.fr).rp) Z fun aK w a=>J h fun ae aq h=>aU a Z (ez  aq ((b.rp 2 Z).b a.fr).rp (a.ro 0 Z).rp) Z fun B w a=>V 1 Z<|gl1<|ar ?_
 replace a:=a.pick (os':=[U X B ae,U X aK aJ,Y q [d,e,H g]]++[]) [0,1,2] (by decide) rfl
 obtain ⟨a5,aX,c,b,f,a⟩:=c.frzT hTT b f a
 refine ax [(2,O q 0),(6,B)] Z ?_
 refine aT (F.Hb n) (fun (s:List UInt32) L w=>∃(t:Value),L=[(2,O q 0),(6,t)]∧SfT [] T o w [P X t s,Y q [d,e,H g],P X e p,P X d n] []) ?_ ae ⟨B,Z,(SfT.mk' c (b.pick [7,5,1,0] Z) (f.pick [7,5,1,0] Z) a)⟩ h
 rintro a6 a7 L w a8 hI aA h D
 try dsimp only at hI
 obtain ⟨t,rfl,⟨a9,aY,c,b,f,a⟩⟩:=hI
 unfold F.Hb at h
 refine av<|R<|V 1 Z<|N (ao (k:=0) u101 Z Z cZ Z) Z<|N (aw u31 Z Z ((b.rb 2 Z).cell a.fr 0 Z)) Z<|J h fun ba aC h=>bc a Z (fi  aC ((b.rp 3 Z).b a.fr).rp ((b.rp 0 Z).b a.fr).rp) Z fun w a=>V 1 Z<|Q ?_
 refine gl9 Z h (fun h=>?_) (fun h=>?_)
 ·refine gl5<|ar<|al<|V 1 Z<|N (ao (k:=0) u101 Z Z cZ Z) Z<|N (aw u31 Z Z ((b.rb 2 Z).cell a.fr 0 Z)) Z<|J h fun ah aD h=>aU a Z (ez  aD ((b.rp 3 Z).b a.fr).rp ((b.rp 0 Z).b a.fr).rp) Z fun ai w a=>V 1 Z<|aE<|aF ?_
  replace a:=a.pick (os':=[U X ai ah]++[]) [0] (by decide) rfl
  obtain ⟨bb,aZ,c,b,f,a⟩:=c.frzT hTT b f a
  exact bf (bd (aA ah _ _ ⟨ai,Z,(SfT.mk' c (b.pick [4,2,1,0] Z) (f.pick [4,2,1,0] Z) a)⟩ (aL h D)) Z)
 refine aQ<|au<|au<|have h:=aI h D;aR<|ak<|R<|V 2 Z<|Q<|az ?_
 cases h
 obtain ⟨aS,hR⟩:=c.outT hTT b f a
 exact ay Z Z ⟨t,Z,aS,(hR.pick [3] Z)⟩
theorem bp {m:World} {n o a1 a2:List UInt32} {a b p q:Value} {T:List Nat} (e:Int) {r:List UInt32}
  (h:F.CZ n o e a1 a2=some r) (hTT:TOk [] T m) (u:RP T m X a n) (z:RP T m X b o) (E:RP T m X p a1) (G:RP T m X q a2):Calls Tryz.prog 138 #[.agg #[a,b,H e],p,q] m (Ret fun v w=>∃u0:Value,v=u0∧St [] m w []∧Rds T w [P X u0 r]):=by
 refine aB 12 Tryz.func138 Z Z Z<|have c:=St.k m;have l:=Fz.k (S:=[]) (w0:=m);?_
 have hA0:Rds T m [P X q a2,P X p a1,P X b o,P X a n]:=M (RP.h (W Z) G) (M (RP.h (W Z) E) (M (RP.h (W Z) z) (M (RP.h (W Z) u) (Rds.nil))))
 have f:=hA0.all
 have j:=hA0.off Z
 refine ax [(0,.agg #[a,b,H e]),(1,p),(2,q)] Z ?_
 unfold F.CZ at h
 refine R<|bh (cu (cs:=[a,b,H e]) rfl rfl c) rfl fun A w c=>V 1 rfl<|gl1<|J h fun s C h=>J h fun B D h=>cO (es:=[P X q a2,P X p a1,P X b o,P X a n]) (os:=[Y A [a,b,H e]]) (fun i=>[3,4].contains i) (fun i=>if i=3 then some 4 else none) (fun i=>[]) (fun i=>[]) (fun i=>[]) (fun i=>[]) (fun i=>if i=3 then (fun h v x y=>∃g:Value,v=g∧x=[U X g s]∧y=[]) else (fun h v x y=>∃d:Value,v=d∧x=[]∧y=[P X d B])) (SfT.mk' l f j c) (fun k hk=>rfl) hTT rfl (fun i=>(cl (by rintro h v x y ⟨_,rfl,rfl,rfl⟩; exact bQ rfl) (by rintro h v x y ⟨_,rfl,rfl,rfl⟩; exact bQ rfl))) bR (by kernel_rfl) (by kernel_rfl)<|show dY _ _ _ _ _ _ _ _ _ _ _ _ _ _ _ _ [0,1,2,3,4,5] _ _ from bz rfl rfl (fun w Sb wb l f j hF=>aP (us:=[a,b,H e]) u101 rfl bV rfl (hF.p 0 rfl rfl)) rfl<|bP 2 rfl ?_
 refine bK (fun h v x y=>∃g:Value,v=g∧x=[U X g s]∧y=[]) [] [] [] _ Z Z (fun h v x y=>Z) Z Z Z Z ⟨_,_,_,undef,Z,Z,Z⟩ (by kernel_rfl) Z (fun w Sl Tl l hTT f j c=>?_) Z ?_
 ·refine bJ (gk  C ((f.rp 2 Z).b c.fr).rp ((f.rp 3 Z).b c.fr).rp) ?_
  rintro g w t
  have c:=c.e t
  exact ⟨_,_,⟨g,Z,Z,Z⟩,SfT.mk' l Rds.nil Off.nil c⟩
 rintro g x_q y_q ⟨_,rfl,rfl,rfl⟩
 refine bK (fun h v x y=>∃d:Value,v=d∧x=[]∧y=[P X d B]) [] [U X g s] [] _ Z Z (fun h v x y=>Z) Z Z Z Z ⟨_,_,_,undef,Z,Z,Z⟩ (by kernel_rfl) Z (fun w Sl Tl l hTT f j c=>?_) Z ?_
 ·replace c:=c.pick (os':=[U X g s]++[Y A [a,b,H e]]) [0,1] (by decide) rfl
  obtain ⟨l,f,j,c⟩:=l.frzK hTT f j c
  refine bJ (n9 e D (l.okT hTT c) (f.i j 0 Z) (f.i j 1 Z) (f.i j 4 Z)) ?_
  rintro d w ⟨_,rfl,t,L⟩
  obtain ⟨ai,ac,l,f,j,c⟩:=l.l f j c t L rfl
  exact ⟨_,_,⟨d,Z,Z,Z⟩,SfT.mk' l (f.pick [5] Z) (j.pick [5] Z) c⟩
 rintro d x_q y_q ⟨_,rfl,rfl,rfl⟩
 refine bP 1 Z<|dH fun w hQ=>?_
 obtain ⟨al,ad,l,f,j,c⟩:=hQ
 refine ak<|az ?_
 cases h
 obtain ⟨ab,hR⟩:=l.outT hTT f j c
 exact ay Z Z ⟨d,Z,ab,(hR.pick [4] Z)⟩
theorem cU {e:World} {f g a1 a2:List UInt32} {b c i j:Value} (d:Int) {r:List UInt32}
  (h:F.Dd f g d a1 a2=some r) (n:RP [] e X b f) (t:RP [] e X c g) (l:RP [] e X i a1) (m:RP [] e X j a2):Calls Tryz.prog 139 #[.agg #[b,c,H d],i,j] e (Ret fun v w=>St [] e w [U X v r]):=by
 refine aB 20 Tryz.func139 Z Z Z<|have a:=St.k e;ax [(0,.agg #[b,c,H d]),(1,i),(2,j)] Z ?_
 unfold F.Dd at h
 refine R<|bh (cu (cs:=[b,c,H d]) Z Z a) Z fun y w a=>V 1 Z<|gl1<|R<|V 2 Z<|J h fun z p h=>bc a Z (fi  p (l.b a.fr).rp (m.b a.fr).rp) Z fun w a=>V 1 Z<|Q ?_
 refine gl9 Z h (fun h=>?_) (fun h=>?_)
 ·refine R<|V 2 Z<|J h fun A q h=>aU a Z (ez  q (l.b a.fr).rp (m.b a.fr).rp) Z fun B w a=>V 1 Z<|gl8 ?_
  cases h
  exact ay Z Z (a.d [0] Z Z)
 refine gl6<|V 1 Z<|N (ao (k:=0) u101 Z Z cZ Z) Z<|N (aw u31 Z Z (a.q 0 Z 0)) Z<|J h fun C s h=>aU a Z (gG  s (l.b a.fr).rp (n.b a.fr).rp) Z fun D w a=>V 1 Z<|J h fun u o h=>aU a Z (ez  o (a.ro 0 Z).rp (m.b a.fr).rp) Z fun x w a=>V 1 Z<|Q<|az ?_
 cases h
 exact ay Z Z (a.d [0] Z Z)
theorem cK {e:World} {g i a1 a2:List UInt32} {b c j l:Value} (d:Int) {r:List UInt32}
  (h:F.Dc g i d a1 a2=some r) (f:RP [] e X b g) (s:RP [] e X c i) (p:RP [] e X j a1) (q:RP [] e X l a2):Calls Tryz.prog 140 #[.agg #[b,c,H d],j,l] e (Ret fun v w=>St [] e w [U X v r]):=by
 refine aB 21 Tryz.func140 Z Z Z<|have a:=St.k e;ax [(0,.agg #[b,c,H d]),(1,j),(2,l)] Z ?_
 unfold F.Dc at h
 refine R<|bh (cu (cs:=[b,c,H d]) Z Z a) Z fun t w a=>V 1 Z<|gl2<|V 2 Z<|J h fun u m h=>aU a Z (gG  m (p.b a.fr).rp (q.b a.fr).rp) Z fun x w a=>V 1 Z<|gl1<|R<|V 1 Z<|N (ao (k:=0) u101 Z Z cZ Z) Z<|N (aw u31 Z Z (a.q 1 Z 0)) Z<|J h fun y n h=>bc a Z (fi  n (a.ro 0 Z).rp (f.b a.fr).rp) Z fun w a=>V 1 Z<|Q ?_
 refine gl9 Z h (fun h=>?_) (fun h=>?_)
 ·refine R<|V 1 Z<|N (ao (k:=0) u101 Z Z cZ Z) Z<|N (aw u31 Z Z (a.q 1 Z 0)) Z<|J h fun z o h=>aU a Z (ez  o (a.ro 0 Z).rp (f.b a.fr).rp) Z fun A w a=>V 1 Z<|gl8 ?_
  cases h
  exact ay Z Z (a.d [0] Z Z)
 refine gl6<|V 2 Z<|Q<|az ?_
 cases h
 exact ay Z Z (a.d [0] Z Z)
theorem iE {w0:World} {ah aj am ac ad:List UInt32} {d e m n o:Value} {T:List Nat} (c:Int) {r:List UInt32×List UInt32×List UInt32}
  (h:F.GK ah aj c am ac ad=some r) (hTT:TOk [] T w0) (bt:RP T w0 X d ah) (bu:RP T w0 X e aj) (bv:RP T w0 X m am) (bw:RP T w0 X n ac) (bA:RP T w0 X o ad):Calls Tryz.prog 93 #[.agg #[d,e,H c],.agg #[m,n,o]] w0 (Ret fun v w=>∃bf:Value,∃bg:Value,∃bi:Value,v=.agg #[bf,bg,bi]∧St [] w0 w []∧Rds T w [P X bi r.2.2,P X bg r.2.1,P X bf r.1]):=by
 refine aB 117 Tryz.func93 Z Z Z<|have a:=St.k w0;have j:=Fz.k (S:=[]) (w0:=w0);?_
 have hA0:Rds T w0 [P X o ad,P X n ac,P X m am,P X e aj,P X d ah]:=M (RP.h (W Z) bA) (M (RP.h (W Z) bw) (M (RP.h (W Z) bv) (M (RP.h (W Z) bu) (M (RP.h (W Z) bt) (Rds.nil)))))
 have b:=hA0.all
 have f:=hA0.off Z
 refine ax [(0,.agg #[d,e,H c]),(1,.agg #[m,n,o])] Z ?_
 unfold F.GK at h
 refine R<|bh (cu (cs:=[d,e,H c]) Z Z a) Z fun A w a=>bh (cu (cs:=[m,n,o]) Z Z a) Z fun ay w a=>bh (ba (cs:=[.slice none 0 0,.slice none 0 0,.slice none 0 0]) lZ Z a) Z fun B w a=>gl1 ?_
 refine aZ (r:=r) (fun (g:Bool) L w=>L=[(2,O A 0),(3,O ay 0),(4,O B 0),(22,K g)]∧SfT [] T w0 w [P X e aj,P X d ah,Y ay [m,n,o],P X o ad,P X n ac,P X m am] [Y A [d,e,H c],Y B [.slice none 0 0,.slice none 0 0,.slice none 0 0]]) (F.Ia ah aj c am ac ad) ?_ ?_
 rotate_left
 ·intro bc
  refine al<|N (ao (k:=2) u104 Z Z cZ Z) Z<|N (aw u31 Z Z (a.q 1 Z 2)) Z<|N (aC u31 Z ((b.rp 4 Z).b a.fr)) Z<|V 2 Z ?_
  cases aA:((ad.length:Int) == 0)
  case true=>
   have h:=cH h aA
   try simp only [aA]
   refine V 5 Z<|Q ?_
   replace a:=a.pick (os':=[Y ay [m,n,o]]++[Y B [.slice none 0 0,.slice none 0 0,.slice none 0 0],Y A [d,e,H c]]) [1,0,2] (by decide) rfl
   obtain ⟨cL,cv,j,b,f,a⟩:=j.frzT hTT b f a
   exact aH (bc true _ _ ⟨Z,(SfT.mk' j (b.pick [1,0,5,4,3,2] Z) (f.pick [1,0,5,4,3,2] Z) (a.d [1,0] Z Z))⟩ h) Z
  case false=>
   have h:=cI h aA
   try simp only [aA]
   refine bE (t:=17) Z Z (ao (k:=1) u104 Z Z cZ Z) Z<|bE (t:=17) Z Z (aw u31 Z Z (a.q 1 Z 1)) Z<|bE (t:=17) Z Z (aC u31 Z ((b.rp 3 Z).b a.fr)) Z<|V 2 Z<|Q ?_
   replace a:=a.pick (os':=[Y ay [m,n,o]]++[Y B [.slice none 0 0,.slice none 0 0,.slice none 0 0],Y A [d,e,H c]]) [1,0,2] (by decide) rfl
   obtain ⟨cw,ce,j,b,f,a⟩:=j.frzT hTT b f a
   exact aH (bc ((ac.length:Int) == 0) _ _ ⟨Z,(SfT.mk' j (b.pick [1,0,5,4,3,2] Z) (f.pick [1,0,5,4,3,2] Z) (a.d [1,0] Z Z))⟩ h) Z
 rintro cx L w hJ h
 try dsimp only at hJ
 obtain ⟨rfl,⟨cy,cf,j,b,f,a⟩⟩:=hJ
 unfold F.Ia at h
 refine gl9 Z h (fun h=>?_) (fun h=>?_)
 ·refine R<|N (bT (vs:=[]) (cells:=[.slice none 0 0,.slice none 0 0,.slice none 0 0]) Z k7 I Z) Z<|bl (bq (i:=1) (us:=[.slice none 0 0,.slice none 0 0,.slice none 0 0]) Z cQ Z Z Z ⟨Z,Z,Z,I⟩ Z a) fun w a=>gl8 ?_
  cases h
  obtain ⟨bj,hR⟩:=j.outT hTT b f a
  exact dc Z ⟨_,Z,bM (us:=[.slice none 0 0,.slice none 0 0,.slice none 0 0]) u104 Z cQ (a.p 1 Z Z)⟩ ⟨.slice none 0 0,.slice none 0 0,.slice none 0 0,Z,bj,(M OE.kept.nil (M OE.kept.nil (M OE.kept.nil Rds.nil)))⟩
 refine gl6<|N (aP (us:=[d,e,H c]) u101 Z bV Z (a.p 0 Z Z)) Z<|N (ao (k:=2) u104 Z Z cZ Z) Z<|N (aw u31 Z Z ((b.rb 3 Z).cell a.fr 2 Z)) Z<|N (ao (k:=2) u104 Z Z cZ Z) Z<|N (aw u31 Z Z ((b.rb 3 Z).cell a.fr 2 Z)) Z ?_
 replace a:=a.pick (os':=[]++[Y A [d,e,H c],Y B [.slice none 0 0,.slice none 0 0,.slice none 0 0]]) [0,1] (by decide) rfl
 obtain ⟨j,b,f,a⟩:=j.frzK hTT b f a
 refine J h fun aT bB h=>aG Z (bp c bB (j.okT hTT a) (b.i f 4 Z) (b.i f 5 Z) (b.i f 2 Z) (b.i f 2 Z)) Z ?_
 rintro aD w ⟨_,rfl,l,D⟩
 obtain ⟨cA,cg,j,b,f,a⟩:=j.l b f a l D rfl
 refine V 1 rfl<|gl1<|J h fun aE bC h=>J h fun aF bD h=>J h fun aI bF h=>cO (es:=[P X aD aT,P X e aj,P X d ah,Y ay [m,n,o],P X o ad,P X n ac,P X m am]) (os:=[Y A [d,e,H c],Y B [.slice none 0 0,.slice none 0 0,.slice none 0 0]]) (fun i=>[5,10,11].contains i) (fun i=>if i=5 then some 11 else if i=10 then some 11 else none) (fun i=>[]) (fun i=>[]) (fun i=>[]) (fun i=>[]) (fun i=>if i=5 then (fun h v x y=>∃E:Value,v=E∧x=[U X E aE]∧y=[]) else if i=10 then (fun h v x y=>∃G:Value,v=G∧x=[U X G aF]∧y=[]) else (fun h v x y=>∃u:Value,v=u∧x=[]∧y=[P X u aI])) (SfT.mk' j b f a) (fun k hk=>rfl) hTT rfl (fun i=>(cl (by rintro h v x y ⟨_,rfl,rfl,rfl⟩; exact bQ rfl) (cl (by rintro h v x y ⟨_,rfl,rfl,rfl⟩; exact bQ rfl) (by rintro h v x y ⟨_,rfl,rfl,rfl⟩; exact bQ rfl)))) bR (by kernel_rfl) (by kernel_rfl)<|show dY _ _ _ _ _ _ _ _ _ _ _ _ _ _ _ _ [0,1,2,3,4,5,6,7,8,9,10,11,12] _ _ from bz rfl rfl (fun w Sb wb j b f s=>aP (us:=[d,e,H c]) u101 rfl bV rfl (s.p 0 rfl rfl)) rfl<|bz rfl rfl (fun w Sb wb j b f s=>aP (us:=[d,e,H c]) u101 rfl bV rfl (s.p 0 rfl rfl)) rfl<|bz rfl rfl (fun w Sb wb j b f s=>ao (k:=0) u104 rfl rfl cZ rfl) rfl ?_
 refine bz Z Z (fun w Sb wb j b f s=>aw u31 Z Z ((b.rb 3 Z).cell s.fr 0 Z)) Z<|bP 1 Z ?_
 refine bK (fun h v x y=>∃E:Value,v=E∧x=[U X E aE]∧y=[]) [] [] [] _ Z Z (fun h v x y=>Z) Z Z Z Z ⟨_,_,_,undef,Z,Z,Z⟩ (by kernel_rfl) Z (fun w Sl Tl j hTT b f a=>?_) Z ?_
 ·refine bJ (cU c bC ((b.rp 4 Z).b a.fr).rp ((b.rp 5 Z).b a.fr).rp ((b.rp 0 Z).b a.fr).rp ((b.rp 6 Z).b a.fr).rp) ?_
  rintro E w l
  have a:=a.e l
  exact ⟨_,_,⟨E,Z,Z,Z⟩,SfT.mk' j Rds.nil Off.nil a⟩
 rintro E x_q y_q ⟨_,rfl,rfl,rfl⟩
 refine bz Z Z (fun w Sb wb j b f s=>aP (us:=[d,e,H c]) u101 Z bV Z (s.p 0 Z Z)) Z<|bz Z Z (fun w Sb wb j b f s=>ao (k:=0) u104 Z Z cZ Z) Z<|bz Z Z (fun w Sb wb j b f s=>aw u31 Z Z ((b.rb 3 Z).cell s.fr 0 Z)) Z<|bP 1 Z ?_
 refine bK (fun h v x y=>∃G:Value,v=G∧x=[U X G aF]∧y=[]) [] [] [] _ Z Z (fun h v x y=>Z) Z Z Z Z ⟨_,_,_,undef,Z,Z,Z⟩ (by kernel_rfl) Z (fun w Sl Tl j hTT b f a=>?_) Z ?_
 ·refine bJ (cK c bD ((b.rp 4 Z).b a.fr).rp ((b.rp 5 Z).b a.fr).rp ((b.rp 0 Z).b a.fr).rp ((b.rp 6 Z).b a.fr).rp) ?_
  rintro G w l
  have a:=a.e l
  exact ⟨_,_,⟨G,Z,Z,Z⟩,SfT.mk' j Rds.nil Off.nil a⟩
 rintro G x_q y_q ⟨_,rfl,rfl,rfl⟩
 refine bK (fun h v x y=>∃u:Value,v=u∧x=[]∧y=[P X u aI]) [] [U X E aE,U X G aF] [] _ Z Z (fun h v x y=>Z) Z Z Z Z ⟨_,_,_,undef,Z,Z,Z⟩ (by kernel_rfl) Z (fun w Sl Tl j hTT b f a=>?_) Z ?_
 ·replace a:=a.pick (os':=[U X E aE,U X G aF]++[Y A [d,e,H c],Y B [.slice none 0 0,.slice none 0 0,.slice none 0 0]]) [0,1,2,3] (by decide) rfl
  obtain ⟨j,b,f,a⟩:=j.frzK hTT b f a
  refine bJ (bp c bF (j.okT hTT a) (b.i f 4 Z) (b.i f 5 Z) (b.i f 8 Z) (b.i f 7 Z)) ?_
  rintro u w ⟨_,rfl,l,D⟩
  obtain ⟨cB,ch,j,b,f,a⟩:=j.l b f a l D rfl
  exact ⟨_,_,⟨u,Z,Z,Z⟩,SfT.mk' j (b.pick [9] Z) (f.pick [9] Z) a⟩
 rintro u x_q y_q ⟨_,rfl,rfl,rfl⟩
 refine bP 1 Z<|dH fun w hQ=>?_
 obtain ⟨b6,bG,j,b,f,a⟩:=hQ
 refine ak<|av<|aX (fun w'=>St b6 bG w' [Y A [d,e,H c],Y B [.slice none 0 0,.slice none 0 0,.slice none 0 0]]) (fun i=>!([5,6].contains i)) bR (fun _ _ _ hf=>hf.2) (fun _ _ hf=>hf) (by kernel_rfl)<|have a:=a.drew;show lxE _ _ _ _ _ _ _ [0,1,2,3,4,5,6,7] _ _ from ai a Z Z (fun w s=>aP (us:=[d,e,H c]) u101 Z bV Z (s.p 0 Z Z)) Z<|an 1 Z a<|ai a Z Z (fun w s=>aP (us:=[d,e,H c]) u101 Z bV Z (s.p 0 Z Z)) Z<|an 2 Z a<|J h fun aV bH h=>bb a Z Z (by kernel_rfl) Z (cK c bH ((b.rp 4 Z).b a.fr).rp ((b.rp 5 Z).b a.fr).rp ((b.rp 7 Z).b a.fr).rp ((b.rp 7 Z).b a.fr).rp) Z fun aW w l=>have a:=a.e l;J h fun aY bI h=>bb (a.d [1,2] Z Z) Z Z (by kernel_rfl) Z (cK c bI ((b.rp 4 Z).b a.fr).rp ((b.rp 5 Z).b a.fr).rp ((b.rp 7 Z).b a.fr).rp (a.ro 0 Z).rp) Z fun a0 w l=>have a:=a.e l;an 1 Z (a.d [2,3] Z Z)<|bn (a.d [2,3] Z Z)<|ak<|R<|N (aP (us:=[d,e,H c]) u101 Z bV Z (a.p 2 Z Z)) Z<|N (ao (k:=1) u104 Z Z cZ Z) Z<|N (aw u31 Z Z ((b.rb 3 Z).cell a.fr 1 Z)) Z<|N (ao (k:=1) u104 Z Z cZ Z) Z<|N (aw u31 Z Z ((b.rb 3 Z).cell a.fr 1 Z)) Z ?_
 replace a:=a.pick (os':=[U X a0 aY,U X aW aV]++[Y A [d,e,H c],Y B [.slice none 0 0,.slice none 0 0,.slice none 0 0]]) [0,1,2,3] (by decide) rfl
 obtain ⟨j,b,f,a⟩:=j.frzK hTT b f a
 refine J h fun bm bL h=>aG Z (bp c bL (j.okT hTT a) (b.i f 4 Z) (b.i f 5 Z) (b.i f 1 Z) (b.i f 1 Z)) Z ?_
 rintro bd w ⟨_,rfl,l,D⟩
 obtain ⟨cC,ci,j,b,f,a⟩:=j.l b f a l D rfl
 refine V 1 Z<|gl2<|N (aP (us:=[d,e,H c]) u101 Z bV Z (a.p 0 Z Z)) Z<|N (ao (k:=0) u104 Z Z cZ Z) Z<|N (aw u31 Z Z ((b.rb 3 Z).cell a.fr 0 Z)) Z<|V 1 Z ?_
 replace a:=a.pick (os':=[]++[Y A [d,e,H c],Y B [.slice none 0 0,.slice none 0 0,.slice none 0 0]]) [0,1] (by decide) rfl
 obtain ⟨j,b,f,a⟩:=j.frzK hTT b f a
 refine J h fun bo bN h=>aG Z (bp c bN (j.okT hTT a) (b.i f 4 Z) (b.i f 5 Z) (b.i f 0 Z) (b.i f 10 Z)) Z ?_
 rintro be w ⟨_,rfl,l,D⟩
 obtain ⟨cD,cj,j,b,f,a⟩:=j.l b f a l D rfl
 refine V 1 rfl<|gl2<|N (aP (us:=[d,e,H c]) u101 rfl bV rfl (a.p 0 rfl rfl)) rfl<|V 2 rfl<|J h fun aJ bO h=>aU a rfl (cK c bO ((b.rp 4 rfl).b a.fr).rp ((b.rp 5 rfl).b a.fr).rp ((b.rp 11 rfl).b a.fr).rp ((b.rp 11 rfl).b a.fr).rp) rfl fun aK w a=>V 1 rfl<|gl2<|N (aP (us:=[d,e,H c]) u101 rfl bV rfl (a.p 1 rfl rfl)) rfl<|V 2 rfl<|J h fun aL bS h=>aU a rfl (cK c bS ((b.rp 4 rfl).b a.fr).rp ((b.rp 5 rfl).b a.fr).rp (a.ro 0 rfl).rp (a.ro 0 rfl).rp) rfl fun aM w a=>V 1 rfl<|gl1<|J h fun aN bU h=>J h fun a1 bW h=>J h fun aO bX h=>cO (es:=[P X be bo,P X bd bm,P X a0 aY,P X aW aV,P X u aI,P X aD aT,P X e aj,P X d ah,Y ay [m,n,o],P X o ad,P X n ac,P X m am]) (os:=[U X aM aL,U X aK aJ,Y A [d,e,H c],Y B [.slice none 0 0,.slice none 0 0,.slice none 0 0]]) (fun i=>[4,8,9].contains i) (fun i=>if i=8 then some 9 else none) (fun i=>if i=9 then [4] else []) (fun i=>[]) (fun i=>[]) (fun i=>[]) (fun i=>if i=4 then (fun h v x y=>∃z:Value,v=z∧x=[]∧y=[P X z aN]) else if i=8 then (fun h v x y=>∃ae:Value,v=ae∧x=[U X ae a1]∧y=[]) else (fun h v x y=>∃p:Value,v=p∧x=[U X p aO]∧y=[])) (SfT.mk' j b f a) (fun k hk=>rfl) hTT rfl (fun i=>(cl (by rintro h v x y ⟨_,rfl,rfl,rfl⟩; exact bQ rfl) (cl (by rintro h v x y ⟨_,rfl,rfl,rfl⟩; exact bQ rfl) (by rintro h v x y ⟨_,rfl,rfl,rfl⟩; exact bQ rfl)))) bR (by kernel_rfl) (by kernel_rfl) ?_
 show dY _ _ _ _ _ _ _ _ _ _ _ _ _ _ _ _ [0,1,2,3,4,5,6,7,8,9,10] _ _
 refine bz Z Z (fun w Sb wb j b f s=>aP (us:=[d,e,H c]) u101 Z bV Z (s.p 2 Z Z)) Z<|bz Z Z (fun w Sb wb j b f s=>aP (us:=[d,e,H c]) u101 Z bV Z (s.p 2 Z Z)) Z<|bP 2 Z ?_
 refine bK (fun h v x y=>∃z:Value,v=z∧x=[]∧y=[P X z aN]) [] [] [] _ Z Z (fun h v x y=>Z) Z Z Z Z ⟨_,_,_,undef,Z,Z,Z⟩ (by kernel_rfl) Z (fun w Sl Tl j hTT b f a=>?_) Z ?_
 ·replace a:=a.pick (os':=[]++[U X aM aL,U X aK aJ,Y A [d,e,H c],Y B [.slice none 0 0,.slice none 0 0,.slice none 0 0]]) [0,1,2,3] (by decide) rfl
  obtain ⟨j,b,f,a⟩:=j.frzK hTT b f a
  refine bJ (bp c bU (j.okT hTT a) (b.i f 4 Z) (b.i f 5 Z) (b.i f 9 Z) (b.i f 9 Z)) ?_
  rintro z w ⟨_,rfl,l,D⟩
  obtain ⟨cE,ck,j,b,f,a⟩:=j.l b f a l D rfl
  exact ⟨_,_,⟨z,Z,Z,Z⟩,SfT.mk' j (b.pick [12] Z) (f.pick [12] Z) a⟩
 rintro z x_q y_q ⟨_,rfl,rfl,rfl⟩
 refine bz Z Z (fun w Sb wb j b f s=>aP (us:=[d,e,H c]) u101 Z bV Z (s.p 2 Z Z)) Z<|bP 2 Z ?_
 refine bK (fun h v x y=>∃ae:Value,v=ae∧x=[U X ae a1]∧y=[]) [] [] [] _ Z Z (fun h v x y=>Z) Z Z Z Z ⟨_,_,_,undef,Z,Z,Z⟩ (by kernel_rfl) Z (fun w Sl Tl j hTT b f a=>?_) Z ?_
 ·refine bJ (cK c bW ((b.rp 4 Z).b a.fr).rp ((b.rp 5 Z).b a.fr).rp (a.ro 0 Z).rp (a.ro 0 Z).rp) ?_
  rintro ae w l
  have a:=a.e l
  exact ⟨_,_,⟨ae,Z,Z,Z⟩,SfT.mk' j Rds.nil Off.nil a⟩
 rintro ae x_q y_q ⟨_,rfl,rfl,rfl⟩
 refine bK (fun h v x y=>∃p:Value,v=p∧x=[U X p aO]∧y=[]) [] [U X ae a1] [P X z aN] _ Z Z (fun h v x y=>Z) Z Z Z Z ⟨_,_,_,undef,Z,Z,Z⟩ (by kernel_rfl) Z (fun w Sl Tl j hTT b f a=>?_) Z ?_
 ·refine bJ (cU c bX ((b.rp 4 Z).b a.fr).rp ((b.rp 5 Z).b a.fr).rp ((b.rp 12 Z).b a.fr).rp (a.ro 0 Z).rp) ?_
  rintro p w l
  have a:=a.e l
  exact ⟨_,_,⟨p,Z,Z,Z⟩,SfT.mk' j Rds.nil Off.nil (a.d [0,2,3,4,5] Z Z)⟩
 rintro p x_q y_q ⟨_,rfl,rfl,rfl⟩
 refine bP 1 Z<|dH fun w hQ=>?_
 obtain ⟨cF,cm,j,b,f,a⟩:=hQ
 refine ak<|R<|N (aP (us:=[d,e,H c]) u101 Z bV Z (a.p 3 Z Z)) Z<|V 2 Z ?_
 replace a:=a.pick (os':=[U X p aO,U X aM aL,U X aK aJ]++[Y A [d,e,H c],Y B [.slice none 0 0,.slice none 0 0,.slice none 0 0]]) [0,1,2,3,4] (by decide) rfl
 obtain ⟨j,b,f,a⟩:=j.frzK hTT b f a
 refine J h fun b8 bY h=>aG Z (bp c bY (j.okT hTT a) (b.i f 4 Z) (b.i f 5 Z) (b.i f 10 Z) (b.i f 10 Z)) Z ?_
 rintro bZ w ⟨_,rfl,l,D⟩
 obtain ⟨cG,cn,j,b,f,a⟩:=j.l b f a l D rfl
 refine V 1 rfl<|gl2<|N (aP (us:=[d,e,H c]) u101 rfl bV rfl (a.p 0 rfl rfl)) rfl<|V 2 rfl<|J h fun a2 b0 h=>aU a rfl (cK c b0 ((b.rp 4 rfl).b a.fr).rp ((b.rp 5 rfl).b a.fr).rp ((b.rp 16 rfl).b a.fr).rp ((b.rp 16 rfl).b a.fr).rp) rfl fun a3 w a=>V 1 rfl<|gl2<|N (aP (us:=[d,e,H c]) u101 rfl bV rfl (a.p 1 rfl rfl)) rfl<|V 2 rfl<|J h fun a4 b1 h=>aU a rfl (cK c b1 ((b.rp 4 rfl).b a.fr).rp ((b.rp 5 rfl).b a.fr).rp (a.ro 0 rfl).rp (a.ro 0 rfl).rp) rfl fun a5 w a=>V 1 rfl<|gl2<|N (aP (us:=[d,e,H c]) u101 rfl bV rfl (a.p 2 rfl rfl)) rfl<|V 2 rfl<|J h fun a6 b2 h=>aU a rfl (cK c b2 ((b.rp 4 rfl).b a.fr).rp ((b.rp 5 rfl).b a.fr).rp (a.ro 0 rfl).rp (a.ro 0 rfl).rp) rfl fun a7 w a=>V 1 rfl<|gl1<|J h fun aQ b3 h=>J h fun a8 b4 h=>J h fun a9 b5 h=>cO (es:=[P X bZ b8,P X p aO,P X aM aL,P X aK aJ,P X z aN,P X be bo,P X bd bm,P X a0 aY,P X aW aV,P X u aI,P X aD aT,P X e aj,P X d ah,Y ay [m,n,o],P X o ad,P X n ac,P X m am]) (os:=[U X a7 a6,U X a5 a4,U X a3 a2,Y A [d,e,H c],Y B [.slice none 0 0,.slice none 0 0,.slice none 0 0]]) (fun i=>[6,7,9].contains i) (fun i=>if i=6 then some 7 else none) (fun i=>if i=9 then [7] else []) (fun i=>[]) (fun i=>[]) (fun i=>[]) (fun i=>if i=6 then (fun h v x y=>∃ab:Value,v=ab∧x=[U X ab aQ]∧y=[]) else if i=7 then (fun h v x y=>∃C:Value,v=C∧x=[]∧y=[P X C a8]) else (fun h v x y=>∃q:Value,v=q∧x=[U X q a9]∧y=[])) (SfT.mk' j b f a) (fun k hk=>rfl) hTT rfl (fun i=>(cl (by rintro h v x y ⟨_,rfl,rfl,rfl⟩; exact bQ rfl) (cl (by rintro h v x y ⟨_,rfl,rfl,rfl⟩; exact bQ rfl) (by rintro h v x y ⟨_,rfl,rfl,rfl⟩; exact bQ rfl)))) bR (by kernel_rfl) (by kernel_rfl) ?_
 show dY _ _ _ _ _ _ _ _ _ _ _ _ _ _ _ _ [0,1,2,3,4,5,6,7,8,9,10] _ _
 refine bz Z Z (fun w Sb wb j b f s=>aP (us:=[d,e,H c]) u101 Z bV Z (s.p 3 Z Z)) Z<|bz Z Z (fun w Sb wb j b f s=>aP (us:=[d,e,H c]) u101 Z bV Z (s.p 3 Z Z)) Z<|bP 1 Z<|bz Z Z (fun w Sb wb j b f s=>aP (us:=[d,e,H c]) u101 Z bV Z (s.p 3 Z Z)) Z<|bP 2 Z ?_
 refine bK (fun h v x y=>∃ab:Value,v=ab∧x=[U X ab aQ]∧y=[]) [] [] [] _ Z Z (fun h v x y=>Z) Z Z Z Z ⟨_,_,_,undef,Z,Z,Z⟩ (by kernel_rfl) Z (fun w Sl Tl j hTT b f a=>?_) Z ?_
 ·refine bJ (cU c b3 ((b.rp 4 Z).b a.fr).rp ((b.rp 5 Z).b a.fr).rp ((b.rp 14 Z).b a.fr).rp ((b.rp 15 Z).b a.fr).rp) ?_
  rintro ab w l
  have a:=a.e l
  exact ⟨_,_,⟨ab,Z,Z,Z⟩,SfT.mk' j Rds.nil Off.nil a⟩
 rintro ab x_q y_q ⟨_,rfl,rfl,rfl⟩
 refine bK (fun h v x y=>∃C:Value,v=C∧x=[]∧y=[P X C a8]) [] [U X ab aQ] [] _ Z Z (fun h v x y=>Z) Z Z Z Z ⟨_,_,_,undef,Z,Z,Z⟩ (by kernel_rfl) Z (fun w Sl Tl j hTT b f a=>?_) Z ?_
 ·replace a:=a.pick (os':=[U X ab aQ]++[U X a7 a6,U X a5 a4,U X a3 a2,Y A [d,e,H c],Y B [.slice none 0 0,.slice none 0 0,.slice none 0 0]]) [0,1,2,3,4,5] (by decide) rfl
  obtain ⟨j,b,f,a⟩:=j.frzK hTT b f a
  refine bJ (bp c b4 (j.okT hTT a) (b.i f 4 Z) (b.i f 5 Z) (b.i f 9 Z) (b.i f 17 Z)) ?_
  rintro C w ⟨_,rfl,l,D⟩
  obtain ⟨cJ,co,j,b,f,a⟩:=j.l b f a l D rfl
  exact ⟨_,_,⟨C,Z,Z,Z⟩,SfT.mk' j (b.pick [18] Z) (f.pick [18] Z) a⟩
 rintro C x_q y_q ⟨_,rfl,rfl,rfl⟩
 refine bP 1 Z ?_
 refine bK (fun h v x y=>∃q:Value,v=q∧x=[U X q a9]∧y=[]) [] [] [P X C a8] _ Z Z (fun h v x y=>Z) Z Z Z Z ⟨_,_,_,undef,Z,Z,Z⟩ (by kernel_rfl) Z (fun w Sl Tl j hTT b f a=>?_) Z ?_
 ·refine bJ (cU c b5 ((b.rp 4 Z).b a.fr).rp ((b.rp 5 Z).b a.fr).rp ((b.rp 17 Z).b a.fr).rp (a.ro 0 Z).rp) ?_
  rintro q w l
  have a:=a.e l
  exact ⟨_,_,⟨q,Z,Z,Z⟩,SfT.mk' j Rds.nil Off.nil a⟩
 rintro q x_q y_q ⟨_,rfl,rfl,rfl⟩
 refine bP 1 Z<|dH fun w hQ=>?_
 obtain ⟨cp,cb,j,b,f,a⟩:=hQ
 refine ak<|R<|N (aP (us:=[d,e,H c]) u101 Z bV Z (a.p 4 Z Z)) Z<|N (ao (k:=1) u104 Z Z cZ Z) Z<|N (aw u31 Z Z ((b.rb 3 Z).cell a.fr 1 Z)) Z<|N (ao (k:=2) u104 Z Z cZ Z) Z<|N (aw u31 Z Z ((b.rb 3 Z).cell a.fr 2 Z)) Z ?_
 replace a:=a.pick (os':=[U X q a9,U X a7 a6,U X a5 a4,U X a3 a2]++[Y A [d,e,H c],Y B [.slice none 0 0,.slice none 0 0,.slice none 0 0]]) [0,1,2,3,4,5] (by decide) rfl
 obtain ⟨j,b,f,a⟩:=j.frzK hTT b f a
 refine J h fun cq br h=>aG Z (bp c br (j.okT hTT a) (b.i f 4 Z) (b.i f 5 Z) (b.i f 1 Z) (b.i f 2 Z)) Z ?_
 rintro cc w ⟨_,rfl,l,D⟩
 obtain ⟨cr,cd,j,b,f,a⟩:=j.l b f a l D rfl
 refine V 1 Z<|gl2<|V 2 Z<|N (aP (us:=[d,e,H c]) u101 Z bV Z (a.p 0 Z Z)) Z<|V 2 Z<|J h fun ct bs h=>aU a Z (cK c bs ((b.rp 4 Z).b a.fr).rp ((b.rp 5 Z).b a.fr).rp ((b.rp 22 Z).b a.fr).rp ((b.rp 22 Z).b a.fr).rp) Z fun ap w a=>N (bT (vs:=[(0,p,[p]),(1,q,[q]),(2,ap,[ap])]) (cells:=[p,q,ap]) Z k7 ⟨(cz ((b.rp 15 Z).b a.fr).one),(cz ((b.rp 21 Z).b a.fr).one),(cz (a.ro 0 Z).one),I⟩ Z) Z<|bl (bq (i:=2) (us:=[p,q,ap]) Z cQ Z Z Z ⟨((b.rp 15 Z).b a.fr).one,((b.rp 21 Z).b a.fr).one,(a.ro 0 Z).one,I⟩ Z a) fun w a=>Q<|az ?_
 cases h
 obtain ⟨bj,hR⟩:=j.outT hTT b f a
 exact dc Z ⟨_,Z,bM (us:=[p,q,ap]) u104 Z cQ (a.p 2 Z Z)⟩ ⟨p,q,ap,Z,bj,(hR.pick [25,21,15] Z)⟩
end Go.Proofs
