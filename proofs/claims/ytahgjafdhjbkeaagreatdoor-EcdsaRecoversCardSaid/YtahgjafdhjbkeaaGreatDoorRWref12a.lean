import Derived.Test.YtahgjafdhjbkeaaGreatDoorRW0
import Derived.Test.YtahgjafdhjbkeaaGreatDoorGkFman
import Derived.Test.YtahgjafdhjbkeaaGreatDoorRWref11
import Derived.Test.YtahgjafdhjbkeaaGreatDoorRWref4
import Derived.Test.YtahgjafdhjbkeaaGreatDoorRWref7
set_option linter.unusedVariables false
set_option linter.unusedSimpArgs false
set_option linter.unusedSectionVars false
set_option maxRecDepth 4000
namespace Go.Proofs
open Go Go.RowKit Go.Gk
open Go.Gk renaming aa -> V, af -> J, ag -> N, ai -> H, e32 -> X, gl3 -> P, gl4 -> R, own -> U, pB -> O, red -> Q, vB -> K, vI -> I
open Nat renaming le_of_ble_eq_true -> W
open Go.Gk.OE renaming bx -> Y
open Go.Gk.Rds renaming cons -> M
theorem qB {m:World} {a0:L1} {f:Value} {r:L0}
  (h:F.Il a0=some r) (g:RP [] m e8 f a0):Calls Tryz.prog 30 #[f] m (Ret fun v w=>St [] m w [U X v r]):=by
 refine aB 42 Tryz.func30 Z Z Z<|have a:=St.k m;ax [(0,f)] Z ?_
 unfold F.Il at h
 refine R<|V 1 Z<|gl2<|V 1 Z<|N (aC u24 Z (g.b a.fr)) Z<|V 1 Z<|N (aj Z Z (dW _ (wI ((a0.length:Int)+3)) 4 (by decide))) Z<|J h fun B x h=>bC (c9 (e:=X) u31 aN Z Z Z a x) Z fun j w a=>V 1 Z<|gl1<|R<|V 1 Z<|P<|aq<|ax [(0,f),(3,j),(4,I 0)] Z ?_
 refine aT (F.Fu a0) (fun (s:Int×L0) L w=>L=[(0,f),(3,j),(4,I s.1)]/\St [] m w [U X j s.2]) ?_ (0,B) ⟨Z,a⟩ h
 rintro E ⟨c,C⟩ L w ab D y h n
 try dsimp only at D
 obtain⟨rfl,a⟩:=D
 unfold F.Fu at h
 refine aw<|R<|V 2 Z<|N (aC u24 Z (g.b a.fr)) Z<|V 1 Z<|P ?_
 apply gl9 Z h<;>intro h
 ·refine gl5<|aw<|aq<|dk (fun w'=>St [] m w' [U X j C]) (fun i=>!([24].contains i)) bQ (fun _ _ _ z=>z.2) (fun _ _ z=>z) (by kernel_rfl)<|have a:=a.drew;show lxE _ _ _ _ _ _ _ [0,1,2,3,4,5,6,7,8,9,10,11,12,13,14,15,16,17,18,19,20,21,22,23,24] _ _ from ao 2 Z a<|H a Z Z (fun w b=>aj Z Z (dW _ c 4 (by decide))) Z<|ao 2 Z a<|H a Z Z (fun w b=>aj Z Z (dW _ c 4 (by decide))) Z<|J h fun u o h=>H a Z Z (fun w b=>bk u31 aN Z Z (b.ro 0 Z) o) Z<|H a Z Z (fun w b=>a9 u38 Z Z (b.ro 0 Z) o Z) Z<|ao 2 Z a<|H a Z Z (fun w b=>aC u24 Z (g.b b.fr)) Z<|ao 3 Z a<|J h fun d k h=>H a Z Z (fun w b=>bk u24 ti5 Z Z (g.b b.fr) k) Z<|H a Z Z (fun w b=>a9 Tryz.underlying5 Z Z (g.b b.fr) k Z) Z<|H a Z Z (fun w b=>aD Z (fv Tryz.underlying5 u38 d)) Z<|ao 1 Z a<|H a Z Z (fun w b=>aj Z Z (fO _ c 4 (by decide))) Z<|H a Z Z (fun w b=>aj Z Z (el _ 8 (Int.tmod c 4))) Z<|H a Z Z (fun w b=>aD Z (dC u3 u87 (wI (8*(Int.tmod c 4))))) Z<|H a Z Z (fun w b=>aj Z Z (ei _ d.toUInt32 (UInt64.ofInt (wI (8*(Int.tmod c 4)))))) Z<|H a Z Z (fun w b=>aj Z Z (eB _ u (bP d.toUInt32 ((UInt64.ofInt (wI (8*(Int.tmod c 4)))).toNat)))) Z ?_
  refine J h fun G l h=>H a Z Z (fun w b=>bk u31 aN Z Z (b.ro 0 Z) l) Z<|f9 a Z Z (bX (t:=(u ||| (bP d.toUInt32 ((UInt64.ofInt (wI (8*(Int.tmod c 4)))).toNat)))) aN Z Z a (i:=0) Z l Z) fun w a=>aZ h fun A p h=>?_
  rw[p]at a
  exact bp trivial<|aF<|ak<|al<|V 3 Z<|aE<|bd (bc (y (wI (c+1),A) _ _ ⟨Z,a⟩ (aK h n)) Z)
 refine aQ<|av<|av<|have h:=aI h n;aR<|ak<|R<|V 1 Z<|J h fun S q h=>aV a Z (dl  q (a.ro 0 Z).rp) Z fun T w a=>V 1 Z<|P<|ay ?_
 cases h
 exact az Z Z (a.d [0] Z Z)
theorem pI {c:World} {a2:L1} {d:Value} (a0 a1:Int) {r:L0}
  (h:F.In a0 a1 a2=some r) (t:TB [] c) (q:RP [] c e8 d a2):Calls Tryz.prog 29 #[I a0,I a1,d] c (Ret fun v w=>St [] c w [U X v r]):=by
 refine aB 22 Tryz.func29 Z Z Z<|have a:=St.k c;ax [(0,I a0),(1,I a1),(2,d)] Z ?_
 unfold F.In at h
 refine R<|V 1 Z<|gl2<|V 2 Z<|J h fun k n h=>aV a Z (vZ a0 n (t.b a.fr) (q.b a.fr).rp) Z fun l w a=>V 1 Z<|P ?_
 refine a8 (r:=r) (fun (g:L1) L w=>∃(e:Value),L=[(7,e)]/\St [] c w [U e8 e g]) (F.G3) ?_ ?_
 rotate_left
 ·intro b
  refine R<|V 1 Z<|N (aC u24 Z (a.ro 0 Z)) Z<|V 1 Z<|J h fun y o h=>bf a Z (fQ a1 o ) Z fun w a=>V 1 Z<|P ?_
  apply gl9 Z h<;>intro h
  ·exact al<|V 2 Z<|J h fun m p h=>bf a Z (fQ a1 p ) Z fun w a=>c7 h fun f h=>N (jH u24 ti5 Z Z (a.ro 0 Z) (gu f)) Z<|V 1 Z<|P<|aG (b (k.take ((m:Int).toNat)) _ _ ⟨slV l e8.sz 0 ((m:Int).toNat),Z,(a.trunc (i:=0) Z f.2)⟩ h) Z
  exact gl5<|aG (b k _ _ ⟨l,Z,a⟩ h) Z
 rintro z L w s h
 try dsimp only at s
 obtain⟨e,rfl,a⟩:=s
 unfold F.G3 at h
 refine R<|V 1 Z<|J h fun u j h=>aV a Z (qB  j (a.ro 0 Z).rp) Z fun x w a=>V 1 Z<|P<|ay ?_
 cases h
 exact az Z Z (a.d [0] Z Z)
theorem li {c:World} {a0 a1:L0} {d e:Value} {r:Bool}
  (h:F.GK a0 a1=some r) (f:RP [] c X d a0) (j:RP [] c X e a1):Calls Tryz.prog 36 #[d,e] c (Ret fun v w=>v=K r/\St [] c w []):=by
 refine aB 15 Tryz.func36 Z Z Z<|have a:=St.k c;ax [(0,d),(1,e)] Z ?_
 unfold F.GK at h
 refine R<|V 1 Z<|gl2<|V 1 Z<|J h fun k g h=>aV a Z (dl  g (f.b a.fr).rp) Z fun m w a=>N (aC u31 Z (a.ro 0 Z)) Z<|V 2 Z ?_
 cases b:(decide ((0:Int)<(k.length:Int)))
 case true=>
  have h:=cz h b
  try simp only[b]
  refine V 2 Z<|J h fun n i h=>cw (t:=9) Z Z (by kernel_rfl) Z (fE  i (f.b a.fr).rp (j.b a.fr).rp) Z ?_
  rintro _ w ⟨rfl,l⟩
  have a:=a.e l
  refine V 3 Z<|P<|ay ?_
  cases h
  exact az Z Z ⟨Z,a.d [] Z Z⟩
 case false=>
  have h:=cA h b
  try simp only[b]
  refine V 6 Z<|P<|ay ?_
  cases h
  exact az Z Z ⟨Z,a.d [] Z Z⟩
theorem rT {f:World} (a0:Int) {r:L0×L0×Int}
  (h:F.IA a0=some r) :Calls Tryz.prog 90 #[I a0] f (Ret fun v w=>∃g j:Value,v=.agg #[g,j,I r.2.2]/\St [] f w [U X g r.1,U X j r.2.1]):=by
 refine aB 30 Tryz.func90 Z Z Z<|have a:=St.k f;have p:=Fz.k (S:=[]) (w0:=f);?_
 have hTT:TOk [] [] f:=TOk.nil
 have B:Rds [] f []:=Rds.nil
 have C:Off [] []:=Off.emp
 refine ax [(0,I a0)] Z ?_
 unfold F.IA at h
 refine R<|bg (bb (cs:=[L3,L3,I 0]) Aq Z a) Z fun x w a=>gl2<|V 1 Z<|J h fun c n h=>aV a Z (fw a0 n ) Z fun d w a=>V 1 Z<|gl2<|V 1 Z<|N (aC u31 Z (a.ro 0 Z)) Z<|V 1 Z<|gl2<|V 1 Z<|N (aj Z Z (el _ 2 (c.length:Int))) Z<|V 1 Z<|J h fun y o h=>bC (c9 (e:=X) u31 aN Z Z Z a o) Z fun z w a=>V 1 Z<|gl2<|V 2 Z<|N (aj Z Z (el _ 2 (c.length:Int))) Z<|J h fun A k h=>N (bk u31 aN Z Z (a.ro 0 Z) k) Z<|bo (bX (t:=1) aN Z Z a (i:=0) Z k Z) fun w a=>aZ h fun q l h=>?_
 rw[l]at a
 refine gl2<|V 2 Z<|J h fun s m h=>bE a Z (gS  m (a.ro 0 Z).rp (a.ro 1 Z).rp) Z fun b u w a=>V 5 Z<|gl2<|V 3 Z<|N (cb (vs:=[(0,d,[d]),(1,b,[b]),(2,I (c.length:Int),[I (c.length:Int)])]) (cells:=[d,b,I (c.length:Int)]) Z CH ⟨(cK (a.ro 3 Z).one),(cK (a.ro 0 Z).one),Z,trivial⟩ Z) Z<|bo (bz (i:=4) (us:=[d,b,I (c.length:Int)]) Z bU Z Z Z ⟨(a.ro 3 Z).one,(a.ro 0 Z).one,Z,trivial⟩ Z a) fun w a=>P<|ay ?_
 cases h
 replace a:=p.st a
 exact dh Z ⟨_,Z,bS (us:=[d,b,I (c.length:Int)]) u101 Z bU (a.p 4 Z Z)⟩ ⟨d,b,Z,a.d [3,0] Z Z⟩
theorem nt {t:World} {u z:L0} {j m:Value} {T:L2} (p:Bool) {r:L0×L0×L0}
  (h:F.Hx u z p=some r) (hTT:TOk [] T t) (V:RP T t X j u) (ab:RP T t X m z):Calls Tryz.prog 91 #[.agg #[j,m,K p]] t (Ret fun v w=>∃B:Value,∃C:Value,∃D:Value,v=.agg #[B,C,D]/\St [] t w []/\Rds T w [Q X D r.2.2,Q X C r.2.1,Q X B r.1]):=by
 refine aB 14 Tryz.func91 Z Z Z<|have d:=St.k t;have n:=Fz.k (S:=[]) (w0:=t);?_
 have hA0:Rds T t [Q X m z,Q X j u]:=M (RP.h (W Z) ab) (M (RP.h (W Z) V) (Rds.nil))
 have o:=hA0.all
 have s:=hA0.off Z
 refine ax [(0,.agg #[j,m,K p])] Z ?_
 unfold F.Hx at h
 refine R<|bg (cg (cs:=[j,m,K p]) Z Z d) Z fun ae w d=>bg (bb (cs:=[L3,L3,L3]) mj Z d) Z fun A w d=>gl1<|R<|N (am (k:=2) u33 Z Z nz4 Z) Z<|N (au Tryz.underlying4 Z Z (d.q 1 Z 2)) Z<|P ?_
 apply gl9 Z h<;>intro h
 ·refine R<|N (cb (vs:=[]) (cells:=[L3,L3,L3]) Z lj trivial Z) Z<|bo (bz (i:=0) (us:=[L3,L3,L3]) Z cT Z Z Z ⟨Z,Z,Z,trivial⟩ Z d) fun w d=>gl8 ?_
  cases h
  obtain⟨E,hR⟩:=n.outT hTT o s d
  exact dh Z ⟨_,Z,bS (us:=[L3,L3,L3]) u104 Z cT (d.p 0 Z Z)⟩ ⟨L3,L3,L3,Z,E,(M OE.kept.nil (M OE.kept.nil (M OE.kept.nil Rds.nil)))⟩
 refine gl5<|aw<|J h fun f ah h=>J h fun g H h=>cF (es:=[Q X m z,Q X j u]) (os:=[Y ae [j,m,K p]]) (fun i=>[2,5,6,7,8].contains i) (fun i=>if i=2 then some 7 else if i=5 then some 7 else if i=6 then some 7 else if i=7 then some 8 else none) (fun i=>[]) (fun i=>if i=8 then [Y A [L3,L3,L3]] else []) (fun i=>[]) (fun i=>if i=7 then [2,5,6] else if i=8 then [2,5,6] else []) (fun i=>if i=2 then (fun h v x y=>∃b:Value,v=b/\x=[U X b f]/\y=[]) else if i=5 then (fun h v x y=>∃c:Value,v=c/\x=[U X c g]/\y=[]) else if i=6 then (fun h v x y=>∃a:Value,v=a/\x=[U X a ([1]:L0)]/\y=[]) else if i=7 then (fun h v x y=>∃b:Value,∃c:Value,∃a:Value,h=[(b,[U X b f],[]),(c,[U X c g],[]),(a,[U X a ([1]:L0)],[])]/\v=.agg #[b,c,a]/\x=[U X b f,U X c g,U X a ([1]:L0)]/\y=[]) else (fun h v x y=>∃b:Value,∃c:Value,∃a:Value,h=[(b,[U X b f],[]),(c,[U X c g],[]),(a,[U X a ([1]:L0)],[])]/\v=undef/\x=[U X b f,U X c g,U X a ([1]:L0),Y A [b,c,a]]/\y=[])) (SfT.mk' n o s (d.pick (os':=[Y A [L3,L3,L3],Y ae [j,m,K p]]) [0,1] (by decide) rfl)) (fun k hk=>(if_neg (fun q=>by subst q; exact absurd hk (by decide)))) hTT rfl (fun i=>(bZ (by rintro h v x y ⟨_,rfl,rfl,rfl⟩; exact bM rfl) (bZ (by rintro h v x y ⟨_,rfl,rfl,rfl⟩; exact bM rfl) (bZ (by rintro h v x y ⟨_,rfl,rfl,rfl⟩; exact bM rfl) (bZ (by rintro h v x y ⟨_,_,_,_,rfl,rfl,rfl⟩; exact bM rfl) (by rintro h v x y ⟨_,_,_,_,rfl,rfl,rfl⟩; exact bM rfl)))))) bQ (by kernel_rfl) (by kernel_rfl) ?_
 show dZ _ _ _ _ _ _ _ _ _ _ _ _ _ _ _ _ [0,1,2,3,4,5,6,7,8] _ _
 refine bj Z Z (fun w Sb wb n o s G=>am (k:=0) u33 Z Z cH Z) Z<|bj Z Z (fun w Sb wb n o s G=>au u31 Z Z (G.q 0 Z 0)) Z ?_
 refine bI (fun h v x y=>∃b:Value,v=b/\x=[U X b f]/\y=[]) [] [] [] _ Z Z (fun h v x y=>Z) Z Z Z Z ⟨_,_,_,undef,Z,Z,Z⟩ (by kernel_rfl) Z (fun w Sl Tl n hTT o s d=>?_) Z ?_
 ·refine bG (dl  ah ((o.rp 0 Z).b d.fr).rp) ?_
  rintro b w L
  have d:=d.e L
  exact⟨_,_,⟨b,Z,Z,Z⟩,SfT.mk' n Rds.nil Off.nil d⟩
 rintro b x_q y_q ⟨_,rfl,rfl,rfl⟩
 refine bj Z Z (fun w Sb wb n o s G=>am (k:=1) u33 Z Z cH Z) Z<|bj Z Z (fun w Sb wb n o s G=>au u31 Z Z (G.q 0 Z 1)) Z ?_
 refine bI (fun h v x y=>∃c:Value,v=c/\x=[U X c g]/\y=[]) [] [] [] _ Z Z (fun h v x y=>Z) Z Z Z Z ⟨_,_,_,undef,Z,Z,Z⟩ (by kernel_rfl) Z (fun w Sl Tl n hTT o s d=>?_) Z ?_
 ·refine bG (dl  H ((o.rp 1 Z).b d.fr).rp) ?_
  rintro c w L
  have d:=d.e L
  exact⟨_,_,⟨c,Z,Z,Z⟩,SfT.mk' n Rds.nil Off.nil d⟩
 rintro c x_q y_q ⟨_,rfl,rfl,rfl⟩
 refine eP (fun h v x y=>∃a:Value,v=a/\x=[U X a ([1]:L0)]/\y=[]) [] [] [] _ Z Z (fun h v x y=>Z) Z Z Z Z ⟨_,_,_,undef,Z,Z,Z⟩ (fun w Sl Tl n hTT o s d=>?_) Z ?_
 ·refine iV (cq (e:=X) (l:=([1]:L0)) (vs:=[v32 1]) u31 aN Z Z Z Z (by decide) (by decide) d) ?_
  rintro a w d
  exact⟨_,_,⟨a,Z,Z,Z⟩,SfT.mk' n Rds.nil Off.nil d⟩
 rintro a x_q y_q ⟨_,rfl,rfl,rfl⟩
 refine eP (fun h v x y=>∃b:Value,∃c:Value,∃a:Value,h=[(b,[U X b f],[]),(c,[U X c g],[]),(a,[U X a ([1]:L0)],[])]/\v=.agg #[b,c,a]/\x=[U X b f,U X c g,U X a ([1]:L0)]/\y=[]) [(b,[U X b f],[]),(c,[U X c g],[]),(a,[U X a ([1]:L0)],[])] [U X b f,U X c g,U X a ([1]:L0)] [] _ Z Z (fun h v x y=>Z) Z Z Z Z ⟨_,_,_,b,c,a,Z,Z,Z,Z⟩ (fun w Sl Tl n hTT o s d=>?_) Z ?_
 ·exact pC (cb (vs:=[(0,b,[b]),(1,c,[c]),(2,a,[a])]) (cells:=[b,c,a]) Z lj ⟨(cK (d.ro 0 Z).one),(cK (d.ro 1 Z).one),(cK (d.ro 2 Z).one),trivial⟩ Z) ⟨_,_,⟨b,c,a,Z,Z,Z,Z⟩,SfT.mk' n Rds.nil Off.nil d⟩
 rintro v_q x_q y_q ⟨v_6',v_9',v_11',hh,rfl,rfl,rfl⟩
 replace hh:([(b,[U X b f],[]),(c,[U X c g],[]),(a,[U X a ([1]:L0)],[])]:List Th)=[(v_6',[U X v_6' f],[]),(v_9',[U X v_9' g],[]),(v_11',[U X v_11' ([1]:L0)],[])]:=hh
 cases hh
 refine j1 (fun h v x y=>∃b:Value,∃c:Value,∃a:Value,h=[(b,[U X b f],[]),(c,[U X c g],[]),(a,[U X a ([1]:L0)],[])]/\v=undef/\x=[U X b f,U X c g,U X a ([1]:L0),Y A [b,c,a]]/\y=[]) [(b,[U X b f],[]),(c,[U X c g],[]),(a,[U X a ([1]:L0)],[])] [U X b f,U X c g,U X a ([1]:L0),Y A [L3,L3,L3]] [] _ Z Z (fun h v x y=>Z) Z Z Z Z ⟨_,_,_,b,c,a,Z,Z,Z,Z⟩ (fun w Sl Tl n hTT o s d=>?_) ?_
 ·refine i6 (bz (i:=3) (us:=[b,c,a]) Z cT Z Z Z ⟨(d.ro 0 Z).one,(d.ro 1 Z).one,(d.ro 2 Z).one,trivial⟩ Z d) ?_
  intro w d
  exact⟨_,_,⟨b,c,a,Z,Z,Z,Z⟩,SfT.mk' n Rds.nil Off.nil d⟩
 rintro v_q x_q y_q ⟨v_6',v_9',v_11',hh,rfl,rfl,rfl⟩
 replace hh:([(b,[U X b f],[]),(c,[U X c g],[]),(a,[U X a ([1]:L0)],[])]:List Th)=[(v_6',[U X v_6' f],[]),(v_9',[U X v_9' g],[]),(v_11',[U X v_11' ([1]:L0)],[])]:=hh
 cases hh
 refine dv fun w hQ=>?_
 obtain⟨aq,ao,n,o,s,d⟩:=hQ
 refine ak<|ay ?_
 cases h
 obtain⟨E,hR⟩:=n.outT hTT o s d
 exact dh Z ⟨_,Z,bS (us:=[b,c,a]) u104 Z cT (d.p 3 Z Z)⟩ ⟨b,c,a,Z,E,(hR.pick [4,5,6] Z)⟩
theorem ms {a:World} {a0:L0} {b:Value} {T:L2} (a1:Int) {r:L0}
  (h:F.Hl a0 a1=some r) (hTT:TOk [] T a) (g:RP T a X b a0):Calls Tryz.prog 180 #[b,I a1] a (Ret fun v w=>∃u0:Value,v=u0/\St [] a w []/\Rds T w [Q X u0 r]):=by
 refine aB 12 Tryz.func180 Z Z Z<|have e:=St.k a;have i:=Fz.k (S:=[]) (w0:=a);?_
 have hA0:Rds T a [Q X b a0]:=M (RP.h (W Z) g) (Rds.nil)
 have f:=hA0.all
 have j:=hA0.off Z
 refine ax [(0,b),(1,I a1)] Z ?_
 unfold F.Hl at h
 refine R<|V 1 Z<|gl1<|R<|V 1 Z<|N (aC u31 Z ((f.rp 0 Z).b e.fr)) Z<|V 2 Z<|P ?_
 apply gl9 Z h<;>intro h
 ·refine R<|V 1 Z<|gl8 ?_
  cases h
  obtain⟨c,k⟩:=i.outT hTT f j e
  exact az Z Z ⟨L3,Z,c,(M OE.kept.nil Rds.nil)⟩
 refine gl6<|V 2 Z<|J h fun l d h=>N (pr u31 aN Z Z ((f.rp 0 Z).b e.fr) d) Z<|V 1 Z<|P<|ay ?_
 cases h
 obtain⟨c,k⟩:=i.outT hTT f j e
 exact az Z Z ⟨slV b X.sz ((a1:Int).toNat) a0.length,Z,c,(M (RP.h (W Z) ((k.rp 0 Z).g_sll d)) Rds.nil)⟩
theorem ov {o:World} {n p a1:L0} {d e u:Value} {T:L2} (g:Int) {r:L0}
  (h:F.Ig n p g a1=some r) (hTT:TOk [] T o) (aj:RP T o X d n) (an:RP T o X e p) (aM:RP T o X u a1):Calls Tryz.prog 166 #[.agg #[d,e,I g],u] o (Ret fun v w=>∃u0:Value,v=u0/\St [] o w []/\Rds T w [Q X u0 r]):=by
 refine aB 35 Tryz.func166 Z Z Z<|have a:=St.k o;have c:=Fz.k (S:=[]) (w0:=o);?_
 have hA0:Rds T o [Q X u a1,Q X e p,Q X d n]:=M (RP.h (W Z) aM) (M (RP.h (W Z) an) (M (RP.h (W Z) aj) (Rds.nil)))
 have b:=hA0.all
 have f:=hA0.off Z
 refine ax [(0,.agg #[d,e,I g]),(1,u)] Z ?_
 unfold F.Ig at h
 refine R<|bg (cg (cs:=[d,e,I g]) rfl rfl a) rfl fun q w a=>V 1 rfl<|gl1<|J h fun E aG h=>J h fun C aH h=>J h fun G ao h=>cF (es:=[Q X u a1,Q X e p,Q X d n]) (os:=[Y q [d,e,I g]]) (fun i=>[4,7,11].contains i) (fun i=>if i=7 then some 11 else none) (fun i=>if i=7 then [4] else []) (fun i=>[]) (fun i=>[]) (fun i=>[]) (fun i=>if i=4 then (fun h v x y=>∃m:Value,v=m/\x=[]/\y=[Q X m E]) else if i=7 then (fun h v x y=>∃l:Value,v=l/\x=[U X l C]/\y=[]) else (fun h v x y=>∃j:Value,v=j/\x=[]/\y=[Q X j G])) (SfT.mk' c b f a) (fun k hk=>rfl) hTT rfl (fun i=>(bZ (by rintro h v x y ⟨_,rfl,rfl,rfl⟩; exact bM rfl) (bZ (by rintro h v x y ⟨_,rfl,rfl,rfl⟩; exact bM rfl) (by rintro h v x y ⟨_,rfl,rfl,rfl⟩; exact bM rfl)))) bQ (by kernel_rfl) (by kernel_rfl)<|show dZ _ _ _ _ _ _ _ _ _ _ _ _ _ _ _ _ [0,1,2,3,4,5,6,7,8,9,10,11,12] _ _ from bN 1 rfl<|bj rfl rfl (fun w Sb wb c b f z=>am (k:=2) u101 rfl rfl nz3 rfl) rfl<|bj rfl rfl (fun w Sb wb c b f z=>au u3 rfl rfl (z.q 0 rfl 2)) rfl<|bN 1 rfl ?_
 refine bI (fun h v x y=>∃m:Value,v=m/\x=[]/\y=[Q X m E]) [] [] [] _ Z Z (fun h v x y=>Z) Z Z Z Z ⟨_,_,_,undef,Z,Z,Z⟩ (by kernel_rfl) Z (fun w Sl Tl c hTT b f a=>?_) Z ?_
 ·replace a:=a.pick (os':=[]++[Y q [d,e,I g]]) [0] (by decide) rfl
  obtain⟨c,b,f,a⟩:=c.frzK hTT b f a
  refine bG (ms (wI (g - 1)) aG (c.okT hTT a) (b.i f 2 Z)) ?_
  rintro m w ⟨_,rfl,A,ad⟩
  obtain⟨bh,a0,c,b,f,a⟩:=c.l b f a A ad rfl
  exact⟨_,_,⟨m,Z,Z,Z⟩,SfT.mk' c (b.pick [3] Z) (f.pick [3] Z) a⟩
 rintro m x_q y_q ⟨_,rfl,rfl,rfl⟩
 refine bj Z Z (fun w Sb wb c b f z=>am (k:=1) u101 Z Z cH Z) Z<|bj Z Z (fun w Sb wb c b f z=>au u31 Z Z (z.q 0 Z 1)) Z ?_
 refine bI (fun h v x y=>∃l:Value,v=l/\x=[U X l C]/\y=[]) [] [] [Q X m E] _ Z Z (fun h v x y=>Z) Z Z Z Z ⟨_,_,_,undef,Z,Z,Z⟩ (by kernel_rfl) Z (fun w Sl Tl c hTT b f a=>?_) Z ?_
 ·refine bG (gt  aH ((b.rp 3 Z).b a.fr).rp ((b.rp 1 Z).b a.fr).rp) ?_
  rintro l w A
  have a:=a.e A
  exact⟨_,_,⟨l,Z,Z,Z⟩,SfT.mk' c Rds.nil Off.nil a⟩
 rintro l x_q y_q ⟨_,rfl,rfl,rfl⟩
 refine bj Z Z (fun w Sb wb c b f z=>am (k:=2) u101 Z Z nz3 Z) Z<|bj Z Z (fun w Sb wb c b f z=>au u3 Z Z (z.q 0 Z 2)) Z<|bN 1 Z ?_
 refine bI (fun h v x y=>∃j:Value,v=j/\x=[]/\y=[Q X j G]) [] [U X l C] [] _ Z Z (fun h v x y=>Z) Z Z Z Z ⟨_,_,_,undef,Z,Z,Z⟩ (by kernel_rfl) Z (fun w Sl Tl c hTT b f a=>?_) Z ?_
 ·replace a:=a.pick (os':=[U X l C]++[Y q [d,e,I g]]) [0,1] (by decide) rfl
  obtain⟨c,b,f,a⟩:=c.frzK hTT b f a
  refine bG (ms (wI (g+1)) ao (c.okT hTT a) (b.i f 3 Z)) ?_
  rintro j w ⟨_,rfl,A,ad⟩
  obtain⟨a2,aU,c,b,f,a⟩:=c.l b f a A ad rfl
  exact⟨_,_,⟨j,Z,Z,Z⟩,SfT.mk' c (b.pick [4] Z) (f.pick [4] Z) a⟩
 rintro j x_q y_q ⟨_,rfl,rfl,rfl⟩
 refine bN 1 Z<|dv fun w hQ=>?_
 obtain⟨a4,aW,c,b,f,a⟩:=hQ
 refine ak<|R<|V 2 Z<|N (am (k:=0) u101 Z Z cH Z) Z<|N (au u31 Z Z (a.q 0 Z 0)) Z<|J h fun aJ ap h=>aV a Z (gt  ap ((b.rp 3 Z).b a.fr).rp ((b.rp 0 Z).b a.fr).rp) Z fun aL w a=>J h fun ae ar h=>aV a Z (eJ  ar ((b.rp 2 Z).b a.fr).rp (a.ro 0 Z).rp) Z fun B w a=>V 1 Z<|gl1<|aq ?_
 replace a:=a.pick (os':=[U X B ae,U X aL aJ,Y q [d,e,I g]]++[]) [0,1,2] (by decide) rfl
 obtain⟨a5,aX,c,b,f,a⟩:=c.frzT hTT b f a
 refine ax [(2,O q 0),(6,B)] Z ?_
 refine aT (F.HO n) (fun (s:L0) L w=>∃(t:Value),L=[(2,O q 0),(6,t)]/\SfT [] T o w [Q X t s,Y q [d,e,I g],Q X e p,Q X d n] []) ?_ ae ⟨B,Z,(SfT.mk' c (b.pick [7,5,1,0] Z) (f.pick [7,5,1,0] Z) a)⟩ h
 rintro a6 a7 L w a8 hI aA h D
 try dsimp only at hI
 obtain⟨t,rfl,⟨a9,aY,c,b,f,a⟩⟩:=hI
 unfold F.HO at h
 refine aw<|R<|V 1 Z<|N (am (k:=0) u101 Z Z cH Z) Z<|N (au u31 Z Z ((b.rb 2 Z).cell a.fr 0 Z)) Z<|J h fun ba aC h=>bf a Z (fE  aC ((b.rp 3 Z).b a.fr).rp ((b.rp 0 Z).b a.fr).rp) Z fun w a=>V 1 Z<|P ?_
 apply gl9 Z h<;>intro h
 ·refine gl5<|aq<|al<|V 1 Z<|N (am (k:=0) u101 Z Z cH Z) Z<|N (au u31 Z Z ((b.rb 2 Z).cell a.fr 0 Z)) Z<|J h fun ah aD h=>aV a Z (eJ  aD ((b.rp 3 Z).b a.fr).rp ((b.rp 0 Z).b a.fr).rp) Z fun H w a=>V 1 Z<|aE<|aF ?_
  replace a:=a.pick (os':=[U X H ah]++[]) [0] (by decide) rfl
  obtain⟨bb,aZ,c,b,f,a⟩:=c.frzT hTT b f a
  exact bd (bc (aA ah _ _ ⟨H,Z,(SfT.mk' c (b.pick [4,2,1,0] Z) (f.pick [4,2,1,0] Z) a)⟩ (aK h D)) Z)
 refine aQ<|av<|av<|have h:=aI h D;aR<|ak<|R<|V 2 Z<|P<|ay ?_
 cases h
 obtain⟨aS,hR⟩:=c.outT hTT b f a
 exact az Z Z ⟨t,Z,aS,(hR.pick [3] Z)⟩
theorem br {m:World} {n o a1 a2:L0} {a b p q:Value} {T:L2} (e:Int) {r:L0}
  (h:F.Ds n o e a1 a2=some r) (hTT:TOk [] T m) (u:RP T m X a n) (z:RP T m X b o) (E:RP T m X p a1) (G:RP T m X q a2):Calls Tryz.prog 138 #[.agg #[a,b,I e],p,q] m (Ret fun v w=>∃u0:Value,v=u0/\St [] m w []/\Rds T w [Q X u0 r]):=by
 refine aB 12 Tryz.func138 Z Z Z<|have c:=St.k m;have l:=Fz.k (S:=[]) (w0:=m);?_
 have hA0:Rds T m [Q X q a2,Q X p a1,Q X b o,Q X a n]:=M (RP.h (W Z) G) (M (RP.h (W Z) E) (M (RP.h (W Z) z) (M (RP.h (W Z) u) (Rds.nil))))
 have f:=hA0.all
 have j:=hA0.off Z
 refine ax [(0,.agg #[a,b,I e]),(1,p),(2,q)] Z ?_
 unfold F.Ds at h
 refine R<|bg (cg (cs:=[a,b,I e]) rfl rfl c) rfl fun A w c=>V 1 rfl<|gl1<|J h fun s C h=>J h fun B D h=>cF (es:=[Q X q a2,Q X p a1,Q X b o,Q X a n]) (os:=[Y A [a,b,I e]]) (fun i=>[3,4].contains i) (fun i=>if i=3 then some 4 else none) (fun i=>[]) (fun i=>[]) (fun i=>[]) (fun i=>[]) (fun i=>if i=3 then (fun h v x y=>∃g:Value,v=g/\x=[U X g s]/\y=[]) else (fun h v x y=>∃d:Value,v=d/\x=[]/\y=[Q X d B])) (SfT.mk' l f j c) (fun k hk=>rfl) hTT rfl (fun i=>(bZ (by rintro h v x y ⟨_,rfl,rfl,rfl⟩; exact bM rfl) (by rintro h v x y ⟨_,rfl,rfl,rfl⟩; exact bM rfl))) bQ (by kernel_rfl) (by kernel_rfl)<|show dZ _ _ _ _ _ _ _ _ _ _ _ _ _ _ _ _ [0,1,2,3,4,5] _ _ from bj rfl rfl (fun w Sb wb l f j hF=>aM (us:=[a,b,I e]) u101 rfl bU rfl (hF.p 0 rfl rfl)) rfl<|bN 2 rfl ?_
 refine bI (fun h v x y=>∃g:Value,v=g/\x=[U X g s]/\y=[]) [] [] [] _ Z Z (fun h v x y=>Z) Z Z Z Z ⟨_,_,_,undef,Z,Z,Z⟩ (by kernel_rfl) Z (fun w Sl Tl l hTT f j c=>?_) Z ?_
 ·refine bG (gt  C ((f.rp 2 Z).b c.fr).rp ((f.rp 3 Z).b c.fr).rp) ?_
  rintro g w t
  have c:=c.e t
  exact⟨_,_,⟨g,Z,Z,Z⟩,SfT.mk' l Rds.nil Off.nil c⟩
 rintro g x_q y_q ⟨_,rfl,rfl,rfl⟩
 refine bI (fun h v x y=>∃d:Value,v=d/\x=[]/\y=[Q X d B]) [] [U X g s] [] _ Z Z (fun h v x y=>Z) Z Z Z Z ⟨_,_,_,undef,Z,Z,Z⟩ (by kernel_rfl) Z (fun w Sl Tl l hTT f j c=>?_) Z ?_
 ·replace c:=c.pick (os':=[U X g s]++[Y A [a,b,I e]]) [0,1] (by decide) rfl
  obtain⟨l,f,j,c⟩:=l.frzK hTT f j c
  refine bG (ov e D (l.okT hTT c) (f.i j 0 Z) (f.i j 1 Z) (f.i j 4 Z)) ?_
  rintro d w ⟨_,rfl,t,L⟩
  obtain⟨H,ac,l,f,j,c⟩:=l.l f j c t L rfl
  exact⟨_,_,⟨d,Z,Z,Z⟩,SfT.mk' l (f.pick [5] Z) (j.pick [5] Z) c⟩
 rintro d x_q y_q ⟨_,rfl,rfl,rfl⟩
 refine bN 1 Z<|dv fun w hQ=>?_
 obtain⟨al,ad,l,f,j,c⟩:=hQ
 refine ak<|ay ?_
 cases h
 obtain⟨ab,hR⟩:=l.outT hTT f j c
 exact az Z Z ⟨d,Z,ab,(hR.pick [4] Z)⟩
theorem cU {e:World} {f g a1 a2:L0} {b c i j:Value} (d:Int) {r:L0}
  (h:F.DH f g d a1 a2=some r) (n:RP [] e X b f) (t:RP [] e X c g) (l:RP [] e X i a1) (m:RP [] e X j a2):Calls Tryz.prog 139 #[.agg #[b,c,I d],i,j] e (Ret fun v w=>St [] e w [U X v r]):=by
 refine aB 20 Tryz.func139 Z Z Z<|have a:=St.k e;ax [(0,.agg #[b,c,I d]),(1,i),(2,j)] Z ?_
 unfold F.DH at h
 refine R<|bg (cg (cs:=[b,c,I d]) Z Z a) Z fun y w a=>V 1 Z<|gl1<|R<|V 2 Z<|J h fun z p h=>bf a Z (fE  p (l.b a.fr).rp (m.b a.fr).rp) Z fun w a=>V 1 Z<|P ?_
 apply gl9 Z h<;>intro h
 ·refine R<|V 2 Z<|J h fun A q h=>aV a Z (eJ  q (l.b a.fr).rp (m.b a.fr).rp) Z fun B w a=>V 1 Z<|gl8 ?_
  cases h
  exact az Z Z (a.d [0] Z Z)
 refine gl6<|V 1 Z<|N (am (k:=0) u101 Z Z cH Z) Z<|N (au u31 Z Z (a.q 0 Z 0)) Z<|J h fun C s h=>aV a Z (gO  s (l.b a.fr).rp (n.b a.fr).rp) Z fun D w a=>V 1 Z<|J h fun u o h=>aV a Z (eJ  o (a.ro 0 Z).rp (m.b a.fr).rp) Z fun x w a=>V 1 Z<|P<|ay ?_
 cases h
 exact az Z Z (a.d [0] Z Z)
theorem cM {e:World} {g i a1 a2:L0} {b c j l:Value} (d:Int) {r:L0}
  (h:F.DG g i d a1 a2=some r) (f:RP [] e X b g) (s:RP [] e X c i) (p:RP [] e X j a1) (q:RP [] e X l a2):Calls Tryz.prog 140 #[.agg #[b,c,I d],j,l] e (Ret fun v w=>St [] e w [U X v r]):=by
 refine aB 21 Tryz.func140 Z Z Z<|have a:=St.k e;ax [(0,.agg #[b,c,I d]),(1,j),(2,l)] Z ?_
 unfold F.DG at h
 refine R<|bg (cg (cs:=[b,c,I d]) Z Z a) Z fun t w a=>V 1 Z<|gl2<|V 2 Z<|J h fun u m h=>aV a Z (gO  m (p.b a.fr).rp (q.b a.fr).rp) Z fun x w a=>V 1 Z<|gl1<|R<|V 1 Z<|N (am (k:=0) u101 Z Z cH Z) Z<|N (au u31 Z Z (a.q 1 Z 0)) Z<|J h fun y n h=>bf a Z (fE  n (a.ro 0 Z).rp (f.b a.fr).rp) Z fun w a=>V 1 Z<|P ?_
 apply gl9 Z h<;>intro h
 ·refine R<|V 1 Z<|N (am (k:=0) u101 Z Z cH Z) Z<|N (au u31 Z Z (a.q 1 Z 0)) Z<|J h fun z o h=>aV a Z (eJ  o (a.ro 0 Z).rp (f.b a.fr).rp) Z fun A w a=>V 1 Z<|gl8 ?_
  cases h
  exact az Z Z (a.d [0] Z Z)
 refine gl6<|V 2 Z<|P<|ay ?_
 cases h
 exact az Z Z (a.d [0] Z Z)
theorem iO {w0:World} {ah aj an ac ad:L0} {d e m n o:Value} {T:L2} (c:Int) {r:L0×L0×L0}
  (h:F.Ho ah aj c an ac ad=some r) (hTT:TOk [] T w0) (bt:RP T w0 X d ah) (bu:RP T w0 X e aj) (bv:RP T w0 X m an) (bw:RP T w0 X n ac) (bA:RP T w0 X o ad):Calls Tryz.prog 93 #[.agg #[d,e,I c],.agg #[m,n,o]] w0 (Ret fun v w=>∃bf:Value,∃bh:Value,∃bi:Value,v=.agg #[bf,bh,bi]/\St [] w0 w []/\Rds T w [Q X bi r.2.2,Q X bh r.2.1,Q X bf r.1]):=by
 refine aB 117 Tryz.func93 Z Z Z<|have a:=St.k w0;have j:=Fz.k (S:=[]) (w0:=w0);?_
 have hA0:Rds T w0 [Q X o ad,Q X n ac,Q X m an,Q X e aj,Q X d ah]:=M (RP.h (W Z) bA) (M (RP.h (W Z) bw) (M (RP.h (W Z) bv) (M (RP.h (W Z) bu) (M (RP.h (W Z) bt) (Rds.nil)))))
 have b:=hA0.all
 have f:=hA0.off Z
 refine ax [(0,.agg #[d,e,I c]),(1,.agg #[m,n,o])] Z ?_
 unfold F.Ho at h
 refine R<|bg (cg (cs:=[d,e,I c]) Z Z a) Z fun A w a=>bg (cg (cs:=[m,n,o]) Z Z a) Z fun az w a=>bg (bb (cs:=[L3,L3,L3]) mj Z a) Z fun B w a=>gl1 ?_
 refine a8 (r:=r) (fun (g:Bool) L w=>L=[(2,O A 0),(3,O az 0),(4,O B 0),(22,K g)]/\SfT [] T w0 w [Q X e aj,Q X d ah,Y az [m,n,o],Q X o ad,Q X n ac,Q X m an] [Y A [d,e,I c],Y B [L3,L3,L3]]) (F.IP ah aj c an ac ad) ?_ ?_
 rotate_left
 ·intro bc
  refine al<|N (am (k:=2) u104 Z Z cH Z) Z<|N (au u31 Z Z (a.q 1 Z 2)) Z<|N (aC u31 Z ((b.rp 4 Z).b a.fr)) Z<|V 2 Z ?_
  cases aA:((ad.length:Int) == 0)
  case true=>
   have h:=cz h aA
   try simp only[aA]
   refine V 5 Z<|P ?_
   replace a:=a.pick (os':=[Y az [m,n,o]]++[Y B [L3,L3,L3],Y A [d,e,I c]]) [1,0,2] (by decide) rfl
   obtain⟨cN,cv,j,b,f,a⟩:=j.frzT hTT b f a
   exact aG (bc true _ _ ⟨Z,(SfT.mk' j (b.pick [1,0,5,4,3,2] Z) (f.pick [1,0,5,4,3,2] Z) (a.d [1,0] Z Z))⟩ h) Z
  case false=>
   have h:=cA h aA
   try simp only[aA]
   refine bB (t:=17) Z Z (am (k:=1) u104 Z Z cH Z) Z<|bB (t:=17) Z Z (au u31 Z Z (a.q 1 Z 1)) Z<|bB (t:=17) Z Z (aC u31 Z ((b.rp 3 Z).b a.fr)) Z<|V 2 Z<|P ?_
   replace a:=a.pick (os':=[Y az [m,n,o]]++[Y B [L3,L3,L3],Y A [d,e,I c]]) [1,0,2] (by decide) rfl
   obtain⟨cw,cf,j,b,f,a⟩:=j.frzT hTT b f a
   exact aG (bc ((ac.length:Int) == 0) _ _ ⟨Z,(SfT.mk' j (b.pick [1,0,5,4,3,2] Z) (f.pick [1,0,5,4,3,2] Z) (a.d [1,0] Z Z))⟩ h) Z
 rintro cx L w hJ h
 try dsimp only at hJ
 obtain⟨rfl,⟨cy,ch,j,b,f,a⟩⟩:=hJ
 unfold F.IP at h
 apply gl9 Z h<;>intro h
 ·refine R<|N (cb (vs:=[]) (cells:=[L3,L3,L3]) Z lj trivial Z) Z<|bo (bz (i:=1) (us:=[L3,L3,L3]) Z cT Z Z Z ⟨Z,Z,Z,trivial⟩ Z a) fun w a=>gl8 ?_
  cases h
  obtain⟨bk,hR⟩:=j.outT hTT b f a
  exact dh Z ⟨_,Z,bS (us:=[L3,L3,L3]) u104 Z cT (a.p 1 Z Z)⟩ ⟨L3,L3,L3,Z,bk,(M OE.kept.nil (M OE.kept.nil (M OE.kept.nil Rds.nil)))⟩
 refine gl6<|N (aM (us:=[d,e,I c]) u101 Z bU Z (a.p 0 Z Z)) Z<|N (am (k:=2) u104 Z Z cH Z) Z<|N (au u31 Z Z ((b.rb 3 Z).cell a.fr 2 Z)) Z<|N (am (k:=2) u104 Z Z cH Z) Z<|N (au u31 Z Z ((b.rb 3 Z).cell a.fr 2 Z)) Z ?_
 replace a:=a.pick (os':=[]++[Y A [d,e,I c],Y B [L3,L3,L3]]) [0,1] (by decide) rfl
 obtain⟨j,b,f,a⟩:=j.frzK hTT b f a
 refine J h fun aT bC h=>aH Z (br c bC (j.okT hTT a) (b.i f 4 Z) (b.i f 5 Z) (b.i f 2 Z) (b.i f 2 Z)) Z ?_
 rintro aD w ⟨_,rfl,l,D⟩
 obtain⟨cB,ci,j,b,f,a⟩:=j.l b f a l D rfl
 refine V 1 rfl<|gl1<|J h fun aE bD h=>J h fun aF bE h=>J h fun aI bF h=>cF (es:=[Q X aD aT,Q X e aj,Q X d ah,Y az [m,n,o],Q X o ad,Q X n ac,Q X m an]) (os:=[Y A [d,e,I c],Y B [L3,L3,L3]]) (fun i=>[5,10,11].contains i) (fun i=>if i=5 then some 11 else if i=10 then some 11 else none) (fun i=>[]) (fun i=>[]) (fun i=>[]) (fun i=>[]) (fun i=>if i=5 then (fun h v x y=>∃E:Value,v=E/\x=[U X E aE]/\y=[]) else if i=10 then (fun h v x y=>∃G:Value,v=G/\x=[U X G aF]/\y=[]) else (fun h v x y=>∃u:Value,v=u/\x=[]/\y=[Q X u aI])) (SfT.mk' j b f a) (fun k hk=>rfl) hTT rfl (fun i=>(bZ (by rintro h v x y ⟨_,rfl,rfl,rfl⟩; exact bM rfl) (bZ (by rintro h v x y ⟨_,rfl,rfl,rfl⟩; exact bM rfl) (by rintro h v x y ⟨_,rfl,rfl,rfl⟩; exact bM rfl)))) bQ (by kernel_rfl) (by kernel_rfl)<|show dZ _ _ _ _ _ _ _ _ _ _ _ _ _ _ _ _ [0,1,2,3,4,5,6,7,8,9,10,11,12] _ _ from bj rfl rfl (fun w Sb wb j b f s=>aM (us:=[d,e,I c]) u101 rfl bU rfl (s.p 0 rfl rfl)) rfl<|bj rfl rfl (fun w Sb wb j b f s=>aM (us:=[d,e,I c]) u101 rfl bU rfl (s.p 0 rfl rfl)) rfl<|bj rfl rfl (fun w Sb wb j b f s=>am (k:=0) u104 rfl rfl cH rfl) rfl ?_
 refine bj Z Z (fun w Sb wb j b f s=>au u31 Z Z ((b.rb 3 Z).cell s.fr 0 Z)) Z<|bN 1 Z ?_
 refine bI (fun h v x y=>∃E:Value,v=E/\x=[U X E aE]/\y=[]) [] [] [] _ Z Z (fun h v x y=>Z) Z Z Z Z ⟨_,_,_,undef,Z,Z,Z⟩ (by kernel_rfl) Z (fun w Sl Tl j hTT b f a=>?_) Z ?_
 ·refine bG (cU c bD ((b.rp 4 Z).b a.fr).rp ((b.rp 5 Z).b a.fr).rp ((b.rp 0 Z).b a.fr).rp ((b.rp 6 Z).b a.fr).rp) ?_
  rintro E w l
  have a:=a.e l
  exact⟨_,_,⟨E,Z,Z,Z⟩,SfT.mk' j Rds.nil Off.nil a⟩
 rintro E x_q y_q ⟨_,rfl,rfl,rfl⟩
 refine bj Z Z (fun w Sb wb j b f s=>aM (us:=[d,e,I c]) u101 Z bU Z (s.p 0 Z Z)) Z<|bj Z Z (fun w Sb wb j b f s=>am (k:=0) u104 Z Z cH Z) Z<|bj Z Z (fun w Sb wb j b f s=>au u31 Z Z ((b.rb 3 Z).cell s.fr 0 Z)) Z<|bN 1 Z ?_
 refine bI (fun h v x y=>∃G:Value,v=G/\x=[U X G aF]/\y=[]) [] [] [] _ Z Z (fun h v x y=>Z) Z Z Z Z ⟨_,_,_,undef,Z,Z,Z⟩ (by kernel_rfl) Z (fun w Sl Tl j hTT b f a=>?_) Z ?_
 ·refine bG (cM c bE ((b.rp 4 Z).b a.fr).rp ((b.rp 5 Z).b a.fr).rp ((b.rp 0 Z).b a.fr).rp ((b.rp 6 Z).b a.fr).rp) ?_
  rintro G w l
  have a:=a.e l
  exact⟨_,_,⟨G,Z,Z,Z⟩,SfT.mk' j Rds.nil Off.nil a⟩
 rintro G x_q y_q ⟨_,rfl,rfl,rfl⟩
 refine bI (fun h v x y=>∃u:Value,v=u/\x=[]/\y=[Q X u aI]) [] [U X E aE,U X G aF] [] _ Z Z (fun h v x y=>Z) Z Z Z Z ⟨_,_,_,undef,Z,Z,Z⟩ (by kernel_rfl) Z (fun w Sl Tl j hTT b f a=>?_) Z ?_
 ·replace a:=a.pick (os':=[U X E aE,U X G aF]++[Y A [d,e,I c],Y B [L3,L3,L3]]) [0,1,2,3] (by decide) rfl
  obtain⟨j,b,f,a⟩:=j.frzK hTT b f a
  refine bG (br c bF (j.okT hTT a) (b.i f 4 Z) (b.i f 5 Z) (b.i f 8 Z) (b.i f 7 Z)) ?_
  rintro u w ⟨_,rfl,l,D⟩
  obtain⟨cC,cj,j,b,f,a⟩:=j.l b f a l D rfl
  exact⟨_,_,⟨u,Z,Z,Z⟩,SfT.mk' j (b.pick [9] Z) (f.pick [9] Z) a⟩
 rintro u x_q y_q ⟨_,rfl,rfl,rfl⟩
 refine bN 1 Z<|dv fun w hQ=>?_
 obtain⟨b6,bH,j,b,f,a⟩:=hQ
 refine ak<|aw<|aX (fun w'=>St b6 bH w' [Y A [d,e,I c],Y B [L3,L3,L3]]) (fun i=>!([5,6].contains i)) bQ (fun _ _ _ hf=>hf.2) (fun _ _ hf=>hf) (by kernel_rfl)<|have a:=a.drew;show lxE _ _ _ _ _ _ _ [0,1,2,3,4,5,6,7] _ _ from H a Z Z (fun w s=>aM (us:=[d,e,I c]) u101 Z bU Z (s.p 0 Z Z)) Z<|ao 1 Z a<|H a Z Z (fun w s=>aM (us:=[d,e,I c]) u101 Z bU Z (s.p 0 Z Z)) Z<|ao 2 Z a<|J h fun aU bJ h=>aY a Z Z (by kernel_rfl) Z (cM c bJ ((b.rp 4 Z).b a.fr).rp ((b.rp 5 Z).b a.fr).rp ((b.rp 7 Z).b a.fr).rp ((b.rp 7 Z).b a.fr).rp) Z fun aW w l=>have a:=a.e l;J h fun aZ bK h=>aY (a.d [1,2] Z Z) Z Z (by kernel_rfl) Z (cM c bK ((b.rp 4 Z).b a.fr).rp ((b.rp 5 Z).b a.fr).rp ((b.rp 7 Z).b a.fr).rp (a.ro 0 Z).rp) Z fun a0 w l=>have a:=a.e l;ao 1 Z (a.d [2,3] Z Z)<|bp (a.d [2,3] Z Z)<|ak<|R<|N (aM (us:=[d,e,I c]) u101 Z bU Z (a.p 2 Z Z)) Z<|N (am (k:=1) u104 Z Z cH Z) Z<|N (au u31 Z Z ((b.rb 3 Z).cell a.fr 1 Z)) Z<|N (am (k:=1) u104 Z Z cH Z) Z<|N (au u31 Z Z ((b.rb 3 Z).cell a.fr 1 Z)) Z ?_
 replace a:=a.pick (os':=[U X a0 aZ,U X aW aU]++[Y A [d,e,I c],Y B [L3,L3,L3]]) [0,1,2,3] (by decide) rfl
 obtain⟨j,b,f,a⟩:=j.frzK hTT b f a
 refine J h fun bm bL h=>aH Z (br c bL (j.okT hTT a) (b.i f 4 Z) (b.i f 5 Z) (b.i f 1 Z) (b.i f 1 Z)) Z ?_
 rintro bd w ⟨_,rfl,l,D⟩
 obtain⟨cD,ck,j,b,f,a⟩:=j.l b f a l D rfl
 refine V 1 Z<|gl2<|N (aM (us:=[d,e,I c]) u101 Z bU Z (a.p 0 Z Z)) Z<|N (am (k:=0) u104 Z Z cH Z) Z<|N (au u31 Z Z ((b.rb 3 Z).cell a.fr 0 Z)) Z<|V 1 Z ?_
 replace a:=a.pick (os':=[]++[Y A [d,e,I c],Y B [L3,L3,L3]]) [0,1] (by decide) rfl
 obtain⟨j,b,f,a⟩:=j.frzK hTT b f a
 refine J h fun bn bO h=>aH Z (br c bO (j.okT hTT a) (b.i f 4 Z) (b.i f 5 Z) (b.i f 0 Z) (b.i f 10 Z)) Z ?_
 rintro be w ⟨_,rfl,l,D⟩
 obtain⟨cE,cl,j,b,f,a⟩:=j.l b f a l D rfl
 refine V 1 rfl<|gl2<|N (aM (us:=[d,e,I c]) u101 rfl bU rfl (a.p 0 rfl rfl)) rfl<|V 2 rfl<|J h fun aJ bP h=>aV a rfl (cM c bP ((b.rp 4 rfl).b a.fr).rp ((b.rp 5 rfl).b a.fr).rp ((b.rp 11 rfl).b a.fr).rp ((b.rp 11 rfl).b a.fr).rp) rfl fun aK w a=>V 1 rfl<|gl2<|N (aM (us:=[d,e,I c]) u101 rfl bU rfl (a.p 1 rfl rfl)) rfl<|V 2 rfl<|J h fun aL bR h=>aV a rfl (cM c bR ((b.rp 4 rfl).b a.fr).rp ((b.rp 5 rfl).b a.fr).rp (a.ro 0 rfl).rp (a.ro 0 rfl).rp) rfl fun aN w a=>V 1 rfl<|gl1<|J h fun aO bT h=>J h fun a1 bV h=>J h fun aP bW h=>cF (es:=[Q X be bn,Q X bd bm,Q X a0 aZ,Q X aW aU,Q X u aI,Q X aD aT,Q X e aj,Q X d ah,Y az [m,n,o],Q X o ad,Q X n ac,Q X m an]) (os:=[U X aN aL,U X aK aJ,Y A [d,e,I c],Y B [L3,L3,L3]]) (fun i=>[4,8,9].contains i) (fun i=>if i=8 then some 9 else none) (fun i=>if i=9 then [4] else []) (fun i=>[]) (fun i=>[]) (fun i=>[]) (fun i=>if i=4 then (fun h v x y=>∃z:Value,v=z/\x=[]/\y=[Q X z aO]) else if i=8 then (fun h v x y=>∃ae:Value,v=ae/\x=[U X ae a1]/\y=[]) else (fun h v x y=>∃p:Value,v=p/\x=[U X p aP]/\y=[])) (SfT.mk' j b f a) (fun k hk=>rfl) hTT rfl (fun i=>(bZ (by rintro h v x y ⟨_,rfl,rfl,rfl⟩; exact bM rfl) (bZ (by rintro h v x y ⟨_,rfl,rfl,rfl⟩; exact bM rfl) (by rintro h v x y ⟨_,rfl,rfl,rfl⟩; exact bM rfl)))) bQ (by kernel_rfl) (by kernel_rfl) ?_
 show dZ _ _ _ _ _ _ _ _ _ _ _ _ _ _ _ _ [0,1,2,3,4,5,6,7,8,9,10] _ _
 refine bj Z Z (fun w Sb wb j b f s=>aM (us:=[d,e,I c]) u101 Z bU Z (s.p 2 Z Z)) Z<|bj Z Z (fun w Sb wb j b f s=>aM (us:=[d,e,I c]) u101 Z bU Z (s.p 2 Z Z)) Z<|bN 2 Z ?_
 refine bI (fun h v x y=>∃z:Value,v=z/\x=[]/\y=[Q X z aO]) [] [] [] _ Z Z (fun h v x y=>Z) Z Z Z Z ⟨_,_,_,undef,Z,Z,Z⟩ (by kernel_rfl) Z (fun w Sl Tl j hTT b f a=>?_) Z ?_
 ·replace a:=a.pick (os':=[]++[U X aN aL,U X aK aJ,Y A [d,e,I c],Y B [L3,L3,L3]]) [0,1,2,3] (by decide) rfl
  obtain⟨j,b,f,a⟩:=j.frzK hTT b f a
  refine bG (br c bT (j.okT hTT a) (b.i f 4 Z) (b.i f 5 Z) (b.i f 9 Z) (b.i f 9 Z)) ?_
  rintro z w ⟨_,rfl,l,D⟩
  obtain⟨cG,cm,j,b,f,a⟩:=j.l b f a l D rfl
  exact⟨_,_,⟨z,Z,Z,Z⟩,SfT.mk' j (b.pick [12] Z) (f.pick [12] Z) a⟩
 rintro z x_q y_q ⟨_,rfl,rfl,rfl⟩
 refine bj Z Z (fun w Sb wb j b f s=>aM (us:=[d,e,I c]) u101 Z bU Z (s.p 2 Z Z)) Z<|bN 2 Z ?_
 refine bI (fun h v x y=>∃ae:Value,v=ae/\x=[U X ae a1]/\y=[]) [] [] [] _ Z Z (fun h v x y=>Z) Z Z Z Z ⟨_,_,_,undef,Z,Z,Z⟩ (by kernel_rfl) Z (fun w Sl Tl j hTT b f a=>?_) Z ?_
 ·refine bG (cM c bV ((b.rp 4 Z).b a.fr).rp ((b.rp 5 Z).b a.fr).rp (a.ro 0 Z).rp (a.ro 0 Z).rp) ?_
  rintro ae w l
  have a:=a.e l
  exact⟨_,_,⟨ae,Z,Z,Z⟩,SfT.mk' j Rds.nil Off.nil a⟩
 rintro ae x_q y_q ⟨_,rfl,rfl,rfl⟩
 refine bI (fun h v x y=>∃p:Value,v=p/\x=[U X p aP]/\y=[]) [] [U X ae a1] [Q X z aO] _ Z Z (fun h v x y=>Z) Z Z Z Z ⟨_,_,_,undef,Z,Z,Z⟩ (by kernel_rfl) Z (fun w Sl Tl j hTT b f a=>?_) Z ?_
 ·refine bG (cU c bW ((b.rp 4 Z).b a.fr).rp ((b.rp 5 Z).b a.fr).rp ((b.rp 12 Z).b a.fr).rp (a.ro 0 Z).rp) ?_
  rintro p w l
  have a:=a.e l
  exact⟨_,_,⟨p,Z,Z,Z⟩,SfT.mk' j Rds.nil Off.nil (a.d [0,2,3,4,5] Z Z)⟩
 rintro p x_q y_q ⟨_,rfl,rfl,rfl⟩
 refine bN 1 Z<|dv fun w hQ=>?_
 obtain⟨cI,cn,j,b,f,a⟩:=hQ
 refine ak<|R<|N (aM (us:=[d,e,I c]) u101 Z bU Z (a.p 3 Z Z)) Z<|V 2 Z ?_
 replace a:=a.pick (os':=[U X p aP,U X aN aL,U X aK aJ]++[Y A [d,e,I c],Y B [L3,L3,L3]]) [0,1,2,3,4] (by decide) rfl
 obtain⟨j,b,f,a⟩:=j.frzK hTT b f a
 refine J h fun b8 bX h=>aH Z (br c bX (j.okT hTT a) (b.i f 4 Z) (b.i f 5 Z) (b.i f 10 Z) (b.i f 10 Z)) Z ?_
 rintro bY w ⟨_,rfl,l,D⟩
 obtain⟨cJ,co,j,b,f,a⟩:=j.l b f a l D rfl
 refine V 1 rfl<|gl2<|N (aM (us:=[d,e,I c]) u101 rfl bU rfl (a.p 0 rfl rfl)) rfl<|V 2 rfl<|J h fun a2 b0 h=>aV a rfl (cM c b0 ((b.rp 4 rfl).b a.fr).rp ((b.rp 5 rfl).b a.fr).rp ((b.rp 16 rfl).b a.fr).rp ((b.rp 16 rfl).b a.fr).rp) rfl fun a3 w a=>V 1 rfl<|gl2<|N (aM (us:=[d,e,I c]) u101 rfl bU rfl (a.p 1 rfl rfl)) rfl<|V 2 rfl<|J h fun a4 b1 h=>aV a rfl (cM c b1 ((b.rp 4 rfl).b a.fr).rp ((b.rp 5 rfl).b a.fr).rp (a.ro 0 rfl).rp (a.ro 0 rfl).rp) rfl fun a5 w a=>V 1 rfl<|gl2<|N (aM (us:=[d,e,I c]) u101 rfl bU rfl (a.p 2 rfl rfl)) rfl<|V 2 rfl<|J h fun a6 b2 h=>aV a rfl (cM c b2 ((b.rp 4 rfl).b a.fr).rp ((b.rp 5 rfl).b a.fr).rp (a.ro 0 rfl).rp (a.ro 0 rfl).rp) rfl fun a7 w a=>V 1 rfl<|gl1<|J h fun aQ b3 h=>J h fun a9 b4 h=>J h fun ba b5 h=>cF (es:=[Q X bY b8,Q X p aP,Q X aN aL,Q X aK aJ,Q X z aO,Q X be bn,Q X bd bm,Q X a0 aZ,Q X aW aU,Q X u aI,Q X aD aT,Q X e aj,Q X d ah,Y az [m,n,o],Q X o ad,Q X n ac,Q X m an]) (os:=[U X a7 a6,U X a5 a4,U X a3 a2,Y A [d,e,I c],Y B [L3,L3,L3]]) (fun i=>[6,7,9].contains i) (fun i=>if i=6 then some 7 else none) (fun i=>if i=9 then [7] else []) (fun i=>[]) (fun i=>[]) (fun i=>[]) (fun i=>if i=6 then (fun h v x y=>∃ab:Value,v=ab/\x=[U X ab aQ]/\y=[]) else if i=7 then (fun h v x y=>∃C:Value,v=C/\x=[]/\y=[Q X C a9]) else (fun h v x y=>∃q:Value,v=q/\x=[U X q ba]/\y=[])) (SfT.mk' j b f a) (fun k hk=>rfl) hTT rfl (fun i=>(bZ (by rintro h v x y ⟨_,rfl,rfl,rfl⟩; exact bM rfl) (bZ (by rintro h v x y ⟨_,rfl,rfl,rfl⟩; exact bM rfl) (by rintro h v x y ⟨_,rfl,rfl,rfl⟩; exact bM rfl)))) bQ (by kernel_rfl) (by kernel_rfl) ?_
 show dZ _ _ _ _ _ _ _ _ _ _ _ _ _ _ _ _ [0,1,2,3,4,5,6,7,8,9,10] _ _
 refine bj Z Z (fun w Sb wb j b f s=>aM (us:=[d,e,I c]) u101 Z bU Z (s.p 3 Z Z)) Z<|bj Z Z (fun w Sb wb j b f s=>aM (us:=[d,e,I c]) u101 Z bU Z (s.p 3 Z Z)) Z<|bN 1 Z<|bj Z Z (fun w Sb wb j b f s=>aM (us:=[d,e,I c]) u101 Z bU Z (s.p 3 Z Z)) Z<|bN 2 Z ?_
 refine bI (fun h v x y=>∃ab:Value,v=ab/\x=[U X ab aQ]/\y=[]) [] [] [] _ Z Z (fun h v x y=>Z) Z Z Z Z ⟨_,_,_,undef,Z,Z,Z⟩ (by kernel_rfl) Z (fun w Sl Tl j hTT b f a=>?_) Z ?_
 ·refine bG (cU c b3 ((b.rp 4 Z).b a.fr).rp ((b.rp 5 Z).b a.fr).rp ((b.rp 14 Z).b a.fr).rp ((b.rp 15 Z).b a.fr).rp) ?_
  rintro ab w l
  have a:=a.e l
  exact⟨_,_,⟨ab,Z,Z,Z⟩,SfT.mk' j Rds.nil Off.nil a⟩
 rintro ab x_q y_q ⟨_,rfl,rfl,rfl⟩
 refine bI (fun h v x y=>∃C:Value,v=C/\x=[]/\y=[Q X C a9]) [] [U X ab aQ] [] _ Z Z (fun h v x y=>Z) Z Z Z Z ⟨_,_,_,undef,Z,Z,Z⟩ (by kernel_rfl) Z (fun w Sl Tl j hTT b f a=>?_) Z ?_
 ·replace a:=a.pick (os':=[U X ab aQ]++[U X a7 a6,U X a5 a4,U X a3 a2,Y A [d,e,I c],Y B [L3,L3,L3]]) [0,1,2,3,4,5] (by decide) rfl
  obtain⟨j,b,f,a⟩:=j.frzK hTT b f a
  refine bG (br c b4 (j.okT hTT a) (b.i f 4 Z) (b.i f 5 Z) (b.i f 9 Z) (b.i f 17 Z)) ?_
  rintro C w ⟨_,rfl,l,D⟩
  obtain⟨cL,cp,j,b,f,a⟩:=j.l b f a l D rfl
  exact⟨_,_,⟨C,Z,Z,Z⟩,SfT.mk' j (b.pick [18] Z) (f.pick [18] Z) a⟩
 rintro C x_q y_q ⟨_,rfl,rfl,rfl⟩
 refine bN 1 Z ?_
 refine bI (fun h v x y=>∃q:Value,v=q/\x=[U X q ba]/\y=[]) [] [] [Q X C a9] _ Z Z (fun h v x y=>Z) Z Z Z Z ⟨_,_,_,undef,Z,Z,Z⟩ (by kernel_rfl) Z (fun w Sl Tl j hTT b f a=>?_) Z ?_
 ·refine bG (cU c b5 ((b.rp 4 Z).b a.fr).rp ((b.rp 5 Z).b a.fr).rp ((b.rp 17 Z).b a.fr).rp (a.ro 0 Z).rp) ?_
  rintro q w l
  have a:=a.e l
  exact⟨_,_,⟨q,Z,Z,Z⟩,SfT.mk' j Rds.nil Off.nil a⟩
 rintro q x_q y_q ⟨_,rfl,rfl,rfl⟩
 refine bN 1 Z<|dv fun w hQ=>?_
 obtain⟨cq,cc,j,b,f,a⟩:=hQ
 refine ak<|R<|N (aM (us:=[d,e,I c]) u101 Z bU Z (a.p 4 Z Z)) Z<|N (am (k:=1) u104 Z Z cH Z) Z<|N (au u31 Z Z ((b.rb 3 Z).cell a.fr 1 Z)) Z<|N (am (k:=2) u104 Z Z cH Z) Z<|N (au u31 Z Z ((b.rb 3 Z).cell a.fr 2 Z)) Z ?_
 replace a:=a.pick (os':=[U X q ba,U X a7 a6,U X a5 a4,U X a3 a2]++[Y A [d,e,I c],Y B [L3,L3,L3]]) [0,1,2,3,4,5] (by decide) rfl
 obtain⟨j,b,f,a⟩:=j.frzK hTT b f a
 refine J h fun cr bq h=>aH Z (br c bq (j.okT hTT a) (b.i f 4 Z) (b.i f 5 Z) (b.i f 1 Z) (b.i f 2 Z)) Z ?_
 rintro cd w ⟨_,rfl,l,D⟩
 obtain⟨ct,ce,j,b,f,a⟩:=j.l b f a l D rfl
 refine V 1 Z<|gl2<|V 2 Z<|N (aM (us:=[d,e,I c]) u101 Z bU Z (a.p 0 Z Z)) Z<|V 2 Z<|J h fun cu bs h=>aV a Z (cM c bs ((b.rp 4 Z).b a.fr).rp ((b.rp 5 Z).b a.fr).rp ((b.rp 22 Z).b a.fr).rp ((b.rp 22 Z).b a.fr).rp) Z fun ap w a=>N (cb (vs:=[(0,p,[p]),(1,q,[q]),(2,ap,[ap])]) (cells:=[p,q,ap]) Z lj ⟨(cK ((b.rp 15 Z).b a.fr).one),(cK ((b.rp 21 Z).b a.fr).one),(cK (a.ro 0 Z).one),trivial⟩ Z) Z<|bo (bz (i:=2) (us:=[p,q,ap]) Z cT Z Z Z ⟨((b.rp 15 Z).b a.fr).one,((b.rp 21 Z).b a.fr).one,(a.ro 0 Z).one,trivial⟩ Z a) fun w a=>P<|ay ?_
 cases h
 obtain⟨bk,hR⟩:=j.outT hTT b f a
 exact dh Z ⟨_,Z,bS (us:=[p,q,ap]) u104 Z cT (a.p 2 Z Z)⟩ ⟨p,q,ap,Z,bk,(hR.pick [25,21,15] Z)⟩
end Go.Proofs
