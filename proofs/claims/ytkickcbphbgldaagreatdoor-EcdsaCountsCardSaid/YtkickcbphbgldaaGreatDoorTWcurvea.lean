import Derived.Test.YtkickcbphbgldaaGreatDoorTW0
import Derived.Test.YtkickcbphbgldaaGreatDoorGkFman
import Derived.Test.YtkickcbphbgldaaGreatDoorTWbignumc
import Derived.Test.YtkickcbphbgldaaGreatDoorTWnatb
set_option linter.unusedVariables false
set_option linter.unusedSimpArgs false
set_option linter.unusedSectionVars false
set_option maxRecDepth 4000
namespace Go.Proofs
open Go Go.RowKit Go.Gk
open Go.Gk renaming Off → K, Rds → Q, aa → P, ae → O, af → H, ah → J, ai → I, e32 → U, own → N, pB → M
open Nat renaming le_of_ble_eq_true → R
open Go.Gk.OE renaming bx → W
open Go.Gk.Rds renaming cons → Y
theorem cO {d:World} (a0:List UInt8) {r:Bool×List UInt32}
  (h:F.BE a0=some r) :Calls Tryz.prog 167 #[vS a0] d (Ret fun v w=>∃b:Value,∃un0:Nat,v=M un0 0∧St [] d w [W un0 [vB r.1,b],N U b r.2]):=by
 refine aH 12 Tryz.func167 Z Z Z ?_
 have a:=St.l d
 refine au [(0,vS a0)] ⟨Z,V⟩ ?_
 unfold F.BE at h
 refine J (H (P 1 Z ?_))
 refine I (O (J (H (aV (ba (cs:=[vB false,.slice none 0 0]) cT Z a) Z ?_))))
 rintro _ w ⟨c,rfl,a⟩
 refine P 1 Z ?_
 replace a:=a.nil U
 have f:=a.pick (os':=[W c [vB false,.slice none 0 0],N U (.slice none 0 0) []]++[]) [1,0] (by decide) Z
 obtain ⟨j,e,h⟩:=aj h
 refine ao Z (jE false a0 16 e f.g ) Z ?_
 rintro _ w ⟨g,rfl,i⟩
 have a:=f.h i
 refine P 5 Z ?_
 refine I (O (J (H (P 2 Z ?_))))
 refine I (O (ax ?_))
 cases h
 exact aG Z Z ⟨g,c,Z,a.e [0,1] Z Z⟩
theorem qe {n:World} {T:List Nat} {r:Bool×List UInt32×Bool×List UInt32×Bool×List UInt32×Bool×List UInt32×Bool×List UInt32×Int}
  (h:F.Fd =some r) (hTT:TOk [] T n):Calls Tryz.prog 118 #[] n (Ret fun v w=>∃b0:Nat,∃o:Nat,∃f:Value,∃p:Nat,∃g:Value,∃q:Nat,∃i:Value,∃s:Nat,∃j:Value,∃t:Nat,∃k:Value,v=M b0 0∧St [] n w []∧Q T w [W b0 [M o 0,M p 0,M q 0,M s 0,M t 0,vI r.2.2.2.2.2.2.2.2.2.2,.func (.func 168) #[] #[]],W t [vB r.2.2.2.2.2.2.2.2.1,k],red U k r.2.2.2.2.2.2.2.2.2.1,W s [vB r.2.2.2.2.2.2.1,j],red U j r.2.2.2.2.2.2.2.1,W q [vB r.2.2.2.2.1,i],red U i r.2.2.2.2.2.1,W p [vB r.2.2.1,g],red U g r.2.2.2.1,W o [vB r.1,f],red U f r.2.1]):=by
 refine aH 8 Tryz.func118 Z Z Z ?_
 have b:=St.l n
 have hZ:=Fz.l (S:=[]) (w0:=n)
 have hA0:Q T n []:=Q.nil
 have hA:=hA0.all
 have hP:=hA0.off Z
 refine au [] V ?_
 unfold F.Fd at h
 refine J (H (P 1 Z ?_))
 refine I (O (J (H ?_)))
 obtain ⟨al,z,h⟩:=aj h
 refine ao Z (cO [102,102,102,102,102,102,102,102,48,48,48,48,48,48,48,49,48,48,48,48,48,48,48,48,48,48,48,48,48,48,48,48,48,48,48,48,48,48,48,48,102,102,102,102,102,102,102,102,102,102,102,102,102,102,102,102,102,102,102,102,102,102,102,102] z ) Z ?_
 rintro _ w ⟨G,l,rfl,a⟩
 have b:=b.f a
 obtain ⟨an,A,h⟩:=aj h
 refine ao Z (cO [53,97,99,54,51,53,100,56,97,97,51,97,57,51,101,55,98,51,101,98,98,100,53,53,55,54,57,56,56,54,98,99,54,53,49,100,48,54,98,48,99,99,53,51,98,48,102,54,51,98,99,101,51,99,51,101,50,55,100,50,54,48,52,98] A ) Z ?_
 rintro _ w ⟨L,m,rfl,a⟩
 have b:=b.f a
 obtain ⟨ad,u,h⟩:=aj h
 refine ao Z (cO [102,102,102,102,102,102,102,102,48,48,48,48,48,48,48,48,102,102,102,102,102,102,102,102,102,102,102,102,102,102,102,102,98,99,101,54,102,97,97,100,97,55,49,55,57,101,56,52,102,51,98,57,99,97,99,50,102,99,54,51,50,53,53,49] u ) Z ?_
 rintro _ w ⟨B,c,rfl,a⟩
 have b:=b.f a
 obtain ⟨ag,x,h⟩:=aj h
 refine ao Z (cO [54,98,49,55,100,49,102,50,101,49,50,99,52,50,52,55,102,56,98,99,101,54,101,53,54,51,97,52,52,48,102,50,55,55,48,51,55,100,56,49,50,100,101,98,51,51,97,48,102,52,97,49,51,57,52,53,100,56,57,56,99,50,57,54] x ) Z ?_
 rintro _ w ⟨C,d,rfl,a⟩
 have b:=b.f a
 obtain ⟨ak,y,h⟩:=aj h
 refine ao Z (cO [52,102,101,51,52,50,101,50,102,101,49,97,55,102,57,98,56,101,101,55,101,98,52,97,55,99,48,102,57,101,49,54,50,98,99,101,51,51,53,55,54,98,51,49,53,101,99,101,99,98,98,54,52,48,54,56,51,55,98,102,53,49,102,53] y ) Z ?_
 rintro _ w ⟨D,e,rfl,a⟩
 have b:=b.f a
 refine am (ci (vs:=[(0,M l 0,[M l 0]),(1,M m 0,[M m 0]),(2,M c 0,[M c 0]),(3,M d 0,[M d 0]),(4,M e 0,[M e 0]),(5,vI 32,[vI 32]),(6,.func (.func 168) #[] #[],[.func (.func 168) #[] #[]])]) (cells:=[M l 0,M m 0,M c 0,M d 0,M e 0,vI 32,.func (.func 168) #[] #[]]) Z yj ⟨Z,Z,Z,Z,Z,Z,Z,V⟩ Z) Z ?_
 refine aV (dv (cs:=[M l 0,M m 0,M c 0,M d 0,M e 0,vI 32,.func (.func 168) #[] #[]]) Z Z b) Z ?_
 rintro _ w ⟨E,rfl,b⟩
 refine P 1 Z ?_
 refine I (O (ax ?_))
 cases h
 obtain ⟨hS0,hR⟩:=hZ.outT hTT hA hP b
 exact aG Z Z ⟨E,l,G,m,L,c,B,d,C,e,D,Z,hS0,(Y (hR.b 10 Z) (Y (hR.b 9 Z) (Y (hR.b 8 Z) (Y (hR.b 7 Z) (Y (hR.b 6 Z) (Y (hR.b 5 Z) (Y (hR.b 4 Z) (Y (hR.b 3 Z) (Y (hR.b 2 Z) (Y (hR.b 1 Z) (Y (hR.b 0 Z) Q.nil)))))))))))⟩
theorem qy {n:World} {T:List Nat} {r:Bool×List UInt32×Bool×List UInt32×Bool×List UInt32×Bool×List UInt32×Bool×List UInt32×Int}
  (h:F.Fq =some r) (hTT:TOk [] T n):Calls Tryz.prog 119 #[] n (Ret fun v w=>∃b0:Nat,∃o:Nat,∃f:Value,∃p:Nat,∃g:Value,∃q:Nat,∃i:Value,∃s:Nat,∃j:Value,∃t:Nat,∃k:Value,v=M b0 0∧St [] n w []∧Q T w [W b0 [M o 0,M p 0,M q 0,M s 0,M t 0,vI r.2.2.2.2.2.2.2.2.2.2,.func (.func 168) #[] #[]],W t [vB r.2.2.2.2.2.2.2.2.1,k],red U k r.2.2.2.2.2.2.2.2.2.1,W s [vB r.2.2.2.2.2.2.1,j],red U j r.2.2.2.2.2.2.2.1,W q [vB r.2.2.2.2.1,i],red U i r.2.2.2.2.2.1,W p [vB r.2.2.1,g],red U g r.2.2.2.1,W o [vB r.1,f],red U f r.2.1]):=by
 refine aH 8 Tryz.func119 Z Z Z ?_
 have b:=St.l n
 have hZ:=Fz.l (S:=[]) (w0:=n)
 have hA0:Q T n []:=Q.nil
 have hA:=hA0.all
 have hP:=hA0.off Z
 refine au [] V ?_
 unfold F.Fq at h
 refine J (H (P 1 Z ?_))
 refine I (O (J (H ?_)))
 obtain ⟨al,z,h⟩:=aj h
 refine ao Z (cO [102,102,102,102,102,102,102,102,102,102,102,102,102,102,102,102,102,102,102,102,102,102,102,102,102,102,102,102,102,102,102,102,102,102,102,102,102,102,102,102,102,102,102,102,102,102,102,102,102,102,102,102,102,102,102,102,102,102,102,102,102,102,102,101,102,102,102,102,102,102,102,102,48,48,48,48,48,48,48,48,48,48,48,48,48,48,48,48,102,102,102,102,102,102,102,102] z ) Z ?_
 rintro _ w ⟨G,l,rfl,a⟩
 have b:=b.f a
 obtain ⟨an,A,h⟩:=aj h
 refine ao Z (cO [98,51,51,49,50,102,97,55,101,50,51,101,101,55,101,52,57,56,56,101,48,53,54,98,101,51,102,56,50,100,49,57,49,56,49,100,57,99,54,101,102,101,56,49,52,49,49,50,48,51,49,52,48,56,56,102,53,48,49,51,56,55,53,97,99,54,53,54,51,57,56,100,56,97,50,101,100,49,57,100,50,97,56,53,99,56,101,100,100,51,101,99,50,97,101,102] A ) Z ?_
 rintro _ w ⟨L,m,rfl,a⟩
 have b:=b.f a
 obtain ⟨ad,u,h⟩:=aj h
 refine ao Z (cO [102,102,102,102,102,102,102,102,102,102,102,102,102,102,102,102,102,102,102,102,102,102,102,102,102,102,102,102,102,102,102,102,102,102,102,102,102,102,102,102,102,102,102,102,102,102,102,102,99,55,54,51,52,100,56,49,102,52,51,55,50,100,100,102,53,56,49,97,48,100,98,50,52,56,98,48,97,55,55,97,101,99,101,99,49,57,54,97,99,99,99,53,50,57,55,51] u ) Z ?_
 rintro _ w ⟨B,c,rfl,a⟩
 have b:=b.f a
 obtain ⟨ag,x,h⟩:=aj h
 refine ao Z (cO [97,97,56,55,99,97,50,50,98,101,56,98,48,53,51,55,56,101,98,49,99,55,49,101,102,51,50,48,97,100,55,52,54,101,49,100,51,98,54,50,56,98,97,55,57,98,57,56,53,57,102,55,52,49,101,48,56,50,53,52,50,97,51,56,53,53,48,50,102,50,53,100,98,102,53,53,50,57,54,99,51,97,53,52,53,101,51,56,55,50,55,54,48,97,98,55] x ) Z ?_
 rintro _ w ⟨C,d,rfl,a⟩
 have b:=b.f a
 obtain ⟨ak,y,h⟩:=aj h
 refine ao Z (cO [51,54,49,55,100,101,52,97,57,54,50,54,50,99,54,102,53,100,57,101,57,56,98,102,57,50,57,50,100,99,50,57,102,56,102,52,49,100,98,100,50,56,57,97,49,52,55,99,101,57,100,97,51,49,49,51,98,53,102,48,98,56,99,48,48,97,54,48,98,49,99,101,49,100,55,101,56,49,57,100,55,97,52,51,49,100,55,99,57,48,101,97,48,101,53,102] y ) Z ?_
 rintro _ w ⟨D,e,rfl,a⟩
 have b:=b.f a
 refine am (ci (vs:=[(0,M l 0,[M l 0]),(1,M m 0,[M m 0]),(2,M c 0,[M c 0]),(3,M d 0,[M d 0]),(4,M e 0,[M e 0]),(5,vI 48,[vI 48]),(6,.func (.func 168) #[] #[],[.func (.func 168) #[] #[]])]) (cells:=[M l 0,M m 0,M c 0,M d 0,M e 0,vI 48,.func (.func 168) #[] #[]]) Z yj ⟨Z,Z,Z,Z,Z,Z,Z,V⟩ Z) Z ?_
 refine aV (dv (cs:=[M l 0,M m 0,M c 0,M d 0,M e 0,vI 48,.func (.func 168) #[] #[]]) Z Z b) Z ?_
 rintro _ w ⟨E,rfl,b⟩
 refine P 1 Z ?_
 refine I (O (ax ?_))
 cases h
 obtain ⟨hS0,hR⟩:=hZ.outT hTT hA hP b
 exact aG Z Z ⟨E,l,G,m,L,c,B,d,C,e,D,Z,hS0,(Y (hR.b 10 Z) (Y (hR.b 9 Z) (Y (hR.b 8 Z) (Y (hR.b 7 Z) (Y (hR.b 6 Z) (Y (hR.b 5 Z) (Y (hR.b 4 Z) (Y (hR.b 3 Z) (Y (hR.b 2 Z) (Y (hR.b 1 Z) (Y (hR.b 0 Z) Q.nil)))))))))))⟩
theorem gr {i:World} {T:List Nat} (a0:Int) {r:Option (Bool×List UInt32×Bool×List UInt32×Bool×List UInt32×Bool×List UInt32×Bool×List UInt32×Int)}
  (h:F.B4 a0=some r) (hTT:TOk [] T i):Calls Tryz.prog 60 #[vI a0] i (Ret fun v w=>ka r (v=.pointer none∧St [] i w []) (fun c=>∃b0:Nat,∃B:Nat,∃j:Value,∃C:Nat,∃k:Value,∃e:Nat,∃l:Value,∃D:Nat,∃m:Value,∃E:Nat,∃n:Value,v=M b0 0∧St [] i w []∧Q T w [W b0 [M B 0,M C 0,M e 0,M D 0,M E 0,vI c.2.2.2.2.2.2.2.2.2.2,.func (.func 168) #[] #[]],W E [vB c.2.2.2.2.2.2.2.2.1,n],red U n c.2.2.2.2.2.2.2.2.2.1,W D [vB c.2.2.2.2.2.2.1,m],red U m c.2.2.2.2.2.2.2.1,W e [vB c.2.2.2.2.1,l],red U l c.2.2.2.2.2.1,W C [vB c.2.2.1,k],red U k c.2.2.2.1,W B [vB c.1,j],red U j c.2.1])):=by
 refine aH 10 Tryz.func60 Z Z Z ?_
 have a:=St.l i
 have hZ:=Fz.l (S:=[]) (w0:=i)
 have hA0:Q T i []:=Q.nil
 have b:=hA0.all
 have d:=hA0.off Z
 refine au [(0,vI a0)] ⟨Z,V⟩ ?_
 unfold F.B4 at h
 refine J (H (P 1 Z ?_))
 refine I (O (J (J (H (P 1 Z ?_)))))
 refine I (O (aD ?_))
 refine J (H (P 2 Z ?_))
 refine I (O ?_)
 refine aw Z (fun f=>?_) (fun f=>?_)
 ·have h:=aJ h f
  refine J (H ?_)
  replace a:=a.pick (os':=[]++[]) [] (by decide) rfl
  obtain ⟨hZ,b,d,a⟩:=hZ.frzK hTT b d a
  obtain ⟨aF,ar,h⟩:=aj h
  refine ao Z (qe  ar (hZ.okT hTT a)) Z ?_
  rintro _ w ⟨e,G,o,L,p,ab,q,ac,s,ad,t,rfl,ag,ak⟩
  obtain ⟨aK,aB,hZ,b,d,a⟩:=hZ.m b d a ag ak rfl
  refine P 1 Z ?_
  refine I (O (ax (bP ?_)))
  refine aE ?_
  cases h
  obtain ⟨hS0,hR⟩:=hZ.outT hTT b d a
  exact aG Z Z (mX ⟨e,G,o,L,p,ab,q,ac,s,ad,t,Z,hS0,(Y (hR.b 10 Z) (Y (hR.b 9 Z) (Y (hR.b 8 Z) (Y (hR.b 7 Z) (Y (hR.b 6 Z) (Y (hR.b 5 Z) (Y (hR.b 4 Z) (Y (hR.b 3 Z) (Y (hR.b 2 Z) (Y (hR.b 1 Z) (Y (hR.b 0 Z) Q.nil)))))))))))⟩)
 have h:=aI h f
 refine J (H (P 2 Z ?_))
 refine I (O ?_)
 refine aw Z (fun g=>?_) (fun g=>?_)
 ·have h:=aJ h g
  refine J (H ?_)
  replace a:=a.pick (os':=[]++[]) [] (by decide) rfl
  obtain ⟨hZ,b,d,a⟩:=hZ.frzK hTT b d a
  obtain ⟨aL,av,h⟩:=aj h
  refine ao Z (qy  av (hZ.okT hTT a)) Z ?_
  rintro _ w ⟨ay,al,u,am,x,an,y,ap,z,aq,A,rfl,ag,ak⟩
  obtain ⟨aC,aA,hZ,b,d,a⟩:=hZ.m b d a ag ak rfl
  refine P 1 Z ?_
  refine I (O (ax (bP ?_)))
  refine aE ?_
  cases h
  obtain ⟨hS0,hR⟩:=hZ.outT hTT b d a
  exact aG Z Z (mX ⟨ay,al,u,am,x,an,y,ap,z,aq,A,Z,hS0,(Y (hR.b 10 Z) (Y (hR.b 9 Z) (Y (hR.b 8 Z) (Y (hR.b 7 Z) (Y (hR.b 6 Z) (Y (hR.b 5 Z) (Y (hR.b 4 Z) (Y (hR.b 3 Z) (Y (hR.b 2 Z) (Y (hR.b 1 Z) (Y (hR.b 0 Z) Q.nil)))))))))))⟩)
 have h:=aI h g
 refine az (aR ?_)
 refine O (J (H (P 1 Z ?_)))
 refine I (O (ax ?_))
 cases h
 obtain ⟨hS0,hR⟩:=hZ.outT hTT b d a
 exact aG Z Z (qW ⟨Z,hS0⟩)
theorem fL {d:World} {e:List UInt32} {c:Value} {f:Nat} (b:Bool) {r:List UInt32}
  (h:F.BM b e=some r) (i:RP [] d U c e) (hBa0:RB [] d f [vB b,c]):Calls Tryz.prog 61 #[M f 0] d (Ret fun v w=>St [] d w [N U v r]):=by
 refine aH 6 Tryz.func61 Z Z Z ?_
 have a:=St.l d
 refine au [(0,M f 0)] ⟨Z,V⟩ ?_
 unfold F.BM at h
 refine J (H (P 1 Z ?_))
 refine I (O (J (H (P 1 Z ?_))))
 obtain ⟨l,j,h⟩:=aj h
 refine ao Z (gX b j (i.d a.fr).rp (hBa0.d a.fr)) Z ?_
 rintro m w g
 have a:=a.f g
 obtain ⟨n,k,h⟩:=aj h
 refine ao Z (dk  k (a.ro 0 Z).rp) Z ?_
 rintro o w g
 have a:=a.f g
 refine P 1 Z ?_
 refine I (O (ax ?_))
 cases h
 exact aG Z Z (a.e [0] Z Z)
theorem rJ {g:World} (a0:Int) {r:List UInt32×List UInt32×Bool}
  (h:F.DH a0=some r) :Calls Tryz.prog 30 #[vI a0] g (Ret fun v w=>∃l m:Value,v=.agg #[l,m,vB r.2.2]∧St [] g w [N U l r.1,N U m r.2.1]):=by
 refine aH 20 Tryz.func30 Z Z Z ?_
 have a:=St.l g
 have hZ:=Fz.l (S:=[]) (w0:=g)
 have hTT:TOk [] [] g:=TOk.nil
 have d:Q [] g []:=Q.nil
 have j:K [] []:=K.emp
 refine au [(0,vI a0)] ⟨Z,V⟩ ?_
 unfold F.DH at h
 refine J (H (aV (ba (cs:=[.slice none 0 0,.slice none 0 0,vB false]) lj Z a) Z ?_))
 rintro _ w ⟨u,rfl,a⟩
 refine I (O (J (J (H (P 1 Z ?_)))))
 replace a:=a.pick (os':=[]++[W u [.slice none 0 0,.slice none 0 0,vB false]]) [0] (by decide) rfl
 obtain ⟨hZ,d,j,a⟩:=hZ.frzK hTT d j a
 obtain ⟨L,y,h⟩:=aj h
 refine ao Z (gr a0 y (hZ.okT hTT a)) Z ?_
 rintro v_q w n
 cases f:L with
 | none=>
  have h:=fD h f
  rw [f]at n
  obtain ⟨rfl,e⟩:=eL n
  obtain ⟨aA,ap,hZ,d,j,a⟩:=hZ.m d j a e Q.nil rfl
  refine P 1 Z ?_
  refine I (O (J (H (P 1 Z ?_))))
  refine am (aq Z Z (kX u71)) Z (I (O (fi Z ?_)))
  refine az (O (J (H (am (ci (vs:=[]) (cells:=[.slice none 0 0,.slice none 0 0,vB false]) Z gm V Z) Z (bn (br (i:=0) (us:=[.slice none 0 0,.slice none 0 0,vB false]) Z cI Z Z Z ⟨Z,Z,Z,V⟩ Z a) ?_)))))
  intro w a
  refine I (O (ax ?_))
  cases h
  replace a:=hZ.st a
  exact eK Z ⟨_,Z,bW (us:=[.slice none 0 0,.slice none 0 0,vB false]) u33 Z cI (a.q 0 Z Z)⟩ ⟨.slice none 0 0,.slice none 0 0,Z,((a.nil U).nil U).e [1,0] Z Z⟩
 | some x=>
  have h:=fw h f
  rw [f]at n
  obtain ⟨z,T,A,ab,B,ac,C,ad,D,ag,E,rfl,e,ak⟩:=eM n
  obtain ⟨an,o,hZ,d,j,a⟩:=hZ.m d j a e ak rfl
  refine P 1 Z ?_
  refine I (O (J (H (P 1 Z ?_))))
  refine am (aq Z Z (jY u71 z 0)) Z (I (O (dM Z ?_)))
  refine J ?_
  refine dK (fun w'=>St an o w' [W u [.slice none 0 0,.slice none 0 0,vB false]]) (fun i=>!([4,9,11].contains i)) bQ (fun _ _ _ G=>G.2) (fun _ _ G=>G) (by kernel_rfl) ?_
  have a:=a.drew
  show lxE _ _ _ _ _ _ _ [0,1,2,3,4,5,6,7,8,9,10,11] _ _
  refine al a Z Z (fun w hF=>ar Z) Z (al a Z Z (fun w hF=>aL Z) Z (al a Z Z (fun w hF=>av (k:=3) u76 Z Z cx Z) Z (al a Z Z (fun w hF=>aC u73 Z Z ((d.rb 10 Z).cell hF.fr 3 Z)) Z ?_)))
  obtain ⟨aw,p,h⟩:=aj h
  refine bf a Z Z (by kernel_rfl) Z (fL x.2.2.2.2.2.2.1 p ((d.rp 6 Z).d a.fr).rp ((d.rb 7 Z).d a.fr)) Z ?_
  rintro b w e
  have a:=a.f e
  have q:=(a.ro 0 Z).one
  refine al (a.e [1] Z Z) Z Z (fun w hF=>ar Z) Z (al (a.e [1] Z Z) Z Z (fun w hF=>aL Z) Z (al (a.e [1] Z Z) Z Z (fun w hF=>av (k:=4) u76 Z Z cx Z) Z (al (a.e [1] Z Z) Z Z (fun w hF=>aC u73 Z Z ((d.rb 10 Z).cell hF.fr 4 Z)) Z ?_)))
  obtain ⟨ay,s,h⟩:=aj h
  refine bf (a.e [1] Z Z) Z Z (by kernel_rfl) Z (fL x.2.2.2.2.2.2.2.2.1 s ((d.rp 8 Z).d a.fr).rp ((d.rb 9 Z).d a.fr)) Z ?_
  rintro c w e
  have a:=a.f e
  have t:=(a.ro 0 Z).one
  refine al (a.e [2] Z Z) Z Z (fun w hF=>ci (vs:=[(0,b,[b]),(1,c,[c])]) (cells:=[b,c,vB false]) Z gm ⟨(fo q),(fo t),V⟩ Z) Z ?_
  refine iH (a.e [2] Z Z) Z Z (br (i:=2) (us:=[b,c,vB false]) Z cI Z Z Z ⟨(a.ro 1 Z).one,(a.ro 0 Z).one,Z,V⟩ Z a) ?_
  intro w a
  refine bl V ?_
  refine O (ax (aE ?_))
  cases h
  replace a:=hZ.st a
  exact eK Z ⟨_,Z,bW (us:=[b,c,vB false]) u33 Z cI (a.q 2 Z Z)⟩ ⟨b,c,Z,a.e [1,0] Z Z⟩
theorem ir {e:World} (a0:Int) {r:List UInt32}
  (h:F.Do a0=some r) :Calls Tryz.prog 21 #[vI a0] e (Ret fun v w=>St [] e w [N U v r]):=by
 refine aH 13 Tryz.func21 Z Z Z ?_
 have a:=St.l e
 have hZ:=Fz.l (S:=[]) (w0:=e)
 have hTT:TOk [] [] e:=TOk.nil
 have b:Q [] e []:=Q.nil
 have f:K [] []:=K.emp
 refine au [(0,vI a0)] ⟨Z,V⟩ ?_
 unfold F.Do at h
 refine J (H (P 1 Z ?_))
 refine I (O (J (J (H (P 1 Z ?_)))))
 replace a:=a.pick (os':=[]++[]) [] (by decide) rfl
 obtain ⟨hZ,b,f,a⟩:=hZ.frzK hTT b f a
 obtain ⟨s,i,h⟩:=aj h
 refine ao Z (gr a0 i (hZ.okT hTT a)) Z ?_
 rintro v_q w g
 cases c:s with
 | none=>
  have h:=fD h c
  rw [c]at g
  obtain ⟨rfl,d⟩:=eL g
  obtain ⟨G,C,hZ,b,f,a⟩:=hZ.m b f a d Q.nil rfl
  refine P 1 Z ?_
  refine I (O (J (H (P 1 Z ?_))))
  refine am (aq Z Z (kX u71)) Z (I (O (fi Z ?_)))
  refine az (O (J (H (P 1 Z ?_))))
  refine I (O (ax ?_))
  cases h
  replace a:=hZ.st a
  exact aG Z Z ((a.nil U).e [0] Z Z)
 | some t=>
  have h:=fw h c
  rw [c]at g
  obtain ⟨j,u,l,x,m,y,n,z,o,A,p,rfl,d,B⟩:=eM g
  obtain ⟨L,D,hZ,b,f,a⟩:=hZ.m b f a d B rfl
  refine P 1 Z ?_
  refine I (O (J (H (P 1 Z ?_))))
  refine am (aq Z Z (jY u71 j 0)) Z (I (O (dM Z ?_)))
  refine J (H (P 1 Z ?_))
  refine am (aL Z) Z (am (av (k:=2) u76 Z Z cx Z) Z (am (aC u73 Z Z ((b.rb 10 Z).cell a.fr 2 Z)) Z ?_))
  obtain ⟨T,q,h⟩:=aj h
  refine ao Z (fL t.2.2.2.2.1 q ((b.rp 4 Z).d a.fr).rp ((b.rb 5 Z).d a.fr)) Z ?_
  rintro E w d
  have a:=a.f d
  refine P 1 Z ?_
  refine I (O (ax (aE ?_)))
  cases h
  replace a:=hZ.st a
  exact aG Z Z (a.e [0] Z Z)
theorem dY {c:World} (a0:Int) {r:Int}
  (h:F.BS a0=some r) :Calls Tryz.prog 20 #[vI a0] c (Ret fun v w=>v=vI r∧St [] c w []):=by
 refine aH 12 Tryz.func20 Z Z Z ?_
 have a:=St.l c
 have hZ:=Fz.l (S:=[]) (w0:=c)
 have hTT:TOk [] [] c:=TOk.nil
 have d:Q [] c []:=Q.nil
 have e:K [] []:=K.emp
 refine au [(0,vI a0)] ⟨Z,V⟩ ?_
 unfold F.BS at h
 refine J (H (P 1 Z ?_))
 refine I (O (J (J (H (P 1 Z ?_)))))
 replace a:=a.pick (os':=[]++[]) [] (by decide) rfl
 obtain ⟨hZ,d,e,a⟩:=hZ.frzK hTT d e a
 obtain ⟨q,i,h⟩:=aj h
 refine ao Z (gr a0 i (hZ.okT hTT a)) Z ?_
 rintro v_q w g
 cases b:q with
 | none=>
  have h:=fD h b
  rw [b]at g
  obtain ⟨rfl,f⟩:=eL g
  obtain ⟨C,A,hZ,d,e,a⟩:=hZ.m d e a f Q.nil rfl
  refine P 1 Z ?_
  refine I (O (J (H (P 1 Z ?_))))
  refine am (aq Z Z (kX u71)) Z (I (O (fi Z ?_)))
  refine az (O (J (H (P 1 Z ?_))))
  refine I (O (ax ?_))
  cases h
  replace a:=hZ.st a
  exact aG Z Z ⟨Z,a⟩
 | some D=>
  have h:=fw h b
  rw [b]at g
  obtain ⟨j,s,l,t,m,u,n,x,o,y,p,rfl,f,z⟩:=eM g
  obtain ⟨E,B,hZ,d,e,a⟩:=hZ.m d e a f z rfl
  refine P 1 Z ?_
  refine I (O (J (H (P 1 Z ?_))))
  refine am (aq Z Z (jY u71 j 0)) Z (I (O (dM Z ?_)))
  refine J (H (P 1 Z ?_))
  refine am (aL Z) Z (am (av (k:=5) u76 Z Z nz3 Z) Z (am (aC Tryz.underlying3 Z Z ((d.rb 10 Z).cell a.fr 5 Z)) Z (P 1 Z ?_)))
  refine I (O (ax (aE ?_)))
  cases h
  replace a:=hZ.st a
  exact aG Z Z ⟨Z,a⟩
theorem km {e:World} {a0:List UInt32} {b:Value} {r:Bool×List UInt32}
  (h:F.C3 a0=some r) (k:RP [] e U b a0):Calls Tryz.prog 133 #[b] e (Ret fun v w=>∃c:Value,∃un0:Nat,v=M un0 0∧St [] e w [W un0 [vB r.1,c],N U c r.2]):=by
 refine aH 7 Tryz.func133 Z Z Z ?_
 have a:=St.l e
 refine au [(0,b)] ⟨Z,V⟩ ?_
 unfold F.C3 at h
 refine J (H (P 1 Z ?_))
 refine I (O (J (H (aV (ba (cs:=[vB false,.slice none 0 0]) cT Z a) Z ?_))))
 rintro _ w ⟨f,rfl,a⟩
 refine P 1 Z ?_
 obtain ⟨l,g,h⟩:=aj h
 refine ao Z (sc  g (k.d a.fr).rp) Z ?_
 rintro m w d
 have a:=a.f d
 replace a:=a.nil U
 have i:=a.pick (os':=[W f [vB false,.slice none 0 0],N U (.slice none 0 0) []]++[N e8 m l]) [2,0,1] (by decide) Z
 obtain ⟨o,j,h⟩:=aj h
 refine ao Z (eF false j i.g (i.giveO 0 Z)) Z ?_
 rintro _ w ⟨n,rfl,d⟩
 have a:=i.h d
 refine P 1 Z ?_
 refine I (O (ax ?_))
 cases h
 exact aG Z Z ⟨n,f,Z,a.e [0,1] Z Z⟩
theorem eO {m:World}  {r:Bool×List UInt32×Bool×List UInt32×Bool×List UInt32}
  (h:F.BY =some r) :Calls Tryz.prog 86 #[] m (Ret fun v w=>∃e f g:Value,∃j k l:Nat,v=.agg #[M j 0,M k 0,M l 0]∧St [] m w [W j [vB r.1,e],N U e r.2.1,W k [vB r.2.2.1,f],N U f r.2.2.2.1,W l [vB r.2.2.2.2.1,g],N U g r.2.2.2.2.2]):=by
 refine aH 5 Tryz.func86 Z Z Z ?_
 have a:=St.l m
 refine au [] V ?_
 unfold F.BY at h
 refine J (H (aV (ba (cs:=[.pointer none,.pointer none,.pointer none]) fp Z a) Z ?_))
 rintro _ w ⟨n,rfl,a⟩
 refine I (O (J (H (aV (ba (cs:=[vB false,.slice none 0 0]) cT Z a) Z ?_))))
 rintro _ w ⟨b,rfl,a⟩
 refine aV (ba (cs:=[vB false,.slice none 0 0]) cT Z a) Z ?_
 rintro _ w ⟨c,rfl,a⟩
 refine aV (ba (cs:=[vB false,.slice none 0 0]) cT Z a) Z ?_
 rintro _ w ⟨d,rfl,a⟩
 refine am (ci (vs:=[(0,M b 0,[M b 0]),(1,M c 0,[M c 0]),(2,M d 0,[M d 0])]) (cells:=[M b 0,M c 0,M d 0]) Z ma ⟨Z,Z,Z,V⟩ Z) Z ?_
 refine bn (br (i:=3) (us:=[M b 0,M c 0,M d 0]) Z bR Z Z Z ⟨Z,Z,Z,V⟩ Z a) ?_
 intro w a
 refine I (O (ax ?_))
 cases h
 exact eK Z ⟨_,Z,bW (us:=[M b 0,M c 0,M d 0]) u91 Z bR (a.q 3 Z Z)⟩ ⟨.slice none 0 0,.slice none 0 0,.slice none 0 0,b,c,d,Z,(((a.nil U).nil U).nil U).e [5,2,4,1,3,0] Z Z⟩
theorem eu {a:World} {m n o p q y:List UInt32} {d e f g i b:Value} {G z A B C D j:Nat} {S:List Nat} (c s t u x:Bool) (L:Int) (l:Bool) {r:Bool×List UInt32}
  (h:F.B1 c m s n t o u p x q L l y=some r) (hS:St S a a [W j [vB l,b],N U b y]) (E:RP S a U d m) (T:RB S a z [vB c,d]) (ak:RP S a U e n) (aq:RB S a A [vB s,e]) (al:RP S a U f o) (ar:RB S a B [vB t,f]) (an:RP S a U g p) (aw:RB S a C [vB u,g]) (ap:RP S a U i q) (ay:RB S a D [vB x,i]) (hBa0:RB S a G [M z 0,M A 0,M B 0,M C 0,M D 0,vI L,.func (.func 168) #[] #[]]):Calls Tryz.prog 139 #[M G 0,M j 0] a (Ret fun v w=>∃ab:Value,v=M j 0∧St S a w [W j [vB r.1,ab],N U ab r.2]):=by
 refine aH 12 Tryz.func139 Z Z Z ?_
 refine au [(0,M G 0),(1,M j 0)] ⟨Z,Z,V⟩ ?_
 unfold F.B1 at h
 refine J (H (P 1 Z ?_))
 refine I (O (J (H (P 3 Z ?_))))
 refine am (aL Z) Z (am (av (k:=0) u76 Z Z cx Z) Z (am (aC u73 Z Z (hBa0.cell hS.fr 0 Z)) Z ?_))
 have hG:=hS.pick (os':=[W j [vB l,b],N U b y]++[]) [0,1] (by decide) Z
 obtain ⟨aB,ag,h⟩:=aj h
 refine ao Z (kh l c ag hG.g (E.g (R Z) hG) (T.g hG)) Z ?_
 rintro _ w ⟨az,rfl,aA⟩
 have hS:=hG.h aA
 refine P 1 Z ?_
 refine I (O (ax ?_))
 cases h
 exact aG Z Z ⟨az,Z,hS.e [0,1] Z Z⟩
theorem aZ {b:World} {o p q s t ad ag:List UInt32} {i j k l m z A:Value} {ak B C D E G al am:Nat} (c d e f g:Bool) (u:Int) (x y:Bool) {r:Bool×List UInt32}
  (h:F.BB c o d p e q f s g t u x ad y ag=some r) (L:RP [] b U i o) (an:RB [] b B [vB c,i]) (S:RP [] b U j p) (ap:RB [] b C [vB d,j]) (T:RP [] b U k q) (aq:RB [] b D [vB e,k]) (ab:RP [] b U l s) (ar:RB [] b E [vB f,l]) (ac:RP [] b U m t) (av:RB [] b G [vB g,m]) (hBa0:RB [] b ak [M B 0,M C 0,M D 0,M E 0,M G 0,vI u,.func (.func 168) #[] #[]]) (aB:RP [] b U z ad) (hBa1:RB [] b al [vB x,z]) (aC:RP [] b U A ag) (hBa2:RB [] b am [vB y,A]):Calls Tryz.prog 135 #[M ak 0,M al 0,M am 0] b (Ret fun v w=>∃aw:Value,∃un0:Nat,v=M un0 0∧St [] b w [W un0 [vB r.1,aw],N U aw r.2]):=by
 refine aH 13 Tryz.func135 Z Z Z ?_
 have n:=St.l b
 refine au [(0,M ak 0),(1,M al 0),(2,M am 0)] ⟨Z,Z,Z,V⟩ ?_
 unfold F.BB at h
 refine J (H (P 1 Z ?_))
 refine I (O (J (H (P 1 Z ?_))))
 refine aV (ba (cs:=[vB false,.slice none 0 0]) cT Z n) Z ?_
 rintro _ w ⟨ay,rfl,n⟩
 refine P 2 Z ?_
 replace n:=n.nil U
 have a:=n.pick (os':=[W ay [vB false,.slice none 0 0],N U (.slice none 0 0) []]++[]) [1,0] (by decide) Z
 obtain ⟨az,aE,h⟩:=aj h
 refine ao Z (fU false x y aE a.g (aB.g (R Z) a) (hBa1.g a) (aC.g (R Z) a) (hBa2.g a)) Z ?_
 rintro _ w ⟨aD,rfl,aA⟩
 have n:=a.h aA
 have a:=n.pick (os':=[W ay [vB az.1,aD],N U aD az.2]++[]) [0,1] (by decide) Z
 obtain ⟨aJ,aF,h⟩:=aj h
 refine ao Z (eu c d e f g u az.1 aF a.g (L.g (R Z) a) (an.g a) (S.g (R Z) a) (ap.g a) (T.g (R Z) a) (aq.g a) (ab.g (R Z) a) (ar.g a) (ac.g (R Z) a) (av.g a) (hBa0.g a)) Z ?_
 rintro _ w ⟨aI,rfl,aA⟩
 have n:=a.h aA
 refine P 1 Z ?_
 refine I (O (ax ?_))
 cases h
 exact aG Z Z ⟨aI,ay,Z,n.e [0,1] Z Z⟩
theorem cR {b:World} {n o p q s T:List UInt32} {i j k l m x:Value} {ab y z A B C ac:Nat} (c d e f g:Bool) (t a1:Int) (u:Bool) {r:Bool×List UInt32}
  (h:F.BP c n d o e p f q g s t a1 u T=some r) (D:RP [] b U i n) (ad:RB [] b y [vB c,i]) (E:RP [] b U j o) (ag:RB [] b z [vB d,j]) (G:RP [] b U k p) (ak:RB [] b A [vB e,k]) (L:RP [] b U l q) (al:RB [] b B [vB f,l]) (S:RP [] b U m s) (am:RB [] b C [vB g,m]) (hBa0:RB [] b ab [M y 0,M z 0,M A 0,M B 0,M C 0,vI t,.func (.func 168) #[] #[]]) (aq:RP [] b U x T) (hBa2:RB [] b ac [vB u,x]):Calls Tryz.prog 138 #[M ab 0,vI a1,M ac 0] b (Ret fun v w=>∃an:Value,∃un0:Nat,v=M un0 0∧St [] b w [W un0 [vB r.1,an],N U an r.2]):=by
 refine aH 12 Tryz.func138 Z Z Z ?_
 have a:=St.l b
 refine au [(0,M ab 0),(1,vI a1),(2,M ac 0)] ⟨Z,Z,Z,V⟩ ?_
 unfold F.BP at h
 refine J (H (P 1 Z ?_))
 refine I (O (J (H (P 2 Z ?_))))
 obtain ⟨aw,ar,h⟩:=aj h
 refine ao Z (cC a1 ar ) Z ?_
 rintro _ w ⟨aA,aB,rfl,ap⟩
 have a:=a.f ap
 refine P 1 Z ?_
 obtain ⟨aC,av,h⟩:=aj h
 refine ao Z (aZ c d e f g t aw.1 u av (D.d a.fr).rp (ad.d a.fr) (E.d a.fr).rp (ag.d a.fr) (G.d a.fr).rp (ak.d a.fr) (L.d a.fr).rp (al.d a.fr) (S.d a.fr).rp (am.d a.fr) (hBa0.d a.fr) (a.ro 1 Z).rp (a.rb 0 Z) (aq.d a.fr).rp (hBa2.d a.fr)) Z ?_
 rintro _ w ⟨ay,az,rfl,ap⟩
 have a:=a.f ap
 refine P 1 Z ?_
 refine I (O (ax ?_))
 cases h
 exact aG Z Z ⟨ay,az,Z,a.e [0,1] Z Z⟩
theorem cj {b:World} {o p q s t ad ag:List UInt32} {i j k l m z A:Value} {ak B C D E G al am:Nat} (c d e f g:Bool) (u:Int) (x y:Bool) {r:Bool×List UInt32}
  (h:F.BJ c o d p e q f s g t u x ad y ag=some r) (L:RP [] b U i o) (an:RB [] b B [vB c,i]) (S:RP [] b U j p) (ap:RB [] b C [vB d,j]) (T:RP [] b U k q) (aq:RB [] b D [vB e,k]) (ab:RP [] b U l s) (ar:RB [] b E [vB f,l]) (ac:RP [] b U m t) (av:RB [] b G [vB g,m]) (hBa0:RB [] b ak [M B 0,M C 0,M D 0,M E 0,M G 0,vI u,.func (.func 168) #[] #[]]) (aB:RP [] b U z ad) (hBa1:RB [] b al [vB x,z]) (aC:RP [] b U A ag) (hBa2:RB [] b am [vB y,A]):Calls Tryz.prog 137 #[M ak 0,M al 0,M am 0] b (Ret fun v w=>∃aw:Value,∃un0:Nat,v=M un0 0∧St [] b w [W un0 [vB r.1,aw],N U aw r.2]):=by
 refine aH 13 Tryz.func137 Z Z Z ?_
 have n:=St.l b
 refine au [(0,M ak 0),(1,M al 0),(2,M am 0)] ⟨Z,Z,Z,V⟩ ?_
 unfold F.BJ at h
 refine J (H (P 1 Z ?_))
 refine I (O (J (H (P 1 Z ?_))))
 refine aV (ba (cs:=[vB false,.slice none 0 0]) cT Z n) Z ?_
 rintro _ w ⟨ay,rfl,n⟩
 refine P 2 Z ?_
 replace n:=n.nil U
 have a:=n.pick (os':=[W ay [vB false,.slice none 0 0],N U (.slice none 0 0) []]++[]) [1,0] (by decide) Z
 obtain ⟨az,aE,h⟩:=aj h
 refine ao Z (ji false x y aE a.g (aB.g (R Z) a) (hBa1.g a) (aC.g (R Z) a) (hBa2.g a)) Z ?_
 rintro _ w ⟨aD,rfl,aA⟩
 have n:=a.h aA
 have a:=n.pick (os':=[W ay [vB az.1,aD],N U aD az.2]++[]) [0,1] (by decide) Z
 obtain ⟨aJ,aF,h⟩:=aj h
 refine ao Z (eu c d e f g u az.1 aF a.g (L.g (R Z) a) (an.g a) (S.g (R Z) a) (ap.g a) (T.g (R Z) a) (aq.g a) (ab.g (R Z) a) (ar.g a) (ac.g (R Z) a) (av.g a) (hBa0.g a)) Z ?_
 rintro _ w ⟨aI,rfl,aA⟩
 have n:=a.h aA
 refine P 1 Z ?_
 refine I (O (ax ?_))
 cases h
 exact aG Z Z ⟨aI,ay,Z,n.e [0,1] Z Z⟩
theorem iV {x:World} {ak al an ap aq aP aQ:List UInt32} {L S T ab ac aA aB:Value} {aR aD aE aF aK aM aS aT:Nat} (b d g i j:Bool) (z:Int) (A E:Bool) {r:Bool}
  (h:F.CV b ak d al g an i ap j aq z A aP E aQ=some r) (c:RP [] x U L ak) (l:RB [] x aD [vB b,L]) (f:RP [] x U S al) (p:RB [] x aE [vB d,S]) (m:RP [] x U T an) (q:RB [] x aF [vB g,T]) (n:RP [] x U ab ap) (s:RB [] x aK [vB i,ab]) (o:RP [] x U ac aq) (u:RB [] x aM [vB j,ac]) (hBa0:RB [] x aR [M aD 0,M aE 0,M aF 0,M aK 0,M aM 0,vI z,.func (.func 168) #[] #[]]) (B:RP [] x U aA aP) (hBa1:RB [] x aS [vB A,aA]) (ad:RP [] x U aB aQ) (hBa2:RB [] x aT [vB E,aB]):Calls Tryz.prog 76 #[M aR 0,M aS 0,M aT 0] x (Ret fun v w=>v=vB r∧St [] x w []):=by
 refine aH 55 Tryz.func76 Z Z Z ?_
 have a:=St.l x
 refine au [(0,M aR 0),(1,M aS 0),(2,M aT 0)] ⟨Z,Z,Z,V⟩ ?_
 unfold F.CV at h
 refine J (H (P 1 Z ?_))
 refine I (O (J (H (P 5 Z ?_))))
 obtain ⟨ar,a9,h⟩:=aj h
 refine ao Z (aZ b d g i j z A A a9 (c.d a.fr).rp (l.d a.fr) (f.d a.fr).rp (p.d a.fr) (m.d a.fr).rp (q.d a.fr) (n.d a.fr).rp (s.d a.fr) (o.d a.fr).rp (u.d a.fr) (hBa0.d a.fr) (B.d a.fr).rp (hBa1.d a.fr) (B.d a.fr).rp (hBa1.d a.fr)) Z ?_
 rintro _ w ⟨aN,a7,rfl,e⟩
 have a:=a.f e
 obtain ⟨aw,ba,h⟩:=aj h
 refine ao Z (aZ b d g i j z A ar.1 ba (c.d a.fr).rp (l.d a.fr) (f.d a.fr).rp (p.d a.fr) (m.d a.fr).rp (q.d a.fr) (n.d a.fr).rp (s.d a.fr) (o.d a.fr).rp (u.d a.fr) (hBa0.d a.fr) (B.d a.fr).rp (hBa1.d a.fr) (a.ro 1 Z).rp (a.rb 0 Z)) Z ?_
 rintro _ w ⟨aO,a8,rfl,e⟩
 have a:=a.f e
 refine P 1 Z ?_
 refine I (O (J (H (P 4 Z ?_))))
 obtain ⟨G,aY,h⟩:=aj h
 refine ao Z (cR b d g i j z 3 A aY (c.d a.fr).rp (l.d a.fr) (f.d a.fr).rp (p.d a.fr) (m.d a.fr).rp (q.d a.fr) (n.d a.fr).rp (s.d a.fr) (o.d a.fr).rp (u.d a.fr) (hBa0.d a.fr) (B.d a.fr).rp (hBa1.d a.fr)) Z ?_
 rintro _ w ⟨ag,aU,rfl,e⟩
 have a:=a.f e
 obtain ⟨ay,a0,h⟩:=aj h
 refine ao Z (cj b d g i j z aw.1 G.1 a0 (c.d a.fr).rp (l.d a.fr) (f.d a.fr).rp (p.d a.fr) (m.d a.fr).rp (q.d a.fr) (n.d a.fr).rp (s.d a.fr) (o.d a.fr).rp (u.d a.fr) (hBa0.d a.fr) (a.ro 3 Z).rp (a.rb 2 Z) (a.ro 1 Z).rp (a.rb 0 Z)) Z ?_
 rintro _ w ⟨aV,aW,rfl,e⟩
 have a:=a.f e
 refine P 1 Z ?_
 refine I (O (J (H (P 4 Z ?_))))
 refine am (aL Z) Z (am (av (k:=1) u76 Z Z cx Z) Z (am (aC u73 Z Z (hBa0.cell a.fr 1 Z)) Z ?_))
 have y:=a.pick (os':=[W aW [vB ay.1,aV],N U aV ay.2]++[W aU [vB G.1,ag],N U ag G.2,W a8 [vB aw.1,aO],N U aO aw.2,W a7 [vB ar.1,aN],N U aN ar.2]) [0,1,2,3,4,5,6,7] (by decide) Z
 obtain ⟨az,a1,h⟩:=aj h
 refine ao Z (dp ay.1 d a1 y.g (f.g (R Z) y) (p.g y)) Z ?_
 rintro _ w ⟨aX,rfl,e⟩
 have a:=y.h e
 have y:=a.pick (os':=[W aW [vB az.1,aX],N U aX az.2]++[W aU [vB G.1,ag],N U ag G.2,W a8 [vB aw.1,aO],N U aO aw.2,W a7 [vB ar.1,aN],N U aN ar.2]) [0,1,2,3,4,5,6,7] (by decide) Z
 obtain ⟨bb,a2,h⟩:=aj h
 refine ao Z (eu b d g i j z az.1 a2 y.g (c.g (R Z) y) (l.g y) (f.g (R Z) y) (p.g y) (m.g (R Z) y) (q.g y) (n.g (R Z) y) (s.g y) (o.g (R Z) y) (u.g y) (hBa0.g y)) Z ?_
 rintro _ w ⟨bf,rfl,e⟩
 have a:=y.h e
 refine P 1 Z ?_
 refine I (O (J (H (P 2 Z ?_))))
 refine am (aL Z) Z (am (av (k:=0) u76 Z Z cx Z) Z (am (aC u73 Z Z (hBa0.cell a.fr 0 Z)) Z ?_))
 obtain ⟨bc,a3,h⟩:=aj h
 refine ao Z (eP A b a3 (B.d a.fr).rp (hBa1.d a.fr) (c.d a.fr).rp (l.d a.fr)) Z ?_
 rintro _ w ⟨rfl,e⟩
 have a:=a.f e
 refine P 2 Z ?_
 cases C:(decide (bc<0))
 case true=>
  have h:=aJ h C
  try simp only [C]
  refine P 2 Z ?_
  refine bo (t:=37) Z Z (aL Z) Z (bo (t:=37) Z Z (av (k:=0) u76 Z Z cx Z) Z (bo (t:=37) Z Z (aC u73 Z Z (hBa0.cell a.fr 0 Z)) Z ?_))
  obtain ⟨bd,a4,h⟩:=aj h
  refine cr (t:=37) Z Z (by kernel_rfl) Z (eP E b a4 (ad.d a.fr).rp (hBa2.d a.fr) (c.d a.fr).rp (l.d a.fr)) Z ?_
  rintro _ w ⟨rfl,e⟩
  have a:=a.f e
  refine P 3 Z ?_
  cases D:(decide (bd<0))
  case true=>
   have h:=aJ h D
   try simp only [D]
   refine P 3 Z ?_
   obtain ⟨be,a5,h⟩:=aj h
   refine cr (t:=46) Z Z (by kernel_rfl) Z (aZ b d g i j z E E a5 (c.d a.fr).rp (l.d a.fr) (f.d a.fr).rp (p.d a.fr) (m.d a.fr).rp (q.d a.fr) (n.d a.fr).rp (s.d a.fr) (o.d a.fr).rp (u.d a.fr) (hBa0.d a.fr) (ad.d a.fr).rp (hBa2.d a.fr) (ad.d a.fr).rp (hBa2.d a.fr)) Z ?_
   rintro _ w ⟨bg,bh,rfl,e⟩
   have a:=a.f e
   refine P 1 Z ?_
   obtain ⟨bi,a6,h⟩:=aj h
   refine cr (t:=46) Z Z (by kernel_rfl) Z (eP be.1 bb.1 a6 (a.ro 1 Z).rp (a.rb 0 Z) (a.ro 3 Z).rp (a.rb 2 Z)) Z ?_
   rintro _ w ⟨rfl,e⟩
   have a:=a.f e
   refine P 3 Z ?_
   refine I (O (ax ?_))
   cases h
   exact aG Z Z ⟨Z,a.e [] Z Z⟩
  case false=>
   have h:=aI h D
   try simp only [D]
   refine P 9 Z ?_
   refine I (O (ax ?_))
   cases h
   exact aG Z Z ⟨Z,a.e [] Z Z⟩
 case false=>
  have h:=aI h C
  try simp only [C]
  refine P 18 Z ?_
  refine I (O (ax ?_))
  cases h
  exact aG Z Z ⟨Z,a.e [] Z Z⟩
theorem k8 {b:World} {ac ad ag ak an aG aK:List UInt32} {d e f g j l m:Value} {aL C D E G L:Nat} {T:List Nat} (o p q s u:Bool) (ar:Int) (ap:Bool) {r:Bool×List UInt32×Bool×List UInt32×Bool×List UInt32×Bool}
  (h:F.Ei o ac p ad q ag s ak u an ar aG aK ap=some r) (hTT:TOk [] T b) (aM:RP T b U d ac) (aR:RB T b C [vB o,d]) (aN:RP T b U e ad) (aS:RB T b D [vB p,e]) (aO:RP T b U f ag) (aT:RB T b E [vB q,f]) (aP:RP T b U g ak) (aU:RB T b G [vB s,g]) (aQ:RP T b U j an) (aW:RB T b L [vB u,j]) (hBa0:RB T b aL [M C 0,M D 0,M E 0,M G 0,M L 0,vI ar,.func (.func 168) #[] #[]]) (a5:RP T b U l aG) (a6:RP T b U m aK):Calls Tryz.prog 132 #[M aL 0,.agg #[l,m,vB ap]] b (Ret fun v w=>∃aX:Nat,∃aB:Value,∃aZ:Nat,∃aD:Value,∃a0:Nat,∃aF:Value,v=.tuple #[.agg #[M aX 0,M aZ 0,M a0 0],vB r.2.2.2.2.2.2]∧St [] b w []∧Q T w [W a0 [vB r.2.2.2.2.1,aF],red U aF r.2.2.2.2.2.1,W aZ [vB r.2.2.1,aD],red U aD r.2.2.2.1,W aX [vB r.1,aB],red U aB r.2.1]):=by
 refine aH 33 Tryz.func132 Z Z Z ?_
 have a:=St.l b
 have hZ:=Fz.l (S:=[]) (w0:=b)
 have hA0:Q T b [red U m aK,red U l aG,W aL [M C 0,M D 0,M E 0,M G 0,M L 0,vI ar,.func (.func 168) #[] #[]],W L [vB u,j],red U j an,W G [vB s,g],red U g ak,W E [vB q,f],red U f ag,W D [vB p,e],red U e ad,W C [vB o,d],red U d ac]:=Y (RP.i (R Z) a6) (Y (RP.i (R Z) a5) (Y hBa0.i (Y aW.i (Y (RP.i (R Z) aQ) (Y aU.i (Y (RP.i (R Z) aP) (Y aT.i (Y (RP.i (R Z) aO) (Y aS.i (Y (RP.i (R Z) aN) (Y aR.i (Y (RP.i (R Z) aM) (Q.nil)))))))))))))
 have n:=hA0.all
 have hP:=hA0.off Z
 refine au [(0,M aL 0),(1,.agg #[l,m,vB ap])] ⟨Z,Z,V⟩ ?_
 unfold F.Ei at h
 refine J (H (aV (dv (cs:=[l,m,vB ap]) Z Z a) Z ?_))
 rintro _ w ⟨bo,rfl,a⟩
 refine aV (ba (cs:=[.pointer none,.pointer none,.pointer none]) fp Z a) Z ?_
 rintro _ w ⟨bp,rfl,a⟩
 refine P 1 Z ?_
 refine I (O (J ?_))
 refine aY (fun w'=>St [] b w' [W bp [.pointer none,.pointer none,.pointer none],W bo [l,m,vB ap]]) (fun i=>!([2,5].contains i)) bQ (fun _ _ _ hf=>hf.2) (fun _ _ hf=>hf) (by kernel_rfl) ?_
 have a:=a.drew
 show lxE _ _ _ _ _ _ _ [0,1,2,3,4,5,6,7] _ _
 refine al a Z Z (fun w hF=>av (k:=0) u33 Z Z uH Z) Z (al a Z Z (fun w hF=>aC u31 Z Z (hF.r 1 Z 0)) Z ?_)
 obtain ⟨be,bi,h⟩:=aj h
 refine bf a Z Z (by kernel_rfl) Z (km  bi ((n.rp 11 Z).d a.fr).rp) Z ?_
 rintro _ w ⟨bq,aq,rfl,c⟩
 have a:=a.f c
 refine al (a.e [2,3] Z Z) Z Z (fun w hF=>av (k:=1) u33 Z Z uH Z) Z (al (a.e [2,3] Z Z) Z Z (fun w hF=>aC u31 Z Z (hF.r 1 Z 1)) Z ?_)
 obtain ⟨a1,a7,h⟩:=aj h
 refine bf (a.e [2,3] Z Z) Z Z (by kernel_rfl) Z (km  a7 ((n.rp 12 Z).d a.fr).rp) Z ?_
 rintro _ w ⟨bj,x,rfl,c⟩
 have a:=a.f c
 refine al (a.e [4,5] Z Z) Z Z (fun w hF=>aA Z) Z (al (a.e [4,5] Z Z) Z Z (fun w hF=>aA Z) Z (bl (a.e [4,5] Z Z) ?_))
 refine O (J (J (H (am (av (k:=2) u33 Z Z nz4 Z) Z (am (aC Tryz.underlying4 Z Z (a.r 5 Z 2)) Z (I (O ?_)))))))
 refine aw Z (fun ay=>?_) (fun ay=>?_)
 ·have h:=aJ h ay
  refine J (H ?_)
  obtain ⟨bs,a8,h⟩:=aj h
  refine ao Z (eO  a8 ) Z ?_
  rintro _ w ⟨a2,a3,a4,y,z,A,rfl,c⟩
  have a:=a.f c
  refine P 1 Z ?_
  obtain ⟨bk,a9,h⟩:=aj h
  refine ao Z (cz be.1 a9 (a.ro 9 Z).rp (a.rb 8 Z)) Z ?_
  rintro _ w ⟨rfl,c⟩
  have a:=a.f c
  refine P 2 Z ?_
  cases ab:(bk == 0)
  case true=>
   have h:=aJ h ab
   try simp only [ab]
   refine P 1 Z ?_
   obtain ⟨bt,bb,h⟩:=aj h
   refine cr (t:=20) Z Z (by kernel_rfl) Z (cz a1.1 bb (a.ro 7 Z).rp (a.rb 6 Z)) Z ?_
   rintro _ w ⟨rfl,c⟩
   have a:=a.f c
   refine P 2 Z ?_
   refine bn (br (i:=10) (us:=[M y 0,M z 0,M A 0]) Z bR Z Z Z ⟨Z,Z,Z,V⟩ Z a) ?_
   intro w a
   refine P 1 Z ?_
   refine I (O (ax (aE ?_)))
   cases h
   obtain ⟨hS0,hR⟩:=hZ.outT hTT n hP a
   exact fj Z ⟨_,Z,bW (us:=[M y 0,M z 0,M A 0]) u91 Z bR (a.q 10 Z Z)⟩ Z ⟨y,a2,z,a3,A,a4,Z,hS0,(Y (hR.b 20 Z) (Y (hR.b 19 Z) (Y (hR.b 22 Z) (Y (hR.b 21 Z) (Y (hR.b 24 Z) (Y (hR.b 23 Z) Q.nil))))))⟩
  case false=>
   have h:=aI h ab
   try simp only [ab]
   refine P 4 Z ?_
   refine bn (br (i:=10) (us:=[M y 0,M z 0,M A 0]) Z bR Z Z Z ⟨Z,Z,Z,V⟩ Z a) ?_
   intro w a
   refine P 1 Z ?_
   refine I (O (ax (aE ?_)))
   cases h
   obtain ⟨hS0,hR⟩:=hZ.outT hTT n hP a
   exact fj Z ⟨_,Z,bW (us:=[M y 0,M z 0,M A 0]) u91 Z bR (a.q 10 Z Z)⟩ Z ⟨y,a2,z,a3,A,a4,Z,hS0,(Y (hR.b 20 Z) (Y (hR.b 19 Z) (Y (hR.b 22 Z) (Y (hR.b 21 Z) (Y (hR.b 24 Z) (Y (hR.b 23 Z) Q.nil))))))⟩
 have h:=aI h ay
 refine az (O (J (H (P 2 Z ?_))))
 obtain ⟨bu,bc,h⟩:=aj h
 refine ao Z (cC 1 bc ) Z ?_
 rintro _ w ⟨bm,B,rfl,c⟩
 have a:=a.f c
 refine am (ci (vs:=[(0,M aq 0,[M aq 0]),(1,M x 0,[M x 0]),(2,M B 0,[M B 0])]) (cells:=[M aq 0,M x 0,M B 0]) Z ma ⟨Z,Z,Z,V⟩ Z) Z ?_
 refine P 3 Z ?_
 obtain ⟨bv,bd,h⟩:=aj h
 refine ao Z (iV o p q s u ar be.1 a1.1 bd ((n.rp 0 Z).d a.fr).rp ((n.rb 1 Z).d a.fr) ((n.rp 2 Z).d a.fr).rp ((n.rb 3 Z).d a.fr) ((n.rp 4 Z).d a.fr).rp ((n.rb 5 Z).d a.fr) ((n.rp 6 Z).d a.fr).rp ((n.rb 7 Z).d a.fr) ((n.rp 8 Z).d a.fr).rp ((n.rb 9 Z).d a.fr) ((n.rb 10 Z).d a.fr) (a.ro 5 Z).rp (a.rb 4 Z) (a.ro 3 Z).rp (a.rb 2 Z)) Z ?_
 rintro _ w ⟨rfl,c⟩
 have a:=a.f c
 refine bn (br (i:=6) (us:=[M aq 0,M x 0,M B 0]) Z bR Z Z Z ⟨Z,Z,Z,V⟩ Z a) ?_
 intro w a
 refine P 1 Z ?_
 refine I (O (ax ?_))
 cases h
 obtain ⟨hS0,hR⟩:=hZ.outT hTT n hP a
 exact fj Z ⟨_,Z,bW (us:=[M aq 0,M x 0,M B 0]) u91 Z bR (a.q 6 Z Z)⟩ Z ⟨aq,bq,x,bj,B,bm,Z,hS0,(Y (hR.b 20 Z) (Y (hR.b 19 Z) (Y (hR.b 18 Z) (Y (hR.b 17 Z) (Y (hR.b 16 Z) (Y (hR.b 15 Z) Q.nil))))))⟩
theorem jf {m:World} {E G:List UInt32} {e f:Value} {T:List Nat} (a0:Int) (l:Bool) {r:Option (Bool×List UInt32×Bool×List UInt32×Bool×List UInt32×Bool×List UInt32×Bool×List UInt32×Int×Bool×List UInt32×Bool×List UInt32×Bool×List UInt32)×Bool}
  (h:F.De a0 E G l=some r) (hTT:TOk [] T m) (aN:RP T m U e E) (aO:RP T m U f G):Calls Tryz.prog 71 #[vI a0,.agg #[e,f,vB l]] m (Ret fun v w=>ka r.1 (v=.tuple #[.pointer none,.agg #[.pointer none,.pointer none,.pointer none],vB r.2]∧St [] m w []) (fun c=>∃b0:Nat,∃ak:Nat,∃p:Value,∃an:Nat,∃q:Value,∃ap:Nat,∃s:Value,∃av:Nat,∃t:Value,∃aw:Nat,∃u:Value,∃ay:Nat,∃x:Value,∃aB:Nat,∃y:Value,∃aC:Nat,∃z:Value,v=.tuple #[M b0 0,.agg #[M ay 0,M aB 0,M aC 0],vB r.2]∧St [] m w []∧Q T w [W aC [vB c.2.2.2.2.2.2.2.2.2.2.2.2.2.2.2.1,z],red U z c.2.2.2.2.2.2.2.2.2.2.2.2.2.2.2.2,W aB [vB c.2.2.2.2.2.2.2.2.2.2.2.2.2.1,y],red U y c.2.2.2.2.2.2.2.2.2.2.2.2.2.2.1,W ay [vB c.2.2.2.2.2.2.2.2.2.2.2.1,x],red U x c.2.2.2.2.2.2.2.2.2.2.2.2.1,W b0 [M ak 0,M an 0,M ap 0,M av 0,M aw 0,vI c.2.2.2.2.2.2.2.2.2.2.1,.func (.func 168) #[] #[]],W aw [vB c.2.2.2.2.2.2.2.2.1,u],red U u c.2.2.2.2.2.2.2.2.2.1,W av [vB c.2.2.2.2.2.2.1,t],red U t c.2.2.2.2.2.2.2.1,W ap [vB c.2.2.2.2.1,s],red U s c.2.2.2.2.2.1,W an [vB c.2.2.1,q],red U q c.2.2.2.1,W ak [vB c.1,p],red U p c.2.1])):=by
 refine aH 24 Tryz.func71 Z Z Z ?_
 have a:=St.l m
 have hZ:=Fz.l (S:=[]) (w0:=m)
 have hA0:Q T m [red U f G,red U e E]:=Y (RP.i (R Z) aO) (Y (RP.i (R Z) aN) (Q.nil))
 have b:=hA0.all
 have d:=hA0.off Z
 refine au [(0,vI a0),(1,.agg #[e,f,vB l])] ⟨Z,Z,V⟩ ?_
 unfold F.De at h
 refine J (H (aV (dv (cs:=[e,f,vB l]) Z Z a) Z ?_))
 rintro _ w ⟨aD,rfl,a⟩
 refine P 1 Z ?_
 refine aV (ba (cs:=[.pointer none,.pointer none,.pointer none]) fp Z a) Z ?_
 rintro _ w ⟨aS,rfl,a⟩
 refine P 1 Z ?_
 refine I (O (J (H (P 1 Z ?_))))
 replace a:=a.pick (os':=[]++[W aS [.pointer none,.pointer none,.pointer none],W aD [e,f,vB l]]) [0,1] (by decide) rfl
 obtain ⟨hZ,b,d,a⟩:=hZ.frzK hTT b d a
 obtain ⟨aZ,aT,h⟩:=aj h
 refine ao Z (gr a0 aT (hZ.okT hTT a)) Z ?_
 rintro v_q w hQ
 cases o:aZ with
 | none=>
  have h:=fD h o
  rw [o]at hQ
  obtain ⟨rfl,A⟩:=eL hQ
  obtain ⟨a5,a1,hZ,b,d,a⟩:=hZ.m b d a A Q.nil rfl
  refine P 1 Z ?_
  refine I (O (J (J (H (P 1 Z ?_)))))
  refine am (aq Z Z (rX u71)) Z (I (O (dM Z ?_)))
  refine J (H (am (ci (vs:=[]) (cells:=[.pointer none,.pointer none,.pointer none]) Z ma V Z) Z (P 1 Z ?_)))
  refine bn (br (i:=0) (us:=[.pointer none,.pointer none,.pointer none]) Z bR Z Z Z ⟨Z,Z,Z,V⟩ Z a) ?_
  intro w a
  refine P 1 Z ?_
  refine I (O (ax (aE ?_)))
  cases h
  obtain ⟨hS0,hR⟩:=hZ.outT hTT b d a
  exact wa Z Z ⟨_,Z,bW (us:=[.pointer none,.pointer none,.pointer none]) u91 Z bR (a.q 0 Z Z)⟩ Z (qW ⟨Z,hS0⟩)
 | some n=>
  have h:=fw h o
  rw [o]at hQ
  obtain ⟨aF,aG,L,aI,ab,aJ,ac,aK,ad,aL,ag,rfl,A,aM⟩:=eM hQ
  obtain ⟨a3,a2,hZ,b,d,a⟩:=hZ.m b d a A aM rfl
  refine P 1 Z ?_
  refine I (O (J (J (H (P 1 Z ?_)))))
  refine am (aq Z Z (ru u71 aF 0)) Z (I (O (fi Z ?_)))
  refine az (O (J (H (P 1 Z ?_))))
  refine am (bY (us:=[e,f,vB l]) u33 Z cI Z (a.q 1 Z Z)) Z ?_
  replace a:=a.pick (os':=[]++[W aS [.pointer none,.pointer none,.pointer none],W aD [e,f,vB l]]) [0,1] (by decide) rfl
  obtain ⟨hZ,b,d,a⟩:=hZ.frzK hTT b d a
  obtain ⟨a4,aQ,h⟩:=aj h
  refine ao Z (k8 n.1 n.2.2.1 n.2.2.2.2.1 n.2.2.2.2.2.2.1 n.2.2.2.2.2.2.2.2.1 n.2.2.2.2.2.2.2.2.2.2 l aQ (hZ.okT hTT a) (b.j d 2 Z) (b.k d 3 Z) (b.j d 4 Z) (b.k d 5 Z) (b.j d 6 Z) (b.k d 7 Z) (b.j d 8 Z) (b.k d 9 Z) (b.j d 10 Z) (b.k d 11 Z) (b.k d 12 Z) (b.j d 0 Z) (b.j d 1 Z)) Z ?_
  rintro _ w ⟨g,B,j,C,k,D,rfl,A,aM⟩
  obtain ⟨aU,aR,hZ,b,d,a⟩:=hZ.m b d a A aM rfl
  refine P 3 Z ?_
  refine aV (ba (cs:=[.pointer none,.pointer none,.pointer none]) fp Z a) Z ?_
  rintro _ w ⟨aW,rfl,a⟩
  refine bn (br (i:=0) (us:=[M g 0,M j 0,M k 0]) Z bR Z Z Z ⟨Z,Z,Z,V⟩ Z a) ?_
  intro w a
  refine P 1 Z ?_
  refine I (O (J ?_))
  refine aY (fun w'=>St aU aR w' [W aW [M g 0,M j 0,M k 0],W aD [e,f,vB l]]) (fun i=>!([4].contains i)) bQ (fun _ _ _ hf=>hf.2) (fun _ _ hf=>hf) (by kernel_rfl) ?_
  have a:=a.drew
  show lxE _ _ _ _ _ _ _ [0,1,2,3,4,5] _ _
  refine al (a.e [0,2] Z Z) Z Z (fun w hF=>ar Z) Z (al (a.e [0,2] Z Z) Z Z (fun w hF=>bY (us:=[M g 0,M j 0,M k 0]) u91 Z bR Z (hF.q 0 Z Z)) Z (al (a.e [0,2] Z Z) Z Z (fun w hF=>ar Z) Z (al (a.e [0,2] Z Z) Z Z (fun w hF=>aA Z) Z (iH (a.e [0,2] Z Z) Z Z (br (i:=1) (us:=[M g 0,M j 0,M k 0]) Z bR Z Z Z ⟨Z,Z,Z,V⟩ Z a) ?_))))
  intro w a
  refine al (a.e [0,2] Z Z) Z Z (fun w hF=>aA Z) Z (bl (a.e [0,2] Z Z) ?_)
  refine O (ax ?_)
  cases h
  obtain ⟨hS0,hR⟩:=hZ.outT hTT b d a
  exact wa Z Z ⟨_,Z,bW (us:=[M g 0,M j 0,M k 0]) u91 Z bR (a.q 1 Z Z)⟩ Z (mX ⟨aF,aG,L,aI,ab,aJ,ac,aK,ad,aL,ag,g,B,j,C,k,D,Z,hS0,(Y (hR.b 18 Z) (Y (hR.b 17 Z) (Y (hR.b 16 Z) (Y (hR.b 15 Z) (Y (hR.b 14 Z) (Y (hR.b 13 Z) (Y (hR.b 12 Z) (Y (hR.b 11 Z) (Y (hR.b 10 Z) (Y (hR.b 9 Z) (Y (hR.b 8 Z) (Y (hR.b 7 Z) (Y (hR.b 6 Z) (Y (hR.b 5 Z) (Y (hR.b 4 Z) (Y (hR.b 3 Z) (Y (hR.b 2 Z) Q.nil)))))))))))))))))⟩)
theorem uD {e:World} {f g:List UInt32} {b c:Value} (a0:Int) (d:Bool) {r:Bool}
  (h:F.EM a0 f g d=some r) (q:RP [] e U b f) (s:RP [] e U c g):Calls Tryz.prog 32 #[vI a0,.agg #[b,c,vB d]] e (Ret fun v w=>v=vB r∧St [] e w []):=by
 refine aH 16 Tryz.func32 Z Z Z ?_
 have a:=St.l e
 have hZ:=Fz.l (S:=[]) (w0:=e)
 have hTT:TOk [] [] e:=TOk.nil
 have k:Q [] e [red U c g,red U b f]:=Y (RP.i (R Z) s) (Y (RP.i (R Z) q) (Q.nil))
 have l:K [] [red U c g,red U b f]:=K.emp
 refine au [(0,vI a0),(1,.agg #[b,c,vB d])] ⟨Z,Z,V⟩ ?_
 unfold F.EM at h
 refine J (H (aV (dv (cs:=[b,c,vB d]) Z Z a) Z ?_))
 rintro _ w ⟨G,rfl,a⟩
 refine P 1 Z ?_
 refine I (O (J (H (P 1 Z ?_))))
 refine am (bY (us:=[b,c,vB d]) u33 Z cI Z (a.q 0 Z Z)) Z ?_
 replace a:=a.pick (os':=[]++[W G [b,c,vB d]]) [0] (by decide) rfl
 obtain ⟨hZ,k,l,a⟩:=hZ.frzK hTT k l a
 obtain ⟨L,u,h⟩:=aj h
 refine ao Z (jf a0 d u (hZ.okT hTT a) (k.j l 0 Z) (k.j l 1 Z)) Z ?_
 rintro v_q w t
 cases j:L.1 with
 | none=>
  have h:=fD h j
  rw [j]at t
  obtain ⟨rfl,m⟩:=eL t
  obtain ⟨av,an,hZ,k,l,a⟩:=hZ.m k l a m Q.nil rfl
  refine P 4 Z ?_
  refine aV (ba (cs:=[.pointer none,.pointer none,.pointer none]) fp Z a) Z ?_
  rintro _ w ⟨ap,rfl,a⟩
  refine P 1 Z ?_
  refine bn (br (i:=0) (us:=[.pointer none,.pointer none,.pointer none]) Z bR Z Z Z ⟨Z,Z,Z,V⟩ Z a) ?_
  intro w a
  refine P 1 Z ?_
  refine I (O (J (H (P 2 Z ?_))))
  refine I (O (ax ?_))
  cases h
  replace a:=hZ.st a
  exact aG Z Z ⟨Z,a.e [] Z Z⟩
 | some aw=>
  have h:=fw h j
  rw [j]at t
  obtain ⟨aq,T,x,ab,y,ac,z,ad,A,ag,B,n,C,o,D,p,E,rfl,m,ak⟩:=eM t
  obtain ⟨ay,al,hZ,k,l,a⟩:=hZ.m k l a m ak rfl
  refine P 4 Z ?_
  refine aV (ba (cs:=[.pointer none,.pointer none,.pointer none]) fp Z a) Z ?_
  rintro _ w ⟨ar,rfl,a⟩
  refine P 1 Z ?_
  refine bn (br (i:=0) (us:=[M n 0,M o 0,M p 0]) Z bR Z Z Z ⟨Z,Z,Z,V⟩ Z a) ?_
  intro w a
  refine P 1 Z ?_
  refine I (O (J (H (P 2 Z ?_))))
  refine I (O (ax ?_))
  cases h
  replace a:=hZ.st a
  exact aG Z Z ⟨Z,a.e [] Z Z⟩
theorem fy {b:World} {a0:List UInt32} {c:Value} {r:Bool×List UInt32×Bool}
  (h:F.CA a0=some r) (i:RP [] b U c a0):Calls Tryz.prog 72 #[c] b (Ret fun v w=>∃d:Value,∃un0:Nat,v=.tuple #[M un0 0,vB r.2.2]∧St [] b w [W un0 [vB r.1,d],N U d r.2.1]):=by
 refine aH 9 Tryz.func72 Z Z Z ?_
 have a:=St.l b
 have hZ:=Fz.l (S:=[]) (w0:=b)
 have hTT:TOk [] [] b:=TOk.nil
 have j:Q [] b [red U c a0]:=Y (RP.i (R Z) i) (Q.nil)
 have o:K [] [red U c a0]:=K.emp
 refine au [(0,c)] ⟨Z,V⟩ ?_
 unfold F.CA at h
 refine J (H (P 2 Z ?_))
 refine I (O (J (H (P 1 Z ?_))))
 obtain ⟨m,f,h⟩:=aj h
 refine ao Z (km  f ((j.rp 0 Z).d a.fr).rp) Z ?_
 rintro _ w ⟨k,l,rfl,e⟩
 have a:=a.f e
 refine P 1 Z ?_
 obtain ⟨n,g,h⟩:=aj h
 refine ao Z (eR  g ((j.rp 0 Z).d a.fr).rp) Z ?_
 rintro _ w ⟨rfl,e⟩
 have a:=a.f e
 refine P 3 Z ?_
 refine I (O (ax ?_))
 cases h
 replace a:=hZ.st a
 exact bU Z Z Z ⟨k,l,Z,a.e [0,1] Z Z⟩
end Go.Proofs
