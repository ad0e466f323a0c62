import Derived.Test.YtkickcbphbgldaaGreatDoorTW0
import Derived.Test.YtkickcbphbgldaaGreatDoorGkFman
import Derived.Test.YtkickcbphbgldaaGreatDoorTWbignumc
import Derived.Test.YtkickcbphbgldaaGreatDoorTWnatb
set_option linter.unusedVariables false
set_option linter.unusedSimpArgs false
set_option linter.unusedSectionVars false
set_option maxRecDepth 4000
namespace Go.Proofs
open Go Go.RowKit Go.Gk
open Go.Gk renaming Off → I, Rds → P, aa → Q, ae → N, af → H, ah → M, ai → J, e32 → U, own → O, pB → K
open Nat renaming le_of_ble_eq_true → R
open Go.Gk.OE renaming bx → X
open Go.Gk.Rds renaming cons → Y
theorem cR {d:World} (a0:List UInt8) {r:Bool×List UInt32}
  (h:F.BL a0=some r) :Calls Tryz.prog 167 #[vS a0] d (Ret fun v w=>∃b:Value,∃un0:Nat,v=K un0 0∧St [] d w [X un0 [vB r.1,b],O U b r.2]):=by
 refine aN 12 Tryz.func167 Z Z Z ?_
 have a:=St.l d
 refine ar [(0,vS a0)] ⟨Z,V⟩ ?_
 unfold F.BL at h
 refine M (H (Q 1 Z ?_))
 refine J (N (M (H (aU (bg (cs:=[vB false,.slice none 0 0]) cW Z a) Z ?_))))
 rintro _ w ⟨c,rfl,a⟩
 refine Q 1 Z ?_
 replace a:=a.nil U
 have f:=a.pick (os':=[X c [vB false,.slice none 0 0],O U (.slice none 0 0) []]++[]) [1,0] (by decide) Z
 obtain ⟨j,e,h⟩:=aj h
 refine ao Z (jQ false a0 16 e f.g ) Z ?_
 rintro _ w ⟨g,rfl,i⟩
 have a:=f.h i
 refine Q 5 Z ?_
 refine J (N (M (H (Q 2 Z ?_))))
 refine J (N (ay ?_))
 cases h
 exact aM Z Z ⟨g,c,Z,a.e [0,1] Z Z⟩
theorem rN {n:World} {T:List Nat} {r:Bool×List UInt32×Bool×List UInt32×Bool×List UInt32×Bool×List UInt32×Bool×List UInt32×Int}
  (h:F.Fq =some r) (hTT:TOk [] T n):Calls Tryz.prog 118 #[] n (Ret fun v w=>∃b0:Nat,∃o:Nat,∃f:Value,∃p:Nat,∃g:Value,∃q:Nat,∃i:Value,∃s:Nat,∃j:Value,∃t:Nat,∃k:Value,v=K b0 0∧St [] n w []∧P T w [X b0 [K o 0,K p 0,K q 0,K s 0,K t 0,vI r.2.2.2.2.2.2.2.2.2.2,.func (.func 168) #[] #[]],X t [vB r.2.2.2.2.2.2.2.2.1,k],red U k r.2.2.2.2.2.2.2.2.2.1,X s [vB r.2.2.2.2.2.2.1,j],red U j r.2.2.2.2.2.2.2.1,X q [vB r.2.2.2.2.1,i],red U i r.2.2.2.2.2.1,X p [vB r.2.2.1,g],red U g r.2.2.2.1,X o [vB r.1,f],red U f r.2.1]):=by
 refine aN 8 Tryz.func118 Z Z Z ?_
 have b:=St.l n
 have hZ:=Fz.l (S:=[]) (w0:=n)
 have hA0:P T n []:=P.nil
 have hA:=hA0.all
 have hP:=hA0.off Z
 refine ar [] V ?_
 unfold F.Fq at h
 refine M (H (Q 1 Z ?_))
 refine J (N (M (H ?_)))
 obtain ⟨am,z,h⟩:=aj h
 refine ao Z (cR [102,102,102,102,102,102,102,102,48,48,48,48,48,48,48,49,48,48,48,48,48,48,48,48,48,48,48,48,48,48,48,48,48,48,48,48,48,48,48,48,102,102,102,102,102,102,102,102,102,102,102,102,102,102,102,102,102,102,102,102,102,102,102,102] z ) Z ?_
 rintro _ w ⟨G,l,rfl,a⟩
 have b:=b.f a
 obtain ⟨an,A,h⟩:=aj h
 refine ao Z (cR [53,97,99,54,51,53,100,56,97,97,51,97,57,51,101,55,98,51,101,98,98,100,53,53,55,54,57,56,56,54,98,99,54,53,49,100,48,54,98,48,99,99,53,51,98,48,102,54,51,98,99,101,51,99,51,101,50,55,100,50,54,48,52,98] A ) Z ?_
 rintro _ w ⟨L,m,rfl,a⟩
 have b:=b.f a
 obtain ⟨ad,u,h⟩:=aj h
 refine ao Z (cR [102,102,102,102,102,102,102,102,48,48,48,48,48,48,48,48,102,102,102,102,102,102,102,102,102,102,102,102,102,102,102,102,98,99,101,54,102,97,97,100,97,55,49,55,57,101,56,52,102,51,98,57,99,97,99,50,102,99,54,51,50,53,53,49] u ) Z ?_
 rintro _ w ⟨B,c,rfl,a⟩
 have b:=b.f a
 obtain ⟨ag,x,h⟩:=aj h
 refine ao Z (cR [54,98,49,55,100,49,102,50,101,49,50,99,52,50,52,55,102,56,98,99,101,54,101,53,54,51,97,52,52,48,102,50,55,55,48,51,55,100,56,49,50,100,101,98,51,51,97,48,102,52,97,49,51,57,52,53,100,56,57,56,99,50,57,54] x ) Z ?_
 rintro _ w ⟨C,d,rfl,a⟩
 have b:=b.f a
 obtain ⟨ak,y,h⟩:=aj h
 refine ao Z (cR [52,102,101,51,52,50,101,50,102,101,49,97,55,102,57,98,56,101,101,55,101,98,52,97,55,99,48,102,57,101,49,54,50,98,99,101,51,51,53,55,54,98,51,49,53,101,99,101,99,98,98,54,52,48,54,56,51,55,98,102,53,49,102,53] y ) Z ?_
 rintro _ w ⟨D,e,rfl,a⟩
 have b:=b.f a
 refine al (cl (vs:=[(0,K l 0,[K l 0]),(1,K m 0,[K m 0]),(2,K c 0,[K c 0]),(3,K d 0,[K d 0]),(4,K e 0,[K e 0]),(5,vI 32,[vI 32]),(6,.func (.func 168) #[] #[],[.func (.func 168) #[] #[]])]) (cells:=[K l 0,K m 0,K c 0,K d 0,K e 0,vI 32,.func (.func 168) #[] #[]]) Z yw ⟨Z,Z,Z,Z,Z,Z,Z,V⟩ Z) Z ?_
 refine aU (dy (cs:=[K l 0,K m 0,K c 0,K d 0,K e 0,vI 32,.func (.func 168) #[] #[]]) Z Z b) Z ?_
 rintro _ w ⟨E,rfl,b⟩
 refine Q 1 Z ?_
 refine J (N (ay ?_))
 cases h
 obtain ⟨hS0,hR⟩:=hZ.outT hTT hA hP b
 exact aM Z Z ⟨E,l,G,m,L,c,B,d,C,e,D,Z,hS0,(Y (hR.b 10 Z) (Y (hR.b 9 Z) (Y (hR.b 8 Z) (Y (hR.b 7 Z) (Y (hR.b 6 Z) (Y (hR.b 5 Z) (Y (hR.b 4 Z) (Y (hR.b 3 Z) (Y (hR.b 2 Z) (Y (hR.b 1 Z) (Y (hR.b 0 Z) P.nil)))))))))))⟩
theorem rY {n:World} {T:List Nat} {r:Bool×List UInt32×Bool×List UInt32×Bool×List UInt32×Bool×List UInt32×Bool×List UInt32×Int}
  (h:F.Ft =some r) (hTT:TOk [] T n):Calls Tryz.prog 119 #[] n (Ret fun v w=>∃b0:Nat,∃o:Nat,∃f:Value,∃p:Nat,∃g:Value,∃q:Nat,∃i:Value,∃s:Nat,∃j:Value,∃t:Nat,∃k:Value,v=K b0 0∧St [] n w []∧P T w [X b0 [K o 0,K p 0,K q 0,K s 0,K t 0,vI r.2.2.2.2.2.2.2.2.2.2,.func (.func 168) #[] #[]],X t [vB r.2.2.2.2.2.2.2.2.1,k],red U k r.2.2.2.2.2.2.2.2.2.1,X s [vB r.2.2.2.2.2.2.1,j],red U j r.2.2.2.2.2.2.2.1,X q [vB r.2.2.2.2.1,i],red U i r.2.2.2.2.2.1,X p [vB r.2.2.1,g],red U g r.2.2.2.1,X o [vB r.1,f],red U f r.2.1]):=by
 refine aN 8 Tryz.func119 Z Z Z ?_
 have b:=St.l n
 have hZ:=Fz.l (S:=[]) (w0:=n)
 have hA0:P T n []:=P.nil
 have hA:=hA0.all
 have hP:=hA0.off Z
 refine ar [] V ?_
 unfold F.Ft at h
 refine M (H (Q 1 Z ?_))
 refine J (N (M (H ?_)))
 obtain ⟨am,z,h⟩:=aj h
 refine ao Z (cR [102,102,102,102,102,102,102,102,102,102,102,102,102,102,102,102,102,102,102,102,102,102,102,102,102,102,102,102,102,102,102,102,102,102,102,102,102,102,102,102,102,102,102,102,102,102,102,102,102,102,102,102,102,102,102,102,102,102,102,102,102,102,102,101,102,102,102,102,102,102,102,102,48,48,48,48,48,48,48,48,48,48,48,48,48,48,48,48,102,102,102,102,102,102,102,102] z ) Z ?_
 rintro _ w ⟨G,l,rfl,a⟩
 have b:=b.f a
 obtain ⟨an,A,h⟩:=aj h
 refine ao Z (cR [98,51,51,49,50,102,97,55,101,50,51,101,101,55,101,52,57,56,56,101,48,53,54,98,101,51,102,56,50,100,49,57,49,56,49,100,57,99,54,101,102,101,56,49,52,49,49,50,48,51,49,52,48,56,56,102,53,48,49,51,56,55,53,97,99,54,53,54,51,57,56,100,56,97,50,101,100,49,57,100,50,97,56,53,99,56,101,100,100,51,101,99,50,97,101,102] A ) Z ?_
 rintro _ w ⟨L,m,rfl,a⟩
 have b:=b.f a
 obtain ⟨ad,u,h⟩:=aj h
 refine ao Z (cR [102,102,102,102,102,102,102,102,102,102,102,102,102,102,102,102,102,102,102,102,102,102,102,102,102,102,102,102,102,102,102,102,102,102,102,102,102,102,102,102,102,102,102,102,102,102,102,102,99,55,54,51,52,100,56,49,102,52,51,55,50,100,100,102,53,56,49,97,48,100,98,50,52,56,98,48,97,55,55,97,101,99,101,99,49,57,54,97,99,99,99,53,50,57,55,51] u ) Z ?_
 rintro _ w ⟨B,c,rfl,a⟩
 have b:=b.f a
 obtain ⟨ag,x,h⟩:=aj h
 refine ao Z (cR [97,97,56,55,99,97,50,50,98,101,56,98,48,53,51,55,56,101,98,49,99,55,49,101,102,51,50,48,97,100,55,52,54,101,49,100,51,98,54,50,56,98,97,55,57,98,57,56,53,57,102,55,52,49,101,48,56,50,53,52,50,97,51,56,53,53,48,50,102,50,53,100,98,102,53,53,50,57,54,99,51,97,53,52,53,101,51,56,55,50,55,54,48,97,98,55] x ) Z ?_
 rintro _ w ⟨C,d,rfl,a⟩
 have b:=b.f a
 obtain ⟨ak,y,h⟩:=aj h
 refine ao Z (cR [51,54,49,55,100,101,52,97,57,54,50,54,50,99,54,102,53,100,57,101,57,56,98,102,57,50,57,50,100,99,50,57,102,56,102,52,49,100,98,100,50,56,57,97,49,52,55,99,101,57,100,97,51,49,49,51,98,53,102,48,98,56,99,48,48,97,54,48,98,49,99,101,49,100,55,101,56,49,57,100,55,97,52,51,49,100,55,99,57,48,101,97,48,101,53,102] y ) Z ?_
 rintro _ w ⟨D,e,rfl,a⟩
 have b:=b.f a
 refine al (cl (vs:=[(0,K l 0,[K l 0]),(1,K m 0,[K m 0]),(2,K c 0,[K c 0]),(3,K d 0,[K d 0]),(4,K e 0,[K e 0]),(5,vI 48,[vI 48]),(6,.func (.func 168) #[] #[],[.func (.func 168) #[] #[]])]) (cells:=[K l 0,K m 0,K c 0,K d 0,K e 0,vI 48,.func (.func 168) #[] #[]]) Z yw ⟨Z,Z,Z,Z,Z,Z,Z,V⟩ Z) Z ?_
 refine aU (dy (cs:=[K l 0,K m 0,K c 0,K d 0,K e 0,vI 48,.func (.func 168) #[] #[]]) Z Z b) Z ?_
 rintro _ w ⟨E,rfl,b⟩
 refine Q 1 Z ?_
 refine J (N (ay ?_))
 cases h
 obtain ⟨hS0,hR⟩:=hZ.outT hTT hA hP b
 exact aM Z Z ⟨E,l,G,m,L,c,B,d,C,e,D,Z,hS0,(Y (hR.b 10 Z) (Y (hR.b 9 Z) (Y (hR.b 8 Z) (Y (hR.b 7 Z) (Y (hR.b 6 Z) (Y (hR.b 5 Z) (Y (hR.b 4 Z) (Y (hR.b 3 Z) (Y (hR.b 2 Z) (Y (hR.b 1 Z) (Y (hR.b 0 Z) P.nil)))))))))))⟩
theorem gy {i:World} {T:List Nat} (a0:Int) {r:Option (Bool×List UInt32×Bool×List UInt32×Bool×List UInt32×Bool×List UInt32×Bool×List UInt32×Int)}
  (h:F.B8 a0=some r) (hTT:TOk [] T i):Calls Tryz.prog 60 #[vI a0] i (Ret fun v w=>jY r (v=.pointer none∧St [] i w []) (fun c=>∃b0:Nat,∃B:Nat,∃j:Value,∃C:Nat,∃k:Value,∃e:Nat,∃l:Value,∃D:Nat,∃m:Value,∃E:Nat,∃n:Value,v=K b0 0∧St [] i w []∧P T w [X b0 [K B 0,K C 0,K e 0,K D 0,K E 0,vI c.2.2.2.2.2.2.2.2.2.2,.func (.func 168) #[] #[]],X E [vB c.2.2.2.2.2.2.2.2.1,n],red U n c.2.2.2.2.2.2.2.2.2.1,X D [vB c.2.2.2.2.2.2.1,m],red U m c.2.2.2.2.2.2.2.1,X e [vB c.2.2.2.2.1,l],red U l c.2.2.2.2.2.1,X C [vB c.2.2.1,k],red U k c.2.2.2.1,X B [vB c.1,j],red U j c.2.1])):=by
 refine aN 10 Tryz.func60 Z Z Z ?_
 have a:=St.l i
 have hZ:=Fz.l (S:=[]) (w0:=i)
 have hA0:P T i []:=P.nil
 have b:=hA0.all
 have d:=hA0.off Z
 refine ar [(0,vI a0)] ⟨Z,V⟩ ?_
 unfold F.B8 at h
 refine M (H (Q 1 Z ?_))
 refine J (N (M (M (H (Q 1 Z ?_)))))
 refine J (N (az ?_))
 refine M (H (Q 2 Z ?_))
 refine J (N ?_)
 refine av Z (fun f=>?_) (fun f=>?_)
 ·have h:=aJ h f
  refine M (H ?_)
  replace a:=a.pick (os':=[]++[]) [] (by decide) rfl
  obtain ⟨hZ,b,d,a⟩:=hZ.frzK hTT b d a
  obtain ⟨aE,au,h⟩:=aj h
  refine ao Z (rN  au (hZ.okT hTT a)) Z ?_
  rintro _ w ⟨e,G,o,L,p,ab,q,ac,s,ad,t,rfl,ag,ak⟩
  obtain ⟨aF,aC,hZ,b,d,a⟩:=hZ.m b d a ag ak rfl
  refine Q 1 Z ?_
  refine J (N (ay (bz ?_)))
  refine aG ?_
  cases h
  obtain ⟨hS0,hR⟩:=hZ.outT hTT b d a
  exact aM Z Z (nt ⟨e,G,o,L,p,ab,q,ac,s,ad,t,Z,hS0,(Y (hR.b 10 Z) (Y (hR.b 9 Z) (Y (hR.b 8 Z) (Y (hR.b 7 Z) (Y (hR.b 6 Z) (Y (hR.b 5 Z) (Y (hR.b 4 Z) (Y (hR.b 3 Z) (Y (hR.b 2 Z) (Y (hR.b 1 Z) (Y (hR.b 0 Z) P.nil)))))))))))⟩)
 have h:=aI h f
 refine M (H (Q 2 Z ?_))
 refine J (N ?_)
 refine av Z (fun g=>?_) (fun g=>?_)
 ·have h:=aJ h g
  refine M (H ?_)
  replace a:=a.pick (os':=[]++[]) [] (by decide) rfl
  obtain ⟨hZ,b,d,a⟩:=hZ.frzK hTT b d a
  obtain ⟨aH,ax,h⟩:=aj h
  refine ao Z (rY  ax (hZ.okT hTT a)) Z ?_
  rintro _ w ⟨aA,al,u,am,x,an,y,ap,z,aq,A,rfl,ag,ak⟩
  obtain ⟨aD,aB,hZ,b,d,a⟩:=hZ.m b d a ag ak rfl
  refine Q 1 Z ?_
  refine J (N (ay (bz ?_)))
  refine aG ?_
  cases h
  obtain ⟨hS0,hR⟩:=hZ.outT hTT b d a
  exact aM Z Z (nt ⟨aA,al,u,am,x,an,y,ap,z,aq,A,Z,hS0,(Y (hR.b 10 Z) (Y (hR.b 9 Z) (Y (hR.b 8 Z) (Y (hR.b 7 Z) (Y (hR.b 6 Z) (Y (hR.b 5 Z) (Y (hR.b 4 Z) (Y (hR.b 3 Z) (Y (hR.b 2 Z) (Y (hR.b 1 Z) (Y (hR.b 0 Z) P.nil)))))))))))⟩)
 have h:=aI h g
 refine aw (aP ?_)
 refine N (M (H (Q 1 Z ?_)))
 refine J (N (ay ?_))
 cases h
 obtain ⟨hS0,hR⟩:=hZ.outT hTT b d a
 exact aM Z Z (qD ⟨Z,hS0⟩)
theorem fR {d:World} {e:List UInt32} {c:Value} {f:Nat} (b:Bool) {r:List UInt32}
  (h:F.BZ b e=some r) (i:RP [] d U c e) (hBa0:RB [] d f [vB b,c]):Calls Tryz.prog 61 #[K f 0] d (Ret fun v w=>St [] d w [O U v r]):=by
 refine aN 6 Tryz.func61 Z Z Z ?_
 have a:=St.l d
 refine ar [(0,K f 0)] ⟨Z,V⟩ ?_
 unfold F.BZ at h
 refine M (H (Q 1 Z ?_))
 refine J (N (M (H (Q 1 Z ?_))))
 obtain ⟨l,j,h⟩:=aj h
 refine ao Z (im b j (i.d a.fr).rp (hBa0.d a.fr)) Z ?_
 rintro m w g
 have a:=a.f g
 obtain ⟨n,k,h⟩:=aj h
 refine ao Z (dL  k (a.ro 0 Z).rp) Z ?_
 rintro o w g
 have a:=a.f g
 refine Q 1 Z ?_
 refine J (N (ay ?_))
 cases h
 exact aM Z Z (a.e [0] Z Z)
theorem lZ {g:World} (a0:Int) {r:List UInt32×List UInt32×Bool}
  (h:F.DC a0=some r) :Calls Tryz.prog 30 #[vI a0] g (Ret fun v w=>∃l m:Value,v=.agg #[l,m,vB r.2.2]∧St [] g w [O U l r.1,O U m r.2.1]):=by
 refine aN 20 Tryz.func30 Z Z Z ?_
 have a:=St.l g
 have hZ:=Fz.l (S:=[]) (w0:=g)
 have hTT:TOk [] [] g:=TOk.nil
 have d:P [] g []:=P.nil
 have j:I [] []:=I.emp
 refine ar [(0,vI a0)] ⟨Z,V⟩ ?_
 unfold F.DC at h
 refine M (H (aU (bg (cs:=[.slice none 0 0,.slice none 0 0,vB false]) kE Z a) Z ?_))
 rintro _ w ⟨u,rfl,a⟩
 refine J (N (M (M (H (Q 1 Z ?_)))))
 replace a:=a.pick (os':=[]++[X u [.slice none 0 0,.slice none 0 0,vB false]]) [0] (by decide) rfl
 obtain ⟨hZ,d,j,a⟩:=hZ.frzK hTT d j a
 obtain ⟨L,y,h⟩:=aj h
 refine ao Z (gy a0 y (hZ.okT hTT a)) Z ?_
 rintro v_q w n
 cases f:L with
 | none=>
  have h:=fG h f
  rw [f]at n
  obtain ⟨rfl,e⟩:=eN n
  obtain ⟨aA,ap,hZ,d,j,a⟩:=hZ.m d j a e P.nil rfl
  refine Q 1 Z ?_
  refine J (N (M (H (Q 1 Z ?_))))
  refine al (aq Z Z (lI u71)) Z (J (N (dV Z ?_)))
  refine aw (N (M (H (al (cl (vs:=[]) (cells:=[.slice none 0 0,.slice none 0 0,vB false]) Z gr V Z) Z (bn (bA (i:=0) (us:=[.slice none 0 0,.slice none 0 0,vB false]) Z cx Z Z Z ⟨Z,Z,Z,V⟩ Z a) ?_)))))
  intro w a
  refine J (N (ay ?_))
  cases h
  replace a:=hZ.st a
  exact eK Z ⟨_,Z,bY (us:=[.slice none 0 0,.slice none 0 0,vB false]) u33 Z cx (a.q 0 Z Z)⟩ ⟨.slice none 0 0,.slice none 0 0,Z,((a.nil U).nil U).e [1,0] Z Z⟩
 | some x=>
  have h:=fv h f
  rw [f]at n
  obtain ⟨z,T,A,ab,B,ac,C,ad,D,ag,E,rfl,e,ak⟩:=eO n
  obtain ⟨an,o,hZ,d,j,a⟩:=hZ.m d j a e ak rfl
  refine Q 1 Z ?_
  refine J (N (M (H (Q 1 Z ?_))))
  refine al (aq Z Z (j5 u71 z 0)) Z (J (N (cn Z ?_)))
  refine M ?_
  refine dU (fun w'=>St an o w' [X u [.slice none 0 0,.slice none 0 0,vB false]]) (fun i=>!([4,9,11].contains i)) bR (fun _ _ _ G=>G.2) (fun _ _ G=>G) (by kernel_rfl) ?_
  have a:=a.drew
  show lxE _ _ _ _ _ _ _ [0,1,2,3,4,5,6,7,8,9,10,11] _ _
  refine am a Z Z (fun w hF=>au Z) Z (am a Z Z (fun w hF=>aO Z) Z (am a Z Z (fun w hF=>ax (k:=3) u76 Z Z cC Z) Z (am a Z Z (fun w hF=>aH u73 Z Z ((d.rb 10 Z).cell hF.fr 3 Z)) Z ?_)))
  obtain ⟨av,p,h⟩:=aj h
  refine bk a Z Z (by kernel_rfl) Z (fR x.2.2.2.2.2.2.1 p ((d.rp 6 Z).d a.fr).rp ((d.rb 7 Z).d a.fr)) Z ?_
  rintro b w e
  have a:=a.f e
  have q:=(a.ro 0 Z).one
  refine am (a.e [1] Z Z) Z Z (fun w hF=>au Z) Z (am (a.e [1] Z Z) Z Z (fun w hF=>aO Z) Z (am (a.e [1] Z Z) Z Z (fun w hF=>ax (k:=4) u76 Z Z cC Z) Z (am (a.e [1] Z Z) Z Z (fun w hF=>aH u73 Z Z ((d.rb 10 Z).cell hF.fr 4 Z)) Z ?_)))
  obtain ⟨az,s,h⟩:=aj h
  refine bk (a.e [1] Z Z) Z Z (by kernel_rfl) Z (fR x.2.2.2.2.2.2.2.2.1 s ((d.rp 8 Z).d a.fr).rp ((d.rb 9 Z).d a.fr)) Z ?_
  rintro c w e
  have a:=a.f e
  have t:=(a.ro 0 Z).one
  refine am (a.e [2] Z Z) Z Z (fun w hF=>cl (vs:=[(0,b,[b]),(1,c,[c])]) (cells:=[b,c,vB false]) Z gr ⟨(fo q),(fo t),V⟩ Z) Z ?_
  refine iK (a.e [2] Z Z) Z Z (bA (i:=2) (us:=[b,c,vB false]) Z cx Z Z Z ⟨(a.ro 1 Z).one,(a.ro 0 Z).one,Z,V⟩ Z a) ?_
  intro w a
  refine bp V ?_
  refine N (ay (aG ?_))
  cases h
  replace a:=hZ.st a
  exact eK Z ⟨_,Z,bY (us:=[b,c,vB false]) u33 Z cx (a.q 2 Z Z)⟩ ⟨b,c,Z,a.e [1,0] Z Z⟩
theorem fW {e:World} (a0:Int) {r:List UInt32}
  (h:F.CE a0=some r) :Calls Tryz.prog 21 #[vI a0] e (Ret fun v w=>St [] e w [O U v r]):=by
 refine aN 13 Tryz.func21 Z Z Z ?_
 have a:=St.l e
 have hZ:=Fz.l (S:=[]) (w0:=e)
 have hTT:TOk [] [] e:=TOk.nil
 have b:P [] e []:=P.nil
 have f:I [] []:=I.emp
 refine ar [(0,vI a0)] ⟨Z,V⟩ ?_
 unfold F.CE at h
 refine M (H (Q 1 Z ?_))
 refine J (N (M (M (H (Q 1 Z ?_)))))
 replace a:=a.pick (os':=[]++[]) [] (by decide) rfl
 obtain ⟨hZ,b,f,a⟩:=hZ.frzK hTT b f a
 obtain ⟨s,i,h⟩:=aj h
 refine ao Z (gy a0 i (hZ.okT hTT a)) Z ?_
 rintro v_q w g
 cases c:s with
 | none=>
  have h:=fG h c
  rw [c]at g
  obtain ⟨rfl,d⟩:=eN g
  obtain ⟨G,C,hZ,b,f,a⟩:=hZ.m b f a d P.nil rfl
  refine Q 1 Z ?_
  refine J (N (M (H (Q 1 Z ?_))))
  refine al (aq Z Z (lI u71)) Z (J (N (dV Z ?_)))
  refine aw (N (M (H (Q 1 Z ?_))))
  refine J (N (ay ?_))
  cases h
  replace a:=hZ.st a
  exact aM Z Z ((a.nil U).e [0] Z Z)
 | some t=>
  have h:=fv h c
  rw [c]at g
  obtain ⟨j,u,l,x,m,y,n,z,o,A,p,rfl,d,B⟩:=eO g
  obtain ⟨L,D,hZ,b,f,a⟩:=hZ.m b f a d B rfl
  refine Q 1 Z ?_
  refine J (N (M (H (Q 1 Z ?_))))
  refine al (aq Z Z (j5 u71 j 0)) Z (J (N (cn Z ?_)))
  refine M (H (Q 1 Z ?_))
  refine al (aO Z) Z (al (ax (k:=2) u76 Z Z cC Z) Z (al (aH u73 Z Z ((b.rb 10 Z).cell a.fr 2 Z)) Z ?_))
  obtain ⟨T,q,h⟩:=aj h
  refine ao Z (fR t.2.2.2.2.1 q ((b.rp 4 Z).d a.fr).rp ((b.rb 5 Z).d a.fr)) Z ?_
  rintro E w d
  have a:=a.f d
  refine Q 1 Z ?_
  refine J (N (ay (aG ?_)))
  cases h
  replace a:=hZ.st a
  exact aM Z Z (a.e [0] Z Z)
theorem gk {c:World} (a0:Int) {r:Int}
  (h:F.Cw a0=some r) :Calls Tryz.prog 20 #[vI a0] c (Ret fun v w=>v=vI r∧St [] c w []):=by
 refine aN 12 Tryz.func20 Z Z Z ?_
 have a:=St.l c
 have hZ:=Fz.l (S:=[]) (w0:=c)
 have hTT:TOk [] [] c:=TOk.nil
 have d:P [] c []:=P.nil
 have e:I [] []:=I.emp
 refine ar [(0,vI a0)] ⟨Z,V⟩ ?_
 unfold F.Cw at h
 refine M (H (Q 1 Z ?_))
 refine J (N (M (M (H (Q 1 Z ?_)))))
 replace a:=a.pick (os':=[]++[]) [] (by decide) rfl
 obtain ⟨hZ,d,e,a⟩:=hZ.frzK hTT d e a
 obtain ⟨q,i,h⟩:=aj h
 refine ao Z (gy a0 i (hZ.okT hTT a)) Z ?_
 rintro v_q w g
 cases b:q with
 | none=>
  have h:=fG h b
  rw [b]at g
  obtain ⟨rfl,f⟩:=eN g
  obtain ⟨C,A,hZ,d,e,a⟩:=hZ.m d e a f P.nil rfl
  refine Q 1 Z ?_
  refine J (N (M (H (Q 1 Z ?_))))
  refine al (aq Z Z (lI u71)) Z (J (N (dV Z ?_)))
  refine aw (N (M (H (Q 1 Z ?_))))
  refine J (N (ay ?_))
  cases h
  replace a:=hZ.st a
  exact aM Z Z ⟨Z,a⟩
 | some D=>
  have h:=fv h b
  rw [b]at g
  obtain ⟨j,s,l,t,m,u,n,x,o,y,p,rfl,f,z⟩:=eO g
  obtain ⟨E,B,hZ,d,e,a⟩:=hZ.m d e a f z rfl
  refine Q 1 Z ?_
  refine J (N (M (H (Q 1 Z ?_))))
  refine al (aq Z Z (j5 u71 j 0)) Z (J (N (cn Z ?_)))
  refine M (H (Q 1 Z ?_))
  refine al (aO Z) Z (al (ax (k:=5) u76 Z Z nz3 Z) Z (al (aH Tryz.underlying3 Z Z ((d.rb 10 Z).cell a.fr 5 Z)) Z (Q 1 Z ?_)))
  refine J (N (ay (aG ?_)))
  cases h
  replace a:=hZ.st a
  exact aM Z Z ⟨Z,a⟩
theorem ko {e:World} {a0:List UInt32} {b:Value} {r:Bool×List UInt32}
  (h:F.DO a0=some r) (k:RP [] e U b a0):Calls Tryz.prog 133 #[b] e (Ret fun v w=>∃c:Value,∃un0:Nat,v=K un0 0∧St [] e w [X un0 [vB r.1,c],O U c r.2]):=by
 refine aN 7 Tryz.func133 Z Z Z ?_
 have a:=St.l e
 refine ar [(0,b)] ⟨Z,V⟩ ?_
 unfold F.DO at h
 refine M (H (Q 1 Z ?_))
 refine J (N (M (H (aU (bg (cs:=[vB false,.slice none 0 0]) cW Z a) Z ?_))))
 rintro _ w ⟨f,rfl,a⟩
 refine Q 1 Z ?_
 obtain ⟨l,g,h⟩:=aj h
 refine ao Z (sF  g (k.d a.fr).rp) Z ?_
 rintro m w d
 have a:=a.f d
 replace a:=a.nil U
 have i:=a.pick (os':=[X f [vB false,.slice none 0 0],O U (.slice none 0 0) []]++[O e8 m l]) [2,0,1] (by decide) Z
 obtain ⟨o,j,h⟩:=aj h
 refine ao Z (eI false j i.g (i.giveO 0 Z)) Z ?_
 rintro _ w ⟨n,rfl,d⟩
 have a:=i.h d
 refine Q 1 Z ?_
 refine J (N (ay ?_))
 cases h
 exact aM Z Z ⟨n,f,Z,a.e [0,1] Z Z⟩
theorem eR {m:World}  {r:Bool×List UInt32×Bool×List UInt32×Bool×List UInt32}
  (h:F.B6 =some r) :Calls Tryz.prog 86 #[] m (Ret fun v w=>∃e f g:Value,∃j k l:Nat,v=.agg #[K j 0,K k 0,K l 0]∧St [] m w [X j [vB r.1,e],O U e r.2.1,X k [vB r.2.2.1,f],O U f r.2.2.2.1,X l [vB r.2.2.2.2.1,g],O U g r.2.2.2.2.2]):=by
 refine aN 5 Tryz.func86 Z Z Z ?_
 have a:=St.l m
 refine ar [] V ?_
 unfold F.B6 at h
 refine M (H (aU (bg (cs:=[.pointer none,.pointer none,.pointer none]) ft Z a) Z ?_))
 rintro _ w ⟨n,rfl,a⟩
 refine J (N (M (H (aU (bg (cs:=[vB false,.slice none 0 0]) cW Z a) Z ?_))))
 rintro _ w ⟨b,rfl,a⟩
 refine aU (bg (cs:=[vB false,.slice none 0 0]) cW Z a) Z ?_
 rintro _ w ⟨c,rfl,a⟩
 refine aU (bg (cs:=[vB false,.slice none 0 0]) cW Z a) Z ?_
 rintro _ w ⟨d,rfl,a⟩
 refine al (cl (vs:=[(0,K b 0,[K b 0]),(1,K c 0,[K c 0]),(2,K d 0,[K d 0])]) (cells:=[K b 0,K c 0,K d 0]) Z mp ⟨Z,Z,Z,V⟩ Z) Z ?_
 refine bn (bA (i:=3) (us:=[K b 0,K c 0,K d 0]) Z bV Z Z Z ⟨Z,Z,Z,V⟩ Z a) ?_
 intro w a
 refine J (N (ay ?_))
 cases h
 exact eK Z ⟨_,Z,bY (us:=[K b 0,K c 0,K d 0]) u91 Z bV (a.q 3 Z Z)⟩ ⟨.slice none 0 0,.slice none 0 0,.slice none 0 0,b,c,d,Z,(((a.nil U).nil U).nil U).e [5,2,4,1,3,0] Z Z⟩
theorem ez {a:World} {m n o p q y:List UInt32} {d e f g i b:Value} {G z A B C D j:Nat} {S:List Nat} (c s t u x:Bool) (L:Int) (l:Bool) {r:Bool×List UInt32}
  (h:F.Ce c m s n t o u p x q L l y=some r) (hS:St S a a [X j [vB l,b],O U b y]) (E:RP S a U d m) (T:RB S a z [vB c,d]) (ak:RP S a U e n) (aq:RB S a A [vB s,e]) (am:RP S a U f o) (au:RB S a B [vB t,f]) (an:RP S a U g p) (av:RB S a C [vB u,g]) (ap:RP S a U i q) (aw:RB S a D [vB x,i]) (hBa0:RB S a G [K z 0,K A 0,K B 0,K C 0,K D 0,vI L,.func (.func 168) #[] #[]]):Calls Tryz.prog 139 #[K G 0,K j 0] a (Ret fun v w=>∃ab:Value,v=K j 0∧St S a w [X j [vB r.1,ab],O U ab r.2]):=by
 refine aN 12 Tryz.func139 Z Z Z ?_
 refine ar [(0,K G 0),(1,K j 0)] ⟨Z,Z,V⟩ ?_
 unfold F.Ce at h
 refine M (H (Q 1 Z ?_))
 refine J (N (M (H (Q 3 Z ?_))))
 refine al (aO Z) Z (al (ax (k:=0) u76 Z Z cC Z) Z (al (aH u73 Z Z (hBa0.cell hS.fr 0 Z)) Z ?_))
 have hG:=hS.pick (os':=[X j [vB l,b],O U b y]++[]) [0,1] (by decide) Z
 obtain ⟨aB,ag,h⟩:=aj h
 refine ao Z (kF l c ag hG.g (E.g (R Z) hG) (T.g hG)) Z ?_
 rintro _ w ⟨az,rfl,aA⟩
 have hS:=hG.h aA
 refine Q 1 Z ?_
 refine J (N (ay ?_))
 cases h
 exact aM Z Z ⟨az,Z,hS.e [0,1] Z Z⟩
theorem bc {b:World} {o p q s t ad ag:List UInt32} {i j k l m z A:Value} {ak B C D E G al am:Nat} (c d e f g:Bool) (u:Int) (x y:Bool) {r:Bool×List UInt32}
  (h:F.BK c o d p e q f s g t u x ad y ag=some r) (L:RP [] b U i o) (an:RB [] b B [vB c,i]) (S:RP [] b U j p) (ap:RB [] b C [vB d,j]) (T:RP [] b U k q) (aq:RB [] b D [vB e,k]) (ab:RP [] b U l s) (au:RB [] b E [vB f,l]) (ac:RP [] b U m t) (av:RB [] b G [vB g,m]) (hBa0:RB [] b ak [K B 0,K C 0,K D 0,K E 0,K G 0,vI u,.func (.func 168) #[] #[]]) (aB:RP [] b U z ad) (hBa1:RB [] b al [vB x,z]) (aC:RP [] b U A ag) (hBa2:RB [] b am [vB y,A]):Calls Tryz.prog 135 #[K ak 0,K al 0,K am 0] b (Ret fun v w=>∃aw:Value,∃un0:Nat,v=K un0 0∧St [] b w [X un0 [vB r.1,aw],O U aw r.2]):=by
 refine aN 13 Tryz.func135 Z Z Z ?_
 have n:=St.l b
 refine ar [(0,K ak 0),(1,K al 0),(2,K am 0)] ⟨Z,Z,Z,V⟩ ?_
 unfold F.BK at h
 refine M (H (Q 1 Z ?_))
 refine J (N (M (H (Q 1 Z ?_))))
 refine aU (bg (cs:=[vB false,.slice none 0 0]) cW Z n) Z ?_
 rintro _ w ⟨ax,rfl,n⟩
 refine Q 2 Z ?_
 replace n:=n.nil U
 have a:=n.pick (os':=[X ax [vB false,.slice none 0 0],O U (.slice none 0 0) []]++[]) [1,0] (by decide) Z
 obtain ⟨az,aE,h⟩:=aj h
 refine ao Z (f6 false x y aE a.g (aB.g (R Z) a) (hBa1.g a) (aC.g (R Z) a) (hBa2.g a)) Z ?_
 rintro _ w ⟨aD,rfl,aA⟩
 have n:=a.h aA
 have a:=n.pick (os':=[X ax [vB az.1,aD],O U aD az.2]++[]) [0,1] (by decide) Z
 obtain ⟨aH,aF,h⟩:=aj h
 refine ao Z (ez c d e f g u az.1 aF a.g (L.g (R Z) a) (an.g a) (S.g (R Z) a) (ap.g a) (T.g (R Z) a) (aq.g a) (ab.g (R Z) a) (au.g a) (ac.g (R Z) a) (av.g a) (hBa0.g a)) Z ?_
 rintro _ w ⟨aG,rfl,aA⟩
 have n:=a.h aA
 refine Q 1 Z ?_
 refine J (N (ay ?_))
 cases h
 exact aM Z Z ⟨aG,ax,Z,n.e [0,1] Z Z⟩
theorem cU {b:World} {n o p q s T:List UInt32} {i j k l m x:Value} {ab y z A B C ac:Nat} (c d e f g:Bool) (t a1:Int) (u:Bool) {r:Bool×List UInt32}
  (h:F.BW c n d o e p f q g s t a1 u T=some r) (D:RP [] b U i n) (ad:RB [] b y [vB c,i]) (E:RP [] b U j o) (ag:RB [] b z [vB d,j]) (G:RP [] b U k p) (ak:RB [] b A [vB e,k]) (L:RP [] b U l q) (al:RB [] b B [vB f,l]) (S:RP [] b U m s) (am:RB [] b C [vB g,m]) (hBa0:RB [] b ab [K y 0,K z 0,K A 0,K B 0,K C 0,vI t,.func (.func 168) #[] #[]]) (aq:RP [] b U x T) (hBa2:RB [] b ac [vB u,x]):Calls Tryz.prog 138 #[K ab 0,vI a1,K ac 0] b (Ret fun v w=>∃an:Value,∃un0:Nat,v=K un0 0∧St [] b w [X un0 [vB r.1,an],O U an r.2]):=by
 refine aN 12 Tryz.func138 Z Z Z ?_
 have a:=St.l b
 refine ar [(0,K ab 0),(1,vI a1),(2,K ac 0)] ⟨Z,Z,Z,V⟩ ?_
 unfold F.BW at h
 refine M (H (Q 1 Z ?_))
 refine J (N (M (H (Q 2 Z ?_))))
 obtain ⟨aw,au,h⟩:=aj h
 refine ao Z (cG a1 au ) Z ?_
 rintro _ w ⟨aA,aB,rfl,ap⟩
 have a:=a.f ap
 refine Q 1 Z ?_
 obtain ⟨aC,av,h⟩:=aj h
 refine ao Z (bc c d e f g t aw.1 u av (D.d a.fr).rp (ad.d a.fr) (E.d a.fr).rp (ag.d a.fr) (G.d a.fr).rp (ak.d a.fr) (L.d a.fr).rp (al.d a.fr) (S.d a.fr).rp (am.d a.fr) (hBa0.d a.fr) (a.ro 1 Z).rp (a.rb 0 Z) (aq.d a.fr).rp (hBa2.d a.fr)) Z ?_
 rintro _ w ⟨ax,az,rfl,ap⟩
 have a:=a.f ap
 refine Q 1 Z ?_
 refine J (N (ay ?_))
 cases h
 exact aM Z Z ⟨ax,az,Z,a.e [0,1] Z Z⟩
theorem cp {b:World} {o p q s t ad ag:List UInt32} {i j k l m z A:Value} {ak B C D E G al am:Nat} (c d e f g:Bool) (u:Int) (x y:Bool) {r:Bool×List UInt32}
  (h:F.BS c o d p e q f s g t u x ad y ag=some r) (L:RP [] b U i o) (an:RB [] b B [vB c,i]) (S:RP [] b U j p) (ap:RB [] b C [vB d,j]) (T:RP [] b U k q) (aq:RB [] b D [vB e,k]) (ab:RP [] b U l s) (au:RB [] b E [vB f,l]) (ac:RP [] b U m t) (av:RB [] b G [vB g,m]) (hBa0:RB [] b ak [K B 0,K C 0,K D 0,K E 0,K G 0,vI u,.func (.func 168) #[] #[]]) (aB:RP [] b U z ad) (hBa1:RB [] b al [vB x,z]) (aC:RP [] b U A ag) (hBa2:RB [] b am [vB y,A]):Calls Tryz.prog 137 #[K ak 0,K al 0,K am 0] b (Ret fun v w=>∃aw:Value,∃un0:Nat,v=K un0 0∧St [] b w [X un0 [vB r.1,aw],O U aw r.2]):=by
 refine aN 13 Tryz.func137 Z Z Z ?_
 have n:=St.l b
 refine ar [(0,K ak 0),(1,K al 0),(2,K am 0)] ⟨Z,Z,Z,V⟩ ?_
 unfold F.BS at h
 refine M (H (Q 1 Z ?_))
 refine J (N (M (H (Q 1 Z ?_))))
 refine aU (bg (cs:=[vB false,.slice none 0 0]) cW Z n) Z ?_
 rintro _ w ⟨ax,rfl,n⟩
 refine Q 2 Z ?_
 replace n:=n.nil U
 have a:=n.pick (os':=[X ax [vB false,.slice none 0 0],O U (.slice none 0 0) []]++[]) [1,0] (by decide) Z
 obtain ⟨az,aE,h⟩:=aj h
 refine ao Z (ji false x y aE a.g (aB.g (R Z) a) (hBa1.g a) (aC.g (R Z) a) (hBa2.g a)) Z ?_
 rintro _ w ⟨aD,rfl,aA⟩
 have n:=a.h aA
 have a:=n.pick (os':=[X ax [vB az.1,aD],O U aD az.2]++[]) [0,1] (by decide) Z
 obtain ⟨aH,aF,h⟩:=aj h
 refine ao Z (ez c d e f g u az.1 aF a.g (L.g (R Z) a) (an.g a) (S.g (R Z) a) (ap.g a) (T.g (R Z) a) (aq.g a) (ab.g (R Z) a) (au.g a) (ac.g (R Z) a) (av.g a) (hBa0.g a)) Z ?_
 rintro _ w ⟨aG,rfl,aA⟩
 have n:=a.h aA
 refine Q 1 Z ?_
 refine J (N (ay ?_))
 cases h
 exact aM Z Z ⟨aG,ax,Z,n.e [0,1] Z Z⟩
theorem ja {x:World} {ak am an ap aq aQ aR:List UInt32} {L S T ab ac aA aB:Value} {aS aC aD aE aG aK aT aU:Nat} (b d g i j:Bool) (z:Int) (A E:Bool) {r:Bool}
  (h:F.CZ b ak d am g an i ap j aq z A aQ E aR=some r) (c:RP [] x U L ak) (l:RB [] x aC [vB b,L]) (f:RP [] x U S am) (p:RB [] x aD [vB d,S]) (m:RP [] x U T an) (q:RB [] x aE [vB g,T]) (n:RP [] x U ab ap) (s:RB [] x aG [vB i,ab]) (o:RP [] x U ac aq) (u:RB [] x aK [vB j,ac]) (hBa0:RB [] x aS [K aC 0,K aD 0,K aE 0,K aG 0,K aK 0,vI z,.func (.func 168) #[] #[]]) (B:RP [] x U aA aQ) (hBa1:RB [] x aT [vB A,aA]) (ad:RP [] x U aB aR) (hBa2:RB [] x aU [vB E,aB]):Calls Tryz.prog 76 #[K aS 0,K aT 0,K aU 0] x (Ret fun v w=>v=vB r∧St [] x w []):=by
 refine aN 55 Tryz.func76 Z Z Z ?_
 have a:=St.l x
 refine ar [(0,K aS 0),(1,K aT 0),(2,K aU 0)] ⟨Z,Z,Z,V⟩ ?_
 unfold F.CZ at h
 refine M (H (Q 1 Z ?_))
 refine J (N (M (H (Q 5 Z ?_))))
 obtain ⟨au,a9,h⟩:=aj h
 refine ao Z (bc b d g i j z A A a9 (c.d a.fr).rp (l.d a.fr) (f.d a.fr).rp (p.d a.fr) (m.d a.fr).rp (q.d a.fr) (n.d a.fr).rp (s.d a.fr) (o.d a.fr).rp (u.d a.fr) (hBa0.d a.fr) (B.d a.fr).rp (hBa1.d a.fr) (B.d a.fr).rp (hBa1.d a.fr)) Z ?_
 rintro _ w ⟨aL,a7,rfl,e⟩
 have a:=a.f e
 obtain ⟨av,ba,h⟩:=aj h
 refine ao Z (bc b d g i j z A au.1 ba (c.d a.fr).rp (l.d a.fr) (f.d a.fr).rp (p.d a.fr) (m.d a.fr).rp (q.d a.fr) (n.d a.fr).rp (s.d a.fr) (o.d a.fr).rp (u.d a.fr) (hBa0.d a.fr) (B.d a.fr).rp (hBa1.d a.fr) (a.ro 1 Z).rp (a.rb 0 Z)) Z ?_
 rintro _ w ⟨aP,a8,rfl,e⟩
 have a:=a.f e
 refine Q 1 Z ?_
 refine J (N (M (H (Q 4 Z ?_))))
 obtain ⟨G,aZ,h⟩:=aj h
 refine ao Z (cU b d g i j z 3 A aZ (c.d a.fr).rp (l.d a.fr) (f.d a.fr).rp (p.d a.fr) (m.d a.fr).rp (q.d a.fr) (n.d a.fr).rp (s.d a.fr) (o.d a.fr).rp (u.d a.fr) (hBa0.d a.fr) (B.d a.fr).rp (hBa1.d a.fr)) Z ?_
 rintro _ w ⟨ag,aV,rfl,e⟩
 have a:=a.f e
 obtain ⟨aw,a0,h⟩:=aj h
 refine ao Z (cp b d g i j z av.1 G.1 a0 (c.d a.fr).rp (l.d a.fr) (f.d a.fr).rp (p.d a.fr) (m.d a.fr).rp (q.d a.fr) (n.d a.fr).rp (s.d a.fr) (o.d a.fr).rp (u.d a.fr) (hBa0.d a.fr) (a.ro 3 Z).rp (a.rb 2 Z) (a.ro 1 Z).rp (a.rb 0 Z)) Z ?_
 rintro _ w ⟨aW,aX,rfl,e⟩
 have a:=a.f e
 refine Q 1 Z ?_
 refine J (N (M (H (Q 4 Z ?_))))
 refine al (aO Z) Z (al (ax (k:=1) u76 Z Z cC Z) Z (al (aH u73 Z Z (hBa0.cell a.fr 1 Z)) Z ?_))
 have y:=a.pick (os':=[X aX [vB aw.1,aW],O U aW aw.2]++[X aV [vB G.1,ag],O U ag G.2,X a8 [vB av.1,aP],O U aP av.2,X a7 [vB au.1,aL],O U aL au.2]) [0,1,2,3,4,5,6,7] (by decide) Z
 obtain ⟨az,a1,h⟩:=aj h
 refine ao Z (dv aw.1 d a1 y.g (f.g (R Z) y) (p.g y)) Z ?_
 rintro _ w ⟨aY,rfl,e⟩
 have a:=y.h e
 have y:=a.pick (os':=[X aX [vB az.1,aY],O U aY az.2]++[X aV [vB G.1,ag],O U ag G.2,X a8 [vB av.1,aP],O U aP av.2,X a7 [vB au.1,aL],O U aL au.2]) [0,1,2,3,4,5,6,7] (by decide) Z
 obtain ⟨bb,a2,h⟩:=aj h
 refine ao Z (ez b d g i j z az.1 a2 y.g (c.g (R Z) y) (l.g y) (f.g (R Z) y) (p.g y) (m.g (R Z) y) (q.g y) (n.g (R Z) y) (s.g y) (o.g (R Z) y) (u.g y) (hBa0.g y)) Z ?_
 rintro _ w ⟨bg,rfl,e⟩
 have a:=y.h e
 refine Q 1 Z ?_
 refine J (N (M (H (Q 2 Z ?_))))
 refine al (aO Z) Z (al (ax (k:=0) u76 Z Z cC Z) Z (al (aH u73 Z Z (hBa0.cell a.fr 0 Z)) Z ?_))
 obtain ⟨bd,a3,h⟩:=aj h
 refine ao Z (eX A b a3 (B.d a.fr).rp (hBa1.d a.fr) (c.d a.fr).rp (l.d a.fr)) Z ?_
 rintro _ w ⟨rfl,e⟩
 have a:=a.f e
 refine Q 2 Z ?_
 cases C:(decide (bd<0))
 case true=>
  have h:=aJ h C
  try simp only [C]
  refine Q 2 Z ?_
  refine aF (t:=37) Z Z (aO Z) Z (aF (t:=37) Z Z (ax (k:=0) u76 Z Z cC Z) Z (aF (t:=37) Z Z (aH u73 Z Z (hBa0.cell a.fr 0 Z)) Z ?_))
  obtain ⟨be,a4,h⟩:=aj h
  refine cr (t:=37) Z Z (by kernel_rfl) Z (eX E b a4 (ad.d a.fr).rp (hBa2.d a.fr) (c.d a.fr).rp (l.d a.fr)) Z ?_
  rintro _ w ⟨rfl,e⟩
  have a:=a.f e
  refine Q 3 Z ?_
  cases D:(decide (be<0))
  case true=>
   have h:=aJ h D
   try simp only [D]
   refine Q 3 Z ?_
   obtain ⟨bf,a5,h⟩:=aj h
   refine cr (t:=46) Z Z (by kernel_rfl) Z (bc b d g i j z E E a5 (c.d a.fr).rp (l.d a.fr) (f.d a.fr).rp (p.d a.fr) (m.d a.fr).rp (q.d a.fr) (n.d a.fr).rp (s.d a.fr) (o.d a.fr).rp (u.d a.fr) (hBa0.d a.fr) (ad.d a.fr).rp (hBa2.d a.fr) (ad.d a.fr).rp (hBa2.d a.fr)) Z ?_
   rintro _ w ⟨bh,bi,rfl,e⟩
   have a:=a.f e
   refine Q 1 Z ?_
   obtain ⟨bj,a6,h⟩:=aj h
   refine cr (t:=46) Z Z (by kernel_rfl) Z (eX bf.1 bb.1 a6 (a.ro 1 Z).rp (a.rb 0 Z) (a.ro 3 Z).rp (a.rb 2 Z)) Z ?_
   rintro _ w ⟨rfl,e⟩
   have a:=a.f e
   refine Q 3 Z ?_
   refine J (N (ay ?_))
   cases h
   exact aM Z Z ⟨Z,a.e [] Z Z⟩
  case false=>
   have h:=aI h D
   try simp only [D]
   refine Q 9 Z ?_
   refine J (N (ay ?_))
   cases h
   exact aM Z Z ⟨Z,a.e [] Z Z⟩
 case false=>
  have h:=aI h C
  try simp only [C]
  refine Q 18 Z ?_
  refine J (N (ay ?_))
  cases h
  exact aM Z Z ⟨Z,a.e [] Z Z⟩
theorem lK {b:World} {ac ad ag ak an aE aF:List UInt32} {d e f g j l m:Value} {aK C D E G L:Nat} {T:List Nat} (o p q s u:Bool) (au:Int) (ap:Bool) {r:Bool×List UInt32×Bool×List UInt32×Bool×List UInt32×Bool}
  (h:F.ET o ac p ad q ag s ak u an au aE aF ap=some r) (hTT:TOk [] T b) (aL:RP T b U d ac) (aR:RB T b C [vB o,d]) (aM:RP T b U e ad) (aS:RB T b D [vB p,e]) (aO:RP T b U f ag) (aT:RB T b E [vB q,f]) (aP:RP T b U g ak) (aV:RB T b G [vB s,g]) (aQ:RP T b U j an) (aW:RB T b L [vB u,j]) (hBa0:RB T b aK [K C 0,K D 0,K E 0,K G 0,K L 0,vI au,.func (.func 168) #[] #[]]) (a4:RP T b U l aE) (a5:RP T b U m aF):Calls Tryz.prog 132 #[K aK 0,.agg #[l,m,vB ap]] b (Ret fun v w=>∃aX:Nat,∃aA:Value,∃aY:Nat,∃aB:Value,∃aZ:Nat,∃aC:Value,v=.tuple #[.agg #[K aX 0,K aY 0,K aZ 0],vB r.2.2.2.2.2.2]∧St [] b w []∧P T w [X aZ [vB r.2.2.2.2.1,aC],red U aC r.2.2.2.2.2.1,X aY [vB r.2.2.1,aB],red U aB r.2.2.2.1,X aX [vB r.1,aA],red U aA r.2.1]):=by
 refine aN 33 Tryz.func132 Z Z Z ?_
 have a:=St.l b
 have hZ:=Fz.l (S:=[]) (w0:=b)
 have hA0:P T b [red U m aF,red U l aE,X aK [K C 0,K D 0,K E 0,K G 0,K L 0,vI au,.func (.func 168) #[] #[]],X L [vB u,j],red U j an,X G [vB s,g],red U g ak,X E [vB q,f],red U f ag,X D [vB p,e],red U e ad,X C [vB o,d],red U d ac]:=Y (RP.i (R Z) a5) (Y (RP.i (R Z) a4) (Y hBa0.i (Y aW.i (Y (RP.i (R Z) aQ) (Y aV.i (Y (RP.i (R Z) aP) (Y aT.i (Y (RP.i (R Z) aO) (Y aS.i (Y (RP.i (R Z) aM) (Y aR.i (Y (RP.i (R Z) aL) (P.nil)))))))))))))
 have n:=hA0.all
 have hP:=hA0.off Z
 refine ar [(0,K aK 0),(1,.agg #[l,m,vB ap])] ⟨Z,Z,V⟩ ?_
 unfold F.ET at h
 refine M (H (aU (dy (cs:=[l,m,vB ap]) Z Z a) Z ?_))
 rintro _ w ⟨bm,rfl,a⟩
 refine aU (bg (cs:=[.pointer none,.pointer none,.pointer none]) ft Z a) Z ?_
 rintro _ w ⟨bo,rfl,a⟩
 refine Q 1 Z ?_
 refine J (N (M ?_))
 refine bb (fun w'=>St [] b w' [X bo [.pointer none,.pointer none,.pointer none],X bm [l,m,vB ap]]) (fun i=>!([2,5].contains i)) bR (fun _ _ _ hf=>hf.2) (fun _ _ hf=>hf) (by kernel_rfl) ?_
 have a:=a.drew
 show lxE _ _ _ _ _ _ _ [0,1,2,3,4,5,6,7] _ _
 refine am a Z Z (fun w hF=>ax (k:=0) u33 Z Z rZ Z) Z (am a Z Z (fun w hF=>aH u31 Z Z (hF.r 1 Z 0)) Z ?_)
 obtain ⟨bd,bh,h⟩:=aj h
 refine bk a Z Z (by kernel_rfl) Z (ko  bh ((n.rp 11 Z).d a.fr).rp) Z ?_
 rintro _ w ⟨bq,aq,rfl,c⟩
 have a:=a.f c
 refine am (a.e [2,3] Z Z) Z Z (fun w hF=>ax (k:=1) u33 Z Z rZ Z) Z (am (a.e [2,3] Z Z) Z Z (fun w hF=>aH u31 Z Z (hF.r 1 Z 1)) Z ?_)
 obtain ⟨a0,a6,h⟩:=aj h
 refine bk (a.e [2,3] Z Z) Z Z (by kernel_rfl) Z (ko  a6 ((n.rp 12 Z).d a.fr).rp) Z ?_
 rintro _ w ⟨bi,x,rfl,c⟩
 have a:=a.f c
 refine am (a.e [4,5] Z Z) Z Z (fun w hF=>aD Z) Z (am (a.e [4,5] Z Z) Z Z (fun w hF=>aD Z) Z (bp (a.e [4,5] Z Z) ?_))
 refine N (M (M (H (al (ax (k:=2) u33 Z Z nz4 Z) Z (al (aH Tryz.underlying4 Z Z (a.r 5 Z 2)) Z (J (N ?_)))))))
 refine av Z (fun az=>?_) (fun az=>?_)
 ·have h:=aJ h az
  refine M (H ?_)
  obtain ⟨br,a7,h⟩:=aj h
  refine ao Z (eR  a7 ) Z ?_
  rintro _ w ⟨a1,a2,a3,y,z,A,rfl,c⟩
  have a:=a.f c
  refine Q 1 Z ?_
  obtain ⟨bj,a8,h⟩:=aj h
  refine ao Z (cE bd.1 a8 (a.ro 9 Z).rp (a.rb 8 Z)) Z ?_
  rintro _ w ⟨rfl,c⟩
  have a:=a.f c
  refine Q 2 Z ?_
  cases ab:(bj == 0)
  case true=>
   have h:=aJ h ab
   try simp only [ab]
   refine Q 1 Z ?_
   obtain ⟨bs,a9,h⟩:=aj h
   refine cr (t:=20) Z Z (by kernel_rfl) Z (cE a0.1 a9 (a.ro 7 Z).rp (a.rb 6 Z)) Z ?_
   rintro _ w ⟨rfl,c⟩
   have a:=a.f c
   refine Q 2 Z ?_
   refine bn (bA (i:=10) (us:=[K y 0,K z 0,K A 0]) Z bV Z Z Z ⟨Z,Z,Z,V⟩ Z a) ?_
   intro w a
   refine Q 1 Z ?_
   refine J (N (ay (aG ?_)))
   cases h
   obtain ⟨hS0,hR⟩:=hZ.outT hTT n hP a
   exact fk Z ⟨_,Z,bY (us:=[K y 0,K z 0,K A 0]) u91 Z bV (a.q 10 Z Z)⟩ Z ⟨y,a1,z,a2,A,a3,Z,hS0,(Y (hR.b 20 Z) (Y (hR.b 19 Z) (Y (hR.b 22 Z) (Y (hR.b 21 Z) (Y (hR.b 24 Z) (Y (hR.b 23 Z) P.nil))))))⟩
  case false=>
   have h:=aI h ab
   try simp only [ab]
   refine Q 4 Z ?_
   refine bn (bA (i:=10) (us:=[K y 0,K z 0,K A 0]) Z bV Z Z Z ⟨Z,Z,Z,V⟩ Z a) ?_
   intro w a
   refine Q 1 Z ?_
   refine J (N (ay (aG ?_)))
   cases h
   obtain ⟨hS0,hR⟩:=hZ.outT hTT n hP a
   exact fk Z ⟨_,Z,bY (us:=[K y 0,K z 0,K A 0]) u91 Z bV (a.q 10 Z Z)⟩ Z ⟨y,a1,z,a2,A,a3,Z,hS0,(Y (hR.b 20 Z) (Y (hR.b 19 Z) (Y (hR.b 22 Z) (Y (hR.b 21 Z) (Y (hR.b 24 Z) (Y (hR.b 23 Z) P.nil))))))⟩
 have h:=aI h az
 refine aw (N (M (H (Q 2 Z ?_))))
 obtain ⟨bt,ba,h⟩:=aj h
 refine ao Z (cG 1 ba ) Z ?_
 rintro _ w ⟨bl,B,rfl,c⟩
 have a:=a.f c
 refine al (cl (vs:=[(0,K aq 0,[K aq 0]),(1,K x 0,[K x 0]),(2,K B 0,[K B 0])]) (cells:=[K aq 0,K x 0,K B 0]) Z mp ⟨Z,Z,Z,V⟩ Z) Z ?_
 refine Q 3 Z ?_
 obtain ⟨bu,bc,h⟩:=aj h
 refine ao Z (ja o p q s u au bd.1 a0.1 bc ((n.rp 0 Z).d a.fr).rp ((n.rb 1 Z).d a.fr) ((n.rp 2 Z).d a.fr).rp ((n.rb 3 Z).d a.fr) ((n.rp 4 Z).d a.fr).rp ((n.rb 5 Z).d a.fr) ((n.rp 6 Z).d a.fr).rp ((n.rb 7 Z).d a.fr) ((n.rp 8 Z).d a.fr).rp ((n.rb 9 Z).d a.fr) ((n.rb 10 Z).d a.fr) (a.ro 5 Z).rp (a.rb 4 Z) (a.ro 3 Z).rp (a.rb 2 Z)) Z ?_
 rintro _ w ⟨rfl,c⟩
 have a:=a.f c
 refine bn (bA (i:=6) (us:=[K aq 0,K x 0,K B 0]) Z bV Z Z Z ⟨Z,Z,Z,V⟩ Z a) ?_
 intro w a
 refine Q 1 Z ?_
 refine J (N (ay ?_))
 cases h
 obtain ⟨hS0,hR⟩:=hZ.outT hTT n hP a
 exact fk Z ⟨_,Z,bY (us:=[K aq 0,K x 0,K B 0]) u91 Z bV (a.q 6 Z Z)⟩ Z ⟨aq,bq,x,bi,B,bl,Z,hS0,(Y (hR.b 20 Z) (Y (hR.b 19 Z) (Y (hR.b 18 Z) (Y (hR.b 17 Z) (Y (hR.b 16 Z) (Y (hR.b 15 Z) P.nil))))))⟩
theorem jj {m:World} {E G:List UInt32} {e f:Value} {T:List Nat} (a0:Int) (l:Bool) {r:Option (Bool×List UInt32×Bool×List UInt32×Bool×List UInt32×Bool×List UInt32×Bool×List UInt32×Int×Bool×List UInt32×Bool×List UInt32×Bool×List UInt32)×Bool}
  (h:F.CX a0 E G l=some r) (hTT:TOk [] T m) (aM:RP T m U e E) (aO:RP T m U f G):Calls Tryz.prog 71 #[vI a0,.agg #[e,f,vB l]] m (Ret fun v w=>jY r.1 (v=.tuple #[.pointer none,.agg #[.pointer none,.pointer none,.pointer none],vB r.2]∧St [] m w []) (fun c=>∃b0:Nat,∃ak:Nat,∃p:Value,∃an:Nat,∃q:Value,∃ap:Nat,∃s:Value,∃av:Nat,∃t:Value,∃ax:Nat,∃u:Value,∃az:Nat,∃x:Value,∃aA:Nat,∃y:Value,∃aB:Nat,∃z:Value,v=.tuple #[K b0 0,.agg #[K az 0,K aA 0,K aB 0],vB r.2]∧St [] m w []∧P T w [X aB [vB c.2.2.2.2.2.2.2.2.2.2.2.2.2.2.2.1,z],red U z c.2.2.2.2.2.2.2.2.2.2.2.2.2.2.2.2,X aA [vB c.2.2.2.2.2.2.2.2.2.2.2.2.2.1,y],red U y c.2.2.2.2.2.2.2.2.2.2.2.2.2.2.1,X az [vB c.2.2.2.2.2.2.2.2.2.2.2.1,x],red U x c.2.2.2.2.2.2.2.2.2.2.2.2.1,X b0 [K ak 0,K an 0,K ap 0,K av 0,K ax 0,vI c.2.2.2.2.2.2.2.2.2.2.1,.func (.func 168) #[] #[]],X ax [vB c.2.2.2.2.2.2.2.2.1,u],red U u c.2.2.2.2.2.2.2.2.2.1,X av [vB c.2.2.2.2.2.2.1,t],red U t c.2.2.2.2.2.2.2.1,X ap [vB c.2.2.2.2.1,s],red U s c.2.2.2.2.2.1,X an [vB c.2.2.1,q],red U q c.2.2.2.1,X ak [vB c.1,p],red U p c.2.1])):=by
 refine aN 24 Tryz.func71 Z Z Z ?_
 have a:=St.l m
 have hZ:=Fz.l (S:=[]) (w0:=m)
 have hA0:P T m [red U f G,red U e E]:=Y (RP.i (R Z) aO) (Y (RP.i (R Z) aM) (P.nil))
 have b:=hA0.all
 have d:=hA0.off Z
 refine ar [(0,vI a0),(1,.agg #[e,f,vB l])] ⟨Z,Z,V⟩ ?_
 unfold F.CX at h
 refine M (H (aU (dy (cs:=[e,f,vB l]) Z Z a) Z ?_))
 rintro _ w ⟨aC,rfl,a⟩
 refine Q 1 Z ?_
 refine aU (bg (cs:=[.pointer none,.pointer none,.pointer none]) ft Z a) Z ?_
 rintro _ w ⟨aS,rfl,a⟩
 refine Q 1 Z ?_
 refine J (N (M (H (Q 1 Z ?_))))
 replace a:=a.pick (os':=[]++[X aS [.pointer none,.pointer none,.pointer none],X aC [e,f,vB l]]) [0,1] (by decide) rfl
 obtain ⟨hZ,b,d,a⟩:=hZ.frzK hTT b d a
 obtain ⟨aY,aT,h⟩:=aj h
 refine ao Z (gy a0 aT (hZ.okT hTT a)) Z ?_
 rintro v_q w hQ
 cases o:aY with
 | none=>
  have h:=fG h o
  rw [o]at hQ
  obtain ⟨rfl,A⟩:=eN hQ
  obtain ⟨a4,aZ,hZ,b,d,a⟩:=hZ.m b d a A P.nil rfl
  refine Q 1 Z ?_
  refine J (N (M (M (H (Q 1 Z ?_)))))
  refine al (aq Z Z (qs u71)) Z (J (N (cn Z ?_)))
  refine M (H (al (cl (vs:=[]) (cells:=[.pointer none,.pointer none,.pointer none]) Z mp V Z) Z (Q 1 Z ?_)))
  refine bn (bA (i:=0) (us:=[.pointer none,.pointer none,.pointer none]) Z bV Z Z Z ⟨Z,Z,Z,V⟩ Z a) ?_
  intro w a
  refine Q 1 Z ?_
  refine J (N (ay (aG ?_)))
  cases h
  obtain ⟨hS0,hR⟩:=hZ.outT hTT b d a
  exact wd Z Z ⟨_,Z,bY (us:=[.pointer none,.pointer none,.pointer none]) u91 Z bV (a.q 0 Z Z)⟩ Z (qD ⟨Z,hS0⟩)
 | some n=>
  have h:=fv h o
  rw [o]at hQ
  obtain ⟨aE,aF,L,aH,ab,aI,ac,aJ,ad,aK,ag,rfl,A,aL⟩:=eO hQ
  obtain ⟨a2,a1,hZ,b,d,a⟩:=hZ.m b d a A aL rfl
  refine Q 1 Z ?_
  refine J (N (M (M (H (Q 1 Z ?_)))))
  refine al (aq Z Z (qw u71 aE 0)) Z (J (N (dV Z ?_)))
  refine aw (N (M (H (Q 1 Z ?_))))
  refine al (bO (us:=[e,f,vB l]) u33 Z cx Z (a.q 1 Z Z)) Z ?_
  replace a:=a.pick (os':=[]++[X aS [.pointer none,.pointer none,.pointer none],X aC [e,f,vB l]]) [0,1] (by decide) rfl
  obtain ⟨hZ,b,d,a⟩:=hZ.frzK hTT b d a
  obtain ⟨a3,aQ,h⟩:=aj h
  refine ao Z (lK n.1 n.2.2.1 n.2.2.2.2.1 n.2.2.2.2.2.2.1 n.2.2.2.2.2.2.2.2.1 n.2.2.2.2.2.2.2.2.2.2 l aQ (hZ.okT hTT a) (b.j d 2 Z) (b.k d 3 Z) (b.j d 4 Z) (b.k d 5 Z) (b.j d 6 Z) (b.k d 7 Z) (b.j d 8 Z) (b.k d 9 Z) (b.j d 10 Z) (b.k d 11 Z) (b.k d 12 Z) (b.j d 0 Z) (b.j d 1 Z)) Z ?_
  rintro _ w ⟨g,B,j,C,k,D,rfl,A,aL⟩
  obtain ⟨aV,aR,hZ,b,d,a⟩:=hZ.m b d a A aL rfl
  refine Q 3 Z ?_
  refine aU (bg (cs:=[.pointer none,.pointer none,.pointer none]) ft Z a) Z ?_
  rintro _ w ⟨aW,rfl,a⟩
  refine bn (bA (i:=0) (us:=[K g 0,K j 0,K k 0]) Z bV Z Z Z ⟨Z,Z,Z,V⟩ Z a) ?_
  intro w a
  refine Q 1 Z ?_
  refine J (N (M ?_))
  refine bb (fun w'=>St aV aR w' [X aW [K g 0,K j 0,K k 0],X aC [e,f,vB l]]) (fun i=>!([4].contains i)) bR (fun _ _ _ hf=>hf.2) (fun _ _ hf=>hf) (by kernel_rfl) ?_
  have a:=a.drew
  show lxE _ _ _ _ _ _ _ [0,1,2,3,4,5] _ _
  refine am (a.e [0,2] Z Z) Z Z (fun w hF=>au Z) Z (am (a.e [0,2] Z Z) Z Z (fun w hF=>bO (us:=[K g 0,K j 0,K k 0]) u91 Z bV Z (hF.q 0 Z Z)) Z (am (a.e [0,2] Z Z) Z Z (fun w hF=>au Z) Z (am (a.e [0,2] Z Z) Z Z (fun w hF=>aD Z) Z (iK (a.e [0,2] Z Z) Z Z (bA (i:=1) (us:=[K g 0,K j 0,K k 0]) Z bV Z Z Z ⟨Z,Z,Z,V⟩ Z a) ?_))))
  intro w a
  refine am (a.e [0,2] Z Z) Z Z (fun w hF=>aD Z) Z (bp (a.e [0,2] Z Z) ?_)
  refine N (ay ?_)
  cases h
  obtain ⟨hS0,hR⟩:=hZ.outT hTT b d a
  exact wd Z Z ⟨_,Z,bY (us:=[K g 0,K j 0,K k 0]) u91 Z bV (a.q 1 Z Z)⟩ Z (nt ⟨aE,aF,L,aH,ab,aI,ac,aJ,ad,aK,ag,g,B,j,C,k,D,Z,hS0,(Y (hR.b 18 Z) (Y (hR.b 17 Z) (Y (hR.b 16 Z) (Y (hR.b 15 Z) (Y (hR.b 14 Z) (Y (hR.b 13 Z) (Y (hR.b 12 Z) (Y (hR.b 11 Z) (Y (hR.b 10 Z) (Y (hR.b 9 Z) (Y (hR.b 8 Z) (Y (hR.b 7 Z) (Y (hR.b 6 Z) (Y (hR.b 5 Z) (Y (hR.b 4 Z) (Y (hR.b 3 Z) (Y (hR.b 2 Z) P.nil)))))))))))))))))⟩)
theorem ui {e:World} {f g:List UInt32} {b c:Value} (a0:Int) (d:Bool) {r:Bool}
  (h:F.FG a0 f g d=some r) (q:RP [] e U b f) (s:RP [] e U c g):Calls Tryz.prog 32 #[vI a0,.agg #[b,c,vB d]] e (Ret fun v w=>v=vB r∧St [] e w []):=by
 refine aN 16 Tryz.func32 Z Z Z ?_
 have a:=St.l e
 have hZ:=Fz.l (S:=[]) (w0:=e)
 have hTT:TOk [] [] e:=TOk.nil
 have k:P [] e [red U c g,red U b f]:=Y (RP.i (R Z) s) (Y (RP.i (R Z) q) (P.nil))
 have l:I [] [red U c g,red U b f]:=I.emp
 refine ar [(0,vI a0),(1,.agg #[b,c,vB d])] ⟨Z,Z,V⟩ ?_
 unfold F.FG at h
 refine M (H (aU (dy (cs:=[b,c,vB d]) Z Z a) Z ?_))
 rintro _ w ⟨G,rfl,a⟩
 refine Q 1 Z ?_
 refine J (N (M (H (Q 1 Z ?_))))
 refine al (bO (us:=[b,c,vB d]) u33 Z cx Z (a.q 0 Z Z)) Z ?_
 replace a:=a.pick (os':=[]++[X G [b,c,vB d]]) [0] (by decide) rfl
 obtain ⟨hZ,k,l,a⟩:=hZ.frzK hTT k l a
 obtain ⟨L,u,h⟩:=aj h
 refine ao Z (jj a0 d u (hZ.okT hTT a) (k.j l 0 Z) (k.j l 1 Z)) Z ?_
 rintro v_q w t
 cases j:L.1 with
 | none=>
  have h:=fG h j
  rw [j]at t
  obtain ⟨rfl,m⟩:=eN t
  obtain ⟨av,an,hZ,k,l,a⟩:=hZ.m k l a m P.nil rfl
  refine Q 4 Z ?_
  refine aU (bg (cs:=[.pointer none,.pointer none,.pointer none]) ft Z a) Z ?_
  rintro _ w ⟨ap,rfl,a⟩
  refine Q 1 Z ?_
  refine bn (bA (i:=0) (us:=[.pointer none,.pointer none,.pointer none]) Z bV Z Z Z ⟨Z,Z,Z,V⟩ Z a) ?_
  intro w a
  refine Q 1 Z ?_
  refine J (N (M (H (Q 2 Z ?_))))
  refine J (N (ay ?_))
  cases h
  replace a:=hZ.st a
  exact aM Z Z ⟨Z,a.e [] Z Z⟩
 | some aw=>
  have h:=fv h j
  rw [j]at t
  obtain ⟨aq,T,x,ab,y,ac,z,ad,A,ag,B,n,C,o,D,p,E,rfl,m,ak⟩:=eO t
  obtain ⟨ax,am,hZ,k,l,a⟩:=hZ.m k l a m ak rfl
  refine Q 4 Z ?_
  refine aU (bg (cs:=[.pointer none,.pointer none,.pointer none]) ft Z a) Z ?_
  rintro _ w ⟨au,rfl,a⟩
  refine Q 1 Z ?_
  refine bn (bA (i:=0) (us:=[K n 0,K o 0,K p 0]) Z bV Z Z Z ⟨Z,Z,Z,V⟩ Z a) ?_
  intro w a
  refine Q 1 Z ?_
  refine J (N (M (H (Q 2 Z ?_))))
  refine J (N (ay ?_))
  cases h
  replace a:=hZ.st a
  exact aM Z Z ⟨Z,a.e [] Z Z⟩
theorem fw {b:World} {a0:List UInt32} {c:Value} {r:Bool×List UInt32×Bool}
  (h:F.CW a0=some r) (i:RP [] b U c a0):Calls Tryz.prog 72 #[c] b (Ret fun v w=>∃d:Value,∃un0:Nat,v=.tuple #[K un0 0,vB r.2.2]∧St [] b w [X un0 [vB r.1,d],O U d r.2.1]):=by
 refine aN 9 Tryz.func72 Z Z Z ?_
 have a:=St.l b
 have hZ:=Fz.l (S:=[]) (w0:=b)
 have hTT:TOk [] [] b:=TOk.nil
 have j:P [] b [red U c a0]:=Y (RP.i (R Z) i) (P.nil)
 have o:I [] [red U c a0]:=I.emp
 refine ar [(0,c)] ⟨Z,V⟩ ?_
 unfold F.CW at h
 refine M (H (Q 2 Z ?_))
 refine J (N (M (H (Q 1 Z ?_))))
 obtain ⟨m,f,h⟩:=aj h
 refine ao Z (ko  f ((j.rp 0 Z).d a.fr).rp) Z ?_
 rintro _ w ⟨k,l,rfl,e⟩
 have a:=a.f e
 refine Q 1 Z ?_
 obtain ⟨n,g,h⟩:=aj h
 refine ao Z (eQ  g ((j.rp 0 Z).d a.fr).rp) Z ?_
 rintro _ w ⟨rfl,e⟩
 have a:=a.f e
 refine Q 3 Z ?_
 refine J (N (ay ?_))
 cases h
 replace a:=hZ.st a
 exact bX Z Z Z ⟨k,l,Z,a.e [0,1] Z Z⟩
end Go.Proofs
