import Derived.Test.YtkickcbphbgldaaGreatDoorTW0
import Derived.Test.YtkickcbphbgldaaGreatDoorGkFman
import Derived.Test.YtkickcbphbgldaaGreatDoorTWbignumc
import Derived.Test.YtkickcbphbgldaaGreatDoorTWnatb
set_option linter.unusedVariables false
set_option linter.unusedSimpArgs false
set_option linter.unusedSectionVars false
set_option maxRecDepth 4000
namespace Go.Proofs
open Go Go.RowKit Go.Gk
open Go.Gk renaming Off → O, Rds → Q, aa → P, ae → M, ah → I, ai → H, e32 → U, own → K, pB → N, vB → J
open Nat renaming le_of_ble_eq_true → R
open Go.Gk.OE renaming bx → W
open Go.Gk.Rds renaming cons → Y
theorem cR {d:World} (a0:List UInt8) {r:Bool×List UInt32}
  (h:F.BM a0=some r) :Calls Tryz.prog 167 #[vS a0] d (Ret fun v w=>∃b:Value,∃un0:Nat,v=N un0 0∧St [] d w [W un0 [J r.1,b],K U b r.2]):=by
 refine aJ 12 Tryz.func167 Z Z Z ?_
 have a:=St.l d
 refine au [(0,vS a0)] ⟨Z,V⟩ ?_
 unfold F.BM at h
 refine I (af (P 1 Z ?_))
 refine H (M (I (af (aP (aT (cs:=[J false,.slice none 0 0]) c6 Z a) Z ?_))))
 rintro _ w ⟨c,rfl,a⟩
 refine P 1 Z ?_
 replace a:=a.nil U
 have f:=a.pick (os':=[W c [J false,.slice none 0 0],K U (.slice none 0 0) []]++[]) [1,0] (by decide) Z
 obtain ⟨j,e,h⟩:=aj h
 refine ao Z (jX false a0 16 e f.g ) Z ?_
 rintro _ w ⟨g,rfl,i⟩
 have a:=f.h i
 refine P 5 Z ?_
 refine H (M (I (af (P 2 Z ?_))))
 refine H (M (aw ?_))
 cases h
 exact aF Z Z ⟨g,c,Z,a.e [0,1] Z Z⟩
theorem rK {n:World} {T:List Nat} {r:Bool×List UInt32×Bool×List UInt32×Bool×List UInt32×Bool×List UInt32×Bool×List UInt32×Int}
  (h:F.EX =some r) (hTT:TOk [] T n):Calls Tryz.prog 118 #[] n (Ret fun v w=>∃b0:Nat,∃o:Nat,∃f:Value,∃p:Nat,∃g:Value,∃q:Nat,∃i:Value,∃s:Nat,∃j:Value,∃t:Nat,∃k:Value,v=N b0 0∧St [] n w []∧Q T w [W b0 [N o 0,N p 0,N q 0,N s 0,N t 0,vI r.2.2.2.2.2.2.2.2.2.2,.func (.func 168) #[] #[]],W t [J r.2.2.2.2.2.2.2.2.1,k],red U k r.2.2.2.2.2.2.2.2.2.1,W s [J r.2.2.2.2.2.2.1,j],red U j r.2.2.2.2.2.2.2.1,W q [J r.2.2.2.2.1,i],red U i r.2.2.2.2.2.1,W p [J r.2.2.1,g],red U g r.2.2.2.1,W o [J r.1,f],red U f r.2.1]):=by
 refine aJ 8 Tryz.func118 Z Z Z ?_
 have b:=St.l n
 have hZ:=Fz.l (S:=[]) (w0:=n)
 have hA0:Q T n []:=Q.nil
 have hA:=hA0.all
 have hP:=hA0.off Z
 refine au [] V ?_
 unfold F.EX at h
 refine I (af (P 1 Z ?_))
 refine H (M (I (af ?_)))
 obtain ⟨al,z,h⟩:=aj h
 refine ao Z (cR [102,102,102,102,102,102,102,102,48,48,48,48,48,48,48,49,48,48,48,48,48,48,48,48,48,48,48,48,48,48,48,48,48,48,48,48,48,48,48,48,102,102,102,102,102,102,102,102,102,102,102,102,102,102,102,102,102,102,102,102,102,102,102,102] z ) Z ?_
 rintro _ w ⟨G,l,rfl,a⟩
 have b:=b.f a
 obtain ⟨an,A,h⟩:=aj h
 refine ao Z (cR [53,97,99,54,51,53,100,56,97,97,51,97,57,51,101,55,98,51,101,98,98,100,53,53,55,54,57,56,56,54,98,99,54,53,49,100,48,54,98,48,99,99,53,51,98,48,102,54,51,98,99,101,51,99,51,101,50,55,100,50,54,48,52,98] A ) Z ?_
 rintro _ w ⟨L,m,rfl,a⟩
 have b:=b.f a
 obtain ⟨ad,u,h⟩:=aj h
 refine ao Z (cR [102,102,102,102,102,102,102,102,48,48,48,48,48,48,48,48,102,102,102,102,102,102,102,102,102,102,102,102,102,102,102,102,98,99,101,54,102,97,97,100,97,55,49,55,57,101,56,52,102,51,98,57,99,97,99,50,102,99,54,51,50,53,53,49] u ) Z ?_
 rintro _ w ⟨B,c,rfl,a⟩
 have b:=b.f a
 obtain ⟨ag,x,h⟩:=aj h
 refine ao Z (cR [54,98,49,55,100,49,102,50,101,49,50,99,52,50,52,55,102,56,98,99,101,54,101,53,54,51,97,52,52,48,102,50,55,55,48,51,55,100,56,49,50,100,101,98,51,51,97,48,102,52,97,49,51,57,52,53,100,56,57,56,99,50,57,54] x ) Z ?_
 rintro _ w ⟨C,d,rfl,a⟩
 have b:=b.f a
 obtain ⟨ak,y,h⟩:=aj h
 refine ao Z (cR [52,102,101,51,52,50,101,50,102,101,49,97,55,102,57,98,56,101,101,55,101,98,52,97,55,99,48,102,57,101,49,54,50,98,99,101,51,51,53,55,54,98,51,49,53,101,99,101,99,98,98,54,52,48,54,56,51,55,98,102,53,49,102,53] y ) Z ?_
 rintro _ w ⟨D,e,rfl,a⟩
 have b:=b.f a
 refine am (bN (vs:=[(0,N l 0,[N l 0]),(1,N m 0,[N m 0]),(2,N c 0,[N c 0]),(3,N d 0,[N d 0]),(4,N e 0,[N e 0]),(5,vI 32,[vI 32]),(6,.func (.func 168) #[] #[],[.func (.func 168) #[] #[]])]) (cells:=[N l 0,N m 0,N c 0,N d 0,N e 0,vI 32,.func (.func 168) #[] #[]]) Z yN ⟨Z,Z,Z,Z,Z,Z,Z,V⟩ Z) Z ?_
 refine aP (cZ (cs:=[N l 0,N m 0,N c 0,N d 0,N e 0,vI 32,.func (.func 168) #[] #[]]) Z Z b) Z ?_
 rintro _ w ⟨E,rfl,b⟩
 refine P 1 Z ?_
 refine H (M (aw ?_))
 cases h
 obtain ⟨hS0,hR⟩:=hZ.outT hTT hA hP b
 exact aF Z Z ⟨E,l,G,m,L,c,B,d,C,e,D,Z,hS0,(Y (hR.b 10 Z) (Y (hR.b 9 Z) (Y (hR.b 8 Z) (Y (hR.b 7 Z) (Y (hR.b 6 Z) (Y (hR.b 5 Z) (Y (hR.b 4 Z) (Y (hR.b 3 Z) (Y (hR.b 2 Z) (Y (hR.b 1 Z) (Y (hR.b 0 Z) Q.nil)))))))))))⟩
theorem sk {n:World} {T:List Nat} {r:Bool×List UInt32×Bool×List UInt32×Bool×List UInt32×Bool×List UInt32×Bool×List UInt32×Int}
  (h:F.Fv =some r) (hTT:TOk [] T n):Calls Tryz.prog 119 #[] n (Ret fun v w=>∃b0:Nat,∃o:Nat,∃f:Value,∃p:Nat,∃g:Value,∃q:Nat,∃i:Value,∃s:Nat,∃j:Value,∃t:Nat,∃k:Value,v=N b0 0∧St [] n w []∧Q T w [W b0 [N o 0,N p 0,N q 0,N s 0,N t 0,vI r.2.2.2.2.2.2.2.2.2.2,.func (.func 168) #[] #[]],W t [J r.2.2.2.2.2.2.2.2.1,k],red U k r.2.2.2.2.2.2.2.2.2.1,W s [J r.2.2.2.2.2.2.1,j],red U j r.2.2.2.2.2.2.2.1,W q [J r.2.2.2.2.1,i],red U i r.2.2.2.2.2.1,W p [J r.2.2.1,g],red U g r.2.2.2.1,W o [J r.1,f],red U f r.2.1]):=by
 refine aJ 8 Tryz.func119 Z Z Z ?_
 have b:=St.l n
 have hZ:=Fz.l (S:=[]) (w0:=n)
 have hA0:Q T n []:=Q.nil
 have hA:=hA0.all
 have hP:=hA0.off Z
 refine au [] V ?_
 unfold F.Fv at h
 refine I (af (P 1 Z ?_))
 refine H (M (I (af ?_)))
 obtain ⟨al,z,h⟩:=aj h
 refine ao Z (cR [102,102,102,102,102,102,102,102,102,102,102,102,102,102,102,102,102,102,102,102,102,102,102,102,102,102,102,102,102,102,102,102,102,102,102,102,102,102,102,102,102,102,102,102,102,102,102,102,102,102,102,102,102,102,102,102,102,102,102,102,102,102,102,101,102,102,102,102,102,102,102,102,48,48,48,48,48,48,48,48,48,48,48,48,48,48,48,48,102,102,102,102,102,102,102,102] z ) Z ?_
 rintro _ w ⟨G,l,rfl,a⟩
 have b:=b.f a
 obtain ⟨an,A,h⟩:=aj h
 refine ao Z (cR [98,51,51,49,50,102,97,55,101,50,51,101,101,55,101,52,57,56,56,101,48,53,54,98,101,51,102,56,50,100,49,57,49,56,49,100,57,99,54,101,102,101,56,49,52,49,49,50,48,51,49,52,48,56,56,102,53,48,49,51,56,55,53,97,99,54,53,54,51,57,56,100,56,97,50,101,100,49,57,100,50,97,56,53,99,56,101,100,100,51,101,99,50,97,101,102] A ) Z ?_
 rintro _ w ⟨L,m,rfl,a⟩
 have b:=b.f a
 obtain ⟨ad,u,h⟩:=aj h
 refine ao Z (cR [102,102,102,102,102,102,102,102,102,102,102,102,102,102,102,102,102,102,102,102,102,102,102,102,102,102,102,102,102,102,102,102,102,102,102,102,102,102,102,102,102,102,102,102,102,102,102,102,99,55,54,51,52,100,56,49,102,52,51,55,50,100,100,102,53,56,49,97,48,100,98,50,52,56,98,48,97,55,55,97,101,99,101,99,49,57,54,97,99,99,99,53,50,57,55,51] u ) Z ?_
 rintro _ w ⟨B,c,rfl,a⟩
 have b:=b.f a
 obtain ⟨ag,x,h⟩:=aj h
 refine ao Z (cR [97,97,56,55,99,97,50,50,98,101,56,98,48,53,51,55,56,101,98,49,99,55,49,101,102,51,50,48,97,100,55,52,54,101,49,100,51,98,54,50,56,98,97,55,57,98,57,56,53,57,102,55,52,49,101,48,56,50,53,52,50,97,51,56,53,53,48,50,102,50,53,100,98,102,53,53,50,57,54,99,51,97,53,52,53,101,51,56,55,50,55,54,48,97,98,55] x ) Z ?_
 rintro _ w ⟨C,d,rfl,a⟩
 have b:=b.f a
 obtain ⟨ak,y,h⟩:=aj h
 refine ao Z (cR [51,54,49,55,100,101,52,97,57,54,50,54,50,99,54,102,53,100,57,101,57,56,98,102,57,50,57,50,100,99,50,57,102,56,102,52,49,100,98,100,50,56,57,97,49,52,55,99,101,57,100,97,51,49,49,51,98,53,102,48,98,56,99,48,48,97,54,48,98,49,99,101,49,100,55,101,56,49,57,100,55,97,52,51,49,100,55,99,57,48,101,97,48,101,53,102] y ) Z ?_
 rintro _ w ⟨D,e,rfl,a⟩
 have b:=b.f a
 refine am (bN (vs:=[(0,N l 0,[N l 0]),(1,N m 0,[N m 0]),(2,N c 0,[N c 0]),(3,N d 0,[N d 0]),(4,N e 0,[N e 0]),(5,vI 48,[vI 48]),(6,.func (.func 168) #[] #[],[.func (.func 168) #[] #[]])]) (cells:=[N l 0,N m 0,N c 0,N d 0,N e 0,vI 48,.func (.func 168) #[] #[]]) Z yN ⟨Z,Z,Z,Z,Z,Z,Z,V⟩ Z) Z ?_
 refine aP (cZ (cs:=[N l 0,N m 0,N c 0,N d 0,N e 0,vI 48,.func (.func 168) #[] #[]]) Z Z b) Z ?_
 rintro _ w ⟨E,rfl,b⟩
 refine P 1 Z ?_
 refine H (M (aw ?_))
 cases h
 obtain ⟨hS0,hR⟩:=hZ.outT hTT hA hP b
 exact aF Z Z ⟨E,l,G,m,L,c,B,d,C,e,D,Z,hS0,(Y (hR.b 10 Z) (Y (hR.b 9 Z) (Y (hR.b 8 Z) (Y (hR.b 7 Z) (Y (hR.b 6 Z) (Y (hR.b 5 Z) (Y (hR.b 4 Z) (Y (hR.b 3 Z) (Y (hR.b 2 Z) (Y (hR.b 1 Z) (Y (hR.b 0 Z) Q.nil)))))))))))⟩
theorem gF {i:World} {T:List Nat} (a0:Int) {r:Option (Bool×List UInt32×Bool×List UInt32×Bool×List UInt32×Bool×List UInt32×Bool×List UInt32×Int)}
  (h:F.Ch a0=some r) (hTT:TOk [] T i):Calls Tryz.prog 60 #[vI a0] i (Ret fun v w=>kk r (v=.pointer none∧St [] i w []) (fun c=>∃b0:Nat,∃B:Nat,∃j:Value,∃C:Nat,∃k:Value,∃e:Nat,∃l:Value,∃D:Nat,∃m:Value,∃E:Nat,∃n:Value,v=N b0 0∧St [] i w []∧Q T w [W b0 [N B 0,N C 0,N e 0,N D 0,N E 0,vI c.2.2.2.2.2.2.2.2.2.2,.func (.func 168) #[] #[]],W E [J c.2.2.2.2.2.2.2.2.1,n],red U n c.2.2.2.2.2.2.2.2.2.1,W D [J c.2.2.2.2.2.2.1,m],red U m c.2.2.2.2.2.2.2.1,W e [J c.2.2.2.2.1,l],red U l c.2.2.2.2.2.1,W C [J c.2.2.1,k],red U k c.2.2.2.1,W B [J c.1,j],red U j c.2.1])):=by
 refine aJ 10 Tryz.func60 Z Z Z ?_
 have a:=St.l i
 have hZ:=Fz.l (S:=[]) (w0:=i)
 have hA0:Q T i []:=Q.nil
 have b:=hA0.all
 have d:=hA0.off Z
 refine au [(0,vI a0)] ⟨Z,V⟩ ?_
 unfold F.Ch at h
 refine I (af (P 1 Z ?_))
 refine H (M (I (I (af (P 1 Z ?_)))))
 refine H (M (aE ?_))
 refine I (af (P 2 Z ?_))
 refine H (M ?_)
 refine ax Z (fun f=>?_) (fun f=>?_)
 ·have h:=aG h f
  refine I (af ?_)
  replace a:=a.pick (os':=[]++[]) [] (by decide) rfl
  obtain ⟨hZ,b,d,a⟩:=hZ.frzK hTT b d a
  obtain ⟨aI,ar,h⟩:=aj h
  refine ao Z (rK  ar (hZ.okT hTT a)) Z ?_
  rintro _ w ⟨e,G,o,L,p,ab,q,ac,s,ad,t,rfl,ag,ak⟩
  obtain ⟨aK,aB,hZ,b,d,a⟩:=hZ.m b d a ag ak rfl
  refine P 1 Z ?_
  refine H (M (aw (bV ?_)))
  refine aD ?_
  cases h
  obtain ⟨hS0,hR⟩:=hZ.outT hTT b d a
  exact aF Z Z (nk ⟨e,G,o,L,p,ab,q,ac,s,ad,t,Z,hS0,(Y (hR.b 10 Z) (Y (hR.b 9 Z) (Y (hR.b 8 Z) (Y (hR.b 7 Z) (Y (hR.b 6 Z) (Y (hR.b 5 Z) (Y (hR.b 4 Z) (Y (hR.b 3 Z) (Y (hR.b 2 Z) (Y (hR.b 1 Z) (Y (hR.b 0 Z) Q.nil)))))))))))⟩)
 have h:=aH h f
 refine I (af (P 2 Z ?_))
 refine H (M ?_)
 refine ax Z (fun g=>?_) (fun g=>?_)
 ·have h:=aG h g
  refine I (af ?_)
  replace a:=a.pick (os':=[]++[]) [] (by decide) rfl
  obtain ⟨hZ,b,d,a⟩:=hZ.frzK hTT b d a
  obtain ⟨aL,av,h⟩:=aj h
  refine ao Z (sk  av (hZ.okT hTT a)) Z ?_
  rintro _ w ⟨ay,al,u,am,x,an,y,ap,z,aq,A,rfl,ag,ak⟩
  obtain ⟨aC,aA,hZ,b,d,a⟩:=hZ.m b d a ag ak rfl
  refine P 1 Z ?_
  refine H (M (aw (bV ?_)))
  refine aD ?_
  cases h
  obtain ⟨hS0,hR⟩:=hZ.outT hTT b d a
  exact aF Z Z (nk ⟨ay,al,u,am,x,an,y,ap,z,aq,A,Z,hS0,(Y (hR.b 10 Z) (Y (hR.b 9 Z) (Y (hR.b 8 Z) (Y (hR.b 7 Z) (Y (hR.b 6 Z) (Y (hR.b 5 Z) (Y (hR.b 4 Z) (Y (hR.b 3 Z) (Y (hR.b 2 Z) (Y (hR.b 1 Z) (Y (hR.b 0 Z) Q.nil)))))))))))⟩)
 have h:=aH h g
 refine az (aU ?_)
 refine M (I (af (P 1 Z ?_)))
 refine H (M (aw ?_))
 cases h
 obtain ⟨hS0,hR⟩:=hZ.outT hTT b d a
 exact aF Z Z (rX ⟨Z,hS0⟩)
theorem fU {d:World} {e:List UInt32} {c:Value} {f:Nat} (b:Bool) {r:List UInt32}
  (h:F.B0 b e=some r) (i:RP [] d U c e) (hBa0:RB [] d f [J b,c]):Calls Tryz.prog 61 #[N f 0] d (Ret fun v w=>St [] d w [K U v r]):=by
 refine aJ 6 Tryz.func61 Z Z Z ?_
 have a:=St.l d
 refine au [(0,N f 0)] ⟨Z,V⟩ ?_
 unfold F.B0 at h
 refine I (af (P 1 Z ?_))
 refine H (M (I (af (P 1 Z ?_))))
 obtain ⟨l,j,h⟩:=aj h
 refine ao Z (io b j (i.d a.fr).rp (hBa0.d a.fr)) Z ?_
 rintro m w g
 have a:=a.f g
 obtain ⟨n,k,h⟩:=aj h
 refine ao Z (cV  k (a.ro 0 Z).rp) Z ?_
 rintro o w g
 have a:=a.f g
 refine P 1 Z ?_
 refine H (M (aw ?_))
 cases h
 exact aF Z Z (a.e [0] Z Z)
theorem i9 {g:World} (a0:Int) {r:List UInt32×List UInt32×Bool}
  (h:F.Cr a0=some r) :Calls Tryz.prog 30 #[vI a0] g (Ret fun v w=>∃l m:Value,v=.agg #[l,m,J r.2.2]∧St [] g w [K U l r.1,K U m r.2.1]):=by
 refine aJ 20 Tryz.func30 Z Z Z ?_
 have a:=St.l g
 have hZ:=Fz.l (S:=[]) (w0:=g)
 have hTT:TOk [] [] g:=TOk.nil
 have d:Q [] g []:=Q.nil
 have j:O [] []:=O.emp
 refine au [(0,vI a0)] ⟨Z,V⟩ ?_
 unfold F.Cr at h
 refine I (af (aP (aT (cs:=[.slice none 0 0,.slice none 0 0,J false]) fu Z a) Z ?_))
 rintro _ w ⟨u,rfl,a⟩
 refine H (M (I (I (af (P 1 Z ?_)))))
 replace a:=a.pick (os':=[]++[W u [.slice none 0 0,.slice none 0 0,J false]]) [0] (by decide) rfl
 obtain ⟨hZ,d,j,a⟩:=hZ.frzK hTT d j a
 obtain ⟨L,y,h⟩:=aj h
 refine ao Z (gF a0 y (hZ.okT hTT a)) Z ?_
 rintro v_q w n
 cases f:L with
 | none=>
  have h:=ea h f
  rw [f]at n
  obtain ⟨rfl,e⟩:=dD n
  obtain ⟨aA,ap,hZ,d,j,a⟩:=hZ.m d j a e Q.nil rfl
  refine P 1 Z ?_
  refine H (M (I (af (P 1 Z ?_))))
  refine am (aq Z Z (lN u71)) Z (H (M (fF Z ?_)))
  refine az (M (I (af (am (bN (vs:=[]) (cells:=[.slice none 0 0,.slice none 0 0,J false]) Z dU V Z) Z (bb (a7 (i:=0) (us:=[.slice none 0 0,.slice none 0 0,J false]) Z bI Z Z Z ⟨Z,Z,Z,V⟩ Z a) ?_)))))
  intro w a
  refine H (M (aw ?_))
  cases h
  replace a:=hZ.st a
  exact eJ Z ⟨_,Z,bC (us:=[.slice none 0 0,.slice none 0 0,J false]) u33 Z bI (a.q 0 Z Z)⟩ ⟨.slice none 0 0,.slice none 0 0,Z,((a.nil U).nil U).e [1,0] Z Z⟩
 | some x=>
  have h:=d9 h f
  rw [f]at n
  obtain ⟨z,T,A,ab,B,ac,C,ad,D,ag,E,rfl,e,ak⟩:=dC n
  obtain ⟨an,o,hZ,d,j,a⟩:=hZ.m d j a e ak rfl
  refine P 1 Z ?_
  refine H (M (I (af (P 1 Z ?_))))
  refine am (aq Z Z (kf u71 z 0)) Z (H (M (d7 Z ?_)))
  refine I ?_
  refine dY (fun w'=>St an o w' [W u [.slice none 0 0,.slice none 0 0,J false]]) (fun i=>!([4,9,11].contains i)) bS (fun _ _ _ G=>G.2) (fun _ _ G=>G) (by kernel_rfl) ?_
  have a:=a.drew
  show lxE _ _ _ _ _ _ _ [0,1,2,3,4,5,6,7,8,9,10,11] _ _
  refine al a Z Z (fun w hF=>ar Z) Z (al a Z Z (fun w hF=>aK Z) Z (al a Z Z (fun w hF=>av (k:=3) u76 Z Z cx Z) Z (al a Z Z (fun w hF=>aC u73 Z Z ((d.rb 10 Z).cell hF.fr 3 Z)) Z ?_)))
  obtain ⟨ax,p,h⟩:=aj h
  refine bj a Z Z (by kernel_rfl) Z (fU x.2.2.2.2.2.2.1 p ((d.rp 6 Z).d a.fr).rp ((d.rb 7 Z).d a.fr)) Z ?_
  rintro b w e
  have a:=a.f e
  have q:=(a.ro 0 Z).one
  refine al (a.e [1] Z Z) Z Z (fun w hF=>ar Z) Z (al (a.e [1] Z Z) Z Z (fun w hF=>aK Z) Z (al (a.e [1] Z Z) Z Z (fun w hF=>av (k:=4) u76 Z Z cx Z) Z (al (a.e [1] Z Z) Z Z (fun w hF=>aC u73 Z Z ((d.rb 10 Z).cell hF.fr 4 Z)) Z ?_)))
  obtain ⟨ay,s,h⟩:=aj h
  refine bj (a.e [1] Z Z) Z Z (by kernel_rfl) Z (fU x.2.2.2.2.2.2.2.2.1 s ((d.rp 8 Z).d a.fr).rp ((d.rb 9 Z).d a.fr)) Z ?_
  rintro c w e
  have a:=a.f e
  have t:=(a.ro 0 Z).one
  refine al (a.e [2] Z Z) Z Z (fun w hF=>bN (vs:=[(0,b,[b]),(1,c,[c])]) (cells:=[b,c,J false]) Z dU ⟨(fC q),(fC t),V⟩ Z) Z ?_
  refine iS (a.e [2] Z Z) Z Z (a7 (i:=2) (us:=[b,c,J false]) Z bI Z Z Z ⟨(a.ro 1 Z).one,(a.ro 0 Z).one,Z,V⟩ Z a) ?_
  intro w a
  refine bn V ?_
  refine M (aw (aD ?_))
  cases h
  replace a:=hZ.st a
  exact eJ Z ⟨_,Z,bC (us:=[b,c,J false]) u33 Z bI (a.q 2 Z Z)⟩ ⟨b,c,Z,a.e [1,0] Z Z⟩
theorem f6 {e:World} (a0:Int) {r:List UInt32}
  (h:F.Cw a0=some r) :Calls Tryz.prog 21 #[vI a0] e (Ret fun v w=>St [] e w [K U v r]):=by
 refine aJ 13 Tryz.func21 Z Z Z ?_
 have a:=St.l e
 have hZ:=Fz.l (S:=[]) (w0:=e)
 have hTT:TOk [] [] e:=TOk.nil
 have b:Q [] e []:=Q.nil
 have f:O [] []:=O.emp
 refine au [(0,vI a0)] ⟨Z,V⟩ ?_
 unfold F.Cw at h
 refine I (af (P 1 Z ?_))
 refine H (M (I (I (af (P 1 Z ?_)))))
 replace a:=a.pick (os':=[]++[]) [] (by decide) rfl
 obtain ⟨hZ,b,f,a⟩:=hZ.frzK hTT b f a
 obtain ⟨s,i,h⟩:=aj h
 refine ao Z (gF a0 i (hZ.okT hTT a)) Z ?_
 rintro v_q w g
 cases c:s with
 | none=>
  have h:=ea h c
  rw [c]at g
  obtain ⟨rfl,d⟩:=dD g
  obtain ⟨G,C,hZ,b,f,a⟩:=hZ.m b f a d Q.nil rfl
  refine P 1 Z ?_
  refine H (M (I (af (P 1 Z ?_))))
  refine am (aq Z Z (lN u71)) Z (H (M (fF Z ?_)))
  refine az (M (I (af (P 1 Z ?_))))
  refine H (M (aw ?_))
  cases h
  replace a:=hZ.st a
  exact aF Z Z ((a.nil U).e [0] Z Z)
 | some t=>
  have h:=d9 h c
  rw [c]at g
  obtain ⟨j,u,l,x,m,y,n,z,o,A,p,rfl,d,B⟩:=dC g
  obtain ⟨L,D,hZ,b,f,a⟩:=hZ.m b f a d B rfl
  refine P 1 Z ?_
  refine H (M (I (af (P 1 Z ?_))))
  refine am (aq Z Z (kf u71 j 0)) Z (H (M (d7 Z ?_)))
  refine I (af (P 1 Z ?_))
  refine am (aK Z) Z (am (av (k:=2) u76 Z Z cx Z) Z (am (aC u73 Z Z ((b.rb 10 Z).cell a.fr 2 Z)) Z ?_))
  obtain ⟨T,q,h⟩:=aj h
  refine ao Z (fU t.2.2.2.2.1 q ((b.rp 4 Z).d a.fr).rp ((b.rb 5 Z).d a.fr)) Z ?_
  rintro E w d
  have a:=a.f d
  refine P 1 Z ?_
  refine H (M (aw (aD ?_)))
  cases h
  replace a:=hZ.st a
  exact aF Z Z (a.e [0] Z Z)
theorem fc {c:World} (a0:Int) {r:Int}
  (h:F.Cd a0=some r) :Calls Tryz.prog 20 #[vI a0] c (Ret fun v w=>v=vI r∧St [] c w []):=by
 refine aJ 12 Tryz.func20 Z Z Z ?_
 have a:=St.l c
 have hZ:=Fz.l (S:=[]) (w0:=c)
 have hTT:TOk [] [] c:=TOk.nil
 have d:Q [] c []:=Q.nil
 have e:O [] []:=O.emp
 refine au [(0,vI a0)] ⟨Z,V⟩ ?_
 unfold F.Cd at h
 refine I (af (P 1 Z ?_))
 refine H (M (I (I (af (P 1 Z ?_)))))
 replace a:=a.pick (os':=[]++[]) [] (by decide) rfl
 obtain ⟨hZ,d,e,a⟩:=hZ.frzK hTT d e a
 obtain ⟨q,i,h⟩:=aj h
 refine ao Z (gF a0 i (hZ.okT hTT a)) Z ?_
 rintro v_q w g
 cases b:q with
 | none=>
  have h:=ea h b
  rw [b]at g
  obtain ⟨rfl,f⟩:=dD g
  obtain ⟨C,A,hZ,d,e,a⟩:=hZ.m d e a f Q.nil rfl
  refine P 1 Z ?_
  refine H (M (I (af (P 1 Z ?_))))
  refine am (aq Z Z (lN u71)) Z (H (M (fF Z ?_)))
  refine az (M (I (af (P 1 Z ?_))))
  refine H (M (aw ?_))
  cases h
  replace a:=hZ.st a
  exact aF Z Z ⟨Z,a⟩
 | some D=>
  have h:=d9 h b
  rw [b]at g
  obtain ⟨j,s,l,t,m,u,n,x,o,y,p,rfl,f,z⟩:=dC g
  obtain ⟨E,B,hZ,d,e,a⟩:=hZ.m d e a f z rfl
  refine P 1 Z ?_
  refine H (M (I (af (P 1 Z ?_))))
  refine am (aq Z Z (kf u71 j 0)) Z (H (M (d7 Z ?_)))
  refine I (af (P 1 Z ?_))
  refine am (aK Z) Z (am (av (k:=5) u76 Z Z nz3 Z) Z (am (aC Tryz.underlying3 Z Z ((d.rb 10 Z).cell a.fr 5 Z)) Z (P 1 Z ?_)))
  refine H (M (aw (aD ?_)))
  cases h
  replace a:=hZ.st a
  exact aF Z Z ⟨Z,a⟩
theorem kP {e:World} {a0:List UInt32} {b:Value} {r:Bool×List UInt32}
  (h:F.Dz a0=some r) (k:RP [] e U b a0):Calls Tryz.prog 133 #[b] e (Ret fun v w=>∃c:Value,∃un0:Nat,v=N un0 0∧St [] e w [W un0 [J r.1,c],K U c r.2]):=by
 refine aJ 7 Tryz.func133 Z Z Z ?_
 have a:=St.l e
 refine au [(0,b)] ⟨Z,V⟩ ?_
 unfold F.Dz at h
 refine I (af (P 1 Z ?_))
 refine H (M (I (af (aP (aT (cs:=[J false,.slice none 0 0]) c6 Z a) Z ?_))))
 rintro _ w ⟨f,rfl,a⟩
 refine P 1 Z ?_
 obtain ⟨l,g,h⟩:=aj h
 refine ao Z (sR  g (k.d a.fr).rp) Z ?_
 rintro m w d
 have a:=a.f d
 replace a:=a.nil U
 have i:=a.pick (os':=[W f [J false,.slice none 0 0],K U (.slice none 0 0) []]++[K e8 m l]) [2,0,1] (by decide) Z
 obtain ⟨o,j,h⟩:=aj h
 refine ao Z (eO false j i.g (i.giveO 0 Z)) Z ?_
 rintro _ w ⟨n,rfl,d⟩
 have a:=i.h d
 refine P 1 Z ?_
 refine H (M (aw ?_))
 cases h
 exact aF Z Z ⟨n,f,Z,a.e [0,1] Z Z⟩
theorem ek {m:World}  {r:Bool×List UInt32×Bool×List UInt32×Bool×List UInt32}
  (h:F.BY =some r) :Calls Tryz.prog 86 #[] m (Ret fun v w=>∃e f g:Value,∃j k l:Nat,v=.agg #[N j 0,N k 0,N l 0]∧St [] m w [W j [J r.1,e],K U e r.2.1,W k [J r.2.2.1,f],K U f r.2.2.2.1,W l [J r.2.2.2.2.1,g],K U g r.2.2.2.2.2]):=by
 refine aJ 5 Tryz.func86 Z Z Z ?_
 have a:=St.l m
 refine au [] V ?_
 unfold F.BY at h
 refine I (af (aP (aT (cs:=[.pointer none,.pointer none,.pointer none]) dK Z a) Z ?_))
 rintro _ w ⟨n,rfl,a⟩
 refine H (M (I (af (aP (aT (cs:=[J false,.slice none 0 0]) c6 Z a) Z ?_))))
 rintro _ w ⟨b,rfl,a⟩
 refine aP (aT (cs:=[J false,.slice none 0 0]) c6 Z a) Z ?_
 rintro _ w ⟨c,rfl,a⟩
 refine aP (aT (cs:=[J false,.slice none 0 0]) c6 Z a) Z ?_
 rintro _ w ⟨d,rfl,a⟩
 refine am (bN (vs:=[(0,N b 0,[N b 0]),(1,N c 0,[N c 0]),(2,N d 0,[N d 0])]) (cells:=[N b 0,N c 0,N d 0]) Z mp ⟨Z,Z,Z,V⟩ Z) Z ?_
 refine bb (a7 (i:=3) (us:=[N b 0,N c 0,N d 0]) Z bB Z Z Z ⟨Z,Z,Z,V⟩ Z a) ?_
 intro w a
 refine H (M (aw ?_))
 cases h
 exact eJ Z ⟨_,Z,bC (us:=[N b 0,N c 0,N d 0]) u91 Z bB (a.q 3 Z Z)⟩ ⟨.slice none 0 0,.slice none 0 0,.slice none 0 0,b,c,d,Z,(((a.nil U).nil U).nil U).e [5,2,4,1,3,0] Z Z⟩
theorem eN {a:World} {m n o p q y:List UInt32} {d e f g i b:Value} {G z A B C D j:Nat} {S:List Nat} (c s t u x:Bool) (L:Int) (l:Bool) {r:Bool×List UInt32}
  (h:F.Ck c m s n t o u p x q L l y=some r) (hS:St S a a [W j [J l,b],K U b y]) (E:RP S a U d m) (T:RB S a z [J c,d]) (ak:RP S a U e n) (aq:RB S a A [J s,e]) (al:RP S a U f o) (ar:RB S a B [J t,f]) (an:RP S a U g p) (ax:RB S a C [J u,g]) (ap:RP S a U i q) (ay:RB S a D [J x,i]) (hBa0:RB S a G [N z 0,N A 0,N B 0,N C 0,N D 0,vI L,.func (.func 168) #[] #[]]):Calls Tryz.prog 139 #[N G 0,N j 0] a (Ret fun v w=>∃ab:Value,v=N j 0∧St S a w [W j [J r.1,ab],K U ab r.2]):=by
 refine aJ 12 Tryz.func139 Z Z Z ?_
 refine au [(0,N G 0),(1,N j 0)] ⟨Z,Z,V⟩ ?_
 unfold F.Ck at h
 refine I (af (P 1 Z ?_))
 refine H (M (I (af (P 3 Z ?_))))
 refine am (aK Z) Z (am (av (k:=0) u76 Z Z cx Z) Z (am (aC u73 Z Z (hBa0.cell hS.fr 0 Z)) Z ?_))
 have hG:=hS.pick (os':=[W j [J l,b],K U b y]++[]) [0,1] (by decide) Z
 obtain ⟨aB,ag,h⟩:=aj h
 refine ao Z (gr l c ag hG.g (E.g (R Z) hG) (T.g hG)) Z ?_
 rintro _ w ⟨az,rfl,aA⟩
 have hS:=hG.h aA
 refine P 1 Z ?_
 refine H (M (aw ?_))
 cases h
 exact aF Z Z ⟨az,Z,hS.e [0,1] Z Z⟩
theorem a8 {b:World} {o p q s t ad ag:List UInt32} {i j k l m z A:Value} {ak B C D E G al am:Nat} (c d e f g:Bool) (u:Int) (x y:Bool) {r:Bool×List UInt32}
  (h:F.BK c o d p e q f s g t u x ad y ag=some r) (L:RP [] b U i o) (an:RB [] b B [J c,i]) (S:RP [] b U j p) (ap:RB [] b C [J d,j]) (T:RP [] b U k q) (aq:RB [] b D [J e,k]) (ab:RP [] b U l s) (ar:RB [] b E [J f,l]) (ac:RP [] b U m t) (av:RB [] b G [J g,m]) (hBa0:RB [] b ak [N B 0,N C 0,N D 0,N E 0,N G 0,vI u,.func (.func 168) #[] #[]]) (aB:RP [] b U z ad) (hBa1:RB [] b al [J x,z]) (aC:RP [] b U A ag) (hBa2:RB [] b am [J y,A]):Calls Tryz.prog 135 #[N ak 0,N al 0,N am 0] b (Ret fun v w=>∃ax:Value,∃un0:Nat,v=N un0 0∧St [] b w [W un0 [J r.1,ax],K U ax r.2]):=by
 refine aJ 13 Tryz.func135 Z Z Z ?_
 have n:=St.l b
 refine au [(0,N ak 0),(1,N al 0),(2,N am 0)] ⟨Z,Z,Z,V⟩ ?_
 unfold F.BK at h
 refine I (af (P 1 Z ?_))
 refine H (M (I (af (P 1 Z ?_))))
 refine aP (aT (cs:=[J false,.slice none 0 0]) c6 Z n) Z ?_
 rintro _ w ⟨ay,rfl,n⟩
 refine P 2 Z ?_
 replace n:=n.nil U
 have a:=n.pick (os':=[W ay [J false,.slice none 0 0],K U (.slice none 0 0) []]++[]) [1,0] (by decide) Z
 obtain ⟨az,aE,h⟩:=aj h
 refine ao Z (f8 false x y aE a.g (aB.g (R Z) a) (hBa1.g a) (aC.g (R Z) a) (hBa2.g a)) Z ?_
 rintro _ w ⟨aD,rfl,aA⟩
 have n:=a.h aA
 have a:=n.pick (os':=[W ay [J az.1,aD],K U aD az.2]++[]) [0,1] (by decide) Z
 obtain ⟨aI,aG,h⟩:=aj h
 refine ao Z (eN c d e f g u az.1 aG a.g (L.g (R Z) a) (an.g a) (S.g (R Z) a) (ap.g a) (T.g (R Z) a) (aq.g a) (ab.g (R Z) a) (ar.g a) (ac.g (R Z) a) (av.g a) (hBa0.g a)) Z ?_
 rintro _ w ⟨aH,rfl,aA⟩
 have n:=a.h aA
 refine P 1 Z ?_
 refine H (M (aw ?_))
 cases h
 exact aF Z Z ⟨aH,ay,Z,n.e [0,1] Z Z⟩
theorem cU {b:World} {n o p q s T:List UInt32} {i j k l m x:Value} {ab y z A B C ac:Nat} (c d e f g:Bool) (t a1:Int) (u:Bool) {r:Bool×List UInt32}
  (h:F.B3 c n d o e p f q g s t a1 u T=some r) (D:RP [] b U i n) (ad:RB [] b y [J c,i]) (E:RP [] b U j o) (ag:RB [] b z [J d,j]) (G:RP [] b U k p) (ak:RB [] b A [J e,k]) (L:RP [] b U l q) (al:RB [] b B [J f,l]) (S:RP [] b U m s) (am:RB [] b C [J g,m]) (hBa0:RB [] b ab [N y 0,N z 0,N A 0,N B 0,N C 0,vI t,.func (.func 168) #[] #[]]) (aq:RP [] b U x T) (hBa2:RB [] b ac [J u,x]):Calls Tryz.prog 138 #[N ab 0,vI a1,N ac 0] b (Ret fun v w=>∃an:Value,∃un0:Nat,v=N un0 0∧St [] b w [W un0 [J r.1,an],K U an r.2]):=by
 refine aJ 12 Tryz.func138 Z Z Z ?_
 have a:=St.l b
 refine au [(0,N ab 0),(1,vI a1),(2,N ac 0)] ⟨Z,Z,Z,V⟩ ?_
 unfold F.B3 at h
 refine I (af (P 1 Z ?_))
 refine H (M (I (af (P 2 Z ?_))))
 obtain ⟨ax,ar,h⟩:=aj h
 refine ao Z (cD a1 ar ) Z ?_
 rintro _ w ⟨aA,aB,rfl,ap⟩
 have a:=a.f ap
 refine P 1 Z ?_
 obtain ⟨aC,av,h⟩:=aj h
 refine ao Z (a8 c d e f g t ax.1 u av (D.d a.fr).rp (ad.d a.fr) (E.d a.fr).rp (ag.d a.fr) (G.d a.fr).rp (ak.d a.fr) (L.d a.fr).rp (al.d a.fr) (S.d a.fr).rp (am.d a.fr) (hBa0.d a.fr) (a.ro 1 Z).rp (a.rb 0 Z) (aq.d a.fr).rp (hBa2.d a.fr)) Z ?_
 rintro _ w ⟨ay,az,rfl,ap⟩
 have a:=a.f ap
 refine P 1 Z ?_
 refine H (M (aw ?_))
 cases h
 exact aF Z Z ⟨ay,az,Z,a.e [0,1] Z Z⟩
theorem cj {b:World} {o p q s t ad ag:List UInt32} {i j k l m z A:Value} {ak B C D E G al am:Nat} (c d e f g:Bool) (u:Int) (x y:Bool) {r:Bool×List UInt32}
  (h:F.BS c o d p e q f s g t u x ad y ag=some r) (L:RP [] b U i o) (an:RB [] b B [J c,i]) (S:RP [] b U j p) (ap:RB [] b C [J d,j]) (T:RP [] b U k q) (aq:RB [] b D [J e,k]) (ab:RP [] b U l s) (ar:RB [] b E [J f,l]) (ac:RP [] b U m t) (av:RB [] b G [J g,m]) (hBa0:RB [] b ak [N B 0,N C 0,N D 0,N E 0,N G 0,vI u,.func (.func 168) #[] #[]]) (aB:RP [] b U z ad) (hBa1:RB [] b al [J x,z]) (aC:RP [] b U A ag) (hBa2:RB [] b am [J y,A]):Calls Tryz.prog 137 #[N ak 0,N al 0,N am 0] b (Ret fun v w=>∃ax:Value,∃un0:Nat,v=N un0 0∧St [] b w [W un0 [J r.1,ax],K U ax r.2]):=by
 refine aJ 13 Tryz.func137 Z Z Z ?_
 have n:=St.l b
 refine au [(0,N ak 0),(1,N al 0),(2,N am 0)] ⟨Z,Z,Z,V⟩ ?_
 unfold F.BS at h
 refine I (af (P 1 Z ?_))
 refine H (M (I (af (P 1 Z ?_))))
 refine aP (aT (cs:=[J false,.slice none 0 0]) c6 Z n) Z ?_
 rintro _ w ⟨ay,rfl,n⟩
 refine P 2 Z ?_
 replace n:=n.nil U
 have a:=n.pick (os':=[W ay [J false,.slice none 0 0],K U (.slice none 0 0) []]++[]) [1,0] (by decide) Z
 obtain ⟨az,aE,h⟩:=aj h
 refine ao Z (js false x y aE a.g (aB.g (R Z) a) (hBa1.g a) (aC.g (R Z) a) (hBa2.g a)) Z ?_
 rintro _ w ⟨aD,rfl,aA⟩
 have n:=a.h aA
 have a:=n.pick (os':=[W ay [J az.1,aD],K U aD az.2]++[]) [0,1] (by decide) Z
 obtain ⟨aI,aG,h⟩:=aj h
 refine ao Z (eN c d e f g u az.1 aG a.g (L.g (R Z) a) (an.g a) (S.g (R Z) a) (ap.g a) (T.g (R Z) a) (aq.g a) (ab.g (R Z) a) (ar.g a) (ac.g (R Z) a) (av.g a) (hBa0.g a)) Z ?_
 rintro _ w ⟨aH,rfl,aA⟩
 have n:=a.h aA
 refine P 1 Z ?_
 refine H (M (aw ?_))
 cases h
 exact aF Z Z ⟨aH,ay,Z,n.e [0,1] Z Z⟩
theorem jc {x:World} {ak al an ap aq aP aQ:List UInt32} {L S T ab ac aA aB:Value} {aR aD aE aI aL aM aS aT:Nat} (b d g i j:Bool) (z:Int) (A E:Bool) {r:Bool}
  (h:F.DT b ak d al g an i ap j aq z A aP E aQ=some r) (c:RP [] x U L ak) (l:RB [] x aD [J b,L]) (f:RP [] x U S al) (p:RB [] x aE [J d,S]) (m:RP [] x U T an) (q:RB [] x aI [J g,T]) (n:RP [] x U ab ap) (s:RB [] x aL [J i,ab]) (o:RP [] x U ac aq) (u:RB [] x aM [J j,ac]) (hBa0:RB [] x aR [N aD 0,N aE 0,N aI 0,N aL 0,N aM 0,vI z,.func (.func 168) #[] #[]]) (B:RP [] x U aA aP) (hBa1:RB [] x aS [J A,aA]) (ad:RP [] x U aB aQ) (hBa2:RB [] x aT [J E,aB]):Calls Tryz.prog 76 #[N aR 0,N aS 0,N aT 0] x (Ret fun v w=>v=J r∧St [] x w []):=by
 refine aJ 55 Tryz.func76 Z Z Z ?_
 have a:=St.l x
 refine au [(0,N aR 0),(1,N aS 0),(2,N aT 0)] ⟨Z,Z,Z,V⟩ ?_
 unfold F.DT at h
 refine I (af (P 1 Z ?_))
 refine H (M (I (af (P 5 Z ?_))))
 obtain ⟨ar,a9,h⟩:=aj h
 refine ao Z (a8 b d g i j z A A a9 (c.d a.fr).rp (l.d a.fr) (f.d a.fr).rp (p.d a.fr) (m.d a.fr).rp (q.d a.fr) (n.d a.fr).rp (s.d a.fr) (o.d a.fr).rp (u.d a.fr) (hBa0.d a.fr) (B.d a.fr).rp (hBa1.d a.fr) (B.d a.fr).rp (hBa1.d a.fr)) Z ?_
 rintro _ w ⟨aN,a6,rfl,e⟩
 have a:=a.f e
 obtain ⟨ax,ba,h⟩:=aj h
 refine ao Z (a8 b d g i j z A ar.1 ba (c.d a.fr).rp (l.d a.fr) (f.d a.fr).rp (p.d a.fr) (m.d a.fr).rp (q.d a.fr) (n.d a.fr).rp (s.d a.fr) (o.d a.fr).rp (u.d a.fr) (hBa0.d a.fr) (B.d a.fr).rp (hBa1.d a.fr) (a.ro 1 Z).rp (a.rb 0 Z)) Z ?_
 rintro _ w ⟨aO,a7,rfl,e⟩
 have a:=a.f e
 refine P 1 Z ?_
 refine H (M (I (af (P 4 Z ?_))))
 obtain ⟨G,aY,h⟩:=aj h
 refine ao Z (cU b d g i j z 3 A aY (c.d a.fr).rp (l.d a.fr) (f.d a.fr).rp (p.d a.fr) (m.d a.fr).rp (q.d a.fr) (n.d a.fr).rp (s.d a.fr) (o.d a.fr).rp (u.d a.fr) (hBa0.d a.fr) (B.d a.fr).rp (hBa1.d a.fr)) Z ?_
 rintro _ w ⟨ag,aU,rfl,e⟩
 have a:=a.f e
 obtain ⟨ay,aZ,h⟩:=aj h
 refine ao Z (cj b d g i j z ax.1 G.1 aZ (c.d a.fr).rp (l.d a.fr) (f.d a.fr).rp (p.d a.fr) (m.d a.fr).rp (q.d a.fr) (n.d a.fr).rp (s.d a.fr) (o.d a.fr).rp (u.d a.fr) (hBa0.d a.fr) (a.ro 3 Z).rp (a.rb 2 Z) (a.ro 1 Z).rp (a.rb 0 Z)) Z ?_
 rintro _ w ⟨aV,aW,rfl,e⟩
 have a:=a.f e
 refine P 1 Z ?_
 refine H (M (I (af (P 4 Z ?_))))
 refine am (aK Z) Z (am (av (k:=1) u76 Z Z cx Z) Z (am (aC u73 Z Z (hBa0.cell a.fr 1 Z)) Z ?_))
 have y:=a.pick (os':=[W aW [J ay.1,aV],K U aV ay.2]++[W aU [J G.1,ag],K U ag G.2,W a7 [J ax.1,aO],K U aO ax.2,W a6 [J ar.1,aN],K U aN ar.2]) [0,1,2,3,4,5,6,7] (by decide) Z
 obtain ⟨az,a0,h⟩:=aj h
 refine ao Z (du ay.1 d a0 y.g (f.g (R Z) y) (p.g y)) Z ?_
 rintro _ w ⟨aX,rfl,e⟩
 have a:=y.h e
 have y:=a.pick (os':=[W aW [J az.1,aX],K U aX az.2]++[W aU [J G.1,ag],K U ag G.2,W a7 [J ax.1,aO],K U aO ax.2,W a6 [J ar.1,aN],K U aN ar.2]) [0,1,2,3,4,5,6,7] (by decide) Z
 obtain ⟨bb,a1,h⟩:=aj h
 refine ao Z (eN b d g i j z az.1 a1 y.g (c.g (R Z) y) (l.g y) (f.g (R Z) y) (p.g y) (m.g (R Z) y) (q.g y) (n.g (R Z) y) (s.g y) (o.g (R Z) y) (u.g y) (hBa0.g y)) Z ?_
 rintro _ w ⟨bg,rfl,e⟩
 have a:=y.h e
 refine P 1 Z ?_
 refine H (M (I (af (P 2 Z ?_))))
 refine am (aK Z) Z (am (av (k:=0) u76 Z Z cx Z) Z (am (aC u73 Z Z (hBa0.cell a.fr 0 Z)) Z ?_))
 obtain ⟨bc,a2,h⟩:=aj h
 refine ao Z (ff A b a2 (B.d a.fr).rp (hBa1.d a.fr) (c.d a.fr).rp (l.d a.fr)) Z ?_
 rintro _ w ⟨rfl,e⟩
 have a:=a.f e
 refine P 2 Z ?_
 cases C:(decide (bc<0))
 case true=>
  have h:=aG h C
  try simp only [C]
  refine P 2 Z ?_
  refine bf (t:=37) Z Z (aK Z) Z (bf (t:=37) Z Z (av (k:=0) u76 Z Z cx Z) Z (bf (t:=37) Z Z (aC u73 Z Z (hBa0.cell a.fr 0 Z)) Z ?_))
  obtain ⟨bd,a3,h⟩:=aj h
  refine cn (t:=37) Z Z (by kernel_rfl) Z (ff E b a3 (ad.d a.fr).rp (hBa2.d a.fr) (c.d a.fr).rp (l.d a.fr)) Z ?_
  rintro _ w ⟨rfl,e⟩
  have a:=a.f e
  refine P 3 Z ?_
  cases D:(decide (bd<0))
  case true=>
   have h:=aG h D
   try simp only [D]
   refine P 3 Z ?_
   obtain ⟨be,a4,h⟩:=aj h
   refine cn (t:=46) Z Z (by kernel_rfl) Z (a8 b d g i j z E E a4 (c.d a.fr).rp (l.d a.fr) (f.d a.fr).rp (p.d a.fr) (m.d a.fr).rp (q.d a.fr) (n.d a.fr).rp (s.d a.fr) (o.d a.fr).rp (u.d a.fr) (hBa0.d a.fr) (ad.d a.fr).rp (hBa2.d a.fr) (ad.d a.fr).rp (hBa2.d a.fr)) Z ?_
   rintro _ w ⟨bh,bi,rfl,e⟩
   have a:=a.f e
   refine P 1 Z ?_
   obtain ⟨bj,a5,h⟩:=aj h
   refine cn (t:=46) Z Z (by kernel_rfl) Z (ff be.1 bb.1 a5 (a.ro 1 Z).rp (a.rb 0 Z) (a.ro 3 Z).rp (a.rb 2 Z)) Z ?_
   rintro _ w ⟨rfl,e⟩
   have a:=a.f e
   refine P 3 Z ?_
   refine H (M (aw ?_))
   cases h
   exact aF Z Z ⟨Z,a.e [] Z Z⟩
  case false=>
   have h:=aH h D
   try simp only [D]
   refine P 9 Z ?_
   refine H (M (aw ?_))
   cases h
   exact aF Z Z ⟨Z,a.e [] Z Z⟩
 case false=>
  have h:=aH h C
  try simp only [C]
  refine P 18 Z ?_
  refine H (M (aw ?_))
  cases h
  exact aF Z Z ⟨Z,a.e [] Z Z⟩
theorem lQ {b:World} {ac ad ag ak an aI aK:List UInt32} {d e f g j l m:Value} {aL C D E G L:Nat} {T:List Nat} (o p q s u:Bool) (ar:Int) (ap:Bool) {r:Bool×List UInt32×Bool×List UInt32×Bool×List UInt32×Bool}
  (h:F.EV o ac p ad q ag s ak u an ar aI aK ap=some r) (hTT:TOk [] T b) (aM:RP T b U d ac) (aS:RB T b C [J o,d]) (aN:RP T b U e ad) (aU:RB T b D [J p,e]) (aO:RP T b U f ag) (aV:RB T b E [J q,f]) (aQ:RP T b U g ak) (aW:RB T b G [J s,g]) (aR:RP T b U j an) (aX:RB T b L [J u,j]) (hBa0:RB T b aL [N C 0,N D 0,N E 0,N G 0,N L 0,vI ar,.func (.func 168) #[] #[]]) (a6:RP T b U l aI) (a8:RP T b U m aK):Calls Tryz.prog 132 #[N aL 0,.agg #[l,m,J ap]] b (Ret fun v w=>∃aY:Nat,∃aA:Value,∃a0:Nat,∃aE:Value,∃a1:Nat,∃aF:Value,v=.tuple #[.agg #[N aY 0,N a0 0,N a1 0],J r.2.2.2.2.2.2]∧St [] b w []∧Q T w [W a1 [J r.2.2.2.2.1,aF],red U aF r.2.2.2.2.2.1,W a0 [J r.2.2.1,aE],red U aE r.2.2.2.1,W aY [J r.1,aA],red U aA r.2.1]):=by
 refine aJ 33 Tryz.func132 Z Z Z ?_
 have a:=St.l b
 have hZ:=Fz.l (S:=[]) (w0:=b)
 have hA0:Q T b [red U m aK,red U l aI,W aL [N C 0,N D 0,N E 0,N G 0,N L 0,vI ar,.func (.func 168) #[] #[]],W L [J u,j],red U j an,W G [J s,g],red U g ak,W E [J q,f],red U f ag,W D [J p,e],red U e ad,W C [J o,d],red U d ac]:=Y (RP.i (R Z) a8) (Y (RP.i (R Z) a6) (Y hBa0.i (Y aX.i (Y (RP.i (R Z) aR) (Y aW.i (Y (RP.i (R Z) aQ) (Y aV.i (Y (RP.i (R Z) aO) (Y aU.i (Y (RP.i (R Z) aN) (Y aS.i (Y (RP.i (R Z) aM) (Q.nil)))))))))))))
 have n:=hA0.all
 have hP:=hA0.off Z
 refine au [(0,N aL 0),(1,.agg #[l,m,J ap])] ⟨Z,Z,V⟩ ?_
 unfold F.EV at h
 refine I (af (aP (cZ (cs:=[l,m,J ap]) Z Z a) Z ?_))
 rintro _ w ⟨bp,rfl,a⟩
 refine aP (aT (cs:=[.pointer none,.pointer none,.pointer none]) dK Z a) Z ?_
 rintro _ w ⟨bq,rfl,a⟩
 refine P 1 Z ?_
 refine H (M (I ?_))
 refine aZ (fun w'=>St [] b w' [W bq [.pointer none,.pointer none,.pointer none],W bp [l,m,J ap]]) (fun i=>!([2,5].contains i)) bS (fun _ _ _ hf=>hf.2) (fun _ _ hf=>hf) (by kernel_rfl) ?_
 have a:=a.drew
 show lxE _ _ _ _ _ _ _ [0,1,2,3,4,5,6,7] _ _
 refine al a Z Z (fun w hF=>av (k:=0) u33 Z Z kw Z) Z (al a Z Z (fun w hF=>aC u31 Z Z (hF.r 1 Z 0)) Z ?_)
 obtain ⟨bg,bk,h⟩:=aj h
 refine bj a Z Z (by kernel_rfl) Z (kP  bk ((n.rp 11 Z).d a.fr).rp) Z ?_
 rintro _ w ⟨br,aq,rfl,c⟩
 have a:=a.f c
 refine al (a.e [2,3] Z Z) Z Z (fun w hF=>av (k:=1) u33 Z Z kw Z) Z (al (a.e [2,3] Z Z) Z Z (fun w hF=>aC u31 Z Z (hF.r 1 Z 1)) Z ?_)
 obtain ⟨a2,a9,h⟩:=aj h
 refine bj (a.e [2,3] Z Z) Z Z (by kernel_rfl) Z (kP  a9 ((n.rp 12 Z).d a.fr).rp) Z ?_
 rintro _ w ⟨bl,x,rfl,c⟩
 have a:=a.f c
 refine al (a.e [4,5] Z Z) Z Z (fun w hF=>aB Z) Z (al (a.e [4,5] Z Z) Z Z (fun w hF=>aB Z) Z (bn (a.e [4,5] Z Z) ?_))
 refine M (I (I (af (am (av (k:=2) u33 Z Z nz4 Z) Z (am (aC Tryz.underlying4 Z Z (a.r 5 Z 2)) Z (H (M ?_)))))))
 refine ax Z (fun ay=>?_) (fun ay=>?_)
 ·have h:=aG h ay
  refine I (af ?_)
  obtain ⟨bs,ba,h⟩:=aj h
  refine ao Z (ek  ba ) Z ?_
  rintro _ w ⟨a3,a4,a5,y,z,A,rfl,c⟩
  have a:=a.f c
  refine P 1 Z ?_
  obtain ⟨bm,bc,h⟩:=aj h
  refine ao Z (cC bg.1 bc (a.ro 9 Z).rp (a.rb 8 Z)) Z ?_
  rintro _ w ⟨rfl,c⟩
  have a:=a.f c
  refine P 2 Z ?_
  cases ab:(bm == 0)
  case true=>
   have h:=aG h ab
   try simp only [ab]
   refine P 1 Z ?_
   obtain ⟨bt,bd,h⟩:=aj h
   refine cn (t:=20) Z Z (by kernel_rfl) Z (cC a2.1 bd (a.ro 7 Z).rp (a.rb 6 Z)) Z ?_
   rintro _ w ⟨rfl,c⟩
   have a:=a.f c
   refine P 2 Z ?_
   refine bb (a7 (i:=10) (us:=[N y 0,N z 0,N A 0]) Z bB Z Z Z ⟨Z,Z,Z,V⟩ Z a) ?_
   intro w a
   refine P 1 Z ?_
   refine H (M (aw (aD ?_)))
   cases h
   obtain ⟨hS0,hR⟩:=hZ.outT hTT n hP a
   exact dk Z ⟨_,Z,bC (us:=[N y 0,N z 0,N A 0]) u91 Z bB (a.q 10 Z Z)⟩ Z ⟨y,a3,z,a4,A,a5,Z,hS0,(Y (hR.b 20 Z) (Y (hR.b 19 Z) (Y (hR.b 22 Z) (Y (hR.b 21 Z) (Y (hR.b 24 Z) (Y (hR.b 23 Z) Q.nil))))))⟩
  case false=>
   have h:=aH h ab
   try simp only [ab]
   refine P 4 Z ?_
   refine bb (a7 (i:=10) (us:=[N y 0,N z 0,N A 0]) Z bB Z Z Z ⟨Z,Z,Z,V⟩ Z a) ?_
   intro w a
   refine P 1 Z ?_
   refine H (M (aw (aD ?_)))
   cases h
   obtain ⟨hS0,hR⟩:=hZ.outT hTT n hP a
   exact dk Z ⟨_,Z,bC (us:=[N y 0,N z 0,N A 0]) u91 Z bB (a.q 10 Z Z)⟩ Z ⟨y,a3,z,a4,A,a5,Z,hS0,(Y (hR.b 20 Z) (Y (hR.b 19 Z) (Y (hR.b 22 Z) (Y (hR.b 21 Z) (Y (hR.b 24 Z) (Y (hR.b 23 Z) Q.nil))))))⟩
 have h:=aH h ay
 refine az (M (I (af (P 2 Z ?_))))
 obtain ⟨bu,be,h⟩:=aj h
 refine ao Z (cD 1 be ) Z ?_
 rintro _ w ⟨bo,B,rfl,c⟩
 have a:=a.f c
 refine am (bN (vs:=[(0,N aq 0,[N aq 0]),(1,N x 0,[N x 0]),(2,N B 0,[N B 0])]) (cells:=[N aq 0,N x 0,N B 0]) Z mp ⟨Z,Z,Z,V⟩ Z) Z ?_
 refine P 3 Z ?_
 obtain ⟨bv,bf,h⟩:=aj h
 refine ao Z (jc o p q s u ar bg.1 a2.1 bf ((n.rp 0 Z).d a.fr).rp ((n.rb 1 Z).d a.fr) ((n.rp 2 Z).d a.fr).rp ((n.rb 3 Z).d a.fr) ((n.rp 4 Z).d a.fr).rp ((n.rb 5 Z).d a.fr) ((n.rp 6 Z).d a.fr).rp ((n.rb 7 Z).d a.fr) ((n.rp 8 Z).d a.fr).rp ((n.rb 9 Z).d a.fr) ((n.rb 10 Z).d a.fr) (a.ro 5 Z).rp (a.rb 4 Z) (a.ro 3 Z).rp (a.rb 2 Z)) Z ?_
 rintro _ w ⟨rfl,c⟩
 have a:=a.f c
 refine bb (a7 (i:=6) (us:=[N aq 0,N x 0,N B 0]) Z bB Z Z Z ⟨Z,Z,Z,V⟩ Z a) ?_
 intro w a
 refine P 1 Z ?_
 refine H (M (aw ?_))
 cases h
 obtain ⟨hS0,hR⟩:=hZ.outT hTT n hP a
 exact dk Z ⟨_,Z,bC (us:=[N aq 0,N x 0,N B 0]) u91 Z bB (a.q 6 Z Z)⟩ Z ⟨aq,br,x,bl,B,bo,Z,hS0,(Y (hR.b 20 Z) (Y (hR.b 19 Z) (Y (hR.b 18 Z) (Y (hR.b 17 Z) (Y (hR.b 16 Z) (Y (hR.b 15 Z) Q.nil))))))⟩
theorem en {m:World} {E G:List UInt32} {e f:Value} {T:List Nat} (a0:Int) (l:Bool) {r:Option (Bool×List UInt32×Bool×List UInt32×Bool×List UInt32×Bool×List UInt32×Bool×List UInt32×Int×Bool×List UInt32×Bool×List UInt32×Bool×List UInt32)×Bool}
  (h:F.B5 a0 E G l=some r) (hTT:TOk [] T m) (aN:RP T m U e E) (aO:RP T m U f G):Calls Tryz.prog 71 #[vI a0,.agg #[e,f,J l]] m (Ret fun v w=>kk r.1 (v=.tuple #[.pointer none,.agg #[.pointer none,.pointer none,.pointer none],J r.2]∧St [] m w []) (fun c=>∃b0:Nat,∃ak:Nat,∃p:Value,∃an:Nat,∃q:Value,∃ap:Nat,∃s:Value,∃av:Nat,∃t:Value,∃ax:Nat,∃u:Value,∃ay:Nat,∃x:Value,∃aA:Nat,∃y:Value,∃aC:Nat,∃z:Value,v=.tuple #[N b0 0,.agg #[N ay 0,N aA 0,N aC 0],J r.2]∧St [] m w []∧Q T w [W aC [J c.2.2.2.2.2.2.2.2.2.2.2.2.2.2.2.1,z],red U z c.2.2.2.2.2.2.2.2.2.2.2.2.2.2.2.2,W aA [J c.2.2.2.2.2.2.2.2.2.2.2.2.2.1,y],red U y c.2.2.2.2.2.2.2.2.2.2.2.2.2.2.1,W ay [J c.2.2.2.2.2.2.2.2.2.2.2.1,x],red U x c.2.2.2.2.2.2.2.2.2.2.2.2.1,W b0 [N ak 0,N an 0,N ap 0,N av 0,N ax 0,vI c.2.2.2.2.2.2.2.2.2.2.1,.func (.func 168) #[] #[]],W ax [J c.2.2.2.2.2.2.2.2.1,u],red U u c.2.2.2.2.2.2.2.2.2.1,W av [J c.2.2.2.2.2.2.1,t],red U t c.2.2.2.2.2.2.2.1,W ap [J c.2.2.2.2.1,s],red U s c.2.2.2.2.2.1,W an [J c.2.2.1,q],red U q c.2.2.2.1,W ak [J c.1,p],red U p c.2.1])):=by
 refine aJ 24 Tryz.func71 Z Z Z ?_
 have a:=St.l m
 have hZ:=Fz.l (S:=[]) (w0:=m)
 have hA0:Q T m [red U f G,red U e E]:=Y (RP.i (R Z) aO) (Y (RP.i (R Z) aN) (Q.nil))
 have b:=hA0.all
 have d:=hA0.off Z
 refine au [(0,vI a0),(1,.agg #[e,f,J l])] ⟨Z,Z,V⟩ ?_
 unfold F.B5 at h
 refine I (af (aP (cZ (cs:=[e,f,J l]) Z Z a) Z ?_))
 rintro _ w ⟨aE,rfl,a⟩
 refine P 1 Z ?_
 refine aP (aT (cs:=[.pointer none,.pointer none,.pointer none]) dK Z a) Z ?_
 rintro _ w ⟨aU,rfl,a⟩
 refine P 1 Z ?_
 refine H (M (I (af (P 1 Z ?_))))
 replace a:=a.pick (os':=[]++[W aU [.pointer none,.pointer none,.pointer none],W aE [e,f,J l]]) [0,1] (by decide) rfl
 obtain ⟨hZ,b,d,a⟩:=hZ.frzK hTT b d a
 obtain ⟨a1,aV,h⟩:=aj h
 refine ao Z (gF a0 aV (hZ.okT hTT a)) Z ?_
 rintro v_q w hQ
 cases o:a1 with
 | none=>
  have h:=ea h o
  rw [o]at hQ
  obtain ⟨rfl,A⟩:=dD hQ
  obtain ⟨a6,a2,hZ,b,d,a⟩:=hZ.m b d a A Q.nil rfl
  refine P 1 Z ?_
  refine H (M (I (I (af (P 1 Z ?_)))))
  refine am (aq Z Z (qA u71)) Z (H (M (d7 Z ?_)))
  refine I (af (am (bN (vs:=[]) (cells:=[.pointer none,.pointer none,.pointer none]) Z mp V Z) Z (P 1 Z ?_)))
  refine bb (a7 (i:=0) (us:=[.pointer none,.pointer none,.pointer none]) Z bB Z Z Z ⟨Z,Z,Z,V⟩ Z a) ?_
  intro w a
  refine P 1 Z ?_
  refine H (M (aw (aD ?_)))
  cases h
  obtain ⟨hS0,hR⟩:=hZ.outT hTT b d a
  exact ve Z Z ⟨_,Z,bC (us:=[.pointer none,.pointer none,.pointer none]) u91 Z bB (a.q 0 Z Z)⟩ Z (rX ⟨Z,hS0⟩)
 | some n=>
  have h:=d9 h o
  rw [o]at hQ
  obtain ⟨aF,aG,L,aH,ab,aI,ac,aK,ad,aL,ag,rfl,A,aM⟩:=dC hQ
  obtain ⟨a4,a3,hZ,b,d,a⟩:=hZ.m b d a A aM rfl
  refine P 1 Z ?_
  refine H (M (I (I (af (P 1 Z ?_)))))
  refine am (aq Z Z (rx u71 aF 0)) Z (H (M (fF Z ?_)))
  refine az (M (I (af (P 1 Z ?_))))
  refine am (bo (us:=[e,f,J l]) u33 Z bI Z (a.q 1 Z Z)) Z ?_
  replace a:=a.pick (os':=[]++[W aU [.pointer none,.pointer none,.pointer none],W aE [e,f,J l]]) [0,1] (by decide) rfl
  obtain ⟨hZ,b,d,a⟩:=hZ.frzK hTT b d a
  obtain ⟨a5,aR,h⟩:=aj h
  refine ao Z (lQ n.1 n.2.2.1 n.2.2.2.2.1 n.2.2.2.2.2.2.1 n.2.2.2.2.2.2.2.2.1 n.2.2.2.2.2.2.2.2.2.2 l aR (hZ.okT hTT a) (b.j d 2 Z) (b.k d 3 Z) (b.j d 4 Z) (b.k d 5 Z) (b.j d 6 Z) (b.k d 7 Z) (b.j d 8 Z) (b.k d 9 Z) (b.j d 10 Z) (b.k d 11 Z) (b.k d 12 Z) (b.j d 0 Z) (b.j d 1 Z)) Z ?_
  rintro _ w ⟨g,B,j,C,k,D,rfl,A,aM⟩
  obtain ⟨aW,aS,hZ,b,d,a⟩:=hZ.m b d a A aM rfl
  refine P 3 Z ?_
  refine aP (aT (cs:=[.pointer none,.pointer none,.pointer none]) dK Z a) Z ?_
  rintro _ w ⟨aX,rfl,a⟩
  refine bb (a7 (i:=0) (us:=[N g 0,N j 0,N k 0]) Z bB Z Z Z ⟨Z,Z,Z,V⟩ Z a) ?_
  intro w a
  refine P 1 Z ?_
  refine H (M (I ?_))
  refine aZ (fun w'=>St aW aS w' [W aX [N g 0,N j 0,N k 0],W aE [e,f,J l]]) (fun i=>!([4].contains i)) bS (fun _ _ _ hf=>hf.2) (fun _ _ hf=>hf) (by kernel_rfl) ?_
  have a:=a.drew
  show lxE _ _ _ _ _ _ _ [0,1,2,3,4,5] _ _
  refine al (a.e [0,2] Z Z) Z Z (fun w hF=>ar Z) Z (al (a.e [0,2] Z Z) Z Z (fun w hF=>bo (us:=[N g 0,N j 0,N k 0]) u91 Z bB Z (hF.q 0 Z Z)) Z (al (a.e [0,2] Z Z) Z Z (fun w hF=>ar Z) Z (al (a.e [0,2] Z Z) Z Z (fun w hF=>aB Z) Z (iS (a.e [0,2] Z Z) Z Z (a7 (i:=1) (us:=[N g 0,N j 0,N k 0]) Z bB Z Z Z ⟨Z,Z,Z,V⟩ Z a) ?_))))
  intro w a
  refine al (a.e [0,2] Z Z) Z Z (fun w hF=>aB Z) Z (bn (a.e [0,2] Z Z) ?_)
  refine M (aw ?_)
  cases h
  obtain ⟨hS0,hR⟩:=hZ.outT hTT b d a
  exact ve Z Z ⟨_,Z,bC (us:=[N g 0,N j 0,N k 0]) u91 Z bB (a.q 1 Z Z)⟩ Z (nk ⟨aF,aG,L,aH,ab,aI,ac,aK,ad,aL,ag,g,B,j,C,k,D,Z,hS0,(Y (hR.b 18 Z) (Y (hR.b 17 Z) (Y (hR.b 16 Z) (Y (hR.b 15 Z) (Y (hR.b 14 Z) (Y (hR.b 13 Z) (Y (hR.b 12 Z) (Y (hR.b 11 Z) (Y (hR.b 10 Z) (Y (hR.b 9 Z) (Y (hR.b 8 Z) (Y (hR.b 7 Z) (Y (hR.b 6 Z) (Y (hR.b 5 Z) (Y (hR.b 4 Z) (Y (hR.b 3 Z) (Y (hR.b 2 Z) Q.nil)))))))))))))))))⟩)
theorem uO {e:World} {f g:List UInt32} {b c:Value} (a0:Int) (d:Bool) {r:Bool}
  (h:F.Fo a0 f g d=some r) (q:RP [] e U b f) (s:RP [] e U c g):Calls Tryz.prog 32 #[vI a0,.agg #[b,c,J d]] e (Ret fun v w=>v=J r∧St [] e w []):=by
 refine aJ 16 Tryz.func32 Z Z Z ?_
 have a:=St.l e
 have hZ:=Fz.l (S:=[]) (w0:=e)
 have hTT:TOk [] [] e:=TOk.nil
 have k:Q [] e [red U c g,red U b f]:=Y (RP.i (R Z) s) (Y (RP.i (R Z) q) (Q.nil))
 have l:O [] [red U c g,red U b f]:=O.emp
 refine au [(0,vI a0),(1,.agg #[b,c,J d])] ⟨Z,Z,V⟩ ?_
 unfold F.Fo at h
 refine I (af (aP (cZ (cs:=[b,c,J d]) Z Z a) Z ?_))
 rintro _ w ⟨G,rfl,a⟩
 refine P 1 Z ?_
 refine H (M (I (af (P 1 Z ?_))))
 refine am (bo (us:=[b,c,J d]) u33 Z bI Z (a.q 0 Z Z)) Z ?_
 replace a:=a.pick (os':=[]++[W G [b,c,J d]]) [0] (by decide) rfl
 obtain ⟨hZ,k,l,a⟩:=hZ.frzK hTT k l a
 obtain ⟨L,u,h⟩:=aj h
 refine ao Z (en a0 d u (hZ.okT hTT a) (k.j l 0 Z) (k.j l 1 Z)) Z ?_
 rintro v_q w t
 cases j:L.1 with
 | none=>
  have h:=ea h j
  rw [j]at t
  obtain ⟨rfl,m⟩:=dD t
  obtain ⟨av,an,hZ,k,l,a⟩:=hZ.m k l a m Q.nil rfl
  refine P 4 Z ?_
  refine aP (aT (cs:=[.pointer none,.pointer none,.pointer none]) dK Z a) Z ?_
  rintro _ w ⟨ap,rfl,a⟩
  refine P 1 Z ?_
  refine bb (a7 (i:=0) (us:=[.pointer none,.pointer none,.pointer none]) Z bB Z Z Z ⟨Z,Z,Z,V⟩ Z a) ?_
  intro w a
  refine P 1 Z ?_
  refine H (M (I (af (P 2 Z ?_))))
  refine H (M (aw ?_))
  cases h
  replace a:=hZ.st a
  exact aF Z Z ⟨Z,a.e [] Z Z⟩
 | some ax=>
  have h:=d9 h j
  rw [j]at t
  obtain ⟨aq,T,x,ab,y,ac,z,ad,A,ag,B,n,C,o,D,p,E,rfl,m,ak⟩:=dC t
  obtain ⟨ay,al,hZ,k,l,a⟩:=hZ.m k l a m ak rfl
  refine P 4 Z ?_
  refine aP (aT (cs:=[.pointer none,.pointer none,.pointer none]) dK Z a) Z ?_
  rintro _ w ⟨ar,rfl,a⟩
  refine P 1 Z ?_
  refine bb (a7 (i:=0) (us:=[N n 0,N o 0,N p 0]) Z bB Z Z Z ⟨Z,Z,Z,V⟩ Z a) ?_
  intro w a
  refine P 1 Z ?_
  refine H (M (I (af (P 2 Z ?_))))
  refine H (M (aw ?_))
  cases h
  replace a:=hZ.st a
  exact aF Z Z ⟨Z,a.e [] Z Z⟩
theorem ee {b:World} {a0:List UInt32} {c:Value} {r:Bool×List UInt32×Bool}
  (h:F.Cb a0=some r) (i:RP [] b U c a0):Calls Tryz.prog 72 #[c] b (Ret fun v w=>∃d:Value,∃un0:Nat,v=.tuple #[N un0 0,J r.2.2]∧St [] b w [W un0 [J r.1,d],K U d r.2.1]):=by
 refine aJ 9 Tryz.func72 Z Z Z ?_
 have a:=St.l b
 have hZ:=Fz.l (S:=[]) (w0:=b)
 have hTT:TOk [] [] b:=TOk.nil
 have j:Q [] b [red U c a0]:=Y (RP.i (R Z) i) (Q.nil)
 have o:O [] [red U c a0]:=O.emp
 refine au [(0,c)] ⟨Z,V⟩ ?_
 unfold F.Cb at h
 refine I (af (P 2 Z ?_))
 refine H (M (I (af (P 1 Z ?_))))
 obtain ⟨m,f,h⟩:=aj h
 refine ao Z (kP  f ((j.rp 0 Z).d a.fr).rp) Z ?_
 rintro _ w ⟨k,l,rfl,e⟩
 have a:=a.f e
 refine P 1 Z ?_
 obtain ⟨n,g,h⟩:=aj h
 refine ao Z (dV  g ((j.rp 0 Z).d a.fr).rp) Z ?_
 rintro _ w ⟨rfl,e⟩
 have a:=a.f e
 refine P 3 Z ?_
 refine H (M (aw ?_))
 cases h
 replace a:=hZ.st a
 exact bX Z Z Z ⟨k,l,Z,a.e [0,1] Z Z⟩
end Go.Proofs
