import Derived.Test.YtkickcbphbgldaaGreatDoorTW0
import Derived.Test.YtkickcbphbgldaaGreatDoorGkFman
import Derived.Test.YtkickcbphbgldaaGreatDoorTWbignumc
import Derived.Test.YtkickcbphbgldaaGreatDoorTWnatb
set_option linter.unusedVariables false
set_option linter.unusedSimpArgs false
set_option linter.unusedSectionVars false
set_option maxRecDepth 4000
namespace Go.Proofs
open Go Go.RowKit Go.Gk
open Go.Gk renaming Off → K, Rds → Q, aa → P, ae → O, ah → J, ai → H, e32 → U, own → M, pB → N, vB → I
open Nat renaming le_of_ble_eq_true → R
open Go.Gk.OE renaming bx → X
open Go.Gk.Rds renaming cons → Y
theorem cU {d:World} (a0:List UInt8) {r:Bool×List UInt32}
  (h:F.BM a0=some r) :Calls Tryz.prog 167 #[vS a0] d (Ret fun v w=>∃b:Value,∃un0:Nat,v=N un0 0∧St [] d w [X un0 [I r.1,b],M U b r.2]):=by
 refine aJ 12 Tryz.func167 Z Z Z ?_
 have a:=St.l d
 refine au [(0,vS a0)] ⟨Z,V⟩ ?_
 unfold F.BM at h
 refine J (af (P 1 Z ?_))
 refine H (O (J (af (aT (aY (cs:=[I false,.slice none 0 0]) c6 Z a) Z ?_))))
 rintro _ w ⟨c,rfl,a⟩
 refine P 1 Z ?_
 replace a:=a.nil U
 have f:=a.pick (os':=[X c [I false,.slice none 0 0],M U (.slice none 0 0) []]++[]) [1,0] (by decide) Z
 obtain ⟨j,e,h⟩:=aj h
 refine ao Z (jZ false a0 16 e f.g ) Z ?_
 rintro _ w ⟨g,rfl,i⟩
 have a:=f.h i
 refine P 5 Z ?_
 refine H (O (J (af (P 2 Z ?_))))
 refine H (O (aw ?_))
 cases h
 exact aF Z Z ⟨g,c,Z,a.e [0,1] Z Z⟩
theorem sF {n:World} {T:List Nat} {r:Bool×List UInt32×Bool×List UInt32×Bool×List UInt32×Bool×List UInt32×Bool×List UInt32×Int}
  (h:F.Fg =some r) (hTT:TOk [] T n):Calls Tryz.prog 118 #[] n (Ret fun v w=>∃b0:Nat,∃o:Nat,∃f:Value,∃p:Nat,∃g:Value,∃q:Nat,∃i:Value,∃s:Nat,∃j:Value,∃t:Nat,∃k:Value,v=N b0 0∧St [] n w []∧Q T w [X b0 [N o 0,N p 0,N q 0,N s 0,N t 0,vI r.2.2.2.2.2.2.2.2.2.2,.func (.func 168) #[] #[]],X t [I r.2.2.2.2.2.2.2.2.1,k],red U k r.2.2.2.2.2.2.2.2.2.1,X s [I r.2.2.2.2.2.2.1,j],red U j r.2.2.2.2.2.2.2.1,X q [I r.2.2.2.2.1,i],red U i r.2.2.2.2.2.1,X p [I r.2.2.1,g],red U g r.2.2.2.1,X o [I r.1,f],red U f r.2.1]):=by
 refine aJ 8 Tryz.func118 Z Z Z ?_
 have b:=St.l n
 have hZ:=Fz.l (S:=[]) (w0:=n)
 have hA0:Q T n []:=Q.nil
 have hA:=hA0.all
 have hP:=hA0.off Z
 refine au [] V ?_
 unfold F.Fg at h
 refine J (af (P 1 Z ?_))
 refine H (O (J (af ?_)))
 obtain ⟨al,z,h⟩:=aj h
 refine ao Z (cU [102,102,102,102,102,102,102,102,48,48,48,48,48,48,48,49,48,48,48,48,48,48,48,48,48,48,48,48,48,48,48,48,48,48,48,48,48,48,48,48,102,102,102,102,102,102,102,102,102,102,102,102,102,102,102,102,102,102,102,102,102,102,102,102] z ) Z ?_
 rintro _ w ⟨G,l,rfl,a⟩
 have b:=b.f a
 obtain ⟨an,A,h⟩:=aj h
 refine ao Z (cU [53,97,99,54,51,53,100,56,97,97,51,97,57,51,101,55,98,51,101,98,98,100,53,53,55,54,57,56,56,54,98,99,54,53,49,100,48,54,98,48,99,99,53,51,98,48,102,54,51,98,99,101,51,99,51,101,50,55,100,50,54,48,52,98] A ) Z ?_
 rintro _ w ⟨L,m,rfl,a⟩
 have b:=b.f a
 obtain ⟨ad,u,h⟩:=aj h
 refine ao Z (cU [102,102,102,102,102,102,102,102,48,48,48,48,48,48,48,48,102,102,102,102,102,102,102,102,102,102,102,102,102,102,102,102,98,99,101,54,102,97,97,100,97,55,49,55,57,101,56,52,102,51,98,57,99,97,99,50,102,99,54,51,50,53,53,49] u ) Z ?_
 rintro _ w ⟨B,c,rfl,a⟩
 have b:=b.f a
 obtain ⟨ag,x,h⟩:=aj h
 refine ao Z (cU [54,98,49,55,100,49,102,50,101,49,50,99,52,50,52,55,102,56,98,99,101,54,101,53,54,51,97,52,52,48,102,50,55,55,48,51,55,100,56,49,50,100,101,98,51,51,97,48,102,52,97,49,51,57,52,53,100,56,57,56,99,50,57,54] x ) Z ?_
 rintro _ w ⟨C,d,rfl,a⟩
 have b:=b.f a
 obtain ⟨ak,y,h⟩:=aj h
 refine ao Z (cU [52,102,101,51,52,50,101,50,102,101,49,97,55,102,57,98,56,101,101,55,101,98,52,97,55,99,48,102,57,101,49,54,50,98,99,101,51,51,53,55,54,98,51,49,53,101,99,101,99,98,98,54,52,48,54,56,51,55,98,102,53,49,102,53] y ) Z ?_
 rintro _ w ⟨D,e,rfl,a⟩
 have b:=b.f a
 refine am (bY (vs:=[(0,N l 0,[N l 0]),(1,N m 0,[N m 0]),(2,N c 0,[N c 0]),(3,N d 0,[N d 0]),(4,N e 0,[N e 0]),(5,vI 32,[vI 32]),(6,.func (.func 168) #[] #[],[.func (.func 168) #[] #[]])]) (cells:=[N l 0,N m 0,N c 0,N d 0,N e 0,vI 32,.func (.func 168) #[] #[]]) Z yL ⟨Z,Z,Z,Z,Z,Z,Z,V⟩ Z) Z ?_
 refine aT (da (cs:=[N l 0,N m 0,N c 0,N d 0,N e 0,vI 32,.func (.func 168) #[] #[]]) Z Z b) Z ?_
 rintro _ w ⟨E,rfl,b⟩
 refine P 1 Z ?_
 refine H (O (aw ?_))
 cases h
 obtain ⟨hS0,hR⟩:=hZ.outT hTT hA hP b
 exact aF Z Z ⟨E,l,G,m,L,c,B,d,C,e,D,Z,hS0,(Y (hR.b 10 Z) (Y (hR.b 9 Z) (Y (hR.b 8 Z) (Y (hR.b 7 Z) (Y (hR.b 6 Z) (Y (hR.b 5 Z) (Y (hR.b 4 Z) (Y (hR.b 3 Z) (Y (hR.b 2 Z) (Y (hR.b 1 Z) (Y (hR.b 0 Z) Q.nil)))))))))))⟩
theorem r8 {n:World} {T:List Nat} {r:Bool×List UInt32×Bool×List UInt32×Bool×List UInt32×Bool×List UInt32×Bool×List UInt32×Int}
  (h:F.FH =some r) (hTT:TOk [] T n):Calls Tryz.prog 119 #[] n (Ret fun v w=>∃b0:Nat,∃o:Nat,∃f:Value,∃p:Nat,∃g:Value,∃q:Nat,∃i:Value,∃s:Nat,∃j:Value,∃t:Nat,∃k:Value,v=N b0 0∧St [] n w []∧Q T w [X b0 [N o 0,N p 0,N q 0,N s 0,N t 0,vI r.2.2.2.2.2.2.2.2.2.2,.func (.func 168) #[] #[]],X t [I r.2.2.2.2.2.2.2.2.1,k],red U k r.2.2.2.2.2.2.2.2.2.1,X s [I r.2.2.2.2.2.2.1,j],red U j r.2.2.2.2.2.2.2.1,X q [I r.2.2.2.2.1,i],red U i r.2.2.2.2.2.1,X p [I r.2.2.1,g],red U g r.2.2.2.1,X o [I r.1,f],red U f r.2.1]):=by
 refine aJ 8 Tryz.func119 Z Z Z ?_
 have b:=St.l n
 have hZ:=Fz.l (S:=[]) (w0:=n)
 have hA0:Q T n []:=Q.nil
 have hA:=hA0.all
 have hP:=hA0.off Z
 refine au [] V ?_
 unfold F.FH at h
 refine J (af (P 1 Z ?_))
 refine H (O (J (af ?_)))
 obtain ⟨al,z,h⟩:=aj h
 refine ao Z (cU [102,102,102,102,102,102,102,102,102,102,102,102,102,102,102,102,102,102,102,102,102,102,102,102,102,102,102,102,102,102,102,102,102,102,102,102,102,102,102,102,102,102,102,102,102,102,102,102,102,102,102,102,102,102,102,102,102,102,102,102,102,102,102,101,102,102,102,102,102,102,102,102,48,48,48,48,48,48,48,48,48,48,48,48,48,48,48,48,102,102,102,102,102,102,102,102] z ) Z ?_
 rintro _ w ⟨G,l,rfl,a⟩
 have b:=b.f a
 obtain ⟨an,A,h⟩:=aj h
 refine ao Z (cU [98,51,51,49,50,102,97,55,101,50,51,101,101,55,101,52,57,56,56,101,48,53,54,98,101,51,102,56,50,100,49,57,49,56,49,100,57,99,54,101,102,101,56,49,52,49,49,50,48,51,49,52,48,56,56,102,53,48,49,51,56,55,53,97,99,54,53,54,51,57,56,100,56,97,50,101,100,49,57,100,50,97,56,53,99,56,101,100,100,51,101,99,50,97,101,102] A ) Z ?_
 rintro _ w ⟨L,m,rfl,a⟩
 have b:=b.f a
 obtain ⟨ad,u,h⟩:=aj h
 refine ao Z (cU [102,102,102,102,102,102,102,102,102,102,102,102,102,102,102,102,102,102,102,102,102,102,102,102,102,102,102,102,102,102,102,102,102,102,102,102,102,102,102,102,102,102,102,102,102,102,102,102,99,55,54,51,52,100,56,49,102,52,51,55,50,100,100,102,53,56,49,97,48,100,98,50,52,56,98,48,97,55,55,97,101,99,101,99,49,57,54,97,99,99,99,53,50,57,55,51] u ) Z ?_
 rintro _ w ⟨B,c,rfl,a⟩
 have b:=b.f a
 obtain ⟨ag,x,h⟩:=aj h
 refine ao Z (cU [97,97,56,55,99,97,50,50,98,101,56,98,48,53,51,55,56,101,98,49,99,55,49,101,102,51,50,48,97,100,55,52,54,101,49,100,51,98,54,50,56,98,97,55,57,98,57,56,53,57,102,55,52,49,101,48,56,50,53,52,50,97,51,56,53,53,48,50,102,50,53,100,98,102,53,53,50,57,54,99,51,97,53,52,53,101,51,56,55,50,55,54,48,97,98,55] x ) Z ?_
 rintro _ w ⟨C,d,rfl,a⟩
 have b:=b.f a
 obtain ⟨ak,y,h⟩:=aj h
 refine ao Z (cU [51,54,49,55,100,101,52,97,57,54,50,54,50,99,54,102,53,100,57,101,57,56,98,102,57,50,57,50,100,99,50,57,102,56,102,52,49,100,98,100,50,56,57,97,49,52,55,99,101,57,100,97,51,49,49,51,98,53,102,48,98,56,99,48,48,97,54,48,98,49,99,101,49,100,55,101,56,49,57,100,55,97,52,51,49,100,55,99,57,48,101,97,48,101,53,102] y ) Z ?_
 rintro _ w ⟨D,e,rfl,a⟩
 have b:=b.f a
 refine am (bY (vs:=[(0,N l 0,[N l 0]),(1,N m 0,[N m 0]),(2,N c 0,[N c 0]),(3,N d 0,[N d 0]),(4,N e 0,[N e 0]),(5,vI 48,[vI 48]),(6,.func (.func 168) #[] #[],[.func (.func 168) #[] #[]])]) (cells:=[N l 0,N m 0,N c 0,N d 0,N e 0,vI 48,.func (.func 168) #[] #[]]) Z yL ⟨Z,Z,Z,Z,Z,Z,Z,V⟩ Z) Z ?_
 refine aT (da (cs:=[N l 0,N m 0,N c 0,N d 0,N e 0,vI 48,.func (.func 168) #[] #[]]) Z Z b) Z ?_
 rintro _ w ⟨E,rfl,b⟩
 refine P 1 Z ?_
 refine H (O (aw ?_))
 cases h
 obtain ⟨hS0,hR⟩:=hZ.outT hTT hA hP b
 exact aF Z Z ⟨E,l,G,m,L,c,B,d,C,e,D,Z,hS0,(Y (hR.b 10 Z) (Y (hR.b 9 Z) (Y (hR.b 8 Z) (Y (hR.b 7 Z) (Y (hR.b 6 Z) (Y (hR.b 5 Z) (Y (hR.b 4 Z) (Y (hR.b 3 Z) (Y (hR.b 2 Z) (Y (hR.b 1 Z) (Y (hR.b 0 Z) Q.nil)))))))))))⟩
theorem gD {i:World} {T:List Nat} (a0:Int) {r:Option (Bool×List UInt32×Bool×List UInt32×Bool×List UInt32×Bool×List UInt32×Bool×List UInt32×Int)}
  (h:F.Cg a0=some r) (hTT:TOk [] T i):Calls Tryz.prog 60 #[vI a0] i (Ret fun v w=>kf r (v=.pointer none∧St [] i w []) (fun c=>∃b0:Nat,∃B:Nat,∃j:Value,∃C:Nat,∃k:Value,∃e:Nat,∃l:Value,∃D:Nat,∃m:Value,∃E:Nat,∃n:Value,v=N b0 0∧St [] i w []∧Q T w [X b0 [N B 0,N C 0,N e 0,N D 0,N E 0,vI c.2.2.2.2.2.2.2.2.2.2,.func (.func 168) #[] #[]],X E [I c.2.2.2.2.2.2.2.2.1,n],red U n c.2.2.2.2.2.2.2.2.2.1,X D [I c.2.2.2.2.2.2.1,m],red U m c.2.2.2.2.2.2.2.1,X e [I c.2.2.2.2.1,l],red U l c.2.2.2.2.2.1,X C [I c.2.2.1,k],red U k c.2.2.2.1,X B [I c.1,j],red U j c.2.1])):=by
 refine aJ 10 Tryz.func60 Z Z Z ?_
 have a:=St.l i
 have hZ:=Fz.l (S:=[]) (w0:=i)
 have hA0:Q T i []:=Q.nil
 have b:=hA0.all
 have d:=hA0.off Z
 refine au [(0,vI a0)] ⟨Z,V⟩ ?_
 unfold F.Cg at h
 refine J (af (P 1 Z ?_))
 refine H (O (J (J (af (P 1 Z ?_)))))
 refine H (O (aD ?_))
 refine J (af (P 2 Z ?_))
 refine H (O ?_)
 refine ax Z (fun f=>?_) (fun f=>?_)
 ·have h:=aI h f
  refine J (af ?_)
  replace a:=a.pick (os':=[]++[]) [] (by decide) rfl
  obtain ⟨hZ,b,d,a⟩:=hZ.frzK hTT b d a
  obtain ⟨aG,ar,h⟩:=aj h
  refine ao Z (sF  ar (hZ.okT hTT a)) Z ?_
  rintro _ w ⟨e,G,o,L,p,ab,q,ac,s,ad,t,rfl,ag,ak⟩
  obtain ⟨aK,aB,hZ,b,d,a⟩:=hZ.m b d a ag ak rfl
  refine P 1 Z ?_
  refine H (O (aw (bM ?_)))
  refine aE ?_
  cases h
  obtain ⟨hS0,hR⟩:=hZ.outT hTT b d a
  exact aF Z Z (nM ⟨e,G,o,L,p,ab,q,ac,s,ad,t,Z,hS0,(Y (hR.b 10 Z) (Y (hR.b 9 Z) (Y (hR.b 8 Z) (Y (hR.b 7 Z) (Y (hR.b 6 Z) (Y (hR.b 5 Z) (Y (hR.b 4 Z) (Y (hR.b 3 Z) (Y (hR.b 2 Z) (Y (hR.b 1 Z) (Y (hR.b 0 Z) Q.nil)))))))))))⟩)
 have h:=aH h f
 refine J (af (P 2 Z ?_))
 refine H (O ?_)
 refine ax Z (fun g=>?_) (fun g=>?_)
 ·have h:=aI h g
  refine J (af ?_)
  replace a:=a.pick (os':=[]++[]) [] (by decide) rfl
  obtain ⟨hZ,b,d,a⟩:=hZ.frzK hTT b d a
  obtain ⟨aL,av,h⟩:=aj h
  refine ao Z (r8  av (hZ.okT hTT a)) Z ?_
  rintro _ w ⟨az,al,u,am,x,an,y,ap,z,aq,A,rfl,ag,ak⟩
  obtain ⟨aC,aA,hZ,b,d,a⟩:=hZ.m b d a ag ak rfl
  refine P 1 Z ?_
  refine H (O (aw (bM ?_)))
  refine aE ?_
  cases h
  obtain ⟨hS0,hR⟩:=hZ.outT hTT b d a
  exact aF Z Z (nM ⟨az,al,u,am,x,an,y,ap,z,aq,A,Z,hS0,(Y (hR.b 10 Z) (Y (hR.b 9 Z) (Y (hR.b 8 Z) (Y (hR.b 7 Z) (Y (hR.b 6 Z) (Y (hR.b 5 Z) (Y (hR.b 4 Z) (Y (hR.b 3 Z) (Y (hR.b 2 Z) (Y (hR.b 1 Z) (Y (hR.b 0 Z) Q.nil)))))))))))⟩)
 have h:=aH h g
 refine ay (aR ?_)
 refine O (J (af (P 1 Z ?_)))
 refine H (O (aw ?_))
 cases h
 obtain ⟨hS0,hR⟩:=hZ.outT hTT b d a
 exact aF Z Z (rQ ⟨Z,hS0⟩)
theorem fX {d:World} {e:List UInt32} {c:Value} {f:Nat} (b:Bool) {r:List UInt32}
  (h:F.B0 b e=some r) (i:RP [] d U c e) (hBa0:RB [] d f [I b,c]):Calls Tryz.prog 61 #[N f 0] d (Ret fun v w=>St [] d w [M U v r]):=by
 refine aJ 6 Tryz.func61 Z Z Z ?_
 have a:=St.l d
 refine au [(0,N f 0)] ⟨Z,V⟩ ?_
 unfold F.B0 at h
 refine J (af (P 1 Z ?_))
 refine H (O (J (af (P 1 Z ?_))))
 obtain ⟨l,j,h⟩:=aj h
 refine ao Z (iB b j (i.d a.fr).rp (hBa0.d a.fr)) Z ?_
 rintro m w g
 have a:=a.f g
 obtain ⟨n,k,h⟩:=aj h
 refine ao Z (dq  k (a.ro 0 Z).rp) Z ?_
 rintro o w g
 have a:=a.f g
 refine P 1 Z ?_
 refine H (O (aw ?_))
 cases h
 exact aF Z Z (a.e [0] Z Z)
theorem lZ {g:World} (a0:Int) {r:List UInt32×List UInt32×Bool}
  (h:F.DK a0=some r) :Calls Tryz.prog 30 #[vI a0] g (Ret fun v w=>∃l m:Value,v=.agg #[l,m,I r.2.2]∧St [] g w [M U l r.1,M U m r.2.1]):=by
 refine aJ 20 Tryz.func30 Z Z Z ?_
 have a:=St.l g
 have hZ:=Fz.l (S:=[]) (w0:=g)
 have hTT:TOk [] [] g:=TOk.nil
 have d:Q [] g []:=Q.nil
 have j:K [] []:=K.emp
 refine au [(0,vI a0)] ⟨Z,V⟩ ?_
 unfold F.DK at h
 refine J (af (aT (aY (cs:=[.slice none 0 0,.slice none 0 0,I false]) jc Z a) Z ?_))
 rintro _ w ⟨u,rfl,a⟩
 refine H (O (J (J (af (P 1 Z ?_)))))
 replace a:=a.pick (os':=[]++[X u [.slice none 0 0,.slice none 0 0,I false]]) [0] (by decide) rfl
 obtain ⟨hZ,d,j,a⟩:=hZ.frzK hTT d j a
 obtain ⟨L,y,h⟩:=aj h
 refine ao Z (gD a0 y (hZ.okT hTT a)) Z ?_
 rintro v_q w n
 cases f:L with
 | none=>
  have h:=fx h f
  rw [f]at n
  obtain ⟨rfl,e⟩:=eJ n
  obtain ⟨aA,ap,hZ,d,j,a⟩:=hZ.m d j a e Q.nil rfl
  refine P 1 Z ?_
  refine H (O (J (af (P 1 Z ?_))))
  refine am (aq Z Z (lT u71)) Z (H (O (fE Z ?_)))
  refine ay (O (J (af (am (bY (vs:=[]) (cells:=[.slice none 0 0,.slice none 0 0,I false]) Z fo V Z) Z (bk (bl (i:=0) (us:=[.slice none 0 0,.slice none 0 0,I false]) Z ce Z Z Z ⟨Z,Z,Z,V⟩ Z a) ?_)))))
  intro w a
  refine H (O (aw ?_))
  cases h
  replace a:=hZ.st a
  exact eN Z ⟨_,Z,bJ (us:=[.slice none 0 0,.slice none 0 0,I false]) u33 Z ce (a.q 0 Z Z)⟩ ⟨.slice none 0 0,.slice none 0 0,Z,((a.nil U).nil U).e [1,0] Z Z⟩
 | some x=>
  have h:=fv h f
  rw [f]at n
  obtain ⟨z,T,A,ab,B,ac,C,ad,D,ag,E,rfl,e,ak⟩:=eM n
  obtain ⟨an,o,hZ,d,j,a⟩:=hZ.m d j a e ak rfl
  refine P 1 Z ?_
  refine H (O (J (af (P 1 Z ?_))))
  refine am (aq Z Z (kl u71 z 0)) Z (H (O (dZ Z ?_)))
  refine J ?_
  refine d6 (fun w'=>St an o w' [X u [.slice none 0 0,.slice none 0 0,I false]]) (fun i=>!([4,9,11].contains i)) bS (fun _ _ _ G=>G.2) (fun _ _ G=>G) (by kernel_rfl) ?_
  have a:=a.drew
  show lxE _ _ _ _ _ _ _ [0,1,2,3,4,5,6,7,8,9,10,11] _ _
  refine al a Z Z (fun w hF=>ar Z) Z (al a Z Z (fun w hF=>aK Z) Z (al a Z Z (fun w hF=>av (k:=3) u76 Z Z cw Z) Z (al a Z Z (fun w hF=>aC u73 Z Z ((d.rb 10 Z).cell hF.fr 3 Z)) Z ?_)))
  obtain ⟨ax,p,h⟩:=aj h
  refine bg a Z Z (by kernel_rfl) Z (fX x.2.2.2.2.2.2.1 p ((d.rp 6 Z).d a.fr).rp ((d.rb 7 Z).d a.fr)) Z ?_
  rintro b w e
  have a:=a.f e
  have q:=(a.ro 0 Z).one
  refine al (a.e [1] Z Z) Z Z (fun w hF=>ar Z) Z (al (a.e [1] Z Z) Z Z (fun w hF=>aK Z) Z (al (a.e [1] Z Z) Z Z (fun w hF=>av (k:=4) u76 Z Z cw Z) Z (al (a.e [1] Z Z) Z Z (fun w hF=>aC u73 Z Z ((d.rb 10 Z).cell hF.fr 4 Z)) Z ?_)))
  obtain ⟨az,s,h⟩:=aj h
  refine bg (a.e [1] Z Z) Z Z (by kernel_rfl) Z (fX x.2.2.2.2.2.2.2.2.1 s ((d.rp 8 Z).d a.fr).rp ((d.rb 9 Z).d a.fr)) Z ?_
  rintro c w e
  have a:=a.f e
  have t:=(a.ro 0 Z).one
  refine al (a.e [2] Z Z) Z Z (fun w hF=>bY (vs:=[(0,b,[b]),(1,c,[c])]) (cells:=[b,c,I false]) Z fo ⟨(fK q),(fK t),V⟩ Z) Z ?_
  refine iU (a.e [2] Z Z) Z Z (bl (i:=2) (us:=[b,c,I false]) Z ce Z Z Z ⟨(a.ro 1 Z).one,(a.ro 0 Z).one,Z,V⟩ Z a) ?_
  intro w a
  refine bn V ?_
  refine O (aw (aE ?_))
  cases h
  replace a:=hZ.st a
  exact eN Z ⟨_,Z,bJ (us:=[b,c,I false]) u33 Z ce (a.q 2 Z Z)⟩ ⟨b,c,Z,a.e [1,0] Z Z⟩
theorem gc {e:World} (a0:Int) {r:List UInt32}
  (h:F.CD a0=some r) :Calls Tryz.prog 21 #[vI a0] e (Ret fun v w=>St [] e w [M U v r]):=by
 refine aJ 13 Tryz.func21 Z Z Z ?_
 have a:=St.l e
 have hZ:=Fz.l (S:=[]) (w0:=e)
 have hTT:TOk [] [] e:=TOk.nil
 have b:Q [] e []:=Q.nil
 have f:K [] []:=K.emp
 refine au [(0,vI a0)] ⟨Z,V⟩ ?_
 unfold F.CD at h
 refine J (af (P 1 Z ?_))
 refine H (O (J (J (af (P 1 Z ?_)))))
 replace a:=a.pick (os':=[]++[]) [] (by decide) rfl
 obtain ⟨hZ,b,f,a⟩:=hZ.frzK hTT b f a
 obtain ⟨s,i,h⟩:=aj h
 refine ao Z (gD a0 i (hZ.okT hTT a)) Z ?_
 rintro v_q w g
 cases c:s with
 | none=>
  have h:=fx h c
  rw [c]at g
  obtain ⟨rfl,d⟩:=eJ g
  obtain ⟨G,C,hZ,b,f,a⟩:=hZ.m b f a d Q.nil rfl
  refine P 1 Z ?_
  refine H (O (J (af (P 1 Z ?_))))
  refine am (aq Z Z (lT u71)) Z (H (O (fE Z ?_)))
  refine ay (O (J (af (P 1 Z ?_))))
  refine H (O (aw ?_))
  cases h
  replace a:=hZ.st a
  exact aF Z Z ((a.nil U).e [0] Z Z)
 | some t=>
  have h:=fv h c
  rw [c]at g
  obtain ⟨j,u,l,x,m,y,n,z,o,A,p,rfl,d,B⟩:=eM g
  obtain ⟨L,D,hZ,b,f,a⟩:=hZ.m b f a d B rfl
  refine P 1 Z ?_
  refine H (O (J (af (P 1 Z ?_))))
  refine am (aq Z Z (kl u71 j 0)) Z (H (O (dZ Z ?_)))
  refine J (af (P 1 Z ?_))
  refine am (aK Z) Z (am (av (k:=2) u76 Z Z cw Z) Z (am (aC u73 Z Z ((b.rb 10 Z).cell a.fr 2 Z)) Z ?_))
  obtain ⟨T,q,h⟩:=aj h
  refine ao Z (fX t.2.2.2.2.1 q ((b.rp 4 Z).d a.fr).rp ((b.rb 5 Z).d a.fr)) Z ?_
  rintro E w d
  have a:=a.f d
  refine P 1 Z ?_
  refine H (O (aw (aE ?_)))
  cases h
  replace a:=hZ.st a
  exact aF Z Z (a.e [0] Z Z)
theorem el {c:World} (a0:Int) {r:Int}
  (h:F.B3 a0=some r) :Calls Tryz.prog 20 #[vI a0] c (Ret fun v w=>v=vI r∧St [] c w []):=by
 refine aJ 12 Tryz.func20 Z Z Z ?_
 have a:=St.l c
 have hZ:=Fz.l (S:=[]) (w0:=c)
 have hTT:TOk [] [] c:=TOk.nil
 have d:Q [] c []:=Q.nil
 have e:K [] []:=K.emp
 refine au [(0,vI a0)] ⟨Z,V⟩ ?_
 unfold F.B3 at h
 refine J (af (P 1 Z ?_))
 refine H (O (J (J (af (P 1 Z ?_)))))
 replace a:=a.pick (os':=[]++[]) [] (by decide) rfl
 obtain ⟨hZ,d,e,a⟩:=hZ.frzK hTT d e a
 obtain ⟨q,i,h⟩:=aj h
 refine ao Z (gD a0 i (hZ.okT hTT a)) Z ?_
 rintro v_q w g
 cases b:q with
 | none=>
  have h:=fx h b
  rw [b]at g
  obtain ⟨rfl,f⟩:=eJ g
  obtain ⟨C,A,hZ,d,e,a⟩:=hZ.m d e a f Q.nil rfl
  refine P 1 Z ?_
  refine H (O (J (af (P 1 Z ?_))))
  refine am (aq Z Z (lT u71)) Z (H (O (fE Z ?_)))
  refine ay (O (J (af (P 1 Z ?_))))
  refine H (O (aw ?_))
  cases h
  replace a:=hZ.st a
  exact aF Z Z ⟨Z,a⟩
 | some D=>
  have h:=fv h b
  rw [b]at g
  obtain ⟨j,s,l,t,m,u,n,x,o,y,p,rfl,f,z⟩:=eM g
  obtain ⟨E,B,hZ,d,e,a⟩:=hZ.m d e a f z rfl
  refine P 1 Z ?_
  refine H (O (J (af (P 1 Z ?_))))
  refine am (aq Z Z (kl u71 j 0)) Z (H (O (dZ Z ?_)))
  refine J (af (P 1 Z ?_))
  refine am (aK Z) Z (am (av (k:=5) u76 Z Z nz3 Z) Z (am (aC Tryz.underlying3 Z Z ((d.rb 10 Z).cell a.fr 5 Z)) Z (P 1 Z ?_)))
  refine H (O (aw (aE ?_)))
  cases h
  replace a:=hZ.st a
  exact aF Z Z ⟨Z,a⟩
theorem kR {e:World} {a0:List UInt32} {b:Value} {r:Bool×List UInt32}
  (h:F.DD a0=some r) (k:RP [] e U b a0):Calls Tryz.prog 133 #[b] e (Ret fun v w=>∃c:Value,∃un0:Nat,v=N un0 0∧St [] e w [X un0 [I r.1,c],M U c r.2]):=by
 refine aJ 7 Tryz.func133 Z Z Z ?_
 have a:=St.l e
 refine au [(0,b)] ⟨Z,V⟩ ?_
 unfold F.DD at h
 refine J (af (P 1 Z ?_))
 refine H (O (J (af (aT (aY (cs:=[I false,.slice none 0 0]) c6 Z a) Z ?_))))
 rintro _ w ⟨f,rfl,a⟩
 refine P 1 Z ?_
 obtain ⟨l,g,h⟩:=aj h
 refine ao Z (sX  g (k.d a.fr).rp) Z ?_
 rintro m w d
 have a:=a.f d
 replace a:=a.nil U
 have i:=a.pick (os':=[X f [I false,.slice none 0 0],M U (.slice none 0 0) []]++[M e8 m l]) [2,0,1] (by decide) Z
 obtain ⟨o,j,h⟩:=aj h
 refine ao Z (eY false j i.g (i.giveO 0 Z)) Z ?_
 rintro _ w ⟨n,rfl,d⟩
 have a:=i.h d
 refine P 1 Z ?_
 refine H (O (aw ?_))
 cases h
 exact aF Z Z ⟨n,f,Z,a.e [0,1] Z Z⟩
theorem eo {m:World}  {r:Bool×List UInt32×Bool×List UInt32×Bool×List UInt32}
  (h:F.B2 =some r) :Calls Tryz.prog 86 #[] m (Ret fun v w=>∃e f g:Value,∃j k l:Nat,v=.agg #[N j 0,N k 0,N l 0]∧St [] m w [X j [I r.1,e],M U e r.2.1,X k [I r.2.2.1,f],M U f r.2.2.2.1,X l [I r.2.2.2.2.1,g],M U g r.2.2.2.2.2]):=by
 refine aJ 5 Tryz.func86 Z Z Z ?_
 have a:=St.l m
 refine au [] V ?_
 unfold F.B2 at h
 refine J (af (aT (aY (cs:=[.pointer none,.pointer none,.pointer none]) eQ Z a) Z ?_))
 rintro _ w ⟨n,rfl,a⟩
 refine H (O (J (af (aT (aY (cs:=[I false,.slice none 0 0]) c6 Z a) Z ?_))))
 rintro _ w ⟨b,rfl,a⟩
 refine aT (aY (cs:=[I false,.slice none 0 0]) c6 Z a) Z ?_
 rintro _ w ⟨c,rfl,a⟩
 refine aT (aY (cs:=[I false,.slice none 0 0]) c6 Z a) Z ?_
 rintro _ w ⟨d,rfl,a⟩
 refine am (bY (vs:=[(0,N b 0,[N b 0]),(1,N c 0,[N c 0]),(2,N d 0,[N d 0])]) (cells:=[N b 0,N c 0,N d 0]) Z mB ⟨Z,Z,Z,V⟩ Z) Z ?_
 refine bk (bl (i:=3) (us:=[N b 0,N c 0,N d 0]) Z bL Z Z Z ⟨Z,Z,Z,V⟩ Z a) ?_
 intro w a
 refine H (O (aw ?_))
 cases h
 exact eN Z ⟨_,Z,bJ (us:=[N b 0,N c 0,N d 0]) u91 Z bL (a.q 3 Z Z)⟩ ⟨.slice none 0 0,.slice none 0 0,.slice none 0 0,b,c,d,Z,(((a.nil U).nil U).nil U).e [5,2,4,1,3,0] Z Z⟩
theorem eR {a:World} {m n o p q y:List UInt32} {d e f g i b:Value} {G z A B C D j:Nat} {S:List Nat} (c s t u x:Bool) (L:Int) (l:Bool) {r:Bool×List UInt32}
  (h:F.Ck c m s n t o u p x q L l y=some r) (hS:St S a a [X j [I l,b],M U b y]) (E:RP S a U d m) (T:RB S a z [I c,d]) (ak:RP S a U e n) (aq:RB S a A [I s,e]) (al:RP S a U f o) (ar:RB S a B [I t,f]) (an:RP S a U g p) (ax:RB S a C [I u,g]) (ap:RP S a U i q) (ay:RB S a D [I x,i]) (hBa0:RB S a G [N z 0,N A 0,N B 0,N C 0,N D 0,vI L,.func (.func 168) #[] #[]]):Calls Tryz.prog 139 #[N G 0,N j 0] a (Ret fun v w=>∃ab:Value,v=N j 0∧St S a w [X j [I r.1,ab],M U ab r.2]):=by
 refine aJ 12 Tryz.func139 Z Z Z ?_
 refine au [(0,N G 0),(1,N j 0)] ⟨Z,Z,V⟩ ?_
 unfold F.Ck at h
 refine J (af (P 1 Z ?_))
 refine H (O (J (af (P 3 Z ?_))))
 refine am (aK Z) Z (am (av (k:=0) u76 Z Z cw Z) Z (am (aC u73 Z Z (hBa0.cell hS.fr 0 Z)) Z ?_))
 have hG:=hS.pick (os':=[X j [I l,b],M U b y]++[]) [0,1] (by decide) Z
 obtain ⟨aB,ag,h⟩:=aj h
 refine ao Z (gy l c ag hG.g (E.g (R Z) hG) (T.g hG)) Z ?_
 rintro _ w ⟨az,rfl,aA⟩
 have hS:=hG.h aA
 refine P 1 Z ?_
 refine H (O (aw ?_))
 cases h
 exact aF Z Z ⟨az,Z,hS.e [0,1] Z Z⟩
theorem a7 {b:World} {o p q s t ad ag:List UInt32} {i j k l m z A:Value} {ak B C D E G al am:Nat} (c d e f g:Bool) (u:Int) (x y:Bool) {r:Bool×List UInt32}
  (h:F.BL c o d p e q f s g t u x ad y ag=some r) (L:RP [] b U i o) (an:RB [] b B [I c,i]) (S:RP [] b U j p) (ap:RB [] b C [I d,j]) (T:RP [] b U k q) (aq:RB [] b D [I e,k]) (ab:RP [] b U l s) (ar:RB [] b E [I f,l]) (ac:RP [] b U m t) (av:RB [] b G [I g,m]) (hBa0:RB [] b ak [N B 0,N C 0,N D 0,N E 0,N G 0,vI u,.func (.func 168) #[] #[]]) (aB:RP [] b U z ad) (hBa1:RB [] b al [I x,z]) (aC:RP [] b U A ag) (hBa2:RB [] b am [I y,A]):Calls Tryz.prog 135 #[N ak 0,N al 0,N am 0] b (Ret fun v w=>∃ax:Value,∃un0:Nat,v=N un0 0∧St [] b w [X un0 [I r.1,ax],M U ax r.2]):=by
 refine aJ 13 Tryz.func135 Z Z Z ?_
 have n:=St.l b
 refine au [(0,N ak 0),(1,N al 0),(2,N am 0)] ⟨Z,Z,Z,V⟩ ?_
 unfold F.BL at h
 refine J (af (P 1 Z ?_))
 refine H (O (J (af (P 1 Z ?_))))
 refine aT (aY (cs:=[I false,.slice none 0 0]) c6 Z n) Z ?_
 rintro _ w ⟨ay,rfl,n⟩
 refine P 2 Z ?_
 replace n:=n.nil U
 have a:=n.pick (os':=[X ay [I false,.slice none 0 0],M U (.slice none 0 0) []]++[]) [1,0] (by decide) Z
 obtain ⟨az,aE,h⟩:=aj h
 refine ao Z (gi false x y aE a.g (aB.g (R Z) a) (hBa1.g a) (aC.g (R Z) a) (hBa2.g a)) Z ?_
 rintro _ w ⟨aD,rfl,aA⟩
 have n:=a.h aA
 have a:=n.pick (os':=[X ay [I az.1,aD],M U aD az.2]++[]) [0,1] (by decide) Z
 obtain ⟨aI,aG,h⟩:=aj h
 refine ao Z (eR c d e f g u az.1 aG a.g (L.g (R Z) a) (an.g a) (S.g (R Z) a) (ap.g a) (T.g (R Z) a) (aq.g a) (ab.g (R Z) a) (ar.g a) (ac.g (R Z) a) (av.g a) (hBa0.g a)) Z ?_
 rintro _ w ⟨aH,rfl,aA⟩
 have n:=a.h aA
 refine P 1 Z ?_
 refine H (O (aw ?_))
 cases h
 exact aF Z Z ⟨aH,ay,Z,n.e [0,1] Z Z⟩
theorem cW {b:World} {n o p q s T:List UInt32} {i j k l m x:Value} {ab y z A B C ac:Nat} (c d e f g:Bool) (t a1:Int) (u:Bool) {r:Bool×List UInt32}
  (h:F.B5 c n d o e p f q g s t a1 u T=some r) (D:RP [] b U i n) (ad:RB [] b y [I c,i]) (E:RP [] b U j o) (ag:RB [] b z [I d,j]) (G:RP [] b U k p) (ak:RB [] b A [I e,k]) (L:RP [] b U l q) (al:RB [] b B [I f,l]) (S:RP [] b U m s) (am:RB [] b C [I g,m]) (hBa0:RB [] b ab [N y 0,N z 0,N A 0,N B 0,N C 0,vI t,.func (.func 168) #[] #[]]) (aq:RP [] b U x T) (hBa2:RB [] b ac [I u,x]):Calls Tryz.prog 138 #[N ab 0,vI a1,N ac 0] b (Ret fun v w=>∃an:Value,∃un0:Nat,v=N un0 0∧St [] b w [X un0 [I r.1,an],M U an r.2]):=by
 refine aJ 12 Tryz.func138 Z Z Z ?_
 have a:=St.l b
 refine au [(0,N ab 0),(1,vI a1),(2,N ac 0)] ⟨Z,Z,Z,V⟩ ?_
 unfold F.B5 at h
 refine J (af (P 1 Z ?_))
 refine H (O (J (af (P 2 Z ?_))))
 obtain ⟨ax,ar,h⟩:=aj h
 refine ao Z (cG a1 ar ) Z ?_
 rintro _ w ⟨aA,aB,rfl,ap⟩
 have a:=a.f ap
 refine P 1 Z ?_
 obtain ⟨aC,av,h⟩:=aj h
 refine ao Z (a7 c d e f g t ax.1 u av (D.d a.fr).rp (ad.d a.fr) (E.d a.fr).rp (ag.d a.fr) (G.d a.fr).rp (ak.d a.fr) (L.d a.fr).rp (al.d a.fr) (S.d a.fr).rp (am.d a.fr) (hBa0.d a.fr) (a.ro 1 Z).rp (a.rb 0 Z) (aq.d a.fr).rp (hBa2.d a.fr)) Z ?_
 rintro _ w ⟨ay,az,rfl,ap⟩
 have a:=a.f ap
 refine P 1 Z ?_
 refine H (O (aw ?_))
 cases h
 exact aF Z Z ⟨ay,az,Z,a.e [0,1] Z Z⟩
theorem cn {b:World} {o p q s t ad ag:List UInt32} {i j k l m z A:Value} {ak B C D E G al am:Nat} (c d e f g:Bool) (u:Int) (x y:Bool) {r:Bool×List UInt32}
  (h:F.BT c o d p e q f s g t u x ad y ag=some r) (L:RP [] b U i o) (an:RB [] b B [I c,i]) (S:RP [] b U j p) (ap:RB [] b C [I d,j]) (T:RP [] b U k q) (aq:RB [] b D [I e,k]) (ab:RP [] b U l s) (ar:RB [] b E [I f,l]) (ac:RP [] b U m t) (av:RB [] b G [I g,m]) (hBa0:RB [] b ak [N B 0,N C 0,N D 0,N E 0,N G 0,vI u,.func (.func 168) #[] #[]]) (aB:RP [] b U z ad) (hBa1:RB [] b al [I x,z]) (aC:RP [] b U A ag) (hBa2:RB [] b am [I y,A]):Calls Tryz.prog 137 #[N ak 0,N al 0,N am 0] b (Ret fun v w=>∃ax:Value,∃un0:Nat,v=N un0 0∧St [] b w [X un0 [I r.1,ax],M U ax r.2]):=by
 refine aJ 13 Tryz.func137 Z Z Z ?_
 have n:=St.l b
 refine au [(0,N ak 0),(1,N al 0),(2,N am 0)] ⟨Z,Z,Z,V⟩ ?_
 unfold F.BT at h
 refine J (af (P 1 Z ?_))
 refine H (O (J (af (P 1 Z ?_))))
 refine aT (aY (cs:=[I false,.slice none 0 0]) c6 Z n) Z ?_
 rintro _ w ⟨ay,rfl,n⟩
 refine P 2 Z ?_
 replace n:=n.nil U
 have a:=n.pick (os':=[X ay [I false,.slice none 0 0],M U (.slice none 0 0) []]++[]) [1,0] (by decide) Z
 obtain ⟨az,aE,h⟩:=aj h
 refine ao Z (jn false x y aE a.g (aB.g (R Z) a) (hBa1.g a) (aC.g (R Z) a) (hBa2.g a)) Z ?_
 rintro _ w ⟨aD,rfl,aA⟩
 have n:=a.h aA
 have a:=n.pick (os':=[X ay [I az.1,aD],M U aD az.2]++[]) [0,1] (by decide) Z
 obtain ⟨aI,aG,h⟩:=aj h
 refine ao Z (eR c d e f g u az.1 aG a.g (L.g (R Z) a) (an.g a) (S.g (R Z) a) (ap.g a) (T.g (R Z) a) (aq.g a) (ab.g (R Z) a) (ar.g a) (ac.g (R Z) a) (av.g a) (hBa0.g a)) Z ?_
 rintro _ w ⟨aH,rfl,aA⟩
 have n:=a.h aA
 refine P 1 Z ?_
 refine H (O (aw ?_))
 cases h
 exact aF Z Z ⟨aH,ay,Z,n.e [0,1] Z Z⟩
theorem jb {x:World} {ak al an ap aq aP aQ:List UInt32} {L S T ab ac aA aB:Value} {aR aD aE aG aL aM aS aT:Nat} (b d g i j:Bool) (z:Int) (A E:Bool) {r:Bool}
  (h:F.DJ b ak d al g an i ap j aq z A aP E aQ=some r) (c:RP [] x U L ak) (l:RB [] x aD [I b,L]) (f:RP [] x U S al) (p:RB [] x aE [I d,S]) (m:RP [] x U T an) (q:RB [] x aG [I g,T]) (n:RP [] x U ab ap) (s:RB [] x aL [I i,ab]) (o:RP [] x U ac aq) (u:RB [] x aM [I j,ac]) (hBa0:RB [] x aR [N aD 0,N aE 0,N aG 0,N aL 0,N aM 0,vI z,.func (.func 168) #[] #[]]) (B:RP [] x U aA aP) (hBa1:RB [] x aS [I A,aA]) (ad:RP [] x U aB aQ) (hBa2:RB [] x aT [I E,aB]):Calls Tryz.prog 76 #[N aR 0,N aS 0,N aT 0] x (Ret fun v w=>v=I r∧St [] x w []):=by
 refine aJ 55 Tryz.func76 Z Z Z ?_
 have a:=St.l x
 refine au [(0,N aR 0),(1,N aS 0),(2,N aT 0)] ⟨Z,Z,Z,V⟩ ?_
 unfold F.DJ at h
 refine J (af (P 1 Z ?_))
 refine H (O (J (af (P 5 Z ?_))))
 obtain ⟨ar,a9,h⟩:=aj h
 refine ao Z (a7 b d g i j z A A a9 (c.d a.fr).rp (l.d a.fr) (f.d a.fr).rp (p.d a.fr) (m.d a.fr).rp (q.d a.fr) (n.d a.fr).rp (s.d a.fr) (o.d a.fr).rp (u.d a.fr) (hBa0.d a.fr) (B.d a.fr).rp (hBa1.d a.fr) (B.d a.fr).rp (hBa1.d a.fr)) Z ?_
 rintro _ w ⟨aN,a6,rfl,e⟩
 have a:=a.f e
 obtain ⟨ax,bb,h⟩:=aj h
 refine ao Z (a7 b d g i j z A ar.1 bb (c.d a.fr).rp (l.d a.fr) (f.d a.fr).rp (p.d a.fr) (m.d a.fr).rp (q.d a.fr) (n.d a.fr).rp (s.d a.fr) (o.d a.fr).rp (u.d a.fr) (hBa0.d a.fr) (B.d a.fr).rp (hBa1.d a.fr) (a.ro 1 Z).rp (a.rb 0 Z)) Z ?_
 rintro _ w ⟨aO,a8,rfl,e⟩
 have a:=a.f e
 refine P 1 Z ?_
 refine H (O (J (af (P 4 Z ?_))))
 obtain ⟨G,aY,h⟩:=aj h
 refine ao Z (cW b d g i j z 3 A aY (c.d a.fr).rp (l.d a.fr) (f.d a.fr).rp (p.d a.fr) (m.d a.fr).rp (q.d a.fr) (n.d a.fr).rp (s.d a.fr) (o.d a.fr).rp (u.d a.fr) (hBa0.d a.fr) (B.d a.fr).rp (hBa1.d a.fr)) Z ?_
 rintro _ w ⟨ag,aU,rfl,e⟩
 have a:=a.f e
 obtain ⟨ay,aZ,h⟩:=aj h
 refine ao Z (cn b d g i j z ax.1 G.1 aZ (c.d a.fr).rp (l.d a.fr) (f.d a.fr).rp (p.d a.fr) (m.d a.fr).rp (q.d a.fr) (n.d a.fr).rp (s.d a.fr) (o.d a.fr).rp (u.d a.fr) (hBa0.d a.fr) (a.ro 3 Z).rp (a.rb 2 Z) (a.ro 1 Z).rp (a.rb 0 Z)) Z ?_
 rintro _ w ⟨aV,aW,rfl,e⟩
 have a:=a.f e
 refine P 1 Z ?_
 refine H (O (J (af (P 4 Z ?_))))
 refine am (aK Z) Z (am (av (k:=1) u76 Z Z cw Z) Z (am (aC u73 Z Z (hBa0.cell a.fr 1 Z)) Z ?_))
 have y:=a.pick (os':=[X aW [I ay.1,aV],M U aV ay.2]++[X aU [I G.1,ag],M U ag G.2,X a8 [I ax.1,aO],M U aO ax.2,X a6 [I ar.1,aN],M U aN ar.2]) [0,1,2,3,4,5,6,7] (by decide) Z
 obtain ⟨az,a0,h⟩:=aj h
 refine ao Z (dw ay.1 d a0 y.g (f.g (R Z) y) (p.g y)) Z ?_
 rintro _ w ⟨aX,rfl,e⟩
 have a:=y.h e
 have y:=a.pick (os':=[X aW [I az.1,aX],M U aX az.2]++[X aU [I G.1,ag],M U ag G.2,X a8 [I ax.1,aO],M U aO ax.2,X a6 [I ar.1,aN],M U aN ar.2]) [0,1,2,3,4,5,6,7] (by decide) Z
 obtain ⟨bc,a1,h⟩:=aj h
 refine ao Z (eR b d g i j z az.1 a1 y.g (c.g (R Z) y) (l.g y) (f.g (R Z) y) (p.g y) (m.g (R Z) y) (q.g y) (n.g (R Z) y) (s.g y) (o.g (R Z) y) (u.g y) (hBa0.g y)) Z ?_
 rintro _ w ⟨bg,rfl,e⟩
 have a:=y.h e
 refine P 1 Z ?_
 refine H (O (J (af (P 2 Z ?_))))
 refine am (aK Z) Z (am (av (k:=0) u76 Z Z cw Z) Z (am (aC u73 Z Z (hBa0.cell a.fr 0 Z)) Z ?_))
 obtain ⟨bd,a2,h⟩:=aj h
 refine ao Z (fk A b a2 (B.d a.fr).rp (hBa1.d a.fr) (c.d a.fr).rp (l.d a.fr)) Z ?_
 rintro _ w ⟨rfl,e⟩
 have a:=a.f e
 refine P 2 Z ?_
 cases C:(decide (bd<0))
 case true=>
  have h:=aI h C
  try simp only [C]
  refine P 2 Z ?_
  refine ba (t:=37) Z Z (aK Z) Z (ba (t:=37) Z Z (av (k:=0) u76 Z Z cw Z) Z (ba (t:=37) Z Z (aC u73 Z Z (hBa0.cell a.fr 0 Z)) Z ?_))
  obtain ⟨be,a3,h⟩:=aj h
  refine cc (t:=37) Z Z (by kernel_rfl) Z (fk E b a3 (ad.d a.fr).rp (hBa2.d a.fr) (c.d a.fr).rp (l.d a.fr)) Z ?_
  rintro _ w ⟨rfl,e⟩
  have a:=a.f e
  refine P 3 Z ?_
  cases D:(decide (be<0))
  case true=>
   have h:=aI h D
   try simp only [D]
   refine P 3 Z ?_
   obtain ⟨bf,a4,h⟩:=aj h
   refine cc (t:=46) Z Z (by kernel_rfl) Z (a7 b d g i j z E E a4 (c.d a.fr).rp (l.d a.fr) (f.d a.fr).rp (p.d a.fr) (m.d a.fr).rp (q.d a.fr) (n.d a.fr).rp (s.d a.fr) (o.d a.fr).rp (u.d a.fr) (hBa0.d a.fr) (ad.d a.fr).rp (hBa2.d a.fr) (ad.d a.fr).rp (hBa2.d a.fr)) Z ?_
   rintro _ w ⟨bh,bi,rfl,e⟩
   have a:=a.f e
   refine P 1 Z ?_
   obtain ⟨bj,a5,h⟩:=aj h
   refine cc (t:=46) Z Z (by kernel_rfl) Z (fk bf.1 bc.1 a5 (a.ro 1 Z).rp (a.rb 0 Z) (a.ro 3 Z).rp (a.rb 2 Z)) Z ?_
   rintro _ w ⟨rfl,e⟩
   have a:=a.f e
   refine P 3 Z ?_
   refine H (O (aw ?_))
   cases h
   exact aF Z Z ⟨Z,a.e [] Z Z⟩
  case false=>
   have h:=aH h D
   try simp only [D]
   refine P 9 Z ?_
   refine H (O (aw ?_))
   cases h
   exact aF Z Z ⟨Z,a.e [] Z Z⟩
 case false=>
  have h:=aH h C
  try simp only [C]
  refine P 18 Z ?_
  refine H (O (aw ?_))
  cases h
  exact aF Z Z ⟨Z,a.e [] Z Z⟩
theorem lN {b:World} {ac ad ag ak an aG aK:List UInt32} {d e f g j l m:Value} {aL C D E G L:Nat} {T:List Nat} (o p q s u:Bool) (ar:Int) (ap:Bool) {r:Bool×List UInt32×Bool×List UInt32×Bool×List UInt32×Bool}
  (h:F.D7 o ac p ad q ag s ak u an ar aG aK ap=some r) (hTT:TOk [] T b) (aM:RP T b U d ac) (aR:RB T b C [I o,d]) (aN:RP T b U e ad) (aS:RB T b D [I p,e]) (aO:RP T b U f ag) (aU:RB T b E [I q,f]) (aP:RP T b U g ak) (aV:RB T b G [I s,g]) (aQ:RP T b U j an) (aW:RB T b L [I u,j]) (hBa0:RB T b aL [N C 0,N D 0,N E 0,N G 0,N L 0,vI ar,.func (.func 168) #[] #[]]) (a6:RP T b U l aG) (a7:RP T b U m aK):Calls Tryz.prog 132 #[N aL 0,.agg #[l,m,I ap]] b (Ret fun v w=>∃aX:Nat,∃aA:Value,∃a0:Nat,∃aD:Value,∃a1:Nat,∃aF:Value,v=.tuple #[.agg #[N aX 0,N a0 0,N a1 0],I r.2.2.2.2.2.2]∧St [] b w []∧Q T w [X a1 [I r.2.2.2.2.1,aF],red U aF r.2.2.2.2.2.1,X a0 [I r.2.2.1,aD],red U aD r.2.2.2.1,X aX [I r.1,aA],red U aA r.2.1]):=by
 refine aJ 33 Tryz.func132 Z Z Z ?_
 have a:=St.l b
 have hZ:=Fz.l (S:=[]) (w0:=b)
 have hA0:Q T b [red U m aK,red U l aG,X aL [N C 0,N D 0,N E 0,N G 0,N L 0,vI ar,.func (.func 168) #[] #[]],X L [I u,j],red U j an,X G [I s,g],red U g ak,X E [I q,f],red U f ag,X D [I p,e],red U e ad,X C [I o,d],red U d ac]:=Y (RP.i (R Z) a7) (Y (RP.i (R Z) a6) (Y hBa0.i (Y aW.i (Y (RP.i (R Z) aQ) (Y aV.i (Y (RP.i (R Z) aP) (Y aU.i (Y (RP.i (R Z) aO) (Y aS.i (Y (RP.i (R Z) aN) (Y aR.i (Y (RP.i (R Z) aM) (Q.nil)))))))))))))
 have n:=hA0.all
 have hP:=hA0.off Z
 refine au [(0,N aL 0),(1,.agg #[l,m,I ap])] ⟨Z,Z,V⟩ ?_
 unfold F.D7 at h
 refine J (af (aT (da (cs:=[l,m,I ap]) Z Z a) Z ?_))
 rintro _ w ⟨bp,rfl,a⟩
 refine aT (aY (cs:=[.pointer none,.pointer none,.pointer none]) eQ Z a) Z ?_
 rintro _ w ⟨bq,rfl,a⟩
 refine P 1 Z ?_
 refine H (O (J ?_))
 refine aZ (fun w'=>St [] b w' [X bq [.pointer none,.pointer none,.pointer none],X bp [l,m,I ap]]) (fun i=>!([2,5].contains i)) bS (fun _ _ _ hf=>hf.2) (fun _ _ hf=>hf) (by kernel_rfl) ?_
 have a:=a.drew
 show lxE _ _ _ _ _ _ _ [0,1,2,3,4,5,6,7] _ _
 refine al a Z Z (fun w hF=>av (k:=0) u33 Z Z kT Z) Z (al a Z Z (fun w hF=>aC u31 Z Z (hF.r 1 Z 0)) Z ?_)
 obtain ⟨be,bi,h⟩:=aj h
 refine bg a Z Z (by kernel_rfl) Z (kR  bi ((n.rp 11 Z).d a.fr).rp) Z ?_
 rintro _ w ⟨br,aq,rfl,c⟩
 have a:=a.f c
 refine al (a.e [2,3] Z Z) Z Z (fun w hF=>av (k:=1) u33 Z Z kT Z) Z (al (a.e [2,3] Z Z) Z Z (fun w hF=>aC u31 Z Z (hF.r 1 Z 1)) Z ?_)
 obtain ⟨a2,a8,h⟩:=aj h
 refine bg (a.e [2,3] Z Z) Z Z (by kernel_rfl) Z (kR  a8 ((n.rp 12 Z).d a.fr).rp) Z ?_
 rintro _ w ⟨bj,x,rfl,c⟩
 have a:=a.f c
 refine al (a.e [4,5] Z Z) Z Z (fun w hF=>aB Z) Z (al (a.e [4,5] Z Z) Z Z (fun w hF=>aB Z) Z (bn (a.e [4,5] Z Z) ?_))
 refine O (J (J (af (am (av (k:=2) u33 Z Z nz4 Z) Z (am (aC Tryz.underlying4 Z Z (a.r 5 Z 2)) Z (H (O ?_)))))))
 refine ax Z (fun az=>?_) (fun az=>?_)
 ·have h:=aI h az
  refine J (af ?_)
  obtain ⟨bs,a9,h⟩:=aj h
  refine ao Z (eo  a9 ) Z ?_
  rintro _ w ⟨a3,a4,a5,y,z,A,rfl,c⟩
  have a:=a.f c
  refine P 1 Z ?_
  obtain ⟨bm,ba,h⟩:=aj h
  refine ao Z (cD be.1 ba (a.ro 9 Z).rp (a.rb 8 Z)) Z ?_
  rintro _ w ⟨rfl,c⟩
  have a:=a.f c
  refine P 2 Z ?_
  cases ab:(bm == 0)
  case true=>
   have h:=aI h ab
   try simp only [ab]
   refine P 1 Z ?_
   obtain ⟨bt,bb,h⟩:=aj h
   refine cc (t:=20) Z Z (by kernel_rfl) Z (cD a2.1 bb (a.ro 7 Z).rp (a.rb 6 Z)) Z ?_
   rintro _ w ⟨rfl,c⟩
   have a:=a.f c
   refine P 2 Z ?_
   refine bk (bl (i:=10) (us:=[N y 0,N z 0,N A 0]) Z bL Z Z Z ⟨Z,Z,Z,V⟩ Z a) ?_
   intro w a
   refine P 1 Z ?_
   refine H (O (aw (aE ?_)))
   cases h
   obtain ⟨hS0,hR⟩:=hZ.outT hTT n hP a
   exact dR Z ⟨_,Z,bJ (us:=[N y 0,N z 0,N A 0]) u91 Z bL (a.q 10 Z Z)⟩ Z ⟨y,a3,z,a4,A,a5,Z,hS0,(Y (hR.b 20 Z) (Y (hR.b 19 Z) (Y (hR.b 22 Z) (Y (hR.b 21 Z) (Y (hR.b 24 Z) (Y (hR.b 23 Z) Q.nil))))))⟩
  case false=>
   have h:=aH h ab
   try simp only [ab]
   refine P 4 Z ?_
   refine bk (bl (i:=10) (us:=[N y 0,N z 0,N A 0]) Z bL Z Z Z ⟨Z,Z,Z,V⟩ Z a) ?_
   intro w a
   refine P 1 Z ?_
   refine H (O (aw (aE ?_)))
   cases h
   obtain ⟨hS0,hR⟩:=hZ.outT hTT n hP a
   exact dR Z ⟨_,Z,bJ (us:=[N y 0,N z 0,N A 0]) u91 Z bL (a.q 10 Z Z)⟩ Z ⟨y,a3,z,a4,A,a5,Z,hS0,(Y (hR.b 20 Z) (Y (hR.b 19 Z) (Y (hR.b 22 Z) (Y (hR.b 21 Z) (Y (hR.b 24 Z) (Y (hR.b 23 Z) Q.nil))))))⟩
 have h:=aH h az
 refine ay (O (J (af (P 2 Z ?_))))
 obtain ⟨bu,bc,h⟩:=aj h
 refine ao Z (cG 1 bc ) Z ?_
 rintro _ w ⟨bo,B,rfl,c⟩
 have a:=a.f c
 refine am (bY (vs:=[(0,N aq 0,[N aq 0]),(1,N x 0,[N x 0]),(2,N B 0,[N B 0])]) (cells:=[N aq 0,N x 0,N B 0]) Z mB ⟨Z,Z,Z,V⟩ Z) Z ?_
 refine P 3 Z ?_
 obtain ⟨bv,bd,h⟩:=aj h
 refine ao Z (jb o p q s u ar be.1 a2.1 bd ((n.rp 0 Z).d a.fr).rp ((n.rb 1 Z).d a.fr) ((n.rp 2 Z).d a.fr).rp ((n.rb 3 Z).d a.fr) ((n.rp 4 Z).d a.fr).rp ((n.rb 5 Z).d a.fr) ((n.rp 6 Z).d a.fr).rp ((n.rb 7 Z).d a.fr) ((n.rp 8 Z).d a.fr).rp ((n.rb 9 Z).d a.fr) ((n.rb 10 Z).d a.fr) (a.ro 5 Z).rp (a.rb 4 Z) (a.ro 3 Z).rp (a.rb 2 Z)) Z ?_
 rintro _ w ⟨rfl,c⟩
 have a:=a.f c
 refine bk (bl (i:=6) (us:=[N aq 0,N x 0,N B 0]) Z bL Z Z Z ⟨Z,Z,Z,V⟩ Z a) ?_
 intro w a
 refine P 1 Z ?_
 refine H (O (aw ?_))
 cases h
 obtain ⟨hS0,hR⟩:=hZ.outT hTT n hP a
 exact dR Z ⟨_,Z,bJ (us:=[N aq 0,N x 0,N B 0]) u91 Z bL (a.q 6 Z Z)⟩ Z ⟨aq,br,x,bj,B,bo,Z,hS0,(Y (hR.b 20 Z) (Y (hR.b 19 Z) (Y (hR.b 18 Z) (Y (hR.b 17 Z) (Y (hR.b 16 Z) (Y (hR.b 15 Z) Q.nil))))))⟩
theorem gz {m:World} {E G:List UInt32} {e f:Value} {T:List Nat} (a0:Int) (l:Bool) {r:Option (Bool×List UInt32×Bool×List UInt32×Bool×List UInt32×Bool×List UInt32×Bool×List UInt32×Int×Bool×List UInt32×Bool×List UInt32×Bool×List UInt32)×Bool}
  (h:F.CM a0 E G l=some r) (hTT:TOk [] T m) (aN:RP T m U e E) (aO:RP T m U f G):Calls Tryz.prog 71 #[vI a0,.agg #[e,f,I l]] m (Ret fun v w=>kf r.1 (v=.tuple #[.pointer none,.agg #[.pointer none,.pointer none,.pointer none],I r.2]∧St [] m w []) (fun c=>∃b0:Nat,∃ak:Nat,∃p:Value,∃an:Nat,∃q:Value,∃ap:Nat,∃s:Value,∃av:Nat,∃t:Value,∃ax:Nat,∃u:Value,∃az:Nat,∃x:Value,∃aA:Nat,∃y:Value,∃aC:Nat,∃z:Value,v=.tuple #[N b0 0,.agg #[N az 0,N aA 0,N aC 0],I r.2]∧St [] m w []∧Q T w [X aC [I c.2.2.2.2.2.2.2.2.2.2.2.2.2.2.2.1,z],red U z c.2.2.2.2.2.2.2.2.2.2.2.2.2.2.2.2,X aA [I c.2.2.2.2.2.2.2.2.2.2.2.2.2.1,y],red U y c.2.2.2.2.2.2.2.2.2.2.2.2.2.2.1,X az [I c.2.2.2.2.2.2.2.2.2.2.2.1,x],red U x c.2.2.2.2.2.2.2.2.2.2.2.2.1,X b0 [N ak 0,N an 0,N ap 0,N av 0,N ax 0,vI c.2.2.2.2.2.2.2.2.2.2.1,.func (.func 168) #[] #[]],X ax [I c.2.2.2.2.2.2.2.2.1,u],red U u c.2.2.2.2.2.2.2.2.2.1,X av [I c.2.2.2.2.2.2.1,t],red U t c.2.2.2.2.2.2.2.1,X ap [I c.2.2.2.2.1,s],red U s c.2.2.2.2.2.1,X an [I c.2.2.1,q],red U q c.2.2.2.1,X ak [I c.1,p],red U p c.2.1])):=by
 refine aJ 24 Tryz.func71 Z Z Z ?_
 have a:=St.l m
 have hZ:=Fz.l (S:=[]) (w0:=m)
 have hA0:Q T m [red U f G,red U e E]:=Y (RP.i (R Z) aO) (Y (RP.i (R Z) aN) (Q.nil))
 have b:=hA0.all
 have d:=hA0.off Z
 refine au [(0,vI a0),(1,.agg #[e,f,I l])] ⟨Z,Z,V⟩ ?_
 unfold F.CM at h
 refine J (af (aT (da (cs:=[e,f,I l]) Z Z a) Z ?_))
 rintro _ w ⟨aD,rfl,a⟩
 refine P 1 Z ?_
 refine aT (aY (cs:=[.pointer none,.pointer none,.pointer none]) eQ Z a) Z ?_
 rintro _ w ⟨aS,rfl,a⟩
 refine P 1 Z ?_
 refine H (O (J (af (P 1 Z ?_))))
 replace a:=a.pick (os':=[]++[X aS [.pointer none,.pointer none,.pointer none],X aD [e,f,I l]]) [0,1] (by decide) rfl
 obtain ⟨hZ,b,d,a⟩:=hZ.frzK hTT b d a
 obtain ⟨a1,aU,h⟩:=aj h
 refine ao Z (gD a0 aU (hZ.okT hTT a)) Z ?_
 rintro v_q w hQ
 cases o:a1 with
 | none=>
  have h:=fx h o
  rw [o]at hQ
  obtain ⟨rfl,A⟩:=eJ hQ
  obtain ⟨a6,a2,hZ,b,d,a⟩:=hZ.m b d a A Q.nil rfl
  refine P 1 Z ?_
  refine H (O (J (J (af (P 1 Z ?_)))))
  refine am (aq Z Z (sQ u71)) Z (H (O (dZ Z ?_)))
  refine J (af (am (bY (vs:=[]) (cells:=[.pointer none,.pointer none,.pointer none]) Z mB V Z) Z (P 1 Z ?_)))
  refine bk (bl (i:=0) (us:=[.pointer none,.pointer none,.pointer none]) Z bL Z Z Z ⟨Z,Z,Z,V⟩ Z a) ?_
  intro w a
  refine P 1 Z ?_
  refine H (O (aw (aE ?_)))
  cases h
  obtain ⟨hS0,hR⟩:=hZ.outT hTT b d a
  exact we Z Z ⟨_,Z,bJ (us:=[.pointer none,.pointer none,.pointer none]) u91 Z bL (a.q 0 Z Z)⟩ Z (rQ ⟨Z,hS0⟩)
 | some n=>
  have h:=fv h o
  rw [o]at hQ
  obtain ⟨aF,aG,L,aH,ab,aI,ac,aK,ad,aL,ag,rfl,A,aM⟩:=eM hQ
  obtain ⟨a4,a3,hZ,b,d,a⟩:=hZ.m b d a A aM rfl
  refine P 1 Z ?_
  refine H (O (J (J (af (P 1 Z ?_)))))
  refine am (aq Z Z (sM u71 aF 0)) Z (H (O (fE Z ?_)))
  refine ay (O (J (af (P 1 Z ?_))))
  refine am (bI (us:=[e,f,I l]) u33 Z ce Z (a.q 1 Z Z)) Z ?_
  replace a:=a.pick (os':=[]++[X aS [.pointer none,.pointer none,.pointer none],X aD [e,f,I l]]) [0,1] (by decide) rfl
  obtain ⟨hZ,b,d,a⟩:=hZ.frzK hTT b d a
  obtain ⟨a5,aQ,h⟩:=aj h
  refine ao Z (lN n.1 n.2.2.1 n.2.2.2.2.1 n.2.2.2.2.2.2.1 n.2.2.2.2.2.2.2.2.1 n.2.2.2.2.2.2.2.2.2.2 l aQ (hZ.okT hTT a) (b.j d 2 Z) (b.k d 3 Z) (b.j d 4 Z) (b.k d 5 Z) (b.j d 6 Z) (b.k d 7 Z) (b.j d 8 Z) (b.k d 9 Z) (b.j d 10 Z) (b.k d 11 Z) (b.k d 12 Z) (b.j d 0 Z) (b.j d 1 Z)) Z ?_
  rintro _ w ⟨g,B,j,C,k,D,rfl,A,aM⟩
  obtain ⟨aV,aR,hZ,b,d,a⟩:=hZ.m b d a A aM rfl
  refine P 3 Z ?_
  refine aT (aY (cs:=[.pointer none,.pointer none,.pointer none]) eQ Z a) Z ?_
  rintro _ w ⟨aW,rfl,a⟩
  refine bk (bl (i:=0) (us:=[N g 0,N j 0,N k 0]) Z bL Z Z Z ⟨Z,Z,Z,V⟩ Z a) ?_
  intro w a
  refine P 1 Z ?_
  refine H (O (J ?_))
  refine aZ (fun w'=>St aV aR w' [X aW [N g 0,N j 0,N k 0],X aD [e,f,I l]]) (fun i=>!([4].contains i)) bS (fun _ _ _ hf=>hf.2) (fun _ _ hf=>hf) (by kernel_rfl) ?_
  have a:=a.drew
  show lxE _ _ _ _ _ _ _ [0,1,2,3,4,5] _ _
  refine al (a.e [0,2] Z Z) Z Z (fun w hF=>ar Z) Z (al (a.e [0,2] Z Z) Z Z (fun w hF=>bI (us:=[N g 0,N j 0,N k 0]) u91 Z bL Z (hF.q 0 Z Z)) Z (al (a.e [0,2] Z Z) Z Z (fun w hF=>ar Z) Z (al (a.e [0,2] Z Z) Z Z (fun w hF=>aB Z) Z (iU (a.e [0,2] Z Z) Z Z (bl (i:=1) (us:=[N g 0,N j 0,N k 0]) Z bL Z Z Z ⟨Z,Z,Z,V⟩ Z a) ?_))))
  intro w a
  refine al (a.e [0,2] Z Z) Z Z (fun w hF=>aB Z) Z (bn (a.e [0,2] Z Z) ?_)
  refine O (aw ?_)
  cases h
  obtain ⟨hS0,hR⟩:=hZ.outT hTT b d a
  exact we Z Z ⟨_,Z,bJ (us:=[N g 0,N j 0,N k 0]) u91 Z bL (a.q 1 Z Z)⟩ Z (nM ⟨aF,aG,L,aH,ab,aI,ac,aK,ad,aL,ag,g,B,j,C,k,D,Z,hS0,(Y (hR.b 18 Z) (Y (hR.b 17 Z) (Y (hR.b 16 Z) (Y (hR.b 15 Z) (Y (hR.b 14 Z) (Y (hR.b 13 Z) (Y (hR.b 12 Z) (Y (hR.b 11 Z) (Y (hR.b 10 Z) (Y (hR.b 9 Z) (Y (hR.b 8 Z) (Y (hR.b 7 Z) (Y (hR.b 6 Z) (Y (hR.b 5 Z) (Y (hR.b 4 Z) (Y (hR.b 3 Z) (Y (hR.b 2 Z) Q.nil)))))))))))))))))⟩)
theorem nU {e:World} {f g:List UInt32} {b c:Value} (a0:Int) (d:Bool) {r:Bool}
  (h:F.Ev a0 f g d=some r) (q:RP [] e U b f) (s:RP [] e U c g):Calls Tryz.prog 32 #[vI a0,.agg #[b,c,I d]] e (Ret fun v w=>v=I r∧St [] e w []):=by
 refine aJ 16 Tryz.func32 Z Z Z ?_
 have a:=St.l e
 have hZ:=Fz.l (S:=[]) (w0:=e)
 have hTT:TOk [] [] e:=TOk.nil
 have k:Q [] e [red U c g,red U b f]:=Y (RP.i (R Z) s) (Y (RP.i (R Z) q) (Q.nil))
 have l:K [] [red U c g,red U b f]:=K.emp
 refine au [(0,vI a0),(1,.agg #[b,c,I d])] ⟨Z,Z,V⟩ ?_
 unfold F.Ev at h
 refine J (af (aT (da (cs:=[b,c,I d]) Z Z a) Z ?_))
 rintro _ w ⟨G,rfl,a⟩
 refine P 1 Z ?_
 refine H (O (J (af (P 1 Z ?_))))
 refine am (bI (us:=[b,c,I d]) u33 Z ce Z (a.q 0 Z Z)) Z ?_
 replace a:=a.pick (os':=[]++[X G [b,c,I d]]) [0] (by decide) rfl
 obtain ⟨hZ,k,l,a⟩:=hZ.frzK hTT k l a
 obtain ⟨L,u,h⟩:=aj h
 refine ao Z (gz a0 d u (hZ.okT hTT a) (k.j l 0 Z) (k.j l 1 Z)) Z ?_
 rintro v_q w t
 cases j:L.1 with
 | none=>
  have h:=fx h j
  rw [j]at t
  obtain ⟨rfl,m⟩:=eJ t
  obtain ⟨av,an,hZ,k,l,a⟩:=hZ.m k l a m Q.nil rfl
  refine P 4 Z ?_
  refine aT (aY (cs:=[.pointer none,.pointer none,.pointer none]) eQ Z a) Z ?_
  rintro _ w ⟨ap,rfl,a⟩
  refine P 1 Z ?_
  refine bk (bl (i:=0) (us:=[.pointer none,.pointer none,.pointer none]) Z bL Z Z Z ⟨Z,Z,Z,V⟩ Z a) ?_
  intro w a
  refine P 1 Z ?_
  refine H (O (J (af (P 2 Z ?_))))
  refine H (O (aw ?_))
  cases h
  replace a:=hZ.st a
  exact aF Z Z ⟨Z,a.e [] Z Z⟩
 | some ax=>
  have h:=fv h j
  rw [j]at t
  obtain ⟨aq,T,x,ab,y,ac,z,ad,A,ag,B,n,C,o,D,p,E,rfl,m,ak⟩:=eM t
  obtain ⟨ay,al,hZ,k,l,a⟩:=hZ.m k l a m ak rfl
  refine P 4 Z ?_
  refine aT (aY (cs:=[.pointer none,.pointer none,.pointer none]) eQ Z a) Z ?_
  rintro _ w ⟨ar,rfl,a⟩
  refine P 1 Z ?_
  refine bk (bl (i:=0) (us:=[N n 0,N o 0,N p 0]) Z bL Z Z Z ⟨Z,Z,Z,V⟩ Z a) ?_
  intro w a
  refine P 1 Z ?_
  refine H (O (J (af (P 2 Z ?_))))
  refine H (O (aw ?_))
  cases h
  replace a:=hZ.st a
  exact aF Z Z ⟨Z,a.e [] Z Z⟩
theorem ee {b:World} {a0:List UInt32} {c:Value} {r:Bool×List UInt32×Bool}
  (h:F.B9 a0=some r) (i:RP [] b U c a0):Calls Tryz.prog 72 #[c] b (Ret fun v w=>∃d:Value,∃un0:Nat,v=.tuple #[N un0 0,I r.2.2]∧St [] b w [X un0 [I r.1,d],M U d r.2.1]):=by
 refine aJ 9 Tryz.func72 Z Z Z ?_
 have a:=St.l b
 have hZ:=Fz.l (S:=[]) (w0:=b)
 have hTT:TOk [] [] b:=TOk.nil
 have j:Q [] b [red U c a0]:=Y (RP.i (R Z) i) (Q.nil)
 have o:K [] [red U c a0]:=K.emp
 refine au [(0,c)] ⟨Z,V⟩ ?_
 unfold F.B9 at h
 refine J (af (P 2 Z ?_))
 refine H (O (J (af (P 1 Z ?_))))
 obtain ⟨m,f,h⟩:=aj h
 refine ao Z (kR  f ((j.rp 0 Z).d a.fr).rp) Z ?_
 rintro _ w ⟨k,l,rfl,e⟩
 have a:=a.f e
 refine P 1 Z ?_
 obtain ⟨n,g,h⟩:=aj h
 refine ao Z (dU  g ((j.rp 0 Z).d a.fr).rp) Z ?_
 rintro _ w ⟨rfl,e⟩
 have a:=a.f e
 refine P 3 Z ?_
 refine H (O (aw ?_))
 cases h
 replace a:=hZ.st a
 exact bW Z Z Z ⟨k,l,Z,a.e [0,1] Z Z⟩
end Go.Proofs
