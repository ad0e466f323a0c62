import Derived.Test.YtkickcbphbgldaaGreatDoorGkUL
import Derived.Test.YtkickcbphbgldaaGreatDoorGkEc0
import Derived.Test.YtkickcbphbgldaaGreatDoorGkUJ
import Derived.Test.YtkickcbphbgldaaGreatDoorGkFman
set_option linter.unusedVariables false
set_option linter.unusedSimpArgs false
set_option linter.unusedSectionVars false

section
namespace Go.Gk.Bn
open Go Go.Gk Go.Gk.Sh Go.Gk.Ec Go.Gk.Pr
instance cP_nz (c:Int):NeZero (cP c):=⟨by have:=(cZ c).2.2.2.2.2.1; omega⟩
theorem ig (c:Int):Prm (cP c):=by
 unfold cP
 split
 ·exact cH
 ·exact ca
theorem gg (c:Int):Prm (cN c):=by
 unfold cN
 split
 ·exact cI
 ·exact cb
theorem kE (c:Int):Fld (cP c):=Ah (ig c) (by have:=(cZ c).2.2.2.2.2.1; omega)
section
variable {p:Nat} [NeZero p]
def be (u:Fin p):Bool×List UInt32:=bi (u.val:Int)
theorem wS {x y:Int}:fz (p:=p) x=fz y↔x%p=y%p:=by
 constructor
 ·intro h
  rw [←fq (p:=p) x,h,fq]
 ·intro h
  rw [←gn x,h,gn]
theorem jM (z:Int):be (fz (p:=p) z)=bi (z%p):=by unfold be; rw [fq]
theorem wg:fz (p:=p) 1=1:=dz 1
theorem gx (u:Fin p) (hpl:nl (p:Int)≤1000):nl (u.val:Int)≤1000:=Nat.le_trans (dN (by have:=u.isLt; omega)) hpl
theorem gY (u:Fin p):F.BS (be u).1 (be u).2=some (if u=0 then 0 else 1):=by
 unfold be
 rw [mw]
 by_cases h:u=0
 ·have h0:(0:Fin p).val=0:=by simp
  rw [if_pos h,h,h0,if_pos (by rfl)]
 ·have h2:u.val≠0:=fun e=>h (Fin.ext (by rw [e]; simp))
  rw [if_neg h,if_neg (by omega),if_neg (by omega)]
variable (b0:Bool) (b1:List UInt32) (n0:Bool) (n1:List UInt32) (x0:Bool) (x1:List UInt32) (y0:Bool) (y1:List UInt32) (s:Int) (hpl:nl (p:Int)≤1000)
include hpl
theorem nA (u v:Fin p):F.BL (bi (p:Int)).1 (bi (p:Int)).2 b0 b1 n0 n1 x0 x1 y0 y1 s (be u).1 (be u).2 (be v).1 (be v).2=some (be (u*v)):=by
 have h1:=gx u hpl; have h2:=gx v hpl
 have h3:=Int.mul_nonneg (Int.natCast_nonneg u.val) (Int.natCast_nonneg v.val)
 unfold be
 rw [kv p b0 b1 n0 n1 x0 x1 y0 y1 s jJ hpl _ _ (by omega) (fun h=>by omega),Fin.val_mul,Int.natCast_emod,Int.natCast_mul]
theorem sh (u v:Fin p):F.BT (bi (p:Int)).1 (bi (p:Int)).2 b0 b1 n0 n1 x0 x1 y0 y1 s (be u).1 (be u).2 (be v).1 (be v).2=some (be (u - v)):=by
 have h1:=gx u hpl; have h2:=gx v hpl
 have h3:be (u - v)=bi (((u.val:Int) - (v.val:Int))%p):=by rw [←jM,ox,ft,ft]
 rw [h3]
 unfold be
 rw [tJ p b0 b1 n0 n1 x0 x1 y0 y1 s jJ hpl _ _ (by omega) (by omega)]
theorem ot (k:Nat) (hk:k≤1000) (u:Fin p):F.B5 (bi (p:Int)).1 (bi (p:Int)).2 b0 b1 n0 n1 x0 x1 y0 y1 s (k:Int) (be u).1 (be u).2=some (be (Fin.ofNat p k*u)):=by
 have h1:=gx u hpl
 have h3:be (Fin.ofNat p k*u)=bi (((k:Int)*(u.val:Int))%p):=by rw [←jM,iz,ft,dz]
 rw [h3]
 unfold be
 rw [pO p b0 b1 n0 n1 x0 x1 y0 y1 s jJ hpl (k:Int) _ (by omega) (by omega) (by omega) (by omega)]
theorem xb (u v:Fin p):(an (F.ED false [] (be u).1 (be u).2 (be v).1 (be v).2) fun x=>F.Ck (bi (p:Int)).1 (bi (p:Int)).2 b0 b1 n0 n1 x0 x1 y0 y1 s x.1 x.2)=some (be (u+v)):=by
 have h1:=gx u hpl; have h2:=gx v hpl
 have h3:be (u+v)=bi (((u.val:Int)+(v.val:Int))%p):=by rw [←jM,lP,ft,ft]
 have h4:=qJ (u.val:Int) (v.val:Int)
 rw [h3]
 unfold be
 rw [Ar _ _ _ _ (by omega) (by omega),ak,mo p b0 b1 n0 n1 x0 x1 y0 y1 s jJ hpl _ (by omega) (fun _=>by omega)]
omit hpl in
def jV (X Y Z:Fin p):Fin p×Fin p×Fin p:=
 if Z=0 then (X,Y,Z) else
  let zz:=Z*Z; let yy:=Y*Y; let s:=4*(X*yy); let m:=3*((X - zz)*(X+zz)); let x:=m*m - 2*s
  (x,m*(s - x) - 8*(yy*yy),2*(Y*Z))
omit hpl in
def iK (X1 Y1 Z1 X2 Y2 Z2:Fin p):Fin p×Fin p×Fin p:=
 if Z1=0 then (X2,Y2,Z2) else if Z2=0 then (X1,Y1,Z1) else
  let u1:=X1*(Z2*Z2); let s1:=Y1*(Z2*(Z2*Z2)); let h:=X2*(Z1*Z1) - u1; let r:=Y2*(Z1*(Z1*Z1)) - s1
  if h=0 then (if r=0 then jV X1 Y1 Z1 else (0,0,0)) else
   let hh:=h*h; let hhh:=h*hh; let v:=u1*hh; let x:=r*r - hhh - 2*v
   (x,r*(v - x) - s1*hhh,h*(Z1*Z2))
omit hpl in
def bt (t:Fin p×Fin p×Fin p):Bool×List UInt32×Bool×List UInt32×Bool×List UInt32:=((be t.1).1,(be t.1).2,(be t.2.1).1,(be t.2.1).2,(be t.2.2).1,(be t.2.2).2)
omit hpl in
noncomputable def jpt (t:Fin p×Fin p×Fin p):Pt p:=jac t.1 t.2.1 t.2.2
omit hpl in
theorem sg0 {u:Fin p}:(((if u=0 then (0:Int) else 1) == 0)=true)↔u=0:=by
 by_cases h:u=0
 ·rw [if_pos h]; simp [h]
 ·rw [if_neg h]; simp [h]
theorem ou (X Y Z:Fin p):F.Dn (bi (p:Int)).1 (bi (p:Int)).2 b0 b1 n0 n1 x0 x1 y0 y1 s (be X).1 (be X).2 (be Y).1 (be Y).2 (be Z).1 (be Z).2=some (bt (jV X Y Z)):=by
 have mul:=nA b0 b1 n0 n1 x0 x1 y0 y1 s hpl
 have sub:=sh b0 b1 n0 n1 x0 x1 y0 y1 s hpl
 have tim:=fun k hk=>ot b0 b1 n0 n1 x0 x1 y0 y1 s hpl k hk
 have ad:=xb b0 b1 n0 n1 x0 x1 y0 y1 s hpl
 unfold F.Dn
 rw [gY,ak]
 by_cases h:Z=0
 ·rw [if_pos (sg0.2 h)]
  unfold jV
  rw [if_pos h]; rfl
 ·rw [if_neg (fun q=>h (sg0.1 q)),mul,ak,mul,ak,mul,ak]
  have t4:=tim 4 (by decide); have t3:=tim 3 (by decide); have t2:=tim 2 (by decide); have t8:=tim 8 (by decide)
  have e4:((4:Nat):Int)=4:=rfl
  have e3:((3:Nat):Int)=3:=rfl
  have e2:((2:Nat):Int)=2:=rfl
  have e8:((8:Nat):Int)=8:=rfl
  rw [e4]at t4; rw [e3]at t3; rw [e2]at t2; rw [e8]at t8
  rw [t4,ak,sub,ak]
  have hb:∀{α β γ:Type} (x:Option α) (f:α→Option β) (g:β→Option γ),(an x fun a=>an (f a) g)=an (an x f) g:=fun x f g=>by cases x <;> rfl
  rw [hb,ad,ak,mul,ak,t3,ak,mul,ak,t2,ak,sub,ak,sub,ak,mul,ak,mul,ak,t8,ak,sub,ak,mul,ak,t2,ak]
  unfold jV
  rw [if_neg h]
  rfl
theorem t6 (X1 Y1 Z1 X2 Y2 Z2:Fin p):F.Cl (bi (p:Int)).1 (bi (p:Int)).2 b0 b1 n0 n1 x0 x1 y0 y1 s (be X1).1 (be X1).2 (be Y1).1 (be Y1).2 (be Z1).1 (be Z1).2 (be X2).1 (be X2).2 (be Y2).1 (be Y2).2 (be Z2).1 (be Z2).2=some (bt (iK X1 Y1 Z1 X2 Y2 Z2)):=by
 have mul:=nA b0 b1 n0 n1 x0 x1 y0 y1 s hpl
 have sub:=sh b0 b1 n0 n1 x0 x1 y0 y1 s hpl
 have t2:=ot b0 b1 n0 n1 x0 x1 y0 y1 s hpl 2 (by decide)
 have e2:((2:Nat):Int)=2:=rfl
 rw [e2]at t2
 unfold F.Cl iK
 rw [gY,ak]
 by_cases h1:Z1=0
 ·rw [if_pos (sg0.2 h1),if_pos h1]; rfl
 rw [if_neg (fun q=>h1 (sg0.1 q)),if_neg h1,gY,ak]
 by_cases h2:Z2=0
 ·rw [if_pos (sg0.2 h2),if_pos h2]; rfl
 rw [if_neg (fun q=>h2 (sg0.1 q)),if_neg h2,mul,ak,mul,ak,mul,ak,mul,ak,mul,ak,mul,ak,mul,ak,mul,ak,sub,ak,sub,ak,gY,ak]
 dsimp only
 by_cases h3:X2*(Z1*Z1) - X1*(Z2*Z2)=0
 ·rw [if_pos (sg0.2 h3),if_pos h3,gY,ak]
  by_cases h4:Y2*(Z1*(Z1*Z1)) - Y1*(Z2*(Z2*Z2))=0
  ·rw [if_pos (sg0.2 h4),if_pos h4,ou b0 b1 n0 n1 x0 x1 y0 y1 s hpl,ak]
  ·rw [if_neg (fun q=>h4 (sg0.1 q)),if_neg h4]
   unfold F.B2
   rw [ak]
   have h0:be (0:Fin p)=(false,[]):=by
    unfold be
    have:(0:Fin p).val=0:=by simp
    rw [this]
    exact congrArg (fun l=>(false,l)) bD
   unfold bt
   dsimp only
   rw [h0]
 ·rw [if_neg (fun q=>h3 (sg0.1 q)),if_neg h3,mul,ak,mul,ak,mul,ak,mul,ak,sub,ak,t2,ak,sub,ak,sub,ak,mul,ak,mul,ak,sub,ak,mul,ak,mul,ak]
  rfl
end
section
variable {p:Nat} [NeZero p]
theorem oY (F:Fld p) (t:Fin p×Fin p×Fin p):jpt (jV t.1 t.2.1 t.2.2)=Ec.add (-3) (jpt t) (jpt t):=by
 obtain ⟨X,Y,Z⟩:=t
 unfold jpt jV
 by_cases h:Z=0
 ·subst h
  rw [if_pos rfl,dO]; rfl
 ·rw [if_neg h]
  exact F.jac_dbl h rfl rfl rfl rfl rfl rfl
theorem pi (F:Fld p) {b:Fin p} (t u:Fin p×Fin p×Fin p) (ht:On (-3) b (jpt t)) (hu:On (-3) b (jpt u)):jpt (iK t.1 t.2.1 t.2.2 u.1 u.2.1 u.2.2)=Ec.add (-3) (jpt t) (jpt u):=by
 obtain ⟨X1,Y1,Z1⟩:=t
 obtain ⟨X2,Y2,Z2⟩:=u
 unfold iK
 dsimp only
 by_cases h1:Z1=0
 ·subst h1
  rw [if_pos rfl]
  show _=Ec.add (-3) (jac X1 Y1 0) _
  rw [dO]; rfl
 rw [if_neg h1]
 by_cases h2:Z2=0
 ·subst h2
  rw [if_pos rfl]
  show _=Ec.add (-3) _ (jac X2 Y2 0)
  rw [dO,cj]
 rw [if_neg h2]
 by_cases h3:X2*(Z1*Z1) - X1*(Z2*Z2)=0
 ·rw [if_pos h3]
  obtain ⟨x1,y1,hx1,hy1,hj1⟩:=F.of_jac X1 Y1 h1
  obtain ⟨x2,y2,hx2,hy2,hj2⟩:=F.of_jac X2 Y2 h2
  have hW:=F.mul_ne h1 h2
  have hxx:x1=x2:=by
   refine F.cancel (F.mul_ne hW hW) ?_
   subst hx1 hx2; clear hy1 hy2 hj1 hj2 ht hu; grobner
  have ht':On (-3) b (some (x1,y1)):=by rw [←hj1]; exact ht
  have hu':On (-3) b (some (x2,y2)):=by rw [←hj2]; exact hu
  subst hxx
  by_cases h4:Y2*(Z1*(Z1*Z1)) - Y1*(Z2*(Z2*Z2))=0
  ·rw [if_pos h4]
   have hyy:y1=y2:=by
    refine F.cancel (F.mul_ne hW (F.mul_ne hW hW)) ?_
    subst hy1 hy2; clear hj1 hj2 ht hu ht' hu' hx1 hx2 h3; grobner
   have e:=oY F (X1,Y1,Z1)
   refine e.trans ?_
   show Ec.add (-3) (jac X1 Y1 Z1) (jac X1 Y1 Z1)=Ec.add (-3) (jac X1 Y1 Z1) (jac X2 Y2 Z2)
   rw [hj1,hj2,hyy]
  ·rw [if_neg h4]
   have hyn:y1+y2=0:=by
    rcases F.same_x ht' hu' with q | q
    ·exfalso; apply h4
     subst hy1 hy2 q; clear hj1 hj2 ht hu ht' hu' hx1 hx2 h3 h4; grobner
    ·rw [q,oZ]
   show jac 0 0 0=Ec.add (-3) (jac X1 Y1 Z1) (jac X2 Y2 Z2)
   rw [dO,hj1,hj2,dH,if_pos rfl,if_pos hyn]
 ·rw [if_neg h3]
  exact F.jac_add h1 h2 rfl rfl rfl rfl rfl rfl rfl rfl rfl rfl rfl h3 (-3)
end
end Go.Gk.Bn
end

section
namespace Go.Gk.Bn
open Go Go.Gk Go.Gk.Sh Go.Gk.Ec Go.Gk.Pr
section
variable {p:Nat} [NeZero p]
def rl (u:Fin p):List UInt32:=az u.val
def rep (P:Pt p):List UInt32×List UInt32×Bool:=match P with
 | none=>([],[],true)
 | some (x,y)=>(rl x,rl y,false)
theorem kk (u:Fin p):val (rl u)=u.val:=aA _
theorem AN (F:Fld p) (hp:Prm p) {Z:Fin p} {v:Nat} (hv:v<p) (h:Z.val*v%p=1):(⟨v,hv⟩:Fin p)=rcp Z:=by
 apply F.iv_uniq
 apply Fin.ext
 rw [Fin.val_mul]
 show Z.val*v%p=1%p
 rw [h,Nat.mod_eq_of_lt hp.1]
theorem zm (hp:Prm p) {Z:Fin p} (h:Z≠0):Nat.gcd Z.val p=1:=by
 have hz:Z.val≠0:=fun e=>h (Fin.ext (by rw [e]; simp))
 have h1:¬p ∣ Z.val:=fun hd=>by have:=Nat.le_of_dvd (by omega) hd; have:=Z.isLt; omega
 rw [Nat.gcd_comm]
 exact hp.coprime h1
theorem tt (hpl:nl (p:Int)≤1000) (u:Fin p):F.B0 (be u).1 (be u).2=some (rl u):=by
 have:=gx u hpl
 unfold be
 rw [n8 _ (by omega)]; rfl
theorem xw (b0:Bool) (b1:List UInt32) (n0:Bool) (n1:List UInt32) (x0:Bool) (x1:List UInt32) (y0:Bool) (y1:List UInt32) (s:Int) (hpl:nl (p:Int)≤1000) (D:Fld p) (hp:Prm p) (X Y Z:Fin p) :
  F.Cn (bi (p:Int)).1 (bi (p:Int)).2 b0 b1 n0 n1 x0 x1 y0 y1 s (be X).1 (be X).2 (be Y).1 (be Y).2 (be Z).1 (be Z).2=some (rep (jac X Y Z)):=by
 have mul:=nA b0 b1 n0 n1 x0 x1 y0 y1 s hpl
 unfold F.Cn jac
 rw [gY,ak]
 by_cases h:Z=0
 ·rw [if_pos (sg0.2 h),if_pos h]; rfl
 ·rw [if_neg (fun q=>h (sg0.1 q)),if_neg h]
  have hz:=gx Z hpl
  obtain ⟨v,hv,hv1,hv2⟩:=qh false [] Z.val p hp.1 (by omega) (by omega) (zm hp h)
  have e:bi (v:Int)=be (rcp Z):=by rw [←AN D hp hv hv1]; rfl
  rw [e]at hv2
  rw [show F.EL false [] (be Z).1 (be Z).2 (bi (p:Int)).1 (bi (p:Int)).2=some (be (rcp Z)) from hv2,ak,mul,ak,mul,ak,tt hpl,ak,mul,ak,mul,ak,tt hpl,ak]
  rfl
end
section
variable (c:Int) (hc:isC c)
theorem lQ (u:Fin (cP c)):(rl u).length≤12:=tP c (Nat.le_of_lt u.isLt)
include hc
def dL (X Y:List UInt32) (inf:Bool):Pt (cP c):=if inf then none else some (fz (val X:Int),fz (val Y:Int))
theorem pA (x y:Nat) (hx:x<cP c) (hy:y<cP c):onN (cP c) (cB c) x y=true↔On (-3) (fz (cB c:Int)) (some (fz (p:=cP c) (x:Int),fz (y:Int))):=by
 have hp:=(cZ c).2.2.2.2.2.1
 unfold onN
 rw [decide_eq_true hx,decide_eq_true hy,Bool.true_and,Bool.true_and,decide_eq_true_iff]
 obtain ⟨A,hA⟩:∃A,x*(x*x%cP c)%cP c=A:=⟨_,rfl⟩
 obtain ⟨B,hB⟩:∃B,3*x%cP c=B:=⟨_,rfl⟩
 have hBp:B<cP c:=by rw [←hB]; exact Nat.mod_lt _ (by omega)
 have fA:fz (p:=cP c) (A:Int)=fz x*(fz x*fz x):=by rw [←hA,Int.natCast_emod,gn,Int.natCast_mul,iz,Int.natCast_emod,gn,Int.natCast_mul,iz]
 have fB:fz (p:=cP c) (B:Int)=3*fz x:=by
  rw [←hB,Int.natCast_emod,gn,Int.natCast_mul,iz]
  congr 1
 have fP:fz (p:=cP c) (cP c:Int)=0:=gM.2 (Int.emod_self)
 rw [hA,hB]
 have e1:fz (p:=cP c) ((((A+cP c - B)%cP c+cB c:Nat)):Int)=fz x*(fz x*fz x) - 3*fz x+fz (cB c:Int):=by
  rw [Int.natCast_add,lP,Int.natCast_emod,gn,show ((A+cP c - B:Nat):Int)=(A:Int)+cP c - B by omega,ox,lP,fA,fB,fP]
  grobner
 have e2:fz (p:=cP c) ((y*y:Nat):Int)=fz y*fz y:=by rw [Int.natCast_mul,iz]
 have e3:y*y%cP c=((A+cP c - B)%cP c+cB c)%cP c↔fz (p:=cP c) ((y*y:Nat):Int)=fz ((((A+cP c - B)%cP c+cB c:Nat)):Int):=by
  rw [wS,←Int.natCast_emod,←Int.natCast_emod]
  exact Int.natCast_inj.symm
 rw [e3,e1,e2]
 unfold On
 dsimp only
 constructor
 ·intro h; rw [h]; grobner
 ·intro h; rw [h]; grobner
end
end Go.Gk.Bn
end

section
namespace Go.Gk.Bn
open Go Go.Gk Go.Gk.Sh Go.Gk.Ec Go.Gk.Pr
abbrev bF (c:Int):Fin (cP c):=fz (cB c:Int)
theorem qA {c:Int} {X Y:List UInt32} {q:Bool} (h:onS c X Y q=true):isC c:=by
 unfold onS at h
 split at h
 ·assumption
 ·cases h
theorem mx {c:Int} {X Y:List UInt32} (h:onS c X Y false=true):val X<cP c∧val Y<cP c∧onN (cP c) (cB c) (val X) (val Y)=true:=by
 have hc:=qA h
 unfold onS at h
 rw [if_pos hc,if_neg (by decide)]at h
 exact ⟨(rR h).1,(rR h).2,h⟩
theorem nZ {c:Int} {X Y:List UInt32} {q:Bool} (h:onS c X Y q=true):On (-3) (bF c) (dL c X Y q):=by
 unfold dL
 cases q with
 | true=>rw [if_pos rfl]; trivial
 | false=>
  obtain ⟨h1,h2,h3⟩:=mx h
  rw [if_neg (by decide)]
  exact (pA c (qA h) _ _ h1 h2).1 h3
theorem lz {l:List UInt32} (h:val l=0):az (val l)=[]:=by rw [h]; exact bD
def jT (c:Int) (X Y:List UInt32) (q:Bool):Fin (cP c)×Fin (cP c)×Fin (cP c):=if q then (0,0,0) else (fz (val X:Int),fz (val Y:Int),1)
theorem oQ {p:Nat} [NeZero p]:be (0:Fin p)=(false,[]):=by
 unfold be
 have:(0:Fin p).val=0:=by simp
 rw [this]
 exact congrArg (fun l=>(false,l)) bD
theorem vM {c:Int} {X Y:List UInt32} {q:Bool} (h:onS c X Y q=true):rdT X Y q=bt (jT c X Y q):=by
 unfold rdT jT bt
 cases q with
 | true=>
  rw [if_pos rfl,if_pos rfl]
  dsimp only
  rw [oQ]
 | false=>
  obtain ⟨h1,h2,_⟩:=mx h
  have hp:=(ig c).1
  have e1:be (fz (p:=cP c) (val X:Int))=bi (val X:Int):=by rw [jM,Int.emod_eq_of_lt (by omega) (by omega)]
  have e2:be (fz (p:=cP c) (val Y:Int))=bi (val Y:Int):=by rw [jM,Int.emod_eq_of_lt (by omega) (by omega)]
  have e3:be (1:Fin (cP c))=bi 1:=by rw [←wg,jM,Int.emod_eq_of_lt (by omega) (by omega)]
  rw [if_neg (by decide),if_neg (by decide)]
  dsimp only
  rw [e1,e2,e3]
theorem nR (c:Int):(1:Fin (cP c))≠0:=by
 intro h
 have h1:(1:Fin (cP c)).val=1%cP c:=rfl
 have h0:(0:Fin (cP c)).val=0:=by simp
 have h2:=congrArg Fin.val h
 rw [h1,h0,Nat.mod_eq_of_lt (ig c).1]at h2
 cases h2
theorem qr (c:Int) (X Y:List UInt32) (q:Bool):jpt (jT c X Y q)=dL c X Y q:=by
 unfold jpt jT dL
 cases q with
 | true=>exact dO _ _
 | false=>
  rw [if_neg (by decide),if_neg (by decide)]
  exact (kE c).jac_of (nR c) (by grobner) (by grobner)
theorem vF (c:Int) (t:Fin (cP c)×Fin (cP c)×Fin (cP c)) :
  F.Cn (gT c).1 (gT c).2.1 (gT c).2.2.1 (gT c).2.2.2.1 (gT c).2.2.2.2.1 (gT c).2.2.2.2.2.1 (gT c).2.2.2.2.2.2.1 (gT c).2.2.2.2.2.2.2.1 (gT c).2.2.2.2.2.2.2.2.1 (gT c).2.2.2.2.2.2.2.2.2.1 (gT c).2.2.2.2.2.2.2.2.2.2
   (bt t).1 (bt t).2.1 (bt t).2.2.1 (bt t).2.2.2.1 (bt t).2.2.2.2.1 (bt t).2.2.2.2.2=some (rep (jpt t)):=
 xw _ _ _ _ _ _ _ _ _ (by have:=jK c; omega) (kE c) (ig c) t.1 t.2.1 t.2.2
theorem A9 (c:Int) (t u:Fin (cP c)×Fin (cP c)×Fin (cP c)) :
  F.Cl (gT c).1 (gT c).2.1 (gT c).2.2.1 (gT c).2.2.2.1 (gT c).2.2.2.2.1 (gT c).2.2.2.2.2.1 (gT c).2.2.2.2.2.2.1 (gT c).2.2.2.2.2.2.2.1 (gT c).2.2.2.2.2.2.2.2.1 (gT c).2.2.2.2.2.2.2.2.2.1 (gT c).2.2.2.2.2.2.2.2.2.2
   (bt t).1 (bt t).2.1 (bt t).2.2.1 (bt t).2.2.2.1 (bt t).2.2.2.2.1 (bt t).2.2.2.2.2 (bt u).1 (bt u).2.1 (bt u).2.2.1 (bt u).2.2.2.1 (bt u).2.2.2.2.1 (bt u).2.2.2.2.2=some (bt (iK t.1 t.2.1 t.2.2 u.1 u.2.1 u.2.2)):=
 t6 _ _ _ _ _ _ _ _ _ (by have:=jK c; omega) t.1 t.2.1 t.2.2 u.1 u.2.1 u.2.2
end Go.Gk.Bn
end

section
namespace Go.Gk.Bn
open Go Go.Gk Go.Gk.Sh Go.Gk.Ec Go.Gk.Pr
theorem mq (c:Int) (P:Pt (cP c)):(rep P).1.length≤12∧(rep P).2.1.length≤12:=by
 rcases P with _ | ⟨x,y⟩
 ·exact ⟨Nat.zero_le _,Nat.zero_le _⟩
 ·exact ⟨lQ c x,lQ c y⟩
end Go.Gk.Bn
end
