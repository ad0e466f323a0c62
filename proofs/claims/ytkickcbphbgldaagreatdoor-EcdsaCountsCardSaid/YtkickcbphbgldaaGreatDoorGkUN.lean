import Derived.Test.YtkickcbphbgldaaGreatDoorGkUL
import Derived.Test.YtkickcbphbgldaaGreatDoorGkEc0
import Derived.Test.YtkickcbphbgldaaGreatDoorGkUJ
import Derived.Test.YtkickcbphbgldaaGreatDoorGkFman
set_option linter.unusedVariables false
set_option linter.unusedSimpArgs false
set_option linter.unusedSectionVars false

section
namespace Go.Gk.Bn
open Go Go.Gk Go.Gk.Sh Go.Gk.Ec Go.Gk.Pr
instance cP_nz (c:Int):NeZero (cP c):=⟨by have:=(da c).2.2.2.2.2.1; omega⟩
theorem gF (c:Int):Prm (cP c):=by
 unfold cP
 split
 ·exact cF
 ·exact ca
theorem gN (c:Int):Prm (cN c):=by
 unfold cN
 split
 ·exact cE
 ·exact bZ
theorem kv (c:Int):Fld (cP c):=AJ (gF c) (by have:=(da c).2.2.2.2.2.1; omega)
section
variable {p:Nat} [NeZero p]
def be (u:Fin p):Bool×List UInt32:=bi (u.val:Int)
theorem uS {x y:Int}:fz (p:=p) x=fz y↔x%p=y%p:=by
 constructor
 ·intro h
  rw [←eX (p:=p) x,h,eX]
 ·intro h
  rw [←f9 x,h,f9]
theorem jy (z:Int):be (fz (p:=p) z)=bi (z%p):=by unfold be; rw [eX]
theorem ww:fz (p:=p) 1=1:=dt 1
theorem gh (u:Fin p) (hpl:nl (p:Int)≤1000):nl (u.val:Int)≤1000:=Nat.le_trans (dT (by have:=u.isLt; omega)) hpl
theorem gH (u:Fin p):F.BI (be u).1 (be u).2=some (if u=0 then 0 else 1):=by
 unfold be
 rw [lQ]
 by_cases h:u=0
 ·have h0:(0:Fin p).val=0:=by simp
  rw [if_pos h,h,h0,if_pos (by rfl)]
 ·have h2:u.val≠0:=fun e=>h (Fin.ext (by rw [e]; simp))
  rw [if_neg h,if_neg (by omega),if_neg (by omega)]
variable (b0:Bool) (b1:List UInt32) (n0:Bool) (n1:List UInt32) (x0:Bool) (x1:List UInt32) (y0:Bool) (y1:List UInt32) (s:Int) (hpl:nl (p:Int)≤1000)
include hpl
theorem nc (u v:Fin p):F.BB (bi (p:Int)).1 (bi (p:Int)).2 b0 b1 n0 n1 x0 x1 y0 y1 s (be u).1 (be u).2 (be v).1 (be v).2=some (be (u*v)):=by
 have h1:=gh u hpl; have h2:=gh v hpl
 have h3:=Int.mul_nonneg (Int.natCast_nonneg u.val) (Int.natCast_nonneg v.val)
 unfold be
 rw [jP p b0 b1 n0 n1 x0 x1 y0 y1 s js hpl _ _ (by omega) (fun h=>by omega),Fin.val_mul,Int.natCast_emod,Int.natCast_mul]
theorem qT (u v:Fin p):F.BJ (bi (p:Int)).1 (bi (p:Int)).2 b0 b1 n0 n1 x0 x1 y0 y1 s (be u).1 (be u).2 (be v).1 (be v).2=some (be (u - v)):=by
 have h1:=gh u hpl; have h2:=gh v hpl
 have h3:be (u - v)=bi (((u.val:Int) - (v.val:Int))%p):=by rw [←jy,nL,fb,fb]
 rw [h3]
 unfold be
 rw [tx p b0 b1 n0 n1 x0 x1 y0 y1 s js hpl _ _ (by omega) (by omega)]
theorem nZ (k:Nat) (hk:k≤1000) (u:Fin p):F.BP (bi (p:Int)).1 (bi (p:Int)).2 b0 b1 n0 n1 x0 x1 y0 y1 s (k:Int) (be u).1 (be u).2=some (be (Fin.ofNat p k*u)):=by
 have h1:=gh u hpl
 have h3:be (Fin.ofNat p k*u)=bi (((k:Int)*(u.val:Int))%p):=by rw [←jy,hO,fb,dt]
 rw [h3]
 unfold be
 rw [oZ p b0 b1 n0 n1 x0 x1 y0 y1 s js hpl (k:Int) _ (by omega) (by omega) (by omega) (by omega)]
theorem xV (u v:Fin p):(an (F.DD false [] (be u).1 (be u).2 (be v).1 (be v).2) fun x=>F.B1 (bi (p:Int)).1 (bi (p:Int)).2 b0 b1 n0 n1 x0 x1 y0 y1 s x.1 x.2)=some (be (u+v)):=by
 have h1:=gh u hpl; have h2:=gh v hpl
 have h3:be (u+v)=bi (((u.val:Int)+(v.val:Int))%p):=by rw [←jy,lf,fb,fb]
 have h4:=qC (u.val:Int) (v.val:Int)
 rw [h3]
 unfold be
 rw [zG _ _ _ _ (by omega) (by omega),ak,lZ p b0 b1 n0 n1 x0 x1 y0 y1 s js hpl _ (by omega) (fun _=>by omega)]
omit hpl in
def jF (X Y Z:Fin p):Fin p×Fin p×Fin p:=
 if Z=0 then (X,Y,Z) else
  let zz:=Z*Z; let yy:=Y*Y; let s:=4*(X*yy); let m:=3*((X - zz)*(X+zz)); let x:=m*m - 2*s
  (x,m*(s - x) - 8*(yy*yy),2*(Y*Z))
omit hpl in
def iw (X1 Y1 Z1 X2 Y2 Z2:Fin p):Fin p×Fin p×Fin p:=
 if Z1=0 then (X2,Y2,Z2) else if Z2=0 then (X1,Y1,Z1) else
  let u1:=X1*(Z2*Z2); let s1:=Y1*(Z2*(Z2*Z2)); let h:=X2*(Z1*Z1) - u1; let r:=Y2*(Z1*(Z1*Z1)) - s1
  if h=0 then (if r=0 then jF X1 Y1 Z1 else (0,0,0)) else
   let hh:=h*h; let hhh:=h*hh; let v:=u1*hh; let x:=r*r - hhh - 2*v
   (x,r*(v - x) - s1*hhh,h*(Z1*Z2))
omit hpl in
def bt (t:Fin p×Fin p×Fin p):Bool×List UInt32×Bool×List UInt32×Bool×List UInt32:=((be t.1).1,(be t.1).2,(be t.2.1).1,(be t.2.1).2,(be t.2.2).1,(be t.2.2).2)
omit hpl in
noncomputable def jpt (t:Fin p×Fin p×Fin p):Pt p:=jac t.1 t.2.1 t.2.2
omit hpl in
theorem sg0 {u:Fin p}:(((if u=0 then (0:Int) else 1) == 0)=true)↔u=0:=by
 by_cases h:u=0
 ·rw [if_pos h]; simp [h]
 ·rw [if_neg h]; simp [h]
theorem n9 (X Y Z:Fin p):F.Dg (bi (p:Int)).1 (bi (p:Int)).2 b0 b1 n0 n1 x0 x1 y0 y1 s (be X).1 (be X).2 (be Y).1 (be Y).2 (be Z).1 (be Z).2=some (bt (jF X Y Z)):=by
 have mul:=nc b0 b1 n0 n1 x0 x1 y0 y1 s hpl
 have sub:=qT b0 b1 n0 n1 x0 x1 y0 y1 s hpl
 have tim:=fun k hk=>nZ b0 b1 n0 n1 x0 x1 y0 y1 s hpl k hk
 have ad:=xV b0 b1 n0 n1 x0 x1 y0 y1 s hpl
 unfold F.Dg
 rw [gH,ak]
 by_cases h:Z=0
 ·rw [if_pos (sg0.2 h)]
  unfold jF
  rw [if_pos h]; rfl
 ·rw [if_neg (fun q=>h (sg0.1 q)),mul,ak,mul,ak,mul,ak]
  have t4:=tim 4 (by decide); have t3:=tim 3 (by decide); have t2:=tim 2 (by decide); have t8:=tim 8 (by decide)
  have e4:((4:Nat):Int)=4:=rfl
  have e3:((3:Nat):Int)=3:=rfl
  have e2:((2:Nat):Int)=2:=rfl
  have e8:((8:Nat):Int)=8:=rfl
  rw [e4]at t4; rw [e3]at t3; rw [e2]at t2; rw [e8]at t8
  rw [t4,ak,sub,ak]
  have hb:∀{α β γ:Type} (x:Option α) (f:α→Option β) (g:β→Option γ),(an x fun a=>an (f a) g)=an (an x f) g:=fun x f g=>by cases x <;> rfl
  rw [hb,ad,ak,mul,ak,t3,ak,mul,ak,t2,ak,sub,ak,sub,ak,mul,ak,mul,ak,t8,ak,sub,ak,mul,ak,t2,ak]
  unfold jF
  rw [if_neg h]
  rfl
theorem sO (X1 Y1 Z1 X2 Y2 Z2:Fin p):F.B0 (bi (p:Int)).1 (bi (p:Int)).2 b0 b1 n0 n1 x0 x1 y0 y1 s (be X1).1 (be X1).2 (be Y1).1 (be Y1).2 (be Z1).1 (be Z1).2 (be X2).1 (be X2).2 (be Y2).1 (be Y2).2 (be Z2).1 (be Z2).2=some (bt (iw X1 Y1 Z1 X2 Y2 Z2)):=by
 have mul:=nc b0 b1 n0 n1 x0 x1 y0 y1 s hpl
 have sub:=qT b0 b1 n0 n1 x0 x1 y0 y1 s hpl
 have t2:=nZ b0 b1 n0 n1 x0 x1 y0 y1 s hpl 2 (by decide)
 have e2:((2:Nat):Int)=2:=rfl
 rw [e2]at t2
 unfold F.B0 iw
 rw [gH,ak]
 by_cases h1:Z1=0
 ·rw [if_pos (sg0.2 h1),if_pos h1]; rfl
 rw [if_neg (fun q=>h1 (sg0.1 q)),if_neg h1,gH,ak]
 by_cases h2:Z2=0
 ·rw [if_pos (sg0.2 h2),if_pos h2]; rfl
 rw [if_neg (fun q=>h2 (sg0.1 q)),if_neg h2,mul,ak,mul,ak,mul,ak,mul,ak,mul,ak,mul,ak,mul,ak,mul,ak,sub,ak,sub,ak,gH,ak]
 dsimp only
 by_cases h3:X2*(Z1*Z1) - X1*(Z2*Z2)=0
 ·rw [if_pos (sg0.2 h3),if_pos h3,gH,ak]
  by_cases h4:Y2*(Z1*(Z1*Z1)) - Y1*(Z2*(Z2*Z2))=0
  ·rw [if_pos (sg0.2 h4),if_pos h4,n9 b0 b1 n0 n1 x0 x1 y0 y1 s hpl,ak]
  ·rw [if_neg (fun q=>h4 (sg0.1 q)),if_neg h4]
   unfold F.BY
   rw [ak]
   have h0:be (0:Fin p)=(false,[]):=by
    unfold be
    have:(0:Fin p).val=0:=by simp
    rw [this]
    exact congrArg (fun l=>(false,l)) bC
   unfold bt
   dsimp only
   rw [h0]
 ·rw [if_neg (fun q=>h3 (sg0.1 q)),if_neg h3,mul,ak,mul,ak,mul,ak,mul,ak,sub,ak,t2,ak,sub,ak,sub,ak,mul,ak,mul,ak,sub,ak,mul,ak,mul,ak]
  rfl
end
section
variable {p:Nat} [NeZero p]
theorem oh (F:Fld p) (t:Fin p×Fin p×Fin p):jpt (jF t.1 t.2.1 t.2.2)=Ec.add (-3) (jpt t) (jpt t):=by
 obtain ⟨X,Y,Z⟩:=t
 unfold jpt jF
 by_cases h:Z=0
 ·subst h
  rw [if_pos rfl,dX]; rfl
 ·rw [if_neg h]
  exact F.jac_dbl h rfl rfl rfl rfl rfl rfl
theorem ou (F:Fld p) {b:Fin p} (t u:Fin p×Fin p×Fin p) (ht:On (-3) b (jpt t)) (hu:On (-3) b (jpt u)):jpt (iw t.1 t.2.1 t.2.2 u.1 u.2.1 u.2.2)=Ec.add (-3) (jpt t) (jpt u):=by
 obtain ⟨X1,Y1,Z1⟩:=t
 obtain ⟨X2,Y2,Z2⟩:=u
 unfold iw
 dsimp only
 by_cases h1:Z1=0
 ·subst h1
  rw [if_pos rfl]
  show _=Ec.add (-3) (jac X1 Y1 0) _
  rw [dX]; rfl
 rw [if_neg h1]
 by_cases h2:Z2=0
 ·subst h2
  rw [if_pos rfl]
  show _=Ec.add (-3) _ (jac X2 Y2 0)
  rw [dX,ch]
 rw [if_neg h2]
 by_cases h3:X2*(Z1*Z1) - X1*(Z2*Z2)=0
 ·rw [if_pos h3]
  obtain ⟨x1,y1,hx1,hy1,hj1⟩:=F.of_jac X1 Y1 h1
  obtain ⟨x2,y2,hx2,hy2,hj2⟩:=F.of_jac X2 Y2 h2
  have hW:=F.mul_ne h1 h2
  have hxx:x1=x2:=by
   refine F.cancel (F.mul_ne hW hW) ?_
   subst hx1 hx2; clear hy1 hy2 hj1 hj2 ht hu; grobner
  have ht':On (-3) b (some (x1,y1)):=by rw [←hj1]; exact ht
  have hu':On (-3) b (some (x2,y2)):=by rw [←hj2]; exact hu
  subst hxx
  by_cases h4:Y2*(Z1*(Z1*Z1)) - Y1*(Z2*(Z2*Z2))=0
  ·rw [if_pos h4]
   have hyy:y1=y2:=by
    refine F.cancel (F.mul_ne hW (F.mul_ne hW hW)) ?_
    subst hy1 hy2; clear hj1 hj2 ht hu ht' hu' hx1 hx2 h3; grobner
   have e:=oh F (X1,Y1,Z1)
   refine e.trans ?_
   show Ec.add (-3) (jac X1 Y1 Z1) (jac X1 Y1 Z1)=Ec.add (-3) (jac X1 Y1 Z1) (jac X2 Y2 Z2)
   rw [hj1,hj2,hyy]
  ·rw [if_neg h4]
   have hyn:y1+y2=0:=by
    rcases F.same_x ht' hu' with q | q
    ·exfalso; apply h4
     subst hy1 hy2 q; clear hj1 hj2 ht hu ht' hu' hx1 hx2 h3 h4; grobner
    ·rw [q,oC]
   show jac 0 0 0=Ec.add (-3) (jac X1 Y1 Z1) (jac X2 Y2 Z2)
   rw [dX,hj1,hj2,dy,if_pos rfl,if_pos hyn]
 ·rw [if_neg h3]
  exact F.jac_add h1 h2 rfl rfl rfl rfl rfl rfl rfl rfl rfl rfl rfl h3 (-3)
end
end Go.Gk.Bn
end

section
namespace Go.Gk.Bn
open Go Go.Gk Go.Gk.Sh Go.Gk.Ec Go.Gk.Pr
section
variable {p:Nat} [NeZero p]
def rl (u:Fin p):List UInt32:=ay u.val
def rep (P:Pt p):List UInt32×List UInt32×Bool:=match P with
 | none=>([],[],true)
 | some (x,y)=>(rl x,rl y,false)
theorem j6 (u:Fin p):val (rl u)=u.val:=aB _
theorem AB (F:Fld p) (hp:Prm p) {Z:Fin p} {v:Nat} (hv:v<p) (h:Z.val*v%p=1):(⟨v,hv⟩:Fin p)=rcp Z:=by
 apply F.iv_uniq
 apply Fin.ext
 rw [Fin.val_mul]
 show Z.val*v%p=1%p
 rw [h,Nat.mod_eq_of_lt hp.1]
theorem zr (hp:Prm p) {Z:Fin p} (h:Z≠0):Nat.gcd Z.val p=1:=by
 have hz:Z.val≠0:=fun e=>h (Fin.ext (by rw [e]; simp))
 have h1:¬p ∣ Z.val:=fun hd=>by have:=Nat.le_of_dvd (by omega) hd; have:=Z.isLt; omega
 rw [Nat.gcd_comm]
 exact hp.coprime h1
theorem sJ (hpl:nl (p:Int)≤1000) (u:Fin p):F.BM (be u).1 (be u).2=some (rl u):=by
 have:=gh u hpl
 unfold be
 rw [nR _ (by omega)]; rfl
theorem wW (b0:Bool) (b1:List UInt32) (n0:Bool) (n1:List UInt32) (x0:Bool) (x1:List UInt32) (y0:Bool) (y1:List UInt32) (s:Int) (hpl:nl (p:Int)≤1000) (D:Fld p) (hp:Prm p) (X Y Z:Fin p) :
  F.Cq (bi (p:Int)).1 (bi (p:Int)).2 b0 b1 n0 n1 x0 x1 y0 y1 s (be X).1 (be X).2 (be Y).1 (be Y).2 (be Z).1 (be Z).2=some (rep (jac X Y Z)):=by
 have mul:=nc b0 b1 n0 n1 x0 x1 y0 y1 s hpl
 unfold F.Cq jac
 rw [gH,ak]
 by_cases h:Z=0
 ·rw [if_pos (sg0.2 h),if_pos h]; rfl
 ·rw [if_neg (fun q=>h (sg0.1 q)),if_neg h]
  have hz:=gh Z hpl
  obtain ⟨v,hv,hv1,hv2⟩:=pC false [] Z.val p hp.1 (by omega) (by omega) (zr hp h)
  have e:bi (v:Int)=be (rcp Z):=by rw [←AB D hp hv hv1]; rfl
  rw [e]at hv2
  rw [show F.Ez false [] (be Z).1 (be Z).2 (bi (p:Int)).1 (bi (p:Int)).2=some (be (rcp Z)) from hv2,ak,mul,ak,mul,ak,sJ hpl,ak,mul,ak,mul,ak,sJ hpl,ak]
  rfl
end
section
variable (c:Int) (hc:isC c)
theorem lE (u:Fin (cP c)):(rl u).length≤12:=sI c (Nat.le_of_lt u.isLt)
include hc
def fc (X Y:List UInt32) (inf:Bool):Pt (cP c):=if inf then none else some (fz (val X:Int),fz (val Y:Int))
theorem oD (x y:Nat) (hx:x<cP c) (hy:y<cP c):onN (cP c) (cB c) x y=true↔On (-3) (fz (cB c:Int)) (some (fz (p:=cP c) (x:Int),fz (y:Int))):=by
 have hp:=(da c).2.2.2.2.2.1
 unfold onN
 rw [decide_eq_true hx,decide_eq_true hy,Bool.true_and,Bool.true_and,decide_eq_true_iff]
 obtain ⟨A,hA⟩:∃A,x*(x*x%cP c)%cP c=A:=⟨_,rfl⟩
 obtain ⟨B,hB⟩:∃B,3*x%cP c=B:=⟨_,rfl⟩
 have hBp:B<cP c:=by rw [←hB]; exact Nat.mod_lt _ (by omega)
 have fA:fz (p:=cP c) (A:Int)=fz x*(fz x*fz x):=by rw [←hA,Int.natCast_emod,f9,Int.natCast_mul,hO,Int.natCast_emod,f9,Int.natCast_mul,hO]
 have fB:fz (p:=cP c) (B:Int)=3*fz x:=by
  rw [←hB,Int.natCast_emod,f9,Int.natCast_mul,hO]
  congr 1
 have fP:fz (p:=cP c) (cP c:Int)=0:=gj.2 (Int.emod_self)
 rw [hA,hB]
 have e1:fz (p:=cP c) ((((A+cP c - B)%cP c+cB c:Nat)):Int)=fz x*(fz x*fz x) - 3*fz x+fz (cB c:Int):=by
  rw [Int.natCast_add,lf,Int.natCast_emod,f9,show ((A+cP c - B:Nat):Int)=(A:Int)+cP c - B by omega,nL,lf,fA,fB,fP]
  grobner
 have e2:fz (p:=cP c) ((y*y:Nat):Int)=fz y*fz y:=by rw [Int.natCast_mul,hO]
 have e3:y*y%cP c=((A+cP c - B)%cP c+cB c)%cP c↔fz (p:=cP c) ((y*y:Nat):Int)=fz ((((A+cP c - B)%cP c+cB c:Nat)):Int):=by
  rw [uS,←Int.natCast_emod,←Int.natCast_emod]
  exact Int.natCast_inj.symm
 rw [e3,e1,e2]
 unfold On
 dsimp only
 constructor
 ·intro h; rw [h]; grobner
 ·intro h; rw [h]; grobner
end
end Go.Gk.Bn
end

section
namespace Go.Gk.Bn
open Go Go.Gk Go.Gk.Sh Go.Gk.Ec Go.Gk.Pr
abbrev bF (c:Int):Fin (cP c):=fz (cB c:Int)
theorem uu {c:Int} {X Y:List UInt32} {q:Bool} (h:onS c X Y q=true):isC c:=by
 unfold onS at h
 split at h
 ·assumption
 ·cases h
theorem oO {c:Int} {X Y:List UInt32} (h:onS c X Y false=true):val X<cP c∧val Y<cP c∧onN (cP c) (cB c) (val X) (val Y)=true:=by
 have hc:=uu h
 unfold onS at h
 rw [if_pos hc,if_neg (by decide)]at h
 exact ⟨(rB h).1,(rB h).2,h⟩
theorem vz {c:Int} {X Y:List UInt32} {q:Bool} (h:onS c X Y q=true):On (-3) (bF c) (fc c X Y q):=by
 unfold fc
 cases q with
 | true=>rw [if_pos rfl]; trivial
 | false=>
  obtain ⟨h1,h2,h3⟩:=oO h
  rw [if_neg (by decide)]
  exact (oD c (uu h) _ _ h1 h2).1 h3
theorem lz {l:List UInt32} (h:val l=0):ay (val l)=[]:=by rw [h]; exact bC
def jT (c:Int) (X Y:List UInt32) (q:Bool):Fin (cP c)×Fin (cP c)×Fin (cP c):=if q then (0,0,0) else (fz (val X:Int),fz (val Y:Int),1)
theorem sR {p:Nat} [NeZero p]:be (0:Fin p)=(false,[]):=by
 unfold be
 have:(0:Fin p).val=0:=by simp
 rw [this]
 exact congrArg (fun l=>(false,l)) bC
theorem z7 {c:Int} {X Y:List UInt32} {q:Bool} (h:onS c X Y q=true):rdT X Y q=bt (jT c X Y q):=by
 unfold rdT jT bt
 cases q with
 | true=>
  rw [if_pos rfl,if_pos rfl]
  dsimp only
  rw [sR]
 | false=>
  obtain ⟨h1,h2,_⟩:=oO h
  have hp:=(gF c).1
  have e1:be (fz (p:=cP c) (val X:Int))=bi (val X:Int):=by rw [jy,Int.emod_eq_of_lt (by omega) (by omega)]
  have e2:be (fz (p:=cP c) (val Y:Int))=bi (val Y:Int):=by rw [jy,Int.emod_eq_of_lt (by omega) (by omega)]
  have e3:be (1:Fin (cP c))=bi 1:=by rw [←ww,jy,Int.emod_eq_of_lt (by omega) (by omega)]
  rw [if_neg (by decide),if_neg (by decide)]
  dsimp only
  rw [e1,e2,e3]
theorem nW (c:Int):(1:Fin (cP c))≠0:=by
 intro h
 have h1:(1:Fin (cP c)).val=1%cP c:=rfl
 have h0:(0:Fin (cP c)).val=0:=by simp
 have h2:=congrArg Fin.val h
 rw [h1,h0,Nat.mod_eq_of_lt (gF c).1]at h2
 cases h2
theorem yl (c:Int) (X Y:List UInt32) (q:Bool):jpt (jT c X Y q)=fc c X Y q:=by
 unfold jpt jT fc
 cases q with
 | true=>exact dX _ _
 | false=>
  rw [if_neg (by decide),if_neg (by decide)]
  exact (kv c).jac_of (nW c) (by grobner) (by grobner)
theorem zQ (c:Int) (t:Fin (cP c)×Fin (cP c)×Fin (cP c)) :
  F.Cq (gT c).1 (gT c).2.1 (gT c).2.2.1 (gT c).2.2.2.1 (gT c).2.2.2.2.1 (gT c).2.2.2.2.2.1 (gT c).2.2.2.2.2.2.1 (gT c).2.2.2.2.2.2.2.1 (gT c).2.2.2.2.2.2.2.2.1 (gT c).2.2.2.2.2.2.2.2.2.1 (gT c).2.2.2.2.2.2.2.2.2.2
   (bt t).1 (bt t).2.1 (bt t).2.2.1 (bt t).2.2.2.1 (bt t).2.2.2.2.1 (bt t).2.2.2.2.2=some (rep (jpt t)):=
 wW _ _ _ _ _ _ _ _ _ (by have:=kn c; omega) (kv c) (gF c) t.1 t.2.1 t.2.2
theorem AV (c:Int) (t u:Fin (cP c)×Fin (cP c)×Fin (cP c)) :
  F.B0 (gT c).1 (gT c).2.1 (gT c).2.2.1 (gT c).2.2.2.1 (gT c).2.2.2.2.1 (gT c).2.2.2.2.2.1 (gT c).2.2.2.2.2.2.1 (gT c).2.2.2.2.2.2.2.1 (gT c).2.2.2.2.2.2.2.2.1 (gT c).2.2.2.2.2.2.2.2.2.1 (gT c).2.2.2.2.2.2.2.2.2.2
   (bt t).1 (bt t).2.1 (bt t).2.2.1 (bt t).2.2.2.1 (bt t).2.2.2.2.1 (bt t).2.2.2.2.2 (bt u).1 (bt u).2.1 (bt u).2.2.1 (bt u).2.2.2.1 (bt u).2.2.2.2.1 (bt u).2.2.2.2.2=some (bt (iw t.1 t.2.1 t.2.2 u.1 u.2.1 u.2.2)):=
 sO _ _ _ _ _ _ _ _ _ (by have:=kn c; omega) t.1 t.2.1 t.2.2 u.1 u.2.1 u.2.2
end Go.Gk.Bn
end

section
namespace Go.Gk.Bn
open Go Go.Gk Go.Gk.Sh Go.Gk.Ec Go.Gk.Pr
theorem zy (c:Int) (P:Pt (cP c)):(rep P).1.length≤12∧(rep P).2.1.length≤12:=by
 rcases P with _ | ⟨x,y⟩
 ·exact ⟨Nat.zero_le _,Nat.zero_le _⟩
 ·exact ⟨lE c x,lE c y⟩
end Go.Gk.Bn
end
