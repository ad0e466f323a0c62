import Derived.Test.YtkickcbphbgldaaGreatDoorGkUL
import Derived.Test.YtkickcbphbgldaaGreatDoorGkEc0
import Derived.Test.YtkickcbphbgldaaGreatDoorGkUJ
import Derived.Test.YtkickcbphbgldaaGreatDoorGkFman
set_option linter.unusedVariables false
set_option linter.unusedSimpArgs false
set_option linter.unusedSectionVars false

section
namespace Go.Gk.Bn
open Go Go.Gk Go.Gk.Sh Go.Gk.Ec Go.Gk.Pr
instance cP_nz (c:Int):NeZero (cP c):=⟨by have:=(db c).2.2.2.2.2.1; omega⟩
theorem gx (c:Int):Prm (cP c):=by
 unfold cP
 split
 ·exact cF
 ·exact bY
theorem gH (c:Int):Prm (cN c):=by
 unfold cN
 split
 ·exact cE
 ·exact bX
theorem kq (c:Int):Fld (cP c):=zK (gx c) (by have:=(db c).2.2.2.2.2.1; omega)
section
variable {p:Nat} [NeZero p]
def be (u:Fin p):Bool×List UInt32:=bi (u.val:Int)
theorem u7 {x y:Int}:fz (p:=p) x=fz y↔x%p=y%p:=by
 constructor
 ·intro h
  rw [←eW (p:=p) x,h,eW]
 ·intro h
  rw [←f7 x,h,f7]
theorem jq (z:Int):be (fz (p:=p) z)=bi (z%p):=by unfold be; rw [eW]
theorem v9:fz (p:=p) 1=1:=dr 1
theorem gl (u:Fin p) (hpl:nl (p:Int)≤1000):nl (u.val:Int)≤1000:=Nat.le_trans (dR (by have:=u.isLt; omega)) hpl
theorem gI (u:Fin p):F.BC (be u).1 (be u).2=some (if u=0 then 0 else 1):=by
 unfold be
 rw [l9]
 by_cases h:u=0
 ·have h0:(0:Fin p).val=0:=by simp
  rw [if_pos h,h,h0,if_pos (by rfl)]
 ·have h2:u.val≠0:=fun e=>h (Fin.ext (by rw [e]; simp))
  rw [if_neg h,if_neg (by omega),if_neg (by omega)]
variable (b0:Bool) (b1:List UInt32) (n0:Bool) (n1:List UInt32) (x0:Bool) (x1:List UInt32) (y0:Bool) (y1:List UInt32) (s:Int) (hpl:nl (p:Int)≤1000)
include hpl
theorem mS (u v:Fin p):F.Bv (bi (p:Int)).1 (bi (p:Int)).2 b0 b1 n0 n1 x0 x1 y0 y1 s (be u).1 (be u).2 (be v).1 (be v).2=some (be (u*v)):=by
 have h1:=gl u hpl; have h2:=gl v hpl
 have h3:=Int.mul_nonneg (Int.natCast_nonneg u.val) (Int.natCast_nonneg v.val)
 unfold be
 rw [j6 p b0 b1 n0 n1 x0 x1 y0 y1 s jy hpl _ _ (by omega) (fun h=>by omega),Fin.val_mul,Int.natCast_emod,Int.natCast_mul]
theorem qh (u v:Fin p):F.BD (bi (p:Int)).1 (bi (p:Int)).2 b0 b1 n0 n1 x0 x1 y0 y1 s (be u).1 (be u).2 (be v).1 (be v).2=some (be (u - v)):=by
 have h1:=gl u hpl; have h2:=gl v hpl
 have h3:be (u - v)=bi (((u.val:Int) - (v.val:Int))%p):=by rw [←jq,nQ,eZ,eZ]
 rw [h3]
 unfold be
 rw [s7 p b0 b1 n0 n1 x0 x1 y0 y1 s jy hpl _ _ (by omega) (by omega)]
theorem nC (k:Nat) (hk:k≤1000) (u:Fin p):F.BH (bi (p:Int)).1 (bi (p:Int)).2 b0 b1 n0 n1 x0 x1 y0 y1 s (k:Int) (be u).1 (be u).2=some (be (Fin.ofNat p k*u)):=by
 have h1:=gl u hpl
 have h3:be (Fin.ofNat p k*u)=bi (((k:Int)*(u.val:Int))%p):=by rw [←jq,ia,eZ,dr]
 rw [h3]
 unfold be
 rw [o9 p b0 b1 n0 n1 x0 x1 y0 y1 s jy hpl (k:Int) _ (by omega) (by omega) (by omega) (by omega)]
theorem wN (u v:Fin p):(an (F.DK false [] (be u).1 (be u).2 (be v).1 (be v).2) fun x=>F.BT (bi (p:Int)).1 (bi (p:Int)).2 b0 b1 n0 n1 x0 x1 y0 y1 s x.1 x.2)=some (be (u+v)):=by
 have h1:=gl u hpl; have h2:=gl v hpl
 have h3:be (u+v)=bi (((u.val:Int)+(v.val:Int))%p):=by rw [←jq,kR,eZ,eZ]
 have h4:=rz (u.val:Int) (v.val:Int)
 rw [h3]
 unfold be
 rw [zI _ _ _ _ (by omega) (by omega),ak,mi p b0 b1 n0 n1 x0 x1 y0 y1 s jy hpl _ (by omega) (fun _=>by omega)]
omit hpl in
def jA (X Y Z:Fin p):Fin p×Fin p×Fin p:=
 if Z=0 then (X,Y,Z) else
  let zz:=Z*Z; let yy:=Y*Y; let s:=4*(X*yy); let m:=3*((X - zz)*(X+zz)); let x:=m*m - 2*s
  (x,m*(s - x) - 8*(yy*yy),2*(Y*Z))
omit hpl in
def ik (X1 Y1 Z1 X2 Y2 Z2:Fin p):Fin p×Fin p×Fin p:=
 if Z1=0 then (X2,Y2,Z2) else if Z2=0 then (X1,Y1,Z1) else
  let u1:=X1*(Z2*Z2); let s1:=Y1*(Z2*(Z2*Z2)); let h:=X2*(Z1*Z1) - u1; let r:=Y2*(Z1*(Z1*Z1)) - s1
  if h=0 then (if r=0 then jA X1 Y1 Z1 else (0,0,0)) else
   let hh:=h*h; let hhh:=h*hh; let v:=u1*hh; let x:=r*r - hhh - 2*v
   (x,r*(v - x) - s1*hhh,h*(Z1*Z2))
omit hpl in
def bt (t:Fin p×Fin p×Fin p):Bool×List UInt32×Bool×List UInt32×Bool×List UInt32:=((be t.1).1,(be t.1).2,(be t.2.1).1,(be t.2.1).2,(be t.2.2).1,(be t.2.2).2)
omit hpl in
noncomputable def jpt (t:Fin p×Fin p×Fin p):Pt p:=jac t.1 t.2.1 t.2.2
omit hpl in
theorem sg0 {u:Fin p}:(((if u=0 then (0:Int) else 1) == 0)=true)↔u=0:=by
 by_cases h:u=0
 ·rw [if_pos h]; simp [h]
 ·rw [if_neg h]; simp [h]
theorem nL (X Y Z:Fin p):F.CO (bi (p:Int)).1 (bi (p:Int)).2 b0 b1 n0 n1 x0 x1 y0 y1 s (be X).1 (be X).2 (be Y).1 (be Y).2 (be Z).1 (be Z).2=some (bt (jA X Y Z)):=by
 have mul:=mS b0 b1 n0 n1 x0 x1 y0 y1 s hpl
 have sub:=qh b0 b1 n0 n1 x0 x1 y0 y1 s hpl
 have tim:=fun k hk=>nC b0 b1 n0 n1 x0 x1 y0 y1 s hpl k hk
 have ad:=wN b0 b1 n0 n1 x0 x1 y0 y1 s hpl
 unfold F.CO
 rw [gI,ak]
 by_cases h:Z=0
 ·rw [if_pos (sg0.2 h)]
  unfold jA
  rw [if_pos h]; rfl
 ·rw [if_neg (fun q=>h (sg0.1 q)),mul,ak,mul,ak,mul,ak]
  have t4:=tim 4 (by decide); have t3:=tim 3 (by decide); have t2:=tim 2 (by decide); have t8:=tim 8 (by decide)
  have e4:((4:Nat):Int)=4:=rfl
  have e3:((3:Nat):Int)=3:=rfl
  have e2:((2:Nat):Int)=2:=rfl
  have e8:((8:Nat):Int)=8:=rfl
  rw [e4]at t4; rw [e3]at t3; rw [e2]at t2; rw [e8]at t8
  rw [t4,ak,sub,ak]
  have hb:∀{α β γ:Type} (x:Option α) (f:α→Option β) (g:β→Option γ),(an x fun a=>an (f a) g)=an (an x f) g:=fun x f g=>by cases x <;> rfl
  rw [hb,ad,ak,mul,ak,t3,ak,mul,ak,t2,ak,sub,ak,sub,ak,mul,ak,mul,ak,t8,ak,sub,ak,mul,ak,t2,ak]
  unfold jA
  rw [if_neg h]
  rfl
theorem sQ (X1 Y1 Z1 X2 Y2 Z2:Fin p):F.B1 (bi (p:Int)).1 (bi (p:Int)).2 b0 b1 n0 n1 x0 x1 y0 y1 s (be X1).1 (be X1).2 (be Y1).1 (be Y1).2 (be Z1).1 (be Z1).2 (be X2).1 (be X2).2 (be Y2).1 (be Y2).2 (be Z2).1 (be Z2).2=some (bt (ik X1 Y1 Z1 X2 Y2 Z2)):=by
 have mul:=mS b0 b1 n0 n1 x0 x1 y0 y1 s hpl
 have sub:=qh b0 b1 n0 n1 x0 x1 y0 y1 s hpl
 have t2:=nC b0 b1 n0 n1 x0 x1 y0 y1 s hpl 2 (by decide)
 have e2:((2:Nat):Int)=2:=rfl
 rw [e2]at t2
 unfold F.B1 ik
 rw [gI,ak]
 by_cases h1:Z1=0
 ·rw [if_pos (sg0.2 h1),if_pos h1]; rfl
 rw [if_neg (fun q=>h1 (sg0.1 q)),if_neg h1,gI,ak]
 by_cases h2:Z2=0
 ·rw [if_pos (sg0.2 h2),if_pos h2]; rfl
 rw [if_neg (fun q=>h2 (sg0.1 q)),if_neg h2,mul,ak,mul,ak,mul,ak,mul,ak,mul,ak,mul,ak,mul,ak,mul,ak,sub,ak,sub,ak,gI,ak]
 dsimp only
 by_cases h3:X2*(Z1*Z1) - X1*(Z2*Z2)=0
 ·rw [if_pos (sg0.2 h3),if_pos h3,gI,ak]
  by_cases h4:Y2*(Z1*(Z1*Z1)) - Y1*(Z2*(Z2*Z2))=0
  ·rw [if_pos (sg0.2 h4),if_pos h4,nL b0 b1 n0 n1 x0 x1 y0 y1 s hpl,ak]
  ·rw [if_neg (fun q=>h4 (sg0.1 q)),if_neg h4]
   unfold F.BQ
   rw [ak]
   have h0:be (0:Fin p)=(false,[]):=by
    unfold be
    have:(0:Fin p).val=0:=by simp
    rw [this]
    exact congrArg (fun l=>(false,l)) bB
   unfold bt
   dsimp only
   rw [h0]
 ·rw [if_neg (fun q=>h3 (sg0.1 q)),if_neg h3,mul,ak,mul,ak,mul,ak,mul,ak,sub,ak,t2,ak,sub,ak,sub,ak,mul,ak,mul,ak,sub,ak,mul,ak,mul,ak]
  rfl
end
section
variable {p:Nat} [NeZero p]
theorem ox (F:Fld p) (t:Fin p×Fin p×Fin p):jpt (jA t.1 t.2.1 t.2.2)=Ec.add (-3) (jpt t) (jpt t):=by
 obtain ⟨X,Y,Z⟩:=t
 unfold jpt jA
 by_cases h:Z=0
 ·subst h
  rw [if_pos rfl,dW]; rfl
 ·rw [if_neg h]
  exact F.jac_dbl h rfl rfl rfl rfl rfl rfl
theorem oI (F:Fld p) {b:Fin p} (t u:Fin p×Fin p×Fin p) (ht:On (-3) b (jpt t)) (hu:On (-3) b (jpt u)):jpt (ik t.1 t.2.1 t.2.2 u.1 u.2.1 u.2.2)=Ec.add (-3) (jpt t) (jpt u):=by
 obtain ⟨X1,Y1,Z1⟩:=t
 obtain ⟨X2,Y2,Z2⟩:=u
 unfold ik
 dsimp only
 by_cases h1:Z1=0
 ·subst h1
  rw [if_pos rfl]
  show _=Ec.add (-3) (jac X1 Y1 0) _
  rw [dW]; rfl
 rw [if_neg h1]
 by_cases h2:Z2=0
 ·subst h2
  rw [if_pos rfl]
  show _=Ec.add (-3) _ (jac X2 Y2 0)
  rw [dW,cg]
 rw [if_neg h2]
 by_cases h3:X2*(Z1*Z1) - X1*(Z2*Z2)=0
 ·rw [if_pos h3]
  obtain ⟨x1,y1,hx1,hy1,hj1⟩:=F.of_jac X1 Y1 h1
  obtain ⟨x2,y2,hx2,hy2,hj2⟩:=F.of_jac X2 Y2 h2
  have hW:=F.mul_ne h1 h2
  have hxx:x1=x2:=by
   refine F.cancel (F.mul_ne hW hW) ?_
   subst hx1 hx2; clear hy1 hy2 hj1 hj2 ht hu; grobner
  have ht':On (-3) b (some (x1,y1)):=by rw [←hj1]; exact ht
  have hu':On (-3) b (some (x2,y2)):=by rw [←hj2]; exact hu
  subst hxx
  by_cases h4:Y2*(Z1*(Z1*Z1)) - Y1*(Z2*(Z2*Z2))=0
  ·rw [if_pos h4]
   have hyy:y1=y2:=by
    refine F.cancel (F.mul_ne hW (F.mul_ne hW hW)) ?_
    subst hy1 hy2; clear hj1 hj2 ht hu ht' hu' hx1 hx2 h3; grobner
   have e:=ox F (X1,Y1,Z1)
   refine e.trans ?_
   show Ec.add (-3) (jac X1 Y1 Z1) (jac X1 Y1 Z1)=Ec.add (-3) (jac X1 Y1 Z1) (jac X2 Y2 Z2)
   rw [hj1,hj2,hyy]
  ·rw [if_neg h4]
   have hyn:y1+y2=0:=by
    rcases F.same_x ht' hu' with q | q
    ·exfalso; apply h4
     subst hy1 hy2 q; clear hj1 hj2 ht hu ht' hu' hx1 hx2 h3 h4; grobner
    ·rw [q,od]
   show jac 0 0 0=Ec.add (-3) (jac X1 Y1 Z1) (jac X2 Y2 Z2)
   rw [dW,hj1,hj2,dy,if_pos rfl,if_pos hyn]
 ·rw [if_neg h3]
  exact F.jac_add h1 h2 rfl rfl rfl rfl rfl rfl rfl rfl rfl rfl rfl h3 (-3)
end
end Go.Gk.Bn
end

section
namespace Go.Gk.Bn
open Go Go.Gk Go.Gk.Sh Go.Gk.Ec Go.Gk.Pr
section
variable {p:Nat} [NeZero p]
def rl (u:Fin p):List UInt32:=ay u.val
def rep (P:Pt p):List UInt32×List UInt32×Bool:=match P with
 | none=>([],[],true)
 | some (x,y)=>(rl x,rl y,false)
theorem jP (u:Fin p):val (rl u)=u.val:=aA _
theorem zR (F:Fld p) (hp:Prm p) {Z:Fin p} {v:Nat} (hv:v<p) (h:Z.val*v%p=1):(⟨v,hv⟩:Fin p)=rcp Z:=by
 apply F.iv_uniq
 apply Fin.ext
 rw [Fin.val_mul]
 show Z.val*v%p=1%p
 rw [h,Nat.mod_eq_of_lt hp.1]
theorem zr (hp:Prm p) {Z:Fin p} (h:Z≠0):Nat.gcd Z.val p=1:=by
 have hz:Z.val≠0:=fun e=>h (Fin.ext (by rw [e]; simp))
 have h1:¬p ∣ Z.val:=fun hd=>by have:=Nat.le_of_dvd (by omega) hd; have:=Z.isLt; omega
 rw [Nat.gcd_comm]
 exact hp.coprime h1
theorem sY (hpl:nl (p:Int)≤1000) (u:Fin p):F.BM (be u).1 (be u).2=some (rl u):=by
 have:=gl u hpl
 unfold be
 rw [nq _ (by omega)]; rfl
theorem ww (b0:Bool) (b1:List UInt32) (n0:Bool) (n1:List UInt32) (x0:Bool) (x1:List UInt32) (y0:Bool) (y1:List UInt32) (s:Int) (hpl:nl (p:Int)≤1000) (D:Fld p) (hp:Prm p) (X Y Z:Fin p) :
  F.Cz (bi (p:Int)).1 (bi (p:Int)).2 b0 b1 n0 n1 x0 x1 y0 y1 s (be X).1 (be X).2 (be Y).1 (be Y).2 (be Z).1 (be Z).2=some (rep (jac X Y Z)):=by
 have mul:=mS b0 b1 n0 n1 x0 x1 y0 y1 s hpl
 unfold F.Cz jac
 rw [gI,ak]
 by_cases h:Z=0
 ·rw [if_pos (sg0.2 h),if_pos h]; rfl
 ·rw [if_neg (fun q=>h (sg0.1 q)),if_neg h]
  have hz:=gl Z hpl
  obtain ⟨v,hv,hv1,hv2⟩:=pz false [] Z.val p hp.1 (by omega) (by omega) (zr hp h)
  have e:bi (v:Int)=be (rcp Z):=by rw [←zR D hp hv hv1]; rfl
  rw [e]at hv2
  rw [show F.D3 false [] (be Z).1 (be Z).2 (bi (p:Int)).1 (bi (p:Int)).2=some (be (rcp Z)) from hv2,ak,mul,ak,mul,ak,sY hpl,ak,mul,ak,mul,ak,sY hpl,ak]
  rfl
end
section
variable (c:Int) (hc:isC c)
theorem k6 (u:Fin (cP c)):(rl u).length≤12:=te c (Nat.le_of_lt u.isLt)
include hc
def fc (X Y:List UInt32) (inf:Bool):Pt (cP c):=if inf then none else some (fz (val X:Int),fz (val Y:Int))
theorem og (x y:Nat) (hx:x<cP c) (hy:y<cP c):onN (cP c) (cB c) x y=true↔On (-3) (fz (cB c:Int)) (some (fz (p:=cP c) (x:Int),fz (y:Int))):=by
 have hp:=(db c).2.2.2.2.2.1
 unfold onN
 rw [decide_eq_true hx,decide_eq_true hy,Bool.true_and,Bool.true_and,decide_eq_true_iff]
 obtain ⟨A,hA⟩:∃A,x*(x*x%cP c)%cP c=A:=⟨_,rfl⟩
 obtain ⟨B,hB⟩:∃B,3*x%cP c=B:=⟨_,rfl⟩
 have hBp:B<cP c:=by rw [←hB]; exact Nat.mod_lt _ (by omega)
 have fA:fz (p:=cP c) (A:Int)=fz x*(fz x*fz x):=by rw [←hA,Int.natCast_emod,f7,Int.natCast_mul,ia,Int.natCast_emod,f7,Int.natCast_mul,ia]
 have fB:fz (p:=cP c) (B:Int)=3*fz x:=by
  rw [←hB,Int.natCast_emod,f7,Int.natCast_mul,ia]
  congr 1
 have fP:fz (p:=cP c) (cP c:Int)=0:=gi.2 (Int.emod_self)
 rw [hA,hB]
 have e1:fz (p:=cP c) ((((A+cP c - B)%cP c+cB c:Nat)):Int)=fz x*(fz x*fz x) - 3*fz x+fz (cB c:Int):=by
  rw [Int.natCast_add,kR,Int.natCast_emod,f7,show ((A+cP c - B:Nat):Int)=(A:Int)+cP c - B by omega,nQ,kR,fA,fB,fP]
  grobner
 have e2:fz (p:=cP c) ((y*y:Nat):Int)=fz y*fz y:=by rw [Int.natCast_mul,ia]
 have e3:y*y%cP c=((A+cP c - B)%cP c+cB c)%cP c↔fz (p:=cP c) ((y*y:Nat):Int)=fz ((((A+cP c - B)%cP c+cB c:Nat)):Int):=by
  rw [u7,←Int.natCast_emod,←Int.natCast_emod]
  exact Int.natCast_inj.symm
 rw [e3,e1,e2]
 unfold On
 dsimp only
 constructor
 ·intro h; rw [h]; grobner
 ·intro h; rw [h]; grobner
end
end Go.Gk.Bn
end

section
namespace Go.Gk.Bn
open Go Go.Gk Go.Gk.Sh Go.Gk.Ec Go.Gk.Pr
abbrev bF (c:Int):Fin (cP c):=fz (cB c:Int)
theorem ug {c:Int} {X Y:List UInt32} {q:Bool} (h:onS c X Y q=true):isC c:=by
 unfold onS at h
 split at h
 ·assumption
 ·cases h
theorem n7 {c:Int} {X Y:List UInt32} (h:onS c X Y false=true):val X<cP c∧val Y<cP c∧onN (cP c) (cB c) (val X) (val Y)=true:=by
 have hc:=ug h
 unfold onS at h
 rw [if_pos hc,if_neg (by decide)]at h
 exact ⟨(rc h).1,(rc h).2,h⟩
theorem qy {c:Int} {X Y:List UInt32} {q:Bool} (h:onS c X Y q=true):On (-3) (bF c) (fc c X Y q):=by
 unfold fc
 cases q with
 | true=>rw [if_pos rfl]; trivial
 | false=>
  obtain ⟨h1,h2,h3⟩:=n7 h
  rw [if_neg (by decide)]
  exact (og c (ug h) _ _ h1 h2).1 h3
theorem lz {l:List UInt32} (h:val l=0):ay (val l)=[]:=by rw [h]; exact bB
def jT (c:Int) (X Y:List UInt32) (q:Bool):Fin (cP c)×Fin (cP c)×Fin (cP c):=if q then (0,0,0) else (fz (val X:Int),fz (val Y:Int),1)
theorem tc {p:Nat} [NeZero p]:be (0:Fin p)=(false,[]):=by
 unfold be
 have:(0:Fin p).val=0:=by simp
 rw [this]
 exact congrArg (fun l=>(false,l)) bB
theorem As {c:Int} {X Y:List UInt32} {q:Bool} (h:onS c X Y q=true):rdT X Y q=bt (jT c X Y q):=by
 unfold rdT jT bt
 cases q with
 | true=>
  rw [if_pos rfl,if_pos rfl]
  dsimp only
  rw [tc]
 | false=>
  obtain ⟨h1,h2,_⟩:=n7 h
  have hp:=(gx c).1
  have e1:be (fz (p:=cP c) (val X:Int))=bi (val X:Int):=by rw [jq,Int.emod_eq_of_lt (by omega) (by omega)]
  have e2:be (fz (p:=cP c) (val Y:Int))=bi (val Y:Int):=by rw [jq,Int.emod_eq_of_lt (by omega) (by omega)]
  have e3:be (1:Fin (cP c))=bi 1:=by rw [←v9,jq,Int.emod_eq_of_lt (by omega) (by omega)]
  rw [if_neg (by decide),if_neg (by decide)]
  dsimp only
  rw [e1,e2,e3]
theorem nf (c:Int):(1:Fin (cP c))≠0:=by
 intro h
 have h1:(1:Fin (cP c)).val=1%cP c:=rfl
 have h0:(0:Fin (cP c)).val=0:=by simp
 have h2:=congrArg Fin.val h
 rw [h1,h0,Nat.mod_eq_of_lt (gx c).1]at h2
 cases h2
theorem ya (c:Int) (X Y:List UInt32) (q:Bool):jpt (jT c X Y q)=fc c X Y q:=by
 unfold jpt jT fc
 cases q with
 | true=>exact dW _ _
 | false=>
  rw [if_neg (by decide),if_neg (by decide)]
  exact (kq c).jac_of (nf c) (by grobner) (by grobner)
theorem zQ (c:Int) (t:Fin (cP c)×Fin (cP c)×Fin (cP c)) :
  F.Cz (gT c).1 (gT c).2.1 (gT c).2.2.1 (gT c).2.2.2.1 (gT c).2.2.2.2.1 (gT c).2.2.2.2.2.1 (gT c).2.2.2.2.2.2.1 (gT c).2.2.2.2.2.2.2.1 (gT c).2.2.2.2.2.2.2.2.1 (gT c).2.2.2.2.2.2.2.2.2.1 (gT c).2.2.2.2.2.2.2.2.2.2
   (bt t).1 (bt t).2.1 (bt t).2.2.1 (bt t).2.2.2.1 (bt t).2.2.2.2.1 (bt t).2.2.2.2.2=some (rep (jpt t)):=
 ww _ _ _ _ _ _ _ _ _ (by have:=kD c; omega) (kq c) (gx c) t.1 t.2.1 t.2.2
theorem AO (c:Int) (t u:Fin (cP c)×Fin (cP c)×Fin (cP c)) :
  F.B1 (gT c).1 (gT c).2.1 (gT c).2.2.1 (gT c).2.2.2.1 (gT c).2.2.2.2.1 (gT c).2.2.2.2.2.1 (gT c).2.2.2.2.2.2.1 (gT c).2.2.2.2.2.2.2.1 (gT c).2.2.2.2.2.2.2.2.1 (gT c).2.2.2.2.2.2.2.2.2.1 (gT c).2.2.2.2.2.2.2.2.2.2
   (bt t).1 (bt t).2.1 (bt t).2.2.1 (bt t).2.2.2.1 (bt t).2.2.2.2.1 (bt t).2.2.2.2.2 (bt u).1 (bt u).2.1 (bt u).2.2.1 (bt u).2.2.2.1 (bt u).2.2.2.2.1 (bt u).2.2.2.2.2=some (bt (ik t.1 t.2.1 t.2.2 u.1 u.2.1 u.2.2)):=
 sQ _ _ _ _ _ _ _ _ _ (by have:=kD c; omega) t.1 t.2.1 t.2.2 u.1 u.2.1 u.2.2
end Go.Gk.Bn
end

section
namespace Go.Gk.Bn
open Go Go.Gk Go.Gk.Sh Go.Gk.Ec Go.Gk.Pr
theorem y4 (c:Int) (P:Pt (cP c)):(rep P).1.length≤12∧(rep P).2.1.length≤12:=by
 rcases P with _ | ⟨x,y⟩
 ·exact ⟨Nat.zero_le _,Nat.zero_le _⟩
 ·exact ⟨k6 c x,k6 c y⟩
end Go.Gk.Bn
end
