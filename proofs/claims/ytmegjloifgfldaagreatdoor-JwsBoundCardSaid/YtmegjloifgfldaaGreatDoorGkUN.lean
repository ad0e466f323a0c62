import Derived.Test.YtmegjloifgfldaaGreatDoorGkUL
import Derived.Test.YtmegjloifgfldaaGreatDoorGkEc0
import Derived.Test.YtmegjloifgfldaaGreatDoorGkUJ
import Derived.Test.YtmegjloifgfldaaGreatDoorGkFman
set_option linter.unusedVariables false
set_option linter.unusedSimpArgs false
set_option linter.unusedSectionVars false

section
namespace Go.Gk.Bn
open Go Go.Gk Go.Gk.Sh Go.Gk.Ec Go.Gk.Pr
instance cP_nz (c:Int):NeZero (cP c):=⟨by have:=(fY c).2.2.2.2.2.1; omega⟩
theorem kN (c:Int):Prm (cP c):=by
 unfold cP
 split
 ·exact da
 ·exact cn
theorem uX (c:Int):Prm (cN c):=by
 unfold cN
 split
 ·exact db
 ·exact cp
theorem oy (c:Int):Fld (cP c):=EA (kN c) (by have:=(fY c).2.2.2.2.2.1; omega)
section
variable {p:Nat} [NeZero p]
def be (u:Fin p):Bool×Q0:=bi (u.val:Int)
theorem Ay {x y:Int}:fz (p:=p) x=fz y↔x%p=y%p:=by
 constructor
 ·intro h
  rw[<-i4 (p:=p) x,h,i4]
 ·intro h
  rw[<-jx x,h,jx]
theorem lf (z:Int):be (fz (p:=p) z)=bi (z%p):=by unfold be; rw[i4]
theorem AE:fz (p:=p) 1=1:=qj 1
theorem iU (u:Fin p) (hpl:nl (p:Int)<=1000):nl (u.val:Int)<=1000:=Nat.le_trans (fQ (by have:=u.isLt; omega)) hpl
theorem jv (u:Fin p):F.GY (be u).1 (be u).2=some (if u=0 then 0 else 1):=by
 unfold be
 rw[rV]
 by_cases h:u=0
 ·have f:(0:Fin p).val=0:=by simp
  rw[if_pos h,h,f,if_pos (by rfl)]
 ·have g:u.val≠0:=fun e=>h (Fin.ext (by rw[e]; simp))
  rw[if_neg h,if_neg (by omega),if_neg (by omega)]
variable (b0:Bool) (b1:Q0) (n0:Bool) (n1:Q0) (x0:Bool) (x1:Q0) (y0:Bool) (y1:Q0) (s:Int) (hpl:nl (p:Int)<=1000)
include hpl
theorem pS (u v:Fin p):F.GD (bi (p:Int)).1 (bi (p:Int)).2 b0 b1 n0 n1 x0 x1 y0 y1 s (be u).1 (be u).2 (be v).1 (be v).2=some (be (u*v)):=by
 have f:=iU u hpl; have g:=iU v hpl
 have i:=Int.mul_nonneg (Int.natCast_nonneg u.val) (Int.natCast_nonneg v.val)
 unfold be
 rw[lQ p b0 b1 n0 n1 x0 x1 y0 y1 s mV hpl _ _ (by omega) (fun h=>by omega),Fin.val_mul,Int.natCast_emod,Int.natCast_mul]
theorem vj (u v:Fin p):F.GQ (bi (p:Int)).1 (bi (p:Int)).2 b0 b1 n0 n1 x0 x1 y0 y1 s (be u).1 (be u).2 (be v).1 (be v).2=some (be (u - v)):=by
 have g:=iU u hpl; have h:=iU v hpl
 have f:be (u - v)=bi (((u.val:Int) - (v.val:Int))%p):=by rw[<-lf,AS,md,md]
 rw[f]
 unfold be
 rw[xU p b0 b1 n0 n1 x0 x1 y0 y1 s mV hpl _ _ (by omega) (by omega)]
theorem qV (k:Nat) (g:k<=1000) (u:Fin p):F.G1 (bi (p:Int)).1 (bi (p:Int)).2 b0 b1 n0 n1 x0 x1 y0 y1 s (k:Int) (be u).1 (be u).2=some (be (Fin.ofNat p k*u)):=by
 have h:=iU u hpl
 have f:be (Fin.ofNat p k*u)=bi (((k:Int)*(u.val:Int))%p):=by rw[<-lf,ob,md,qj]
 rw[f]
 unfold be
 rw[sD p b0 b1 n0 n1 x0 x1 y0 y1 s mV hpl (k:Int) _ (by omega) (by omega) (by omega) (by omega)]
theorem Cd (u v:Fin p):(ah (F.JT false [] (be u).1 (be u).2 (be v).1 (be v).2) fun x=>F.Hq (bi (p:Int)).1 (bi (p:Int)).2 b0 b1 n0 n1 x0 x1 y0 y1 s x.1 x.2)=some (be (u+v)):=by
 have g:=iU u hpl; have h:=iU v hpl
 have f:be (u+v)=bi (((u.val:Int)+(v.val:Int))%p):=by rw[<-lf,rG,md,md]
 have i:=u9 (u.val:Int) (v.val:Int)
 rw[f]
 unfold be
 rw[EO _ _ _ _ (by omega) (by omega),ae,oW p b0 b1 n0 n1 x0 x1 y0 y1 s mV hpl _ (by omega) (fun _=>by omega)]
omit hpl in
def nP (X Y Z:Fin p):Fin p×Fin p×Fin p:=
 if Z=0 then (X,Y,Z) else
  let zz:=Z*Z; let yy:=Y*Y; let s:=4*(X*yy); let m:=3*((X - zz)*(X+zz)); let x:=m*m - 2*s
  (x,m*(s - x) - 8*(yy*yy),2*(Y*Z))
omit hpl in
def lO (X1 Y1 Z1 X2 Y2 Z2:Fin p):Fin p×Fin p×Fin p:=
 if Z1=0 then (X2,Y2,Z2) else if Z2=0 then (X1,Y1,Z1) else
  let u1:=X1*(Z2*Z2); let s1:=Y1*(Z2*(Z2*Z2)); let h:=X2*(Z1*Z1) - u1; let r:=Y2*(Z1*(Z1*Z1)) - s1
  if h=0 then (if r=0 then nP X1 Y1 Z1 else (0,0,0)) else
   let hh:=h*h; let hhh:=h*hh; let v:=u1*hh; let x:=r*r - hhh - 2*v
   (x,r*(v - x) - s1*hhh,h*(Z1*Z2))
omit hpl in
def bt (t:Fin p×Fin p×Fin p):Bool×Q0×Bool×Q0×Bool×Q0:=((be t.1).1,(be t.1).2,(be t.2.1).1,(be t.2.1).2,(be t.2.2).1,(be t.2.2).2)
omit hpl in
noncomputable def jpt (t:Fin p×Fin p×Fin p):Pt p:=jac t.1 t.2.1 t.2.2
omit hpl in
theorem sg0 {u:Fin p}:(((if u=0 then (0:Int) else 1) == 0)=true)↔u=0:=by
 by_cases h:u=0
 ·rw[if_pos h]; simp[h]
 ·rw[if_neg h]; simp[h]
theorem rx (X Y Z:Fin p):F.Jd (bi (p:Int)).1 (bi (p:Int)).2 b0 b1 n0 n1 x0 x1 y0 y1 s (be X).1 (be X).2 (be Y).1 (be Y).2 (be Z).1 (be Z).2=some (bt (nP X Y Z)):=by
 have mul:=pS b0 b1 n0 n1 x0 x1 y0 y1 s hpl
 have sub:=vj b0 b1 n0 n1 x0 x1 y0 y1 s hpl
 have i:=fun k A=>qV b0 b1 n0 n1 x0 x1 y0 y1 s hpl k A
 have B:=Cd b0 b1 n0 n1 x0 x1 y0 y1 s hpl
 unfold F.Jd
 rw[jv,ae]
 by_cases h:Z=0
 ·rw[if_pos (sg0.2 h)]
  unfold nP
  rw[if_pos h]; rfl
 ·rw[if_neg (fun q=>h (sg0.1 q)),mul,ae,mul,ae,mul,ae]
  have o:=i 4 (by decide); have t:=i 3 (by decide); have j:=i 2 (by decide); have z:=i 8 (by decide)
  have G:((4:Nat):Int)=4:=rfl
  have I:((3:Nat):Int)=3:=rfl
  have J:((2:Nat):Int)=2:=rfl
  have e8:((8:Nat):Int)=8:=rfl
  rw[G]at o; rw[I]at t; rw[J]at j; rw[e8]at z
  rw[o,ae,sub,ae]
  have hb:∀{α β γ:Type} (x:Option α) (f:α->Option β) (g:β->Option γ),(ah x fun a=>ah (f a) g)=ah (ah x f) g:=fun x f g=>by cases x <;> rfl
  rw[hb,B,ae,mul,ae,t,ae,mul,ae,j,ae,sub,ae,sub,ae,mul,ae,mul,ae,z,ae,sub,ae,mul,ae,j,ae]
  unfold nP
  rw[if_neg h]
  rfl
theorem xj (h i f j k g:Fin p):F.Hz (bi (p:Int)).1 (bi (p:Int)).2 b0 b1 n0 n1 x0 x1 y0 y1 s (be h).1 (be h).2 (be i).1 (be i).2 (be f).1 (be f).2 (be j).1 (be j).2 (be k).1 (be k).2 (be g).1 (be g).2=some (bt (lO h i f j k g)):=by
 have mul:=pS b0 b1 n0 n1 x0 x1 y0 y1 s hpl
 have sub:=vj b0 b1 n0 n1 x0 x1 y0 y1 s hpl
 have o:=qV b0 b1 n0 n1 x0 x1 y0 y1 s hpl 2 (by decide)
 have t:((2:Nat):Int)=2:=rfl
 rw[t]at o
 unfold F.Hz lO
 rw[jv,ae]
 by_cases h1:f=0
 ·rw[if_pos (sg0.2 h1),if_pos h1]; rfl
 rw[if_neg (fun q=>h1 (sg0.1 q)),if_neg h1,jv,ae]
 by_cases h2:g=0
 ·rw[if_pos (sg0.2 h2),if_pos h2]; rfl
 rw[if_neg (fun q=>h2 (sg0.1 q)),if_neg h2,mul,ae,mul,ae,mul,ae,mul,ae,mul,ae,mul,ae,mul,ae,mul,ae,sub,ae,sub,ae,jv,ae]
 dsimp only
 by_cases h3:j*(f*f) - h*(g*g)=0
 ·rw[if_pos (sg0.2 h3),if_pos h3,jv,ae]
  by_cases h4:k*(f*(f*f)) - i*(g*(g*g))=0
  ·rw[if_pos (sg0.2 h4),if_pos h4,rx b0 b1 n0 n1 x0 x1 y0 y1 s hpl,ae]
  ·rw[if_neg (fun q=>h4 (sg0.1 q)),if_neg h4]
   unfold F.Hf
   rw[ae]
   have z:be (0:Fin p)=(false,[]):=by
    unfold be
    have:(0:Fin p).val=0:=by simp
    rw[this]
    exact congrArg (fun l=>(false,l)) bI
   unfold bt
   dsimp only
   rw[z]
 ·rw[if_neg (fun q=>h3 (sg0.1 q)),if_neg h3,mul,ae,mul,ae,mul,ae,mul,ae,sub,ae,o,ae,sub,ae,sub,ae,mul,ae,mul,ae,sub,ae,mul,ae,mul,ae]
  rfl
end
section
variable {p:Nat} [NeZero p]
theorem x5 (F:Fld p) (t:Fin p×Fin p×Fin p):jpt (nP t.1 t.2.1 t.2.2)=Ec.add (-3) (jpt t) (jpt t):=by
 obtain⟨X,Y,Z⟩:=t
 unfold jpt nP
 by_cases h:Z=0
 ·subst h
  rw[if_pos rfl,gj]; rfl
 ·rw[if_neg h]
  exact F.jac_dbl h rfl rfl rfl rfl rfl rfl
theorem xK (F:Fld p) {b:Fin p} (t u:Fin p×Fin p×Fin p) (N:On (-3) b (jpt t)) (O:On (-3) b (jpt u)):jpt (lO t.1 t.2.1 t.2.2 u.1 u.2.1 u.2.2)=Ec.add (-3) (jpt t) (jpt u):=by
 obtain⟨i,j,f⟩:=t
 obtain⟨o,z,k⟩:=u
 unfold lO
 dsimp only
 by_cases h1:f=0
 ·subst h1
  rw[if_pos rfl]
  show _=Ec.add (-3) (jac i j 0) _
  rw[gj]; rfl
 rw[if_neg h1]
 by_cases h2:k=0
 ·subst h2
  rw[if_pos rfl]
  show _=Ec.add (-3) _ (jac o z 0)
  rw[gj,dG]
 rw[if_neg h2]
 by_cases h3:o*(f*f) - i*(k*k)=0
 ·rw[if_pos h3]
  obtain⟨x1,y1,A,B,g⟩:=F.of_jac i j h1
  obtain⟨x2,y2,G,I,h⟩:=F.of_jac o z h2
  have J:=F.mul_ne h1 h2
  have R:x1=x2:=by
   refine F.cancel (F.mul_ne J J) ?_
   subst A G; clear B I g h N O; grobner
  have K:On (-3) b (some (x1,y1)):=by rw[<-g]; exact N
  have M:On (-3) b (some (x2,y2)):=by rw[<-h]; exact O
  subst R
  by_cases h4:z*(f*(f*f)) - j*(k*(k*k))=0
  ·rw[if_pos h4]
   have U:y1=y2:=by
    refine F.cancel (F.mul_ne J (F.mul_ne J J)) ?_
    subst B I; clear g h N O K M A G h3; grobner
   have e:=x5 F (i,j,f)
   refine e.trans ?_
   show Ec.add (-3) (jac i j f) (jac i j f)=Ec.add (-3) (jac i j f) (jac o z k)
   rw[g,h,U]
  ·rw[if_neg h4]
   have V:y1+y2=0:=by
    rcases F.same_x K M with q | q
    ·exfalso; apply h4
     subst B I q; clear g h N O K M A G h3 h4; grobner
    ·rw[q,xJ]
   show jac 0 0 0=Ec.add (-3) (jac i j f) (jac o z k)
   rw[gj,g,h,kG,if_pos rfl,if_pos V]
 ·rw[if_neg h3]
  exact F.jac_add h1 h2 rfl rfl rfl rfl rfl rfl rfl rfl rfl rfl rfl h3 (-3)
end
end Go.Gk.Bn
end

section
namespace Go.Gk.Bn
open Go Go.Gk Go.Gk.Sh Go.Gk.Ec Go.Gk.Pr
section
variable {p:Nat} [NeZero p]
def rl (u:Fin p):Q0:=aq u.val
def rep (P:Pt p):Q0×Q0×Bool:=match P with
 | none=>([],[],true)
 | some (x,y)=>(rl x,rl y,false)
theorem E7 (u:Fin p):val (rl u)=u.val:=aw _
theorem Fc (F:Fld p) (f:Prm p) {Z:Fin p} {v:Nat} (g:v<p) (h:Z.val*v%p=1):(⟨v,g⟩:Fin p)=rcp Z:=by
 apply F.iv_uniq
 apply Fin.ext
 rw[Fin.val_mul]
 show Z.val*v%p=1%p
 rw[h,Nat.mod_eq_of_lt f.1]
theorem Ef (f:Prm p) {Z:Fin p} (h:Z≠0):Nat.gcd Z.val p=1:=by
 have j:Z.val≠0:=fun e=>h (Fin.ext (by rw[e]; simp))
 have g:¬p ∣ Z.val:=fun i=>by have:=Nat.le_of_dvd (by omega) i; have:=Z.isLt; omega
 rw[Nat.gcd_comm]
 exact f.coprime g
theorem xy (hpl:nl (p:Int)<=1000) (u:Fin p):F.Hy (be u).1 (be u).2=some (rl u):=by
 have:=iU u hpl
 unfold be
 rw[Ai _ (by omega)]; rfl
theorem Cj (b0:Bool) (b1:Q0) (n0:Bool) (n1:Q0) (x0:Bool) (x1:Q0) (y0:Bool) (y1:Q0) (s:Int) (hpl:nl (p:Int)<=1000) (D:Fld p) (g:Prm p) (X Y Z:Fin p) :
  F.HI (bi (p:Int)).1 (bi (p:Int)).2 b0 b1 n0 n1 x0 x1 y0 y1 s (be X).1 (be X).2 (be Y).1 (be Y).2 (be Z).1 (be Z).2=some (rep (jac X Y Z)):=by
 have mul:=pS b0 b1 n0 n1 x0 x1 y0 y1 s hpl
 unfold F.HI jac
 rw[jv,ae]
 by_cases h:Z=0
 ·rw[if_pos (sg0.2 h),if_pos h]; rfl
 ·rw[if_neg (fun q=>h (sg0.1 q)),if_neg h]
  have k:=iU Z hpl
  obtain⟨v,j,i,f⟩:=tw false [] Z.val p g.1 (by omega) (by omega) (Ef g h)
  have e:bi (v:Int)=be (rcp Z):=by rw[<-Fc D g j i]; rfl
  rw[e]at f
  rw[show F.Js false [] (be Z).1 (be Z).2 (bi (p:Int)).1 (bi (p:Int)).2=some (be (rcp Z)) from f,ae,mul,ae,mul,ae,xy hpl,ae,mul,ae,mul,ae,xy hpl,ae]
  rfl
end
section
variable (c:Int) (hc:isC c)
theorem Fn (u:Fin (cP c)):(rl u).length<=12:=xQ c (Nat.le_of_lt u.isLt)
include hc
def pJ (X Y:Q0) (inf:Bool):Pt (cP c):=if inf then none else some (fz (val X:Int),fz (val Y:Int))
theorem xb (x y:Nat) (hx:x<cP c) (hy:y<cP c):onN (cP c) (cB c) x y=true↔On (-3) (fz (cB c:Int)) (some (fz (p:=cP c) (x:Int),fz (y:Int))):=by
 have G:=(fY c).2.2.2.2.2.1
 unfold onN
 rw[decide_eq_true hx,decide_eq_true hy,Bool.true_and,Bool.true_and,decide_eq_true_iff]
 obtain⟨A,g⟩:∃A,x*(x*x%cP c)%cP c=A:=⟨_,rfl⟩
 obtain⟨B,f⟩:∃B,3*x%cP c=B:=⟨_,rfl⟩
 have F:B<cP c:=by rw[<-f]; exact Nat.mod_lt _ (by omega)
 have i:fz (p:=cP c) (A:Int)=fz x*(fz x*fz x):=by rw[<-g,Int.natCast_emod,jx,Int.natCast_mul,ob,Int.natCast_emod,jx,Int.natCast_mul,ob]
 have j:fz (p:=cP c) (B:Int)=3*fz x:=by
  rw[<-f,Int.natCast_emod,jx,Int.natCast_mul,ob]
  congr 1
 have k:fz (p:=cP c) (cP c:Int)=0:=zf.2 (Int.emod_self)
 rw[g,f]
 have o:fz (p:=cP c) ((((A+cP c - B)%cP c+cB c:Nat)):Int)=fz x*(fz x*fz x) - 3*fz x+fz (cB c:Int):=by
  rw[Int.natCast_add,rG,Int.natCast_emod,jx,show ((A+cP c - B:Nat):Int)=(A:Int)+cP c - B by omega,AS,rG,i,j,k]
  grobner
 have t:fz (p:=cP c) ((y*y:Nat):Int)=fz y*fz y:=by rw[Int.natCast_mul,ob]
 have z:y*y%cP c=((A+cP c - B)%cP c+cB c)%cP c↔fz (p:=cP c) ((y*y:Nat):Int)=fz ((((A+cP c - B)%cP c+cB c:Nat)):Int):=by
  rw[Ay,<-Int.natCast_emod,<-Int.natCast_emod]
  exact Int.natCast_inj.symm
 rw[z,o,t]
 unfold On
 dsimp only
 constructor
 ·intro h; rw[h]; grobner
 ·intro h; rw[h]; grobner
end
end Go.Gk.Bn
end

section
namespace Go.Gk.Bn
open Go Go.Gk Go.Gk.Sh Go.Gk.Ec Go.Gk.Pr
abbrev bF (c:Int):Fin (cP c):=fz (cB c:Int)
theorem yr {c:Int} {X Y:Q0} {q:Bool} (h:onS c X Y q=true):isC c:=by
 unfold onS at h
 split at h
 ·assumption
 ·cases h
theorem xm {c:Int} {X Y:Q0} (h:onS c X Y false=true):val X<cP c/\val Y<cP c/\onN (cP c) (cB c) (val X) (val Y)=true:=by
 have hc:=yr h
 unfold onS at h
 rw[if_pos hc,if_neg (by decide)]at h
 exact⟨(zF h).1,(zF h).2,h⟩
theorem Fx {c:Int} {X Y:Q0} {q:Bool} (h:onS c X Y q=true):On (-3) (bF c) (pJ c X Y q):=by
 unfold pJ
 cases q with
 | true=>rw[if_pos rfl]; trivial
 | false=>
  obtain⟨f,g,i⟩:=xm h
  rw[if_neg (by decide)]
  exact (xb c (yr h) _ _ f g).1 i
theorem lz {l:Q0} (h:val l=0):aq (val l)=[]:=by rw[h]; exact bI
def jT (c:Int) (X Y:Q0) (q:Bool):Fin (cP c)×Fin (cP c)×Fin (cP c):=if q then (0,0,0) else (fz (val X:Int),fz (val Y:Int),1)
theorem xM {p:Nat} [NeZero p]:be (0:Fin p)=(false,[]):=by
 unfold be
 have:(0:Fin p).val=0:=by simp
 rw[this]
 exact congrArg (fun l=>(false,l)) bI
theorem FK {c:Int} {X Y:Q0} {q:Bool} (h:onS c X Y q=true):rdT X Y q=bt (jT c X Y q):=by
 unfold rdT jT bt
 cases q with
 | true=>
  rw[if_pos rfl,if_pos rfl]
  dsimp only
  rw[xM]
 | false=>
  obtain⟨j,k,_⟩:=xm h
  have o:=(kN c).1
  have f:be (fz (p:=cP c) (val X:Int))=bi (val X:Int):=by rw[lf,Int.emod_eq_of_lt (by omega) (by omega)]
  have g:be (fz (p:=cP c) (val Y:Int))=bi (val Y:Int):=by rw[lf,Int.emod_eq_of_lt (by omega) (by omega)]
  have i:be (1:Fin (cP c))=bi 1:=by rw[<-AE,lf,Int.emod_eq_of_lt (by omega) (by omega)]
  rw[if_neg (by decide),if_neg (by decide)]
  dsimp only
  rw[f,g,i]
theorem Az (c:Int):(1:Fin (cP c))≠0:=by
 intro h
 have g:(1:Fin (cP c)).val=1%cP c:=rfl
 have i:(0:Fin (cP c)).val=0:=by simp
 have f:=congrArg Fin.val h
 rw[g,i,Nat.mod_eq_of_lt (kN c).1]at f
 cases f
theorem C7 (c:Int) (X Y:Q0) (q:Bool):jpt (jT c X Y q)=pJ c X Y q:=by
 unfold jpt jT pJ
 cases q with
 | true=>exact gj _ _
 | false=>
  rw[if_neg (by decide),if_neg (by decide)]
  exact (oy c).jac_of (Az c) (by grobner) (by grobner)
theorem Fy (c:Int) (t:Fin (cP c)×Fin (cP c)×Fin (cP c)) :
  F.HI (gT c).1 (gT c).2.1 (gT c).2.2.1 (gT c).2.2.2.1 (gT c).2.2.2.2.1 (gT c).2.2.2.2.2.1 (gT c).2.2.2.2.2.2.1 (gT c).2.2.2.2.2.2.2.1 (gT c).2.2.2.2.2.2.2.2.1 (gT c).2.2.2.2.2.2.2.2.2.1 (gT c).2.2.2.2.2.2.2.2.2.2
   (bt t).1 (bt t).2.1 (bt t).2.2.1 (bt t).2.2.2.1 (bt t).2.2.2.2.1 (bt t).2.2.2.2.2=some (rep (jpt t)):=
 Cj _ _ _ _ _ _ _ _ _ (by have:=oX c; omega) (oy c) (kN c) t.1 t.2.1 t.2.2
theorem FX (c:Int) (t u:Fin (cP c)×Fin (cP c)×Fin (cP c)) :
  F.Hz (gT c).1 (gT c).2.1 (gT c).2.2.1 (gT c).2.2.2.1 (gT c).2.2.2.2.1 (gT c).2.2.2.2.2.1 (gT c).2.2.2.2.2.2.1 (gT c).2.2.2.2.2.2.2.1 (gT c).2.2.2.2.2.2.2.2.1 (gT c).2.2.2.2.2.2.2.2.2.1 (gT c).2.2.2.2.2.2.2.2.2.2
   (bt t).1 (bt t).2.1 (bt t).2.2.1 (bt t).2.2.2.1 (bt t).2.2.2.2.1 (bt t).2.2.2.2.2 (bt u).1 (bt u).2.1 (bt u).2.2.1 (bt u).2.2.2.1 (bt u).2.2.2.2.1 (bt u).2.2.2.2.2=some (bt (lO t.1 t.2.1 t.2.2 u.1 u.2.1 u.2.2)):=
 xj _ _ _ _ _ _ _ _ _ (by have:=oX c; omega) t.1 t.2.1 t.2.2 u.1 u.2.1 u.2.2
end Go.Gk.Bn
end

section
namespace Go.Gk.Bn
open Go Go.Gk Go.Gk.Sh Go.Gk.Ec Go.Gk.Pr
end Go.Gk.Bn
end
