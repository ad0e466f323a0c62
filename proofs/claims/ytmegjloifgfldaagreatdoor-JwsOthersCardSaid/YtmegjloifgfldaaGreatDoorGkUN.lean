import Derived.Test.YtmegjloifgfldaaGreatDoorGkUL
import Derived.Test.YtmegjloifgfldaaGreatDoorGkEc0
import Derived.Test.YtmegjloifgfldaaGreatDoorGkUJ
import Derived.Test.YtmegjloifgfldaaGreatDoorGkFman
set_option linter.unusedVariables false
set_option linter.unusedSimpArgs false
set_option linter.unusedSectionVars false

section
namespace Go.Gk.Bn
open Go Go.Gk Go.Gk.Sh Go.Gk.Ec Go.Gk.Pr
instance cP_nz (c:Int):NeZero (cP c):=⟨by have:=(fV c).2.2.2.2.2.1; omega⟩
theorem kK (c:Int):Prm (cP c):=by
 unfold cP
 split
 ·exact c7
 ·exact cj
theorem uR (c:Int):Prm (cN c):=by
 unfold cN
 split
 ·exact c8
 ·exact cl
theorem ou (c:Int):Fld (cP c):=Et (kK c) (by have:=(fV c).2.2.2.2.2.1; omega)
section
variable {p:Nat} [NeZero p]
def be (u:Fin p):Bool×Q0:=bi (u.val:Int)
theorem As {x y:Int}:fz (p:=p) x=fz y↔x%p=y%p:=by
 constructor
 ·intro h
  rw[<-iX (p:=p) x,h,iX]
 ·intro h
  rw[<-jt x,h,jt]
theorem k8 (z:Int):be (fz (p:=p) z)=bi (z%p):=by unfold be; rw[iX]
theorem Ay:fz (p:=p) 1=1:=qg 1
theorem iQ (u:Fin p) (hpl:nl (p:Int)<=1000):nl (u.val:Int)<=1000:=Nat.le_trans (fM (by have:=u.isLt; omega)) hpl
theorem jr (u:Fin p):F.GT (be u).1 (be u).2=some (if u=0 then 0 else 1):=by
 unfold be
 rw[rP]
 by_cases h:u=0
 ·have f:(0:Fin p).val=0:=by simp
  rw[if_pos h,h,f,if_pos (by rfl)]
 ·have g:u.val≠0:=fun e=>h (Fin.ext (by rw[e]; simp))
  rw[if_neg h,if_neg (by omega),if_neg (by omega)]
variable (b0:Bool) (b1:Q0) (n0:Bool) (n1:Q0) (x0:Bool) (x1:Q0) (y0:Bool) (y1:Q0) (s:Int) (hpl:nl (p:Int)<=1000)
include hpl
theorem pN (u v:Fin p):F.Gy (bi (p:Int)).1 (bi (p:Int)).2 b0 b1 n0 n1 x0 x1 y0 y1 s (be u).1 (be u).2 (be v).1 (be v).2=some (be (u*v)):=by
 have f:=iQ u hpl; have g:=iQ v hpl
 have i:=Int.mul_nonneg (Int.natCast_nonneg u.val) (Int.natCast_nonneg v.val)
 unfold be
 rw[lM p b0 b1 n0 n1 x0 x1 y0 y1 s mQ hpl _ _ (by omega) (fun h=>by omega),Fin.val_mul,Int.natCast_emod,Int.natCast_mul]
theorem vc (u v:Fin p):F.GM (bi (p:Int)).1 (bi (p:Int)).2 b0 b1 n0 n1 x0 x1 y0 y1 s (be u).1 (be u).2 (be v).1 (be v).2=some (be (u - v)):=by
 have g:=iQ u hpl; have h:=iQ v hpl
 have f:be (u - v)=bi (((u.val:Int) - (v.val:Int))%p):=by rw[<-k8,AL,l8,l8]
 rw[f]
 unfold be
 rw[xJ p b0 b1 n0 n1 x0 x1 y0 y1 s mQ hpl _ _ (by omega) (by omega)]
theorem qP (k:Nat) (g:k<=1000) (u:Fin p):F.GW (bi (p:Int)).1 (bi (p:Int)).2 b0 b1 n0 n1 x0 x1 y0 y1 s (k:Int) (be u).1 (be u).2=some (be (Fin.ofNat p k*u)):=by
 have h:=iQ u hpl
 have f:be (Fin.ofNat p k*u)=bi (((k:Int)*(u.val:Int))%p):=by rw[<-k8,n7,l8,qg]
 rw[f]
 unfold be
 rw[ss p b0 b1 n0 n1 x0 x1 y0 y1 s mQ hpl (k:Int) _ (by omega) (by omega) (by omega) (by omega)]
theorem B5 (u v:Fin p):(ah (F.JI false [] (be u).1 (be u).2 (be v).1 (be v).2) fun x=>F.Hm (bi (p:Int)).1 (bi (p:Int)).2 b0 b1 n0 n1 x0 x1 y0 y1 s x.1 x.2)=some (be (u+v)):=by
 have g:=iQ u hpl; have h:=iQ v hpl
 have f:be (u+v)=bi (((u.val:Int)+(v.val:Int))%p):=by rw[<-k8,rz,l8,l8]
 have i:=uX (u.val:Int) (v.val:Int)
 rw[f]
 unfold be
 rw[EH _ _ _ _ (by omega) (by omega),ae,oS p b0 b1 n0 n1 x0 x1 y0 y1 s mQ hpl _ (by omega) (fun _=>by omega)]
omit hpl in
def nI (X Y Z:Fin p):Fin p×Fin p×Fin p:=
 if Z=0 then (X,Y,Z) else
  let zz:=Z*Z; let yy:=Y*Y; let s:=4*(X*yy); let m:=3*((X - zz)*(X+zz)); let x:=m*m - 2*s
  (x,m*(s - x) - 8*(yy*yy),2*(Y*Z))
omit hpl in
def lK (X1 Y1 Z1 X2 Y2 Z2:Fin p):Fin p×Fin p×Fin p:=
 if Z1=0 then (X2,Y2,Z2) else if Z2=0 then (X1,Y1,Z1) else
  let u1:=X1*(Z2*Z2); let s1:=Y1*(Z2*(Z2*Z2)); let h:=X2*(Z1*Z1) - u1; let r:=Y2*(Z1*(Z1*Z1)) - s1
  if h=0 then (if r=0 then nI X1 Y1 Z1 else (0,0,0)) else
   let hh:=h*h; let hhh:=h*hh; let v:=u1*hh; let x:=r*r - hhh - 2*v
   (x,r*(v - x) - s1*hhh,h*(Z1*Z2))
omit hpl in
def bt (t:Fin p×Fin p×Fin p):Bool×Q0×Bool×Q0×Bool×Q0:=((be t.1).1,(be t.1).2,(be t.2.1).1,(be t.2.1).2,(be t.2.2).1,(be t.2.2).2)
omit hpl in
noncomputable def jpt (t:Fin p×Fin p×Fin p):Pt p:=jac t.1 t.2.1 t.2.2
omit hpl in
theorem sg0 {u:Fin p}:(((if u=0 then (0:Int) else 1) == 0)=true)↔u=0:=by
 by_cases h:u=0
 ·rw[if_pos h]; simp[h]
 ·rw[if_neg h]; simp[h]
theorem rm (X Y Z:Fin p):F.I5 (bi (p:Int)).1 (bi (p:Int)).2 b0 b1 n0 n1 x0 x1 y0 y1 s (be X).1 (be X).2 (be Y).1 (be Y).2 (be Z).1 (be Z).2=some (bt (nI X Y Z)):=by
 have mul:=pN b0 b1 n0 n1 x0 x1 y0 y1 s hpl
 have sub:=vc b0 b1 n0 n1 x0 x1 y0 y1 s hpl
 have i:=fun k A=>qP b0 b1 n0 n1 x0 x1 y0 y1 s hpl k A
 have B:=B5 b0 b1 n0 n1 x0 x1 y0 y1 s hpl
 unfold F.I5
 rw[jr,ae]
 by_cases h:Z=0
 ·rw[if_pos (sg0.2 h)]
  unfold nI
  rw[if_pos h]; rfl
 ·rw[if_neg (fun q=>h (sg0.1 q)),mul,ae,mul,ae,mul,ae]
  have o:=i 4 (by decide); have t:=i 3 (by decide); have j:=i 2 (by decide); have z:=i 8 (by decide)
  have G:((4:Nat):Int)=4:=rfl
  have I:((3:Nat):Int)=3:=rfl
  have J:((2:Nat):Int)=2:=rfl
  have e8:((8:Nat):Int)=8:=rfl
  rw[G]at o; rw[I]at t; rw[J]at j; rw[e8]at z
  rw[o,ae,sub,ae]
  have hb:∀{α β γ:Type} (x:Option α) (f:α->Option β) (g:β->Option γ),(ah x fun a=>ah (f a) g)=ah (ah x f) g:=fun x f g=>by cases x <;> rfl
  rw[hb,B,ae,mul,ae,t,ae,mul,ae,j,ae,sub,ae,sub,ae,mul,ae,mul,ae,z,ae,sub,ae,mul,ae,j,ae]
  unfold nI
  rw[if_neg h]
  rfl
theorem xd (h i f j k g:Fin p):F.Hv (bi (p:Int)).1 (bi (p:Int)).2 b0 b1 n0 n1 x0 x1 y0 y1 s (be h).1 (be h).2 (be i).1 (be i).2 (be f).1 (be f).2 (be j).1 (be j).2 (be k).1 (be k).2 (be g).1 (be g).2=some (bt (lK h i f j k g)):=by
 have mul:=pN b0 b1 n0 n1 x0 x1 y0 y1 s hpl
 have sub:=vc b0 b1 n0 n1 x0 x1 y0 y1 s hpl
 have o:=qP b0 b1 n0 n1 x0 x1 y0 y1 s hpl 2 (by decide)
 have t:((2:Nat):Int)=2:=rfl
 rw[t]at o
 unfold F.Hv lK
 rw[jr,ae]
 by_cases h1:f=0
 ·rw[if_pos (sg0.2 h1),if_pos h1]; rfl
 rw[if_neg (fun q=>h1 (sg0.1 q)),if_neg h1,jr,ae]
 by_cases h2:g=0
 ·rw[if_pos (sg0.2 h2),if_pos h2]; rfl
 rw[if_neg (fun q=>h2 (sg0.1 q)),if_neg h2,mul,ae,mul,ae,mul,ae,mul,ae,mul,ae,mul,ae,mul,ae,mul,ae,sub,ae,sub,ae,jr,ae]
 dsimp only
 by_cases h3:j*(f*f) - h*(g*g)=0
 ·rw[if_pos (sg0.2 h3),if_pos h3,jr,ae]
  by_cases h4:k*(f*(f*f)) - i*(g*(g*g))=0
  ·rw[if_pos (sg0.2 h4),if_pos h4,rm b0 b1 n0 n1 x0 x1 y0 y1 s hpl,ae]
  ·rw[if_neg (fun q=>h4 (sg0.1 q)),if_neg h4]
   unfold F.Hb
   rw[ae]
   have z:be (0:Fin p)=(false,[]):=by
    unfold be
    have:(0:Fin p).val=0:=by simp
    rw[this]
    exact congrArg (fun l=>(false,l)) bG
   unfold bt
   dsimp only
   rw[z]
 ·rw[if_neg (fun q=>h3 (sg0.1 q)),if_neg h3,mul,ae,mul,ae,mul,ae,mul,ae,sub,ae,o,ae,sub,ae,sub,ae,mul,ae,mul,ae,sub,ae,mul,ae,mul,ae]
  rfl
end
section
variable {p:Nat} [NeZero p]
theorem xR (F:Fld p) (t:Fin p×Fin p×Fin p):jpt (nI t.1 t.2.1 t.2.2)=Ec.add (-3) (jpt t) (jpt t):=by
 obtain⟨X,Y,Z⟩:=t
 unfold jpt nI
 by_cases h:Z=0
 ·subst h
  rw[if_pos rfl,gg]; rfl
 ·rw[if_neg h]
  exact F.jac_dbl h rfl rfl rfl rfl rfl rfl
theorem xB (F:Fld p) {b:Fin p} (t u:Fin p×Fin p×Fin p) (N:On (-3) b (jpt t)) (O:On (-3) b (jpt u)):jpt (lK t.1 t.2.1 t.2.2 u.1 u.2.1 u.2.2)=Ec.add (-3) (jpt t) (jpt u):=by
 obtain⟨i,j,f⟩:=t
 obtain⟨o,z,k⟩:=u
 unfold lK
 dsimp only
 by_cases h1:f=0
 ·subst h1
  rw[if_pos rfl]
  show _=Ec.add (-3) (jac i j 0) _
  rw[gg]; rfl
 rw[if_neg h1]
 by_cases h2:k=0
 ·subst h2
  rw[if_pos rfl]
  show _=Ec.add (-3) _ (jac o z 0)
  rw[gg,dC]
 rw[if_neg h2]
 by_cases h3:o*(f*f) - i*(k*k)=0
 ·rw[if_pos h3]
  obtain⟨x1,y1,A,B,g⟩:=F.of_jac i j h1
  obtain⟨x2,y2,G,I,h⟩:=F.of_jac o z h2
  have J:=F.mul_ne h1 h2
  have R:x1=x2:=by
   refine F.cancel (F.mul_ne J J) ?_
   subst A G; clear B I g h N O; grobner
  have K:On (-3) b (some (x1,y1)):=by rw[<-g]; exact N
  have M:On (-3) b (some (x2,y2)):=by rw[<-h]; exact O
  subst R
  by_cases h4:z*(f*(f*f)) - j*(k*(k*k))=0
  ·rw[if_pos h4]
   have U:y1=y2:=by
    refine F.cancel (F.mul_ne J (F.mul_ne J J)) ?_
    subst B I; clear g h N O K M A G h3; grobner
   have e:=xR F (i,j,f)
   refine e.trans ?_
   show Ec.add (-3) (jac i j f) (jac i j f)=Ec.add (-3) (jac i j f) (jac o z k)
   rw[g,h,U]
  ·rw[if_neg h4]
   have V:y1+y2=0:=by
    rcases F.same_x K M with q | q
    ·exfalso; apply h4
     subst B I q; clear g h N O K M A G h3 h4; grobner
    ·rw[q,xA]
   show jac 0 0 0=Ec.add (-3) (jac i j f) (jac o z k)
   rw[gg,g,h,kD,if_pos rfl,if_pos V]
 ·rw[if_neg h3]
  exact F.jac_add h1 h2 rfl rfl rfl rfl rfl rfl rfl rfl rfl rfl rfl h3 (-3)
end
end Go.Gk.Bn
end

section
namespace Go.Gk.Bn
open Go Go.Gk Go.Gk.Sh Go.Gk.Ec Go.Gk.Pr
section
variable {p:Nat} [NeZero p]
def rl (u:Fin p):Q0:=ao u.val
def rep (P:Pt p):Q0×Q0×Bool:=match P with
 | none=>([],[],true)
 | some (x,y)=>(rl x,rl y,false)
theorem E0 (u:Fin p):val (rl u)=u.val:=aw _
theorem E5 (F:Fld p) (f:Prm p) {Z:Fin p} {v:Nat} (g:v<p) (h:Z.val*v%p=1):(⟨v,g⟩:Fin p)=rcp Z:=by
 apply F.iv_uniq
 apply Fin.ext
 rw[Fin.val_mul]
 show Z.val*v%p=1%p
 rw[h,Nat.mod_eq_of_lt f.1]
theorem D7 (f:Prm p) {Z:Fin p} (h:Z≠0):Nat.gcd Z.val p=1:=by
 have j:Z.val≠0:=fun e=>h (Fin.ext (by rw[e]; simp))
 have g:¬p ∣ Z.val:=fun i=>by have:=Nat.le_of_dvd (by omega) i; have:=Z.isLt; omega
 rw[Nat.gcd_comm]
 exact f.coprime g
theorem xo (hpl:nl (p:Int)<=1000) (u:Fin p):F.Ht (be u).1 (be u).2=some (rl u):=by
 have:=iQ u hpl
 unfold be
 rw[Ad _ (by omega)]; rfl
theorem Cc (b0:Bool) (b1:Q0) (n0:Bool) (n1:Q0) (x0:Bool) (x1:Q0) (y0:Bool) (y1:Q0) (s:Int) (hpl:nl (p:Int)<=1000) (D:Fld p) (g:Prm p) (X Y Z:Fin p) :
  F.HE (bi (p:Int)).1 (bi (p:Int)).2 b0 b1 n0 n1 x0 x1 y0 y1 s (be X).1 (be X).2 (be Y).1 (be Y).2 (be Z).1 (be Z).2=some (rep (jac X Y Z)):=by
 have mul:=pN b0 b1 n0 n1 x0 x1 y0 y1 s hpl
 unfold F.HE jac
 rw[jr,ae]
 by_cases h:Z=0
 ·rw[if_pos (sg0.2 h),if_pos h]; rfl
 ·rw[if_neg (fun q=>h (sg0.1 q)),if_neg h]
  have k:=iQ Z hpl
  obtain⟨v,j,i,f⟩:=tq false [] Z.val p g.1 (by omega) (by omega) (D7 g h)
  have e:bi (v:Int)=be (rcp Z):=by rw[<-E5 D g j i]; rfl
  rw[e]at f
  rw[show F.Jj false [] (be Z).1 (be Z).2 (bi (p:Int)).1 (bi (p:Int)).2=some (be (rcp Z)) from f,ae,mul,ae,mul,ae,xo hpl,ae,mul,ae,mul,ae,xo hpl,ae]
  rfl
end
section
variable (c:Int) (hc:isC c)
theorem Fg (u:Fin (cP c)):(rl u).length<=12:=xH c (Nat.le_of_lt u.isLt)
include hc
def pF (X Y:Q0) (inf:Bool):Pt (cP c):=if inf then none else some (fz (val X:Int),fz (val Y:Int))
theorem wV (x y:Nat) (hx:x<cP c) (hy:y<cP c):onN (cP c) (cB c) x y=true↔On (-3) (fz (cB c:Int)) (some (fz (p:=cP c) (x:Int),fz (y:Int))):=by
 have G:=(fV c).2.2.2.2.2.1
 unfold onN
 rw[decide_eq_true hx,decide_eq_true hy,Bool.true_and,Bool.true_and,decide_eq_true_iff]
 obtain⟨A,g⟩:∃A,x*(x*x%cP c)%cP c=A:=⟨_,rfl⟩
 obtain⟨B,f⟩:∃B,3*x%cP c=B:=⟨_,rfl⟩
 have F:B<cP c:=by rw[<-f]; exact Nat.mod_lt _ (by omega)
 have i:fz (p:=cP c) (A:Int)=fz x*(fz x*fz x):=by rw[<-g,Int.natCast_emod,jt,Int.natCast_mul,n7,Int.natCast_emod,jt,Int.natCast_mul,n7]
 have j:fz (p:=cP c) (B:Int)=3*fz x:=by
  rw[<-f,Int.natCast_emod,jt,Int.natCast_mul,n7]
  congr 1
 have k:fz (p:=cP c) (cP c:Int)=0:=y8.2 (Int.emod_self)
 rw[g,f]
 have o:fz (p:=cP c) ((((A+cP c - B)%cP c+cB c:Nat)):Int)=fz x*(fz x*fz x) - 3*fz x+fz (cB c:Int):=by
  rw[Int.natCast_add,rz,Int.natCast_emod,jt,show ((A+cP c - B:Nat):Int)=(A:Int)+cP c - B by omega,AL,rz,i,j,k]
  grobner
 have t:fz (p:=cP c) ((y*y:Nat):Int)=fz y*fz y:=by rw[Int.natCast_mul,n7]
 have z:y*y%cP c=((A+cP c - B)%cP c+cB c)%cP c↔fz (p:=cP c) ((y*y:Nat):Int)=fz ((((A+cP c - B)%cP c+cB c:Nat)):Int):=by
  rw[As,<-Int.natCast_emod,<-Int.natCast_emod]
  exact Int.natCast_inj.symm
 rw[z,o,t]
 unfold On
 dsimp only
 constructor
 ·intro h; rw[h]; grobner
 ·intro h; rw[h]; grobner
end
end Go.Gk.Bn
end

section
namespace Go.Gk.Bn
open Go Go.Gk Go.Gk.Sh Go.Gk.Ec Go.Gk.Pr
abbrev bF (c:Int):Fin (cP c):=fz (cB c:Int)
theorem yk {c:Int} {X Y:Q0} {q:Bool} (h:onS c X Y q=true):isC c:=by
 unfold onS at h
 split at h
 ·assumption
 ·cases h
theorem xf {c:Int} {X Y:Q0} (h:onS c X Y false=true):val X<cP c/\val Y<cP c/\onN (cP c) (cB c) (val X) (val Y)=true:=by
 have hc:=yk h
 unfold onS at h
 rw[if_pos hc,if_neg (by decide)]at h
 exact⟨(zA h).1,(zA h).2,h⟩
theorem Fp {c:Int} {X Y:Q0} {q:Bool} (h:onS c X Y q=true):On (-3) (bF c) (pF c X Y q):=by
 unfold pF
 cases q with
 | true=>rw[if_pos rfl]; trivial
 | false=>
  obtain⟨f,g,i⟩:=xf h
  rw[if_neg (by decide)]
  exact (wV c (yk h) _ _ f g).1 i
theorem lz {l:Q0} (h:val l=0):ao (val l)=[]:=by rw[h]; exact bG
def jT (c:Int) (X Y:Q0) (q:Bool):Fin (cP c)×Fin (cP c)×Fin (cP c):=if q then (0,0,0) else (fz (val X:Int),fz (val Y:Int),1)
theorem xE {p:Nat} [NeZero p]:be (0:Fin p)=(false,[]):=by
 unfold be
 have:(0:Fin p).val=0:=by simp
 rw[this]
 exact congrArg (fun l=>(false,l)) bG
theorem FD {c:Int} {X Y:Q0} {q:Bool} (h:onS c X Y q=true):rdT X Y q=bt (jT c X Y q):=by
 unfold rdT jT bt
 cases q with
 | true=>
  rw[if_pos rfl,if_pos rfl]
  dsimp only
  rw[xE]
 | false=>
  obtain⟨j,k,_⟩:=xf h
  have o:=(kK c).1
  have f:be (fz (p:=cP c) (val X:Int))=bi (val X:Int):=by rw[k8,Int.emod_eq_of_lt (by omega) (by omega)]
  have g:be (fz (p:=cP c) (val Y:Int))=bi (val Y:Int):=by rw[k8,Int.emod_eq_of_lt (by omega) (by omega)]
  have i:be (1:Fin (cP c))=bi 1:=by rw[<-Ay,k8,Int.emod_eq_of_lt (by omega) (by omega)]
  rw[if_neg (by decide),if_neg (by decide)]
  dsimp only
  rw[f,g,i]
theorem At (c:Int):(1:Fin (cP c))≠0:=by
 intro h
 have g:(1:Fin (cP c)).val=1%cP c:=rfl
 have i:(0:Fin (cP c)).val=0:=by simp
 have f:=congrArg Fin.val h
 rw[g,i,Nat.mod_eq_of_lt (kK c).1]at f
 cases f
theorem C0 (c:Int) (X Y:Q0) (q:Bool):jpt (jT c X Y q)=pF c X Y q:=by
 unfold jpt jT pF
 cases q with
 | true=>exact gg _ _
 | false=>
  rw[if_neg (by decide),if_neg (by decide)]
  exact (ou c).jac_of (At c) (by grobner) (by grobner)
theorem Fq (c:Int) (t:Fin (cP c)×Fin (cP c)×Fin (cP c)) :
  F.HE (gT c).1 (gT c).2.1 (gT c).2.2.1 (gT c).2.2.2.1 (gT c).2.2.2.2.1 (gT c).2.2.2.2.2.1 (gT c).2.2.2.2.2.2.1 (gT c).2.2.2.2.2.2.2.1 (gT c).2.2.2.2.2.2.2.2.1 (gT c).2.2.2.2.2.2.2.2.2.1 (gT c).2.2.2.2.2.2.2.2.2.2
   (bt t).1 (bt t).2.1 (bt t).2.2.1 (bt t).2.2.2.1 (bt t).2.2.2.2.1 (bt t).2.2.2.2.2=some (rep (jpt t)):=
 Cc _ _ _ _ _ _ _ _ _ (by have:=oT c; omega) (ou c) (kK c) t.1 t.2.1 t.2.2
theorem FQ (c:Int) (t u:Fin (cP c)×Fin (cP c)×Fin (cP c)) :
  F.Hv (gT c).1 (gT c).2.1 (gT c).2.2.1 (gT c).2.2.2.1 (gT c).2.2.2.2.1 (gT c).2.2.2.2.2.1 (gT c).2.2.2.2.2.2.1 (gT c).2.2.2.2.2.2.2.1 (gT c).2.2.2.2.2.2.2.2.1 (gT c).2.2.2.2.2.2.2.2.2.1 (gT c).2.2.2.2.2.2.2.2.2.2
   (bt t).1 (bt t).2.1 (bt t).2.2.1 (bt t).2.2.2.1 (bt t).2.2.2.2.1 (bt t).2.2.2.2.2 (bt u).1 (bt u).2.1 (bt u).2.2.1 (bt u).2.2.2.1 (bt u).2.2.2.2.1 (bt u).2.2.2.2.2=some (bt (lK t.1 t.2.1 t.2.2 u.1 u.2.1 u.2.2)):=
 xd _ _ _ _ _ _ _ _ _ (by have:=oT c; omega) t.1 t.2.1 t.2.2 u.1 u.2.1 u.2.2
end Go.Gk.Bn
end

section
namespace Go.Gk.Bn
open Go Go.Gk Go.Gk.Sh Go.Gk.Ec Go.Gk.Pr
end Go.Gk.Bn
end
