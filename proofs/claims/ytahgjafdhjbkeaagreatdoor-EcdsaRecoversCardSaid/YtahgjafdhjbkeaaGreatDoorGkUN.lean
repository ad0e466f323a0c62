import Derived.Test.YtahgjafdhjbkeaaGreatDoorGkUL
import Derived.Test.YtahgjafdhjbkeaaGreatDoorGkEc0
import Derived.Test.YtahgjafdhjbkeaaGreatDoorGkUJ
import Derived.Test.YtahgjafdhjbkeaaGreatDoorGkFman
set_option linter.unusedVariables false
set_option linter.unusedSimpArgs false
set_option linter.unusedSectionVars false

section
namespace Go.Gk.Bn
open Go Go.Gk Go.Gk.Sh Go.Gk.Ec Go.Gk.Pr
instance cP_nz (c:Int):NeZero (cP c):=⟨by have:=(dF c).2.2.2.2.2.1; omega⟩
theorem i1 (c:Int):Prm (cP c):=by
 unfold cP
 split
 ·exact dp
 ·exact cu
theorem th (c:Int):Prm (cN c):=by
 unfold cN
 split
 ·exact dq
 ·exact cv
theorem gF (c:Int):Fld (cP c):=BQ (i1 c) (by have:=(dF c).2.2.2.2.2.1; omega)
section
variable {p:Nat} [NeZero p]
def be (u:Fin p):Bool×L0:=bi (u.val:Int)
theorem x5 {x y:Int}:fz (p:=p) x=fz y↔x%p=y%p:=by
 constructor
 ·intro h
  rw[<-gK (p:=p) x,h,gK]
 ·intro h
  rw[<-i5 x,h,i5]
theorem ky (z:Int):be (fz (p:=p) z)=bi (z%p):=by unfold be; rw[gK]
theorem ya:fz (p:=p) 1=1:=pd 1
theorem iC (u:Fin p) (hpl:nl (p:Int)<=1000):nl (u.val:Int)<=1000:=Nat.le_trans (fb (by have:=u.isLt; omega)) hpl
theorem iZ (u:Fin p):F.DD (be u).1 (be u).2=some (if u=0 then 0 else 1):=by
 unfold be
 rw[nV]
 by_cases h:u=0
 ·have f:(0:Fin p).val=0:=by simp
  rw[if_pos h,h,f,if_pos (by rfl)]
 ·have g:u.val≠0:=fun e=>h (Fin.ext (by rw[e]; simp))
  rw[if_neg h,if_neg (by omega),if_neg (by omega)]
variable (b0:Bool) (b1:L0) (n0:Bool) (n1:L0) (x0:Bool) (x1:L0) (y0:Bool) (y1:L0) (s:Int) (hpl:nl (p:Int)<=1000)
include hpl
theorem oU (u v:Fin p):F.Dr (bi (p:Int)).1 (bi (p:Int)).2 b0 b1 n0 n1 x0 x1 y0 y1 s (be u).1 (be u).2 (be v).1 (be v).2=some (be (u*v)):=by
 have f:=iC u hpl; have g:=iC v hpl
 have i:=Int.mul_nonneg (Int.natCast_nonneg u.val) (Int.natCast_nonneg v.val)
 unfold be
 rw[kX p b0 b1 n0 n1 x0 x1 y0 y1 s mh hpl _ _ (by omega) (fun h=>by omega),Fin.val_mul,Int.natCast_emod,Int.natCast_mul]
theorem tz (u v:Fin p):F.DE (bi (p:Int)).1 (bi (p:Int)).2 b0 b1 n0 n1 x0 x1 y0 y1 s (be u).1 (be u).2 (be v).1 (be v).2=some (be (u - v)):=by
 have g:=iC u hpl; have h:=iC v hpl
 have f:be (u - v)=bi (((u.val:Int) - (v.val:Int))%p):=by rw[<-ky,yq,gz,gz]
 rw[f]
 unfold be
 rw[vG p b0 b1 n0 n1 x0 x1 y0 y1 s mh hpl _ _ (by omega) (by omega)]
theorem pW (k:Nat) (g:k<=1000) (u:Fin p):F.DQ (bi (p:Int)).1 (bi (p:Int)).2 b0 b1 n0 n1 x0 x1 y0 y1 s (k:Int) (be u).1 (be u).2=some (be (Fin.ofNat p k*u)):=by
 have h:=iC u hpl
 have f:be (Fin.ofNat p k*u)=bi (((k:Int)*(u.val:Int))%p):=by rw[<-ky,nu,gz,pd]
 rw[f]
 unfold be
 rw[rf p b0 b1 n0 n1 x0 x1 y0 y1 s mh hpl (k:Int) _ (by omega) (by omega) (by omega) (by omega)]
theorem zC (u v:Fin p):(ah (F.G4 false [] (be u).1 (be u).2 (be v).1 (be v).2) fun x=>F.Eb (bi (p:Int)).1 (bi (p:Int)).2 b0 b1 n0 n1 x0 x1 y0 y1 s x.1 x.2)=some (be (u+v)):=by
 have g:=iC u hpl; have h:=iC v hpl
 have f:be (u+v)=bi (((u.val:Int)+(v.val:Int))%p):=by rw[<-ky,qm,gz,gz]
 have i:=tr (u.val:Int) (v.val:Int)
 rw[f]
 unfold be
 rw[B0 _ _ _ _ (by omega) (by omega),ae,og p b0 b1 n0 n1 x0 x1 y0 y1 s mh hpl _ (by omega) (fun _=>by omega)]
omit hpl in
def lO (X Y Z:Fin p):Fin p×Fin p×Fin p:=
 if Z=0 then (X,Y,Z) else
  let zz:=Z*Z; let yy:=Y*Y; let s:=4*(X*yy); let m:=3*((X - zz)*(X+zz)); let x:=m*m - 2*s
  (x,m*(s - x) - 8*(yy*yy),2*(Y*Z))
omit hpl in
def kb (X1 Y1 Z1 X2 Y2 Z2:Fin p):Fin p×Fin p×Fin p:=
 if Z1=0 then (X2,Y2,Z2) else if Z2=0 then (X1,Y1,Z1) else
  let u1:=X1*(Z2*Z2); let s1:=Y1*(Z2*(Z2*Z2)); let h:=X2*(Z1*Z1) - u1; let r:=Y2*(Z1*(Z1*Z1)) - s1
  if h=0 then (if r=0 then lO X1 Y1 Z1 else (0,0,0)) else
   let hh:=h*h; let hhh:=h*hh; let v:=u1*hh; let x:=r*r - hhh - 2*v
   (x,r*(v - x) - s1*hhh,h*(Z1*Z2))
omit hpl in
def bt (t:Fin p×Fin p×Fin p):Bool×L0×Bool×L0×Bool×L0:=((be t.1).1,(be t.1).2,(be t.2.1).1,(be t.2.1).2,(be t.2.2).1,(be t.2.2).2)
omit hpl in
noncomputable def jpt (t:Fin p×Fin p×Fin p):Pt p:=jac t.1 t.2.1 t.2.2
omit hpl in
theorem sg0 {u:Fin p}:(((if u=0 then (0:Int) else 1) == 0)=true)↔u=0:=by
 by_cases h:u=0
 ·rw[if_pos h]; simp[h]
 ·rw[if_neg h]; simp[h]
theorem qh (X Y Z:Fin p):F.F9 (bi (p:Int)).1 (bi (p:Int)).2 b0 b1 n0 n1 x0 x1 y0 y1 s (be X).1 (be X).2 (be Y).1 (be Y).2 (be Z).1 (be Z).2=some (bt (lO X Y Z)):=by
 have mul:=oU b0 b1 n0 n1 x0 x1 y0 y1 s hpl
 have sub:=tz b0 b1 n0 n1 x0 x1 y0 y1 s hpl
 have i:=fun k y=>pW b0 b1 n0 n1 x0 x1 y0 y1 s hpl k y
 have z:=zC b0 b1 n0 n1 x0 x1 y0 y1 s hpl
 unfold F.F9
 rw[iZ,ae]
 by_cases h:Z=0
 ·rw[if_pos (sg0.2 h)]
  unfold lO
  rw[if_pos h]; rfl
 ·rw[if_neg (fun q=>h (sg0.1 q)),mul,ae,mul,ae,mul,ae]
  have m:=i 4 (by decide); have o:=i 3 (by decide); have j:=i 2 (by decide); have t:=i 8 (by decide)
  have A:((4:Nat):Int)=4:=rfl
  have B:((3:Nat):Int)=3:=rfl
  have G:((2:Nat):Int)=2:=rfl
  have e8:((8:Nat):Int)=8:=rfl
  rw[A]at m; rw[B]at o; rw[G]at j; rw[e8]at t
  rw[m,ae,sub,ae]
  have I:∀{α β γ:Type} (x:Option α) (f:α->Option β) (g:β->Option γ),(ah x fun a=>ah (f a) g)=ah (ah x f) g:=fun x f g=>by cases x <;> rfl
  rw[I,z,ae,mul,ae,o,ae,mul,ae,j,ae,sub,ae,sub,ae,mul,ae,mul,ae,t,ae,sub,ae,mul,ae,j,ae]
  unfold lO
  rw[if_neg h]
  rfl
theorem u4 (h i f j k g:Fin p):F.Ej (bi (p:Int)).1 (bi (p:Int)).2 b0 b1 n0 n1 x0 x1 y0 y1 s (be h).1 (be h).2 (be i).1 (be i).2 (be f).1 (be f).2 (be j).1 (be j).2 (be k).1 (be k).2 (be g).1 (be g).2=some (bt (kb h i f j k g)):=by
 have mul:=oU b0 b1 n0 n1 x0 x1 y0 y1 s hpl
 have sub:=tz b0 b1 n0 n1 x0 x1 y0 y1 s hpl
 have m:=pW b0 b1 n0 n1 x0 x1 y0 y1 s hpl 2 (by decide)
 have o:((2:Nat):Int)=2:=rfl
 rw[o]at m
 unfold F.Ej kb
 rw[iZ,ae]
 by_cases h1:f=0
 ·rw[if_pos (sg0.2 h1),if_pos h1]; rfl
 rw[if_neg (fun q=>h1 (sg0.1 q)),if_neg h1,iZ,ae]
 by_cases h2:g=0
 ·rw[if_pos (sg0.2 h2),if_pos h2]; rfl
 rw[if_neg (fun q=>h2 (sg0.1 q)),if_neg h2,mul,ae,mul,ae,mul,ae,mul,ae,mul,ae,mul,ae,mul,ae,mul,ae,sub,ae,sub,ae,iZ,ae]
 dsimp only
 by_cases h3:j*(f*f) - h*(g*g)=0
 ·rw[if_pos (sg0.2 h3),if_pos h3,iZ,ae]
  by_cases h4:k*(f*(f*f)) - i*(g*(g*g))=0
  ·rw[if_pos (sg0.2 h4),if_pos h4,qh b0 b1 n0 n1 x0 x1 y0 y1 s hpl,ae]
  ·rw[if_neg (fun q=>h4 (sg0.1 q)),if_neg h4]
   unfold F.D0
   rw[ae]
   have t:be (0:Fin p)=(false,[]):=by
    unfold be
    have:(0:Fin p).val=0:=by simp
    rw[this]
    exact congrArg (fun l=>(false,l)) bR
   unfold bt
   dsimp only
   rw[t]
 ·rw[if_neg (fun q=>h3 (sg0.1 q)),if_neg h3,mul,ae,mul,ae,mul,ae,mul,ae,sub,ae,m,ae,sub,ae,sub,ae,mul,ae,mul,ae,sub,ae,mul,ae,mul,ae]
  rfl
end
section
variable {p:Nat} [NeZero p]
theorem ot (F:Fld p) (t:Fin p×Fin p×Fin p):jpt (lO t.1 t.2.1 t.2.2)=Ec.add (-3) (jpt t) (jpt t):=by
 obtain⟨X,Y,Z⟩:=t
 unfold jpt lO
 by_cases h:Z=0
 ·subst h
  rw[if_pos rfl,ee]; rfl
 ·rw[if_neg h]
  exact F.jac_dbl h rfl rfl rfl rfl rfl rfl
theorem qM (F:Fld p) {b:Fin p} (t u:Fin p×Fin p×Fin p) (J:On (-3) b (jpt t)) (K:On (-3) b (jpt u)):jpt (kb t.1 t.2.1 t.2.2 u.1 u.2.1 u.2.2)=Ec.add (-3) (jpt t) (jpt u):=by
 obtain⟨i,j,f⟩:=t
 obtain⟨m,o,k⟩:=u
 unfold kb
 dsimp only
 by_cases h1:f=0
 ·subst h1
  rw[if_pos rfl]
  show _=Ec.add (-3) (jac i j 0) _
  rw[ee]; rfl
 rw[if_neg h1]
 by_cases h2:k=0
 ·subst h2
  rw[if_pos rfl]
  show _=Ec.add (-3) _ (jac m o 0)
  rw[ee,d6]
 rw[if_neg h2]
 by_cases h3:m*(f*f) - i*(k*k)=0
 ·rw[if_pos h3]
  obtain⟨x1,y1,x,y,g⟩:=F.of_jac i j h1
  obtain⟨x2,y2,z,A,h⟩:=F.of_jac m o h2
  have B:=F.mul_ne h1 h2
  have M:x1=x2:=by
   refine F.cancel (F.mul_ne B B) ?_
   subst x z; clear y A g h J K; grobner
  have G:On (-3) b (some (x1,y1)):=by rw[<-g]; exact J
  have I:On (-3) b (some (x2,y2)):=by rw[<-h]; exact K
  subst M
  by_cases h4:o*(f*(f*f)) - j*(k*(k*k))=0
  ·rw[if_pos h4]
   have N:y1=y2:=by
    refine F.cancel (F.mul_ne B (F.mul_ne B B)) ?_
    subst y A; clear g h J K G I x z h3; grobner
   have e:=ot F (i,j,f)
   refine e.trans ?_
   show Ec.add (-3) (jac i j f) (jac i j f)=Ec.add (-3) (jac i j f) (jac m o k)
   rw[g,h,N]
  ·rw[if_neg h4]
   have O:y1+y2=0:=by
    rcases F.same_x G I with q | q
    ·exfalso; apply h4
     subst y A q; clear g h J K G I x z h3 h4; grobner
    ·rw[q,Bs]
   show jac 0 0 0=Ec.add (-3) (jac i j f) (jac m o k)
   rw[ee,g,h,gc,if_pos rfl,if_pos O]
 ·rw[if_neg h3]
  exact F.jac_add h1 h2 rfl rfl rfl rfl rfl rfl rfl rfl rfl rfl rfl h3 (-3)
end
end Go.Gk.Bn
end

section
namespace Go.Gk.Bn
open Go Go.Gk Go.Gk.Sh Go.Gk.Ec Go.Gk.Pr
section
variable {p:Nat} [NeZero p]
def rl (u:Fin p):L0:=an u.val
def rep (P:Pt p):L0×L0×Bool:=match P with
 | none=>([],[],true)
 | some (x,y)=>(rl x,rl y,false)
theorem fj (u:Fin p):val (rl u)=u.val:=ar _
theorem xN (F:Fld p) (f:Prm p) {Z:Fin p} {v:Nat} (g:v<p) (h:Z.val*v%p=1):(⟨v,g⟩:Fin p)=rcp Z:=by
 apply F.iv_uniq
 apply Fin.ext
 rw[Fin.val_mul]
 show Z.val*v%p=1%p
 rw[h,Nat.mod_eq_of_lt f.1]
theorem Br (f:Prm p) {Z:Fin p} (h:Z≠0):Nat.gcd Z.val p=1:=by
 have j:Z.val≠0:=fun e=>h (Fin.ext (by rw[e]; simp))
 have g:¬p ∣ Z.val:=fun i=>by have:=Nat.le_of_dvd (by omega) i; have:=Z.isLt; omega
 rw[Nat.gcd_comm]
 exact f.coprime g
theorem ve (hpl:nl (p:Int)<=1000) (u:Fin p):F.DP (be u).1 (be u).2=some (rl u):=by
 have:=iC u hpl
 unfold be
 rw[pM _ (by omega)]; rfl
theorem zI (b0:Bool) (b1:L0) (n0:Bool) (n1:L0) (x0:Bool) (x1:L0) (y0:Bool) (y1:L0) (s:Int) (hpl:nl (p:Int)<=1000) (D:Fld p) (g:Prm p) (X Y Z:Fin p) :
  F.Eu (bi (p:Int)).1 (bi (p:Int)).2 b0 b1 n0 n1 x0 x1 y0 y1 s (be X).1 (be X).2 (be Y).1 (be Y).2 (be Z).1 (be Z).2=some (rep (jac X Y Z)):=by
 have mul:=oU b0 b1 n0 n1 x0 x1 y0 y1 s hpl
 unfold F.Eu jac
 rw[iZ,ae]
 by_cases h:Z=0
 ·rw[if_pos (sg0.2 h),if_pos h]; rfl
 ·rw[if_neg (fun q=>h (sg0.1 q)),if_neg h]
  have k:=iC Z hpl
  obtain⟨v,j,i,f⟩:=rS false [] Z.val p g.1 (by omega) (by omega) (Br g h)
  have e:bi (v:Int)=be (rcp Z):=by rw[<-xN D g j i]; rfl
  rw[e]at f
  rw[show F.Gw false [] (be Z).1 (be Z).2 (bi (p:Int)).1 (bi (p:Int)).2=some (be (rcp Z)) from f,ae,mul,ae,mul,ae,ve hpl,ae,mul,ae,mul,ae,ve hpl,ae]
  rfl
end
section
variable (c:Int) (hc:isC c)
theorem gL (u:Fin (cP c)):(rl u).length<=12:=d9 c (Nat.le_of_lt u.isLt)
include hc
def eg (X Y:L0) (inf:Bool):Pt (cP c):=if inf then none else some (fz (val X:Int),fz (val Y:Int))
theorem qn (x y:Nat) (i:x<cP c) (j:y<cP c):onN (cP c) (cB c) x y=true↔On (-3) (fz (cB c:Int)) (some (fz (p:=cP c) (x:Int),fz (y:Int))):=by
 have G:=(dF c).2.2.2.2.2.1
 unfold onN
 rw[decide_eq_true i,decide_eq_true j,Bool.true_and,Bool.true_and,decide_eq_true_iff]
 obtain⟨A,g⟩:∃A,x*(x*x%cP c)%cP c=A:=⟨_,rfl⟩
 obtain⟨B,f⟩:∃B,3*x%cP c=B:=⟨_,rfl⟩
 have F:B<cP c:=by rw[<-f]; exact Nat.mod_lt _ (by omega)
 have k:fz (p:=cP c) (A:Int)=fz x*(fz x*fz x):=by rw[<-g,Int.natCast_emod,i5,Int.natCast_mul,nu,Int.natCast_emod,i5,Int.natCast_mul,nu]
 have m:fz (p:=cP c) (B:Int)=3*fz x:=by
  rw[<-f,Int.natCast_emod,i5,Int.natCast_mul,nu]
  congr 1
 have o:fz (p:=cP c) (cP c:Int)=0:=wL.2 (Int.emod_self)
 rw[g,f]
 have q:fz (p:=cP c) ((((A+cP c - B)%cP c+cB c:Nat)):Int)=fz x*(fz x*fz x) - 3*fz x+fz (cB c:Int):=by
  rw[Int.natCast_add,qm,Int.natCast_emod,i5,show ((A+cP c - B:Nat):Int)=(A:Int)+cP c - B by omega,yq,qm,k,m,o]
  grobner
 have t:fz (p:=cP c) ((y*y:Nat):Int)=fz y*fz y:=by rw[Int.natCast_mul,nu]
 have z:y*y%cP c=((A+cP c - B)%cP c+cB c)%cP c↔fz (p:=cP c) ((y*y:Nat):Int)=fz ((((A+cP c - B)%cP c+cB c:Nat)):Int):=by
  rw[x5,<-Int.natCast_emod,<-Int.natCast_emod]
  exact Int.natCast_inj.symm
 rw[z,q,t]
 unfold On
 dsimp only
 constructor
 ·intro h; rw[h]; grobner
 ·intro h; rw[h]; grobner
end
end Go.Gk.Bn
end

section
namespace Go.Gk.Bn
open Go Go.Gk Go.Gk.Sh Go.Gk.Ec Go.Gk.Pr
abbrev bF (c:Int):Fin (cP c):=fz (cB c:Int)
theorem wi {c:Int} {X Y:L0} {q:Bool} (h:onS c X Y q=true):isC c:=by
 unfold onS at h
 split at h
 ·assumption
 ·cases h
theorem qt {c:Int} {X Y:L0} (h:onS c X Y false=true):val X<cP c/\val Y<cP c/\onN (cP c) (cB c) (val X) (val Y)=true:=by
 have hc:=wi h
 unfold onS at h
 rw[if_pos hc,if_neg (by decide)]at h
 exact⟨(pi h).1,(pi h).2,h⟩
theorem nH {c:Int} {X Y:L0} {q:Bool} (h:onS c X Y q=true):On (-3) (bF c) (eg c X Y q):=by
 unfold eg
 cases q with
 | true=>rw[if_pos rfl]; trivial
 | false=>
  obtain⟨f,g,i⟩:=qt h
  rw[if_neg (by decide)]
  exact (qn c (wi h) _ _ f g).1 i
theorem lz {l:L0} (h:val l=0):an (val l)=[]:=by rw[h]; exact bR
def jT (c:Int) (X Y:L0) (q:Bool):Fin (cP c)×Fin (cP c)×Fin (cP c):=if q then (0,0,0) else (fz (val X:Int),fz (val Y:Int),1)
theorem vz {p:Nat} [NeZero p]:be (0:Fin p)=(false,[]):=by
 unfold be
 have:(0:Fin p).val=0:=by simp
 rw[this]
 exact congrArg (fun l=>(false,l)) bR
theorem CQ {c:Int} {X Y:L0} {q:Bool} (h:onS c X Y q=true):rdT X Y q=bt (jT c X Y q):=by
 unfold rdT jT bt
 cases q with
 | true=>
  rw[if_pos rfl,if_pos rfl]
  dsimp only
  rw[vz]
 | false=>
  obtain⟨j,k,_⟩:=qt h
  have m:=(i1 c).1
  have f:be (fz (p:=cP c) (val X:Int))=bi (val X:Int):=by rw[ky,Int.emod_eq_of_lt (by omega) (by omega)]
  have g:be (fz (p:=cP c) (val Y:Int))=bi (val Y:Int):=by rw[ky,Int.emod_eq_of_lt (by omega) (by omega)]
  have i:be (1:Fin (cP c))=bi 1:=by rw[<-ya,ky,Int.emod_eq_of_lt (by omega) (by omega)]
  rw[if_neg (by decide),if_neg (by decide)]
  dsimp only
  rw[f,g,i]
theorem pU (c:Int):(1:Fin (cP c))≠0:=by
 intro h
 have g:(1:Fin (cP c)).val=1%cP c:=rfl
 have i:(0:Fin (cP c)).val=0:=by simp
 have f:=congrArg Fin.val h
 rw[g,i,Nat.mod_eq_of_lt (i1 c).1]at f
 cases f
theorem Am (c:Int) (X Y:L0) (q:Bool):jpt (jT c X Y q)=eg c X Y q:=by
 unfold jpt jT eg
 cases q with
 | true=>exact ee _ _
 | false=>
  rw[if_neg (by decide),if_neg (by decide)]
  exact (gF c).jac_of (pU c) (by grobner) (by grobner)
theorem CL (c:Int) (t:Fin (cP c)×Fin (cP c)×Fin (cP c)) :
  F.Eu (gT c).1 (gT c).2.1 (gT c).2.2.1 (gT c).2.2.2.1 (gT c).2.2.2.2.1 (gT c).2.2.2.2.2.1 (gT c).2.2.2.2.2.2.1 (gT c).2.2.2.2.2.2.2.1 (gT c).2.2.2.2.2.2.2.2.1 (gT c).2.2.2.2.2.2.2.2.2.1 (gT c).2.2.2.2.2.2.2.2.2.2
   (bt t).1 (bt t).2.1 (bt t).2.2.1 (bt t).2.2.2.1 (bt t).2.2.2.2.1 (bt t).2.2.2.2.2=some (rep (jpt t)):=
 zI _ _ _ _ _ _ _ _ _ (by have:=oh c; omega) (gF c) (i1 c) t.1 t.2.1 t.2.2
theorem C1 (c:Int) (t u:Fin (cP c)×Fin (cP c)×Fin (cP c)) :
  F.Ej (gT c).1 (gT c).2.1 (gT c).2.2.1 (gT c).2.2.2.1 (gT c).2.2.2.2.1 (gT c).2.2.2.2.2.1 (gT c).2.2.2.2.2.2.1 (gT c).2.2.2.2.2.2.2.1 (gT c).2.2.2.2.2.2.2.2.1 (gT c).2.2.2.2.2.2.2.2.2.1 (gT c).2.2.2.2.2.2.2.2.2.2
   (bt t).1 (bt t).2.1 (bt t).2.2.1 (bt t).2.2.2.1 (bt t).2.2.2.2.1 (bt t).2.2.2.2.2 (bt u).1 (bt u).2.1 (bt u).2.2.1 (bt u).2.2.2.1 (bt u).2.2.2.2.1 (bt u).2.2.2.2.2=some (bt (kb t.1 t.2.1 t.2.2 u.1 u.2.1 u.2.2)):=
 u4 _ _ _ _ _ _ _ _ _ (by have:=oh c; omega) t.1 t.2.1 t.2.2 u.1 u.2.1 u.2.2
end Go.Gk.Bn
end

section
namespace Go.Gk.Bn
open Go Go.Gk Go.Gk.Sh Go.Gk.Ec Go.Gk.Pr
theorem Be (c:Int) (P:Pt (cP c)):(rep P).1.length<=12/\(rep P).2.1.length<=12:=by
 rcases P with _ | ⟨x,y⟩
 ·exact⟨Nat.zero_le _,Nat.zero_le _⟩
 ·exact⟨gL c x,gL c y⟩
end Go.Gk.Bn
end
