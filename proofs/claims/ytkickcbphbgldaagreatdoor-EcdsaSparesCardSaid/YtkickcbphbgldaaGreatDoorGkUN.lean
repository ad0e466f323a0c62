import Derived.Test.YtkickcbphbgldaaGreatDoorGkUL
import Derived.Test.YtkickcbphbgldaaGreatDoorGkEc0
import Derived.Test.YtkickcbphbgldaaGreatDoorGkUJ
import Derived.Test.YtkickcbphbgldaaGreatDoorGkFman
set_option linter.unusedVariables false
set_option linter.unusedSimpArgs false
set_option linter.unusedSectionVars false

section
namespace Go.Gk.Bn
open Go Go.Gk Go.Gk.Sh Go.Gk.Ec Go.Gk.Pr
instance cP_nz (c:Int):NeZero (cP c):=⟨by have:=(dg c).2.2.2.2.2.1; omega⟩
theorem gY (c:Int):Prm (cP c):=by
 unfold cP
 split
 ·exact cI
 ·exact ca
theorem gN (c:Int):Prm (cN c):=by
 unfold cN
 split
 ·exact cJ
 ·exact cb
theorem kA (c:Int):Fld (cP c):=AV (gY c) (by have:=(dg c).2.2.2.2.2.1; omega)
section
variable {p:Nat} [NeZero p]
def be (u:Fin p):Bool×List UInt32:=bi (u.val:Int)
theorem vC {x y:Int}:fz (p:=p) x=fz y↔x%p=y%p:=by
 constructor
 ·intro h
  rw [←fa (p:=p) x,h,fa]
 ·intro h
  rw [←ge x,h,ge]
theorem jK (z:Int):be (fz (p:=p) z)=bi (z%p):=by unfold be; rw [fa]
theorem vq:fz (p:=p) 1=1:=dp 1
theorem gx (u:Fin p) (hpl:nl (p:Int)≤1000):nl (u.val:Int)≤1000:=Nat.le_trans (d6 (by have:=u.isLt; omega)) hpl
theorem gO (u:Fin p):F.BR (be u).1 (be u).2=some (if u=0 then 0 else 1):=by
 unfold be
 rw [mf]
 by_cases h:u=0
 ·have h0:(0:Fin p).val=0:=by simp
  rw [if_pos h,h,h0,if_pos (by rfl)]
 ·have h2:u.val≠0:=fun e=>h (Fin.ext (by rw [e]; simp))
  rw [if_neg h,if_neg (by omega),if_neg (by omega)]
variable (b0:Bool) (b1:List UInt32) (n0:Bool) (n1:List UInt32) (x0:Bool) (x1:List UInt32) (y0:Bool) (y1:List UInt32) (s:Int) (hpl:nl (p:Int)≤1000)
include hpl
theorem nk (u v:Fin p):F.BK (bi (p:Int)).1 (bi (p:Int)).2 b0 b1 n0 n1 x0 x1 y0 y1 s (be u).1 (be u).2 (be v).1 (be v).2=some (be (u*v)):=by
 have h1:=gx u hpl; have h2:=gx v hpl
 have h3:=Int.mul_nonneg (Int.natCast_nonneg u.val) (Int.natCast_nonneg v.val)
 unfold be
 rw [kh p b0 b1 n0 n1 x0 x1 y0 y1 s ju hpl _ _ (by omega) (fun h=>by omega),Fin.val_mul,Int.natCast_emod,Int.natCast_mul]
theorem qo (u v:Fin p):F.BS (bi (p:Int)).1 (bi (p:Int)).2 b0 b1 n0 n1 x0 x1 y0 y1 s (be u).1 (be u).2 (be v).1 (be v).2=some (be (u - v)):=by
 have h1:=gx u hpl; have h2:=gx v hpl
 have h3:be (u - v)=bi (((u.val:Int) - (v.val:Int))%p):=by rw [←jK,nN,fe,fe]
 rw [h3]
 unfold be
 rw [te p b0 b1 n0 n1 x0 x1 y0 y1 s ju hpl _ _ (by omega) (by omega)]
theorem ob (k:Nat) (hk:k≤1000) (u:Fin p):F.BW (bi (p:Int)).1 (bi (p:Int)).2 b0 b1 n0 n1 x0 x1 y0 y1 s (k:Int) (be u).1 (be u).2=some (be (Fin.ofNat p k*u)):=by
 have h1:=gx u hpl
 have h3:be (Fin.ofNat p k*u)=bi (((k:Int)*(u.val:Int))%p):=by rw [←jK,ii,fe,dp]
 rw [h3]
 unfold be
 rw [pg p b0 b1 n0 n1 x0 x1 y0 y1 s ju hpl (k:Int) _ (by omega) (by omega) (by omega) (by omega)]
theorem wT (u v:Fin p):(an (F.EO false [] (be u).1 (be u).2 (be v).1 (be v).2) fun x=>F.Ce (bi (p:Int)).1 (bi (p:Int)).2 b0 b1 n0 n1 x0 x1 y0 y1 s x.1 x.2)=some (be (u+v)):=by
 have h1:=gx u hpl; have h2:=gx v hpl
 have h3:be (u+v)=bi (((u.val:Int)+(v.val:Int))%p):=by rw [←jK,lR,fe,fe]
 have h4:=rP (u.val:Int) (v.val:Int)
 rw [h3]
 unfold be
 rw [AE _ _ _ _ (by omega) (by omega),ak,mm p b0 b1 n0 n1 x0 x1 y0 y1 s ju hpl _ (by omega) (fun _=>by omega)]
omit hpl in
def jS (X Y Z:Fin p):Fin p×Fin p×Fin p:=
 if Z=0 then (X,Y,Z) else
  let zz:=Z*Z; let yy:=Y*Y; let s:=4*(X*yy); let m:=3*((X - zz)*(X+zz)); let x:=m*m - 2*s
  (x,m*(s - x) - 8*(yy*yy),2*(Y*Z))
omit hpl in
def iB (X1 Y1 Z1 X2 Y2 Z2:Fin p):Fin p×Fin p×Fin p:=
 if Z1=0 then (X2,Y2,Z2) else if Z2=0 then (X1,Y1,Z1) else
  let u1:=X1*(Z2*Z2); let s1:=Y1*(Z2*(Z2*Z2)); let h:=X2*(Z1*Z1) - u1; let r:=Y2*(Z1*(Z1*Z1)) - s1
  if h=0 then (if r=0 then jS X1 Y1 Z1 else (0,0,0)) else
   let hh:=h*h; let hhh:=h*hh; let v:=u1*hh; let x:=r*r - hhh - 2*v
   (x,r*(v - x) - s1*hhh,h*(Z1*Z2))
omit hpl in
def bt (t:Fin p×Fin p×Fin p):Bool×List UInt32×Bool×List UInt32×Bool×List UInt32:=((be t.1).1,(be t.1).2,(be t.2.1).1,(be t.2.1).2,(be t.2.2).1,(be t.2.2).2)
omit hpl in
noncomputable def jpt (t:Fin p×Fin p×Fin p):Pt p:=jac t.1 t.2.1 t.2.2
omit hpl in
theorem sg0 {u:Fin p}:(((if u=0 then (0:Int) else 1) == 0)=true)↔u=0:=by
 by_cases h:u=0
 ·rw [if_pos h]; simp [h]
 ·rw [if_neg h]; simp [h]
theorem nA (X Y Z:Fin p):F.Dl (bi (p:Int)).1 (bi (p:Int)).2 b0 b1 n0 n1 x0 x1 y0 y1 s (be X).1 (be X).2 (be Y).1 (be Y).2 (be Z).1 (be Z).2=some (bt (jS X Y Z)):=by
 have mul:=nk b0 b1 n0 n1 x0 x1 y0 y1 s hpl
 have sub:=qo b0 b1 n0 n1 x0 x1 y0 y1 s hpl
 have tim:=fun k hk=>ob b0 b1 n0 n1 x0 x1 y0 y1 s hpl k hk
 have ad:=wT b0 b1 n0 n1 x0 x1 y0 y1 s hpl
 unfold F.Dl
 rw [gO,ak]
 by_cases h:Z=0
 ·rw [if_pos (sg0.2 h)]
  unfold jS
  rw [if_pos h]; rfl
 ·rw [if_neg (fun q=>h (sg0.1 q)),mul,ak,mul,ak,mul,ak]
  have t4:=tim 4 (by decide); have t3:=tim 3 (by decide); have t2:=tim 2 (by decide); have t8:=tim 8 (by decide)
  have e4:((4:Nat):Int)=4:=rfl
  have e3:((3:Nat):Int)=3:=rfl
  have e2:((2:Nat):Int)=2:=rfl
  have e8:((8:Nat):Int)=8:=rfl
  rw [e4]at t4; rw [e3]at t3; rw [e2]at t2; rw [e8]at t8
  rw [t4,ak,sub,ak]
  have hb:∀{α β γ:Type} (x:Option α) (f:α→Option β) (g:β→Option γ),(an x fun a=>an (f a) g)=an (an x f) g:=fun x f g=>by cases x <;> rfl
  rw [hb,ad,ak,mul,ak,t3,ak,mul,ak,t2,ak,sub,ak,sub,ak,mul,ak,mul,ak,t8,ak,sub,ak,mul,ak,t2,ak]
  unfold jS
  rw [if_neg h]
  rfl
theorem sV (X1 Y1 Z1 X2 Y2 Z2:Fin p):F.Ca (bi (p:Int)).1 (bi (p:Int)).2 b0 b1 n0 n1 x0 x1 y0 y1 s (be X1).1 (be X1).2 (be Y1).1 (be Y1).2 (be Z1).1 (be Z1).2 (be X2).1 (be X2).2 (be Y2).1 (be Y2).2 (be Z2).1 (be Z2).2=some (bt (iB X1 Y1 Z1 X2 Y2 Z2)):=by
 have mul:=nk b0 b1 n0 n1 x0 x1 y0 y1 s hpl
 have sub:=qo b0 b1 n0 n1 x0 x1 y0 y1 s hpl
 have t2:=ob b0 b1 n0 n1 x0 x1 y0 y1 s hpl 2 (by decide)
 have e2:((2:Nat):Int)=2:=rfl
 rw [e2]at t2
 unfold F.Ca iB
 rw [gO,ak]
 by_cases h1:Z1=0
 ·rw [if_pos (sg0.2 h1),if_pos h1]; rfl
 rw [if_neg (fun q=>h1 (sg0.1 q)),if_neg h1,gO,ak]
 by_cases h2:Z2=0
 ·rw [if_pos (sg0.2 h2),if_pos h2]; rfl
 rw [if_neg (fun q=>h2 (sg0.1 q)),if_neg h2,mul,ak,mul,ak,mul,ak,mul,ak,mul,ak,mul,ak,mul,ak,mul,ak,sub,ak,sub,ak,gO,ak]
 dsimp only
 by_cases h3:X2*(Z1*Z1) - X1*(Z2*Z2)=0
 ·rw [if_pos (sg0.2 h3),if_pos h3,gO,ak]
  by_cases h4:Y2*(Z1*(Z1*Z1)) - Y1*(Z2*(Z2*Z2))=0
  ·rw [if_pos (sg0.2 h4),if_pos h4,nA b0 b1 n0 n1 x0 x1 y0 y1 s hpl,ak]
  ·rw [if_neg (fun q=>h4 (sg0.1 q)),if_neg h4]
   unfold F.B6
   rw [ak]
   have h0:be (0:Fin p)=(false,[]):=by
    unfold be
    have:(0:Fin p).val=0:=by simp
    rw [this]
    exact congrArg (fun l=>(false,l)) bG
   unfold bt
   dsimp only
   rw [h0]
 ·rw [if_neg (fun q=>h3 (sg0.1 q)),if_neg h3,mul,ak,mul,ak,mul,ak,mul,ak,sub,ak,t2,ak,sub,ak,sub,ak,mul,ak,mul,ak,sub,ak,mul,ak,mul,ak]
  rfl
end
section
variable {p:Nat} [NeZero p]
theorem oq (F:Fld p) (t:Fin p×Fin p×Fin p):jpt (jS t.1 t.2.1 t.2.2)=Ec.add (-3) (jpt t) (jpt t):=by
 obtain ⟨X,Y,Z⟩:=t
 unfold jpt jS
 by_cases h:Z=0
 ·subst h
  rw [if_pos rfl,d9]; rfl
 ·rw [if_neg h]
  exact F.jac_dbl h rfl rfl rfl rfl rfl rfl
theorem oG (F:Fld p) {b:Fin p} (t u:Fin p×Fin p×Fin p) (ht:On (-3) b (jpt t)) (hu:On (-3) b (jpt u)):jpt (iB t.1 t.2.1 t.2.2 u.1 u.2.1 u.2.2)=Ec.add (-3) (jpt t) (jpt u):=by
 obtain ⟨X1,Y1,Z1⟩:=t
 obtain ⟨X2,Y2,Z2⟩:=u
 unfold iB
 dsimp only
 by_cases h1:Z1=0
 ·subst h1
  rw [if_pos rfl]
  show _=Ec.add (-3) (jac X1 Y1 0) _
  rw [d9]; rfl
 rw [if_neg h1]
 by_cases h2:Z2=0
 ·subst h2
  rw [if_pos rfl]
  show _=Ec.add (-3) _ (jac X2 Y2 0)
  rw [d9,cc]
 rw [if_neg h2]
 by_cases h3:X2*(Z1*Z1) - X1*(Z2*Z2)=0
 ·rw [if_pos h3]
  obtain ⟨x1,y1,hx1,hy1,hj1⟩:=F.of_jac X1 Y1 h1
  obtain ⟨x2,y2,hx2,hy2,hj2⟩:=F.of_jac X2 Y2 h2
  have hW:=F.mul_ne h1 h2
  have hxx:x1=x2:=by
   refine F.cancel (F.mul_ne hW hW) ?_
   subst hx1 hx2; clear hy1 hy2 hj1 hj2 ht hu; grobner
  have ht':On (-3) b (some (x1,y1)):=by rw [←hj1]; exact ht
  have hu':On (-3) b (some (x2,y2)):=by rw [←hj2]; exact hu
  subst hxx
  by_cases h4:Y2*(Z1*(Z1*Z1)) - Y1*(Z2*(Z2*Z2))=0
  ·rw [if_pos h4]
   have hyy:y1=y2:=by
    refine F.cancel (F.mul_ne hW (F.mul_ne hW hW)) ?_
    subst hy1 hy2; clear hj1 hj2 ht hu ht' hu' hx1 hx2 h3; grobner
   have e:=oq F (X1,Y1,Z1)
   refine e.trans ?_
   show Ec.add (-3) (jac X1 Y1 Z1) (jac X1 Y1 Z1)=Ec.add (-3) (jac X1 Y1 Z1) (jac X2 Y2 Z2)
   rw [hj1,hj2,hyy]
  ·rw [if_neg h4]
   have hyn:y1+y2=0:=by
    rcases F.same_x ht' hu' with q | q
    ·exfalso; apply h4
     subst hy1 hy2 q; clear hj1 hj2 ht hu ht' hu' hx1 hx2 h3 h4; grobner
    ·rw [q,oL]
   show jac 0 0 0=Ec.add (-3) (jac X1 Y1 Z1) (jac X2 Y2 Z2)
   rw [d9,hj1,hj2,dC,if_pos rfl,if_pos hyn]
 ·rw [if_neg h3]
  exact F.jac_add h1 h2 rfl rfl rfl rfl rfl rfl rfl rfl rfl rfl rfl h3 (-3)
end
end Go.Gk.Bn
end

section
namespace Go.Gk.Bn
open Go Go.Gk Go.Gk.Sh Go.Gk.Ec Go.Gk.Pr
section
variable {p:Nat} [NeZero p]
def rl (u:Fin p):List UInt32:=aA u.val
def rep (P:Pt p):List UInt32×List UInt32×Bool:=match P with
 | none=>([],[],true)
 | some (x,y)=>(rl x,rl y,false)
theorem ke (u:Fin p):val (rl u)=u.val:=aE _
theorem AM (F:Fld p) (hp:Prm p) {Z:Fin p} {v:Nat} (hv:v<p) (h:Z.val*v%p=1):(⟨v,hv⟩:Fin p)=rcp Z:=by
 apply F.iv_uniq
 apply Fin.ext
 rw [Fin.val_mul]
 show Z.val*v%p=1%p
 rw [h,Nat.mod_eq_of_lt hp.1]
theorem zo (hp:Prm p) {Z:Fin p} (h:Z≠0):Nat.gcd Z.val p=1:=by
 have hz:Z.val≠0:=fun e=>h (Fin.ext (by rw [e]; simp))
 have h1:¬p ∣ Z.val:=fun hd=>by have:=Nat.le_of_dvd (by omega) hd; have:=Z.isLt; omega
 rw [Nat.gcd_comm]
 exact hp.coprime h1
theorem tQ (hpl:nl (p:Int)≤1000) (u:Fin p):F.BZ (be u).1 (be u).2=some (rl u):=by
 have:=gx u hpl
 unfold be
 rw [nV _ (by omega)]; rfl
theorem xZ (b0:Bool) (b1:List UInt32) (n0:Bool) (n1:List UInt32) (x0:Bool) (x1:List UInt32) (y0:Bool) (y1:List UInt32) (s:Int) (hpl:nl (p:Int)≤1000) (D:Fld p) (hp:Prm p) (X Y Z:Fin p) :
  F.Co (bi (p:Int)).1 (bi (p:Int)).2 b0 b1 n0 n1 x0 x1 y0 y1 s (be X).1 (be X).2 (be Y).1 (be Y).2 (be Z).1 (be Z).2=some (rep (jac X Y Z)):=by
 have mul:=nk b0 b1 n0 n1 x0 x1 y0 y1 s hpl
 unfold F.Co jac
 rw [gO,ak]
 by_cases h:Z=0
 ·rw [if_pos (sg0.2 h),if_pos h]; rfl
 ·rw [if_neg (fun q=>h (sg0.1 q)),if_neg h]
  have hz:=gx Z hpl
  obtain ⟨v,hv,hv1,hv2⟩:=pU false [] Z.val p hp.1 (by omega) (by omega) (zo hp h)
  have e:bi (v:Int)=be (rcp Z):=by rw [←AM D hp hv hv1]; rfl
  rw [e]at hv2
  rw [show F.D5 false [] (be Z).1 (be Z).2 (bi (p:Int)).1 (bi (p:Int)).2=some (be (rcp Z)) from hv2,ak,mul,ak,mul,ak,tQ hpl,ak,mul,ak,mul,ak,tQ hpl,ak]
  rfl
end
section
variable (c:Int) (hc:isC c)
theorem lU (u:Fin (cP c)):(rl u).length≤12:=tK c (Nat.le_of_lt u.isLt)
include hc
def ff (X Y:List UInt32) (inf:Bool):Pt (cP c):=if inf then none else some (fz (val X:Int),fz (val Y:Int))
theorem oK (x y:Nat) (hx:x<cP c) (hy:y<cP c):onN (cP c) (cB c) x y=true↔On (-3) (fz (cB c:Int)) (some (fz (p:=cP c) (x:Int),fz (y:Int))):=by
 have hp:=(dg c).2.2.2.2.2.1
 unfold onN
 rw [decide_eq_true hx,decide_eq_true hy,Bool.true_and,Bool.true_and,decide_eq_true_iff]
 obtain ⟨A,hA⟩:∃A,x*(x*x%cP c)%cP c=A:=⟨_,rfl⟩
 obtain ⟨B,hB⟩:∃B,3*x%cP c=B:=⟨_,rfl⟩
 have hBp:B<cP c:=by rw [←hB]; exact Nat.mod_lt _ (by omega)
 have fA:fz (p:=cP c) (A:Int)=fz x*(fz x*fz x):=by rw [←hA,Int.natCast_emod,ge,Int.natCast_mul,ii,Int.natCast_emod,ge,Int.natCast_mul,ii]
 have fB:fz (p:=cP c) (B:Int)=3*fz x:=by
  rw [←hB,Int.natCast_emod,ge,Int.natCast_mul,ii]
  congr 1
 have fP:fz (p:=cP c) (cP c:Int)=0:=gB.2 (Int.emod_self)
 rw [hA,hB]
 have e1:fz (p:=cP c) ((((A+cP c - B)%cP c+cB c:Nat)):Int)=fz x*(fz x*fz x) - 3*fz x+fz (cB c:Int):=by
  rw [Int.natCast_add,lR,Int.natCast_emod,ge,show ((A+cP c - B:Nat):Int)=(A:Int)+cP c - B by omega,nN,lR,fA,fB,fP]
  grobner
 have e2:fz (p:=cP c) ((y*y:Nat):Int)=fz y*fz y:=by rw [Int.natCast_mul,ii]
 have e3:y*y%cP c=((A+cP c - B)%cP c+cB c)%cP c↔fz (p:=cP c) ((y*y:Nat):Int)=fz ((((A+cP c - B)%cP c+cB c:Nat)):Int):=by
  rw [vC,←Int.natCast_emod,←Int.natCast_emod]
  exact Int.natCast_inj.symm
 rw [e3,e1,e2]
 unfold On
 dsimp only
 constructor
 ·intro h; rw [h]; grobner
 ·intro h; rw [h]; grobner
end
end Go.Gk.Bn
end

section
namespace Go.Gk.Bn
open Go Go.Gk Go.Gk.Sh Go.Gk.Ec Go.Gk.Pr
abbrev bF (c:Int):Fin (cP c):=fz (cB c:Int)
theorem uv {c:Int} {X Y:List UInt32} {q:Bool} (h:onS c X Y q=true):isC c:=by
 unfold onS at h
 split at h
 ·assumption
 ·cases h
theorem o8 {c:Int} {X Y:List UInt32} (h:onS c X Y false=true):val X<cP c∧val Y<cP c∧onN (cP c) (cB c) (val X) (val Y)=true:=by
 have hc:=uv h
 unfold onS at h
 rw [if_pos hc,if_neg (by decide)]at h
 exact ⟨(qY h).1,(qY h).2,h⟩
theorem vQ {c:Int} {X Y:List UInt32} {q:Bool} (h:onS c X Y q=true):On (-3) (bF c) (ff c X Y q):=by
 unfold ff
 cases q with
 | true=>rw [if_pos rfl]; trivial
 | false=>
  obtain ⟨h1,h2,h3⟩:=o8 h
  rw [if_neg (by decide)]
  exact (oK c (uv h) _ _ h1 h2).1 h3
theorem lz {l:List UInt32} (h:val l=0):aA (val l)=[]:=by rw [h]; exact bG
def jT (c:Int) (X Y:List UInt32) (q:Bool):Fin (cP c)×Fin (cP c)×Fin (cP c):=if q then (0,0,0) else (fz (val X:Int),fz (val Y:Int),1)
theorem sU {p:Nat} [NeZero p]:be (0:Fin p)=(false,[]):=by
 unfold be
 have:(0:Fin p).val=0:=by simp
 rw [this]
 exact congrArg (fun l=>(false,l)) bG
theorem AC {c:Int} {X Y:List UInt32} {q:Bool} (h:onS c X Y q=true):rdT X Y q=bt (jT c X Y q):=by
 unfold rdT jT bt
 cases q with
 | true=>
  rw [if_pos rfl,if_pos rfl]
  dsimp only
  rw [sU]
 | false=>
  obtain ⟨h1,h2,_⟩:=o8 h
  have hp:=(gY c).1
  have e1:be (fz (p:=cP c) (val X:Int))=bi (val X:Int):=by rw [jK,Int.emod_eq_of_lt (by omega) (by omega)]
  have e2:be (fz (p:=cP c) (val Y:Int))=bi (val Y:Int):=by rw [jK,Int.emod_eq_of_lt (by omega) (by omega)]
  have e3:be (1:Fin (cP c))=bi 1:=by rw [←vq,jK,Int.emod_eq_of_lt (by omega) (by omega)]
  rw [if_neg (by decide),if_neg (by decide)]
  dsimp only
  rw [e1,e2,e3]
theorem nE (c:Int):(1:Fin (cP c))≠0:=by
 intro h
 have h1:(1:Fin (cP c)).val=1%cP c:=rfl
 have h0:(0:Fin (cP c)).val=0:=by simp
 have h2:=congrArg Fin.val h
 rw [h1,h0,Nat.mod_eq_of_lt (gY c).1]at h2
 cases h2
theorem yD (c:Int) (X Y:List UInt32) (q:Bool):jpt (jT c X Y q)=ff c X Y q:=by
 unfold jpt jT ff
 cases q with
 | true=>exact d9 _ _
 | false=>
  rw [if_neg (by decide),if_neg (by decide)]
  exact (kA c).jac_of (nE c) (by grobner) (by grobner)
theorem zT (c:Int) (t:Fin (cP c)×Fin (cP c)×Fin (cP c)) :
  F.Co (gT c).1 (gT c).2.1 (gT c).2.2.1 (gT c).2.2.2.1 (gT c).2.2.2.2.1 (gT c).2.2.2.2.2.1 (gT c).2.2.2.2.2.2.1 (gT c).2.2.2.2.2.2.2.1 (gT c).2.2.2.2.2.2.2.2.1 (gT c).2.2.2.2.2.2.2.2.2.1 (gT c).2.2.2.2.2.2.2.2.2.2
   (bt t).1 (bt t).2.1 (bt t).2.2.1 (bt t).2.2.2.1 (bt t).2.2.2.2.1 (bt t).2.2.2.2.2=some (rep (jpt t)):=
 xZ _ _ _ _ _ _ _ _ _ (by have:=kx c; omega) (kA c) (gY c) t.1 t.2.1 t.2.2
theorem A4 (c:Int) (t u:Fin (cP c)×Fin (cP c)×Fin (cP c)) :
  F.Ca (gT c).1 (gT c).2.1 (gT c).2.2.1 (gT c).2.2.2.1 (gT c).2.2.2.2.1 (gT c).2.2.2.2.2.1 (gT c).2.2.2.2.2.2.1 (gT c).2.2.2.2.2.2.2.1 (gT c).2.2.2.2.2.2.2.2.1 (gT c).2.2.2.2.2.2.2.2.2.1 (gT c).2.2.2.2.2.2.2.2.2.2
   (bt t).1 (bt t).2.1 (bt t).2.2.1 (bt t).2.2.2.1 (bt t).2.2.2.2.1 (bt t).2.2.2.2.2 (bt u).1 (bt u).2.1 (bt u).2.2.1 (bt u).2.2.2.1 (bt u).2.2.2.2.1 (bt u).2.2.2.2.2=some (bt (iB t.1 t.2.1 t.2.2 u.1 u.2.1 u.2.2)):=
 sV _ _ _ _ _ _ _ _ _ (by have:=kx c; omega) t.1 t.2.1 t.2.2 u.1 u.2.1 u.2.2
end Go.Gk.Bn
end

section
namespace Go.Gk.Bn
open Go Go.Gk Go.Gk.Sh Go.Gk.Ec Go.Gk.Pr
theorem tJ (c:Int) (P:Pt (cP c)):(rep P).1.length≤12∧(rep P).2.1.length≤12:=by
 rcases P with _ | ⟨x,y⟩
 ·exact ⟨Nat.zero_le _,Nat.zero_le _⟩
 ·exact ⟨lU c x,lU c y⟩
end Go.Gk.Bn
end
