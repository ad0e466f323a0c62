set_option linter.unusedVariables false
set_option linter.unusedSimpArgs false
set_option linter.unusedSectionVars false
section
namespace Go.Gk.Ec
section ring
variable {p:Nat} [NeZero p]
theorem eY {a b:Fin p} (h:a - b=0):a=b:=by grobner
theorem yk (a:Fin p):a*0=0:=by grobner
theorem Bs (a:Fin p):a+-a=0:=by grobner
structure Ln (a b x1 y1 x2 y2 s x3 y3:Fin p):Prop where
 hy:y2=y1+s*(x2 - x1)
 ha:a=s*(y1+y2) - x1*x1 - x1*x2 - x2*x2
 hb:b=y1*y1 - x1*x1*x1 - a*x1
 hx:x3=s*s - x1 - x2
 hz:y3=s*(x1 - x3) - y1
variable {a b x1 y1 x2 y2 s x3 y3:Fin p}
theorem Ln.on1 (h:Ln a b x1 y1 x2 y2 s x3 y3):y1*y1=x1*x1*x1+a*x1+b:=by
 have hb:=h.hb
 clear h; subst hb; grobner
theorem Ln.on2 (h:Ln a b x1 y1 x2 y2 s x3 y3):y2*y2=x2*x2*x2+a*x2+b:=by
 obtain⟨f,g,i,j,k⟩:=h
 subst f g i j k; grobner
theorem Ln.on3 (h:Ln a b x1 y1 x2 y2 s x3 y3):y3*y3=x3*x3*x3+a*x3+b:=by
 obtain⟨f,g,i,j,k⟩:=h
 subst f g i j k; grobner
theorem Ln.symm (h:Ln a b x1 y1 x2 y2 s x3 y3):Ln a b x2 y2 x1 y1 s x3 y3:=by
 obtain⟨f,g,i,j,k⟩:=h
 refine⟨?_,?_,?_,?_,?_⟩ <;> (subst f g i j k; grobner)
theorem Ln.xS {f j g xS k:Fin p} (h:Ln a b x1 y1 x2 y2 s x3 y3) (i:Ln a b x3 y3 f j g xS k) :
  xS=(s+g)*(s+g) - 2*(x3+s*g) - x1 - x2 - f:=by
 have m:=h.hx
 have o:=i.hx
 clear h i
 subst m o; grobner
end ring
structure Fld (p:Nat) [NeZero p]:Prop where
 nz:∀u v:Fin p,u*v=0->u=0\/v=0
 iv:∀u:Fin p,u≠0->∃v:Fin p,u*v=1
 two:(2:Fin p)≠0
variable {p:Nat} [NeZero p]
open Classical in
noncomputable def rcp (u:Fin p):Fin p:=if h:∃v:Fin p,u*v=1 then Classical.choose h else 0
theorem Fld.mul_iv (F:Fld p) {u:Fin p} (h:u≠0):u*rcp u=1:=by
 unfold rcp
 rw[dif_pos (F.iv u h)]
 exact Classical.choose_spec (F.iv u h)
theorem Fld.cancel (F:Fld p) {u v w:Fin p} (h:u≠0) (e:u*v=u*w):v=w:=by
 rcases F.nz u (v - w) (by grobner) with f | f
 ·exact (h f).elim
 ·exact eY f
theorem Fld.iv_uniq (F:Fld p) {u v:Fin p} (e:u*v=1):v=rcp u:=by
 have h:u≠0:=by
  intro f
  have:(2:Fin p)=0:=by subst f; grobner
  exact F.two this
 exact F.cancel h (e.trans (F.mul_iv h).symm)
theorem Fld.dbl (F:Fld p) {u:Fin p} (h:u+u=0):u=0:=by
 rcases F.nz 2 u (by grobner) with f | f
 ·exact (F.two f).elim
 ·exact f
abbrev Pt (p:Nat):=Option (Fin p×Fin p)
def On (a b:Fin p):Pt p->Prop
 | none=>True
 | some (x,y)=>y*y=x*x*x+a*x+b
def kM (x1 y1 x2 s:Fin p):Pt p:=some (s*s - x1 - x2,s*(x1 - (s*s - x1 - x2)) - y1)
noncomputable def add (a:Fin p):Pt p->Pt p->Pt p
 | none,Q=>Q
 | some P,none=>some P
 | some (x1,y1),some (x2,y2)=>
  if x1=x2 then (if y1+y2=0 then none else kM x1 y1 x2 ((3*(x1*x1)+a)*rcp (2*y1)))
  else kM x1 y1 x2 ((y2 - y1)*rcp (x2 - x1))
theorem gc (a x1 y1 x2 y2:Fin p):add a (some (x1,y1)) (some (x2,y2)) =
  if x1=x2 then (if y1+y2=0 then none else kM x1 y1 x2 ((3*(x1*x1)+a)*rcp (2*y1)))
  else kM x1 y1 x2 ((y2 - y1)*rcp (x2 - x1)):=rfl
structure Cv (p:Nat) [NeZero p] (a b:Fin p):Prop extends Fld p where
 odd:∀x:Fin p,x*x*x+a*x+b≠0
variable {a b:Fin p}
theorem d6 (P:Pt p):add a P none=P:=by cases P <;> rfl
theorem Cv.y_ne (C:Cv p a b) {x y:Fin p} (h:On a b (some (x,y))):y≠0:=by
 intro f
 apply C.odd x
 unfold On at h
 dsimp only at h
 rw[<-h,f,yk]
theorem Fld.ln (C:Fld p) {x1 y1 x2 y2:Fin p} (j:On a b (some (x1,y1))) (f:On a b (some (x2,y2))) (h:¬(x1=x2/\y1+y2=0)) :
  ∃s x3 y3,Ln a b x1 y1 x2 y2 s x3 y3/\add a (some (x1,y1)) (some (x2,y2))=some (x3,y3):=by
 unfold On at j f
 dsimp only at j f
 rw[gc]
 unfold kM
 by_cases hx:x1=x2
 ·rw[if_pos hx,if_neg (fun q=>h ⟨hx,q⟩)]
  refine⟨((3*(x1*x1)+a)*rcp (2*y1)),_,_,?_,rfl⟩
  have k:(y1 - y2)*(y1+y2)=0:=by subst hx; grobner
  have t:y2=y1:=by
   rcases C.nz _ _ k with q | q
   ·exact (eY q).symm
   ·exact (h ⟨hx,q⟩).elim
  subst hx t
  have m:y2≠0:=by intro i; apply h; refine⟨rfl,?_⟩; rw[i]; grobner
  have f:2*y2≠0:=by
   intro i; rcases C.nz _ _ i with q | q
   ·exact C.two q
   ·exact m q
  have e:=C.mul_iv f
  generalize rcp (2*y2)=z at e ⊢
  refine⟨by grobner,?_,?_,rfl,rfl⟩
  ·have:(3*(x1*x1)+a)*z*(y2+y2)=3*(x1*x1)+a:=by
    have:y2+y2=2*y2:=by grobner
    rw[this]; clear this
    generalize 2*y2=w at *
    grobner
   rw[this]; clear this
   grobner
  ·clear e; grobner
 ·rw[if_neg hx]
  refine⟨(y2 - y1)*rcp (x2 - x1),_,_,?_,rfl⟩
  have o:x2 - x1≠0:=fun i=>hx (eY i).symm
  have e:=C.mul_iv o
  generalize rcp (x2 - x1)=z at e ⊢
  have g:(y2 - y1)*z*(x2 - x1)=y2 - y1:=by generalize x2 - x1=w at *; clear j f; grobner
  generalize (y2 - y1)*z=s at g ⊢
  clear e
  refine⟨?_,?_,?_,rfl,rfl⟩
  ·rw[g]; grobner
  ·have:(x2 - x1)*a=(x2 - x1)*(s*(y1+y2) - x1*x1 - x1*x2 - x2*x2):=by
    have:(x2 - x1)*(s*(y1+y2) - x1*x1 - x1*x2 - x2*x2)=s*(x2 - x1)*(y1+y2) - (x2 - x1)*(x1*x1+x1*x2+x2*x2):=by clear j f g; grobner
    rw[this,g]; clear this g
    grobner
   exact C.cancel o this
  ·clear g; grobner
end Go.Gk.Ec
end

section
namespace Go.Gk.Ec
variable {p:Nat} [NeZero p] {a b:Fin p}
theorem Fld.on_add (C:Fld p) {P Q:Pt p} (f:On a b P) (g:On a b Q):On a b (add a P Q):=by
 rcases P with _ | ⟨x1,y1⟩
 ·exact g
 rcases Q with _ | ⟨x2,y2⟩
 ·exact f
 by_cases h:x1=x2/\y1+y2=0
 ·rw[gc,if_pos h.1,if_pos h.2]; trivial
 ·obtain⟨s,x3,y3,i,e⟩:=C.ln f g h
  rw[e]; exact i.on3
theorem Cv.off (C:Cv p a b) {x1 y1 x2 y2 s j m x3 y3 g xS z:Fin p} (h:Ln a b x1 y1 x2 y2 s j m) (f:Ln a b j m x3 y3 g xS z)
  (n1:x3≠x1) (o:x3≠x2):y3 - y1 - s*(x3 - x1)≠0:=by
 intro e
 have A:y3=y1+s*(x3 - x1):=by clear h f; grobner
 have t:=f.on2
 have hx:(x3 - x1)*((x3 - x2)*(x3 - j))=0:=by
  have ha:=h.ha
  have hb:=h.hb
  have hy:=h.hy
  have B:=h.hx
  clear h f n1 o e
  subst hy ha hb B A
  grobner
 rcases C.nz _ _ hx with q | q
 ·exact n1 (eY q)
 rcases C.nz _ _ q with q | q
 ·exact o (eY q)
 have y:=eY q
 have F:=h.hz
 have G:=f.hy
 have i:=f.on1
 have k:m≠0:=C.y_ne (x:=j) (by unfold On; exact i)
 apply k
 apply C.dbl
 clear h f t hx i k
 subst y
 grobner
theorem Cv.last (C:Cv p a b) {xS g f h m k c x1 x2 x3:Fin p} (j:k≠0) (eS:xS=k*k - 2*m - x1 - x2 - x3) (i:f=k*k - 2*m - x1 - x2 - x3)
  (o:xS*xS+m*xS+k*g+c=0) (q:f*f+m*f+k*h+c=0):xS=f/\g=h:=by
 have e:xS=f:=by rw[eS,i]
 clear eS i
 subst e
 refine⟨rfl,C.cancel j ?_⟩
 grobner
end Go.Gk.Ec
end

section
namespace Go.Gk.Ec
variable {p:Nat} [NeZero p] {a b:Fin p}
theorem Fld.same_x (C:Fld p) {x y z:Fin p} (f:On a b (some (x,y))) (g:On a b (some (x,z))):z=y\/z=-y:=by
 unfold On at f g
 dsimp only at f g
 have:(z - y)*(z+y)=0:=by grobner
 rcases C.nz _ _ this with q | q
 ·exact .inl (eY q)
 ·exact .inr (by grobner)
theorem sub3 {u x y z:Fin p}:u - x - y - z=u - z - x - y:=by grobner
end Go.Gk.Ec
end

section
namespace Go.Gk.Pr
def Prm (p:Nat):Prop:=1<p/\∀d,d ∣ p->d=1\/d=p
theorem Prm.coprime {p a:Nat} (h:Prm p) (f:¬p ∣ a):Nat.Coprime p a:=by
 rcases h.2 _ (Nat.gcd_dvd_left p a) with e | e
 ·exact e
 ·exact (f (e ▸ Nat.gcd_dvd_right p a)).elim
theorem Prm.dvd_mul {p a b:Nat} (h:Prm p) (f:p ∣ a*b):p ∣ a\/p ∣ b:=by
 by_cases ha:p ∣ a
 ·exact .inl ha
 ·exact .inr ((h.coprime ha).dvd_of_dvd_mul_left f)
theorem mE:∀n d:Nat,d<=n->1<d->∃r,Prm r/\r ∣ d
 | 0,d,h,h1=>by omega
 | n+1,d,h,h1=>by
  by_cases hp:Prm d
  ·exact⟨d,hp,Nat.dvd_refl d⟩
  ·have:∃e,e ∣ d/\e≠1/\e≠d:=by
    refine Classical.byContradiction fun j=>hp ⟨h1,fun e f=>?_⟩
    by_cases g:e=1
    ·exact .inl g
    by_cases i:e=d
    ·exact .inr i
    exact (j ⟨e,f,g,i⟩).elim
   obtain⟨e,f,g,i⟩:=this
   have o:=Nat.le_of_dvd (by omega) f
   have q:e≠0:=by rintro rfl; exact (by omega:d≠0) (Nat.zero_dvd.1 f)
   obtain⟨r,k,m⟩:=mE n e (by omega) (by omega)
   exact⟨r,k,Nat.dvd_trans m f⟩
def gy:List Nat->Nat
 | []=>1
 | x :: l=>x*gy l
theorem wx {l f:List Nat} (h:l.Perm f):gy l=gy f:=by
 induction h with
 | nil=>rfl
 | cons x _ ih=>simp only[gy]; rw[ih]
 | swap x y l=>simp only[gy]; rw[<-Nat.mul_assoc,<-Nat.mul_assoc,Nat.mul_comm y x]
 | trans _ _ ih1 ih2=>rw[ih1,ih2]
theorem rD (r a:Nat):∀l:List Nat,gy (l.map (fun x=>a*x%r))%r=a^l.length*gy l%r
 | []=>by simp[gy]
 | x :: l=>by
  have f:=rD r a l
  simp only[List.map_cons,gy,List.length_cons,Nat.pow_succ]
  rw[Nat.mul_mod,f,Nat.mod_mod,<-Nat.mul_mod]
  congr 1
  rw[Nat.mul_assoc a x,Nat.mul_comm a,Nat.mul_comm (a^l.length) a]
  simp only[Nat.mul_assoc,Nat.mul_comm,Nat.mul_left_comm]
theorem rH {r:Nat} (h:Prm r):∀l:List Nat,(∀x∈l,¬r ∣ x)->¬r ∣ gy l
 | [],_=>by simp[gy]; have:=h.1; omega
 | x :: l,hl=>fun g=>by
  rcases h.dvd_mul g with f | f
  ·exact hl x (List.mem_cons_self ..) f
  ·exact rH h l (fun y i=>hl y (List.mem_cons_of_mem _ i)) f
theorem my {r a b:Nat} (h:a%r=b%r) (f:b<=a):r ∣ a - b:=Nat.dvd_of_mod_eq_zero (Nat.sub_mod_eq_zero_of_mod_eq h)
theorem lg {r a x y:Nat} (h:Prm r) (m:¬r ∣ a) (e:a*x%r=a*y%r):x%r=y%r:=by
 have g:∀x y:Nat,y<=x->a*x%r=a*y%r->x%r=y%r:=fun x y f e=>by
  have j:=my e (Nat.mul_le_mul_left a f)
  rw[<-Nat.mul_sub]at j
  rcases h.dvd_mul j with i | i
  ·exact (m i).elim
  ·obtain⟨k,o⟩:=i
   have:x=y+r*k:=by omega
   rw[this,Nat.add_mul_mod_self_left]
 rcases Nat.le_total y x with f | f
 ·exact g x y f e
 ·exact (g y x f e.symm).symm
theorem Ba {r b:Nat} (m n:Nat):b^m%r=1%r->b^n%r=1%r->b^(Nat.gcd m n)%r=1%r:=by
 refine Nat.gcd.induction (P:=fun m n=>b^m%r=1%r->b^n%r=1%r->b^(Nat.gcd m n)%r=1%r) m n (fun n _ h=>by rwa [Nat.gcd_zero_left]) (fun m n k i f g=>?_)
 rw[Nat.gcd_rec]
 refine i ?_ f
 have j:b^n=(b^m)^(n / m)*b^(n%m):=by rw[<-Nat.pow_mul,<-Nat.pow_add,Nat.div_add_mod]
 rw[j,Nat.mul_mod,Nat.pow_mod,f,<-Nat.pow_mod,Nat.one_pow,<-Nat.mul_mod,Nat.one_mul]at g
 exact g
theorem oJ:∀{l f:List Nat},l.Nodup->(∀x∈l,x∈f)->f.length<=l.length->l.Perm f
 | [],f,_,_,h=>by
  have:f=[]:=List.eq_nil_of_length_eq_zero (by simpa using h)
  rw[this]
 | x :: l,f,hn,hs,h=>by
  have m:=hs x (List.mem_cons_self ..)
  have i:=List.perm_cons_erase m
  have g:=List.nodup_cons.1 hn
  have o:=i.length_eq
  refine List.Perm.trans (List.Perm.cons x (oJ g.2 (fun y j=>?_) ?_)) i.symm
  ·have k:y≠x:=by rintro rfl; exact g.1 j
   exact (List.mem_erase_of_ne k).2 (hs y (List.mem_cons_of_mem _ j))
  ·simp only[List.length_cons]at h o; omega
theorem sH {r a:Nat} (h:Prm r) (o:¬r ∣ a):a^(r - 1)%r=1:=by
 have A:=h.1
 have q:∀x,0<x->x<r->¬r ∣ x:=fun x B f F=>by have:=Nat.le_of_dvd B F; omega
 have t:((List.range' 1 (r - 1)).map (fun x=>a*x%r)).Nodup:=by
  refine List.pairwise_map.2 (List.Pairwise.imp_of_mem (R:=(·≠·)) ?_ (List.nodup_range' (s:=1) (n:=r - 1)))
  intro x y g k z e
  have:=List.mem_range'_1.1 g
  have:=List.mem_range'_1.1 k
  have f:=lg h o e
  rw[Nat.mod_eq_of_lt (by omega),Nat.mod_eq_of_lt (by omega)]at f
  exact z f
 have m:∀y∈(List.range' 1 (r - 1)).map (fun x=>a*x%r),y∈List.range' 1 (r - 1):=by
  intro y k
  obtain⟨x,g,rfl⟩:=List.mem_map.1 k
  have:=List.mem_range'_1.1 g
  have f:=Nat.mod_lt (a*x) (show 0<r by omega)
  refine List.mem_range'_1.2 ⟨?_,by omega⟩
  rcases Nat.eq_zero_or_pos (a*x%r) with i | i
  ·rcases h.dvd_mul (Nat.dvd_of_mod_eq_zero i) with j | j
   ·exact (o j).elim
   ·exact (q x (by omega) (by omega) j).elim
  ·exact i
 have G:((List.range' 1 (r - 1)).map (fun x=>a*x%r)).Perm (List.range' 1 (r - 1)):=oJ t m (by simp)
 have f:=rD r a (List.range' 1 (r - 1))
 rw[wx G,List.length_range']at f
 have hc:=rH h (List.range' 1 (r - 1)) (fun x g=>by have:=List.mem_range'_1.1 g; exact q x (by omega) (by omega))
 have i:(gy (List.range' 1 (r - 1)))*(a^(r - 1))%r=(gy (List.range' 1 (r - 1)))*1%r:=by rw[Nat.mul_one,f,Nat.mul_comm]
 have j:=lg h hc i
 rwa [Nat.mod_eq_of_lt A]at j
def frc {α:Type} (n:Nat) (k:Nat->α):α:=match n with
 | 0=>k 0
 | m+1=>k (m+1)
theorem BV {α:Type} (n:Nat) (k:Nat->α):frc n k=k n:=by cases n <;> rfl
def pwG (m a e:Nat):Nat->Nat->Nat
 | 0,acc=>acc
 | k+1,acc=>frc (bif Nat.beq (e / 2^k%2) 0 then acc*acc%m else acc*acc%m*a%m) (pwG m a e k)
theorem xe (m a e:Nat):∀k acc:Nat,acc=a^(e / 2^k)%m->pwG m a e k acc=a^e%m
 | 0,acc,h=>by rw[h]; simp[pwG]
 | k+1,acc,h=>by
  unfold pwG
  rw[BV]
  refine xe m a e k _ ?_
  have f:e / 2^k=2*(e / 2^(k+1))+e / 2^k%2:=by
   rw[Nat.pow_succ,<-Nat.div_div_eq_div_mul]; omega
  generalize e / 2^k%2=c at f ⊢
  rw[f,h]
  have g:(a^(e / 2^(k+1))%m)*(a^(e / 2^(k+1))%m)%m=a^(2*(e / 2^(k+1)))%m:=by
   rw[<-Nat.mul_mod,<-Nat.pow_add]; congr 2; omega
  rw[g]
  cases hb:Nat.beq c 0 with
  | true=>
   have:=Nat.eq_of_beq_eq_true hb
   subst this; rfl
  | false=>
   have hc:c=1:=by
    have i:c<2:=by
     have:c=e / 2^k - 2*(e / 2^(k+1)):=by omega
     rw[this,Nat.pow_succ,<-Nat.div_div_eq_div_mul]; omega
    have j:c≠0:=by rintro rfl; cases hb
    omega
   subst hc
   show a^(2*(e / 2^(k+1)))%m*a%m=_
   rw[Nat.pow_succ a,Nat.mul_mod,Nat.mod_mod,<-Nat.mul_mod]
def pw (m a e:Nat):Nat:=pwG m a e (Nat.log2 e+1) (1%m)
theorem CY (m a e:Nat):pw m a e=a^e%m:=by
 unfold pw
 refine xe _ _ _ _ _ ?_
 rw[Nat.div_eq_of_lt Nat.lt_log2_self,Nat.pow_zero]
def xO (n:Nat):Bool:=Nat.blt 1 n&&Nat.blt n 16384&&(List.range 128).all fun d=>Nat.blt d 2 || Nat.ble n d || !Nat.beq (n%d) 0
theorem fp {n:Nat} (h:xO n=true):Prm n:=by
 unfold xO at h
 simp only[Bool.and_eq_true,Nat.blt_eq]at h
 obtain⟨⟨o,A⟩,q⟩:=h
 have i:∀d,d ∣ n->2<=d->d<128->n<=d:=fun d j g k=>by
  have:=List.all_eq_true.1 q d (List.mem_range.2 k)
  simp only[Bool.or_eq_true,Nat.blt_eq,Bool.not_eq_true']at this
  rcases this with (f | f) | f
  ·omega
  ·exact Nat.le_of_ble_eq_true f
  ·rw[Nat.mod_eq_zero_of_dvd j]at f; cases f
 refine⟨o,fun d j=>?_⟩
 by_cases e1:d=1
 ·exact .inl e1
 by_cases e2:d=n
 ·exact .inr e2
 exfalso
 obtain⟨e,m⟩:=j
 have t:d≠0:=by rintro rfl; omega
 have x:e≠0:=by rintro rfl; omega
 have y:e≠1:=by rintro rfl; omega
 have z:d<n:=by
  have g:d ∣ n:=⟨e,m⟩
  have:=Nat.le_of_dvd (by omega) g; omega
 by_cases g:d<128
 ·have:=i d ⟨e,m⟩ (by omega) g; omega
 ·have k:e<128:=by
   rcases Nat.lt_or_ge e 128 with h | h
   ·exact h
   ·have:=Nat.mul_le_mul (show 128<=d by omega) h; omega
  have f:=i e ⟨d,by rw[Nat.mul_comm]; exact m⟩ (by omega) k
  have B:=Nat.mul_le_mul (show 2<=d by omega) (Nat.le_refl e)
  omega
def qs (N:Nat):List (Nat×Nat)->Nat->Option Nat
 | [],F=>some F
 | (q,a) :: l,F=>if Nat.beq (Nat.gcd F q) 1&&Nat.beq ((N - 1)%q) 0&&Nat.beq (pw N a (N - 1)) 1&&Nat.beq (Nat.gcd (pw N a ((N - 1) / q)+N - 1) N) 1 then qs N l (F*q) else none
def chk (N:Nat) (l:List (Nat×Nat)):Bool:=Nat.blt 1 N&&match qs N l 1 with
 | none=>false
 | some F=>Nat.blt N (F*F)
theorem CT {N q a r:Nat} (R:1<N) (i:Prm q) (j:Prm r) (f:r ∣ N) (x:q ∣ N - 1) (y:a^(N - 1)%N=1) (z:Nat.gcd (a^((N - 1) / q)%N+N - 1) N=1):q ∣ r - 1:=by
 refine Classical.byContradiction fun A=>?_
 have B:=i.coprime A
 have g:=j.1
 have h:(a^((N - 1) / q))^q%r=1%r:=by
  rw[<-Nat.pow_mul,Nat.div_mul_cancel x]
  have:a^(N - 1)%N%r=a^(N - 1)%r:=Nat.mod_mod_of_dvd _ f
  rw[<-this,y]
 have m:¬r ∣ a^((N - 1) / q):=fun F=>by
  have G:(a^((N - 1) / q))^q%r=0:=by
   rw[Nat.pow_mod,Nat.mod_eq_zero_of_dvd F,Nat.zero_pow (by have:=i.1; omega)]; exact Nat.zero_mod _
  rw[G,Nat.mod_eq_of_lt g]at h
  cases h
 have I:=sH j m
 have o:=Ba (r:=r) (b:=a^((N - 1) / q)) q (r - 1) h (by rw[I,Nat.mod_eq_of_lt g])
 rw[show Nat.gcd q (r - 1)=1 from B,Nat.pow_one]at o
 have J:r ∣ a^((N - 1) / q)%N+N - 1:=by
  have K:(a^((N - 1) / q)%N)%r=1%r:=by rw[Nat.mod_mod_of_dvd _ f]; exact o
  obtain⟨k,M⟩:=f
  have O:(a^((N - 1) / q)%N+N)%r=1%r:=by
   rw[Nat.add_mod,K,Nat.mod_eq_zero_of_dvd ⟨k,M⟩,Nat.add_zero,Nat.mod_mod]
  exact my O (by omega)
 have t:=Nat.dvd_gcd J f
 rw[z]at t
 have:=Nat.le_of_dvd (by decide) t
 omega
theorem xR {N r:Nat} (k:1<N) (m:Prm r) (o:r ∣ N):∀(l:List (Nat×Nat)) (F G:Nat),(∀q∈l,Prm q.1)->F ∣ r - 1->qs N l F=some G->G ∣ r - 1
 | [],F,G,_,hF,h=>by simp[qs]at h; exact h ▸ hF
 | (q,a) :: l,F,G,hl,hF,h=>by
  simp only[qs]at h
  split at h
  ·rename_i hc
   simp only[Bool.and_eq_true]at hc
   obtain⟨⟨⟨i,j⟩,f⟩,g⟩:=hc
   have i:=Nat.eq_of_beq_eq_true i
   have j:=Nat.eq_of_beq_eq_true j
   have f:=Nat.eq_of_beq_eq_true f
   have g:=Nat.eq_of_beq_eq_true g
   rw[CY]at f g
   have t:=CT k (hl (q,a) (List.mem_cons_self ..)) m o (Nat.dvd_of_mod_eq_zero j) f g
   exact xR k m o l (F*q) G (fun x y=>hl x (List.mem_cons_of_mem _ y)) (Nat.Coprime.mul_dvd_of_dvd_of_dvd i hF t) h
  ·cases h
theorem da {N:Nat} (l:List (Nat×Nat)) (x:∀q∈l,Prm q.1) (h:chk N l=true):Prm N:=by
 unfold chk at h
 simp only[Bool.and_eq_true,Nat.blt_eq]at h
 obtain⟨o,h⟩:=h
 cases hF:qs N l 1 with
 | none=>rw[hF]at h; cases h
 | some F=>
  rw[hF]at h
  have z:N<F*F:=by simpa using h
  have f:∀d,d ∣ N->1<d->F<d:=fun d i j=>by
   obtain⟨r,k,g⟩:=mE d d (Nat.le_refl d) j
   have m:=xR o k (Nat.dvd_trans g i) l 1 F x (Nat.one_dvd _) hF
   have y:=Nat.le_of_dvd (by have:=k.1; omega) m
   have I:=Nat.le_of_dvd (by omega) g
   have:=k.1
   omega
  refine⟨o,fun d i=>?_⟩
  by_cases e1:d=1
  ·exact .inl e1
  by_cases e2:d=N
  ·exact .inr e2
  exfalso
  obtain⟨e,t⟩:=i
  have A:d≠0:=by rintro rfl; omega
  have B:e≠0:=by rintro rfl; omega
  have G:e≠1:=by rintro rfl; omega
  have j:=f d ⟨e,t⟩ (by omega)
  have m:=f e ⟨d,by rw[Nat.mul_comm]; exact t⟩ (by omega)
  have y:=Nat.mul_le_mul (Nat.le_of_lt j) (Nat.le_of_lt m)
  omega
end Go.Gk.Pr
end

section
namespace Go.Gk.Pr
theorem Dp:Prm 3:=fp (by decide +kernel)
theorem Dk:Prm 5:=fp (by decide +kernel)
theorem Do:Prm 7:=fp (by decide +kernel)
theorem Db:Prm 11:=fp (by decide +kernel)
theorem C8:Prm 43:=fp (by decide +kernel)
theorem Cu:Prm 139:=fp (by decide +kernel)
theorem CP:Prm 197:=fp (by decide +kernel)
theorem BR:Prm 211:=fp (by decide +kernel)
theorem CJ:Prm 233:=fp (by decide +kernel)
theorem Cg:Prm 311:=fp (by decide +kernel)
theorem Cl:Prm 313:=fp (by decide +kernel)
theorem B8:Prm 337:=fp (by decide +kernel)
theorem BT:Prm 421:=fp (by decide +kernel)
theorem xv:Prm 881:=fp (by decide +kernel)
theorem BS:Prm 937:=fp (by decide +kernel)
theorem Bl:Prm 3023:=fp (by decide +kernel)
theorem By:Prm 3677:=fp (by decide +kernel)
theorem AZ:Prm 4349:=fp (by decide +kernel)
theorem xn:Prm 704251:=da [(313,2),(5,2)] (by
 intro q f
 simp only[List.mem_cons,List.not_mem_nil,or_false]at f
 rcases f with rfl | rfl
 ·exact Cl
 ·exact Dk) (by decide +kernel)
theorem yZ:Prm 78283:=da [(4349,2)] (by
 intro q f
 simp only[List.mem_cons,List.not_mem_nil,or_false]at f
 rw[f]; exact AZ) (by decide +kernel)
theorem lK:Prm 46076956964474543:=da [(704251,2),(78283,2)] (by
 intro q f
 simp only[List.mem_cons,List.not_mem_nil,or_false]at f
 rcases f with rfl | rfl
 ·exact xn
 ·exact yZ) (by decide +kernel)
theorem qZ:Prm 66417393611:=da [(3677,2),(197,2)] (by
 intro q f
 simp only[List.mem_cons,List.not_mem_nil,or_false]at f
 rcases f with rfl | rfl
 ·exact By
 ·exact CP) (by decide +kernel)
theorem oC:Prm 11290956913871:=da [(66417393611,2)] (by
 intro q f
 simp only[List.mem_cons,List.not_mem_nil,or_false]at f
 rw[f]; exact qZ) (by decide +kernel)
theorem fg:Prm 774023187263532362759620327192479577272145303:=da [(46076956964474543,2),(11290956913871,2)] (by
 intro q f
 simp only[List.mem_cons,List.not_mem_nil,or_false]at f
 rcases f with rfl | rfl
 ·exact lK
 ·exact oC) (by decide +kernel)
theorem eR:Prm 835945042244614951780389953367877943453916927241:=da [(774023187263532362759620327192479577272145303,2)] (by
 intro q f
 simp only[List.mem_cons,List.not_mem_nil,or_false]at f
 rw[f]; exact fg) (by decide +kernel)
theorem dp:Prm 115792089210356248762697446949407573530086143415290314195533631308867097853951:=da [(835945042244614951780389953367877943453916927241,2)] (by
 intro q f
 simp only[List.mem_cons,List.not_mem_nil,or_false]at f
 rw[f]; exact eR) (by decide +kernel)
theorem xE:Prm 155317:=da [(43,2),(7,2),(3,3)] (by
 intro q f
 simp only[List.mem_cons,List.not_mem_nil,or_false]at f
 rcases f with rfl | rfl | rfl
 ·exact C8
 ·exact Do
 ·exact Dp) (by decide +kernel)
theorem sf:Prm 191039911:=da [(155317,2)] (by
 intro q f
 simp only[List.mem_cons,List.not_mem_nil,or_false]at f
 rw[f]; exact xE) (by decide +kernel)
theorem lB:Prm 208150935158385979:=da [(191039911,2),(3023,2)] (by
 intro q f
 simp only[List.mem_cons,List.not_mem_nil,or_false]at f
 rcases f with rfl | rfl
 ·exact sf
 ·exact Bl) (by decide +kernel)
theorem iw:Prm 2624747550333869278416773953:=da [(208150935158385979,2)] (by
 intro q f
 simp only[List.mem_cons,List.not_mem_nil,or_false]at f
 rw[f]; exact lB) (by decide +kernel)
theorem xu:Prm 104471:=da [(337,2)] (by
 intro q f
 simp only[List.mem_cons,List.not_mem_nil,or_false]at f
 rw[f]; exact B8) (by decide +kernel)
theorem vY:Prm 3969899:=da [(104471,2)] (by
 intro q f
 simp only[List.mem_cons,List.not_mem_nil,or_false]at f
 rw[f]; exact xu) (by decide +kernel)
theorem oY:Prm 1002328039319:=da [(3969899,2)] (by
 intro q f
 simp only[List.mem_cons,List.not_mem_nil,or_false]at f
 rw[f]; exact vY) (by decide +kernel)
theorem dq:Prm 115792089210356248762697446949407573529996955224135760342422259061068512044369:=da [(2624747550333869278416773953,2),(1002328039319,2)] (by
 intro q f
 simp only[List.mem_cons,List.not_mem_nil,or_false]at f
 rcases f with rfl | rfl
 ·exact iw
 ·exact oY) (by decide +kernel)
theorem xJ:Prm 363557:=da [(937,2)] (by
 intro q f
 simp only[List.mem_cons,List.not_mem_nil,or_false]at f
 rw[f]; exact BS) (by decide +kernel)
theorem tA:Prm 532247449:=da [(363557,2)] (by
 intro q f
 simp only[List.mem_cons,List.not_mem_nil,or_false]at f
 rw[f]; exact xJ) (by decide +kernel)
theorem ox:Prm 44925942675193:=da [(532247449,2)] (by
 intro q f
 simp only[List.mem_cons,List.not_mem_nil,or_false]at f
 rw[f]; exact tA) (by decide +kernel)
theorem jw:Prm 35581458644053887931343:=da [(44925942675193,2)] (by
 intro q f
 simp only[List.mem_cons,List.not_mem_nil,or_false]at f
 rw[f]; exact ox) (by decide +kernel)
theorem gZ:Prm 23964610537191310276190549303:=da [(35581458644053887931343,2)] (by
 intro q f
 simp only[List.mem_cons,List.not_mem_nil,or_false]at f
 rw[f]; exact jw) (by decide +kernel)
theorem gI:Prm 862725979338887169942859774909:=da [(23964610537191310276190549303,2)] (by
 intro q f
 simp only[List.mem_cons,List.not_mem_nil,or_false]at f
 rw[f]; exact gZ) (by decide +kernel)
theorem gv:Prm 20705423504133292078628634597817:=da [(862725979338887169942859774909,2)] (by
 intro q f
 simp only[List.mem_cons,List.not_mem_nil,or_false]at f
 rw[f]; exact gI) (by decide +kernel)
theorem fC:Prm 413244619895455989650825325680172591660047:=da [(20705423504133292078628634597817,2)] (by
 intro q f
 simp only[List.mem_cons,List.not_mem_nil,or_false]at f
 rw[f]; exact gv) (by decide +kernel)
theorem fq:Prm 12397338596863679689524759770405177749801411:=da [(413244619895455989650825325680172591660047,2)] (by
 intro q f
 simp only[List.mem_cons,List.not_mem_nil,or_false]at f
 rw[f]; exact fC) (by decide +kernel)
theorem Ac:Prm 21407:=da [(139,2),(11,2)] (by
 intro q f
 simp only[List.mem_cons,List.not_mem_nil,or_false]at f
 rcases f with rfl | rfl
 ·exact Cu
 ·exact Db) (by decide +kernel)
theorem te:Prm 246608641:=da [(21407,2)] (by
 intro q f
 simp only[List.mem_cons,List.not_mem_nil,or_false]at f
 rw[f]; exact Ac) (by decide +kernel)
theorem tP:Prm 105957871:=da [(881,2),(211,2)] (by
 intro q f
 simp only[List.mem_cons,List.not_mem_nil,or_false]at f
 rcases f with rfl | rfl
 ·exact xv
 ·exact BR) (by decide +kernel)
theorem j3:Prm 529709925838459440593:=da [(246608641,2),(105957871,2)] (by
 intro q f
 simp only[List.mem_cons,List.not_mem_nil,or_false]at f
 rcases f with rfl | rfl
 ·exact te
 ·exact tP) (by decide +kernel)
theorem cI:Prm 19173790298027098165721053155794528970226934547887232785722672956982046098136719667167519737147526097:=da [(12397338596863679689524759770405177749801411,2),(529709925838459440593,2)] (by
 intro q f
 simp only[List.mem_cons,List.not_mem_nil,or_false]at f
 rcases f with rfl | rfl
 ·exact fq
 ·exact j3) (by decide +kernel)
theorem cu:Prm 39402006196394479212279040100143613805079739270465446667948293404245721771496870329047266088258938001861606973112319:=da [(19173790298027098165721053155794528970226934547887232785722672956982046098136719667167519737147526097,2)] (by
 intro q f
 simp only[List.mem_cons,List.not_mem_nil,or_false]at f
 rw[f]; exact cI) (by decide +kernel)
theorem sm:Prm 272109983:=da [(421,2),(233,2)] (by
 intro q f
 simp only[List.mem_cons,List.not_mem_nil,or_false]at f
 rcases f with rfl | rfl
 ·exact BT
 ·exact CJ) (by decide +kernel)
theorem qe:Prm 228572385721:=da [(272109983,2)] (by
 intro q f
 simp only[List.mem_cons,List.not_mem_nil,or_false]at f
 rw[f]; exact sm) (by decide +kernel)
theorem ow:Prm 23314383343543:=da [(228572385721,2)] (by
 intro q f
 simp only[List.mem_cons,List.not_mem_nil,or_false]at f
 rw[f]; exact qe) (by decide +kernel)
theorem j4:Prm 426632512014427833817:=da [(23314383343543,2)] (by
 intro q f
 simp only[List.mem_cons,List.not_mem_nil,or_false]at f
 rw[f]; exact ow) (by decide +kernel)
theorem iy:Prm 1495199339761412565498084319:=da [(426632512014427833817,2)] (by
 intro q f
 simp only[List.mem_cons,List.not_mem_nil,or_false]at f
 rw[f]; exact j4) (by decide +kernel)
theorem gX:Prm 17942392077136950785977011829:=da [(1495199339761412565498084319,2)] (by
 intro q f
 simp only[List.mem_cons,List.not_mem_nil,or_false]at f
 rw[f]; exact iy) (by decide +kernel)
theorem wn:Prm 9863677:=da [(881,2),(311,2)] (by
 intro q f
 simp only[List.mem_cons,List.not_mem_nil,or_false]at f
 rcases f with rfl | rfl
 ·exact xv
 ·exact Cg) (by decide +kernel)
theorem oB:Prm 37344768852931:=da [(9863677,2)] (by
 intro q f
 simp only[List.mem_cons,List.not_mem_nil,or_false]at f
 rw[f]; exact wn) (by decide +kernel)
theorem lW:Prm 55942463741690639:=da [(37344768852931,2)] (by
 intro q f
 simp only[List.mem_cons,List.not_mem_nil,or_false]at f
 rw[f]; exact oB) (by decide +kernel)
theorem ed:Prm 1059392654943455286185473617842338478315215895509773412096307:=da [(17942392077136950785977011829,2),(55942463741690639,2)] (by
 intro q f
 simp only[List.mem_cons,List.not_mem_nil,or_false]at f
 rcases f with rfl | rfl
 ·exact gX
 ·exact lW) (by decide +kernel)
theorem db:Prm 3055465788140352002733946906144561090641249606160407884365391979704929268480326390471:=da [(1059392654943455286185473617842338478315215895509773412096307,2)] (by
 intro q f
 simp only[List.mem_cons,List.not_mem_nil,or_false]at f
 rw[f]; exact ed) (by decide +kernel)
theorem cv:Prm 39402006196394479212279040100143613805079739270465446667946905279627659399113263569398956308152294913554433653942643:=da [(3055465788140352002733946906144561090641249606160407884365391979704929268480326390471,2)] (by
 intro q f
 simp only[List.mem_cons,List.not_mem_nil,or_false]at f
 rw[f]; exact db) (by decide +kernel)
end Go.Gk.Pr
end

section
namespace Go.Gk.Ec
open Go.Gk.Pr
variable {p:Nat} [NeZero p]
theorem mh:0<p:=Nat.pos_of_ne_zero (NeZero.ne p)
def fz (z:Int):Fin p:=⟨(z%p).toNat,by
 have h1:=Int.emod_lt_of_pos z (show (0:Int)<p by have:=mh (p:=p); omega)
 have h2:=Int.emod_nonneg z (show (p:Int)≠0 by have:=mh (p:=p); omega)
 omega⟩
theorem gK (z:Int):((fz (p:=p) z).val:Int)=z%p:=by
 have f:=Int.emod_nonneg z (show (p:Int)≠0 by have:=mh (p:=p); omega)
 show (((z%p).toNat:Nat):Int)=_
 omega
theorem sT {a:Fin p} {z:Int} (h:(a.val:Int)%p=z%p):a=fz z:=by
 apply Fin.ext
 have:=gK (p:=p) z
 have f:=Int.emod_eq_of_lt (a:=(a.val:Int)) (b:=p) (by omega) (by have:=a.isLt; omega)
 omega
theorem gz (a:Fin p):fz (a.val:Int)=a:=(sT rfl).symm
theorem pF (n:Nat) (h:n<p):((fz (p:=p) (n:Int)).val)=n:=by
 have f:=gK (p:=p) (n:Int)
 rw[Int.emod_eq_of_lt (by omega) (by omega)]at f
 omega
theorem i5 (z:Int):fz (p:=p) (z%p)=fz z:=by
 apply Fin.ext
 show ((z%p%p).toNat)=(z%p).toNat
 rw[Int.emod_emod]
theorem qm (x y:Int):fz (p:=p) (x+y)=fz x+fz y:=by
 refine (sT ?_).symm
 rw[Fin.val_add,Int.natCast_emod,Int.natCast_add,gK,gK,Int.emod_emod,<-Int.add_emod]
theorem nu (x y:Int):fz (p:=p) (x*y)=fz x*fz y:=by
 refine (sT ?_).symm
 rw[Fin.val_mul,Int.natCast_emod,Int.natCast_mul,gK,gK,Int.emod_emod,<-Int.mul_emod]
theorem BG:fz (p:=p) 0=0:=by
 apply Fin.ext
 show ((0:Int)%p).toNat=_
 rw[Int.zero_emod]; rfl
theorem yq (x y:Int):fz (p:=p) (x - y)=fz x - fz y:=by
 have h:=qm (p:=p) (x - y) y
 rw[show x - y+y=x by omega]at h
 rw[h]; grobner
theorem pd (n:Nat):fz (p:=p) (n:Int)=Fin.ofNat p n:=by
 apply Fin.ext
 show ((n:Int)%p).toNat=n%p
 rw[<-Int.natCast_emod]; rfl
theorem wL {z:Int}:fz (p:=p) z=0↔z%p=0:=by
 constructor
 ·intro h
  have:=gK (p:=p) z
  rw[h]at this
  simpa using this.symm
 ·intro h
  have:=i5 (p:=p) z
  rw[<-this,h,BG]
theorem BQ (m:Prm p) (o:2<p):Fld p:=by
 have j:∀u:Fin p,u≠0->¬p ∣ u.val:=fun u g q=>by
  apply g
  apply Fin.ext
  have i:=u.isLt
  have:(0:Fin p).val=0:=by simp
  rw[this]
  rcases Nat.eq_zero_or_pos u.val with h | h
  ·exact h
  ·have:=Nat.le_of_dvd h q; omega
 refine⟨fun u v h=>?_,fun u g=>?_,fun h=>?_⟩
 ·by_cases g:u=0
  ·exact .inl g
  ·right
   have k:p ∣ u.val*v.val:=by
    have:=congrArg Fin.val h
    rw[Fin.val_mul]at this
    have i:(0:Fin p).val=0:=by simp
    rw[i]at this
    exact Nat.dvd_of_mod_eq_zero this
   rcases m.dvd_mul k with f | f
   ·exact (j u g f).elim
   ·refine Classical.byContradiction fun t=>j v t f
 ·refine⟨⟨u.val^(p - 2)%p,Nat.mod_lt _ (by omega)⟩,?_⟩
  apply Fin.ext
  rw[Fin.val_mul]
  have k:(1:Fin p).val=1%p:=rfl
  have x:1%p=1:=Nat.mod_eq_of_lt (by omega)
  rw[k,x]
  have f:=sH m (j u g)
  show u.val*(u.val^(p - 2)%p)%p=1
  rw[Nat.mul_mod,Nat.mod_mod,<-Nat.mul_mod,Nat.mul_comm,<-Nat.pow_succ,show (p - 2).succ=p - 1 by omega]
  exact f
 ·have f:=congrArg Fin.val h
  have y:(2:Fin p).val=2%p:=rfl
  have i:(0:Fin p).val=0:=by simp
  rw[y,i,Nat.mod_eq_of_lt o]at f
  cases f
open Classical in
noncomputable def jac (X Y Z:Fin p):Pt p:=if Z=0 then none else some (X*(rcp Z*rcp Z),Y*(rcp Z*(rcp Z*rcp Z)))
theorem ee (X Y:Fin p):jac X Y 0=none:=if_pos rfl
theorem Fld.jac_of (F:Fld p) {X Y Z x y:Fin p} (f:Z≠0) (g:X=x*(Z*Z)) (h:Y=y*(Z*(Z*Z))):jac X Y Z=some (x,y):=by
 have e:=F.mul_iv f
 unfold jac
 rw[if_neg f]
 generalize rcp Z=i at e ⊢
 have j:X*(i*i)=x:=by subst g; clear h; grobner
 have k:Y*(i*(i*i))=y:=by subst h; clear g j; grobner
 rw[j,k]
theorem Fld.of_jac (F:Fld p) (X Y:Fin p) {Z:Fin p} (f:Z≠0):∃x y,X=x*(Z*Z)/\Y=y*(Z*(Z*Z))/\jac X Y Z=some (x,y):=by
 have e:=F.mul_iv f
 refine⟨X*(rcp Z*rcp Z),Y*(rcp Z*(rcp Z*rcp Z)),?_,?_,if_neg f⟩
 ·generalize rcp Z=i at e ⊢; grobner
 ·generalize rcp Z=i at e ⊢; grobner
theorem Fld.mul_ne (F:Fld p) {u v:Fin p} (f:u≠0) (g:v≠0):u*v≠0:=fun h=>(F.nz u v h).elim f g
theorem Fld.jac_dbl (F:Fld p) {X Y Z J j s m K M:Fin p} (f:Z≠0) (k:J=Z*Z) (o:j=Y*Y) (q:s=4*(X*j)) (g:m=3*((X - J)*(X+J))) (t:K=m*m - 2*s) (z:M=m*(s - K) - 8*(j*j)) :
  jac K M (2*(Y*Z))=add (-3) (jac X Y Z) (jac X Y Z):=by
 obtain⟨x,y,A,h,U⟩:=F.of_jac X Y f
 rw[U,gc,if_pos rfl]
 by_cases y0:y+y=0
 ·have:y=0:=F.dbl y0
  rw[if_pos y0,h,this,show (2:Fin p)*(0*(Z*(Z*Z))*Z)=0 by grobner,ee]
 ·rw[if_neg y0]
  have I:y≠0:=by rintro rfl; exact y0 (by grobner)
  have N:2*y≠0:=F.mul_ne F.two I
  have e:=F.mul_iv N
  obtain⟨l,B⟩:∃l,(3*(x*x)+-3)*rcp (2*y)=l:=⟨_,rfl⟩
  have G:l*(2*y)=3*(x*x) - 3:=by rw[<-B]; generalize rcp (2*y)=i at e; clear B k o q g t z A h; grobner
  rw[B]
  clear B e
  unfold kM
  have O:m=l*(2*y)*(Z*Z*(Z*Z)):=by rw[G]; subst k A; clear G o q t z; rw[g]; clear g; grobner
  have R:2*(Y*Z)≠0:=by rw[h]; exact F.mul_ne F.two (F.mul_ne (F.mul_ne I (F.mul_ne f (F.mul_ne f f))) f)
  refine F.jac_of R ?_ ?_
  ·clear G g k; subst t O q o A h; clear z; grobner
  ·clear G g k; subst z t O q o A h; grobner
theorem Fld.jac_add (F:Fld p) {X1 Y1 f X2 Y2 g X u2 Y s2 h r hh R v x' y':Fin p} (z1:f≠0) (z2:g≠0) (I:X=X1*(g*g)) (J:u2=X2*(f*f)) (K:Y=Y1*(g*(g*g))) (M:s2=Y2*(f*(f*f)))
  (N:h=u2 - X) (O:r=s2 - Y) (A:hh=h*h) (e8:R=h*hh) (B:v=X*hh) (j:x'=r*r - R - 2*v) (k:y'=r*(v - x') - Y*R) (z:h≠0) (a:Fin p) :
  jac x' y' (h*(f*g))=add a (jac X1 Y1 f) (jac X2 Y2 g):=by
 obtain⟨x1,y1,o,q,ac⟩:=F.of_jac X1 Y1 z1
 obtain⟨x2,y2,t,x,ad⟩:=F.of_jac X2 Y2 z2
 have hW:=F.mul_ne z1 z2
 have m:h=(x2 - x1)*(f*g*(f*g)):=by subst N I J o t; clear K M O A e8 B j k z q x; grobner
 have y:r=(y2 - y1)*(f*g*(f*g*(f*g))):=by subst O K M q x; clear I J N A e8 B j k z o t m; grobner
 have G:X=x1*(f*g*(f*g)):=by subst I o; clear J K M N O A e8 B j k z m y q x t; grobner
 have U:Y=y1*(f*g*(f*g*(f*g))):=by subst K q; clear J I M N O A e8 B j k z m y o x t G; grobner
 have Z:x1≠x2:=by
  rintro rfl
  apply z; rw[m]; grobner
 have hd:x2 - x1≠0:=fun h0=>Z (eY h0).symm
 rw[ac,ad,gc,if_neg Z]
 have e:=F.mul_iv hd
 obtain⟨l,hl⟩:∃l,(y2 - y1)*rcp (x2 - x1)=l:=⟨_,rfl⟩
 have hs:l*(x2 - x1)=y2 - y1:=by
  rw[<-hl]; generalize rcp (x2 - x1)=i at e
  generalize x2 - x1=d at *; clear hl I J K M N O A e8 B j k o t q x m y G U z; grobner
 rw[hl]
 clear hl e
 unfold kM
 have V:h*(f*g)≠0:=F.mul_ne z hW
 rw[<-hs]at y
 clear I J K M N O o q t x ac ad hs
 refine F.jac_of V ?_ ?_
 ·clear z V hW hd Z k U; subst j B e8 A m y G; generalize f*g=W; grobner
 ·clear z V hW hd Z; subst k j B e8 A m y G U; generalize f*g=W; grobner
end Go.Gk.Ec
end

section
namespace Go.Gk.Ec
open Go.Gk.Pr
variable {p:Nat} [NeZero p] {a b:Fin p}
noncomputable def mul (a:Fin p):Nat->Pt p->Pt p
 | 0,_=>none
 | k+1,P=>add a (mul a k P) P
end Go.Gk.Ec
end

section
namespace Go.Gk.Ec
open Go.Gk.Pr
section
variable {p:Nat} [NeZero p]
end
end Go.Gk.Ec
end
