set_option linter.unusedVariables false
set_option linter.unusedSimpArgs false
set_option linter.unusedSectionVars false
section
namespace Go.Gk.Ec
section ring
variable {p:Nat} [NeZero p]
theorem eK {a b:Fin p} (h:a - b=0):a=b:=by grobner
theorem AH (a:Fin p):a*0=0:=by grobner
theorem xA (a:Fin p):a+-a=0:=by grobner
structure Ln (a b x1 y1 x2 y2 s x3 y3:Fin p):Prop where
 hy:y2=y1+s*(x2 - x1)
 ha:a=s*(y1+y2) - x1*x1 - x1*x2 - x2*x2
 hb:b=y1*y1 - x1*x1*x1 - a*x1
 hx:x3=s*s - x1 - x2
 hz:y3=s*(x1 - x3) - y1
variable {a b x1 y1 x2 y2 s x3 y3:Fin p}
theorem Ln.on1 (h:Ln a b x1 y1 x2 y2 s x3 y3):y1*y1=x1*x1*x1+a*x1+b:=by
 have hb:=h.hb
 clear h; subst hb; grobner
theorem Ln.on2 (h:Ln a b x1 y1 x2 y2 s x3 y3):y2*y2=x2*x2*x2+a*x2+b:=by
 obtain⟨hy,ha,hb,hx,f⟩:=h
 subst hy ha hb hx f; grobner
theorem Ln.on3 (h:Ln a b x1 y1 x2 y2 s x3 y3):y3*y3=x3*x3*x3+a*x3+b:=by
 obtain⟨hy,ha,hb,hx,f⟩:=h
 subst hy ha hb hx f; grobner
theorem Ln.symm (h:Ln a b x1 y1 x2 y2 s x3 y3):Ln a b x2 y2 x1 y1 s x3 y3:=by
 obtain⟨hy,ha,hb,hx,f⟩:=h
 refine⟨?_,?_,?_,?_,?_⟩ <;> (subst hy ha hb hx f; grobner)
theorem Ln.xS {f j g xS k:Fin p} (h:Ln a b x1 y1 x2 y2 s x3 y3) (i:Ln a b x3 y3 f j g xS k) :
  xS=(s+g)*(s+g) - 2*(x3+s*g) - x1 - x2 - f:=by
 have o:=h.hx
 have t:=i.hx
 clear h i
 subst o t; grobner
end ring
structure Fld (p:Nat) [NeZero p]:Prop where
 nz:∀u v:Fin p,u*v=0->u=0\/v=0
 iv:∀u:Fin p,u≠0->∃v:Fin p,u*v=1
 two:(2:Fin p)≠0
variable {p:Nat} [NeZero p]
open Classical in
noncomputable def rcp (u:Fin p):Fin p:=if h:∃v:Fin p,u*v=1 then Classical.choose h else 0
theorem Fld.mul_iv (F:Fld p) {u:Fin p} (h:u≠0):u*rcp u=1:=by
 unfold rcp
 rw[dif_pos (F.iv u h)]
 exact Classical.choose_spec (F.iv u h)
theorem Fld.cancel (F:Fld p) {u v w:Fin p} (h:u≠0) (e:u*v=u*w):v=w:=by
 rcases F.nz u (v - w) (by grobner) with f | f
 ·exact (h f).elim
 ·exact eK f
theorem Fld.iv_uniq (F:Fld p) {u v:Fin p} (e:u*v=1):v=rcp u:=by
 have h:u≠0:=by
  intro f
  have:(2:Fin p)=0:=by subst f; grobner
  exact F.two this
 exact F.cancel h (e.trans (F.mul_iv h).symm)
theorem Fld.dbl (F:Fld p) {u:Fin p} (h:u+u=0):u=0:=by
 rcases F.nz 2 u (by grobner) with f | f
 ·exact (F.two f).elim
 ·exact f
abbrev Pt (p:Nat):=Option (Fin p×Fin p)
def On (a b:Fin p):Pt p->Prop
 | none=>True
 | some (x,y)=>y*y=x*x*x+a*x+b
def mZ (x1 y1 x2 s:Fin p):Pt p:=some (s*s - x1 - x2,s*(x1 - (s*s - x1 - x2)) - y1)
noncomputable def add (a:Fin p):Pt p->Pt p->Pt p
 | none,Q=>Q
 | some P,none=>some P
 | some (x1,y1),some (x2,y2)=>
  if x1=x2 then (if y1+y2=0 then none else mZ x1 y1 x2 ((3*(x1*x1)+a)*rcp (2*y1)))
  else mZ x1 y1 x2 ((y2 - y1)*rcp (x2 - x1))
theorem kD (a x1 y1 x2 y2:Fin p):add a (some (x1,y1)) (some (x2,y2)) =
  if x1=x2 then (if y1+y2=0 then none else mZ x1 y1 x2 ((3*(x1*x1)+a)*rcp (2*y1)))
  else mZ x1 y1 x2 ((y2 - y1)*rcp (x2 - x1)):=rfl
structure Cv (p:Nat) [NeZero p] (a b:Fin p):Prop extends Fld p where
 odd:∀x:Fin p,x*x*x+a*x+b≠0
variable {a b:Fin p}
theorem dC (P:Pt p):add a P none=P:=by cases P <;> rfl
theorem Cv.y_ne (C:Cv p a b) {x y:Fin p} (h:On a b (some (x,y))):y≠0:=by
 intro f
 apply C.odd x
 unfold On at h
 dsimp only at h
 rw[<-h,f,AH]
theorem Fld.ln (C:Fld p) {x1 y1 x2 y2:Fin p} (i:On a b (some (x1,y1))) (f:On a b (some (x2,y2))) (h:¬(x1=x2/\y1+y2=0)) :
  ∃s x3 y3,Ln a b x1 y1 x2 y2 s x3 y3/\add a (some (x1,y1)) (some (x2,y2))=some (x3,y3):=by
 unfold On at i f
 dsimp only at i f
 rw[kD]
 unfold mZ
 by_cases hx:x1=x2
 ·rw[if_pos hx,if_neg (fun q=>h ⟨hx,q⟩)]
  refine⟨((3*(x1*x1)+a)*rcp (2*y1)),_,_,?_,rfl⟩
  have j:(y1 - y2)*(y1+y2)=0:=by subst hx; grobner
  have hy:y2=y1:=by
   rcases C.nz _ _ j with q | q
   ·exact (eK q).symm
   ·exact (h ⟨hx,q⟩).elim
  subst hx hy
  have k:y2≠0:=by intro g; apply h; refine⟨rfl,?_⟩; rw[g]; grobner
  have f:2*y2≠0:=by
   intro g; rcases C.nz _ _ g with q | q
   ·exact C.two q
   ·exact k q
  have e:=C.mul_iv f
  generalize rcp (2*y2)=z at e ⊢
  refine⟨by grobner,?_,?_,rfl,rfl⟩
  ·have:(3*(x1*x1)+a)*z*(y2+y2)=3*(x1*x1)+a:=by
    have:y2+y2=2*y2:=by grobner
    rw[this]; clear this
    generalize 2*y2=w at *
    grobner
   rw[this]; clear this
   grobner
  ·clear e; grobner
 ·rw[if_neg hx]
  refine⟨(y2 - y1)*rcp (x2 - x1),_,_,?_,rfl⟩
  have o:x2 - x1≠0:=fun g=>hx (eK g).symm
  have e:=C.mul_iv o
  generalize rcp (x2 - x1)=z at e ⊢
  have hs:(y2 - y1)*z*(x2 - x1)=y2 - y1:=by generalize x2 - x1=w at *; clear i f; grobner
  generalize (y2 - y1)*z=s at hs ⊢
  clear e
  refine⟨?_,?_,?_,rfl,rfl⟩
  ·rw[hs]; grobner
  ·have:(x2 - x1)*a=(x2 - x1)*(s*(y1+y2) - x1*x1 - x1*x2 - x2*x2):=by
    have:(x2 - x1)*(s*(y1+y2) - x1*x1 - x1*x2 - x2*x2)=s*(x2 - x1)*(y1+y2) - (x2 - x1)*(x1*x1+x1*x2+x2*x2):=by clear i f hs; grobner
    rw[this,hs]; clear this hs
    grobner
   exact C.cancel o this
  ·clear hs; grobner
end Go.Gk.Ec
end

section
namespace Go.Gk.Ec
variable {p:Nat} [NeZero p] {a b:Fin p}
theorem Fld.on_add (C:Fld p) {P Q:Pt p} (f:On a b P) (g:On a b Q):On a b (add a P Q):=by
 rcases P with _ | ⟨x1,y1⟩
 ·exact g
 rcases Q with _ | ⟨x2,y2⟩
 ·exact f
 by_cases h:x1=x2/\y1+y2=0
 ·rw[kD,if_pos h.1,if_pos h.2]; trivial
 ·obtain⟨s,x3,y3,hl,e⟩:=C.ln f g h
  rw[e]; exact hl.on3
theorem Cv.off (C:Cv p a b) {x1 y1 x2 y2 s j o x3 y3 g xS B:Fin p} (h:Ln a b x1 y1 x2 y2 s j o) (f:Ln a b j o x3 y3 g xS B)
  (n1:x3≠x1) (t:x3≠x2):y3 - y1 - s*(x3 - x1)≠0:=by
 intro e
 have F:y3=y1+s*(x3 - x1):=by clear h f; grobner
 have z:=f.on2
 have hx:(x3 - x1)*((x3 - x2)*(x3 - j))=0:=by
  have ha:=h.ha
  have hb:=h.hb
  have hy:=h.hy
  have G:=h.hx
  clear h f n1 t e
  subst hy ha hb G F
  grobner
 rcases C.nz _ _ hx with q | q
 ·exact n1 (eK q)
 rcases C.nz _ _ q with q | q
 ·exact t (eK q)
 have A:=eK q
 have I:=h.hz
 have J:=f.hy
 have i:=f.on1
 have k:o≠0:=C.y_ne (x:=j) (by unfold On; exact i)
 apply k
 apply C.dbl
 clear h f z hx i k
 subst A
 grobner
theorem Cv.last (C:Cv p a b) {xS g f h m k c x1 x2 x3:Fin p} (j:k≠0) (eS:xS=k*k - 2*m - x1 - x2 - x3) (i:f=k*k - 2*m - x1 - x2 - x3)
  (o:xS*xS+m*xS+k*g+c=0) (t:f*f+m*f+k*h+c=0):xS=f/\g=h:=by
 have e:xS=f:=by rw[eS,i]
 clear eS i
 subst e
 refine⟨rfl,C.cancel j ?_⟩
 grobner
end Go.Gk.Ec
end

section
namespace Go.Gk.Ec
variable {p:Nat} [NeZero p] {a b:Fin p}
theorem Fld.same_x (C:Fld p) {x y z:Fin p} (f:On a b (some (x,y))) (g:On a b (some (x,z))):z=y\/z=-y:=by
 unfold On at f g
 dsimp only at f g
 have:(z - y)*(z+y)=0:=by grobner
 rcases C.nz _ _ this with q | q
 ·exact .inl (eK q)
 ·exact .inr (by grobner)
theorem sub3 {u x y z:Fin p}:u - x - y - z=u - z - x - y:=by grobner
end Go.Gk.Ec
end

section
namespace Go.Gk.Pr
def Prm (p:Nat):Prop:=1<p/\∀d,d ∣ p->d=1\/d=p
theorem Prm.coprime {p a:Nat} (h:Prm p) (ha:¬p ∣ a):Nat.Coprime p a:=by
 rcases h.2 _ (Nat.gcd_dvd_left p a) with e | e
 ·exact e
 ·exact (ha (e ▸ Nat.gcd_dvd_right p a)).elim
theorem Prm.dvd_mul {p a b:Nat} (h:Prm p) (f:p ∣ a*b):p ∣ a\/p ∣ b:=by
 by_cases ha:p ∣ a
 ·exact .inl ha
 ·exact .inr ((h.coprime ha).dvd_of_dvd_mul_left f)
theorem nm:∀n d:Nat,d<=n->1<d->∃r,Prm r/\r ∣ d
 | 0,d,h,h1=>by omega
 | n+1,d,h,h1=>by
  by_cases hp:Prm d
  ·exact⟨d,hp,Nat.dvd_refl d⟩
  ·have:∃e,e ∣ d/\e≠1/\e≠d:=by
    refine Classical.byContradiction fun hn=>hp ⟨h1,fun e he=>?_⟩
    by_cases f:e=1
    ·exact .inl f
    by_cases g:e=d
    ·exact .inr g
    exact (hn ⟨e,he,f,g⟩).elim
   obtain⟨e,he,f,g⟩:=this
   have k:=Nat.le_of_dvd (by omega) he
   have o:e≠0:=by rintro rfl; exact (by omega:d≠0) (Nat.zero_dvd.1 he)
   obtain⟨r,i,j⟩:=nm n e (by omega) (by omega)
   exact⟨r,i,Nat.dvd_trans j he⟩
def gM:List Nat->Nat
 | []=>1
 | x :: l=>x*gM l
theorem yB {l l':List Nat} (h:l.Perm l'):gM l=gM l':=by
 induction h with
 | nil=>rfl
 | cons x _ ih=>simp only[gM]; rw[ih]
 | swap x y l=>simp only[gM]; rw[<-Nat.mul_assoc,<-Nat.mul_assoc,Nat.mul_comm y x]
 | trans _ _ ih1 ih2=>rw[ih1,ih2]
theorem sY (r a:Nat):∀l:List Nat,gM (l.map (fun x=>a*x%r))%r=a^l.length*gM l%r
 | []=>by simp[gM]
 | x :: l=>by
  have f:=sY r a l
  simp only[List.map_cons,gM,List.length_cons,Nat.pow_succ]
  rw[Nat.mul_mod,f,Nat.mod_mod,<-Nat.mul_mod]
  congr 1
  rw[Nat.mul_assoc a x,Nat.mul_comm a,Nat.mul_comm (a^l.length) a]
  simp only[Nat.mul_assoc,Nat.mul_comm,Nat.mul_left_comm]
theorem td {r:Nat} (h:Prm r):∀l:List Nat,(∀x∈l,¬r ∣ x)->¬r ∣ gM l
 | [],_=>by simp[gM]; have:=h.1; omega
 | x :: l,hl=>fun g=>by
  rcases h.dvd_mul g with f | f
  ·exact hl x (List.mem_cons_self ..) f
  ·exact td h l (fun y hy=>hl y (List.mem_cons_of_mem _ hy)) f
theorem nf {r a b:Nat} (h:a%r=b%r) (f:b<=a):r ∣ a - b:=Nat.dvd_of_mod_eq_zero (Nat.sub_mod_eq_zero_of_mod_eq h)
theorem ma {r a x y:Nat} (h:Prm r) (ha:¬r ∣ a) (e:a*x%r=a*y%r):x%r=y%r:=by
 have g:∀x y:Nat,y<=x->a*x%r=a*y%r->x%r=y%r:=fun x y f e=>by
  have j:=nf e (Nat.mul_le_mul_left a f)
  rw[<-Nat.mul_sub]at j
  rcases h.dvd_mul j with i | i
  ·exact (ha i).elim
  ·obtain⟨k,o⟩:=i
   have:x=y+r*k:=by omega
   rw[this,Nat.add_mul_mod_self_left]
 rcases Nat.le_total y x with f | f
 ·exact g x y f e
 ·exact (g y x f e.symm).symm
theorem DQ {r b:Nat} (m n:Nat):b^m%r=1%r->b^n%r=1%r->b^(Nat.gcd m n)%r=1%r:=by
 refine Nat.gcd.induction (P:=fun m n=>b^m%r=1%r->b^n%r=1%r->b^(Nat.gcd m n)%r=1%r) m n (fun n _ h=>by rwa [Nat.gcd_zero_left]) (fun m n hm i f g=>?_)
 rw[Nat.gcd_rec]
 refine i ?_ f
 have j:b^n=(b^m)^(n / m)*b^(n%m):=by rw[<-Nat.pow_mul,<-Nat.pow_add,Nat.div_add_mod]
 rw[j,Nat.mul_mod,Nat.pow_mod,f,<-Nat.pow_mod,Nat.one_pow,<-Nat.mul_mod,Nat.one_mul]at g
 exact g
theorem pz:∀{l l':List Nat},l.Nodup->(∀x∈l,x∈l')->l'.length<=l.length->l.Perm l'
 | [],l',_,_,h=>by
  have:l'=[]:=List.eq_nil_of_length_eq_zero (by simpa using h)
  rw[this]
 | x :: l,l',hn,hs,h=>by
  have hx:=hs x (List.mem_cons_self ..)
  have g:=List.perm_cons_erase hx
  have f:=List.nodup_cons.1 hn
  have hl:=g.length_eq
  refine List.Perm.trans (List.Perm.cons x (pz f.2 (fun y hy=>?_) ?_)) g.symm
  ·have i:y≠x:=by rintro rfl; exact f.1 hy
   exact (List.mem_erase_of_ne i).2 (hs y (List.mem_cons_of_mem _ hy))
  ·simp only[List.length_cons]at h hl; omega
theorem zQ {r a:Nat} (h:Prm r) (ha:¬r ∣ a):a^(r - 1)%r=1:=by
 have z:=h.1
 have k:∀x,0<x->x<r->¬r ∣ x:=fun x A f B=>by have:=Nat.le_of_dvd A B; omega
 have o:((List.range' 1 (r - 1)).map (fun x=>a*x%r)).Nodup:=by
  refine List.pairwise_map.2 (List.Pairwise.imp_of_mem (R:=(·≠·)) ?_ (List.nodup_range' (s:=1) (n:=r - 1)))
  intro x y hx hy t e
  have:=List.mem_range'_1.1 hx
  have:=List.mem_range'_1.1 hy
  have f:=ma h ha e
  rw[Nat.mod_eq_of_lt (by omega),Nat.mod_eq_of_lt (by omega)]at f
  exact t f
 have j:∀y∈(List.range' 1 (r - 1)).map (fun x=>a*x%r),y∈List.range' 1 (r - 1):=by
  intro y hy
  obtain⟨x,hx,rfl⟩:=List.mem_map.1 hy
  have:=List.mem_range'_1.1 hx
  have f:=Nat.mod_lt (a*x) (show 0<r by omega)
  refine List.mem_range'_1.2 ⟨?_,by omega⟩
  rcases Nat.eq_zero_or_pos (a*x%r) with g | g
  ·rcases h.dvd_mul (Nat.dvd_of_mod_eq_zero g) with i | i
   ·exact (ha i).elim
   ·exact (k x (by omega) (by omega) i).elim
  ·exact g
 have F:((List.range' 1 (r - 1)).map (fun x=>a*x%r)).Perm (List.range' 1 (r - 1)):=pz o j (by simp)
 have f:=sY r a (List.range' 1 (r - 1))
 rw[yB F,List.length_range']at f
 have hc:=td h (List.range' 1 (r - 1)) (fun x hx=>by have:=List.mem_range'_1.1 hx; exact k x (by omega) (by omega))
 have g:(gM (List.range' 1 (r - 1)))*(a^(r - 1))%r=(gM (List.range' 1 (r - 1)))*1%r:=by rw[Nat.mul_one,f,Nat.mul_comm]
 have i:=ma h hc g
 rwa [Nat.mod_eq_of_lt z]at i
def frc {α:Type} (n:Nat) (k:Nat->α):α:=match n with
 | 0=>k 0
 | m+1=>k (m+1)
theorem EB {α:Type} (n:Nat) (k:Nat->α):frc n k=k n:=by cases n <;> rfl
def pwG (m a e:Nat):Nat->Nat->Nat
 | 0,acc=>acc
 | k+1,acc=>frc (bif Nat.beq (e / 2^k%2) 0 then acc*acc%m else acc*acc%m*a%m) (pwG m a e k)
theorem zu (m a e:Nat):∀k acc:Nat,acc=a^(e / 2^k)%m->pwG m a e k acc=a^e%m
 | 0,acc,h=>by rw[h]; simp[pwG]
 | k+1,acc,h=>by
  unfold pwG
  rw[EB]
  refine zu m a e k _ ?_
  have f:e / 2^k=2*(e / 2^(k+1))+e / 2^k%2:=by
   rw[Nat.pow_succ,<-Nat.div_div_eq_div_mul]; omega
  generalize e / 2^k%2=c at f ⊢
  rw[f,h]
  have g:(a^(e / 2^(k+1))%m)*(a^(e / 2^(k+1))%m)%m=a^(2*(e / 2^(k+1)))%m:=by
   rw[<-Nat.mul_mod,<-Nat.pow_add]; congr 2; omega
  rw[g]
  cases hb:Nat.beq c 0 with
  | true=>
   have:=Nat.eq_of_beq_eq_true hb
   subst this; rfl
  | false=>
   have hc:c=1:=by
    have i:c<2:=by
     have:c=e / 2^k - 2*(e / 2^(k+1)):=by omega
     rw[this,Nat.pow_succ,<-Nat.div_div_eq_div_mul]; omega
    have j:c≠0:=by rintro rfl; cases hb
    omega
   subst hc
   show a^(2*(e / 2^(k+1)))%m*a%m=_
   rw[Nat.pow_succ a,Nat.mul_mod,Nat.mod_mod,<-Nat.mul_mod]
def pw (m a e:Nat):Nat:=pwG m a e (Nat.log2 e+1) (1%m)
theorem FM (m a e:Nat):pw m a e=a^e%m:=by
 unfold pw
 refine zu _ _ _ _ _ ?_
 rw[Nat.div_eq_of_lt Nat.lt_log2_self,Nat.pow_zero]
def Am (n:Nat):Bool:=Nat.blt 1 n&&Nat.blt n 16384&&(List.range 128).all fun d=>Nat.blt d 2 || Nat.ble n d || !Nat.beq (n%d) 0
theorem fg {n:Nat} (h:Am n=true):Prm n:=by
 unfold Am at h
 simp only[Bool.and_eq_true,Nat.blt_eq]at h
 obtain⟨⟨o,G⟩,t⟩:=h
 have i:∀d,d ∣ n->2<=d->d<128->n<=d:=fun d j g k=>by
  have:=List.all_eq_true.1 t d (List.mem_range.2 k)
  simp only[Bool.or_eq_true,Nat.blt_eq,Bool.not_eq_true']at this
  rcases this with (f | f) | f
  ·omega
  ·exact Nat.le_of_ble_eq_true f
  ·rw[Nat.mod_eq_zero_of_dvd j]at f; cases f
 refine⟨o,fun d j=>?_⟩
 by_cases e1:d=1
 ·exact .inl e1
 by_cases e2:d=n
 ·exact .inr e2
 exfalso
 obtain⟨e,he⟩:=j
 have z:d≠0:=by rintro rfl; omega
 have A:e≠0:=by rintro rfl; omega
 have B:e≠1:=by rintro rfl; omega
 have F:d<n:=by
  have g:d ∣ n:=⟨e,he⟩
  have:=Nat.le_of_dvd (by omega) g; omega
 by_cases g:d<128
 ·have:=i d ⟨e,he⟩ (by omega) g; omega
 ·have k:e<128:=by
   rcases Nat.lt_or_ge e 128 with h | h
   ·exact h
   ·have:=Nat.mul_le_mul (show 128<=d by omega) h; omega
  have f:=i e ⟨d,by rw[Nat.mul_comm]; exact he⟩ (by omega) k
  have I:=Nat.mul_le_mul (show 2<=d by omega) (Nat.le_refl e)
  omega
def rH (N:Nat):List (Nat×Nat)->Nat->Option Nat
 | [],F=>some F
 | (q,a) :: l,F=>if Nat.beq (Nat.gcd F q) 1&&Nat.beq ((N - 1)%q) 0&&Nat.beq (pw N a (N - 1)) 1&&Nat.beq (Nat.gcd (pw N a ((N - 1) / q)+N - 1) N) 1 then rH N l (F*q) else none
def chk (N:Nat) (l:List (Nat×Nat)):Bool:=Nat.blt 1 N&&match rH N l 1 with
 | none=>false
 | some F=>Nat.blt N (F*F)
theorem FE {N q a r:Nat} (R:1<N) (i:Prm q) (j:Prm r) (f:r ∣ N) (A:q ∣ N - 1) (B:a^(N - 1)%N=1) (F:Nat.gcd (a^((N - 1) / q)%N+N - 1) N=1):q ∣ r - 1:=by
 refine Classical.byContradiction fun hn=>?_
 have hg:=i.coprime hn
 have g:=j.1
 have h:(a^((N - 1) / q))^q%r=1%r:=by
  rw[<-Nat.pow_mul,Nat.div_mul_cancel A]
  have:a^(N - 1)%N%r=a^(N - 1)%r:=Nat.mod_mod_of_dvd _ f
  rw[<-this,B]
 have o:¬r ∣ a^((N - 1) / q):=fun hx=>by
  have G:(a^((N - 1) / q))^q%r=0:=by
   rw[Nat.pow_mod,Nat.mod_eq_zero_of_dvd hx,Nat.zero_pow (by have:=i.1; omega)]; exact Nat.zero_mod _
  rw[G,Nat.mod_eq_of_lt g]at h
  cases h
 have I:=zQ j o
 have t:=DQ (r:=r) (b:=a^((N - 1) / q)) q (r - 1) h (by rw[I,Nat.mod_eq_of_lt g])
 rw[show Nat.gcd q (r - 1)=1 from hg,Nat.pow_one]at t
 have J:r ∣ a^((N - 1) / q)%N+N - 1:=by
  have K:(a^((N - 1) / q)%N)%r=1%r:=by rw[Nat.mod_mod_of_dvd _ f]; exact t
  obtain⟨k,M⟩:=f
  have O:(a^((N - 1) / q)%N+N)%r=1%r:=by
   rw[Nat.add_mod,K,Nat.mod_eq_zero_of_dvd ⟨k,M⟩,Nat.add_zero,Nat.mod_mod]
  exact nf O (by omega)
 have z:=Nat.dvd_gcd J f
 rw[F]at z
 have:=Nat.le_of_dvd (by decide) z
 omega
theorem An {N r:Nat} (k:1<N) (o:Prm r) (t:r ∣ N):∀(l:List (Nat×Nat)) (F G:Nat),(∀q∈l,Prm q.1)->F ∣ r - 1->rH N l F=some G->G ∣ r - 1
 | [],F,G,_,hF,h=>by simp[rH]at h; exact h ▸ hF
 | (q,a) :: l,F,G,hl,hF,h=>by
  simp only[rH]at h
  split at h
  ·rename_i hc
   simp only[Bool.and_eq_true]at hc
   obtain⟨⟨⟨i,j⟩,f⟩,g⟩:=hc
   have i:=Nat.eq_of_beq_eq_true i
   have j:=Nat.eq_of_beq_eq_true j
   have f:=Nat.eq_of_beq_eq_true f
   have g:=Nat.eq_of_beq_eq_true g
   rw[FM]at f g
   have z:=FE k (hl (q,a) (List.mem_cons_self ..)) o t (Nat.dvd_of_mod_eq_zero j) f g
   exact An k o t l (F*q) G (fun x hx=>hl x (List.mem_cons_of_mem _ hx)) (Nat.Coprime.mul_dvd_of_dvd_of_dvd i hF z) h
  ·cases h
theorem cI {N:Nat} (l:List (Nat×Nat)) (hl:∀q∈l,Prm q.1) (h:chk N l=true):Prm N:=by
 unfold chk at h
 simp only[Bool.and_eq_true,Nat.blt_eq]at h
 obtain⟨t,h⟩:=h
 cases hF:rH N l 1 with
 | none=>rw[hF]at h; cases h
 | some F=>
  rw[hF]at h
  have A:N<F*F:=by simpa using h
  have f:∀d,d ∣ N->1<d->F<d:=fun d i j=>by
   obtain⟨r,k,g⟩:=nm d d (Nat.le_refl d) j
   have o:=An t k (Nat.dvd_trans g i) l 1 F hl (Nat.one_dvd _) hF
   have z:=Nat.le_of_dvd (by have:=k.1; omega) o
   have J:=Nat.le_of_dvd (by omega) g
   have:=k.1
   omega
  refine⟨t,fun d i=>?_⟩
  by_cases e1:d=1
  ·exact .inl e1
  by_cases e2:d=N
  ·exact .inr e2
  exfalso
  obtain⟨e,he⟩:=i
  have B:d≠0:=by rintro rfl; omega
  have G:e≠0:=by rintro rfl; omega
  have I:e≠1:=by rintro rfl; omega
  have j:=f d ⟨e,he⟩ (by omega)
  have o:=f e ⟨d,by rw[Nat.mul_comm]; exact he⟩ (by omega)
  have z:=Nat.mul_le_mul (Nat.le_of_lt j) (Nat.le_of_lt o)
  omega
end Go.Gk.Pr
end

section
namespace Go.Gk.Pr
theorem Gp:Prm 3:=fg (by decide +kernel)
theorem Gi:Prm 5:=fg (by decide +kernel)
theorem Gn:Prm 7:=fg (by decide +kernel)
theorem F5:Prm 11:=fg (by decide +kernel)
theorem F2:Prm 43:=fg (by decide +kernel)
theorem Ff:Prm 139:=fg (by decide +kernel)
theorem Fy:Prm 197:=fg (by decide +kernel)
theorem Ev:Prm 211:=fg (by decide +kernel)
theorem Fo:Prm 233:=fg (by decide +kernel)
theorem E1:Prm 311:=fg (by decide +kernel)
theorem E8:Prm 313:=fg (by decide +kernel)
theorem EP:Prm 337:=fg (by decide +kernel)
theorem Ey:Prm 421:=fg (by decide +kernel)
theorem zT:Prm 881:=fg (by decide +kernel)
theorem Ew:Prm 937:=fg (by decide +kernel)
theorem D3:Prm 3023:=fg (by decide +kernel)
theorem Ef:Prm 3677:=fg (by decide +kernel)
theorem DE:Prm 4349:=fg (by decide +kernel)
theorem zH:Prm 704251:=cI [(313,2),(5,2)] (by
 intro q f
 simp only[List.mem_cons,List.not_mem_nil,or_false]at f
 rcases f with rfl | rfl
 ·exact E8
 ·exact Gi) (by decide +kernel)
theorem Bq:Prm 78283:=cI [(4349,2)] (by
 intro q f
 simp only[List.mem_cons,List.not_mem_nil,or_false]at f
 rw[f]; exact DE) (by decide +kernel)
theorem mw:Prm 46076956964474543:=cI [(704251,2),(78283,2)] (by
 intro q f
 simp only[List.mem_cons,List.not_mem_nil,or_false]at f
 rcases f with rfl | rfl
 ·exact zH
 ·exact Bq) (by decide +kernel)
theorem sm:Prm 66417393611:=cI [(3677,2),(197,2)] (by
 intro q f
 simp only[List.mem_cons,List.not_mem_nil,or_false]at f
 rcases f with rfl | rfl
 ·exact Ef
 ·exact Fy) (by decide +kernel)
theorem pf:Prm 11290956913871:=cI [(66417393611,2)] (by
 intro q f
 simp only[List.mem_cons,List.not_mem_nil,or_false]at f
 rw[f]; exact sm) (by decide +kernel)
theorem eR:Prm 774023187263532362759620327192479577272145303:=cI [(46076956964474543,2),(11290956913871,2)] (by
 intro q f
 simp only[List.mem_cons,List.not_mem_nil,or_false]at f
 rcases f with rfl | rfl
 ·exact mw
 ·exact pf) (by decide +kernel)
theorem eF:Prm 835945042244614951780389953367877943453916927241:=cI [(774023187263532362759620327192479577272145303,2)] (by
 intro q f
 simp only[List.mem_cons,List.not_mem_nil,or_false]at f
 rw[f]; exact eR) (by decide +kernel)
theorem c7:Prm 115792089210356248762697446949407573530086143415290314195533631308867097853951:=cI [(835945042244614951780389953367877943453916927241,2)] (by
 intro q f
 simp only[List.mem_cons,List.not_mem_nil,or_false]at f
 rw[f]; exact eF) (by decide +kernel)
theorem z9:Prm 155317:=cI [(43,2),(7,2),(3,3)] (by
 intro q f
 simp only[List.mem_cons,List.not_mem_nil,or_false]at f
 rcases f with rfl | rfl | rfl
 ·exact F2
 ·exact Gn
 ·exact Gp) (by decide +kernel)
theorem tU:Prm 191039911:=cI [(155317,2)] (by
 intro q f
 simp only[List.mem_cons,List.not_mem_nil,or_false]at f
 rw[f]; exact z9) (by decide +kernel)
theorem mi:Prm 208150935158385979:=cI [(191039911,2),(3023,2)] (by
 intro q f
 simp only[List.mem_cons,List.not_mem_nil,or_false]at f
 rcases f with rfl | rfl
 ·exact tU
 ·exact D3) (by decide +kernel)
theorem iN:Prm 2624747550333869278416773953:=cI [(208150935158385979,2)] (by
 intro q f
 simp only[List.mem_cons,List.not_mem_nil,or_false]at f
 rw[f]; exact mi) (by decide +kernel)
theorem zS:Prm 104471:=cI [(337,2)] (by
 intro q f
 simp only[List.mem_cons,List.not_mem_nil,or_false]at f
 rw[f]; exact EP) (by decide +kernel)
theorem ye:Prm 3969899:=cI [(104471,2)] (by
 intro q f
 simp only[List.mem_cons,List.not_mem_nil,or_false]at f
 rw[f]; exact zS) (by decide +kernel)
theorem pT:Prm 1002328039319:=cI [(3969899,2)] (by
 intro q f
 simp only[List.mem_cons,List.not_mem_nil,or_false]at f
 rw[f]; exact ye) (by decide +kernel)
theorem c8:Prm 115792089210356248762697446949407573529996955224135760342422259061068512044369:=cI [(2624747550333869278416773953,2),(1002328039319,2)] (by
 intro q f
 simp only[List.mem_cons,List.not_mem_nil,or_false]at f
 rcases f with rfl | rfl
 ·exact iN
 ·exact pT) (by decide +kernel)
theorem Ae:Prm 363557:=cI [(937,2)] (by
 intro q f
 simp only[List.mem_cons,List.not_mem_nil,or_false]at f
 rw[f]; exact Ew) (by decide +kernel)
theorem ve:Prm 532247449:=cI [(363557,2)] (by
 intro q f
 simp only[List.mem_cons,List.not_mem_nil,or_false]at f
 rw[f]; exact Ae) (by decide +kernel)
theorem pa:Prm 44925942675193:=cI [(532247449,2)] (by
 intro q f
 simp only[List.mem_cons,List.not_mem_nil,or_false]at f
 rw[f]; exact ve) (by decide +kernel)
theorem jV:Prm 35581458644053887931343:=cI [(44925942675193,2)] (by
 intro q f
 simp only[List.mem_cons,List.not_mem_nil,or_false]at f
 rw[f]; exact pa) (by decide +kernel)
theorem iu:Prm 23964610537191310276190549303:=cI [(35581458644053887931343,2)] (by
 intro q f
 simp only[List.mem_cons,List.not_mem_nil,or_false]at f
 rw[f]; exact jV) (by decide +kernel)
theorem ia:Prm 862725979338887169942859774909:=cI [(23964610537191310276190549303,2)] (by
 intro q f
 simp only[List.mem_cons,List.not_mem_nil,or_false]at f
 rw[f]; exact iu) (by decide +kernel)
theorem gK:Prm 20705423504133292078628634597817:=cI [(862725979338887169942859774909,2)] (by
 intro q f
 simp only[List.mem_cons,List.not_mem_nil,or_false]at f
 rw[f]; exact ia) (by decide +kernel)
theorem fy:Prm 413244619895455989650825325680172591660047:=cI [(20705423504133292078628634597817,2)] (by
 intro q f
 simp only[List.mem_cons,List.not_mem_nil,or_false]at f
 rw[f]; exact gK) (by decide +kernel)
theorem fi:Prm 12397338596863679689524759770405177749801411:=cI [(413244619895455989650825325680172591660047,2)] (by
 intro q f
 simp only[List.mem_cons,List.not_mem_nil,or_false]at f
 rw[f]; exact fy) (by decide +kernel)
theorem CO:Prm 21407:=cI [(139,2),(11,2)] (by
 intro q f
 simp only[List.mem_cons,List.not_mem_nil,or_false]at f
 rcases f with rfl | rfl
 ·exact Ff
 ·exact F5) (by decide +kernel)
theorem uN:Prm 246608641:=cI [(21407,2)] (by
 intro q f
 simp only[List.mem_cons,List.not_mem_nil,or_false]at f
 rw[f]; exact CO) (by decide +kernel)
theorem vD:Prm 105957871:=cI [(881,2),(211,2)] (by
 intro q f
 simp only[List.mem_cons,List.not_mem_nil,or_false]at f
 rcases f with rfl | rfl
 ·exact zT
 ·exact Ev) (by decide +kernel)
theorem kE:Prm 529709925838459440593:=cI [(246608641,2),(105957871,2)] (by
 intro q f
 simp only[List.mem_cons,List.not_mem_nil,or_false]at f
 rcases f with rfl | rfl
 ·exact uN
 ·exact vD) (by decide +kernel)
theorem cv:Prm 19173790298027098165721053155794528970226934547887232785722672956982046098136719667167519737147526097:=cI [(12397338596863679689524759770405177749801411,2),(529709925838459440593,2)] (by
 intro q f
 simp only[List.mem_cons,List.not_mem_nil,or_false]at f
 rcases f with rfl | rfl
 ·exact fi
 ·exact kE) (by decide +kernel)
theorem cj:Prm 39402006196394479212279040100143613805079739270465446667948293404245721771496870329047266088258938001861606973112319:=cI [(19173790298027098165721053155794528970226934547887232785722672956982046098136719667167519737147526097,2)] (by
 intro q f
 simp only[List.mem_cons,List.not_mem_nil,or_false]at f
 rw[f]; exact cv) (by decide +kernel)
theorem tZ:Prm 272109983:=cI [(421,2),(233,2)] (by
 intro q f
 simp only[List.mem_cons,List.not_mem_nil,or_false]at f
 rcases f with rfl | rfl
 ·exact Ey
 ·exact Fo) (by decide +kernel)
theorem rg:Prm 228572385721:=cI [(272109983,2)] (by
 intro q f
 simp only[List.mem_cons,List.not_mem_nil,or_false]at f
 rw[f]; exact tZ) (by decide +kernel)
theorem o9:Prm 23314383343543:=cI [(228572385721,2)] (by
 intro q f
 simp only[List.mem_cons,List.not_mem_nil,or_false]at f
 rw[f]; exact rg) (by decide +kernel)
theorem kF:Prm 426632512014427833817:=cI [(23314383343543,2)] (by
 intro q f
 simp only[List.mem_cons,List.not_mem_nil,or_false]at f
 rw[f]; exact o9) (by decide +kernel)
theorem iO:Prm 1495199339761412565498084319:=cI [(426632512014427833817,2)] (by
 intro q f
 simp only[List.mem_cons,List.not_mem_nil,or_false]at f
 rw[f]; exact kF) (by decide +kernel)
theorem ip:Prm 17942392077136950785977011829:=cI [(1495199339761412565498084319,2)] (by
 intro q f
 simp only[List.mem_cons,List.not_mem_nil,or_false]at f
 rw[f]; exact iO) (by decide +kernel)
theorem yr:Prm 9863677:=cI [(881,2),(311,2)] (by
 intro q f
 simp only[List.mem_cons,List.not_mem_nil,or_false]at f
 rcases f with rfl | rfl
 ·exact zT
 ·exact E1) (by decide +kernel)
theorem pe:Prm 37344768852931:=cI [(9863677,2)] (by
 intro q f
 simp only[List.mem_cons,List.not_mem_nil,or_false]at f
 rw[f]; exact yr) (by decide +kernel)
theorem mF:Prm 55942463741690639:=cI [(37344768852931,2)] (by
 intro q f
 simp only[List.mem_cons,List.not_mem_nil,or_false]at f
 rw[f]; exact pe) (by decide +kernel)
theorem dP:Prm 1059392654943455286185473617842338478315215895509773412096307:=cI [(17942392077136950785977011829,2),(55942463741690639,2)] (by
 intro q f
 simp only[List.mem_cons,List.not_mem_nil,or_false]at f
 rcases f with rfl | rfl
 ·exact ip
 ·exact mF) (by decide +kernel)
theorem cJ:Prm 3055465788140352002733946906144561090641249606160407884365391979704929268480326390471:=cI [(1059392654943455286185473617842338478315215895509773412096307,2)] (by
 intro q f
 simp only[List.mem_cons,List.not_mem_nil,or_false]at f
 rw[f]; exact dP) (by decide +kernel)
theorem cl:Prm 39402006196394479212279040100143613805079739270465446667946905279627659399113263569398956308152294913554433653942643:=cI [(3055465788140352002733946906144561090641249606160407884365391979704929268480326390471,2)] (by
 intro q f
 simp only[List.mem_cons,List.not_mem_nil,or_false]at f
 rw[f]; exact cJ) (by decide +kernel)
end Go.Gk.Pr
end

section
namespace Go.Gk.Ec
open Go.Gk.Pr
variable {p:Nat} [NeZero p]
theorem mQ:0<p:=Nat.pos_of_ne_zero (NeZero.ne p)
def fz (z:Int):Fin p:=⟨(z%p).toNat,by
 have h1:=Int.emod_lt_of_pos z (show (0:Int)<p by have:=mQ (p:=p); omega)
 have h2:=Int.emod_nonneg z (show (p:Int)≠0 by have:=mQ (p:=p); omega)
 omega⟩
theorem iX (z:Int):((fz (p:=p) z).val:Int)=z%p:=by
 have f:=Int.emod_nonneg z (show (p:Int)≠0 by have:=mQ (p:=p); omega)
 show (((z%p).toNat:Nat):Int)=_
 omega
theorem uB {a:Fin p} {z:Int} (h:(a.val:Int)%p=z%p):a=fz z:=by
 apply Fin.ext
 have:=iX (p:=p) z
 have f:=Int.emod_eq_of_lt (a:=(a.val:Int)) (b:=p) (by omega) (by have:=a.isLt; omega)
 omega
theorem l8 (a:Fin p):fz (a.val:Int)=a:=(uB rfl).symm
theorem jt (z:Int):fz (p:=p) (z%p)=fz z:=by
 apply Fin.ext
 show ((z%p%p).toNat)=(z%p).toNat
 rw[Int.emod_emod]
theorem rz (x y:Int):fz (p:=p) (x+y)=fz x+fz y:=by
 refine (uB ?_).symm
 rw[Fin.val_add,Int.natCast_emod,Int.natCast_add,iX,iX,Int.emod_emod,<-Int.add_emod]
theorem n7 (x y:Int):fz (p:=p) (x*y)=fz x*fz y:=by
 refine (uB ?_).symm
 rw[Fin.val_mul,Int.natCast_emod,Int.natCast_mul,iX,iX,Int.emod_emod,<-Int.mul_emod]
theorem El:fz (p:=p) 0=0:=by
 apply Fin.ext
 show ((0:Int)%p).toNat=_
 rw[Int.zero_emod]; rfl
theorem AL (x y:Int):fz (p:=p) (x - y)=fz x - fz y:=by
 have h:=rz (p:=p) (x - y) y
 rw[show x - y+y=x by omega]at h
 rw[h]; grobner
theorem qg (n:Nat):fz (p:=p) (n:Int)=Fin.ofNat p n:=by
 apply Fin.ext
 show ((n:Int)%p).toNat=n%p
 rw[<-Int.natCast_emod]; rfl
theorem y8 {z:Int}:fz (p:=p) z=0↔z%p=0:=by
 constructor
 ·intro h
  have:=iX (p:=p) z
  rw[h]at this
  simpa using this.symm
 ·intro h
  have:=jt (p:=p) z
  rw[<-this,h,El]
theorem Et (o:Prm p) (t:2<p):Fld p:=by
 have j:∀u:Fin p,u≠0->¬p ∣ u.val:=fun u g z=>by
  apply g
  apply Fin.ext
  have i:=u.isLt
  have:(0:Fin p).val=0:=by simp
  rw[this]
  rcases Nat.eq_zero_or_pos u.val with h | h
  ·exact h
  ·have:=Nat.le_of_dvd h z; omega
 refine⟨fun u v h=>?_,fun u g=>?_,fun h=>?_⟩
 ·by_cases g:u=0
  ·exact .inl g
  ·right
   have k:p ∣ u.val*v.val:=by
    have:=congrArg Fin.val h
    rw[Fin.val_mul]at this
    have i:(0:Fin p).val=0:=by simp
    rw[i]at this
    exact Nat.dvd_of_mod_eq_zero this
   rcases o.dvd_mul k with f | f
   ·exact (j u g f).elim
   ·refine Classical.byContradiction fun A=>j v A f
 ·refine⟨⟨u.val^(p - 2)%p,Nat.mod_lt _ (by omega)⟩,?_⟩
  apply Fin.ext
  rw[Fin.val_mul]
  have k:(1:Fin p).val=1%p:=rfl
  have B:1%p=1:=Nat.mod_eq_of_lt (by omega)
  rw[k,B]
  have f:=zQ o (j u g)
  show u.val*(u.val^(p - 2)%p)%p=1
  rw[Nat.mul_mod,Nat.mod_mod,<-Nat.mul_mod,Nat.mul_comm,<-Nat.pow_succ,show (p - 2).succ=p - 1 by omega]
  exact f
 ·have f:=congrArg Fin.val h
  have F:(2:Fin p).val=2%p:=rfl
  have i:(0:Fin p).val=0:=by simp
  rw[F,i,Nat.mod_eq_of_lt t]at f
  cases f
open Classical in
noncomputable def jac (X Y Z:Fin p):Pt p:=if Z=0 then none else some (X*(rcp Z*rcp Z),Y*(rcp Z*(rcp Z*rcp Z)))
theorem gg (X Y:Fin p):jac X Y 0=none:=if_pos rfl
theorem Fld.jac_of (F:Fld p) {X Y Z x y:Fin p} (f:Z≠0) (hx:X=x*(Z*Z)) (hy:Y=y*(Z*(Z*Z))):jac X Y Z=some (x,y):=by
 have e:=F.mul_iv f
 unfold jac
 rw[if_neg f]
 generalize rcp Z=i at e ⊢
 have g:X*(i*i)=x:=by subst hx; clear hy; grobner
 have h:Y*(i*(i*i))=y:=by subst hy; clear hx g; grobner
 rw[g,h]
theorem Fld.of_jac (F:Fld p) (X Y:Fin p) {Z:Fin p} (f:Z≠0):∃x y,X=x*(Z*Z)/\Y=y*(Z*(Z*Z))/\jac X Y Z=some (x,y):=by
 have e:=F.mul_iv f
 refine⟨X*(rcp Z*rcp Z),Y*(rcp Z*(rcp Z*rcp Z)),?_,?_,if_neg f⟩
 ·generalize rcp Z=i at e ⊢; grobner
 ·generalize rcp Z=i at e ⊢; grobner
theorem Fld.mul_ne (F:Fld p) {u v:Fin p} (f:u≠0) (g:v≠0):u*v≠0:=fun h=>(F.nz u v h).elim f g
theorem Fld.jac_dbl (F:Fld p) {X Y Z B h s m G I:Fin p} (f:Z≠0) (j:B=Z*Z) (k:h=Y*Y) (o:s=4*(X*h)) (g:m=3*((X - B)*(X+B))) (t:G=m*m - 2*s) (z:I=m*(s - G) - 8*(h*h)) :
  jac G I (2*(Y*Z))=add (-3) (jac X Y Z) (jac X Y Z):=by
 obtain⟨x,y,hx,hy,M⟩:=F.of_jac X Y f
 rw[M,kD,if_pos rfl]
 by_cases y0:y+y=0
 ·have:y=0:=F.dbl y0
  rw[if_pos y0,hy,this,show (2:Fin p)*(0*(Z*(Z*Z))*Z)=0 by grobner,gg]
 ·rw[if_neg y0]
  have A:y≠0:=by rintro rfl; exact y0 (by grobner)
  have J:2*y≠0:=F.mul_ne F.two A
  have e:=F.mul_iv J
  obtain⟨l,hl⟩:∃l,(3*(x*x)+-3)*rcp (2*y)=l:=⟨_,rfl⟩
  have hs:l*(2*y)=3*(x*x) - 3:=by rw[<-hl]; generalize rcp (2*y)=i at e; clear hl j k o g t z hx hy; grobner
  rw[hl]
  clear hl e
  unfold mZ
  have hm:m=l*(2*y)*(Z*Z*(Z*Z)):=by rw[hs]; subst j hx; clear hs k o t z; rw[g]; clear g; grobner
  have K:2*(Y*Z)≠0:=by rw[hy]; exact F.mul_ne F.two (F.mul_ne (F.mul_ne A (F.mul_ne f (F.mul_ne f f))) f)
  refine F.jac_of K ?_ ?_
  ·clear hs g j; subst t hm o k hx hy; clear z; grobner
  ·clear hs g j; subst z t hm o k hx hy; grobner
theorem Fld.jac_add (F:Fld p) {X1 Y1 f X2 Y2 g u1 u2 s1 s2 h r hh X v x' y':Fin p} (z1:f≠0) (z2:g≠0) (M:u1=X1*(g*g)) (N:u2=X2*(f*f)) (O:s1=Y1*(g*(g*g))) (R:s2=Y2*(f*(f*f)))
  (U:h=u2 - u1) (V:r=s2 - s1) (I:hh=h*h) (e8:X=h*hh) (J:v=u1*hh) (j:x'=r*r - X - 2*v) (k:y'=r*(v - x') - s1*X) (hn:h≠0) (a:Fin p) :
  jac x' y' (h*(f*g))=add a (jac X1 Y1 f) (jac X2 Y2 g):=by
 obtain⟨x1,y1,t,z,ad⟩:=F.of_jac X1 Y1 z1
 obtain⟨x2,y2,A,B,ap⟩:=F.of_jac X2 Y2 z2
 have hW:=F.mul_ne z1 z2
 have o:h=(x2 - x1)*(f*g*(f*g)):=by subst U M N t A; clear O R V I e8 J j k hn z B; grobner
 have G:r=(y2 - y1)*(f*g*(f*g*(f*g))):=by subst V O R z B; clear M N U I e8 J j k hn t A o; grobner
 have K:u1=x1*(f*g*(f*g)):=by subst M t; clear N O R U V I e8 J j k hn o G z B A; grobner
 have Y:s1=y1*(f*g*(f*g*(f*g))):=by subst O z; clear N M R U V I e8 J j k hn o G t B A K; grobner
 have hx:x1≠x2:=by
  rintro rfl
  apply hn; rw[o]; grobner
 have hd:x2 - x1≠0:=fun h0=>hx (eK h0).symm
 rw[ad,ap,kD,if_neg hx]
 have e:=F.mul_iv hd
 obtain⟨l,hl⟩:∃l,(y2 - y1)*rcp (x2 - x1)=l:=⟨_,rfl⟩
 have hs:l*(x2 - x1)=y2 - y1:=by
  rw[<-hl]; generalize rcp (x2 - x1)=i at e
  generalize x2 - x1=d at *; clear hl M N O R U V I e8 J j k t A z B o G K Y hn; grobner
 rw[hl]
 clear hl e
 unfold mZ
 have Z:h*(f*g)≠0:=F.mul_ne hn hW
 rw[<-hs]at G
 clear M N O R U V t z A B ad ap hs
 refine F.jac_of Z ?_ ?_
 ·clear hn Z hW hd hx k Y; subst j J e8 I o G K; generalize f*g=W; grobner
 ·clear hn Z hW hd hx; subst k j J e8 I o G K Y; generalize f*g=W; grobner
end Go.Gk.Ec
end

section
namespace Go.Gk.Ec
open Go.Gk.Pr
variable {p:Nat} [NeZero p] {a b:Fin p}
noncomputable def mul (a:Fin p):Nat->Pt p->Pt p
 | 0,_=>none
 | k+1,P=>add a (mul a k P) P
def xY (P:Pt p):Nat:=match P with
 | none=>2*p
 | some (x,y)=>2*x.val+(if 2*y.val<p then 0 else 1)
theorem DS (P:Pt p):xY P<2*p+1:=by
 rcases P with _ | ⟨x,y⟩
 ·show 2*p<_; omega
 ·have:=x.isLt
  show 2*x.val+(if 2*y.val<p then 0 else 1)<_
  split <;> omega
theorem DK {y:Fin p} (h:y≠0):(-y).val=p - y.val:=by
 have hy:y.val≠0:=fun e=>h (Fin.ext (by rw[e]; simp))
 have k:=y.isLt
 have i:y+-y=0:=xA y
 have f:=congrArg Fin.val i
 rw[Fin.val_add]at f
 have o:=(-y).isLt
 have j:(0:Fin p).val=0:=by simp
 rw[j]at f
 rcases Nat.lt_or_ge (y.val+(-y).val) p with g | g
 ·rw[Nat.mod_eq_of_lt g]at f; omega
 ·rw[Nat.mod_eq_sub_mod g,Nat.mod_eq_of_lt (by omega)]at f; omega
theorem Cv.code_inj (C:Cv p a b) (k:p%2=1) {P Q:Pt p} (j:On a b P) (o:On a b Q) (h:xY P=xY Q):P=Q:=by
 rcases P with _ | ⟨x,y⟩
 ·rcases Q with _ | ⟨g,i⟩
  ·rfl
  ·exfalso
   have:=g.isLt
   have f:2*p=2*g.val+(if 2*i.val<p then 0 else 1):=h
   split at f <;> omega
 ·rcases Q with _ | ⟨g,i⟩
  ·exfalso
   have:=x.isLt
   have f:2*x.val+(if 2*y.val<p then 0 else 1)=2*p:=h
   split at f <;> omega
  ·have f:2*x.val+(if 2*y.val<p then 0 else 1)=2*g.val+(if 2*i.val<p then 0 else 1):=h
   have hx:x=g:=by apply Fin.ext; split at f <;> split at f <;> omega
   subst hx
   rcases C.same_x j o with q | q
   ·rw[q]
   ·exfalso
    have hy:=C.y_ne j
    have:=DK hy
    rw[q,this]at f
    have:=y.isLt
    split at f <;> split at f <;> omega
theorem zq:∀{l l':List Nat},l.Nodup->(∀x∈l,x∈l')->l.length<=l'.length
 | [],l',_,_=>Nat.zero_le _
 | x :: l,l',hn,hs=>by
  have hx:=hs x (List.mem_cons_self ..)
  have hl:=(List.perm_cons_erase hx).length_eq
  have f:=List.nodup_cons.1 hn
  have:=zq f.2 (l':=l'.erase x) fun y hy=>by
   have g:y≠x:=by rintro rfl; exact f.1 hy
   exact (List.mem_erase_of_ne g).2 (hs y (List.mem_cons_of_mem _ hy))
  simp only[List.length_cons]at hl ⊢
  omega
theorem Cv.count (C:Cv p a b) (o:p%2=1) (f:Nat->Pt p) (m:Nat) (k:∀i,i<m->On a b (f i)) (t:∀i j,i<m->j<m->f i=f j->i=j):m<=2*p+1:=by
 have h:=zq (l:=(List.range m).map (fun i=>xY (f i))) (l':=List.range (2*p+1)) (by
  refine List.pairwise_map.2 (List.Pairwise.imp_of_mem (R:=(·≠·)) ?_ List.nodup_range)
  intro i j hi g z e
  have hi:=List.mem_range.1 hi
  have g:=List.mem_range.1 g
  exact z (t i j hi g (C.code_inj o (k i hi) (k j g) e))) (by
  intro x hx
  obtain⟨i,_,rfl⟩:=List.mem_map.1 hx
  exact List.mem_range.2 (DS _))
 simpa using h
end Go.Gk.Ec
end

section
namespace Go.Gk.Ec
open Go.Gk.Pr
section
variable {p:Nat} [NeZero p]
end
end Go.Gk.Ec
end
