import Derived.Tactics
import Derived.LoopN
import Derived.Below
import Derived.KernelRfl
import Derived.Lib.Strings
set_option linter.unusedVariables false
set_option linter.unusedSimpArgs false
set_option linter.unusedSectionVars false

section
abbrev Q0:=List UInt32
abbrev Q1:=List UInt8
abbrev Q2:=List Nat
namespace Go.Gk
def aC {τ:Type} (l:List τ) (i:Int):Option τ:=if 0<=i then l[i.toNat]? else none
theorem dR {τ:Type} {l:List τ} {i:Int} {x:τ} (h:aC l i=some x):0<=i/\i.toNat<l.length/\l[i.toNat]? = some x:=by
 unfold aC at h
 split at h
 ·exact⟨‹_›,(List.getElem?_eq_some_iff.1 h).1,h⟩
 ·cases h
theorem jj {τ:Type} (l:List τ) (i:Nat):aC l (i:Int)=l[i]?:=by
 simp[aC]
def slO {τ:Type} (l:List τ) (lo hi:Int):Option (List τ):=if 0<=lo/\lo<=hi/\hi.toNat<=l.length then some ((l.drop lo.toNat).take (hi.toNat - lo.toNat)) else none
theorem cH {τ:Type} {l r:List τ} {lo hi:Int} (h:slO l lo hi=some r):(0<=lo/\lo<=hi/\hi.toNat<=l.length)/\r=(l.drop lo.toNat).take (hi.toNat - lo.toNat):=by
 unfold slO at h
 split at h
 ·simp at h; exact⟨‹_›,h.symm⟩
 ·cases h
def drO {τ:Type} (l:List τ) (lo:Int):Option (List τ):=if 0<=lo/\lo.toNat<=l.length then some (l.drop lo.toNat) else none
theorem iz {τ:Type} {l r:List τ} {lo:Int} (h:drO l lo=some r):(0<=lo/\lo.toNat<=l.length)/\r=l.drop lo.toNat:=by
 unfold drO at h
 split at h
 ·simp at h; exact⟨‹_›,h.symm⟩
 ·cases h
def tkO {τ:Type} (l:List τ) (hi:Int):Option (List τ):=if 0<=hi/\hi.toNat<=l.length then some (l.take hi.toNat) else none
theorem je {τ:Type} {l r:List τ} {hi:Int} (h:tkO l hi=some r):(0<=hi/\hi.toNat<=l.length)/\r=l.take hi.toNat:=by
 unfold tkO at h
 split at h
 ·simp at h; exact⟨‹_›,h.symm⟩
 ·cases h
theorem ox {τ:Type} {l:List τ} {hi:Int} (h:0<=hi/\hi.toNat<=l.length):tkO l hi=some (l.take hi.toNat):=if_pos h
def mkO {τ:Type} (bytes:Nat) (l c:Int) (t0:τ):Option (List τ):=
 if 0<=l/\l<=c/\(bytes:Int)*c<=281474976710656/\c<=9223372036854775807 then some (List.replicate l.toNat t0) else none
theorem BY {τ:Type} {bytes:Nat} {l c:Int} {f:τ} {r:List τ} (h:mkO bytes l c f=some r) :
  r=List.replicate l.toNat f/\0<=l/\l<=c/\(bytes:Int)*c<=281474976710656/\c<=9223372036854775807:=by
 unfold mkO at h
 split at h
 ·rename_i hc; simp at h; exact⟨h.symm,hc⟩
 ·cases h
def apO {τ:Type} (bytes:Nat) (l m:List τ):Option (List τ):=if (l.length+m.length)*bytes<=225000000000000 then some (l++m) else none
theorem mK {τ:Type} {bytes:Nat} {l m r:List τ} (h:apO bytes l m=some r):r=l++m/\(l.length+m.length)*bytes<=225000000000000:=by
 unfold apO at h
 split at h
 ·simp at h; exact⟨h.symm,‹_›⟩
 ·cases h
def oz (x y:Q1):Option Q1:=if x.length+y.length<=9223372036854775807 then some (x++y) else none
theorem AX {x y r:Q1} (h:oz x y=some r):r=x++y/\x.length+y.length<=9223372036854775807:=by
 unfold oz at h
 split at h
 ·simp at h; exact⟨h.symm,‹_›⟩
 ·cases h
def grd {ρ:Type} (p:Prop) [Decidable p] (k:Option ρ):Option ρ:=if p then k else none
theorem tW {ρ:Type} {p:Prop} [Decidable p] {k:Option ρ} {r:ρ} (h:grd p k=some r):p/\k=some r:=by
 unfold grd at h
 split at h
 ·exact⟨‹_›,h⟩
 ·cases h
@[simp] theorem grd_true {ρ:Type} {p:Prop} [Decidable p] (k:Option ρ) (h:p):grd p k=k:=by simp[grd,h]
def bq {α ρ:Type} (a:α) (k:α->Option ρ):Option ρ:=k a
theorem fD {α ρ:Type} {a:α} {k:α->Option ρ} {r:ρ} (h:bq a k=some r):∃x,a=x/\k x=some r:=⟨a,rfl,h⟩
abbrev ah {α ρ:Type} (x:Option α) (k:α->Option ρ):Option ρ:=x.bind k
theorem yn {α ρ:Type} {x:Option α} {k:α->Option ρ} {r:ρ} (h:ah x k=some r):∃a,x=some a/\k a=some r:=Option.bind_eq_some_iff.1 h
theorem af {α ρ:Type} {x:Option α} {k:α->Option ρ} {r:ρ} {C:Prop} (h:ah x k=some r) (f:∀a,x=some a->k a=some r->C):C:=by
 obtain⟨a,g,i⟩:=yn h
 exact f a g i
theorem db {ρ:Type} {p:Prop} [Decidable p] {k:Option ρ} {r:ρ} {C:Prop} (h:grd p k=some r) (f:p->k=some r->C):C:=f (tW h).1 (tW h).2
theorem bg {α ρ:Type} {x:α} {k:α->Option ρ} {r:ρ} {C:Prop} (h:bq x k=some r) (f:∀a,x=a->k a=some r->C):C:=f x rfl h
theorem bH {ρ:Type} {b:Bool} {x y:Option ρ} {r:ρ} (h:(if b=true then x else y)=some r) (hb:b=true):x=some r:=by rw[if_pos hb]at h; exact h
theorem bI {ρ:Type} {b:Bool} {x y:Option ρ} {r:ρ} (h:(if b=true then x else y)=some r) (hb:b=false):y=some r:=by
 rw[if_neg (by rw[hb]; exact Bool.false_ne_true)]at h; exact h
def eE (l:Q1) (c:UInt8):Int:=match l.findIdx? (· == c) with
 | some i=>i
 | none=>-1
def uJ (l:Q1) (c:UInt8):Int:=(l.count c:Nat)
def cpL {τ:Type} (l m:List τ) (lo hi:Nat):List τ:=l.take lo++m.take (hi - lo)++l.drop (lo+min m.length (hi - lo))
theorem ej {τ:Type} (l m:List τ) (lo hi:Nat) (f:lo<=hi) (g:hi<=l.length):(cpL l m lo hi).length=l.length:=by
 simp[cpL]; omega
def kc {α ρ:Type} (o:Option α) (x:Option ρ) (y:α->Option ρ):Option ρ:=match o with
 | none=>x
 | some a=>y a
theorem kj {α ρ:Type} {o:Option α} {x:Option ρ} {y:α->Option ρ} {r:ρ} (h:kc o x y=some r) (f:o=none):x=some r:=by subst f; exact h
theorem kn {α ρ:Type} {o:Option α} {x:Option ρ} {y:α->Option ρ} {r:ρ} {a:α} (h:kc o x y=some r) (f:o=some a):y a=some r:=by subst f; exact h
def fa {σ ρ:Type} (f:σ->Option (σ⊕ρ)):Nat->σ->Option ρ
 | 0,_=>none
 | n+1,s=>match f s with
  | none=>none
  | some (.inl s')=>fa f n s'
  | some (.inr r)=>some r
theorem nC {σ ρ:Type} {f:σ->Option (σ⊕ρ)}:∀{n:Nat} {s:σ} {r:ρ},fa f n s=some r->∀{m:Nat},n<=m->fa f m s=some r
 | 0,_,_,h,_,_=>by simp[fa]at h
 | n+1,s,r,h,0,hm=>by omega
 | n+1,s,r,h,m+1,hm=>by
  simp only[fa]at h ⊢
  split at h
  ·cases h
  ·exact nC h (by omega)
  ·exact h
open Classical in
noncomputable def loop {σ ρ:Type} (f:σ->Option (σ⊕ρ)) (s:σ):Option ρ:=
 if h:∃n r,fa f n s=some r then some h.choose_spec.choose else none
theorem kV {σ ρ:Type} {f:σ->Option (σ⊕ρ)} {n:Nat} {s:σ} {r:ρ} (h:fa f n s=some r):loop f s=some r:=by
 have hx:∃n r,fa f n s=some r:=⟨n,r,h⟩
 unfold loop
 rw[dif_pos hx]
 have i:=hx.choose_spec.choose_spec
 have j:=nC i (Nat.le_max_left hx.choose n)
 have g:=nC h (Nat.le_max_right hx.choose n)
 rw[j]at g
 exact g
theorem nq {σ ρ:Type} {f:σ->Option (σ⊕ρ)} {s:σ} {r:ρ} (h:loop f s=some r):∃n,fa f n s=some r:=by
 unfold loop at h
 split at h
 ·rename_i hx
  simp only[Option.some.injEq]at h
  exact⟨_,h ▸ hx.choose_spec.choose_spec⟩
 ·cases h
theorem mf {σ ρ:Type} (f:σ->Option (σ⊕ρ)) (s:σ):loop f s=match f s with
  | none=>none
  | some (.inl s')=>loop f s'
  | some (.inr r)=>some r:=by
 cases hl:loop f s with
 | some r=>
  obtain⟨n,hn⟩:=nq hl
  cases n with
  | zero=>simp[fa]at hn
  | succ n=>
   simp only[fa]at hn
   split at hn
   ·cases hn
   ·simp only[kV hn]
   ·simp[hn]
 | none=>
  cases hf:f s with
  | none=>rfl
  | some x=>
   cases x with
   | inl s'=>
    simp only
    cases hl':loop f s' with
    | none=>rfl
    | some r=>
     obtain⟨n,hn⟩:=nq hl'
     have:fa f (n+1) s=some r:=by simp[fa,hf,hn]
     rw[kV this]at hl
     cases hl
   | inr r=>
    have:fa f 1 s=some r:=by simp[fa,hf]
    rw[kV this]at hl
    cases hl
theorem bB {σ ρ:Type} {f:σ->Option (σ⊕ρ)} {s g:σ} (h:f s=some (.inl g)):loop f s=loop f g:=by rw[mf,h]
theorem cK {σ ρ:Type} {f:σ->Option (σ⊕ρ)} {s:σ} {r:ρ} (h:f s=some (.inr r)):loop f s=some r:=by rw[mf,h]
def bN {σ ρ:Type} (s:σ):Option (σ⊕ρ):=some (.inl s)
def bz {σ ρ:Type} (x:Option ρ):Option (σ⊕ρ):=x.map .inr
def lk {σ ρ:Type} (f:σ->Option (σ⊕ρ)) (k:Nat) (r:ρ):σ⊕ρ->Prop
 | .inl s=>fa f k s=some r
 | .inr r'=>r'=r
theorem aW {σ ρ:Type} {f:σ->Option (σ⊕ρ)} {k:Nat} {r:ρ} {s:σ} {x:σ⊕ρ} (h:bN s=some x) (g:lk f k r x):fa f k s=some r:=by
 cases h; exact g
theorem aR {σ ρ:Type} {f:σ->Option (σ⊕ρ)} {k:Nat} {r:ρ} {y:Option ρ} {x:σ⊕ρ} (h:bz y=some x) (g:lk f k r x):y=some r:=by
 cases y with
 | none=>cases h
 | some z=>cases h; rw[<-(g:z=r)]
theorem DC {σ ρ:Type} {f:σ->Option (σ⊕ρ)} {k:Nat} {s:σ} {r:ρ} (h:fa f (k+1) s=some r):∃x,f s=some x/\lk f k r x:=by
 simp only[fa]at h
 split at h
 ·cases h
 ·rename_i g hs; exact⟨_,hs,h⟩
 ·rename_i i hs; exact⟨_,hs,by simpa [lk] using h⟩
end Go.Gk
end

section
namespace Go.Gk
open Go Go.RowKit
abbrev Env:=List (Nat×Value)
def Env.get:Env->Nat->Option Value
 | [],_=>none
 | (k,v) :: r,i=>bif Nat.beq k i then some v else Env.get r i
def Env.ev (L:Env):Operand->Option Value
 | .tmp t=>L.get t
 | .const v=>some v
 | .global g=>some (.pointer (some ⟨g,0,none⟩))
 | .func f=>some (.func (.func f) #[] #[])
def Env.evs (L:Env):List Operand->Option (List Value)
 | []=>some []
 | x :: r=>match L.ev x,Env.evs L r with
  | some v,some vs=>some (v :: vs)
  | _,_=>none
structure Rep (n:Nat) (L:Env) (a:Act):Prop where
 defers:a.defers=[]
 size:a.tmps.size=n
 get:∀i v,L.get i=some v->a.tmps[i]? = some v
theorem Rep.ev {n:Nat} {L:Env} {a:Act} {x:Operand} {v:Value} (h:Rep n L a) (hx:L.ev x=some v):a.eval x=v:=by
 cases x with
 | tmp t=>
  have:=h.get t v hx
  simp[Act.eval,this]
 | const u=>simpa [Env.ev,Act.eval] using hx
 | global g=>simpa [Env.ev,Act.eval] using hx
 | func f=>simpa [Env.ev,Act.eval] using hx
theorem Rep.evs {n:Nat} {L:Env} {a:Act} (h:Rep n L a):∀{xs:List Operand} {vs:List Value},L.evs xs=some vs->xs.map a.eval=vs
 | [],vs,hx=>by simp[Env.evs]at hx; simp[hx]
 | x :: r,vs,hx=>by
  simp only[Env.evs]at hx
  cases h1:L.ev x with
  | none=>simp[h1]at hx
  | some v=>
   cases h2:L.evs r with
   | none=>simp[h1,h2]at hx
   | some ws=>
    simp[h1,h2]at hx
    subst hx
    simp[h.ev h1,Rep.evs h h2]
theorem Rep.put {n:Nat} {L:Env} {a:Act} {d:Nat} {v:Value} (h:Rep n L a) (g:Nat.blt d n=true):Rep n ((d,v) :: L) (a.put (some d) v):=by
 have f:d<n:=by simpa [Nat.blt_eq] using g
 refine⟨h.defers,by simp[Act.put,h.size],fun i u hi=>?_⟩
 simp only[Env.get]at hi
 by_cases hk:d=i
 ·subst hk
  simp at hi
  simp[Act.put,h.size,f,hi]
 ·have:Nat.beq d i=false:=by
   cases hb:Nat.beq d i with
   | false=>rfl
   | true=>exact absurd (Nat.eq_of_beq_eq_true hb) hk
  rw[this]at hi
  simp only[cond_false]at hi
  have:=h.get i u hi
  simp only[Act.put]
  rw[Array.getElem?_setIfInBounds_ne hk]
  exact this
def Env.Le:Env->Env->Prop
 | [],_=>True
 | (k,v) :: r,L=>L.get k=some v/\Env.Le r L
theorem Env.Le.get {L:Env}:∀{f:Env},f.Le L->∀i v,f.get i=some v->L.get i=some v
 | [],_,i,v,h=>by simp[Env.get]at h
 | (k,u) :: r,hle,i,v,h=>by
  obtain⟨g,j⟩:=hle
  simp only[Env.get]at h
  by_cases hk:Nat.beq k i=true
  ·rw[hk]at h
   simp only[cond_true,Option.some.injEq]at h
   subst h
   rw[<-Nat.eq_of_beq_eq_true hk]
   exact g
  ·simp only[hk]at h
   exact Env.Le.get j i v (by simpa using h)
theorem Rep.le {n:Nat} {L f:Env} {a:Act} (h:Rep n L a) (hl:f.Le L):Rep n f a:=
 ⟨h.defers,h.size,fun i v hi=>h.get i v (hl.get i v hi)⟩
section
variable {P:Program} {n:Nat} {Q:Exit->Act->World->Prop} {L:Env} {w:World}
def wpC (P:Program) (n:Nat) (c:Code) (Q:Exit->Act->World->Prop) (L:Env) (w:World):Prop:=∀a,Rep n L a->c.wp P Q a w
def wpR (P:Program) (n:Nat) (ops:Array Oper) (Q:Exit->Act->World->Prop) (l:List Oper) (L:Env) (w:World):Prop:=∀a,Rep n L a->wpList P ops Q l a w
def QE (n:Nat) (Q:Exit->Act->World->Prop) (e:Exit) (L:Env) (w:World):Prop:=∀a,Rep n L a->Q e a w
def wpN (P:Program) (n:Nat) (c:Code) (Q:Exit->Act->World->Prop) (k:Nat) (L:Env) (w:World):Prop:=∀a,Rep n L a->Code.rounds P c Q k a w
theorem gj {c:Code} (f:Env) (hl:f.Le L) (h:wpC P n c Q f w):wpC P n c Q L w:=fun a ha=>h a (ha.le hl)
theorem Fi {c:Code} {k:Nat} (f:Env) (hl:f.Le L) (h:wpN P n c Q k f w):wpN P n c Q k L w:=fun a ha=>h a (ha.le hl)
theorem az {x y:Code} (h:wpC P n x (Exit.then (y.wp P Q) Q) L w):wpC P n (.seq x y) Q L w:=fun a ha=>wp_seq (h a ha)
theorem cf (h:QE n Q .normal L w):wpC P n .skip Q L w:=fun a ha=>wp_skip (h a ha)
theorem aZ {id:Nat} (h:QE n Q (.exit id) L w):wpC P n (.exit id) Q L w:=fun a ha=>wp_exit (h a ha)
theorem aq (h:QE n Q .ret L w):wpC P n .ret Q L w:=fun a ha=>wp_ret (h a ha)
theorem BH {c:Operand} {x y:Code} {t:Bool} (hc:L.ev c=some (.bool t)) (f:t=true->wpC P n x Q L w) (g:t=false->wpC P n y Q L w) :
  wpC P n (.cond c x y) Q L w:=fun a ha=>wp_cond_split (ha.ev hc) (fun h=>f h a ha) (fun h=>g h a ha)
theorem cZ {c:Operand} {x y:Code} (hc:L.ev c=some (.bool true)) (h:wpC P n x Q L w):wpC P n (.cond c x y) Q L w:=fun a ha=>wp_cond_true (ha.ev hc) (h a ha)
theorem eJ {c:Operand} {x y:Code} (hc:L.ev c=some (.bool false)) (h:wpC P n y Q L w):wpC P n (.cond c x y) Q L w:=fun a ha=>wp_cond_false (ha.ev hc) (h a ha)
theorem av {id:Nat} {c:Code} (h:wpC P n c (Exit.inBlock id Q) L w):wpC P n (.block id c) Q L w:=fun a ha=>wp_block (h a ha)
theorem pG {c:Code} (k:Nat) (h:wpN P n c Q k L w):wpC P n (.loop c) Q L w:=fun a ha=>wp_loop_rounds k (h a ha)
theorem gh {c:Code} {k:Nat} (h:wpC P n c (Exit.then (Code.rounds P c Q k) Q) L w):wpN P n c Q (k+1) L w:=fun a ha=>by rw[rounds_succ]; exact h a ha
theorem al {id:Nat} {l:List Oper} (h:wpR P n l.toArray Q l L w):wpC P n (.region id l.toArray false) Q L w:=fun a ha=>wp_region_lit (h a ha)
theorem am {y:Code} (h:wpC P n y Q L w):QE n (Exit.then (y.wp P Q) Q) .normal L w:=h
theorem aA {K:Act->World->Prop} {id:Nat} (h:QE n Q (.exit id) L w):QE n (Exit.then K Q) (.exit id) L w:=h
theorem aN {K:Act->World->Prop} (h:QE n Q .ret L w):QE n (Exit.then K Q) .ret L w:=h
theorem bo {c:Code} {k:Nat} (h:wpN P n c Q k L w):QE n (Exit.then (Code.rounds P c Q k) Q) .normal L w:=h
theorem aH {id:Nat} (h:QE n Q .normal L w):QE n (Exit.inBlock id Q) .normal L w:=h
theorem bb {id:Nat} (h:QE n Q .ret L w):QE n (Exit.inBlock id Q) .ret L w:=h
theorem a7 {id:Nat} (h:QE n Q .normal L w):QE n (Exit.inBlock id Q) (.exit id) L w:=fun a ha=>by
 show (if id=id then Q .normal a w else Q (.exit id) a w)
 rw[if_pos rfl]; exact h a ha
theorem jp {id f:Nat} (g:Nat.beq f id=false) (h:QE n Q (.exit f) L w):QE n (Exit.inBlock id Q) (.exit f) L w:=fun a ha=>by
 show (if f=id then Q .normal a w else Q (.exit f) a w)
 rw[if_neg (Nat.ne_of_beq_eq_false g)]; exact h a ha
theorem aG {ops:Array Oper} (h:QE n Q .normal L w):wpR P n ops Q [] L w:=h
theorem gl1 {ops:Array Oper} {x y:Code} (h:wpC P n x (Exit.then (y.wp P Q) Q) L w):wpR P n ops (Exit.then ((Code.seq x y).wp P Q) Q) [] L w:=aG (am (az h))
theorem gl2 {ops:Array Oper} {id:Nat} {l:List Oper} {y:Code} (h:wpR P n l.toArray (Exit.then (y.wp P Q) Q) l L w):wpR P n ops (Exit.then ((Code.seq (.region id l.toArray false) y).wp P Q) Q) [] L w:=aG (am (az (al h)))
theorem gl3 {ops:Array Oper} {y:Code} (h:wpC P n y Q L w):wpR P n ops (Exit.then (y.wp P Q) Q) [] L w:=aG (am h)
theorem gl4 {id:Nat} {l:List Oper} {y:Code} (h:wpR P n l.toArray (Exit.then (y.wp P Q) Q) l L w):wpC P n (.seq (.region id l.toArray false) y) Q L w:=az (al h)
theorem gl5 {y:Code} (h:wpC P n y Q L w):wpC P n .skip (Exit.then (y.wp P Q) Q) L w:=cf (am h)
theorem gl6 {id:Nat} {l:List Oper} {y:Code} (h:wpR P n l.toArray (Exit.then (y.wp P Q) Q) l L w):wpC P n .skip (Exit.then ((Code.seq (.region id l.toArray false) y).wp P Q) Q) L w:=cf (am (az (al h)))
theorem gl7 {K:Act->World->Prop} (h:QE n Q .ret L w):wpC P n .ret (Exit.then K Q) L w:=aq (aN h)
theorem gl8 {ops:Array Oper} {K:Act->World->Prop} (h:QE n Q .ret L w):wpR P n ops (Exit.then (Code.ret.wp P (Exit.then K Q)) (Exit.then K Q)) [] L w:=aG (am (aq (aN h)))
theorem Env.le_of:∀{f L:Env},f.map (fun p=>L.get p.1)=f.map (fun p=>some p.2)->f.Le L
 | [],_,_=>trivial
 | (k,v) :: r,L,h=>by
  rw[List.map_cons,List.map_cons]at h
  exact⟨(List.cons.inj h).1,Env.le_of (List.cons.inj h).2⟩
theorem ax {c:Code} (f:Env) (hl:f.map (fun p=>L.get p.1)=f.map (fun p=>some p.2)) (h:wpC P n c Q f w):wpC P n c Q L w:=gj f (Env.le_of hl) h
theorem aB {c:Code} {f:Env} (h:wpC P n c Q f w) (hl:f.map (fun p=>L.get p.1)=f.map (fun p=>some p.2)):wpC P n c Q L w:=gj f (Env.le_of hl) h
theorem br {c:Code} {k:Nat} {f:Env} (h:wpN P n c Q k f w) (hl:f.map (fun p=>L.get p.1)=f.map (fun p=>some p.2)):wpN P n c Q k L w:=Fi f (Env.le_of hl) h
theorem gl9 {c:Operand} {x y:Code} {t:Bool} {ρ:Type} {A B:Option ρ} {r:ρ} (hc:L.ev c=some (.bool t)) (h:(if t=true then A else B)=some r) (f:A=some r->wpC P n x Q L w) (g:B=some r->wpC P n y Q L w) :
  wpC P n (.cond c x y) Q L w:=BH hc (fun q=>f (bH h q)) (fun q=>g (bI h q))
def OpV (P:Program) (n:Nat) (L:Env) (w:World) (o:Oper) (v:Value) (w':World):Prop:=
 ∀a,Rep n L a->(execOp a.eval o).run P w=.ok (.value v) w'
theorem ag {ops:Array Oper} {rest:List Oper} {d:Nat} {f:Op} {ty:TypeId} {pos:String} {after:Array Edge} {v:Value} {w':World}
  (g:OpV P n L w ⟨some d,f,ty,pos,after,none⟩ v w') (i:Nat.blt d n=true)
  (h:wpR P n ops Q rest ((d,v) :: L) w'):wpR P n ops Q (⟨some d,f,ty,pos,after,none⟩ :: rest) L w:=fun a ha=>by
 unfold wpList
 rw[if_pos (by simp[Region.wanted])]
 refine .inl ?_
 unfold Oper.wp
 rw[g a ha]
 exact h _ (ha.put i)
def OpS (P:Program) (n:Nat) (L:Env) (w:World) (o:Oper) (w':World):Prop:=
 ∀a,Rep n L a->(execOp a.eval o).run P w=.ok .skip w'
theorem FO {ops:Array Oper} {rest:List Oper} {f:Op} {ty:TypeId} {pos:String} {after:Array Edge} {w':World}
  (g:OpS P n L w ⟨none,f,ty,pos,after,none⟩ w')
  (h:wpR P n ops Q rest L w'):wpR P n ops Q (⟨none,f,ty,pos,after,none⟩ :: rest) L w:=fun a ha=>by
 unfold wpList
 rw[if_pos (by simp[Region.wanted])]
 refine .inl ?_
 unfold Oper.wp
 rw[g a ha]
 exact h _ ha
theorem ea {w:World} {d:Option Tmp} {x:Operand} {v:Value} {ty:TypeId} {pos:String} {after:Array Edge} (hx:L.ev x=some v) :
  OpV P n L w ⟨d,.move x,ty,pos,after,none⟩ v w:=fun a ha=>by
 simp[execOp,ha.ev hx]
end
end Go.Gk
end

section
namespace Go.Gk
open Go Go.RowKit
abbrev vI (x:Int):Value:=.int .i64 x
abbrev vB (b:Bool):Value:=.bool b
abbrev vS (l:List UInt8):Value:=.string ⟨⟨l⟩⟩
abbrev v8 (x:UInt8):Value:=.int .u8 (x.toNat:Int)
abbrev v32 (x:UInt32):Value:=.int .u32 (x.toNat:Int)
abbrev v64 (x:UInt64):Value:=.int .u64 (x.toNat:Int)
abbrev pP (a:Addr):Value:=.pointer (some a)
def wI (x:Int):Int:=IntKind.i64.wrap x
theorem F8 (x:Int):wI x=if x%18446744073709551616 >= 9223372036854775808 then x%18446744073709551616 - 18446744073709551616 else x%18446744073709551616:=by
 simp[wI,IntKind.wrap,IntKind.bits,IntKind.signed]
theorem aI {x:Int} (f:-9223372036854775808<=x) (g:x<=9223372036854775807):wI x=x:=by
 rw[F8]; split <;> omega
def j3 (x y:Int):Int:=wI ((BitVec.ofInt 64 x &&& BitVec.ofInt 64 y).toNat:Int)
def eA (x:Int) (n:Nat):Int:=x.fdiv (2^(min n 64))
section
variable {P:Program}
def bL (P:Program) (op:BinOp) (T:TypeId) (a b v:Value):Prop:=
 ∀(x y:Operand) (w:World),(do eqGuard op T x y a b; binOp op T a b:Sem Value).run P w=.ok v w
def UnR (P:Program) (op:UnOp) (a v:Value):Prop:=∀(w:World),(Op.unary op a).run P w=.ok v w
def jy (P:Program) (src dst:TypeId) (a v:Value):Prop:=∀(w:World),(convert src dst a).run P w=.ok v w
variable {n:Nat} {L:Env} {w:World}
theorem aj {d:Option Tmp} {f:BinOp} {T T2:TypeId} {x y:Operand} {a b v:Value} {ty:TypeId} {pos:String} {after:Array Edge}
  (hx:L.ev x=some a) (hy:L.ev y=some b) (h:bL P f T a b v):OpV P n L w ⟨d,.binOp f T x y T2,ty,pos,after,none⟩ v w:=fun g ha=>by
 have:=h x y w
 simp only[Sem.run_bind]at this
 simp[execOp,ha.ev hx,ha.ev hy,Sem.run_bind]
 generalize (eqGuard f T x y a b).run P w=r at *
 cases r with
 | halt h w'=>simp[Result.andThen]at this
 | ok u w'=>simp[Result.andThen]at this ⊢; rw[this]
theorem nH {d:Option Tmp} {f:UnOp} {T:TypeId} {x:Operand} {a v:Value} {ty:TypeId} {pos:String} {after:Array Edge}
  (hx:L.ev x=some a) (h:UnR P f a v):OpV P n L w ⟨d,.unOp f T x,ty,pos,after,none⟩ v w:=fun g ha=>by
 simp[execOp,ha.ev hx,h w]
theorem aE {d:Option Tmp} {S T:TypeId} {x:Operand} {a v:Value} {ty:TypeId} {pos:String} {after:Array Edge}
  (hx:L.ev x=some a) (h:jy P S T a v):OpV P n L w ⟨d,.convert S T x,ty,pos,after,none⟩ v w:=fun f ha=>by
 simp[execOp,ha.ev hx,h w]
theorem bd {d:Option Tmp} {x:Operand} {v:Value} {ty:TypeId} {pos:String} {after:Array Edge} (hx:L.ev x=some v) :
  OpV P n L w ⟨d,.assign x,ty,pos,after,none⟩ v w:=fun a ha=>by
 simp[execOp,ha.ev hx]
theorem Af {d:Option Tmp} {c x y:Operand} {u:Value} {ty:TypeId} {pos:String} {after:Array Edge}
  (hc:L.ev c=some (vB true)) (hx:L.ev x=some u) :
  OpV P n L w ⟨d,.pick c x y,ty,pos,after,none⟩ u w:=fun a ha=>by
 simp[execOp,ha.ev hc,ha.ev hx,asBool]
theorem A6 {d:Option Tmp} {c x y:Operand} {v:Value} {ty:TypeId} {pos:String} {after:Array Edge}
  (hc:L.ev c=some (vB false)) (hy:L.ev y=some v) :
  OpV P n L w ⟨d,.pick c x y,ty,pos,after,none⟩ v w:=fun a ha=>by
 simp[execOp,ha.ev hc,ha.ev hy,asBool]
theorem wA {d:Option Tmp} {x:Operand} {i:Nat} {vs:Array Value} {v:Value} {ty:TypeId} {pos:String} {after:Array Edge}
  (hx:L.ev x=some (.tuple vs)) (f:vs[i]? = some v) :
  OpV P n L w ⟨d,.extract x i,ty,pos,after,none⟩ v w:=fun a ha=>by
 simp[execOp,ha.ev hx,Instr.extract,f]
theorem jF (T:TypeId) (x y:Int):bL P .add T (vI x) (vI y) (vI (wI (x+y))):=fun _ _ _=>rfl
theorem rc (T:TypeId) (x y:Int):bL P .sub T (vI x) (vI y) (vI (wI (x - y))):=fun _ _ _=>rfl
theorem ee (T:TypeId) (x y:Int):bL P .mul T (vI x) (vI y) (vI (wI (x*y))):=fun _ _ _=>rfl
theorem dJ (T:TypeId) (x y:Int) (h:¬y=0):bL P .quo T (vI x) (vI y) (vI (wI (x.tdiv y))):=fun _ _ _=>by
 simp[eqGuard,binOp,Op.intDiv,h,wI]
theorem kN (T:TypeId) (x y:Int) (h:¬y=0):bL P .rem T (vI x) (vI y) (vI (x.tmod y)):=fun _ _ _=>by
 simp[eqGuard,binOp,Op.intDiv,h]
theorem A2 (T:TypeId) (x y:Int):bL P .and T (vI x) (vI y) (vI (j3 x y)):=fun _ _ _=>rfl
theorem B2 (T:TypeId) (x:Int) (y:UInt64):bL P .shr T (vI x) (v64 y) (vI (eA x y.toNat)):=fun _ _ _=>by
 have:¬(y.toNat:Int)<0:=by omega
 simp[eqGuard,binOp,Op.shift,this,eA,IntKind.bits]
theorem ol (T:TypeId) (x y:Int):bL P .eql T (vI x) (vI y) (vB (x == y)):=fun _ _ _=>rfl
theorem Fl (T:TypeId) (x y:Int):bL P .neq T (vI x) (vI y) (vB (x != y)):=fun _ _ _=>rfl
theorem gz (T:TypeId) (x y:Int):bL P .lss T (vI x) (vI y) (vB (decide (x<y))):=fun _ _ _=>rfl
theorem Fn (T:TypeId) (x y:Int):bL P .leq T (vI x) (vI y) (vB (decide (x<=y))):=fun _ _ _=>rfl
theorem E7 (T:TypeId) (x y:Int):bL P .gtr T (vI x) (vI y) (vB (decide (y<x))):=fun _ _ _=>rfl
theorem uY (T:TypeId) (x y:Int):bL P .geq T (vI x) (vI y) (vB (decide (y<=x))):=fun _ _ _=>rfl
theorem Fb (x:Int):UnR P .neg (vI x) (vI (wI (0 - x))):=fun _=>rfl
theorem FK (b:Bool):UnR P .not (vB b) (vB (!b)):=fun _=>rfl
theorem Ai (l:List UInt8):(⟨⟨l⟩⟩:ByteArray).toList=l:=by
 exact Lib.toList_data _
def mu (x:UInt8) (n:Nat):UInt8:=UInt8.ofNat (x.toNat*2^(min n 8))
def jo (x:UInt8) (n:Nat):UInt8:=UInt8.ofNat (x.toNat / 2^(min n 8))
theorem kJ (x:Nat):IntKind.u8.wrap (x:Int)=((UInt8.ofNat x).toNat:Int):=by
 simp[IntKind.wrap,IntKind.bits,IntKind.signed,UInt8.toNat_ofNat']
theorem bv8 (x:UInt8):BitVec.ofInt 8 (x.toNat:Int)=x.toBitVec:=by
 apply BitVec.eq_of_toNat_eq
 simp
theorem vJ (T:TypeId) (x y:UInt8):bL P .sub T (v8 x) (v8 y) (v8 (x - y)):=fun _ _ w=>by
 have:(v8 (x - y))=.int .u8 (IntKind.u8.wrap ((x.toNat:Int) - y.toNat)):=by
  simp only[v8,Value.int.injEq,true_and,UInt8.toNat_sub]
  simp[IntKind.wrap,IntKind.bits,IntKind.signed]
  have:=x.toNat_lt; have:=y.toNat_lt
  omega
 rw[this]; rfl
theorem ER (T:TypeId) (x y:UInt8) (h:¬y=0):bL P .rem T (v8 x) (v8 y) (v8 (x%y)):=fun _ _ w=>by
 have hy:¬(y.toNat:Int)=0:=fun e=>h (UInt8.toNat_inj.1 (by simpa using e))
 have:((x.toNat:Int)).tmod y.toNat=((x%y).toNat:Int):=by rw[UInt8.toNat_mod]; rfl
 simp only[eqGuard,binOp,Op.intDiv,if_neg hy,this]; rfl
theorem me (T:TypeId) (x y:UInt8):bL P .and T (v8 x) (v8 y) (v8 (x &&& y)):=fun _ _ w=>by
 have:(v8 (x &&& y))=.int .u8 (IntKind.u8.wrap ((BitVec.ofInt 8 (x.toNat:Int) &&& BitVec.ofInt 8 (y.toNat:Int)).toNat:Int)):=by
  rw[bv8,bv8,kJ]
  simp[v8]
 rw[this]; rfl
theorem yq (T:TypeId) (x y:UInt8):bL P .or T (v8 x) (v8 y) (v8 (x ||| y)):=fun _ _ w=>by
 have:(v8 (x ||| y))=.int .u8 (IntKind.u8.wrap ((BitVec.ofInt 8 (x.toNat:Int) ||| BitVec.ofInt 8 (y.toNat:Int)).toNat:Int)):=by
  rw[bv8,bv8,kJ]
  simp[v8]
 rw[this]; rfl
theorem rf (T:TypeId) (x y:UInt8):bL P .xor T (v8 x) (v8 y) (v8 (x ^^^ y)):=fun _ _ w=>by
 have:(v8 (x ^^^ y))=.int .u8 (IntKind.u8.wrap ((BitVec.ofInt 8 (x.toNat:Int) ^^^ BitVec.ofInt 8 (y.toNat:Int)).toNat:Int)):=by
  rw[bv8,bv8,kJ]
  simp[v8]
 rw[this]; rfl
theorem zO (T:TypeId) (x y:UInt8):bL P .andNot T (v8 x) (v8 y) (v8 (x &&& ~~~ y)):=fun _ _ w=>by
 have:(v8 (x &&& ~~~ y))=.int .u8 (IntKind.u8.wrap ((BitVec.ofInt 8 (x.toNat:Int) &&& ~~~ BitVec.ofInt 8 (y.toNat:Int)).toNat:Int)):=by
  rw[bv8,bv8,kJ,<-UInt8.toBitVec_not,<-UInt8.toBitVec_and,UInt8.toNat_toBitVec]
  simp only[v8,UInt8.toNat_ofNat',Value.int.injEq,true_and]
  exact_mod_cast (Nat.mod_eq_of_lt (x &&& ~~~ y).toNat_lt).symm
 rw[this]; rfl
theorem FA (T:TypeId) (k:IntKind) (x:UInt8) (y:Int) (h:0<=y):bL P .shl T (v8 x) (.int k y) (v8 (mu x y.toNat)):=fun _ _ w=>by
 have hy:¬y<0:=by omega
 have:IntKind.u8.wrap ((x.toNat:Int)*2^(min y.toNat 8))=((mu x y.toNat).toNat:Int):=by
  rw[show (x.toNat:Int)*2^(min y.toNat 8)=((x.toNat*2^(min y.toNat 8):Nat):Int) by simp,kJ]; rfl
 simp[eqGuard,binOp,Op.shift,hy,IntKind.bits,this]
theorem zV (T:TypeId) (k:IntKind) (x:UInt8) (y:Int) (h:0<=y):bL P .shr T (v8 x) (.int k y) (v8 (jo x y.toNat)):=fun _ _ w=>by
 have hy:¬y<0:=by omega
 have:(x.toNat:Int).fdiv (2^(min y.toNat 8))=((jo x y.toNat).toNat:Int):=by
  rw[Int.fdiv_eq_ediv_of_nonneg _ (Int.le_of_lt (Int.pow_pos (by omega)))]
  simp only[jo,UInt8.toNat_ofNat']
  have:=x.toNat_lt
  rw[Nat.mod_eq_of_lt (Nat.lt_of_le_of_lt (Nat.div_le_self _ _) this)]
  simp
 simp[eqGuard,binOp,Op.shift,hy,IntKind.bits,this]
theorem od (T:TypeId) (x:UInt8) (y:UInt64):bL P .shl T (v8 x) (v64 y) (v8 (mu x y.toNat)):=by
 have:=FA (P:=P) T .u64 x y.toNat (by omega); simpa using this
theorem ow (T:TypeId) (x:UInt8) (y:UInt64):bL P .shr T (v8 x) (v64 y) (v8 (jo x y.toNat)):=by
 have:=zV (P:=P) T .u64 x y.toNat (by omega); simpa using this
theorem Bj (T:TypeId) (x:UInt8) (y:Int) (h:0<=y):bL P .shr T (v8 x) (vI y) (v8 (jo x y.toNat)):=zV T .i64 x y h
theorem fc (T:TypeId) (x y:UInt8):bL P .eql T (v8 x) (v8 y) (vB (x == y)):=fun _ _ w=>by
 have:(x == y)=((x.toNat:Int) == (y.toNat:Int)):=by
  rw[Bool.eq_iff_iff]; simp[<-UInt8.toNat_inj]; omega
 rw[this]; rfl
theorem qe (T:TypeId) (x y:UInt8):bL P .neq T (v8 x) (v8 y) (vB (x != y)):=fun _ _ w=>by
 have:(x != y)=((x.toNat:Int) != (y.toNat:Int)):=by
  rw[Bool.eq_iff_iff]; simp[<-UInt8.toNat_inj]; omega
 rw[this]; rfl
theorem vo (T:TypeId) (x y:UInt8):bL P .leq T (v8 x) (v8 y) (vB (decide (x<=y))):=fun _ _ w=>by
 have:decide (x<=y)=decide ((x.toNat:Int)<=(y.toNat:Int)):=by
  rw[Bool.eq_iff_iff]; simp[UInt8.le_iff_toNat_le]
 rw[this]; rfl
theorem vM (T:TypeId) (x y:UInt8):bL P .geq T (v8 x) (v8 y) (vB (decide (y<=x))):=fun _ _ w=>by
 have:decide (y<=x)=decide ((y.toNat:Int)<=(x.toNat:Int)):=by
  rw[Bool.eq_iff_iff]; simp[UInt8.le_iff_toNat_le]
 rw[this]; rfl
def cu (x:UInt32) (n:Nat):UInt32:=UInt32.ofNat (x.toNat*2^(min n 32))
def bv (x:UInt32) (n:Nat):UInt32:=UInt32.ofNat (x.toNat / 2^(min n 32))
theorem iG (x:Nat):IntKind.u32.wrap (x:Int)=((UInt32.ofNat x).toNat:Int):=by
 simp[IntKind.wrap,IntKind.bits,IntKind.signed,UInt32.toNat_ofNat']
theorem pJ (x:UInt32):BitVec.ofInt 32 (x.toNat:Int)=x.toBitVec:=by
 apply BitVec.eq_of_toNat_eq
 simp
theorem eP (T:TypeId) (x y:UInt32):bL P .add T (v32 x) (v32 y) (v32 (x+y)):=fun _ _ w=>by
 have:(v32 (x+y))=.int .u32 (IntKind.u32.wrap ((x.toNat:Int)+y.toNat)):=by
  rw[show (x.toNat:Int)+y.toNat=((x.toNat+y.toNat:Nat):Int) by simp,iG]
  simp[v32,UInt32.toNat_add]
 rw[this]; rfl
theorem xV (T:TypeId) (x y:UInt32):bL P .sub T (v32 x) (v32 y) (v32 (x - y)):=fun _ _ w=>by
 have:(v32 (x - y))=.int .u32 (IntKind.u32.wrap ((x.toNat:Int) - y.toNat)):=by
  simp only[v32,Value.int.injEq,true_and,UInt32.toNat_sub]
  simp[IntKind.wrap,IntKind.bits,IntKind.signed]
  have:=x.toNat_lt; have:=y.toNat_lt
  omega
 rw[this]; rfl
theorem km (T:TypeId) (x y:UInt32):bL P .and T (v32 x) (v32 y) (v32 (x &&& y)):=fun _ _ w=>by
 have:(v32 (x &&& y))=.int .u32 (IntKind.u32.wrap ((BitVec.ofInt 32 (x.toNat:Int) &&& BitVec.ofInt 32 (y.toNat:Int)).toNat:Int)):=by
  rw[pJ,pJ,iG]
  simp[v32]
 rw[this]; rfl
theorem gw (T:TypeId) (x y:UInt32):bL P .or T (v32 x) (v32 y) (v32 (x ||| y)):=fun _ _ w=>by
 have:(v32 (x ||| y))=.int .u32 (IntKind.u32.wrap ((BitVec.ofInt 32 (x.toNat:Int) ||| BitVec.ofInt 32 (y.toNat:Int)).toNat:Int)):=by
  rw[pJ,pJ,iG]
  simp[v32]
 rw[this]; rfl
theorem fW (T:TypeId) (x y:UInt32):bL P .xor T (v32 x) (v32 y) (v32 (x ^^^ y)):=fun _ _ w=>by
 have:(v32 (x ^^^ y))=.int .u32 (IntKind.u32.wrap ((BitVec.ofInt 32 (x.toNat:Int) ^^^ BitVec.ofInt 32 (y.toNat:Int)).toNat:Int)):=by
  rw[pJ,pJ,iG]
  simp[v32]
 rw[this]; rfl
theorem wW (T:TypeId) (k:IntKind) (x:UInt32) (y:Int) (h:0<=y):bL P .shl T (v32 x) (.int k y) (v32 (cu x y.toNat)):=fun _ _ w=>by
 have hy:¬y<0:=by omega
 have:IntKind.u32.wrap ((x.toNat:Int)*2^(min y.toNat 32))=((cu x y.toNat).toNat:Int):=by
  rw[show (x.toNat:Int)*2^(min y.toNat 32)=((x.toNat*2^(min y.toNat 32):Nat):Int) by simp,iG]; rfl
 simp[eqGuard,binOp,Op.shift,hy,IntKind.bits,this]
theorem xO (T:TypeId) (k:IntKind) (x:UInt32) (y:Int) (h:0<=y):bL P .shr T (v32 x) (.int k y) (v32 (bv x y.toNat)):=fun _ _ w=>by
 have hy:¬y<0:=by omega
 have:(x.toNat:Int).fdiv (2^(min y.toNat 32))=((bv x y.toNat).toNat:Int):=by
  rw[Int.fdiv_eq_ediv_of_nonneg _ (Int.le_of_lt (Int.pow_pos (by omega)))]
  simp only[bv,UInt32.toNat_ofNat']
  have:=x.toNat_lt
  rw[Nat.mod_eq_of_lt (Nat.lt_of_le_of_lt (Nat.div_le_self _ _) this)]
  simp
 simp[eqGuard,binOp,Op.shift,hy,IntKind.bits,this]
theorem kb (T:TypeId) (x:UInt32) (y:UInt64):bL P .shl T (v32 x) (v64 y) (v32 (cu x y.toNat)):=by
 have:=wW (P:=P) T .u64 x y.toNat (by omega); simpa using this
theorem de (T:TypeId) (x:UInt32) (y:UInt64):bL P .shr T (v32 x) (v64 y) (v32 (bv x y.toNat)):=by
 have:=xO (P:=P) T .u64 x y.toNat (by omega); simpa using this
theorem sF (T:TypeId) (x:UInt32) (y:Int) (h:0<=y):bL P .shl T (v32 x) (vI y) (v32 (cu x y.toNat)):=wW T .i64 x y h
theorem tf (T:TypeId) (x:UInt32) (y:Int) (h:0<=y):bL P .shr T (v32 x) (vI y) (v32 (bv x y.toNat)):=xO T .i64 x y h
theorem rN (T:TypeId) (x y:UInt32):bL P .eql T (v32 x) (v32 y) (vB (x == y)):=fun _ _ w=>by
 have:(x == y)=((x.toNat:Int) == (y.toNat:Int)):=by
  rw[Bool.eq_iff_iff]; simp[<-UInt32.toNat_inj]; omega
 rw[this]; rfl
theorem oN (T:TypeId) (x y:UInt32):bL P .neq T (v32 x) (v32 y) (vB (x != y)):=fun _ _ w=>by
 have:(x != y)=((x.toNat:Int) != (y.toNat:Int)):=by
  rw[Bool.eq_iff_iff]; simp[<-UInt32.toNat_inj]; omega
 rw[this]; rfl
theorem rV (T:TypeId) (x y:UInt32):bL P .lss T (v32 x) (v32 y) (vB (decide (x<y))):=fun _ _ w=>by
 have:decide (x<y)=decide ((x.toNat:Int)<(y.toNat:Int)):=by
  rw[Bool.eq_iff_iff]; simp[UInt32.lt_iff_toNat_lt]
 rw[this]; rfl
theorem DM (T:TypeId) (x y:UInt32):bL P .leq T (v32 x) (v32 y) (vB (decide (x<=y))):=fun _ _ w=>by
 have:decide (x<=y)=decide ((x.toNat:Int)<=(y.toNat:Int)):=by
  rw[Bool.eq_iff_iff]; simp[UInt32.le_iff_toNat_le]
 rw[this]; rfl
theorem Eh (T:TypeId) (x y:UInt32):bL P .gtr T (v32 x) (v32 y) (vB (decide (y<x))):=fun _ _ w=>by
 have:decide (y<x)=decide ((y.toNat:Int)<(x.toNat:Int)):=by
  rw[Bool.eq_iff_iff]; simp[UInt32.lt_iff_toNat_lt]
 rw[this]; rfl
theorem xz (T:TypeId) (x y:UInt32):bL P .geq T (v32 x) (v32 y) (vB (decide (y<=x))):=fun _ _ w=>by
 have:decide (y<=x)=decide ((y.toNat:Int)<=(x.toNat:Int)):=by
  rw[Bool.eq_iff_iff]; simp[UInt32.le_iff_toNat_le]
 rw[this]; rfl
theorem xb (x:UInt32):UnR P .xor (v32 x) (v32 (~~~ x)):=fun _=>by
 have:(v32 (~~~ x))=.int .u32 (IntKind.u32.wrap ((BitVec.ofInt 32 IntKind.u32.max ^^^ BitVec.ofInt 32 (x.toNat:Int)).toNat:Int)):=by
  rw[pJ,iG]
  have f:BitVec.ofInt 32 IntKind.u32.max=BitVec.allOnes 32:=by decide
  rw[f,BitVec.allOnes_xor,<-UInt32.toBitVec_not,UInt32.toNat_toBitVec]
  simp only[v32,UInt32.toNat_ofNat',Value.int.injEq,true_and]
  exact_mod_cast (Nat.mod_eq_of_lt (~~~ x).toNat_lt).symm
 rw[this]; rfl
def aF (x:UInt64) (n:Nat):UInt64:=UInt64.ofNat (x.toNat*2^(min n 64))
def aP (x:UInt64) (n:Nat):UInt64:=UInt64.ofNat (x.toNat / 2^(min n 64))
theorem gF (x:Nat):IntKind.u64.wrap (x:Int)=((UInt64.ofNat x).toNat:Int):=by
 simp[IntKind.wrap,IntKind.bits,IntKind.signed,UInt64.toNat_ofNat']
theorem Ch (x:Int):IntKind.u64.wrap x=((UInt64.ofInt x).toNat:Int):=by
 simp[IntKind.wrap,IntKind.bits,IntKind.signed,UInt64.ofInt,UInt64.toNat_ofNat']
 omega
theorem rD (x:UInt64):BitVec.ofInt 64 (x.toNat:Int)=x.toBitVec:=by
 apply BitVec.eq_of_toNat_eq
 simp
theorem cC (T:TypeId) (x y:UInt64):bL P .add T (v64 x) (v64 y) (v64 (x+y)):=fun _ _ w=>by
 have:(v64 (x+y))=.int .u64 (IntKind.u64.wrap ((x.toNat:Int)+y.toNat)):=by
  rw[show (x.toNat:Int)+y.toNat=((x.toNat+y.toNat:Nat):Int) by simp,gF]
  simp[v64,UInt64.toNat_add]
 rw[this]; rfl
theorem fu (T:TypeId) (x y:UInt64):bL P .sub T (v64 x) (v64 y) (v64 (x - y)):=fun _ _ w=>by
 have:(v64 (x - y))=.int .u64 (IntKind.u64.wrap ((x.toNat:Int) - y.toNat)):=by
  simp only[v64,Value.int.injEq,true_and,UInt64.toNat_sub]
  simp[IntKind.wrap,IntKind.bits,IntKind.signed]
  have:=x.toNat_lt; have:=y.toNat_lt
  omega
 rw[this]; rfl
theorem js (T:TypeId) (x y:UInt64):bL P .mul T (v64 x) (v64 y) (v64 (x*y)):=fun _ _ w=>by
 have:(v64 (x*y))=.int .u64 (IntKind.u64.wrap ((x.toNat:Int)*y.toNat)):=by
  rw[show (x.toNat:Int)*y.toNat=((x.toNat*y.toNat:Nat):Int) by simp,gF]
  simp[v64,UInt64.toNat_mul]
 rw[this]; rfl
theorem jk (T:TypeId) (x y:UInt64) (h:¬y=0):bL P .quo T (v64 x) (v64 y) (v64 (x / y)):=fun _ _ w=>by
 have hy:¬(y.toNat:Int)=0:=fun e=>h (UInt64.toNat_inj.1 (by simpa using e))
 have:IntKind.u64.wrap (((x.toNat:Int)).tdiv y.toNat)=((x / y).toNat:Int):=by
  rw[show ((x.toNat:Int)).tdiv y.toNat=((x.toNat / y.toNat:Nat):Int) from rfl,gF]
  rw[UInt64.toNat_div,UInt64.toNat_ofNat',Nat.mod_eq_of_lt (Nat.lt_of_le_of_lt (Nat.div_le_self _ _) x.toNat_lt)]
 simp only[eqGuard,binOp,Op.intDiv,if_neg hy,this]; rfl
theorem fp (T:TypeId) (x y:UInt64) (h:¬y=0):bL P .rem T (v64 x) (v64 y) (v64 (x%y)):=fun _ _ w=>by
 have hy:¬(y.toNat:Int)=0:=fun e=>h (UInt64.toNat_inj.1 (by simpa using e))
 have:((x.toNat:Int)).tmod y.toNat=((x%y).toNat:Int):=by rw[UInt64.toNat_mod]; rfl
 simp only[eqGuard,binOp,Op.intDiv,if_neg hy,this]; rfl
theorem fX (T:TypeId) (x y:UInt64):bL P .and T (v64 x) (v64 y) (v64 (x &&& y)):=fun _ _ w=>by
 have:(v64 (x &&& y))=.int .u64 (IntKind.u64.wrap ((BitVec.ofInt 64 (x.toNat:Int) &&& BitVec.ofInt 64 (y.toNat:Int)).toNat:Int)):=by
  rw[rD,rD,gF]
  simp[v64]
 rw[this]; rfl
theorem dL (T:TypeId) (x y:UInt64):bL P .or T (v64 x) (v64 y) (v64 (x ||| y)):=fun _ _ w=>by
 have:(v64 (x ||| y))=.int .u64 (IntKind.u64.wrap ((BitVec.ofInt 64 (x.toNat:Int) ||| BitVec.ofInt 64 (y.toNat:Int)).toNat:Int)):=by
  rw[rD,rD,gF]
  simp[v64]
 rw[this]; rfl
theorem fN (T:TypeId) (x y:UInt64):bL P .xor T (v64 x) (v64 y) (v64 (x ^^^ y)):=fun _ _ w=>by
 have:(v64 (x ^^^ y))=.int .u64 (IntKind.u64.wrap ((BitVec.ofInt 64 (x.toNat:Int) ^^^ BitVec.ofInt 64 (y.toNat:Int)).toNat:Int)):=by
  rw[rD,rD,gF]
  simp[v64]
 rw[this]; rfl
theorem xW (T:TypeId) (k:IntKind) (x:UInt64) (y:Int) (h:0<=y):bL P .shl T (v64 x) (.int k y) (v64 (aF x y.toNat)):=fun _ _ w=>by
 have hy:¬y<0:=by omega
 have:IntKind.u64.wrap ((x.toNat:Int)*2^(min y.toNat 64))=((aF x y.toNat).toNat:Int):=by
  rw[show (x.toNat:Int)*2^(min y.toNat 64)=((x.toNat*2^(min y.toNat 64):Nat):Int) by simp,gF]; rfl
 simp[eqGuard,binOp,Op.shift,hy,IntKind.bits,this]
theorem xg (T:TypeId) (k:IntKind) (x:UInt64) (y:Int) (h:0<=y):bL P .shr T (v64 x) (.int k y) (v64 (aP x y.toNat)):=fun _ _ w=>by
 have hy:¬y<0:=by omega
 have:(x.toNat:Int).fdiv (2^(min y.toNat 64))=((aP x y.toNat).toNat:Int):=by
  rw[Int.fdiv_eq_ediv_of_nonneg _ (Int.le_of_lt (Int.pow_pos (by omega)))]
  simp only[aP,UInt64.toNat_ofNat']
  have:=x.toNat_lt
  rw[Nat.mod_eq_of_lt (Nat.lt_of_le_of_lt (Nat.div_le_self _ _) this)]
  simp
 simp[eqGuard,binOp,Op.shift,hy,IntKind.bits,this]
theorem cp (T:TypeId) (x:UInt64) (y:UInt64):bL P .shl T (v64 x) (v64 y) (v64 (aF x y.toNat)):=by
 have:=xW (P:=P) T .u64 x y.toNat (by omega); simpa using this
theorem ca (T:TypeId) (x:UInt64) (y:UInt64):bL P .shr T (v64 x) (v64 y) (v64 (aP x y.toNat)):=by
 have:=xg (P:=P) T .u64 x y.toNat (by omega); simpa using this
theorem sM (T:TypeId) (x:UInt64) (y:Int) (h:0<=y):bL P .shl T (v64 x) (vI y) (v64 (aF x y.toNat)):=xW T .i64 x y h
theorem nW (T:TypeId) (x:UInt64) (y:Int) (h:0<=y):bL P .shr T (v64 x) (vI y) (v64 (aP x y.toNat)):=xg T .i64 x y h
theorem lZ (T:TypeId) (x y:UInt64):bL P .eql T (v64 x) (v64 y) (vB (x == y)):=fun _ _ w=>by
 have:(x == y)=((x.toNat:Int) == (y.toNat:Int)):=by
  rw[Bool.eq_iff_iff]; simp[<-UInt64.toNat_inj]; omega
 rw[this]; rfl
theorem Eb (T:TypeId) (x y:UInt64):bL P .neq T (v64 x) (v64 y) (vB (x != y)):=fun _ _ w=>by
 have:(x != y)=((x.toNat:Int) != (y.toNat:Int)):=by
  rw[Bool.eq_iff_iff]; simp[<-UInt64.toNat_inj]; omega
 rw[this]; rfl
theorem Er (T:TypeId) (x y:UInt64):bL P .lss T (v64 x) (v64 y) (vB (decide (x<y))):=fun _ _ w=>by
 have:decide (x<y)=decide ((x.toNat:Int)<(y.toNat:Int)):=by
  rw[Bool.eq_iff_iff]; simp[UInt64.lt_iff_toNat_lt]
 rw[this]; rfl
theorem l9 (T:TypeId) (x y:UInt64):bL P .gtr T (v64 x) (v64 y) (vB (decide (y<x))):=fun _ _ w=>by
 have:decide (y<x)=decide ((y.toNat:Int)<(x.toNat:Int)):=by
  rw[Bool.eq_iff_iff]; simp[UInt64.lt_iff_toNat_lt]
 rw[this]; rfl
theorem wU (T:TypeId) (x y:UInt64):bL P .geq T (v64 x) (v64 y) (vB (decide (y<=x))):=fun _ _ w=>by
 have:decide (y<=x)=decide ((y.toNat:Int)<=(x.toNat:Int)):=by
  rw[Bool.eq_iff_iff]; simp[UInt64.le_iff_toNat_le]
 rw[this]; rfl
theorem DH (x:UInt64):UnR P .neg (v64 x) (v64 (0 - x)):=fun _=>by
 have:(v64 (0 - x))=.int .u64 (IntKind.u64.wrap (0 - (x.toNat:Int))):=by
  simp only[v64,Value.int.injEq,true_and,UInt64.toNat_sub]
  simp[IntKind.wrap,IntKind.bits,IntKind.signed]
  have:=x.toNat_lt
  omega
 rw[this]; rfl
theorem fv {S T:TypeId} (f:P.underlying S=some (.int .i64)) (g:P.underlying T=some (.int .u64)) (x:Int):jy P S T (vI x) (v64 (UInt64.ofInt x)):=fun w=>by
 have:IntKind.u64.wrap x=((UInt64.ofInt x).toNat:Int):=by rw[Ch]
 simp[convert,run_underlying f,run_underlying g,Conv.intToInt,this]
theorem rk {S T:TypeId} (f:P.underlying S=some (.int .u8)) (g:P.underlying T=some (.int .i64)) (x:UInt8):jy P S T (v8 x) (vI ((x.toNat:Int))):=fun w=>by
 have:IntKind.i64.wrap (x.toNat:Int)=(x.toNat:Int):=by have:=x.toNat_lt; exact aI (by omega) (by omega)
 simp[convert,run_underlying f,run_underlying g,Conv.intToInt,this]
theorem lY {S T:TypeId} (f:P.underlying S=some (.int .u8)) (g:P.underlying T=some (.int .u32)) (x:UInt8):jy P S T (v8 x) (v32 (x.toUInt32)):=fun w=>by
 have:IntKind.u32.wrap (x.toNat:Int)=((x.toUInt32).toNat:Int):=by rw[iG]; simp
 simp[convert,run_underlying f,run_underlying g,Conv.intToInt,this]
theorem mc {S T:TypeId} (f:P.underlying S=some (.int .u8)) (g:P.underlying T=some (.int .u64)) (x:UInt8):jy P S T (v8 x) (v64 (x.toUInt64)):=fun w=>by
 have:IntKind.u64.wrap (x.toNat:Int)=((x.toUInt64).toNat:Int):=by rw[gF]; simp
 simp[convert,run_underlying f,run_underlying g,Conv.intToInt,this]
theorem fT {S T:TypeId} (f:P.underlying S=some (.int .u32)) (g:P.underlying T=some (.int .u8)) (x:UInt32):jy P S T (v32 x) (v8 (x.toUInt8)):=fun w=>by
 have:IntKind.u8.wrap (x.toNat:Int)=((x.toUInt8).toNat:Int):=by rw[kJ]; simp
 simp[convert,run_underlying f,run_underlying g,Conv.intToInt,this]
theorem bC {S T:TypeId} (f:P.underlying S=some (.int .u32)) (g:P.underlying T=some (.int .u64)) (x:UInt32):jy P S T (v32 x) (v64 (x.toUInt64)):=fun w=>by
 have:IntKind.u64.wrap (x.toNat:Int)=((x.toUInt64).toNat:Int):=by rw[gF]; simp
 simp[convert,run_underlying f,run_underlying g,Conv.intToInt,this]
theorem oD {S T:TypeId} (f:P.underlying S=some (.int .u64)) (g:P.underlying T=some (.int .i64)) (x:UInt64):jy P S T (v64 x) (vI (wI (x.toNat:Int))):=fun w=>by
 have:IntKind.i64.wrap (x.toNat:Int)=wI (x.toNat:Int):=by rfl
 simp[convert,run_underlying f,run_underlying g,Conv.intToInt,this]
theorem iK {S T:TypeId} (f:P.underlying S=some (.int .u64)) (g:P.underlying T=some (.int .u8)) (x:UInt64):jy P S T (v64 x) (v8 (x.toUInt8)):=fun w=>by
 have:IntKind.u8.wrap (x.toNat:Int)=((x.toUInt8).toNat:Int):=by rw[kJ]; simp
 simp[convert,run_underlying f,run_underlying g,Conv.intToInt,this]
theorem ce {S T:TypeId} (f:P.underlying S=some (.int .u64)) (g:P.underlying T=some (.int .u32)) (x:UInt64):jy P S T (v64 x) (v32 (x.toUInt32)):=fun w=>by
 have:IntKind.u32.wrap (x.toNat:Int)=((x.toUInt32).toNat:Int):=by rw[iG]; simp
 simp[convert,run_underlying f,run_underlying g,Conv.intToInt,this]
end
end Go.Gk
end
