import Derived.Tactics
import Derived.LoopN
import Derived.Below
import Derived.KernelRfl
import Derived.Lib.Strings
set_option linter.unusedVariables false
set_option linter.unusedSimpArgs false
set_option linter.unusedSectionVars false

section
namespace Go.Gk
def aB {τ:Type} (l:List τ) (i:Int):Option τ:=if 0≤i then l[i.toNat]? else none
theorem dz {τ:Type} {l:List τ} {i:Int} {x:τ} (h:aB l i=some x):0≤i∧i.toNat<l.length∧l[i.toNat]? = some x:=by
 unfold aB at h
 split at h
 ·exact ⟨‹_›,(List.getElem?_eq_some_iff.1 h).1,h⟩
 ·cases h
theorem sc {τ:Type} (l:List τ) (i:Nat):aB l (i:Int)=l[i]?:=by
 simp [aB]
def slO {τ:Type} (l:List τ) (lo hi:Int):Option (List τ):=if 0≤lo∧lo≤hi∧hi.toNat≤l.length then some ((l.drop lo.toNat).take (hi.toNat - lo.toNat)) else none
theorem cy {τ:Type} {l r:List τ} {lo hi:Int} (h:slO l lo hi=some r):(0≤lo∧lo≤hi∧hi.toNat≤l.length)∧r=(l.drop lo.toNat).take (hi.toNat - lo.toNat):=by
 unfold slO at h
 split at h
 ·simp at h; exact ⟨‹_›,h.symm⟩
 ·cases h
def drO {τ:Type} (l:List τ) (lo:Int):Option (List τ):=if 0≤lo∧lo.toNat≤l.length then some (l.drop lo.toNat) else none
theorem f0 {τ:Type} {l r:List τ} {lo:Int} (h:drO l lo=some r):(0≤lo∧lo.toNat≤l.length)∧r=l.drop lo.toNat:=by
 unfold drO at h
 split at h
 ·simp at h; exact ⟨‹_›,h.symm⟩
 ·cases h
def tkO {τ:Type} (l:List τ) (hi:Int):Option (List τ):=if 0≤hi∧hi.toNat≤l.length then some (l.take hi.toNat) else none
theorem nj {τ:Type} {l r:List τ} {hi:Int} (h:tkO l hi=some r):(0≤hi∧hi.toNat≤l.length)∧r=l.take hi.toNat:=by
 unfold tkO at h
 split at h
 ·simp at h; exact ⟨‹_›,h.symm⟩
 ·cases h
theorem kY {τ:Type} {l:List τ} {hi:Int} (h:0≤hi∧hi.toNat≤l.length):tkO l hi=some (l.take hi.toNat):=if_pos h
def mkO {τ:Type} (bytes:Nat) (l c:Int) (t0:τ):Option (List τ):=
 if 0≤l∧l≤c∧(bytes:Int)*c≤281474976710656∧c≤9223372036854775807 then some (List.replicate l.toNat t0) else none
theorem wZ {τ:Type} {bytes:Nat} {l c:Int} {t0:τ} {r:List τ} (h:mkO bytes l c t0=some r) :
  r=List.replicate l.toNat t0∧0≤l∧l≤c∧(bytes:Int)*c≤281474976710656∧c≤9223372036854775807:=by
 unfold mkO at h
 split at h
 ·rename_i hc; simp at h; exact ⟨h.symm,hc⟩
 ·cases h
def apO {τ:Type} (bytes:Nat) (l m:List τ):Option (List τ):=if (l.length+m.length)*bytes≤225000000000000 then some (l++m) else none
theorem kK {τ:Type} {bytes:Nat} {l m r:List τ} (h:apO bytes l m=some r):r=l++m∧(l.length+m.length)*bytes≤225000000000000:=by
 unfold apO at h
 split at h
 ·simp at h; exact ⟨h.symm,‹_›⟩
 ·cases h
def grd {ρ:Type} (p:Prop) [Decidable p] (k:Option ρ):Option ρ:=if p then k else none
theorem bZ {ρ:Type} {p:Prop} [Decidable p] {k:Option ρ} {r:ρ} (h:grd p k=some r):p∧k=some r:=by
 unfold grd at h
 split at h
 ·exact ⟨‹_›,h⟩
 ·cases h
@[simp] theorem grd_true {ρ:Type} {p:Prop} [Decidable p] (k:Option ρ) (h:p):grd p k=k:=by simp [grd,h]
def bq {α ρ:Type} (a:α) (k:α→Option ρ):Option ρ:=k a
theorem aQ {α ρ:Type} {a:α} {k:α→Option ρ} {r:ρ} (h:bq a k=some r):∃x,a=x∧k x=some r:=⟨a,rfl,h⟩
abbrev an {α ρ:Type} (x:Option α) (k:α→Option ρ):Option ρ:=x.bind k
theorem aj {α ρ:Type} {x:Option α} {k:α→Option ρ} {r:ρ} (h:an x k=some r):∃a,x=some a∧k a=some r:=Option.bind_eq_some_iff.1 h
theorem aJ {ρ:Type} {b:Bool} {x y:Option ρ} {r:ρ} (h:(if b=true then x else y)=some r) (hb:b=true):x=some r:=by rw [if_pos hb]at h; exact h
theorem aI {ρ:Type} {b:Bool} {x y:Option ρ} {r:ρ} (h:(if b=true then x else y)=some r) (hb:b=false):y=some r:=by
 rw [if_neg (by rw [hb]; exact Bool.false_ne_true)]at h; exact h
def cpL {τ:Type} (l m:List τ) (lo hi:Nat):List τ:=l.take lo++m.take (hi - lo)++l.drop (lo+min m.length (hi - lo))
theorem et {τ:Type} (l m:List τ) (lo hi:Nat) (h1:lo≤hi) (h2:hi≤l.length):(cpL l m lo hi).length=l.length:=by
 simp [cpL]; omega
def fX {α ρ:Type} (o:Option α) (x:Option ρ) (y:α→Option ρ):Option ρ:=match o with
 | none=>x
 | some a=>y a
theorem fG {α ρ:Type} {o:Option α} {x:Option ρ} {y:α→Option ρ} {r:ρ} (h:fX o x y=some r) (ho:o=none):x=some r:=by subst ho; exact h
theorem fv {α ρ:Type} {o:Option α} {x:Option ρ} {y:α→Option ρ} {r:ρ} {a:α} (h:fX o x y=some r) (ho:o=some a):y a=some r:=by subst ho; exact h
def ei {σ ρ:Type} (f:σ→Option (σ⊕ρ)):Nat→σ→Option ρ
 | 0,_=>none
 | n+1,s=>match f s with
  | none=>none
  | some (.inl s')=>ei f n s'
  | some (.inr r)=>some r
theorem lH {σ ρ:Type} {f:σ→Option (σ⊕ρ)}:∀{n:Nat} {s:σ} {r:ρ},ei f n s=some r→∀{m:Nat},n≤m→ei f m s=some r
 | 0,_,_,h,_,_=>by simp [ei]at h
 | n+1,s,r,h,0,hm=>by omega
 | n+1,s,r,h,m+1,hm=>by
  simp only [ei]at h ⊢
  split at h
  ·cases h
  ·exact lH h (by omega)
  ·exact h
open Classical in
noncomputable def loop {σ ρ:Type} (f:σ→Option (σ⊕ρ)) (s:σ):Option ρ:=
 if h:∃n r,ei f n s=some r then some h.choose_spec.choose else none
theorem k8 {σ ρ:Type} {f:σ→Option (σ⊕ρ)} {n:Nat} {s:σ} {r:ρ} (h:ei f n s=some r):loop f s=some r:=by
 have hx:∃n r,ei f n s=some r:=⟨n,r,h⟩
 unfold loop
 rw [dif_pos hx]
 have h2:=hx.choose_spec.choose_spec
 have h3:=lH h2 (Nat.le_max_left hx.choose n)
 have h4:=lH h (Nat.le_max_right hx.choose n)
 rw [h3]at h4
 exact h4
theorem lS {σ ρ:Type} {f:σ→Option (σ⊕ρ)} {s:σ} {r:ρ} (h:loop f s=some r):∃n,ei f n s=some r:=by
 unfold loop at h
 split at h
 ·rename_i hx
  simp only [Option.some.injEq]at h
  exact ⟨_,h ▸ hx.choose_spec.choose_spec⟩
 ·cases h
theorem jZ {σ ρ:Type} (f:σ→Option (σ⊕ρ)) (s:σ):loop f s=match f s with
  | none=>none
  | some (.inl s')=>loop f s'
  | some (.inr r)=>some r:=by
 cases hl:loop f s with
 | some r=>
  obtain ⟨n,hn⟩:=lS hl
  cases n with
  | zero=>simp [ei]at hn
  | succ n=>
   simp only [ei]at hn
   split at hn
   ·cases hn
   ·simp only [k8 hn]
   ·simp [hn]
 | none=>
  cases hf:f s with
  | none=>rfl
  | some x=>
   cases x with
   | inl s'=>
    simp only
    cases hl':loop f s' with
    | none=>rfl
    | some r=>
     obtain ⟨n,hn⟩:=lS hl'
     have:ei f (n+1) s=some r:=by simp [ei,hf,hn]
     rw [k8 this]at hl
     cases hl
   | inr r=>
    have:ei f 1 s=some r:=by simp [ei,hf]
    rw [k8 this]at hl
    cases hl
theorem bI {σ ρ:Type} {f:σ→Option (σ⊕ρ)} {s s':σ} (h:f s=some (.inl s')):loop f s=loop f s':=by rw [jZ,h]
theorem dM {σ ρ:Type} {f:σ→Option (σ⊕ρ)} {s:σ} {r:ρ} (h:f s=some (.inr r)):loop f s=some r:=by rw [jZ,h]
def bv {σ ρ:Type} (s:σ):Option (σ⊕ρ):=some (.inl s)
def bl {σ ρ:Type} (x:Option ρ):Option (σ⊕ρ):=x.map .inr
def lk {σ ρ:Type} (f:σ→Option (σ⊕ρ)) (k:Nat) (r:ρ):σ⊕ρ→Prop
 | .inl s=>ei f k s=some r
 | .inr r'=>r'=r
theorem aY {σ ρ:Type} {f:σ→Option (σ⊕ρ)} {k:Nat} {r:ρ} {s:σ} {x:σ⊕ρ} (h:bv s=some x) (hk:lk f k r x):ei f k s=some r:=by
 cases h; exact hk
theorem aT {σ ρ:Type} {f:σ→Option (σ⊕ρ)} {k:Nat} {r:ρ} {y:Option ρ} {x:σ⊕ρ} (h:bl y=some x) (hk:lk f k r x):y=some r:=by
 cases y with
 | none=>cases h
 | some z=>cases h; rw [←(hk:z=r)]
theorem zm {σ ρ:Type} {f:σ→Option (σ⊕ρ)} {k:Nat} {s:σ} {r:ρ} (h:ei f (k+1) s=some r):∃x,f s=some x∧lk f k r x:=by
 simp only [ei]at h
 split at h
 ·cases h
 ·rename_i s' hs; exact ⟨_,hs,h⟩
 ·rename_i r' hs; exact ⟨_,hs,by simpa [lk] using h⟩
end Go.Gk
end

section
namespace Go.Gk
open Go Go.RowKit
abbrev Env:=List (Nat×Value)
def Env.get:Env→Nat→Option Value
 | [],_=>none
 | (k,v) :: r,i=>bif Nat.beq k i then some v else Env.get r i
def Env.ev (L:Env):Operand→Option Value
 | .tmp t=>L.get t
 | .const v=>some v
 | .global g=>some (.pointer (some ⟨g,0,none⟩))
 | .func f=>some (.func (.func f) #[] #[])
def Env.evs (L:Env):List Operand→Option (List Value)
 | []=>some []
 | x :: r=>match L.ev x,Env.evs L r with
  | some v,some vs=>some (v :: vs)
  | _,_=>none
structure Rep (n:Nat) (L:Env) (a:Act):Prop where
 defers:a.defers=[]
 size:a.tmps.size=n
 get:∀i v,L.get i=some v→a.tmps[i]? = some v
theorem Rep.ev {n:Nat} {L:Env} {a:Act} {x:Operand} {v:Value} (h:Rep n L a) (hx:L.ev x=some v):a.eval x=v:=by
 cases x with
 | tmp t=>
  have:=h.get t v hx
  simp [Act.eval,this]
 | const u=>simpa [Env.ev,Act.eval] using hx
 | global g=>simpa [Env.ev,Act.eval] using hx
 | func f=>simpa [Env.ev,Act.eval] using hx
theorem Rep.evs {n:Nat} {L:Env} {a:Act} (h:Rep n L a):∀{xs:List Operand} {vs:List Value},L.evs xs=some vs→xs.map a.eval=vs
 | [],vs,hx=>by simp [Env.evs]at hx; simp [hx]
 | x :: r,vs,hx=>by
  simp only [Env.evs]at hx
  cases h1:L.ev x with
  | none=>simp [h1]at hx
  | some v=>
   cases h2:L.evs r with
   | none=>simp [h1,h2]at hx
   | some ws=>
    simp [h1,h2]at hx
    subst hx
    simp [h.ev h1,Rep.evs h h2]
theorem Rep.put {n:Nat} {L:Env} {a:Act} {d:Nat} {v:Value} (h:Rep n L a) (hd:Nat.blt d n=true):Rep n ((d,v) :: L) (a.put (some d) v):=by
 have hdn:d<n:=by simpa [Nat.blt_eq] using hd
 refine ⟨h.defers,by simp [Act.put,h.size],fun i u hi=>?_⟩
 simp only [Env.get]at hi
 by_cases hk:d=i
 ·subst hk
  simp at hi
  simp [Act.put,h.size,hdn,hi]
 ·have:Nat.beq d i=false:=by
   cases hb:Nat.beq d i with
   | false=>rfl
   | true=>exact absurd (Nat.eq_of_beq_eq_true hb) hk
  rw [this]at hi
  simp only [cond_false]at hi
  have:=h.get i u hi
  simp only [Act.put]
  rw [Array.getElem?_setIfInBounds_ne hk]
  exact this
def Env.Le:Env→Env→Prop
 | [],_=>True
 | (k,v) :: r,L=>L.get k=some v∧Env.Le r L
theorem Env.Le.get {L:Env}:∀{L':Env},L'.Le L→∀i v,L'.get i=some v→L.get i=some v
 | [],_,i,v,h=>by simp [Env.get]at h
 | (k,u) :: r,hle,i,v,h=>by
  obtain ⟨h1,h2⟩:=hle
  simp only [Env.get]at h
  by_cases hk:Nat.beq k i=true
  ·rw [hk]at h
   simp only [cond_true,Option.some.injEq]at h
   subst h
   rw [←Nat.eq_of_beq_eq_true hk]
   exact h1
  ·simp only [hk]at h
   exact Env.Le.get h2 i v (by simpa using h)
theorem Rep.le {n:Nat} {L L':Env} {a:Act} (h:Rep n L a) (hl:L'.Le L):Rep n L' a:=
 ⟨h.defers,h.size,fun i v hi=>h.get i v (hl.get i v hi)⟩
section
variable {P:Program} {n:Nat} {Q:Exit→Act→World→Prop} {L:Env} {w:World}
def wpC (P:Program) (n:Nat) (c:Code) (Q:Exit→Act→World→Prop) (L:Env) (w:World):Prop:=∀a,Rep n L a→c.wp P Q a w
def wpR (P:Program) (n:Nat) (ops:Array Oper) (Q:Exit→Act→World→Prop) (l:List Oper) (L:Env) (w:World):Prop:=∀a,Rep n L a→wpList P ops Q l a w
def QE (n:Nat) (Q:Exit→Act→World→Prop) (e:Exit) (L:Env) (w:World):Prop:=∀a,Rep n L a→Q e a w
def wpN (P:Program) (n:Nat) (c:Code) (Q:Exit→Act→World→Prop) (k:Nat) (L:Env) (w:World):Prop:=∀a,Rep n L a→Code.rounds P c Q k a w
theorem ar {c:Code} (L':Env) (hl:L'.Le L) (h:wpC P n c Q L' w):wpC P n c Q L w:=fun a ha=>h a (ha.le hl)
theorem bo {c:Code} {k:Nat} (L':Env) (hl:L'.Le L) (h:wpN P n c Q k L' w):wpN P n c Q k L w:=fun a ha=>h a (ha.le hl)
theorem ah {x y:Code} (h:wpC P n x (Exit.then (y.wp P Q) Q) L w):wpC P n (.seq x y) Q L w:=fun a ha=>wp_seq (h a ha)
theorem aw (h:QE n Q .normal L w):wpC P n .skip Q L w:=fun a ha=>wp_skip (h a ha)
theorem ba {id:Nat} (h:QE n Q (.exit id) L w):wpC P n (.exit id) Q L w:=fun a ha=>wp_exit (h a ha)
theorem ay (h:QE n Q .ret L w):wpC P n .ret Q L w:=fun a ha=>wp_ret (h a ha)
theorem av {c:Operand} {x y:Code} {t:Bool} (hc:L.ev c=some (.bool t)) (ht:t=true→wpC P n x Q L w) (hf:t=false→wpC P n y Q L w) :
  wpC P n (.cond c x y) Q L w:=fun a ha=>wp_cond_split (ha.ev hc) (fun h=>ht h a ha) (fun h=>hf h a ha)
theorem cn {c:Operand} {x y:Code} (hc:L.ev c=some (.bool true)) (h:wpC P n x Q L w):wpC P n (.cond c x y) Q L w:=fun a ha=>wp_cond_true (ha.ev hc) (h a ha)
theorem dV {c:Operand} {x y:Code} (hc:L.ev c=some (.bool false)) (h:wpC P n y Q L w):wpC P n (.cond c x y) Q L w:=fun a ha=>wp_cond_false (ha.ev hc) (h a ha)
theorem az {id:Nat} {c:Code} (h:wpC P n c (Exit.inBlock id Q) L w):wpC P n (.block id c) Q L w:=fun a ha=>wp_block (h a ha)
theorem kH {c:Code} (k:Nat) (h:wpN P n c Q k L w):wpC P n (.loop c) Q L w:=fun a ha=>wp_loop_rounds k (h a ha)
theorem dc {c:Code} {k:Nat} (h:wpC P n c (Exit.then (Code.rounds P c Q k) Q) L w):wpN P n c Q (k+1) L w:=fun a ha=>by rw [rounds_succ]; exact h a ha
theorem af {id:Nat} {l:List Oper} (h:wpR P n l.toArray Q l L w):wpC P n (.region id l.toArray false) Q L w:=fun a ha=>wp_region_lit (h a ha)
theorem ae {y:Code} (h:wpC P n y Q L w):QE n (Exit.then (y.wp P Q) Q) .normal L w:=h
theorem aC {K:Act→World→Prop} {id:Nat} (h:QE n Q (.exit id) L w):QE n (Exit.then K Q) (.exit id) L w:=h
theorem aG {K:Act→World→Prop} (h:QE n Q .ret L w):QE n (Exit.then K Q) .ret L w:=h
theorem bh {c:Code} {k:Nat} (h:wpN P n c Q k L w):QE n (Exit.then (Code.rounds P c Q k) Q) .normal L w:=h
theorem aP {id:Nat} (h:QE n Q .normal L w):QE n (Exit.inBlock id Q) .normal L w:=h
theorem bz {id:Nat} (h:QE n Q .ret L w):QE n (Exit.inBlock id Q) .ret L w:=h
theorem a9 {id:Nat} (h:QE n Q .normal L w):QE n (Exit.inBlock id Q) (.exit id) L w:=fun a ha=>by
 show (if id=id then Q .normal a w else Q (.exit id) a w)
 rw [if_pos rfl]; exact h a ha
theorem nq {id id':Nat} (hne:Nat.beq id' id=false) (h:QE n Q (.exit id') L w):QE n (Exit.inBlock id Q) (.exit id') L w:=fun a ha=>by
 show (if id'=id then Q .normal a w else Q (.exit id') a w)
 rw [if_neg (Nat.ne_of_beq_eq_false hne)]; exact h a ha
theorem ai {ops:Array Oper} (h:QE n Q .normal L w):wpR P n ops Q [] L w:=h
def OpV (P:Program) (n:Nat) (L:Env) (w:World) (o:Oper) (v:Value) (w':World):Prop:=
 ∀a,Rep n L a→(execOp a.eval o).run P w=.ok (.value v) w'
theorem al {ops:Array Oper} {rest:List Oper} {d:Nat} {op:Op} {ty:TypeId} {pos:String} {after:Array Edge} {v:Value} {w':World}
  (hv:OpV P n L w ⟨some d,op,ty,pos,after,none⟩ v w') (hd:Nat.blt d n=true)
  (h:wpR P n ops Q rest ((d,v) :: L) w'):wpR P n ops Q (⟨some d,op,ty,pos,after,none⟩ :: rest) L w:=fun a ha=>by
 unfold wpList
 rw [if_pos (by simp [Region.wanted])]
 refine .inl ?_
 unfold Oper.wp
 rw [hv a ha]
 exact h _ (ha.put hd)
def OpS (P:Program) (n:Nat) (L:Env) (w:World) (o:Oper) (w':World):Prop:=
 ∀a,Rep n L a→(execOp a.eval o).run P w=.ok .skip w'
theorem A0 {ops:Array Oper} {rest:List Oper} {op:Op} {ty:TypeId} {pos:String} {after:Array Edge} {w':World}
  (hv:OpS P n L w ⟨none,op,ty,pos,after,none⟩ w')
  (h:wpR P n ops Q rest L w'):wpR P n ops Q (⟨none,op,ty,pos,after,none⟩ :: rest) L w:=fun a ha=>by
 unfold wpList
 rw [if_pos (by simp [Region.wanted])]
 refine .inl ?_
 unfold Oper.wp
 rw [hv a ha]
 exact h _ ha
theorem au {w:World} {d:Option Tmp} {x:Operand} {v:Value} {ty:TypeId} {pos:String} {after:Array Edge} (hx:L.ev x=some v) :
  OpV P n L w ⟨d,.move x,ty,pos,after,none⟩ v w:=fun a ha=>by
 simp [execOp,ha.ev hx]
end
end Go.Gk
end

section
namespace Go.Gk
open Go Go.RowKit
abbrev vI (x:Int):Value:=.int .i64 x
abbrev vB (b:Bool):Value:=.bool b
abbrev vS (l:List UInt8):Value:=.string ⟨⟨l⟩⟩
abbrev v8 (x:UInt8):Value:=.int .u8 (x.toNat:Int)
abbrev v32 (x:UInt32):Value:=.int .u32 (x.toNat:Int)
abbrev v64 (x:UInt64):Value:=.int .u64 (x.toNat:Int)
abbrev pP (a:Addr):Value:=.pointer (some a)
def wI (x:Int):Int:=IntKind.i64.wrap x
theorem A3 (x:Int):wI x=if x%18446744073709551616 ≥ 9223372036854775808 then x%18446744073709551616 - 18446744073709551616 else x%18446744073709551616:=by
 simp [wI,IntKind.wrap,IntKind.bits,IntKind.signed]
theorem aV {x:Int} (h0:-9223372036854775808≤x) (h1:x≤9223372036854775807):wI x=x:=by
 rw [A3]; split <;> omega
section
variable {P:Program}
def bW (P:Program) (op:BinOp) (T:TypeId) (a b v:Value):Prop:=
 ∀(x y:Operand) (w:World),(do eqGuard op T x y a b; binOp op T a b:Sem Value).run P w=.ok v w
def UnR (P:Program) (op:UnOp) (a v:Value):Prop:=∀(w:World),(Op.unary op a).run P w=.ok v w
def gt (P:Program) (src dst:TypeId) (a v:Value):Prop:=∀(w:World),(convert src dst a).run P w=.ok v w
variable {n:Nat} {L:Env} {w:World}
theorem aq {d:Option Tmp} {op:BinOp} {T T2:TypeId} {x y:Operand} {a b v:Value} {ty:TypeId} {pos:String} {after:Array Edge}
  (hx:L.ev x=some a) (hy:L.ev y=some b) (h:bW P op T a b v):OpV P n L w ⟨d,.binOp op T x y T2,ty,pos,after,none⟩ v w:=fun ac ha=>by
 have:=h x y w
 simp only [Sem.run_bind]at this
 simp [execOp,ha.ev hx,ha.ev hy,Sem.run_bind]
 generalize (eqGuard op T x y a b).run P w=r at *
 cases r with
 | halt h w'=>simp [Result.andThen]at this
 | ok u w'=>simp [Result.andThen]at this ⊢; rw [this]
theorem ij {d:Option Tmp} {op:UnOp} {T:TypeId} {x:Operand} {a v:Value} {ty:TypeId} {pos:String} {after:Array Edge}
  (hx:L.ev x=some a) (h:UnR P op a v):OpV P n L w ⟨d,.unOp op T x,ty,pos,after,none⟩ v w:=fun ac ha=>by
 simp [execOp,ha.ev hx,h w]
theorem aK {d:Option Tmp} {S T:TypeId} {x:Operand} {a v:Value} {ty:TypeId} {pos:String} {after:Array Edge}
  (hx:L.ev x=some a) (h:gt P S T a v):OpV P n L w ⟨d,.convert S T x,ty,pos,after,none⟩ v w:=fun ac ha=>by
 simp [execOp,ha.ev hx,h w]
theorem aD {d:Option Tmp} {x:Operand} {v:Value} {ty:TypeId} {pos:String} {after:Array Edge} (hx:L.ev x=some v) :
  OpV P n L w ⟨d,.assign x,ty,pos,after,none⟩ v w:=fun a ha=>by
 simp [execOp,ha.ev hx]
theorem pe {d:Option Tmp} {c x y:Operand} {u:Value} {ty:TypeId} {pos:String} {after:Array Edge}
  (hc:L.ev c=some (vB true)) (hx:L.ev x=some u) :
  OpV P n L w ⟨d,.pick c x y,ty,pos,after,none⟩ u w:=fun a ha=>by
 simp [execOp,ha.ev hc,ha.ev hx,asBool]
theorem pi {d:Option Tmp} {c x y:Operand} {v:Value} {ty:TypeId} {pos:String} {after:Array Edge}
  (hc:L.ev c=some (vB false)) (hy:L.ev y=some v) :
  OpV P n L w ⟨d,.pick c x y,ty,pos,after,none⟩ v w:=fun a ha=>by
 simp [execOp,ha.ev hc,ha.ev hy,asBool]
theorem ct {d:Option Tmp} {x:Operand} {i:Nat} {vs:Array Value} {v:Value} {ty:TypeId} {pos:String} {after:Array Edge}
  (hx:L.ev x=some (.tuple vs)) (hv:vs[i]? = some v) :
  OpV P n L w ⟨d,.extract x i,ty,pos,after,none⟩ v w:=fun a ha=>by
 simp [execOp,ha.ev hx,Instr.extract,hv]
theorem bS (T:TypeId) (x y:Int):bW P .add T (vI x) (vI y) (vI (wI (x+y))):=fun _ _ _=>rfl
theorem dI (T:TypeId) (x y:Int):bW P .sub T (vI x) (vI y) (vI (wI (x - y))):=fun _ _ _=>rfl
theorem fj (T:TypeId) (x y:Int):bW P .mul T (vI x) (vI y) (vI (wI (x*y))):=fun _ _ _=>rfl
theorem dR (T:TypeId) (x y:Int) (h:¬y=0):bW P .quo T (vI x) (vI y) (vI (wI (x.tdiv y))):=fun _ _ _=>by
 simp [eqGuard,binOp,Op.intDiv,h,wI]
theorem jX (T:TypeId) (x y:Int) (h:¬y=0):bW P .rem T (vI x) (vI y) (vI (x.tmod y)):=fun _ _ _=>by
 simp [eqGuard,binOp,Op.intDiv,h]
theorem AI (T:TypeId) (x y:Int):bW P .eql T (vI x) (vI y) (vB (x == y)):=fun _ _ _=>rfl
theorem Ae (T:TypeId) (x y:Int):bW P .neq T (vI x) (vI y) (vB (x != y)):=fun _ _ _=>rfl
theorem dQ (T:TypeId) (x y:Int):bW P .lss T (vI x) (vI y) (vB (decide (x<y))):=fun _ _ _=>rfl
theorem Ay (T:TypeId) (x y:Int):bW P .leq T (vI x) (vI y) (vB (decide (x≤y))):=fun _ _ _=>rfl
theorem AQ (T:TypeId) (x y:Int):bW P .gtr T (vI x) (vI y) (vB (decide (y<x))):=fun _ _ _=>rfl
theorem At (T:TypeId) (x y:Int):bW P .geq T (vI x) (vI y) (vB (decide (y≤x))):=fun _ _ _=>rfl
theorem AU (x:Int):UnR P .neg (vI x) (vI (wI (0 - x))):=fun _=>rfl
theorem pY (b:Bool):UnR P .not (vB b) (vB (!b)):=fun _=>rfl
theorem wA (x:Nat):IntKind.u8.wrap (x:Int)=((UInt8.ofNat x).toNat:Int):=by
 simp [IntKind.wrap,IntKind.bits,IntKind.signed,UInt8.toNat_ofNat']
theorem zM (x:Int):IntKind.u8.wrap x=((UInt8.ofInt x).toNat:Int):=by
 simp [IntKind.wrap,IntKind.bits,IntKind.signed,UInt8.ofInt,UInt8.toNat_ofNat']
 omega
theorem qH (T:TypeId) (x y:UInt8):bW P .sub T (v8 x) (v8 y) (v8 (x - y)):=fun _ _ w=>by
 have:(v8 (x - y))=.int .u8 (IntKind.u8.wrap ((x.toNat:Int) - y.toNat)):=by
  simp only [v8,Value.int.injEq,true_and,UInt8.toNat_sub]
  simp [IntKind.wrap,IntKind.bits,IntKind.signed]
  have:=x.toNat_lt; have:=y.toNat_lt
  omega
 rw [this]; rfl
theorem fO (T:TypeId) (x y:UInt8):bW P .eql T (v8 x) (v8 y) (vB (x == y)):=fun _ _ w=>by
 have:(x == y)=((x.toNat:Int) == (y.toNat:Int)):=by
  rw [Bool.eq_iff_iff]; simp [←UInt8.toNat_inj]; omega
 rw [this]; rfl
theorem dJ (T:TypeId) (x y:UInt8):bW P .neq T (v8 x) (v8 y) (vB (x != y)):=fun _ _ w=>by
 have:(x != y)=((x.toNat:Int) != (y.toNat:Int)):=by
  rw [Bool.eq_iff_iff]; simp [←UInt8.toNat_inj]; omega
 rw [this]; rfl
theorem qA (T:TypeId) (x y:UInt8):bW P .leq T (v8 x) (v8 y) (vB (decide (x≤y))):=fun _ _ w=>by
 have:decide (x≤y)=decide ((x.toNat:Int)≤(y.toNat:Int)):=by
  rw [Bool.eq_iff_iff]; simp [UInt8.le_iff_toNat_le]
 rw [this]; rfl
theorem rS (T:TypeId) (x y:UInt8):bW P .geq T (v8 x) (v8 y) (vB (decide (y≤x))):=fun _ _ w=>by
 have:decide (y≤x)=decide ((y.toNat:Int)≤(x.toNat:Int)):=by
  rw [Bool.eq_iff_iff]; simp [UInt8.le_iff_toNat_le]
 rw [this]; rfl
def ch (x:UInt32) (n:Nat):UInt32:=UInt32.ofNat (x.toNat*2^(min n 32))
def bC (x:UInt32) (n:Nat):UInt32:=UInt32.ofNat (x.toNat / 2^(min n 32))
theorem gc (x:Nat):IntKind.u32.wrap (x:Int)=((UInt32.ofNat x).toNat:Int):=by
 simp [IntKind.wrap,IntKind.bits,IntKind.signed,UInt32.toNat_ofNat']
theorem ni (x:UInt32):BitVec.ofInt 32 (x.toNat:Int)=x.toBitVec:=by
 apply BitVec.eq_of_toNat_eq
 simp
theorem em (T:TypeId) (x y:UInt32):bW P .add T (v32 x) (v32 y) (v32 (x+y)):=fun _ _ w=>by
 have:(v32 (x+y))=.int .u32 (IntKind.u32.wrap ((x.toNat:Int)+y.toNat)):=by
  rw [show (x.toNat:Int)+y.toNat=((x.toNat+y.toNat:Nat):Int) by simp,gc]
  simp [v32,UInt32.toNat_add]
 rw [this]; rfl
theorem s7 (T:TypeId) (x y:UInt32):bW P .sub T (v32 x) (v32 y) (v32 (x - y)):=fun _ _ w=>by
 have:(v32 (x - y))=.int .u32 (IntKind.u32.wrap ((x.toNat:Int) - y.toNat)):=by
  simp only [v32,Value.int.injEq,true_and,UInt32.toNat_sub]
  simp [IntKind.wrap,IntKind.bits,IntKind.signed]
  have:=x.toNat_lt; have:=y.toNat_lt
  omega
 rw [this]; rfl
theorem iX (T:TypeId) (x y:UInt32):bW P .and T (v32 x) (v32 y) (v32 (x &&& y)):=fun _ _ w=>by
 have:(v32 (x &&& y))=.int .u32 (IntKind.u32.wrap ((BitVec.ofInt 32 (x.toNat:Int) &&& BitVec.ofInt 32 (y.toNat:Int)).toNat:Int)):=by
  rw [ni,ni,gc]
  simp [v32]
 rw [this]; rfl
theorem fu (T:TypeId) (x y:UInt32):bW P .or T (v32 x) (v32 y) (v32 (x ||| y)):=fun _ _ w=>by
 have:(v32 (x ||| y))=.int .u32 (IntKind.u32.wrap ((BitVec.ofInt 32 (x.toNat:Int) ||| BitVec.ofInt 32 (y.toNat:Int)).toNat:Int)):=by
  rw [ni,ni,gc]
  simp [v32]
 rw [this]; rfl
theorem eH (T:TypeId) (x y:UInt32):bW P .xor T (v32 x) (v32 y) (v32 (x ^^^ y)):=fun _ _ w=>by
 have:(v32 (x ^^^ y))=.int .u32 (IntKind.u32.wrap ((BitVec.ofInt 32 (x.toNat:Int) ^^^ BitVec.ofInt 32 (y.toNat:Int)).toNat:Int)):=by
  rw [ni,ni,gc]
  simp [v32]
 rw [this]; rfl
theorem tG (T:TypeId) (k:IntKind) (x:UInt32) (y:Int) (h:0≤y):bW P .shl T (v32 x) (.int k y) (v32 (ch x y.toNat)):=fun _ _ w=>by
 have hy:¬y<0:=by omega
 have:IntKind.u32.wrap ((x.toNat:Int)*2^(min y.toNat 32))=((ch x y.toNat).toNat:Int):=by
  rw [show (x.toNat:Int)*2^(min y.toNat 32)=((x.toNat*2^(min y.toNat 32):Nat):Int) by simp,gc]; rfl
 simp [eqGuard,binOp,Op.shift,hy,IntKind.bits,this]
theorem sY (T:TypeId) (k:IntKind) (x:UInt32) (y:Int) (h:0≤y):bW P .shr T (v32 x) (.int k y) (v32 (bC x y.toNat)):=fun _ _ w=>by
 have hy:¬y<0:=by omega
 have:(x.toNat:Int).fdiv (2^(min y.toNat 32))=((bC x y.toNat).toNat:Int):=by
  rw [Int.fdiv_eq_ediv_of_nonneg _ (Int.le_of_lt (Int.pow_pos (by omega)))]
  simp only [bC,UInt32.toNat_ofNat']
  have:=x.toNat_lt
  rw [Nat.mod_eq_of_lt (Nat.lt_of_le_of_lt (Nat.div_le_self _ _) this)]
  simp
 simp [eqGuard,binOp,Op.shift,hy,IntKind.bits,this]
theorem iR (T:TypeId) (x:UInt32) (y:UInt64):bW P .shl T (v32 x) (v64 y) (v32 (ch x y.toNat)):=by
 have:=tG (P:=P) T .u64 x y.toNat (by omega); simpa using this
theorem di (T:TypeId) (x:UInt32) (y:UInt64):bW P .shr T (v32 x) (v64 y) (v32 (bC x y.toNat)):=by
 have:=sY (P:=P) T .u64 x y.toNat (by omega); simpa using this
theorem pq (T:TypeId) (x:UInt32) (y:Int) (h:0≤y):bW P .shl T (v32 x) (vI y) (v32 (ch x y.toNat)):=tG T .i64 x y h
theorem pu (T:TypeId) (x:UInt32) (y:Int) (h:0≤y):bW P .shr T (v32 x) (vI y) (v32 (bC x y.toNat)):=sY T .i64 x y h
theorem oJ (T:TypeId) (x y:UInt32):bW P .eql T (v32 x) (v32 y) (vB (x == y)):=fun _ _ w=>by
 have:(x == y)=((x.toNat:Int) == (y.toNat:Int)):=by
  rw [Bool.eq_iff_iff]; simp [←UInt32.toNat_inj]; omega
 rw [this]; rfl
theorem ma (T:TypeId) (x y:UInt32):bW P .neq T (v32 x) (v32 y) (vB (x != y)):=fun _ _ w=>by
 have:(x != y)=((x.toNat:Int) != (y.toNat:Int)):=by
  rw [Bool.eq_iff_iff]; simp [←UInt32.toNat_inj]; omega
 rw [this]; rfl
theorem oT (T:TypeId) (x y:UInt32):bW P .lss T (v32 x) (v32 y) (vB (decide (x<y))):=fun _ _ w=>by
 have:decide (x<y)=decide ((x.toNat:Int)<(y.toNat:Int)):=by
  rw [Bool.eq_iff_iff]; simp [UInt32.lt_iff_toNat_lt]
 rw [this]; rfl
theorem zh (T:TypeId) (x y:UInt32):bW P .leq T (v32 x) (v32 y) (vB (decide (x≤y))):=fun _ _ w=>by
 have:decide (x≤y)=decide ((x.toNat:Int)≤(y.toNat:Int)):=by
  rw [Bool.eq_iff_iff]; simp [UInt32.le_iff_toNat_le]
 rw [this]; rfl
theorem zl (T:TypeId) (x y:UInt32):bW P .gtr T (v32 x) (v32 y) (vB (decide (y<x))):=fun _ _ w=>by
 have:decide (y<x)=decide ((y.toNat:Int)<(x.toNat:Int)):=by
  rw [Bool.eq_iff_iff]; simp [UInt32.lt_iff_toNat_lt]
 rw [this]; rfl
theorem tH (T:TypeId) (x y:UInt32):bW P .geq T (v32 x) (v32 y) (vB (decide (y≤x))):=fun _ _ w=>by
 have:decide (y≤x)=decide ((y.toNat:Int)≤(x.toNat:Int)):=by
  rw [Bool.eq_iff_iff]; simp [UInt32.le_iff_toNat_le]
 rw [this]; rfl
theorem tC (x:UInt32):UnR P .xor (v32 x) (v32 (~~~ x)):=fun _=>by
 have:(v32 (~~~ x))=.int .u32 (IntKind.u32.wrap ((BitVec.ofInt 32 IntKind.u32.max ^^^ BitVec.ofInt 32 (x.toNat:Int)).toNat:Int)):=by
  rw [ni,gc]
  have h1:BitVec.ofInt 32 IntKind.u32.max=BitVec.allOnes 32:=by decide
  rw [h1,BitVec.allOnes_xor,←UInt32.toBitVec_not,UInt32.toNat_toBitVec]
  simp only [v32,UInt32.toNat_ofNat',Value.int.injEq,true_and]
  exact_mod_cast (Nat.mod_eq_of_lt (~~~ x).toNat_lt).symm
 rw [this]; rfl
def br (x:UInt64) (n:Nat):UInt64:=UInt64.ofNat (x.toNat*2^(min n 64))
def aX (x:UInt64) (n:Nat):UInt64:=UInt64.ofNat (x.toNat / 2^(min n 64))
theorem fD (x:Nat):IntKind.u64.wrap (x:Int)=((UInt64.ofNat x).toNat:Int):=by
 simp [IntKind.wrap,IntKind.bits,IntKind.signed,UInt64.toNat_ofNat']
theorem x4 (x:Int):IntKind.u64.wrap x=((UInt64.ofInt x).toNat:Int):=by
 simp [IntKind.wrap,IntKind.bits,IntKind.signed,UInt64.ofInt,UInt64.toNat_ofNat']
 omega
theorem oM (x:UInt64):BitVec.ofInt 64 (x.toNat:Int)=x.toBitVec:=by
 apply BitVec.eq_of_toNat_eq
 simp
theorem cv (T:TypeId) (x y:UInt64):bW P .add T (v64 x) (v64 y) (v64 (x+y)):=fun _ _ w=>by
 have:(v64 (x+y))=.int .u64 (IntKind.u64.wrap ((x.toNat:Int)+y.toNat)):=by
  rw [show (x.toNat:Int)+y.toNat=((x.toNat+y.toNat:Nat):Int) by simp,fD]
  simp [v64,UInt64.toNat_add]
 rw [this]; rfl
theorem el (T:TypeId) (x y:UInt64):bW P .sub T (v64 x) (v64 y) (v64 (x - y)):=fun _ _ w=>by
 have:(v64 (x - y))=.int .u64 (IntKind.u64.wrap ((x.toNat:Int) - y.toNat)):=by
  simp only [v64,Value.int.injEq,true_and,UInt64.toNat_sub]
  simp [IntKind.wrap,IntKind.bits,IntKind.signed]
  have:=x.toNat_lt; have:=y.toNat_lt
  omega
 rw [this]; rfl
theorem gX (T:TypeId) (x y:UInt64):bW P .mul T (v64 x) (v64 y) (v64 (x*y)):=fun _ _ w=>by
 have:(v64 (x*y))=.int .u64 (IntKind.u64.wrap ((x.toNat:Int)*y.toNat)):=by
  rw [show (x.toNat:Int)*y.toNat=((x.toNat*y.toNat:Nat):Int) by simp,fD]
  simp [v64,UInt64.toNat_mul]
 rw [this]; rfl
theorem gI (T:TypeId) (x y:UInt64) (h:¬y=0):bW P .quo T (v64 x) (v64 y) (v64 (x / y)):=fun _ _ w=>by
 have hy:¬(y.toNat:Int)=0:=fun e=>h (UInt64.toNat_inj.1 (by simpa using e))
 have:IntKind.u64.wrap (((x.toNat:Int)).tdiv y.toNat)=((x / y).toNat:Int):=by
  rw [show ((x.toNat:Int)).tdiv y.toNat=((x.toNat / y.toNat:Nat):Int) from rfl,fD]
  rw [UInt64.toNat_div,UInt64.toNat_ofNat',Nat.mod_eq_of_lt (Nat.lt_of_le_of_lt (Nat.div_le_self _ _) x.toNat_lt)]
 simp only [eqGuard,binOp,Op.intDiv,if_neg hy,this]; rfl
theorem eM (T:TypeId) (x y:UInt64) (h:¬y=0):bW P .rem T (v64 x) (v64 y) (v64 (x%y)):=fun _ _ w=>by
 have hy:¬(y.toNat:Int)=0:=fun e=>h (UInt64.toNat_inj.1 (by simpa using e))
 have:((x.toNat:Int)).tmod y.toNat=((x%y).toNat:Int):=by rw [UInt64.toNat_mod]; rfl
 simp only [eqGuard,binOp,Op.intDiv,if_neg hy,this]; rfl
theorem i2 (T:TypeId) (x y:UInt64):bW P .and T (v64 x) (v64 y) (v64 (x &&& y)):=fun _ _ w=>by
 have:(v64 (x &&& y))=.int .u64 (IntKind.u64.wrap ((BitVec.ofInt 64 (x.toNat:Int) &&& BitVec.ofInt 64 (y.toNat:Int)).toNat:Int)):=by
  rw [oM,oM,fD]
  simp [v64]
 rw [this]; rfl
theorem eL (T:TypeId) (x y:UInt64):bW P .or T (v64 x) (v64 y) (v64 (x ||| y)):=fun _ _ w=>by
 have:(v64 (x ||| y))=.int .u64 (IntKind.u64.wrap ((BitVec.ofInt 64 (x.toNat:Int) ||| BitVec.ofInt 64 (y.toNat:Int)).toNat:Int)):=by
  rw [oM,oM,fD]
  simp [v64]
 rw [this]; rfl
theorem eF (T:TypeId) (x y:UInt64):bW P .xor T (v64 x) (v64 y) (v64 (x ^^^ y)):=fun _ _ w=>by
 have:(v64 (x ^^^ y))=.int .u64 (IntKind.u64.wrap ((BitVec.ofInt 64 (x.toNat:Int) ^^^ BitVec.ofInt 64 (y.toNat:Int)).toNat:Int)):=by
  rw [oM,oM,fD]
  simp [v64]
 rw [this]; rfl
theorem tz (T:TypeId) (k:IntKind) (x:UInt64) (y:Int) (h:0≤y):bW P .shl T (v64 x) (.int k y) (v64 (br x y.toNat)):=fun _ _ w=>by
 have hy:¬y<0:=by omega
 have:IntKind.u64.wrap ((x.toNat:Int)*2^(min y.toNat 64))=((br x y.toNat).toNat:Int):=by
  rw [show (x.toNat:Int)*2^(min y.toNat 64)=((x.toNat*2^(min y.toNat 64):Nat):Int) by simp,fD]; rfl
 simp [eqGuard,binOp,Op.shift,hy,IntKind.bits,this]
theorem tv (T:TypeId) (k:IntKind) (x:UInt64) (y:Int) (h:0≤y):bW P .shr T (v64 x) (.int k y) (v64 (aX x y.toNat)):=fun _ _ w=>by
 have hy:¬y<0:=by omega
 have:(x.toNat:Int).fdiv (2^(min y.toNat 64))=((aX x y.toNat).toNat:Int):=by
  rw [Int.fdiv_eq_ediv_of_nonneg _ (Int.le_of_lt (Int.pow_pos (by omega)))]
  simp only [aX,UInt64.toNat_ofNat']
  have:=x.toNat_lt
  rw [Nat.mod_eq_of_lt (Nat.lt_of_le_of_lt (Nat.div_le_self _ _) this)]
  simp
 simp [eqGuard,binOp,Op.shift,hy,IntKind.bits,this]
theorem c9 (T:TypeId) (x:UInt64) (y:UInt64):bW P .shl T (v64 x) (v64 y) (v64 (br x y.toNat)):=by
 have:=tz (P:=P) T .u64 x y.toNat (by omega); simpa using this
theorem cq (T:TypeId) (x:UInt64) (y:UInt64):bW P .shr T (v64 x) (v64 y) (v64 (aX x y.toNat)):=by
 have:=tv (P:=P) T .u64 x y.toNat (by omega); simpa using this
theorem ww (T:TypeId) (x:UInt64) (y:Int) (h:0≤y):bW P .shl T (v64 x) (vI y) (v64 (br x y.toNat)):=tz T .i64 x y h
theorem kZ (T:TypeId) (x:UInt64) (y:Int) (h:0≤y):bW P .shr T (v64 x) (vI y) (v64 (aX x y.toNat)):=tv T .i64 x y h
theorem ti (T:TypeId) (x y:UInt64):bW P .eql T (v64 x) (v64 y) (vB (x == y)):=fun _ _ w=>by
 have:(x == y)=((x.toNat:Int) == (y.toNat:Int)):=by
  rw [Bool.eq_iff_iff]; simp [←UInt64.toNat_inj]; omega
 rw [this]; rfl
theorem za (T:TypeId) (x y:UInt64):bW P .neq T (v64 x) (v64 y) (vB (x != y)):=fun _ _ w=>by
 have:(x != y)=((x.toNat:Int) != (y.toNat:Int)):=by
  rw [Bool.eq_iff_iff]; simp [←UInt64.toNat_inj]; omega
 rw [this]; rfl
theorem my (T:TypeId) (x y:UInt64):bW P .gtr T (v64 x) (v64 y) (vB (decide (y<x))):=fun _ _ w=>by
 have:decide (y<x)=decide ((y.toNat:Int)<(x.toNat:Int)):=by
  rw [Bool.eq_iff_iff]; simp [UInt64.lt_iff_toNat_lt]
 rw [this]; rfl
theorem tu (T:TypeId) (x y:UInt64):bW P .geq T (v64 x) (v64 y) (vB (decide (y≤x))):=fun _ _ w=>by
 have:decide (y≤x)=decide ((y.toNat:Int)≤(x.toNat:Int)):=by
  rw [Bool.eq_iff_iff]; simp [UInt64.le_iff_toNat_le]
 rw [this]; rfl
theorem zb (x:UInt64):UnR P .neg (v64 x) (v64 (0 - x)):=fun _=>by
 have:(v64 (0 - x))=.int .u64 (IntKind.u64.wrap (0 - (x.toNat:Int))):=by
  simp only [v64,Value.int.injEq,true_and,UInt64.toNat_sub]
  simp [IntKind.wrap,IntKind.bits,IntKind.signed]
  have:=x.toNat_lt
  omega
 rw [this]; rfl
theorem cV {S T:TypeId} (hS:P.underlying S=some (.int .i64)) (hT:P.underlying T=some (.int .u8)) (x:Int):gt P S T (vI x) (v8 (UInt8.ofInt x)):=fun w=>by
 have:IntKind.u8.wrap x=((UInt8.ofInt x).toNat:Int):=by rw [zM]
 simp [convert,run_underlying hS,run_underlying hT,Conv.intToInt,this]
theorem eA {S T:TypeId} (hS:P.underlying S=some (.int .i64)) (hT:P.underlying T=some (.int .u64)) (x:Int):gt P S T (vI x) (v64 (UInt64.ofInt x)):=fun w=>by
 have:IntKind.u64.wrap x=((UInt64.ofInt x).toNat:Int):=by rw [x4]
 simp [convert,run_underlying hS,run_underlying hT,Conv.intToInt,this]
theorem nG {S T:TypeId} (hS:P.underlying S=some (.int .u8)) (hT:P.underlying T=some (.int .i64)) (x:UInt8):gt P S T (v8 x) (vI ((x.toNat:Int))):=fun w=>by
 have:IntKind.i64.wrap (x.toNat:Int)=(x.toNat:Int):=by have:=x.toNat_lt; exact aV (by omega) (by omega)
 simp [convert,run_underlying hS,run_underlying hT,Conv.intToInt,this]
theorem ka {S T:TypeId} (hS:P.underlying S=some (.int .u8)) (hT:P.underlying T=some (.int .u32)) (x:UInt8):gt P S T (v8 x) (v32 (x.toUInt32)):=fun w=>by
 have:IntKind.u32.wrap (x.toNat:Int)=((x.toUInt32).toNat:Int):=by rw [gc]; simp
 simp [convert,run_underlying hS,run_underlying hT,Conv.intToInt,this]
theorem tx {S T:TypeId} (hS:P.underlying S=some (.int .u8)) (hT:P.underlying T=some (.int .u64)) (x:UInt8):gt P S T (v8 x) (v64 (x.toUInt64)):=fun w=>by
 have:IntKind.u64.wrap (x.toNat:Int)=((x.toUInt64).toNat:Int):=by rw [fD]; simp
 simp [convert,run_underlying hS,run_underlying hT,Conv.intToInt,this]
theorem gK {S T:TypeId} (hS:P.underlying S=some (.int .u32)) (hT:P.underlying T=some (.int .u8)) (x:UInt32):gt P S T (v32 x) (v8 (x.toUInt8)):=fun w=>by
 have:IntKind.u8.wrap (x.toNat:Int)=((x.toUInt8).toNat:Int):=by rw [wA]; simp
 simp [convert,run_underlying hS,run_underlying hT,Conv.intToInt,this]
theorem bu {S T:TypeId} (hS:P.underlying S=some (.int .u32)) (hT:P.underlying T=some (.int .u64)) (x:UInt32):gt P S T (v32 x) (v64 (x.toUInt64)):=fun w=>by
 have:IntKind.u64.wrap (x.toNat:Int)=((x.toUInt64).toNat:Int):=by rw [fD]; simp
 simp [convert,run_underlying hS,run_underlying hT,Conv.intToInt,this]
theorem l8 {S T:TypeId} (hS:P.underlying S=some (.int .u64)) (hT:P.underlying T=some (.int .i64)) (x:UInt64):gt P S T (v64 x) (vI (wI (x.toNat:Int))):=fun w=>by
 have:IntKind.i64.wrap (x.toNat:Int)=wI (x.toNat:Int):=by rfl
 simp [convert,run_underlying hS,run_underlying hT,Conv.intToInt,this]
theorem oD {S T:TypeId} (hS:P.underlying S=some (.int .u64)) (hT:P.underlying T=some (.int .u8)) (x:UInt64):gt P S T (v64 x) (v8 (x.toUInt8)):=fun w=>by
 have:IntKind.u8.wrap (x.toNat:Int)=((x.toUInt8).toNat:Int):=by rw [wA]; simp
 simp [convert,run_underlying hS,run_underlying hT,Conv.intToInt,this]
theorem bQ {S T:TypeId} (hS:P.underlying S=some (.int .u64)) (hT:P.underlying T=some (.int .u32)) (x:UInt64):gt P S T (v64 x) (v32 (x.toUInt32)):=fun w=>by
 have:IntKind.u32.wrap (x.toNat:Int)=((x.toUInt32).toNat:Int):=by rw [gc]; simp
 simp [convert,run_underlying hS,run_underlying hT,Conv.intToInt,this]
end
end Go.Gk
end
