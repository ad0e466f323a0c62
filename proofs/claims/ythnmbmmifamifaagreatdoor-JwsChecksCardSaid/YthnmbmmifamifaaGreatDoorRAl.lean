import Derived.Test.YthnmbmmifamifaaGreatDoorRW0
set_option linter.unusedVariables false
set_option linter.unusedSimpArgs false
set_option linter.unusedSectionVars false
set_option maxRecDepth 4000
namespace Go.Gk
open Go Go.RowKit
theorem fZ {P:Program} {f:FuncId} {vs j:List Value} {w:World} {φ:Ending->World->Prop} (h:Calls P f vs.toArray w φ) (e:vs=j):Calls P f j.toArray w φ:=by subst e; exact h
theorem Env.le_of':∀{j L:Env},j.map (fun p=>L.get p.1)=j.map (fun p=>some p.2)->j.Le L
 | [],_,_=>trivial
 | (k,v) :: r,L,h=>by
  rw[dm,dm]at h
  exact⟨(List.cons.inj h).1,Env.le_of' (List.cons.inj h).2⟩
theorem Lj {os:List OE} {o:OE} (i:Nat) (hi:os[i]? = some o):os.Perm (o :: os.eraseIdx i):=by
 obtain⟨hl,he⟩:=br.1 hi
 rw[List.eraseIdx_eq_take_drop_succ os i]
 have j:os=os.take i++o :: os.drop (i+1):=by rw[<-he,List.getElem_cons_drop,ch]
 exact (List.Perm.of_eq j).trans jE
section
variable {P:Program} {n:Nat} {Q:Exit->Act->World->Prop} {L:Env} {w:World}
theorem HP {c:Operand} {x y:Code} {t:Bool} {ρ:Type} {A B:Option ρ} {r:ρ} (hc:L.ev c=some (.bool t)) (h:(if t=true then A else B)=some r) (j:t=true->A=some r->wpC P n x Q L w) (hf:t=false->B=some r->wpC P n y Q L w) :
  wpC P n (.cond c x y) Q L w:=BW hc (fun q=>j q (md h q)) (fun q=>hf q (me h q))
theorem kT {σ ρ:Type} {c:Code} {r:ρ} {s:σ} {j:Env} {f:σ->Option (σ⊕ρ)} {J:σ->Env->World->Prop} (I:(σ->Option (σ⊕ρ))×(σ->Env->World->Prop)) (hi:I=(f,J)) (h:loop f s=some r) (A:J s j w) (hl:j.Le L)
  (z:∀k s L w x,J s L w->(∀s' j w',J s' j w'->lc f k s'=some r->wpN P n c Q k j w')->f s=some x->lk f k r x->wpC P n c (Exit.then (Code.rounds P c Q k) Q) L w):wpC P n (.loop c) Q L w:=
 jy j hl (fN f J z s A h)
theorem SG {σ ρ:Type} {c:Code} {r:ρ} {f:σ->Option (σ⊕ρ)} {k:Nat} {s:σ} {x:σ⊕ρ} {j:Env} {I:σ->Env->World->Prop} (z:∀s' j w',I s' j w'->lc f k s'=some r->wpN P n c Q k j w')
  (h:bJ s=some x) (A:lk f k r x) (B:I s j w) (hl:j.map (fun p=>L.get p.1)=j.map (fun p=>some p.2)):QE n (Exit.then (Code.rounds P c Q k) Q) .normal L w:=
 iz (JH j (Env.le_of' hl) (z s j w B (eG h A)))
theorem PR {ops:Array Oper} {rest:List Oper} {d:Option Nat} {op:Op} {ty:TypeId} {pos:String} {after:Array Edge} {j:Nat} {k:Bool} {t:Tmp}
  (A:(ops[j]?).bind (·.dst)=some t) (hb:L.get t=some (vB k))
  (h:wpR P n ops Q (⟨d,op,ty,pos,after,none⟩ :: rest) L w):wpR P n ops Q (⟨d,op,ty,pos,after,some (j,k)⟩ :: rest) L w:=fun a ha=>by
 have z:=h a ha
 unfold wpList at z ⊢
 rw[af (by rw[mP ha rfl A hb]; simp)]
 have B:Region.wanted ⟨d,op,ty,pos,after,none⟩ (yielded ops a.tmps)=true:=rfl
 rw[af B]at z
 have he:execOp a.eval ⟨d,op,ty,pos,after,some (j,k)⟩=execOp a.eval ⟨d,op,ty,pos,after,none⟩:=by cases op <;> rfl
 unfold Oper.wp Oper.asks at z ⊢
 rw[he]
 exact z
theorem LK {ops:Array Oper} {rest:List Oper} {d:Option Nat} {op:Op} {ty:TypeId} {pos:String} {after:Array Edge} {j:Nat} {k b:Bool} {t:Tmp}
  (A:(ops[j]?).bind (·.dst)=some t) (hb:L.get t=some (vB b))
  (z:b=true->wpR P n ops Q (⟨d,op,ty,pos,after,some (j,k)⟩ :: rest) L w) (hf:b=false->wpR P n ops Q (⟨d,op,ty,pos,after,some (j,k)⟩ :: rest) L w):wpR P n ops Q (⟨d,op,ty,pos,after,some (j,k)⟩ :: rest) L w:=by
 cases hb':b with
 | true=>exact z hb'
 | false=>exact hf hb'
end
def Sel (os os':List OE):Prop:=∀(S:L01) (w0 w:World) (fr:List OE),St S w0 w (fr++os)->St S w0 w (fr++os')
theorem Sel.nil (os:List OE):Sel os []:=fun S w0 w fr h=>h.sub (by simp)
theorem Sel.cons {os os':List OE} {o:OE} (i:Nat) (hi:os[i]? = some o) (h:Sel (os.eraseIdx i) os'):Sel os (o :: os'):=fun S w0 w fr hS=>by
 have j:(fr++os).Perm ((fr++[o])++os.eraseIdx i):=by
  have k:os.Perm (o :: os.eraseIdx i):=by
   have:=br.1 hi
   obtain⟨hl,he⟩:=this
   have z:=List.eraseIdx_eq_take_drop_succ os i
   rw[z]
   have A:os=os.take i++o :: os.drop (i+1):=by rw[<-he,List.getElem_cons_drop,ch]
   exact (List.Perm.of_eq A).trans jE
  rw[bh]
  exact fL fr k
 have:=h S w0 w (fr++[o]) (hS.perm j)
 simpa using this
theorem Sel.own0 {os os':List OE} {τ:Type} (e:Enc τ) (h:Sel os os'):Sel os (own e (.slice none 0 0) ([]:List τ) :: os'):=fun S w0 w fr hS=>
 ((h S w0 w fr hS).nil e).perm (jE (l₁:=fr) (l₂:=os')).symm
theorem Sel.tr3 {os os':List OE} {τ:Type} {e:Enc τ} {v:Value} {l:List τ} {k:Nat} (i:Nat) (hi:os[i]? = some (own e v l)) (z:k<=l.length) (h:Sel (os.eraseIdx i) os'):Sel os (own e (slV3 v e.sz 0 k k) (l.take k) :: os'):=fun S w0 w fr hS=>by
 have j:St S w0 w ((fr++os).set (fr.length+i) (own e (slV3 v e.sz 0 k k) (l.take k))):=hS.trunc3 (i:=fr.length+i) (by rw[dL (gv _ _),dZ]; exact hi) z
 rw[eQ _ _ (gv _ _),dZ]at j
 have A:Sel (os.set i (own e (slV3 v e.sz 0 k k) (l.take k))) (own e (slV3 v e.sz 0 k k) (l.take k) :: os'):=Sel.cons i (by
  obtain⟨hl,_⟩:=br.1 hi
  simp[hl]) (by rw[List.eraseIdx_set_eq]; exact h)
 exact A S w0 w fr j
theorem Sel.trc {os os':List OE} {o:OE} (i:Nat) (hi:∀S w0 w (fr:List OE),St S w0 w (fr++os)->St S w0 w (fr++os.set i o)) (hl:i<os.length) (h:Sel (os.eraseIdx i) os'):Sel os (o :: os'):=fun S w0 w fr hS=>by
 have j:Sel (os.set i o) (o :: os'):=Sel.cons i (by simp[hl]) (by rw[List.eraseIdx_set_eq]; exact h)
 exact j S w0 w fr (hi S w0 w fr hS)
theorem Sel.tr {os os':List OE} {τ:Type} {e:Enc τ} {v:Value} {l:List τ} {k:Nat} (i:Nat) (hi:os[i]? = some (own e v l)) (z:k<=l.length) (h:Sel (os.eraseIdx i) os'):Sel os (own e (slV v e.sz 0 k) (l.take k) :: os'):=
 Sel.trc i (fun S w0 w fr hS=>by
  have j:=hS.trunc (i:=fr.length+i) (k:=k) (by rw[dL (gv _ _),dZ]; exact hi) z
  rw[eQ _ _ (gv _ _),dZ]at j
  exact j) (br.1 hi).1 h
theorem Sel.tr3t {os os':List OE} {τ:Type} {e:Enc τ} {v:Value} {l:List τ} {k m:Nat} (i:Nat) (hi:os[i]? = some (own e v l)) (A:k<=l.length) (hm:m<=(l.take k).length) (h:Sel (os.eraseIdx i) os'):Sel os (own e (slV3 (slV v e.sz 0 k) e.sz 0 m m) ((l.take k).take m) :: os'):=
 Sel.trc i (fun S w0 w fr hS=>by
  have j:=hS.trunc (i:=fr.length+i) (k:=k) (by rw[dL (gv _ _),dZ]; exact hi) A
  have hl:=(br.1 hi).1
  rw[eQ _ _ (gv _ _),dZ]at j
  have z:=j.trunc3 (i:=fr.length+i) (k:=m) (by rw[dL (gv _ _),dZ,dp hl]) hm
  rw[eQ _ _ (gv _ _),dZ,List.set_set]at z
  exact z) (br.1 hi).1 h
theorem St.by {S:L01} {w0 w:World} {os os':List OE} (h:St S w0 w os) (s:Sel os os'):St S w0 w os':=s S w0 w [] h
def flq (l:List Oper) (i:Nat):Bool:=match l[i]? with
 | some ⟨_,.call ⟨.value _,_,_⟩,_,_,_,_⟩=>false
 | some ⟨_,.call ⟨.builtin .append,_,_⟩,_,_,_,_⟩=>false
 | some ⟨_,.call ⟨.builtin .copy,_,_⟩,_,_,_,_⟩=>false
 | some ⟨none,_,_,_,_,_⟩=>false
 | some ⟨_,.alloc _,_,_,_,_⟩=>false
 | some ⟨_,.box _ _,_,_,_,_⟩=>false
 | some ⟨_,.buildSlice _ _ _,_,_,_,_⟩=>false
 | some ⟨_,.makeSlice _ _ _,_,_,_,_⟩=>false
 | some ⟨_,.convert D T _,_,_,_,_⟩=>!(D == 9&&T == 25)
 | _=>true
def QP (l:List Oper) (i:Nat):Bool:=if i<1000 then flq l i else (match l[i - 1000]? with | some ⟨_,.load _ _,_,_,_,_⟩=>false | _=>true)
def TY (l:List Oper):Bool:=l.any fun o=>match o with | ⟨none,.store _ _ _,_,_,_,_⟩=>true | ⟨_,.call ⟨.builtin .append,_,_⟩,_,_,_,_⟩=>true | ⟨_,.call ⟨.value _,_,_⟩,_,_,_,_⟩=>true | _=>false
def Tj (l:List Oper) (i:Nat):Bool:=flq l i&&(match l[i]? with | some ⟨_,.load _ _,_,_,_,_⟩=>false | some ⟨_,.indexAddr _ _ _,_,_,_,_⟩=>false | _=>true)
def S2 (l:List Oper):Bool:=l.any fun o=>match o with | ⟨_,.call ⟨.builtin .append,_,_⟩,_,_,_,_⟩=>true | _=>false
def Cf (k:Nat):Prop:=True
theorem Cf.d:Cf 9:=trivial
def fq (k:Nat) (l:List Oper):Nat->Bool:=match k with | 1=>Tj l | 2=>QP l | 3=>QP l | _=>flq l
def mq (k:Nat) (l:List Oper):Bool:=match k with | 3=>TY l | 4=>S2 l | _=>true
inductive Ks:Nat->List OE->List OE->Prop
 | a (os:List OE):Ks 9 os os
 | n {k:Nat} (h:Nat.blt k 4=true) (os:List OE):Ks k os []
 | z:Ks 4 [] []
 | b {b:Nat} {cs:List Value} {os os':List OE} (h:Ks 4 os os'):Ks 4 (.bx b cs :: os) (.bx b cs :: os')
 | d {o:OE} {os os':List OE} (h:Ks 4 os os'):Ks 4 (o :: os) os'
def XI (p:Prop):Prop:=p
theorem XI.o {p:Prop} (h:XI p):p:=h
theorem XI.i {p:Prop} (h:p):XI p:=h
def YI (p:Prop):Prop:=p
theorem YI.o {p:Prop} (h:YI p):p:=h
theorem YI.i {p:Prop} (h:p):YI p:=h
def CI (p:Prop):Prop:=p
theorem CI.o {p:Prop} (h:CI p):p:=h
theorem CI.i {p:Prop} (h:p):CI p:=h
def GI (p:Prop):Prop:=p
theorem GI.o {p:Prop} (h:GI p):p:=h
theorem GI.i {p:Prop} (h:p):GI p:=h
def LI (p:Prop):Prop:=p
theorem LI.o {p:Prop} (h:LI p):p:=h
theorem LI.i {p:Prop} (h:p):LI p:=h
def BI (p:Prop):Prop:=p
theorem BI.o {p:Prop} (h:BI p):p:=h
theorem BI.i {p:Prop} (h:p):BI p:=h
section
variable {P:Program} {n:Nat} {Q:Exit->Act->World->Prop} {L:Env} {w:World}
theorem QS {S:L01} {w0:World} {os os':List OE} {id k:Nat} {l:List Oper} (hc:Cf k) (hS:St S w0 w os) (A:Ks k os os') (hm:P.follows .mixedOrders=true) (hp:∀c a w,¬Q (.panic c) a w) (z:∀a w,¬Q .outgrown a w)
  (j:((qo l.toArray&&wu l.toArray&&vX l.toArray (fq k l)&&HI l.toArray&&!l.isEmpty)&&mq k l)=true)
  (h:∀w',St S w0 w' os->lxE P n l.toArray (fun w'=>St S w0 w' os') (fun _=>True) Q (fq k l) (List.range l.length) L w'):wpC P n (.region id l.toArray true) Q L w:=
 gV (fun w'=>St S w0 w' os') (fq k l) hm hp z (by rw[aW]at j; exact j.1) (h _ hS.drew)
theorem Lw {C D:World->Prop} {ops:Array Oper} {fl:Nat->Bool} {i:Nat} {r:L01} {d:Option Nat} {op:Op} {ty:TypeId} {pos:String} {after:Array Edge} {j:Nat} {k b:Bool} {t:Tmp}
  (A:ops[i]? = some ⟨d,op,ty,pos,after,some (j,k)⟩) (B:(ops[j]?).bind (·.dst)=some t) (hb:L.get t=some (vB b))
  (z:b=true->lxE P n ops C D Q fl (i :: r) L w) (hf:b=false->lxE P n ops C D Q fl (i :: r) L w):lxE P n ops C D Q fl (i :: r) L w:=by
 cases hb':b with
 | true=>exact z hb'
 | false=>exact hf hb'
end
theorem KH {P:Program} {n:Nat} {L:Env} {w:World} {d:Option Tmp} {x:Operand} {i:Nat} {l:List Value} {v:Value} {ty:TypeId} {pos:String} {after:Array Edge}
  (hx:L.ev x=some (.tuple l.toArray)) (j:l[i]? = some v):OpV P n L w ⟨d,.extract x i,ty,pos,after,none⟩ v w:=vg hx (by simpa using j)
theorem N1 {P:Program} {m:Nat} {L:Env} {w:World} {d:Option Tmp} {n:Nat} {ty:TypeId} {pos:String} {after:Array Edge} (hn:(OfNat.ofNat n:Int)=(((OfNat.ofNat n:UInt8).toNat:Nat):Int)):OpV P m L w ⟨d,.assign (.const (.int .u8 (OfNat.ofNat n))),ty,pos,after,none⟩ (v8 (OfNat.ofNat n)) w:=by
 rw[v8,<-hn]; exact fk rfl
theorem cl8 {n:Nat} (hn:(OfNat.ofNat n:Int)=(((OfNat.ofNat n:UInt8).toNat:Nat):Int)):e8.cells (OfNat.ofNat n)=[.int .u8 (OfNat.ofNat n)]:=by
 rw[hn]; rfl
theorem KZ {P:Program} {m:Nat} {L:Env} {w:World} {d:Option Tmp} {n:Nat} {ty:TypeId} {pos:String} {after:Array Edge} (hn:(OfNat.ofNat n:Int)=(((OfNat.ofNat n:UInt32).toNat:Nat):Int)):OpV P m L w ⟨d,.assign (.const (.int .u32 (OfNat.ofNat n))),ty,pos,after,none⟩ (v32 (OfNat.ofNat n)) w:=by
 rw[v32,<-hn]; exact fk rfl
theorem Ru {n:Nat} (hn:(OfNat.ofNat n:Int)=(((OfNat.ofNat n:UInt32).toNat:Nat):Int)):e32.cells (OfNat.ofNat n)=[.int .u32 (OfNat.ofNat n)]:=by
 rw[hn]; rfl
theorem ML {P:Program} {m:Nat} {L:Env} {w:World} {d:Option Tmp} {n:Nat} {ty:TypeId} {pos:String} {after:Array Edge} (hn:(OfNat.ofNat n:Int)=(((OfNat.ofNat n:UInt64).toNat:Nat):Int)):OpV P m L w ⟨d,.assign (.const (.int .u64 (OfNat.ofNat n))),ty,pos,after,none⟩ (v64 (OfNat.ofNat n)) w:=by
 rw[v64,<-hn]; exact fk rfl
theorem SQ {n:Nat} {l:L8} {vs:List Value} (hn:(OfNat.ofNat n:Int)=(((OfNat.ofNat n:UInt32).toNat:Nat):Int)) (h:e32.fl l=vs):e32.fl (OfNat.ofNat n :: l)=.int .u32 (OfNat.ofNat n) :: vs:=by
 have:e32.fl (OfNat.ofNat n :: l)=v32 (OfNat.ofNat n) :: e32.fl l:=rfl
 rw[this,h,v32,<-hn]
theorem R7 {x:UInt32} {l:L8} {vs:List Value} (h:e32.fl l=vs):e32.fl (x :: l)=v32 x :: vs:=by rw[<-h]; rfl
theorem SF:e32.fl []=[]:=rfl
theorem SX {n:Nat} {l:L00} {vs:List Value} (hn:(OfNat.ofNat n:Int)=(((OfNat.ofNat n:UInt8).toNat:Nat):Int)) (h:e8.fl l=vs):e8.fl (OfNat.ofNat n :: l)=.int .u8 (OfNat.ofNat n) :: vs:=by
 have:e8.fl (OfNat.ofNat n :: l)=v8 (OfNat.ofNat n) :: e8.fl l:=rfl
 rw[this,h,v8,<-hn]
theorem Tn {x:UInt8} {l:L00} {vs:List Value} (h:e8.fl l=vs):e8.fl (x :: l)=v8 x :: vs:=by rw[<-h]; rfl
theorem TF:e8.fl []=[]:=rfl
theorem TK:eV.fl []=[]:=rfl
theorem nN {α:Type} {r:α} {p:Prop} (h:(none:Option α)=some r):p:=nomatch h
theorem St.p0 {S:L01} {w0 w:World} {os:List OE} (h:St S w0 w os):St S w0 w []:=h.pick [] q11 rfl
section
variable {P:Program} {n:Nat} {L:Env} {w w0:World} {S:L01} {os:List OE} {d:Option Tmp} {ty:TypeId} {pos:String} {after:Array Edge}
theorem M3 {E:TypeId} {x:Operand} {cs:List Value} (hx:L.ev x=some (.agg cs.toArray)) (hS:St S w0 w os) :
  OpX P n L w ⟨d,.box E x,ty,pos,after,none⟩ (fun v w'=>∃b,v=pB b 0/\St S w0 w' (.bx b cs :: os)):=rF hx rfl hS
theorem HE {E:TypeId} {cs:List Value} (hE:(P.info? E).map (·.zero)=some (some (.agg cs.toArray))) (hS:St S w0 w os) :
  OpX P n L w ⟨d,.alloc E,ty,pos,after,none⟩ (fun v w'=>∃b,v=pB b 0/\St S w0 w' (.bx b cs :: os)):=mx hE rfl hS
theorem mJ {s:TypeId} {x:Operand} {b f k:Nat} {z:Array Field} {j:Field} (hs:P.underlying s=some (.struct z)) (hf:z[f]? = some j) (B:j.offset=k) (A:(P.info? j.type).map (·.size == 0)=some false)
  (hx:L.ev x=some (pB b 0)):OpV P n L w ⟨d,.fieldAddr s x f,ty,pos,after,none⟩ (pB b k) w:=by
 have:=dH (P:=P) (n:=n) (w:=w) (d:=d) (ty:=ty) (pos:=pos) (after:=after) hs hf B A hx
 rw[bn]at this
 exact this
theorem O5 {T:TypeId} {D:TypeDesc} {x:Operand} {b i:Nat} {cs:List Value} (hT:P.underlying T=some D) (k:(match D with | .struct _ | .array _ _=>true | _=>false)=true)
  (hx:L.ev x=some (pB b 0)) (hS:St S w0 w os) (hi:os[i]? = some (.bx b cs)) (j:(P.info? T).map (·.size)=some cs.length):OpV P n L w ⟨d,.load T x,ty,pos,after,none⟩ (.agg cs.toArray) w:=
 gj hT k j hx (hS.bxs i hi (by simp))
theorem RB.cell' {b k:Nat} {cs:List Value} {u:Value} (h:RB S w0 b cs) (hf:Fr S w0 w) (j:cs[k]? = some u):w.cell? ⟨b,k,none⟩=some u:=by
 have:=h.cell hf k j
 rwa [bn]at this
theorem N5 {T:TypeId} {x y:Operand} {b i:Nat} {cs us:List Value} (hx:L.ev x=some (pB b 0)) (hy:L.ev y=some (.agg us.toArray)) (hS:St S w0 w os) (hi:os[i]? = some (.bx b cs)) (hl:us.length=cs.length)
  (k:yk us) (j:(P.info? T).map (·.size)=some us.length):OpY P n L w ⟨none,.store T x y,ty,pos,after,none⟩ (fun w'=>St S w0 w' (os.set i (.bx b us))):=by
 have h:=mG (P:=P) (n:=n) (ty:=ty) (pos:=pos) (after:=after) hi j hx hy (by simp[Value.cells]) k (by simp[hl]) hS
 have hs:spl cs 0 us=us:=by simp[spl,hl]
 rw[hs]at h
 exact h
theorem Py {T:TypeId} {x y:Operand} {b i k:Nat} {cs:List Value} {u:Value} (hx:L.ev x=some (pB b k)) (hy:L.ev y=some u) (hS:St S w0 w os) (hi:os[i]? = some (.bx b cs)) (hl:Nat.blt k cs.length=true)
  (j:u.oneCell'=true) (z:(P.info? T).map (·.size)=some 1):OpY P n L w ⟨none,.store T x y,ty,pos,after,none⟩ (fun w'=>St S w0 w' (os.set i (.bx b (cs.set k u)))):=by
 have A:k<cs.length:=ai hl
 have h:=mG (P:=P) (n:=n) (ty:=ty) (pos:=pos) (after:=after) (us:=[u]) hi z hx hy (nG j) ⟨j,trivial⟩ (by rw[Nat.ble_eq]; exact A) hS
 have hs:spl cs k [u]=cs.set k u:=by simp[spl,List.set_eq_take_append_cons_drop,A]
 rw[hs]at h
 exact h
theorem ON {T:TypeId} {x y:Operand} {b off i:Nat} {u v:Value} {cs j:List Value} (hS:St S w0 w os) (hx:L.ev x=some (pB b off)) (hi:os[i]? = some (.bx b cs)) (k:(P.info? T).map (·.size)=some 1) (hy:L.ev y=some v) (z:v.oneCell'=true) (hu:Up cs off [u] j [v]) :
  OpY P n L w ⟨none,.store T x y,ty,pos,after,none⟩ (fun w'=>St S w0 w' (os.set i (.bx b j))):=jx hi k hx hy (nG z) hu rfl rfl (nM z) hS
theorem Fj {T:TypeId} {x y:Operand} {b off i m:Nat} {cs xs j us:List Value} (hS:St S w0 w os) (hx:L.ev x=some (pB b off)) (hi:os[i]? = some (.bx b cs)) (k:(P.info? T).map (·.size)=some m) (hy:L.ev y=some (.agg us.toArray)) (hu:Up cs off xs j us) (hm:xs.length=m) (z:us.length=m) (A:∀u∈us,u.oneCell'=true) :
  OpY P n L w ⟨none,.store T x y,ty,pos,after,none⟩ (fun w'=>St S w0 w' (os.set i (.bx b j))):=jx hi k hx hy (by simp[Value.cells]) hu hm z A hS
theorem rvA {T:TypeId} {D:TypeDesc} {b i:Nat} {t:Tmp} {cs:List Value} (k:L.get t=some (pB b 0)) (hT:P.underlying T=some D) (z:(match D with | .struct _ | .array _ _=>true | _=>false)=true)
  (hS:St S w0 w os) (hi:os[i]? = some (.bx b cs)) (j:(P.info? T).map (·.size)=some cs.length):RV P L w (.cell t T) (.agg cs.toArray):=
 ⟨b,k,zH hT z j (hS.bxs i hi (by simp))⟩
end
theorem ki.n {w:World} {τ:Type} (e:Enc τ):ki [] w e [] []:=trivial
theorem ki.c {w:World} {τ:Type} {e:Enc τ} {v:Value} {l:List τ} {r:List SV} {m:List (List τ)} (h:RO w e v l) (t:ki [] w e r m):ki [] w e (SV.of v :: r) (l :: m):=⟨h.svrp,t⟩
def EvP (L:Env):List (Nat×Operand)->List (Nat×Value)->Prop
 | [],[]=>True
 | (i,x) :: r,(j,v) :: s=>(j=i/\L.ev x=some v)/\EvP L r s
 | _,_=>False
theorem EvP.nil (L:Env):EvP L [] []:=trivial
theorem EvP.cons {L:Env} {i:Nat} {x:Operand} {v:Value} {r:List (Nat×Operand)} {s:List (Nat×Value)} (hx:L.ev x=some v) (h:EvP L r s):EvP L ((i,x) :: r) ((i,v) :: s):=⟨⟨rfl,hx⟩,h⟩
theorem EvP.eq {L:Env}:∀{r:List (Nat×Operand)} {s:List (Nat×Value)},EvP L r s->(r.map fun p=>(L.ev p.2).map fun v=>(p.1,v))=(s.map fun p=>(p.1,p.2,[p.2])).map (fun p=>some (p.1,p.2.1))
 | [],[],_=>rfl
 | (i,x) :: r,(j,v) :: s,h=>by
  obtain⟨⟨rfl,k⟩,z⟩:=h
  simp[k,EvP.eq z]
theorem Bq:∀{s:List (Nat×Value)},yk (s.map (·.2))->rz (s.map fun p=>(p.1,p.2,[p.2]))
 | [],_=>trivial
 | _ :: _,h=>⟨nG h.1,Bq h.2⟩
theorem HT {P:Program} {n:Nat} {L:Env} {w:World} {d:Option Tmp} {ty:TypeId} {pos:String} {after:Array Edge} {T:TypeId} {k:List (Nat×Operand)} {s:List (Nat×Value)} {pl:List (Nat×Nat)} {z cells:List Value} (A:EvP L k s)
  (j:mV P T=some (pl,z)) (hc:yk (s.map (·.2))) (hf:qR pl z (s.map fun p=>(p.1,p.2,[p.2]))=some cells) :
  OpV P n L w ⟨d,.build T k.toArray,ty,pos,after,none⟩ (.agg cells.toArray) w:=ig A.eq j (Bq hc) hf
def Len (os lent rest:List OE):Prop:=∀(S:L01) (w0 w:World) (fr:List OE),St S w0 w (fr++os)->St S w0 w (fr++(lent++rest))
theorem Len.nil (os:List OE):Len os [] os:=fun S w0 w fr h=>h
theorem Len.cons {os lent rest:List OE} {o:OE} (i:Nat) (hi:os[i]? = some o) (h:Len (os.eraseIdx i) lent rest):Len os (o :: lent) rest:=fun S w0 w fr hS=>by
 have j:(fr++os).Perm ((fr++[o])++os.eraseIdx i):=by
  rw[bh]
  exact fL fr (Lj i hi)
 have:=h S w0 w (fr++[o]) (hS.perm j)
 simpa using this
theorem Len.own0 {os lent rest:List OE} {τ:Type} (e:Enc τ) (h:Len os lent rest):Len os (own e (.slice none 0 0) ([]:List τ) :: lent) rest:=fun S w0 w fr hS=>
 ((h S w0 w fr hS).nil e).perm (jE (l₁:=fr) (l₂:=lent++rest)).symm
def LC (S:L01) (w0 w:World) (os lent rest':List OE) (p:Prop):Prop:=Len os lent rest'/\(St S w0 w (lent++rest')->p)
theorem LC.m {S:L01} {w0 w:World} {os lent j:List OE} {p:Prop} (hc:St S w0 w (lent++j)->p) (hL:Len os lent j):LC S w0 w os lent j p:=⟨hL,hc⟩
theorem JI {P:Program} {n:Nat} {Q:Exit->Act->World->Prop} {L:Env} {w w0:World} {S:L01} {os lent j:List OE} {ty:TypeId} {pos:String} {after:Array Edge} {ops:Array Oper} {rest:List Oper} {d:Nat} {f:FuncId} {xs:List Operand} {A:Array TypeId} {vs:List Value} {φ:Value->World->Prop}
  (hargs:L.evs xs=some vs) (hO:St S w0 w os) (hc:LC S w0 w os lent j (Calls P f vs.toArray w (Ret φ))) (hf:mK P f=true) (hd:Nat.blt d n=true)
  (k:∀v w',φ v w'->St S w0 w (lent++j)->wpR P n ops Q rest ((d,v) :: L) w'):wpR P n ops Q (⟨some d,.call ⟨.value (.func f),xs.toArray,A⟩,ty,pos,after,none⟩ :: rest) L w:=
 have z:=hc.1 S w0 w [] hO
 ou hf hargs (hc.2 z) hd fun v w' h=>k v w' h z
theorem Ik {P:Program} {n:Nat} {Q:Exit->Act->World->Prop} {L:Env} {w w0:World} {S:L01} {os lent j:List OE} {ty:TypeId} {pos:String} {after:Array Edge} {ops:Array Oper} {C D:World->Prop} {fl:Nat->Bool} {i:Nat} {r:L01} {d:Nat} {f:FuncId} {xs:List Operand} {B:Array TypeId} {vs:List Value} {φ:Value->World->Prop} (G:C w)
  (I:ops[i]? = some ⟨some d,.call ⟨.value (.func f),xs.toArray,B⟩,ty,pos,after,none⟩) (z:fl i=false)
  (hargs:L.evs xs=some vs) (hO:St S w0 w os) (hc:LC S w0 w os lent j (Calls P f vs.toArray w (Ret φ))) (hf:mK P f=true) (hd:Nat.blt d n=true)
  (k:∀v w',φ v w'->St S w0 w (lent++j)->lxE P n ops C D Q fl r ((d,v) :: L) w'):lxE P n ops C D Q fl (i :: r) L w:=
 have A:=hc.1 S w0 w [] hO
 fM G I z hf hargs (hc.2 A) hd fun v w' h=>k v w' h A
section
variable {P:Program} {w:World} {f:FuncId} {fn:Func} {c:Code} {φ:Value->World->Prop}
theorem ca1 {j:Value} (n:Nat) (hf:P.funcs[f]? = some fn) (hb:fn.body=some c) (hn:fn.ntmps=n) (hl:Nat.ble 1 n=true) (h:wpC P n c (bodyPost P fn (Ret φ)) [(0,j)] w):Calls P f #[j] w (Ret φ):=dP (vs:=[j]) n hf hb hn hl h
theorem ca2 {j k:Value} (n:Nat) (hf:P.funcs[f]? = some fn) (hb:fn.body=some c) (hn:fn.ntmps=n) (hl:Nat.ble 2 n=true) (h:wpC P n c (bodyPost P fn (Ret φ)) [(0,j),(1,k)] w):Calls P f #[j,k] w (Ret φ):=dP (vs:=[j,k]) n hf hb hn hl h
theorem ca3 {j k z:Value} (n:Nat) (hf:P.funcs[f]? = some fn) (hb:fn.body=some c) (hn:fn.ntmps=n) (hl:Nat.ble 3 n=true) (h:wpC P n c (bodyPost P fn (Ret φ)) [(0,j),(1,k),(2,z)] w):Calls P f #[j,k,z] w (Ret φ):=dP (vs:=[j,k,z]) n hf hb hn hl h
theorem ca4 {j k z A:Value} (n:Nat) (hf:P.funcs[f]? = some fn) (hb:fn.body=some c) (hn:fn.ntmps=n) (hl:Nat.ble 4 n=true) (h:wpC P n c (bodyPost P fn (Ret φ)) [(0,j),(1,k),(2,z),(3,A)] w):Calls P f #[j,k,z,A] w (Ret φ):=dP (vs:=[j,k,z,A]) n hf hb hn hl h
theorem ca5 {j k z A B:Value} (n:Nat) (hf:P.funcs[f]? = some fn) (hb:fn.body=some c) (hn:fn.ntmps=n) (hl:Nat.ble 5 n=true) (h:wpC P n c (bodyPost P fn (Ret φ)) [(0,j),(1,k),(2,z),(3,A),(4,B)] w):Calls P f #[j,k,z,A,B] w (Ret φ):=dP (vs:=[j,k,z,A,B]) n hf hb hn hl h
theorem ca6 {j k z A B G:Value} (n:Nat) (hf:P.funcs[f]? = some fn) (hb:fn.body=some c) (hn:fn.ntmps=n) (hl:Nat.ble 6 n=true) (h:wpC P n c (bodyPost P fn (Ret φ)) [(0,j),(1,k),(2,z),(3,A),(4,B),(5,G)] w):Calls P f #[j,k,z,A,B,G] w (Ret φ):=dP (vs:=[j,k,z,A,B,G]) n hf hb hn hl h
end
section
variable {P:Program} {n:Nat} {Q:Exit->Act->World->Prop} {L:Env} {w:World}
theorem isC {c:Code} (h:wpC P n c Q L w):wpC P n c Q L w:=h
theorem Tb {c:Code} (h:wpC P n (.loop c) Q L w):wpC P n (.loop c) Q L w:=h
theorem TS {c:Operand} {x y:Code} (h:wpC P n (.cond c x y) Q L w):wpC P n (.cond c x y) Q L w:=h
theorem SW {i:Nat} {a:Array Oper} (h:wpC P n (.region i a true) Q L w):wpC P n (.region i a true) Q L w:=h
theorem isR {ops:Array Oper} {l:List Oper} (h:wpR P n ops Q l L w):wpR P n ops Q l L w:=h
theorem R5 {ops:Array Oper} {l:List Oper} {d:Option Nat} {x:Operand} {ty:TypeId} {pos:String} {after:Array Edge} {g:Option (Nat×Bool)} (h:wpR P n ops Q (⟨d,.assign x,ty,pos,after,g⟩ :: l) L w):wpR P n ops Q (⟨d,.assign x,ty,pos,after,g⟩ :: l) L w:=h
theorem S4 {ops:Array Oper} {l:List Oper} {d:Option Nat} {op:Op} {ty:TypeId} {pos:String} {after:Array Edge} {g:Nat×Bool} (h:wpR P n ops Q (⟨d,op,ty,pos,after,some g⟩ :: l) L w):wpR P n ops Q (⟨d,op,ty,pos,after,some g⟩ :: l) L w:=h
theorem isE {e:Exit} (h:QE n Q e L w):QE n Q e L w:=h
theorem isX {ops:Array Oper} {C D:World->Prop} {fl:Nat->Bool} {l:L01} (h:lxE P n ops C D Q fl l L w):lxE P n ops C D Q fl l L w:=h
theorem isM {ops:Array Oper} {nw:Nat->Bool} {cs:Nat->Option Nat} {ks:Nat->L01} {xs:Nat->List OE} {bs ds:Nat->L01} {S T:L01} {w0:World} {es os:List OE} {ent:Nat->List Th->Value->List OE->List OE->Prop} {l:L01} {g:Gt} (h:iZ P n ops Q nw cs ks xs bs ds S T w0 es os ent l g L):iZ P n ops Q nw cs ks xs bs ds S T w0 es os ent l g L:=h
theorem Tp {d:Option Nat} {s:TypeId} {x:Operand} {f:Nat} {ty:TypeId} {pos:String} {after:Array Edge} {v:Value} {w':World} (h:OpV P n L w ⟨d,.fieldAddr s x f,ty,pos,after,none⟩ v w'):OpV P n L w ⟨d,.fieldAddr s x f,ty,pos,after,none⟩ v w':=h
theorem Q2 {d:Option Nat} {s:TypeId} {x:Operand} {ty:TypeId} {pos:String} {after:Array Edge} {v:Value} {w':World} (h:OpV P n L w ⟨d,.load s x,ty,pos,after,none⟩ v w'):OpV P n L w ⟨d,.load s x,ty,pos,after,none⟩ v w':=h
theorem nt (o:BinOp) {T:TypeId} {a b v:Value} (h:cL P o T a b v):cL P o T a b v:=h
end
section
variable {P:Program} {n:Nat} {Q:Exit->Act->World->Prop} {L:Env} {w:World}
theorem P7 {c:Operand} {x y:Code} {t:Bool} (hc:L.ev c=some (vB t)) (j:t=true) (h:wpC P n x Q L w):wpC P n (.cond c x y) Q L w:=tu (by rw[hc,j]) h
theorem St.bxgN {S:L01} {w0:World} {os:List OE} {i b off:Nat} {cs:List Value} {u:Value} (h:St S w0 w os) (hi:os[i]? = some (.bx b cs)) (hu:cs[off]? = some u):w.cell? ⟨b,off,none⟩=some u:=h.bxg i hi hu
end
theorem LeC {k:Nat} {v:Value} {r L:Env} (h:L.get k=some v) (t:r.Le L):Env.Le ((k,v) :: r) L:=⟨h,t⟩
inductive Er (o:OE):List OE->List OE->Prop
 | h (l:List OE):Er o (o :: l) l
 | t {l l':List OE} (p:OE):Er o l l'->Er o (p :: l) (p :: l')
theorem Er.perm {o:OE} {os os1:List OE} (h:Er o os os1):os.Perm (o :: os1):=by
 induction h with
 | h l=>exact List.Perm.refl _
 | t p _ ih=>exact (List.Perm.cons p ih).trans (List.Perm.swap _ _ _)
theorem Sel.perm {os j os':List OE} (hp:os.Perm j) (h:Sel j os'):Sel os os':=fun S w0 w fr hS=>h S w0 w fr (hS.perm (fL fr hp))
theorem Sel.consE {os os1 os':List OE} {o:OE} (hi:Er o os os1) (h:Sel os1 os'):Sel os (o :: os'):=.perm hi.perm (Sel.cons 0 rfl h)
theorem Sel.trE {os os1 os':List OE} {τ:Type} {e:Enc τ} {v:Value} {l:List τ} {k:Nat} (hi:Er (own e v l) os os1) (j:k<=l.length) (h:Sel os1 os'):Sel os (own e (slV v e.sz 0 k) (l.take k) :: os'):=.perm hi.perm (Sel.tr 0 rfl j h)
theorem Sel.tr3E {os os1 os':List OE} {τ:Type} {e:Enc τ} {v:Value} {l:List τ} {k:Nat} (hi:Er (own e v l) os os1) (j:k<=l.length) (h:Sel os1 os'):Sel os (own e (slV3 v e.sz 0 k k) (l.take k) :: os'):=.perm hi.perm (Sel.tr3 0 rfl j h)
theorem Sel.tr3tE {os os1 os':List OE} {τ:Type} {e:Enc τ} {v:Value} {l:List τ} {k m:Nat} (hi:Er (own e v l) os os1) (j:k<=l.length) (hm:m<=(l.take k).length) (h:Sel os1 os'):Sel os (own e (slV3 (slV v e.sz 0 k) e.sz 0 m m) ((l.take k).take m) :: os'):=.perm hi.perm (Sel.tr3t 0 rfl j hm h)
theorem Len.consE {os os1 lent rest:List OE} {o:OE} (hi:Er o os os1) (h:Len os1 lent rest):Len os (o :: lent) rest:=fun S w0 w fr hS=>Len.cons (os:=o :: os1) 0 rfl h S w0 w fr (hS.perm (fL fr hi.perm))
theorem Up.skipL {cs j xs xs' A:List Value} {k off o:Nat} (hA:A.length=k) (z:off+k=o) (h:Up cs off xs j xs'):Up (A++cs) o xs (A++j) xs':=Up.skip hA h q10
theorem Up.skipC {cs j xs xs':List Value} {v:Value} {off o:Nat} (z:off+1=o) (h:Up cs off xs j xs'):Up (v :: cs) o xs (v :: j) xs':=Up.skip (A:=[v]) (k:=1) rfl h q10
theorem SH {α:Type} {v:α} {l:List α} {n m:Nat} (h:l.length=n) (e:n+1=m):(v :: l).length=m:=by rw[dN,h,e]
theorem Nth.h {α:Type} (o:α) (l:List α):(o :: l)[0]? = some o:=rfl
theorem Nth.t {α:Type} {o:α} (p:α) {l:List α} {i:Nat} (h:l[i]? = some o):(p :: l)[i+1]? = some o:=by simpa using h
section
variable {S:L01} {w0 w:World} {os:List OE}
theorem St.roN {i:Nat} {τ:Type} {e:Enc τ} {v:Value} {l:List τ} (h:St S w0 w os) (hi:os[i]? = some (own e v l)):RO w e v l:=h.ro i hi
theorem St.rroN {i:Nat} {τ:Type} {e:Enc τ} {v:Value} {l:List τ} (h:St S w0 w os) (hi:os[i]? = some (red e v l)):RO w e v l:=h.rro i hi
theorem St.bxcN {i b k:Nat} {cs:List Value} {u:Value} (h:St S w0 w os) (hi:os[i]? = some (.bx b cs)) (hu:cs[k]? = some u):w.cell? ⟨b,k,none⟩=some u:=by rw[h.bxc i hi k]; exact hu
theorem St.rbN {i b:Nat} {cs:List Value} (h:St S w0 w os) (hi:os[i]? = some (.bx b cs)):RB [] w b cs:=h.rb i hi
variable {os0:List OE}
theorem PT {i:Nat} {τ:Type} {e:Enc τ} {v:Value} {l:List τ} (h:St S w0 w (os0++os)) (hi:os[i]? = some (own e v l)):RP (fg os0) w e v l:=h.giveO i hi
theorem RH {i b:Nat} {cs:List Value} (h:St S w0 w (os0++os)) (hi:os[i]? = some (.bx b cs)):RB (fg os0) w b cs:=h.giveB i hi
end
section
variable {P:Program} {n:Nat} {Q:Exit->Act->World->Prop} {L:Env} {w:World}
theorem JN {S:L01} {w':World} {τ:Type} {e:Enc τ} {v:Value} {l:List τ} {T E ty:TypeId} {pos:String} {after:Array Edge} {T2:TypeId} {x:Operand} {d:Nat} {ops:Array Oper} {rest:List Oper} (hx:L.ev x=some v) (hT:P.underlying T=some (.slice E)) (k:RP S w' e v l) (hd:Nat.blt d n=true) (hn:l=[]->wpR P n ops Q rest ((d,vB true) :: L) w) (hp:wpR P n ops Q rest ((d,vB false) :: L) w) :
  wpR P n ops Q (⟨some d,.binOp .eql T x (.const (.slice none 0 0)) T2,ty,pos,after,none⟩ :: rest) L w:=by
 rcases k.isnil hT with⟨hz,j,_⟩ | ⟨j,_⟩
 ·exact aQ (bk hx rfl j) hd (hn hz)
 ·exact aQ (bk hx rfl j) hd hp
end
def fid:Code->Nat
 | .region i _ _=>i+1
 | .seq a b=>match fid a with | 0=>fid b | k=>k
 | .cond _ a b=>match fid a with | 0=>fid b | k=>k
 | .block _ c=>fid c
 | .loop c=>fid c
 | .scope c=>fid c
 | _=>0
section
variable {P:Program} {n:Nat} {Q:Exit->Act->World->Prop} {L:Env} {w:World}
theorem TD {x y:Code} (h:wpC P n (.seq x y) Q L w):wpC P n (.seq x y) Q L w:=h
theorem TR {γ ρ:Type} {y:Code} {r:ρ} {J:γ->Env->World->Prop} {f:γ->Option ρ} (h:∀g L w,J g L w->f g=some r->wpC P n y Q L w):∀g L w,J g L w->f g=some r->wpC P n y Q L w:=h
inductive Oc {γ ρ:Type} (f:γ->Option ρ):Option ρ->Prop
 | lf (g:γ):Oc f (f g)
 | t {c:Prop} {i:Decidable c} {A B:Option ρ} (h:Oc f A):Oc f (@ite _ c i A B)
 | e {c:Prop} {i:Decidable c} {A B:Option ρ} (h:Oc f B):Oc f (@ite _ c i A B)
 | b {α:Type} {o:Option α} {k:α->Option ρ} (h:∀x,Oc f (k x)):Oc f (ag o k)
 | l {α:Type} {a:α} {k:α->Option ρ} (h:∀x,Oc f (k x)):Oc f (bD a k)
 | g {p:Prop} {i:Decidable p} {k:Option ρ} (h:Oc f k):Oc f (grd p k)
 | n {α:Type} {o:Option α} {x:Option ρ} {y:α->Option ρ} (h:Oc f x):Oc f (nL o x y)
 | s {α:Type} {o:Option α} {x:Option ρ} {y:α->Option ρ} (h:∀a,Oc f (y a)):Oc f (nL o x y)
 | z (o:Option ρ):Oc f o
abbrev mkI {σ ρ:Type} (f:σ->Option (σ⊕ρ)) (J:σ->Env->World->Prop):(σ->Option (σ⊕ρ))×(σ->Env->World->Prop):=(f,J)
abbrev mkJ {γ ρ:Type} (i:Nat) (K:γ->Option ρ) (J:γ->Env->World->Prop) (E:Env) (O:List OE):Nat×(γ->Env->World->Prop)×(γ->Option ρ)×Env×List OE:=(i,J,K,E,O)
theorem kK {γ ρ:Type} {x y:Code} {r:ρ} {o:Option ρ} {S:L01} {w0:World} {k:Nat} {J:γ->Env->World->Prop} {f:γ->Option ρ} {j:Env} {os:List OE} (I:Nat×(γ->Env->World->Prop)×(γ->Option ρ)×Env×List OE) (B:I=(k,J,f,j,os)) (z:fid y=k) (G:o=some r) (A:Oc f o) (hl:j.Le L) (hO:St S w0 w os)
  (hx:(∀g L w,J g L w->f g=some r->wpC P n y Q L w)->wpC P n x (Exit.then (y.wp P Q) Q) L w)
  (hy:∀g L w,J g L w->f g=some r->wpC P n y Q L w):wpC P n (.seq x y) Q L w:=iF J f hy hx
abbrev mkZ {γ ρ:Type} (i:Nat) (K:γ->Option ρ) (J:γ->Env->World->Prop) (E:Env) (O X:List OE):Nat×(γ->Env->World->Prop)×(γ->Option ρ)×Env×List OE×List OE:=(i,J,K,E,O,X)
theorem TT {γ ρ:Type} {y:Code} {r:ρ} {J:γ->Env->World->Prop} {f:γ->Option ρ} {g:γ} {j:Env} (k:∀g L w,J g L w->f g=some r->wpC P n y Q L w) (h:f g=some r) (z:J g j w) (hl:j.Le L):wpC P n y Q L w:=
 jy j hl (k g j w z h)
end
section
variable {α β ρ:Type} {r:ρ}
theorem kq1 {c:Prop} {i:Decidable c} {A B:Option ρ} (h:@ite _ c i A B=some r):True:=trivial
theorem kq2 {o:Option α} {f:α->Option ρ} (h:ag o f=some r):True:=trivial
theorem kq3 {x:α} {f:α->Option ρ} (h:bD x f=some r):True:=trivial
theorem kq4 {x:ρ} (h:some x=some r):True:=trivial
theorem kq5 {f:α->Option (α⊕ρ)} {s:α} (h:loop f s=some r):True:=trivial
theorem kq6 {a:α} {x:α⊕β} (h:bJ a=some x):True:=trivial
theorem kq7 {a:Option β} {x:α⊕β} (h:bz a=some x):True:=trivial
theorem kq8 {c:Prop} {i:Decidable c} {A:Option ρ} (h:grd c A=some r):True:=trivial
end
theorem lq1 (h:true=true):True:=trivial
theorem lq2 (h:false=false):True:=trivial
theorem S7 {w:World} {τ:Type} {e:Enc τ} {v:Value} {l r:List τ} {lo hi:Int} (h:RO w e v l) (hg:slO l lo hi=some r):nY v e.sz lo.toNat hi.toNat (slV v e.sz lo.toNat hi.toNat):=h.part (by have:=(gL hg).1; omega) (gL hg).1.2.2
theorem ocx {α ρ:Type} {o:Option α} {x:Option ρ} {y:α->Option ρ} {r:ρ} (h:nL o x y=some r):True:=trivial
abbrev ItV:=Nat×Value×List Value
inductive Its (L:Env):List (Nat×Operand)->Nat->List ItV->List (Int×UInt64×L00×Int)->Prop
 | n (j:Nat):Its L [] j [] []
 | c {x:Operand} {a d:Int} {b:UInt64} {s:L00} {r:List (Nat×Operand)} {vs:List ItV} {l:List (Int×UInt64×L00×Int)} {j:Nat} (hx:L.ev x=some (.agg #[vI a,v64 b,vS s,vI d])) (h:Its L r (j+1) vs l) :
   Its L ((j,x) :: r) j ((j,.agg #[vI a,v64 b,vS s,vI d],[vI a,v64 b,vS s,vI d]) :: vs) ((a,b,s,d) :: l)
theorem Its.l {L:Env} {x:Operand} {a d:Int} {n:Nat} {s:L00} {r:List (Nat×Operand)} {vs:List ItV} {l:List (Int×UInt64×L00×Int)} {j:Nat} (hn:(OfNat.ofNat n:Int)=(((OfNat.ofNat n:UInt64).toNat:Nat):Int))
  (hx:L.ev x=some (.agg #[vI a,.int .u64 (OfNat.ofNat n),vS s,vI d])) (h:Its L r (j+1) vs l) :
  Its L ((j,x) :: r) j ((j,.agg #[vI a,v64 (OfNat.ofNat n),vS s,vI d],[vI a,v64 (OfNat.ofNat n),vS s,vI d]) :: vs) ((a,OfNat.ofNat n,s,d) :: l):=.c (by rw[v64,<-hn]; exact hx) h
inductive Mm (o:OE):List OE->Prop
 | h (l:List OE):Mm o (o :: l)
 | t {l:List OE} (p:OE):Mm o l->Mm o (p :: l)
theorem Mm.mem {o:OE} {l:List OE} (h:Mm o l):o∈l:=by
 induction h with
 | h l=>exact fQ ..
 | t p _ ih=>exact gU _ ih
inductive Mo:OE->List OE->Prop
 | o {τ:Type} {e:Enc τ} {v:Value} {l:List τ} (r:List OE):Mo (red e v l) (own e v l :: r)
 | b {b:Nat} {cs:List Value} (r:List OE):Mo (.bx b cs) (.bx b cs :: r)
 | r {τ:Type} {e:Enc τ} {v:Value} {l:List τ} (r:List OE):Mo (red e v l) (red e v l :: r)
 | t {o:OE} {l:List OE} (p:OE):Mo o l->Mo o (p :: l)
theorem Mo.mem {o:OE} {l:List OE} (h:Mo o l):o∈l.map OE.kp:=by
 induction h with
 | o r=>exact fQ ..
 | b r=>exact fQ ..
 | r r=>exact fQ ..
 | t p _ ih=>exact gU _ ih
inductive Su (es os:List OE):List OE->Prop
 | n:Su es os []
 | e {o:OE} {l:List OE}:Mm o es->Su es os l->Su es os (o :: l)
 | o {o:OE} {l:List OE}:Mo o os->Su es os l->Su es os (o :: l)
 | z {τ:Type} {e:Enc τ} {l:List OE}:Su es os l->Su es os (red e (.slice none 0 0) ([]:List τ) :: l)
theorem Su.rds {es os l:List OE} (h:Su es os l) {T:L01} {w:World} (j:Rds T w (os.map OE.kp++es)):Rds T w l:=by
 induction h with
 | n=>exact Rds.nil
 | e hm _ ih=>exact Rds.cons (j _ (bU _ hm.mem)) ih
 | o hm _ ih=>exact Rds.cons (j _ (cg _ hm.mem)) ih
 | z _ ih=>exact Rds.cons OE.kept.nil ih
theorem Su.off {es os l:List OE} (h:Su es os l) {T:L01} (j:Off T (os.map OE.kp++es)):Off T l:=by
 induction h with
 | n=>exact Off.nil
 | e hm _ ih=>exact Off.cons (j _ (bU _ hm.mem)) ih
 | o hm _ ih=>exact Off.cons (j _ (cg _ hm.mem)) ih
 | z _ ih=>exact Off.cons Off.nilrd ih
inductive Spl:List OE->List OE->List OE->List OE->Prop
 | n:Spl [] [] [] []
 | o {τ:Type} {e:Enc τ} {v:Value} {l:List τ} {os F M K:List OE} (h:Spl os F M K):Spl (own e v l :: os) (own e v l :: F) (red e v l :: M) K
 | b {b:Nat} {s:Bool} {v:Value} {os F M K:List OE} (h:Spl os F M K):Spl (.bx b [vB s,v] :: os) (.bx b [vB s,v] :: F) (.bx b [vB s,v] :: M) K
 | r {τ:Type} {e:Enc τ} {v:Value} {l:List τ} {os F M K:List OE} (h:Spl os F M K):Spl (red e v l :: os) (red e v l :: F) (red e v l :: M) K
 | k {o:OE} {os F M K:List OE} (h:Spl os F M K):Spl (o :: os) F M (o :: K)
theorem Spl.perm {os F M K:List OE} (h:Spl os F M K):os.Perm (F++K)/\M=F.map OE.kp:=by
 induction h with
 | n=>exact⟨List.Perm.refl _,rfl⟩
 | k _ ih=>exact⟨(List.Perm.cons _ ih.1).trans jE.symm,ih.2⟩
 | o _ ih=>exact⟨List.Perm.cons _ ih.1,by rw[dm,ih.2]; rfl⟩
 | b _ ih=>exact⟨List.Perm.cons _ ih.1,by rw[dm,ih.2]; rfl⟩
 | r _ ih=>exact⟨List.Perm.cons _ ih.1,by rw[dm,ih.2]; rfl⟩
section
variable {S T Sb:L01} {w0 wb w w':World} {es es1 os os1 rest F M K:List OE}
theorem Rds.rpm {τ:Type} {e:Enc τ} {v:Value} {l:List τ} (h:Rds S w es) (hm:Mm (red e v l) es):RP S w e v l:=(h _ hm.mem).rp
theorem Rds.rbm {b:Nat} {cs:List Value} (h:Rds S w es) (hm:Mm (.bx b cs) es):RB S w b cs:=h _ hm.mem
theorem wn (hZ:Fz S w0 Sb wb) (hTT:TOk S T w0) (hA:Rds Sb wb es) (hP:Off T es) (hS:St Sb wb w os) (hs:Spl os F M K) :
  Fz S w0 (fg K) w/\Rds (fg K) w (M++es)/\Off T (M++es)/\St (fg K) w w K:=by
 have h:=hZ.frzK hTT hA hP (hS.perm hs.perm.1)
 rwa [<-hs.perm.2]at h
theorem Tz {τ:Type} {e:Enc τ} {v:Value} {l:List τ} (hA:Rds Sb w es) (hP:Off T es) (hm:Mm (red e v l) es):RP (T++Sb) w e v l:=
 ((hA _ hm.mem).more (hP _ hm.mem)).rp
theorem Sy {b:Nat} {cs:List Value} (hA:Rds Sb w es) (hP:Off T es) (hm:Mm (.bx b cs) es):RB (T++Sb) w b cs:=(hA _ hm.mem).more (hP _ hm.mem)
theorem sfL (hZ:Fz S w0 Sb wb) (hTT:TOk S T w0) (hA:Rds Sb wb es) (hP:Off T es) (hS:St Sb wb w os) (hL:Len os os1 rest) (hx:Su es rest es1):SfT S T w0 w es1 os1:=by
 obtain⟨j,k,z,A⟩:=hZ.frzK (osF:=rest) (osK:=os1) hTT hA hP (St.perm (show St Sb wb w (os1++rest) from hL Sb wb w [] hS) List.perm_append_comm)
 exact SfT.mk' j (hx.rds k) (hx.off z) A
theorem Qj {w0:World} (hZ:Fz [] w0 Sb wb) (hTT:TOk [] T w0) (hA:Rds Sb wb es) (hP:Off T es) (hS:St Sb wb w os) (hx:Su es os es1):Rds T w es1:=
 hx.rds (hZ.outT hTT hA hP hS).2
theorem Rds.cc {T:L01} {w:World} {es:List OE} {o:OE} (j:Rds T w [o]) (k:Rds T w es):Rds T w (o :: es):=Rds.cons (j.nthT 0 rfl) k
theorem Rds.cl {T:L01} {w:World} {τ:Type} {e:Enc τ} {v:Value} {l r:List τ} {lo:Int} (hz:0<e.sz) (h:Rds T w [red e v l]) (hg:drO l lo=some r):Rds T w [red e (slV v e.sz lo.toNat l.length) r]:=Rds.cons (RP.kept hz ((h.rp 0 rfl).g_sll hg)) Rds.nil
theorem TV {w0:World} (hZ:Fz [] w0 Sb wb) (hS:St Sb wb w os):St [] w0 w []:=(hZ.st hS).p0
theorem MK {α:Type} {p G:Prop} {q:α->Prop} {x:Option α} (h:ut x p q) (hn:x=none->p->G) (hs:∀c,x=some c->q c->G):G:=by
 cases x with
 | none=>exact hn rfl h
 | some c=>exact hs c rfl h
end
theorem J7 {P:Program} {n:Nat} {Q:Exit->Act->World->Prop} {L:Env} {w w0 wb:World} {S T Sb:L01} {es os F K M:List OE} {ty:TypeId} {pos:String} {after:Array Edge} {ops:Array Oper} {rest:List Oper} {d:Nat} {f:FuncId} {xs:List Operand} {G:Array TypeId} {vs:List Value} {φ:Value->World->Prop}
  (hargs:L.evs xs=some vs) (hZ:Fz S w0 Sb wb) (hTT:TOk S T w0) (hA:Rds Sb wb es) (hP:Off T es) (hS:St Sb wb w os) (hs:Spl os F M K)
  (hc:Fz S w0 (fg K) w->TOk [] (T++fg K) w->Rds (fg K) w (M++es)->Off T (M++es)->St (fg K) w w K->Calls P f vs.toArray w (Ret φ)) (hf:mK P f=true) (hd:Nat.blt d n=true)
  (k:∀v w',φ v w'->Fz S w0 (fg K) w->Rds (fg K) w (M++es)->Off T (M++es)->St (fg K) w w K->wpR P n ops Q rest ((d,v) :: L) w'):wpR P n ops Q (⟨some d,.call ⟨.value (.func f),xs.toArray,G⟩,ty,pos,after,none⟩ :: rest) L w:=by
 obtain⟨j,A,B,z⟩:=wn hZ hTT hA hP hS hs
 exact ou hf hargs (hc j (j.okT hTT z) A B z) hd fun v w' h=>k v w' h j A B z
theorem tx {P:Program} {n:Nat} {Q:Exit->Act->World->Prop} {L:Env} {w wb:World} {Sb:L01} {es os0:List OE} {γ ρ:Type} {x y:Code} {r:ρ} {o:Option ρ} {S:L01} {w0:World} {k:Nat} {J:γ->Env->World->Prop} {f:γ->Option ρ} {j:Env} {os es1:List OE} (I:Nat×(γ->Env->World->Prop)×(γ->Option ρ)×Env×List OE×List OE) (B:I=(k,J,f,j,os,es1)) (z:fid y=k) (G:o=some r) (A:Oc f o) (hl:j.Le L) (hO:St S w0 w os) (hA:Rds Sb wb es) (hS:St Sb wb w os0) (hX:Su es os0 es1)
  (hx:(∀g L w,J g L w->f g=some r->wpC P n y Q L w)->wpC P n x (Exit.then (y.wp P Q) Q) L w)
  (hy:∀g L w,J g L w->f g=some r->wpC P n y Q L w):wpC P n (.seq x y) Q L w:=iF J f hy hx
theorem HF {P:Program} {f:FuncId} {args:Array Value} {S:L01} {w0 w:World} {os lent j:List OE} {φ ψ:Value->World->Prop} (hO:St S w0 w os) (hc:LC S w0 w os lent j (Calls P f args w (Ret φ))) (hi:∀v w',φ v w'->St S w0 w (lent++j)->ψ v w'):Calls P f args w (Ret ψ):=
 have k:=hc.1 S w0 w [] hO
 ur (hc.2 k) fun v w' h=>hi v w' h k
theorem Km {P:Program} {f:FuncId} {args:Array Value} {w w0 wb:World} {S T Sb:L01} {es os F K M:List OE} {φ ψ:Value->World->Prop} (hZ:Fz S w0 Sb wb) (hTT:TOk S T w0) (hA:Rds Sb wb es) (hP:Off T es) (hS:St Sb wb w os) (hs:Spl os F M K)
  (hc:Fz S w0 (fg K) w->TOk [] (T++fg K) w->Rds (fg K) w (M++es)->Off T (M++es)->St (fg K) w w K->Calls P f args w (Ret φ))
  (hi:∀v w',φ v w'->Fz S w0 (fg K) w->Rds (fg K) w (M++es)->Off T (M++es)->St (fg K) w w K->ψ v w'):Calls P f args w (Ret ψ):=by
 obtain⟨j,z,A,k⟩:=wn hZ hTT hA hP hS hs
 exact ur (hc j (j.okT hTT k) z A k) fun v w' h=>hi v w' h j z A k
abbrev KT:=L01×L01×L01×L01
abbrev EnM:=List Th->Value->List OE->List OE->Prop
def aL {α:Type} (d:α):List (Nat×α)->Nat->α
 | [],_=>d
 | (j,a) :: r,i=>if i=j then a else aL d r i
def nwM (l:List (Nat×KT)) (nl fl:L01) (i:Nat):Bool:=(l.map (·.1)).contains i
def csM:List (Nat×KT)->Nat->Option Nat
 | [],_=>none
 | (j,p) :: r,k=>if p.2.1.contains k then some j else csM r k
def enM (ei:List (Nat×EnM)):Nat->EnM:=aL (fun _ _ _ _=>False) ei
inductive NsM:List (Nat×EnM)->Prop
 | n:NsM []
 | c {i:Nat} {E:EnM} {r:List (Nat×EnM)} (h:∀h v x y,E h v x y->y.all OE.ns=true) (t:NsM r):NsM ((i,E) :: r)
theorem NsM.ok {ei:List (Nat×EnM)} (hn:NsM ei):∀i h v x y,enM ei i h v x y->∀o∈y,o.ns=true:=by
 induction hn with
 | n=>intro i h v x y he; exact he.elim
 | @c j E r hE _ ih=>
  intro i h v x y he
  unfold enM aL at he
  by_cases hi:i=j
  ·rw[af hi]at he; exact IG (hE h v x y he)
  ·rw[ae hi]at he; exact ih i h v x y he
theorem xsM {l:List (Nat×KT)} {nl fl:L01}:∀{xi:List (Nat×List OE)},(xi.all fun p=>nwM l nl fl p.1)=true->∀k,nwM l nl fl k=false->aL [] xi k=[]
 | [],_,_,_=>rfl
 | (j,a) :: r,h,k,hk=>by
  rw[List.all_cons,aW]at h
  unfold aL
  by_cases hi:k=j
  ·subst hi; rw[h.1]at hk; cases hk
  ·rw[ae hi]; exact xsM h.2 k hk
inductive Lk {α:Type} (i:Nat):List (Nat×α)->α->Prop
 | h (a:α) (l:List (Nat×α)):Lk i ((i,a) :: l) a
 | t {a:α} {l:List (Nat×α)} (p:Nat×α) (h:Lk i l a):Lk i (p :: l) a
inductive Lx (i:Nat):List (Nat×List OE)->List OE->Prop
 | h (a:List OE) (l:List (Nat×List OE)):Lx i ((i,a) :: l) a
 | n:Lx i [] []
 | t {a:List OE} {l:List (Nat×List OE)} (p:Nat×List OE) (h:Lx i l a):Lx i (p :: l) a
inductive Lg:Gt->Nat->Th->Prop
 | h (g:Gt) (k:Nat) (t:Th):Lg (kx g k t) k t
 | t {g:Gt} {k:Nat} {t:Th} (j:Nat) (u:Th) (h:Lg g k t):Lg (kx g j u) k t
inductive Ap:List OE->List OE->List OE->Prop
 | n (z:List OE):Ap [] z z
 | c {l z r:List OE} (o:OE) (h:Ap l z r):Ap (o :: l) z (o :: r)
inductive Hm (g:Gt):L01->List Th->Prop
 | n:Hm g [] []
 | c {k:Nat} {t:Th} {l:L01} {r:List Th} (h:Lg g k t) (s:Hm g l r):Hm g (k :: l) (t :: r)
inductive Cm (g:Gt):L01->List OE->List OE->Prop
 | n (z:List OE):Cm g [] z z
 | c {k:Nat} {v:Value} {x y z r o:List OE} {l:L01} (h:Lg g k (v,x,y)) (s:Cm g l z r) (a:Ap x r o):Cm g (k :: l) z o
inductive Ck (g:Gt):L01->List OE->List OE->Prop
 | n (z:List OE):Ck g [] z z
 | c {k:Nat} {v:Value} {x y z r o:List OE} {l:L01} (h:Lg g k (v,x,y)) (s:Ck g l z r) (a:Ap y r o):Ck g (k :: l) z o
inductive Bm (xi:List (Nat×List OE)):L01->List OE->List OE->Prop
 | n (z:List OE):Bm xi [] z z
 | c {k:Nat} {x z r o:List OE} {l:L01} (h:Lx k xi x) (s:Bm xi l z r) (a:Ap x r o):Bm xi (k :: l) z o
def MI (p:Prop):Prop:=p
theorem MI.o {p:Prop} (h:MI p):p:=h
theorem MI.i {p:Prop} (h:p):MI p:=h
def NI (p:Prop):Prop:=p
theorem NI.o {p:Prop} (h:NI p):p:=h
theorem NI.i {p:Prop} (h:p):NI p:=h
abbrev mkM (id:Nat) (l:List (Nat×KT)) (nl fl:L01) (xi:List (Nat×List OE)) (xf:List OE) (ei:List (Nat×EnM)) (le:Env):=(id,l,nl,fl,xi,xf,ei,le)
section
variable {P:Program} {ops:Array Oper} {Q:Exit->Act->World->Prop} {S T Sb:L01} {w0 wb:World} {es os os0:List OE} {n:Nat} {L:Env} {w:World} {l:List (Nat×KT)} {nl fl dl cl kl bl:L01} {xi:List (Nat×List OE)} {ei:List (Nat×EnM)} {E:EnM}
abbrev lM (P:Program) (n:Nat) (ops:Array Oper) (Q:Exit->Act->World->Prop) (l:List (Nat×KT)) (nl fl:L01) (xi:List (Nat×List OE)) (ei:List (Nat×EnM)) (S T:L01) (w0:World) (es os:List OE) (is:L01) (g:Gt) (L:Env):Prop:=
 iZ P n ops Q (nwM l nl fl) (csM l) (aL [] (l.map fun p=>(p.1,p.2.2.2.1))) (aL [] xi) (aL [] (l.map fun p=>(p.1,p.2.2.2.2))) (aL [] (l.map fun p=>(p.1,p.2.1))) S T w0 es os (enM ei) is g L
theorem mR {id:Nat} {r:List Oper} {j:List OE} {k:Env} (I:Nat×List (Nat×KT)×L01×L01×List (Nat×List OE)×List OE×List (Nat×EnM)×Env) (N:I=(id,l,nl,fl,xi,j,ei,k)) (hl:k.Le L)
  (hZ:Fz S w0 Sb wb) (hTT:TOk S T w0) (hA:Rds Sb wb es) (hP:Off T es) (hS:St Sb wb w os0) (hL:Len os0 j os) (hX:(List.range r.length).flatMap (aL [] xi)=j) (B:(xi.all fun p=>nwM l nl fl p.1)=true) (z:es.all OE.ns=true) (A:NsM ei) (hm:P.follows .mixedOrders=true)
  (G:(qo r.toArray&&wu r.toArray&&vX r.toArray (fun _=>true))=true) (J:NL r.toArray (nwM l nl fl) (csM l) (aL [] (l.map fun p=>(p.1,p.2.2.2.1))) (aL [] (l.map fun p=>(p.1,p.2.2.2.2))) (aL [] (l.map fun p=>(p.1,p.2.1)))=true)
  (h:lM P n r.toArray Q l nl fl xi ei S T w0 es os (List.range r.length) (fun _=>(undef,[],[])) L):wpC P n (.region id r.toArray true) Q L w:=
 DW _ _ _ _ _ _ _ (SfT.mk' hZ hA hP (by rw[hX]; exact hL Sb wb w [] hS)) (xsM B) hTT z A.ok hm G J h
theorem Ts {i d:Nat} {is:L01} {g:Gt} {op:Op} {ty:TypeId} {pos:String} {after:Array Edge} {v:Value} (j:ops[i]? = some ⟨some d,op,ty,pos,after,none⟩) (hf:nwM l nl fl i=false)
  (k:∀w Sb wb,Fz S w0 Sb wb->Rds Sb wb es->Off T es->St Sb wb w os->OpV P n L w ⟨some d,op,ty,pos,after,none⟩ v w) (hd:Nat.blt d n=true) (h:lM P n ops Q l nl fl xi ei S T w0 es os is g ((d,v) :: L)):lM P n ops Q l nl fl xi ei S T w0 es os (i :: is) g L:=Rs j hf k hd h
section
variable {hh:List Th} {xl co ck bw ck':List OE} {i d:Nat} {is:L01} {g:Gt} {op:Op} {ty:TypeId} {pos:String} {after:Array Edge}
theorem RK (G:ops[i]? = some ⟨some d,op,ty,pos,after,none⟩) (hf:nwM l nl fl i=true) (N:Lk i l (dl,cl,kl,bl)) (he:Lk i ei E) (J:Lx i xi xl) (O:Hm g dl hh) (R:Cm g cl xl co) (U:Ck g kl [] ck) (V:Bm xi bl os bw) (hE:∀h v x y,enM ei i h v x y=E h v x y)
  (j:coM ops.size (csM l) g i++aL [] xi i=co) (k:ckM (aL [] (l.map fun p=>(p.1,p.2.2.2.1))) g i=ck) (z:brM ops.size (aL [] (l.map fun p=>(p.1,p.2.2.2.2))) (aL [] xi) i++os=bw) (A:(aL [] (l.map fun p=>(p.1,p.2.1)) i).map g=hh) (B:∃v x y,E hh v x y)
  (I:∀w Sl Tl,Fr S w0 w->Fz Sl w Sl w->TOk Sl Tl w->Rds Sl w (ck++es)->Off Tl (ck++es)->St Sl w w (co++bw)->OpX P n L w ⟨some d,op,ty,pos,after,none⟩ (fun v w'=>∃x y,E hh v x y/\SfT Sl Tl w w' y (x++bw))) (hd:Nat.blt d n=true)
  (h:MI (∀v x y,E hh v x y->lM P n ops Q l nl fl xi ei S T w0 es os is (kx g i (v,x,y)) ((d,v) :: L))):lM P n ops Q l nl fl xi ei S T w0 es os (i :: is) g L:=Mw E hh co ck bw G hf hE j k z A B I hd h
theorem S5 (G:ops[i]? = some ⟨none,op,ty,pos,after,none⟩) (hf:nwM l nl fl i=true) (N:Lk i l (dl,cl,kl,bl)) (he:Lk i ei E) (J:Lx i xi xl) (O:Hm g dl hh) (R:Cm g cl xl co) (U:Ck g kl [] ck) (V:Bm xi bl os bw) (hE:∀h v x y,enM ei i h v x y=E h v x y)
  (j:coM ops.size (csM l) g i++aL [] xi i=co) (k:ckM (aL [] (l.map fun p=>(p.1,p.2.2.2.1))) g i=ck) (z:brM ops.size (aL [] (l.map fun p=>(p.1,p.2.2.2.2))) (aL [] xi) i++os=bw) (A:(aL [] (l.map fun p=>(p.1,p.2.1)) i).map g=hh) (B:∃v x y,E hh v x y)
  (I:∀w Sl Tl,Fr S w0 w->Fz Sl w Sl w->TOk Sl Tl w->Rds Sl w (ck++es)->Off Tl (ck++es)->St Sl w w (co++bw)->OpY P n L w ⟨none,op,ty,pos,after,none⟩ (fun w'=>∃x y,E hh undef x y/\SfT Sl Tl w w' y (x++bw)))
  (h:MI (∀v x y,E hh v x y->lM P n ops Q l nl fl xi ei S T w0 es os is (kx g i (v,x,y)) L)):lM P n ops Q l nl fl xi ei S T w0 es os (i :: is) g L:=QH E hh co ck bw G hf hE j k z A B I h
theorem NZ {f:FuncId} {j:List Operand} {I:Array TypeId} {vs:List Value} (J:ops[i]? = some ⟨some d,.call ⟨.value (.func f),j.toArray,I⟩,ty,pos,after,none⟩) (hf:nwM l nl fl i=true) (hg:mK P f=true) (hargs:L.evs j=some vs) (R:Lk i l (dl,cl,kl,bl)) (he:Lk i ei E) (O:Lx i xi xl) (U:Hm g dl hh) (V:Cm g cl xl co) (X:Ck g kl [] ck) (Y:Bm xi bl os bw) (hE:∀h v x y,enM ei i h v x y=E h v x y)
  (k:coM ops.size (csM l) g i++aL [] xi i=co) (z:ckM (aL [] (l.map fun p=>(p.1,p.2.2.2.1))) g i=ck) (A:brM ops.size (aL [] (l.map fun p=>(p.1,p.2.2.2.2))) (aL [] xi) i++os=bw) (B:(aL [] (l.map fun p=>(p.1,p.2.1)) i).map g=hh) (G:∃v x y,E hh v x y)
  (N:∀w Sl Tl,Fr S w0 w->Fz Sl w Sl w->TOk Sl Tl w->Rds Sl w (ck++es)->Off Tl (ck++es)->St Sl w w (co++bw)->Calls P f vs.toArray w (Ret fun v w'=>∃x y,E hh v x y/\SfT Sl Tl w w' y (x++bw))) (hd:Nat.blt d n=true)
  (h:MI (∀v x y,E hh v x y->lM P n ops Q l nl fl xi ei S T w0 es os is (kx g i (v,x,y)) ((d,v) :: L))):lM P n ops Q l nl fl xi ei S T w0 es os (i :: is) g L:=Kc E hh co ck bw J hf hE k z A B G hg hargs N hd h
theorem My {k:Operand} {f:FuncId} {j:List Value} {z:List Operand} {N:Array TypeId} {vs:List Value} (O:ops[i]? = some ⟨some d,.call ⟨.value k,z.toArray,N⟩,ty,pos,after,none⟩) (hf:nwM l nl fl i=true) (hx:L.ev k=some (.func (.func f) #[] j.toArray)) (hg:mK P f=true) (hargs:L.evs z=some vs) (V:Lk i l (dl,cl,kl,bl)) (he:Lk i ei E) (U:Lx i xi xl) (X:Hm g dl hh) (Y:Cm g cl xl co) (Z:Ck g kl [] ck) (h4:Bm xi bl os bw) (hE:∀h v x y,enM ei i h v x y=E h v x y)
  (A:coM ops.size (csM l) g i++aL [] xi i=co) (B:ckM (aL [] (l.map fun p=>(p.1,p.2.2.2.1))) g i=ck) (G:brM ops.size (aL [] (l.map fun p=>(p.1,p.2.2.2.2))) (aL [] xi) i++os=bw) (I:(aL [] (l.map fun p=>(p.1,p.2.1)) i).map g=hh) (J:∃v x y,E hh v x y)
  (R:∀w Sl Tl,Fr S w0 w->Fz Sl w Sl w->TOk Sl Tl w->Rds Sl w (ck++es)->Off Tl (ck++es)->St Sl w w (co++bw)->Calls P f (vs++j).toArray w (Ret fun v w'=>∃x y,E hh v x y/\SfT Sl Tl w w' y (x++bw))) (hd:Nat.blt d n=true)
  (h:MI (∀v x y,E hh v x y->lM P n ops Q l nl fl xi ei S T w0 es os is (kx g i (v,x,y)) ((d,v) :: L))):lM P n ops Q l nl fl xi ei S T w0 es os (i :: is) g L:=GO E hh co ck bw O hf hE A B G I J hx hg hargs R hd h
theorem Rl {j os':List OE} (G:Ck g nl es j) (I:Cm g fl os os') (A:((List.range ops.size).filter (nwM l nl fl)).flatMap (fun k=>(g k).2.2)++es=j) (B:((List.range ops.size).filter (fun k=>nwM l nl fl k&&csM l k == none)).flatMap (fun k=>(g k).2.1)++os=os')
  (h:NI (∀w,SfT S T w0 w j os'->QE n Q .normal L w)):lM P n ops Q l nl fl xi ei S T w0 es os [] g L:=Lr fun w z=>h w (by rw[A,B]at z; exact z)
end
end
theorem Qm {P:Program} {op:BinOp} {T:TypeId} {n:Nat} {y v:Value} (hn:(OfNat.ofNat n:Int)=(((OfNat.ofNat n:UInt8).toNat:Nat):Int)) (h:cL P op T (v8 (OfNat.ofNat n)) y v):cL P op T (.int .u8 (OfNat.ofNat n)) y v:=by
 have:=h; simp only[v8]at this; rw[<- hn]at this; exact this
theorem PV {P:Program} {op:BinOp} {T:TypeId} {n:Nat} {y v:Value} (hn:(OfNat.ofNat n:Int)=(((OfNat.ofNat n:UInt8).toNat:Nat):Int)) (h:cL P op T y (v8 (OfNat.ofNat n)) v):cL P op T y (.int .u8 (OfNat.ofNat n)) v:=by
 have:=h; simp only[v8]at this; rw[<- hn]at this; exact this
theorem NS {P:Program} {op:BinOp} {T:TypeId} {n:Nat} {y v:Value} (hn:(OfNat.ofNat n:Int)=(((OfNat.ofNat n:UInt32).toNat:Nat):Int)) (h:cL P op T (v32 (OfNat.ofNat n)) y v):cL P op T (.int .u32 (OfNat.ofNat n)) y v:=by
 have:=h; simp only[v32]at this; rw[<- hn]at this; exact this
theorem Ob {P:Program} {op:BinOp} {T:TypeId} {n:Nat} {y v:Value} (hn:(OfNat.ofNat n:Int)=(((OfNat.ofNat n:UInt32).toNat:Nat):Int)) (h:cL P op T y (v32 (OfNat.ofNat n)) v):cL P op T y (.int .u32 (OfNat.ofNat n)) v:=by
 have:=h; simp only[v32]at this; rw[<- hn]at this; exact this
theorem Pc {P:Program} {op:BinOp} {T:TypeId} {n:Nat} {y v:Value} (hn:(OfNat.ofNat n:Int)=(((OfNat.ofNat n:UInt64).toNat:Nat):Int)) (h:cL P op T (v64 (OfNat.ofNat n)) y v):cL P op T (.int .u64 (OfNat.ofNat n)) y v:=by
 have:=h; simp only[v64]at this; rw[<- hn]at this; exact this
theorem OD {P:Program} {op:BinOp} {T:TypeId} {n:Nat} {y v:Value} (hn:(OfNat.ofNat n:Int)=(((OfNat.ofNat n:UInt64).toNat:Nat):Int)) (h:cL P op T y (v64 (OfNat.ofNat n)) v):cL P op T y (.int .u64 (OfNat.ofNat n)) v:=by
 have:=h; simp only[v64]at this; rw[<- hn]at this; exact this
end Go.Gk
