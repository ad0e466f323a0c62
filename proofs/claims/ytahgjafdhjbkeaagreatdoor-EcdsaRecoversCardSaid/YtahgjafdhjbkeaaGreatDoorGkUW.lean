import Derived.Test.YtahgjafdhjbkeaaGreatDoorGkUR
import Derived.Test.YtahgjafdhjbkeaaGreatDoorGkFman
set_option linter.unusedVariables false
set_option linter.unusedSimpArgs false
set_option linter.unusedSectionVars false

section
namespace Go.Gk.Bn
open Go Go.Gk Go.Gk.Sh
theorem nY (x:UInt32):x.toBitVec.msb=decide (2147483648<=x.toNat):=by
 rw[BitVec.msb_eq_decide]; rfl
theorem Bw (x:UInt32):(bA x 31).toNat=if x.toBitVec.msb=true then 1 else 0:=by
 have f:=cC x
 have:(bA x 31).toNat=x.toNat / 2147483648:=by
  unfold bA
  rw[UInt32.toNat_ofNat',show min 31 32=31 from rfl]
  omega
 rw[this,nY]
 by_cases h:2147483648<=x.toNat
 ·rw[if_pos (decide_eq_true h)]; omega
 ·rw[if_neg (by rw[decide_eq_true_eq]; exact h)]; omega
theorem zo (a b c:UInt32) (hc:c.toNat<=1):∃d e:UInt32,F.Jx a b c=some (d,e)/\e.toNat<=1/\d.toNat+b.toNat+c.toNat=a.toNat+4294967296*e.toNat:=by
 refine⟨(a - b) - c,_,rfl,?_⟩
 obtain⟨d,f⟩:∃d,(a - b) - c=d:=⟨_,rfl⟩
 rw[f]
 have h:d.toNat=(4294967296 - c.toNat+(4294967296 - b.toNat+a.toNat)%4294967296)%4294967296:=by rw[<-f,UInt32.toNat_sub,UInt32.toNat_sub]
 have j:=cC a; have k:=cC b; have i:=cC d
 rw[Bw]
 have g:(((~~~ a) &&& b) ||| ((~~~ (a ^^^ b)) &&& d)).toBitVec.msb=((!a.toBitVec.msb&&b.toBitVec.msb) || (!(a.toBitVec.msb != b.toBitVec.msb)&&d.toBitVec.msb)):=by
  simp[BitVec.msb_or,BitVec.msb_and,BitVec.msb_xor,BitVec.msb_not]
 rw[g,nY,nY,nY]
 by_cases h1:2147483648<=a.toNat <;> by_cases h2:2147483648<=b.toNat <;> by_cases h3:2147483648<=d.toNat <;> simp only[h1,h2,h3,decide_true,decide_false] <;> simp <;> omega
theorem n6 {l:L0} {lo hi:Nat} (f:lo<=hi) (g:hi<=l.length):((l.drop lo).take (hi - lo)).length=hi - lo:=by
 rw[List.length_take,List.length_drop]; omega
theorem vF {l:L0} {lo hi i:Nat} (g:hi<=l.length) (f:i<hi - lo):aA ((l.drop lo).take (hi - lo)) (i:Int)=some (l.getD (lo+i) 0):=by
 rw[aP (show i<((l.drop lo).take (hi - lo)).length by rw[List.length_take,List.length_drop]; omega) 0]
 congr 1
 rw[List.getD_eq_getElem?_getD,List.getElem?_take_of_lt f,List.getElem?_drop,<-List.getD_eq_getElem?_getD]
def TkI (u y:L0) (lo i:Nat) (x:UInt32×L0):Prop:=
 x.2.length=u.length/\x.1.toNat<=1/\(∀k,lo+i<=k->x.2.getD k 0=u.getD k 0)/\val x.2+4294967296^lo*val (y.take i)=val u+4294967296^(lo+i)*x.1.toNat
theorem zZ (u y:L0) (lo hi:Nat) (j:lo<=hi) (m:hi<=u.length) (Y:u.length<=4611686018427387904) (Z:y.length<=4611686018427387904) :
  ∃r,F.EC u lo hi y=some r/\TkI u y lo (hi - lo) r:=by
 have o:∀(k i:Nat) (x:UInt32×L0),i+k=hi - lo->TkI u y lo i x->∃r,loop (F.FN lo hi u y) (x.1,(i:Int),x.2)=some r/\TkI u y lo (hi - lo) r:=by
  intro k
  induction k with
  | zero=>
   intro i x q f
   have:i=hi - lo:=by omega
   subst this
   refine⟨x,bL ?_,f⟩
   unfold F.FN
   dsimp only
   rw[n6 j m,if_neg (by rw[decide_eq_true_eq]; omega)]
  | succ k ih=>
   intro i x q f
   obtain⟨G,I,J,K⟩:=f
   have t:i<hi - lo:=by omega
   have M:wI ((i:Int)+1)=((i+1:Nat):Int):=by rw[aJ (by omega) (by omega)]; rfl
   obtain⟨d,e,N,O,R⟩:=zo (x.2.getD (lo+i) 0) (y.getD i 0) x.1 I
   have A:F.FN lo hi u y (x.1,(i:Int),x.2)=some (.inl (e,((i+1:Nat):Int),x.2.set (lo+i) d)):=by
    have g:F.Gn lo hi x.1 (i:Int) x.2 (y.getD i 0)=some (.inl (e,((i+1:Nat):Int),x.2.set (lo+i) d)):=by
     unfold F.Gn
     rw[vF (by omega) t,ae,N,ae,ae,aS,M,Int.toNat_natCast]; rfl
    unfold F.FN
    dsimp only
    rw[n6 j m,if_pos (decide_eq_true (by omega))]
    by_cases hb:i<y.length
    ·rw[if_pos (decide_eq_true (by omega)),aP hb 0,ae,g]
    ·rw[if_neg (by rw[decide_eq_true_eq]; omega)]
     have:y.getD i 0=0:=by rw[List.getD_eq_getElem?_getD,List.getElem?_eq_none (by omega)]; rfl
     rw[this]at g; exact g
   rw[bJ A]
   refine ih (i+1) (e,x.2.set (lo+i) d) (by omega) ⟨by simpa using G,O,fun B hk=>?_,?_⟩
   ·show (x.2.set (lo+i) d).getD B 0=_
    rw[dw (by omega)]; exact J B (by omega)
   ·show val (x.2.set (lo+i) d)+_=_+_*e.toNat
    have U:=dB x.2 (lo+i) d (by omega)
    rw[bO y i,Nat.mul_add,<-Nat.mul_assoc,<-Nat.pow_add,show lo+(i+1)=(lo+i)+1 by omega,Nat.pow_succ]
    obtain⟨h,V⟩:∃h,(4294967296:Nat)^(lo+i)=h:=⟨_,rfl⟩
    rw[V]at K U ⊢
    have X:=congrArg (fun z=>h*z) R
    simp only[Nat.mul_add]at X
    rw[Nat.mul_assoc]
    omega
 exact o (hi - lo) 0 (0,u) (by omega) ⟨rfl,Nat.zero_le 1,fun _ _=>rfl,by simp[val]⟩
theorem tF (u y:L0) (lo hi:Nat) (o:lo<=hi) (q:hi<=u.length) (t:u.length<=4611686018427387904) (x:y.length<=hi - lo) (i:val u<4294967296^hi) (B:4294967296^lo*val y<=val u) :
  ∃c f,F.EC u lo hi y=some (c,f)/\f.length=u.length/\val f+4294967296^lo*val y=val u:=by
 obtain⟨⟨c,f⟩,z,j,r3,m,g⟩:=zZ u y lo hi o q t (by omega)
 dsimp only at j r3 m g
 rw[List.take_of_length_le x,show lo+(hi - lo)=hi by omega]at g
 refine⟨c,f,z,j,?_⟩
 have G:val f<4294967296^hi:=mL fun k A=>by rw[m k (by omega)]; exact vd i k A
 rcases Nat.lt_or_ge c.toNat 1 with h | h
 ·have:c.toNat=0:=by omega
  rw[this]at g; omega
 ·have:c.toNat=1:=by omega
  rw[this]at g; omega
theorem AU (n:Nat) (l:L0) (h:l.length=n):cpL (List.replicate n 0) l 0 (List.replicate n (0:UInt32)).length=l:=by
 unfold cpL
 simp only[List.length_replicate,Nat.sub_zero,Nat.zero_add,h,Nat.min_self,List.take_zero,List.nil_append]
 rw[List.take_of_length_le (by omega),List.drop_of_length_le (by simp),List.append_nil]
theorem oq (a b:L0) (z:a.length<=40000000000000) (A:b.length<=40000000000000):F.EE a b=some (if val a<val b then ([],false) else (an (val a - val b),true)):=by
 obtain⟨m,g,B,h⟩:=eG a (by omega)
 obtain⟨G,i,I,j⟩:=eG b (by omega)
 have J:(an (val a)).length<=a.length:=bl (bv a)
 unfold F.EE
 rw[jK a b (by omega) (by omega),ae]
 by_cases hl:val a<val b
 ·rw[if_pos hl]; unfold cD; rw[if_pos hl,if_pos (by decide)]
 ·rw[if_neg hl]; unfold cD
  rw[if_neg hl,if_neg (by split <;> decide),g,ae,i,ae,h,j,dK (by omega),ae,Int.toNat_natCast,aS,AU _ _ rfl]
  have y:(an (val b)).length<=(an (val a)).length:=c6 (by omega)
  obtain⟨c,f,o,K,q⟩:=tF (an (val a)) (an (val b)) 0 (an (val a)).length (Nat.zero_le _) (Nat.le_refl _) (by omega) (by omega) (bv _) (by rw[ar,ar]; omega)
  rw[o,ae]
  obtain⟨k,t,M,x⟩:=eZ f (by omega)
  dsimp only
  rw[t,ae,x]
  rw[ar,ar,Nat.pow_zero,Nat.one_mul]at q
  rw[show val f=val a - val b by omega]
def MuI (x:UInt32) (y o:L0) (i j:Nat) (s:UInt64×L0):Prop:=
 s.2.length=o.length/\s.1.toNat<=4294967295/\(∀k,i+j<=k->s.2.getD k 0=o.getD k 0)/\val s.2+4294967296^(i+j)*s.1.toNat=val o+4294967296^i*(x.toNat*val (y.take j))
theorem wv (a b:L0) (m:Nat) (i:Nat) (x:UInt32) (y o:L0) (z:b.take m=y) (ho:i+y.length<o.length) (ac:o.length<=4611686018427387904) :
  ∃c o',MuI x y o i y.length (c,o')/\loop (F.EP b m (i:Int) x) (0,0,o)=some (.inl (((i+1:Nat):Int),o'.set (i+y.length) c.toUInt32)):=by
 have A:∀(k j:Nat) (s:UInt64×L0),j+k=y.length->MuI x y o i j s->∃c o',MuI x y o i y.length (c,o')/\loop (F.EP b m (i:Int) x) (s.1,(j:Int),s.2)=some (.inl (((i+1:Nat):Int),o'.set (i+y.length) c.toUInt32)):=by
  intro k
  induction k with
  | zero=>
   intro j s O g
   have:j=y.length:=by omega
   subst this
   refine⟨s.1,s.2,g,bL ?_⟩
   have h:wI ((i:Int)+(y.length:Int))=((i+y.length:Nat):Int):=by rw[aJ (by omega) (by omega)]; omega
   have q:wI ((i:Int)+1)=((i+1:Nat):Int):=by rw[aJ (by omega) (by omega)]; rfl
   unfold F.EP
   dsimp only
   have:=g.1
   rw[z,if_neg (by rw[decide_eq_true_eq]; omega),h,q,aP (show i+y.length<s.2.length by omega) 0,ae,aS,Int.toNat_natCast]; rfl
  | succ k ih=>
   intro j s O g
   obtain⟨R,g2,U,V⟩:=g
   have h:wI ((i:Int)+(j:Int))=((i+j:Nat):Int):=by rw[aJ (by omega) (by omega)]; omega
   have q:wI ((j:Int)+1)=((j+1:Nat):Int):=by rw[aJ (by omega) (by omega)]; rfl
   obtain⟨t,B⟩:∃t,s.1+((x.toUInt64*(y.getD j 0).toUInt64)+(s.2.getD (i+j) 0).toUInt64)=t:=⟨_,rfl⟩
   have G:F.EP b m (i:Int) x (s.1,(j:Int),s.2)=some (.inl (aO t 32,((j+1:Nat):Int),s.2.set (i+j) t.toUInt32)):=by
    unfold F.EP
    dsimp only
    rw[z,if_pos (decide_eq_true (by omega)),aP (show j<y.length by omega) 0,ae,h,aP (show i+j<s.2.length by omega) 0,ae,aS,B,ae,aS,q,Int.toNat_natCast]; rfl
   rw[bJ G]
   have x1:=cC x; have x2:=cC (y.getD j 0); have x3:=cC (s.2.getD (i+j) 0)
   have hp:=Nat.mul_le_mul (show x.toNat<=4294967295 by omega) (show (y.getD j 0).toNat<=4294967295 by omega)
   have I:(x.toUInt64*(y.getD j 0).toUInt64).toNat=x.toNat*(y.getD j 0).toNat:=by rw[nQ _ _ (by rw[bV,bV]; omega),bV,bV]
   have J:(x.toUInt64*(y.getD j 0).toUInt64+(s.2.getD (i+j) 0).toUInt64).toNat=x.toNat*(y.getD j 0).toNat+(s.2.getD (i+j) 0).toNat:=by rw[fW _ _ (by rw[I,bV]; omega),I,bV]
   have X:t.toNat=s.1.toNat+(x.toNat*(y.getD j 0).toNat+(s.2.getD (i+j) 0).toNat):=by rw[<-B,fW _ _ (by rw[J]; omega),J]
   have K:(aO t 32).toNat=t.toNat / 4294967296:=by rw[ea]; rfl
   refine ih (j+1) (aO t 32,s.2.set (i+j) t.toUInt32) (by omega) ⟨by simpa using R,by show (aO t 32).toNat<=_; rw[K]; omega,fun M hk=>?_,?_⟩
   ·show (s.2.set (i+j) t.toUInt32).getD M 0=_
    rw[dw (by omega)]; exact U M (by omega)
   ·show val (s.2.set (i+j) t.toUInt32)+_*(aO t 32).toNat=_
    have N:=dB s.2 (i+j) t.toUInt32 (by omega)
    rw[ez]at N
    rw[bO y j,Nat.mul_add,Nat.mul_add,K,show i+(j+1)=(i+j)+1 by omega,Nat.pow_succ]
    have Y:4294967296^i*(x.toNat*(4294967296^j*(y.getD j 0).toNat))=4294967296^(i+j)*(x.toNat*(y.getD j 0).toNat):=by
     rw[Nat.pow_add,Nat.mul_left_comm x.toNat,Nat.mul_assoc]
    rw[Y]
    obtain⟨f,Z⟩:∃f,(4294967296:Nat)^(i+j)=f:=⟨_,rfl⟩
    rw[Z]at V N ⊢
    have hd:=Nat.div_add_mod t.toNat 4294967296
    have e3:f*(t.toNat%4294967296)+f*4294967296*(t.toNat / 4294967296)=f*t.toNat:=by
     rw[Nat.mul_assoc,<-Nat.mul_add,Nat.add_comm,hd]
    have e4:f*t.toNat=f*s.1.toNat+(f*(x.toNat*(y.getD j 0).toNat)+f*(s.2.getD (i+j) 0).toNat):=by rw[X,Nat.mul_add,Nat.mul_add]
    omega
 exact A y.length 0 (0,o) (by omega) ⟨rfl,Nat.zero_le _,fun _ _=>rfl,by simp[val]⟩
theorem Bv (a b:L0) (ha:a.length<=40000000000000) (hb:b.length<=40000000000000) (A:(an (val a)).length+(an (val b)).length<=50000000000000):F.Ih a b=some (an (val a*val b)):=by
 obtain⟨m,X,h2,g⟩:=eG a (by omega)
 obtain⟨h,Y,h5,j⟩:=eG b (by omega)
 have Z:(an (val a)).length<=a.length:=bl (bv a)
 have lb:(an (val b)).length<=b.length:=bl (bv b)
 obtain⟨x,B⟩:∃x,an (val a)=x:=⟨_,rfl⟩
 obtain⟨y,G⟩:∃y,an (val b)=y:=⟨_,rfl⟩
 have vx:val x=val a:=by rw[<-B,ar]
 have vy:val y=val b:=by rw[<-G,ar]
 rw[B]at g Z A; rw[G]at j lb A
 unfold F.Ih
 have w0:wI ((x.length:Int)+(y.length:Int))=((x.length+y.length:Nat):Int):=by rw[aJ (by omega) (by omega)]; omega
 rw[X,ae,Y,ae,g,j,w0,dK (by omega),ae,Int.toNat_natCast]
 have I:∀(k i:Nat) (o:L0),i+k=x.length->o.length=x.length+y.length->(∀k,i+y.length<=k->o.getD k 0=0)->val o=val (x.take i)*val y->loop (F.F3 a m b h) ((i:Int),o)=some (an (val a*val b)):=by
  intro k
  induction k with
  | zero=>
   intro i o hi J _ t
   have:i=x.length:=by omega
   subst this
   refine bL ?_
   unfold F.F3
   dsimp only
   obtain⟨q,p1,p2,p3⟩:=eZ o (by omega)
   rw[g,if_neg (by rw[decide_eq_true_eq]; omega),p1,ae,p3,t,List.take_of_length_le (Nat.le_refl _),vx,vy]
  | succ k ih=>
   intro i o hi J K t
   obtain⟨c,o',⟨M,g2,z,N⟩,hl⟩:=wv a b h i (x.getD i 0) y o j (by omega) (by omega)
   dsimp only at M g2 z N
   have O:F.F3 a m b h ((i:Int),o)=some (.inl (((i+1:Nat):Int),o'.set (i+y.length) c.toUInt32)):=by
    unfold F.F3
    dsimp only
    rw[g,if_pos (decide_eq_true (by omega)),aP (show i<x.length by omega) 0,ae,hl]
   rw[bJ O]
   have R:o'.getD (i+y.length) 0=0:=by rw[z _ (Nat.le_refl _)]; exact K _ (Nat.le_refl _)
   have f:=dB o' (i+y.length) c.toUInt32 (by omega)
   have z0:(0:UInt32).toNat=0:=rfl
   rw[R,z0,Nat.mul_zero,Nat.add_zero,ez,Nat.mod_eq_of_lt (by omega)]at f
   refine ih (i+1) _ (by omega) (by simpa using (M.trans J)) (fun U V=>?_) ?_
   ·rw[dw (by omega),z U (by omega)]; exact K U (by omega)
   ·rw[f,N,List.take_of_length_le (Nat.le_refl _),t,bO x i,Nat.add_mul,Nat.mul_assoc]
 exact I x.length 0 (List.replicate (x.length+y.length) 0) (by omega) (by simp) (fun k _=>by rw[List.getD_eq_getElem?_getD]; by_cases V:k<x.length+y.length <;> simp[V]) (by rw[cn]; simp[val])
end Go.Gk.Bn
end

section
namespace Go.Gk.Bn
open Go Go.Gk Go.Gk.Sh
theorem z5 (a b d:UInt32) (h:a.toNat<d.toNat):∃q r:UInt32,F.IQ a b d=some (q,r)/\q.toNat=(4294967296*a.toNat+b.toNat) / d.toNat/\r.toNat=(4294967296*a.toNat+b.toNat)%d.toNat:=by
 have o:=cC b; have k:=cC d
 have f:¬d.toUInt64=0:=fun g=>by
  have:=congrArg UInt64.toNat g
  rw[bV]at this; simp at this; omega
 have i:(d != 0)=true:=by
  rw[bne_iff_ne]; intro g; rw[g]at h; simp at h
 have j:¬d<=a:=fun m=>by have:=UInt32.le_iff_toNat_le.1 m; omega
 refine⟨(((bH a.toUInt64 32) ||| b.toUInt64) / d.toUInt64).toUInt32,(((bH a.toUInt64 32) ||| b.toUInt64)%d.toUInt64).toUInt32,?_,?_,?_⟩
 rotate_left
 ·show ((((bH a.toUInt64 32) ||| b.toUInt64) / d.toUInt64).toUInt32).toNat=_
  rw[ez,UInt64.toNat_div,sa,bV,Nat.mod_eq_of_lt]
  exact Nat.div_lt_of_lt_mul (by rw[Nat.mul_comm]; omega)
 ·show ((((bH a.toUInt64 32) ||| b.toUInt64)%d.toUInt64).toUInt32).toNat=_
  rw[ez,UInt64.toNat_mod,sa,bV,Nat.mod_eq_of_lt]
  exact Nat.lt_trans (Nat.mod_lt _ (by omega)) k
 ·unfold F.IQ F.H1
  dsimp only
  rw[if_pos i,if_neg (by rw[decide_eq_true_eq]; exact j),aS,grd_true _ f,grd_true _ f,aS,aS]
theorem xD (x:L0) (d:UInt32) (U:d.toNat≠0) (V:x.length<=50000000000000):∃q r,F.Ir x d=some (q,r)/\q.length=x.length/\val q=val x / d.toNat/\r.toNat=val x%d.toNat:=by
 unfold F.Ir
 rw[dK (by omega),ae,aS,Int.toNat_natCast,aJ (by omega) (by omega)]
 have m:∀(k:Nat) (o:L0) (r:UInt32),k<=x.length->o.length=x.length->r.toNat<d.toNat->val (o.drop k)*d.toNat+r.toNat=val (x.drop k)->∃q g,loop (F.FI x d) (r,(k:Int) - 1,o)=some (q,g)/\q.length=x.length/\g.toNat<d.toNat/\val q*d.toNat+g.toNat=val x:=by
  intro k
  induction k with
  | zero=>
   intro o r I h i j
   refine⟨o,r,bL ?_,h,i,by simpa using j⟩
   unfold F.FI
   dsimp only
   rw[if_neg (by decide)]
  | succ k ih=>
   intro o r I h i j
   have J:(((k+1:Nat):Int)) - 1=(k:Int):=by omega
   obtain⟨f,t,K,M,y⟩:=z5 r (x.getD k 0) d i
   have w:wI ((k:Int) - 1)=(k:Int) - 1:=aJ (by omega) (by omega)
   have z:F.FI x d (r,(k:Int),o)=some (.inl (t,(k:Int) - 1,o.set k f)):=by
    unfold F.FI
    dsimp only
    rw[if_pos (decide_eq_true (by omega)),aP (show k<x.length by omega) 0,ae,K,ae,aP (show k<o.length by omega) 0,ae,aS,w,Int.toNat_natCast]; rfl
   rw[J,bJ z]
   refine ih (o.set k f) t (by omega) (by simpa using h) (by rw[y]; exact Nat.mod_lt _ (by omega)) ?_
   have A:val ((o.set k f).drop k)=f.toNat+4294967296*val (o.drop (k+1)):=by
    rw[ch,List.drop_set_of_lt (by omega)]
    congr 2
    rw[List.getD_eq_getElem?_getD,List.getElem?_set_self (by omega)]; rfl
   rw[A,ch x k,<-j,M,y]
   have R:=Nat.div_add_mod (4294967296*r.toNat+(x.getD k 0).toNat) d.toNat
   rw[Nat.add_mul,Nat.mul_comm (_ / _),Nat.mul_assoc,Nat.mul_add]
   omega
 obtain⟨q,r,N,O,B,G⟩:=m x.length (List.replicate x.length 0) 0 (Nat.le_refl _) (by simp) (by show 0<_; omega) (by rw[List.drop_of_length_le (by simp),List.drop_of_length_le (by omega)]; simp[val])
 refine⟨q,r,N,O,?_,?_⟩
 ·rw[<-G,Nat.add_comm,Nat.add_mul_div_right _ _ (by omega),Nat.div_eq_of_lt B,Nat.zero_add]
 ·rw[<-G,Nat.add_comm,Nat.add_mul_mod_self_right,Nat.mod_eq_of_lt B]
theorem xf (x c:UInt32) {s:Nat} (f:s<32) (hc:c.toNat<2^s):(bP x s ||| c).toNat=x.toNat*2^s%4294967296+c.toNat:=by
 rw[UInt32.toNat_or,i9,Nat.min_eq_left (by omega)]
 have g:=jj f
 have e:x.toNat*2^s%4294967296=2^s*(x.toNat%2^(32 - s)):=by
  rw[Nat.mul_comm,<-g,Nat.mul_mod_mul_left]
 rw[e,Nat.two_pow_add_eq_or_of_lt hc]
theorem B9 (x:UInt32) {s:Nat} (f:s<32):((aO (bH x.toUInt64 s) 32).toUInt32).toNat=x.toNat*2^s / 4294967296/\x.toNat*2^s / 4294967296<2^s:=by
 have g:=cC x
 have h:x.toNat*2^s<4294967296*2^s:=Nat.mul_lt_mul_of_pos_right g (Nat.two_pow_pos s)
 have j:2^s<2^32:=Nat.pow_lt_pow_right (by decide) f
 have i:x.toNat*2^s / 4294967296<2^s:=Nat.div_lt_of_lt_mul h
 refine⟨?_,i⟩
 rw[ez,ea,jg,bV,Nat.min_eq_left (by omega),show (2:Nat)^min 32 64=4294967296 from rfl]
 rw[Nat.mod_eq_of_lt (b:=18446744073709551616) (by omega),Nat.mod_eq_of_lt (by omega)]
def UpI (u x:L0) (lo s i:Nat) (t:UInt32×L0):Prop:=
 t.2.length=u.length/\t.2.take lo=u.take lo/\(∀k,lo+i<=k->t.2.getD k 0=u.getD k 0)/\t.1.toNat<2^s/\val ((t.2.drop lo).take i)+4294967296^i*t.1.toNat=2^s*val (x.take i)
theorem CA (u x:L0) (lo hi s:Nat) (y:s<32) (A:lo<=hi) (B:hi<=u.length) (hu:u.length<=4611686018427387904) (hx:x.length<=4611686018427387904) :
  ∃c h,F.GZ u lo hi x (s:Int)=some h/\UpI u x lo s (hi - lo) (c,h):=by
 have G:∀(k i:Nat) (t:UInt32×L0),i+k=hi - lo->UpI u x lo s i t->∃c h,loop (F.Fw lo hi u x (s:Int)) (t.1,(i:Int),t.2)=some h/\UpI u x lo s (hi - lo) (c,h):=by
  intro k
  induction k with
  | zero=>
   intro i t I o
   have:i=hi - lo:=by omega
   subst this
   refine⟨t.1,t.2,bL ?_,o⟩
   unfold F.Fw
   dsimp only
   rw[n6 A B,if_neg (by rw[decide_eq_true_eq]; omega)]
  | succ k ih=>
   intro i t I o
   obtain⟨R,U,V,X,Y⟩:=o
   have J:i<hi - lo:=by omega
   have Z:wI ((i:Int)+1)=((i+1:Nat):Int):=by rw[aJ (by omega) (by omega)]; rfl
   obtain⟨z,K⟩:∃z,bP (x.getD i 0) s ||| t.1=z:=⟨_,rfl⟩
   obtain⟨c,hc⟩:∃c,(aO (bH (x.getD i 0).toUInt64 s) 32).toUInt32=c:=⟨_,rfl⟩
   have j:=xf (x.getD i 0) t.1 y X
   have g:=B9 (x.getD i 0) y
   rw[K]at j; rw[hc]at g
   have q:F.HG lo hi (s:Int) t.1 (i:Int) t.2 (x.getD i 0)=some (.inl (c,((i+1:Nat):Int),t.2.set (lo+i) z)):=by
    unfold F.HG
    dsimp only
    rw[grd_true _ (by omega),vF (by omega) J,ae,aS,Int.toNat_natCast,K,grd_true _ (by omega),aS,hc,Z,Int.toNat_natCast]; rfl
   have M:F.Fw lo hi u x (s:Int) (t.1,(i:Int),t.2)=some (.inl (c,((i+1:Nat):Int),t.2.set (lo+i) z)):=by
    unfold F.Fw
    dsimp only
    rw[n6 A B,if_pos (decide_eq_true (by omega))]
    by_cases hb:i<x.length
    ·rw[if_pos (decide_eq_true (by omega)),aP hb 0,ae,q]
    ·rw[if_neg (by rw[decide_eq_true_eq]; omega)]
     rw[dU (by omega)]at q; exact q
   rw[bJ M]
   refine ih (i+1) (c,t.2.set (lo+i) z) (by omega) ⟨by simpa using R,?_,fun N hk=>?_,by show c.toNat<_; rw[g.1]; exact g.2,?_⟩
   ·show (t.2.set (lo+i) z).take lo=_
    rw[List.take_set_of_le (by omega)]; exact U
   ·show (t.2.set (lo+i) z).getD N 0=_
    rw[dw (by omega)]; exact V N (by omega)
   ·show val (((t.2.set (lo+i) z).drop lo).take (i+1))+_*c.toNat=_
    have e1:(t.2.set (lo+i) z).drop lo=(t.2.drop lo).set i z:=by rw[List.drop_set,if_neg (by omega),show lo+i - lo=i by omega]
    have e2:((t.2.drop lo).set i z).getD i 0=z:=by
     rw[List.getD_eq_getElem?_getD,List.getElem?_set_self (by rw[List.length_drop]; omega)]; rfl
    rw[e1,bO,e2,List.take_set_of_le (by omega),bO x i,Nat.mul_add,<-Y,j,g.1,Nat.pow_succ]
    obtain⟨f,hP⟩:∃f,(4294967296:Nat)^i=f:=⟨_,rfl⟩
    obtain⟨m,O⟩:∃m,(x.getD i 0).toNat*2^s=m:=⟨_,rfl⟩
    rw[hP,O]
    have hd:=Nat.div_add_mod m 4294967296
    have e3:f*(m%4294967296)+f*4294967296*(m / 4294967296)=f*m:=by
     rw[Nat.mul_assoc,<-Nat.mul_add,Nat.add_comm,hd]
    have e4:2^s*(f*(x.getD i 0).toNat)=f*m:=by rw[<-O,Nat.mul_left_comm,Nat.mul_comm (2^s)]
    rw[e4,Nat.mul_add]
    omega
 exact G (hi - lo) 0 (0,u) (by omega) ⟨rfl,rfl,fun _ _=>rfl,Nat.two_pow_pos s,by simp[val]⟩
theorem xd (u x:L0) (s:Nat) (j:s<32) (k:u.length<=4611686018427387904) (m:x.length<=u.length) (t:2^s*val x<4294967296^u.length) :
  ∃f,F.GZ u 0 u.length x (s:Int)=some f/\f.length=u.length/\val f=2^s*val x:=by
 obtain⟨c,f,o,i,r3,y,q,g⟩:=CA u x 0 u.length s j (Nat.zero_le _) (Nat.le_refl _) k (by omega)
 dsimp only at i q g
 rw[Nat.sub_zero,List.drop_zero,List.take_of_length_le (by omega),List.take_of_length_le m]at g
 refine⟨f,o,i,?_⟩
 rcases Nat.eq_zero_or_pos c.toNat with h | h
 ·rw[h]at g; omega
 ·have:=Nat.le_mul_of_pos_right (4294967296^u.length) h
  omega
theorem se (u:L0) (s:Nat) (I:s<32) (M:u.length<=4611686018427387904):∃f,F.H3 u (s:Int)=some f/\f.length=u.length/\val f=val u / 2^s:=by
 have q:=jj I
 have J:∀i,(val u / 2^s) / 4294967296^i%4294967296=((u.getD i 0).toNat+4294967296*(u.getD (i+1) 0).toNat) / 2^s%4294967296:=by
  intro i
  rw[Nat.div_div_eq_div_mul,Nat.mul_comm,<-Nat.div_div_eq_div_mul,fe,ch,ch]
  have:(u.getD i 0).toNat+4294967296*((u.getD (i+1) 0).toNat+4294967296*val (u.drop (i+1+1)))=((u.getD i 0).toNat+4294967296*(u.getD (i+1) 0).toNat)+2^s*(4294967296*(2^(32 - s)*val (u.drop (i+1+1)))):=by
   have:2^s*(4294967296*(2^(32 - s)*val (u.drop (i+1+1))))=4294967296*(4294967296*val (u.drop (i+1+1))):=by
    rw[Nat.mul_left_comm,<-Nat.mul_assoc (2^s),q]
   rw[this,Nat.mul_add]; omega
  rw[this,Nat.add_mul_div_left _ _ (Nat.two_pow_pos s),Nat.add_mul_mod_self_left]
 have t:∀(k i:Nat) (o:L0),i+k=u.length->o.length=u.length->(∀j,i<=j->o.getD j 0=u.getD j 0)->val (o.take i)=(val u / 2^s)%4294967296^i ->
   ∃f,loop (F.Gb u (s:Int)) ((i:Int),o)=some f/\f.length=u.length/\val f=val u / 2^s:=by
  intro k
  induction k with
  | zero=>
   intro i o hi h _ g
   have:i=u.length:=by omega
   subst this
   refine⟨o,bL ?_,h,?_⟩
   ·unfold F.Gb
    dsimp only
    rw[if_neg (by rw[decide_eq_true_eq]; omega)]
   ·rw[List.take_of_length_le (by omega)]at g
    rw[g,Nat.mod_eq_of_lt]
    exact Nat.lt_of_le_of_lt (Nat.div_le_self _ _) (bv u)
  | succ k ih=>
   intro i o hi h m g
   have x:wI ((i:Int)+1)=((i+1:Nat):Int):=by rw[aJ (by omega) (by omega)]; rfl
   obtain⟨z,y⟩:∃z,(aO ((u.getD i 0).toUInt64 ||| (bH (u.getD (i+1) 0).toUInt64 32)) s).toUInt32=z:=⟨_,rfl⟩
   have A:z.toNat=((u.getD i 0).toNat+4294967296*(u.getD (i+1) 0).toNat) / 2^s%4294967296:=by
    rw[<-y,ez,ea,pK,Nat.min_eq_left (by omega)]
   have B:∀v:UInt64,v=((u.getD i 0).toUInt64 ||| (bH (u.getD (i+1) 0).toUInt64 32))->F.GB (s:Int) (i:Int) o v=some (.inl (((i+1:Nat):Int),o.set i z)):=by
    rintro v rfl
    unfold F.GB
    dsimp only
    rw[grd_true _ (by omega),aP (show i<o.length by omega) 0,ae,aS,Int.toNat_natCast,Int.toNat_natCast,y,x]; rfl
   have G:F.Gb u (s:Int) ((i:Int),o)=some (.inl (((i+1:Nat):Int),o.set i z)):=by
    unfold F.Gb
    dsimp only
    rw[if_pos (decide_eq_true (by omega)),aP (show i<o.length by omega) 0,ae,x,m i (Nat.le_refl _)]
    by_cases hb:i+1<o.length
    ·rw[if_pos (decide_eq_true (by omega)),aP hb 0,ae,aS,m (i+1) (by omega),B _ rfl]
    ·rw[if_neg (by rw[decide_eq_true_eq]; omega),B _ (by
      apply UInt64.toNat_inj.1
      rw[pK,dU (a:=u) (i:=i+1) (by omega),bV]; rfl)]
   rw[bJ G]
   refine ih (i+1) (o.set i z) (by omega) (by simpa using h) (fun j N=>by rw[dw (by omega)]; exact m j (by omega)) ?_
   have K:(o.set i z).getD i 0=z:=by
    rw[List.getD_eq_getElem?_getD,List.getElem?_set_self (by omega)]; rfl
   rw[bO,K,List.take_set_of_le (by omega),g,Nat.mod_pow_succ,J i,A]
 exact t u.length 0 u (by omega) rfl (fun _ _=>rfl) (by simp[val,Nat.mod_one])
theorem rg (u v:L0) (m:u.length=v.length) (o:u.length<=4611686018427387904):F.FA u v=some (decide (val u<val v)):=by
 have g:∀k:Nat,k<=u.length->val (u.drop k)=val (v.drop k)->loop (F.Eg u v) ((k:Int) - 1)=some (decide (val u<val v)):=by
  intro k
  induction k with
  | zero=>
   intro _ h
   rw[List.drop_zero,List.drop_zero]at h
   refine bL ?_
   unfold F.Eg
   dsimp only
   rw[if_neg (by decide),decide_eq_false (by omega)]
  | succ k ih=>
   intro t h
   have i:(((k+1:Nat):Int)) - 1=(k:Int):=by omega
   have w:wI ((k:Int) - 1)=(k:Int) - 1:=aJ (by omega) (by omega)
   rw[i]
   by_cases hne:u.getD k 0=v.getD k 0
   ·have f:F.Eg u v (k:Int)=some (.inl ((k:Int) - 1)):=by
     unfold F.Eg
     dsimp only
     rw[if_pos (decide_eq_true (by omega)),aP (show k<u.length by omega) 0,ae,aP (show k<v.length by omega) 0,ae,if_neg (by rw[hne]; simp),w]; rfl
    rw[bJ f]
    refine ih (by omega) ?_
    rw[ch u k,ch v k,h,hne]
   ·have f:F.Eg u v (k:Int)=bn (some (decide (u.getD k 0<v.getD k 0))):=by
     unfold F.Eg
     dsimp only
     rw[if_pos (decide_eq_true (by omega)),aP (show k<u.length by omega) 0,ae,aP (show k<v.length by omega) 0,ae,if_pos (by rw[bne_iff_ne]; exact hne),ae,ae]
    rw[bL f]
    congr 1
    by_cases hlt:u.getD k 0<v.getD k 0
    ·rw[decide_eq_true hlt,decide_eq_true (io u v k h (UInt32.lt_iff_toNat_lt.1 hlt))]
    ·have j:(v.getD k 0).toNat<(u.getD k 0).toNat:=by
      have x:¬(u.getD k 0).toNat<(v.getD k 0).toNat:=fun q=>hlt (UInt32.lt_iff_toNat_lt.2 q)
      have y:(u.getD k 0).toNat≠(v.getD k 0).toNat:=fun q=>hne (UInt32.toNat_inj.1 q)
      omega
     have:=io v u k h.symm j
     rw[decide_eq_false hlt,decide_eq_false (by omega)]
 unfold F.FA
 rw[aS,aJ (by omega) (by omega)]
 exact g u.length (Nat.le_refl _) (by rw[List.drop_of_length_le (by omega),List.drop_of_length_le (by omega)])
end Go.Gk.Bn
end

section
namespace Go.Gk.Bn
open Go Go.Gk Go.Gk.Sh
theorem yt (v a:L0) (f o i:UInt32) (h K t V':Nat) (hn:2<=v.length) (ha:v.length<=a.length) (hs:v.length<=70368744177664)
  (G:v.getD (v.length - 1) 0=f) (I:v.getD (v.length - 2) 0=o) (O:a.getD (v.length - 2) 0=i) (R:val v=(f.toNat*4294967296+o.toNat)*K+V') (U:t<K) (a4:V'<K) (a5:1<=f.toNat)
  (V:(h*4294967296+i.toNat)*K+t<4294967296*val v) (hh:h<=f.toNat*4294967296+4294967295) :
  ∀(m:Nat) (g r:UInt64),g.toNat=m->h=g.toNat*f.toNat+r.toNat->r.toNat<=4294967295->(h*4294967296+i.toNat)*K+t<(g.toNat+1)*val v ->
   ∃q:UInt64,loop (F.En a v) (g,r)=some q/\q.toNat<=4294967295/\(h*4294967296+i.toNat)*K+t<(q.toNat+1)*val v:=by
 have x1:=cC f; have x2:=cC o; have x3:=cC i
 have w1:wI ((v.length:Int) - 1)=((v.length - 1:Nat):Int):=by rw[aJ (by omega) (by omega)]; omega
 have w2:wI ((v.length:Int) - 2)=((v.length - 2:Nat):Int):=by rw[aJ (by omega) (by omega)]; omega
 intro m
 induction m using Nat.strongRecOn with
 | ind m ih=>
  intro g r hm A hr X
  have x:F.En a v (g,r)=F.E0 v g r true->(4294967296<=g.toNat\/r.toNat*4294967296+i.toNat<g.toNat*o.toNat) ->
    ∃q:UInt64,loop (F.En a v) (g,r)=some q/\q.toNat<=4294967295/\(h*4294967296+i.toNat)*K+t<(q.toNat+1)*val v:=by
   intro j z
   have Y:1<=g.toNat:=by
    rcases Nat.eq_zero_or_pos g.toNat with J | J
    ·rw[J]at z; omega
    ·exact J
   have B:(g - 1).toNat=g.toNat - 1:=by
    rw[UInt64.toNat_sub_of_le _ _ (by rw[UInt64.le_iff_toNat_le]; exact Y)]; rfl
   have Z:(r+f.toUInt64).toNat=r.toNat+f.toNat:=by rw[fW _ _ (by rw[bV]; omega),bV]
   have hd:=sB (K:=K) (V':=V') A U z (by rw[<-R]; exact V)
   rw[<-R]at hd
   obtain⟨k,M⟩:∃k,g.toNat=k+1:=⟨g.toNat - 1,by omega⟩
   have N:h=(g - 1).toNat*f.toNat+(r+f.toUInt64).toNat:=by
    rw[B,Z,A,M,Nat.add_sub_cancel,Nat.add_mul]; omega
   have y:(h*4294967296+i.toNat)*K+t<((g - 1).toNat+1)*val v:=by
    rw[B,M,Nat.add_sub_cancel,<-M]; exact hd
   unfold F.E0 at j
   rw[if_pos rfl,w1,aP (show v.length - 1<v.length by omega) 0,ae,G]at j
   by_cases hb:4294967296<=(r+f.toUInt64).toNat
   ·rw[if_pos (decide_eq_true (by rw[UInt64.le_iff_toNat_le]; exact hb))]at j
    have a6:(g - 1).toNat<4294967296:=by
     have:(g - 1).toNat*f.toNat<4294967296*f.toNat:=by omega
     exact Nat.lt_of_mul_lt_mul_right this
    exact⟨g - 1,bL j,by omega,y⟩
   ·rw[if_neg (by simp only[decide_eq_true_eq,UInt64.le_iff_toNat_le]; exact hb)]at j
    obtain⟨q,q1,q2⟩:=ih (g - 1).toNat (by omega) (g - 1) (r+f.toUInt64) rfl N (by omega) y
    exact⟨q,(bJ j).trans q1,q2⟩
  by_cases hg:4294967296<=g.toNat
  ·refine x ?_ (.inl hg)
   unfold F.En
   dsimp only
   rw[if_pos (decide_eq_true (by rw[UInt64.le_iff_toNat_le]; exact hg))]
  ·have e1:((bH r 32) ||| i.toUInt64).toNat=4294967296*r.toNat+i.toNat:=tK _ _ hr
   have hp:=Nat.mul_le_mul (show g.toNat<=4294967295 by omega) (show o.toNat<=4294967295 by omega)
   have e2:(g*o.toUInt64).toNat=g.toNat*o.toNat:=by rw[nQ _ _ (by rw[bV]; omega),bV]
   have j:F.En a v (g,r)=F.E0 v g r (decide (((bH r 32) ||| i.toUInt64)<(g*o.toUInt64))):=by
    unfold F.En
    dsimp only
    rw[if_neg (by simp only[decide_eq_true_eq,UInt64.le_iff_toNat_le]; exact hg),w2,aP (show v.length - 2<v.length by omega) 0,ae,aP (show v.length - 2<a.length by omega) 0,ae,I,O]
   by_cases z:r.toNat*4294967296+i.toNat<g.toNat*o.toNat
   ·rw[show decide (((bH r 32) ||| i.toUInt64)<(g*o.toUInt64))=true from decide_eq_true (by rw[UInt64.lt_iff_toNat_lt,e1,e2]; omega)]at j
    exact x j (.inr z)
   ·rw[show decide (((bH r 32) ||| i.toUInt64)<(g*o.toUInt64))=false from decide_eq_false (by rw[UInt64.lt_iff_toNat_lt,e1,e2]; omega)]at j
    unfold F.E0 at j
    rw[if_neg (by decide)]at j
    exact⟨g,bL j,by omega,X⟩
theorem uJ (v a:L0) (hn:2<=v.length) (ha:a.length=v.length+1) (hs:v.length<=70368744177664) (R:2147483648<=(v.getD (v.length - 1) 0).toNat) (Z:val a<4294967296*val v) :
  ∃g:UInt64,F.Jc a v=some g/\g.toNat<=4294967295/\val a<(g.toNat+1)*val v:=by
 obtain⟨f,q⟩:∃f,v.getD (v.length - 1) 0=f:=⟨_,rfl⟩
 obtain⟨m,z⟩:∃m,v.getD (v.length - 2) 0=m:=⟨_,rfl⟩
 obtain⟨j,A⟩:∃j,a.getD (v.length) 0=j:=⟨_,rfl⟩
 obtain⟨o,B⟩:∃o,a.getD (v.length - 1) 0=o:=⟨_,rfl⟩
 obtain⟨k,G⟩:∃k,a.getD (v.length - 2) 0=k:=⟨_,rfl⟩
 rw[q]at R
 have x1:=cC f; have x2:=cC m; have y0:=cC j; have y1:=cC o; have y2:=cC k
 have eV:val v=(f.toNat*4294967296+m.toNat)*4294967296^(v.length - 2)+val (v.take (v.length - 2)):=by
  have:=dg v (v.length - 2) (by omega)
  rw[ch,show v.length - 2+1=v.length - 1 by omega,ch,show v.length - 1+1=v.length by omega,List.drop_length,d8,q,z]at this
  rw[this,Nat.mul_zero,Nat.add_zero,Nat.mul_comm (4294967296^_),Nat.add_comm m.toNat,Nat.mul_comm 4294967296 f.toNat]
  omega
 have x:val (v.take (v.length - 2))<4294967296^(v.length - 2):=by
  have:=bv (v.take (v.length - 2))
  rwa [List.length_take,Nat.min_eq_left (by omega)]at this
 obtain⟨K,U⟩:∃K,4294967296^(v.length - 2)=K:=⟨_,rfl⟩
 obtain⟨t,I⟩:∃t,val (a.take (v.length - 2))=t:=⟨_,rfl⟩
 have V:t<K:=by
  have:=bv (a.take (v.length - 2))
  rw[List.length_take,Nat.min_eq_left (by omega)]at this
  rw[<-I,<-U]; exact this
 obtain⟨h,hh⟩:∃h,j.toNat*4294967296+o.toNat=h:=⟨_,rfl⟩
 have eU:val a=(h*4294967296+k.toNat)*K+t:=by
  have y:=dg a (v.length - 2) (by omega)
  rw[ch a (v.length - 2),show v.length - 2+1=v.length - 1 by omega,ch a (v.length - 1),show v.length - 1+1=v.length by omega,ch a v.length,List.drop_of_length_le (l:=a) (i:=v.length+1) (by omega),d8,I,U,A,B,G]at y
  rw[y,<-hh,Nat.mul_zero,Nat.add_zero,Nat.mul_comm K]
  have:k.toNat+4294967296*(o.toNat+4294967296*j.toNat)=(j.toNat*4294967296+o.toNat)*4294967296+k.toNat:=by omega
  rw[this]; omega
 rw[U]at eV x
 have X:(h*4294967296+k.toNat)*K+t<4294967296*val v:=by rw[<-eU]; exact Z
 have bx:j.toNat<=f.toNat:=by
  rcases Nat.lt_or_ge f.toNat j.toNat with y | y
  ·exfalso
   have a1:(f.toNat*4294967296+m.toNat+1)*K<=(j.toNat*4294967296)*K:=Nat.mul_le_mul_right _ (by omega)
   have a2:val v<(f.toNat*4294967296+m.toNat+1)*K:=by rw[eV,Nat.add_mul (f.toNat*4294967296+m.toNat) 1 K,Nat.one_mul]; exact Nat.add_lt_add_left x _
   have Y:=Nat.mul_le_mul_right K (show 4294967296*(j.toNat*4294967296)<=h*4294967296+k.toNat by omega)
   rw[Nat.mul_assoc 4294967296]at Y
   omega
  ·exact y
 have J:¬f.toUInt64=0:=by
  intro h0
  have:=congrArg UInt64.toNat h0
  rw[bV]at this
  simp at this
  omega
 obtain⟨H,hH⟩:∃H,(bH j.toUInt64 32) ||| o.toUInt64=H:=⟨_,rfl⟩
 have M:H.toNat=h:=by rw[<-hH,sa,<-hh]; omega
 have N:(H / f.toUInt64).toNat=h / f.toNat:=by rw[UInt64.toNat_div,bV,M]
 have O:(H%f.toUInt64).toNat=h%f.toNat:=by rw[UInt64.toNat_mod,bV,M]
 have b7:=Nat.div_add_mod h f.toNat
 have b8:=Nat.mod_lt h (show 0<f.toNat by omega)
 obtain⟨g,hg,g1,g2⟩:=yt v a f m k h K t (val (v.take (v.length - 2))) hn (by omega) hs q z G eV V x (by omega) X (by omega) _ (H / f.toUInt64) (H%f.toUInt64) rfl
  (by rw[N,O,Nat.mul_comm]; omega) (by rw[O]; omega) (by
   rw[N]
   have a1:h+1<=(h / f.toNat+1)*f.toNat:=by rw[Nat.add_mul,Nat.mul_comm (h / f.toNat)]; omega
   have a2:(h+1)*(4294967296*K)<=(h / f.toNat+1)*f.toNat*(4294967296*K):=Nat.mul_le_mul_right _ a1
   have a3:(h / f.toNat+1)*(f.toNat*(4294967296*K))<=(h / f.toNat+1)*val v:=by
    refine Nat.mul_le_mul_left _ ?_
    rw[eV,Nat.add_mul,Nat.mul_assoc]; omega
   have Y:(h*4294967296+k.toNat+1)*K<=(h+1)*(4294967296*K):=by
    rw[<-Nat.mul_assoc]; exact Nat.mul_le_mul_right _ (by omega)
   rw[Nat.add_mul (h*4294967296+k.toNat) 1 K,Nat.one_mul]at Y
   rw[Nat.mul_assoc]at a2
   omega)
 refine⟨g,?_,g1,by rw[eU]; exact g2⟩
 have w1:wI ((v.length:Int) - 1)=((v.length - 1:Nat):Int):=by rw[aJ (by omega) (by omega)]; omega
 unfold F.Jc
 rw[aP (show v.length<a.length by omega) 0,ae,w1,aP (show v.length - 1<a.length by omega) 0,ae,aS,A,B,hH,aP (show v.length - 1<v.length by omega) 0,ae,q,grd_true _ J,ae,grd_true _ J,hg]
def PtI (g:UInt64) (v p:L0) (i:Nat) (s:UInt64×L0):Prop:=
 s.2.length=p.length/\s.1.toNat<=4294967295/\val (s.2.take i)+4294967296^i*s.1.toNat=g.toNat*val (v.take i)
theorem vc (v u q p:L0) (j:Int) (g:UInt64) (R:g.toNat<=4294967295) (hp:p.length=v.length+1) (hv:v.length<=4611686018427387900) :
  ∃p':L0,p'.length=v.length+1/\val p'=g.toNat*val v/\loop (F.Er v j u q g) (0,0,p) =
   ah (slO u j (wI ((wI (j+(v.length:Int)))+1):Int)) fun h=>ah (F.FA h p') fun m=>
    if (!m)=true then (bn (ah (slO u j (wI ((wI (j+(v.length:Int)))+1):Int)) fun y=>ah (F.EC u j.toNat ((wI ((wI (j+(v.length:Int)))+1):Int).toNat) p') fun o=>
     ah (aA q j) fun z=>bq (q.set j.toNat g.toUInt32) fun x=>bD (wI (j - 1),o.2,x,p'))) else bD (g - 1,p'):=by
 have I:∀(k i:Nat) (s:UInt64×L0),i+k=v.length->PtI g v p i s->∃p':L0,p'.length=v.length+1/\val p'=g.toNat*val v/\loop (F.Er v j u q g) (s.1,(i:Int),s.2) =
   ah (slO u j (wI ((wI (j+(v.length:Int)))+1):Int)) fun h=>ah (F.FA h p') fun m=>
    if (!m)=true then (bn (ah (slO u j (wI ((wI (j+(v.length:Int)))+1):Int)) fun y=>ah (F.EC u j.toNat ((wI ((wI (j+(v.length:Int)))+1):Int).toNat) p') fun o=>
     ah (aA q j) fun z=>bq (q.set j.toNat g.toUInt32) fun x=>bD (wI (j - 1),o.2,x,p'))) else bD (g - 1,p'):=by
  intro k
  induction k with
  | zero=>
   intro i s hi A
   obtain⟨J,U,B⟩:=A
   have:i=v.length:=by omega
   subst this
   refine⟨s.2.set v.length s.1.toUInt32,by simp; omega,?_,bL ?_⟩
   ·have V:(s.2.set v.length s.1.toUInt32)=(s.2.set v.length s.1.toUInt32).take (v.length+1):=by rw[List.take_of_length_le (by simp; omega)]
    have G:(s.2.set v.length s.1.toUInt32).getD v.length 0=s.1.toUInt32:=by
     rw[List.getD_eq_getElem?_getD,List.getElem?_set_self (by omega)]; rfl
    rw[V,bO,G,List.take_set_of_le (by omega),ez,Nat.mod_eq_of_lt (by omega),B,List.take_of_length_le (Nat.le_refl _)]
   ·unfold F.Er
    dsimp only
    rw[if_neg (by rw[decide_eq_true_eq]; omega),aP (show v.length<s.2.length by omega) 0,ae,aS,Int.toNat_natCast]
  | succ k ih=>
   intro i s hi A
   obtain⟨J,U,B⟩:=A
   have X:wI ((i:Int)+1)=((i+1:Nat):Int):=by rw[aJ (by omega) (by omega)]; rfl
   obtain⟨t,K⟩:∃t,s.1+(g*(v.getD i 0).toUInt64)=t:=⟨_,rfl⟩
   have M:F.Er v j u q g (s.1,(i:Int),s.2)=some (.inl (aO t 32,((i+1:Nat):Int),s.2.set i t.toUInt32)):=by
    unfold F.Er
    dsimp only
    rw[if_pos (decide_eq_true (by omega)),aP (show i<v.length by omega) 0,ae,aS,K,aP (show i<s.2.length by omega) 0,ae,aS,X,Int.toNat_natCast]; rfl
   rw[bJ M]
   have x2:=cC (v.getD i 0)
   have ad:=Nat.mul_le_mul R (show (v.getD i 0).toNat<=4294967295 by omega)
   have N:(g*(v.getD i 0).toUInt64).toNat=g.toNat*(v.getD i 0).toNat:=by rw[nQ _ _ (by rw[bV]; omega),bV]
   have Y:t.toNat=s.1.toNat+g.toNat*(v.getD i 0).toNat:=by rw[<-K,fW _ _ (by rw[N]; omega),N]
   have O:(aO t 32).toNat=t.toNat / 4294967296:=by rw[ea]; rfl
   refine ih (i+1) (aO t 32,s.2.set i t.toUInt32) (by omega) ⟨by simpa using J,by show (aO t 32).toNat<=_; rw[O]; omega,?_⟩
   show val ((s.2.set i t.toUInt32).take (i+1))+_*(aO t 32).toNat=_
   have G:(s.2.set i t.toUInt32).getD i 0=t.toUInt32:=by
    rw[List.getD_eq_getElem?_getD,List.getElem?_set_self (by omega)]; rfl
   rw[bO,G,List.take_set_of_le (by omega),ez,bO v i,Nat.mul_add,<-B,O,Nat.pow_succ]
   obtain⟨f,Z⟩:∃f,(4294967296:Nat)^i=f:=⟨_,rfl⟩
   rw[Z]
   have hd:=Nat.div_add_mod t.toNat 4294967296
   have e3:f*(t.toNat%4294967296)+f*4294967296*(t.toNat / 4294967296)=f*t.toNat:=by
    rw[Nat.mul_assoc,<-Nat.mul_add,Nat.add_comm,hd]
   have e4:f*t.toNat=f*s.1.toNat+f*(g.toNat*(v.getD i 0).toNat):=by rw[Y,Nat.mul_add]
   have e5:g.toNat*(f*(v.getD i 0).toNat)=f*(g.toNat*(v.getD i 0).toNat):=by rw[Nat.mul_left_comm]
   rw[e5]
   omega
 exact I v.length 0 (0,p) (by omega) ⟨rfl,Nat.zero_le _,by simp[val]⟩
theorem vW (v u q:L0) (j:Nat) (hj:j+v.length<u.length) (hq:j<q.length) (a5:u.length<=4611686018427387900) (a6:q.length<=4611686018427387900) (A:0<val v) (hu:val u<4294967296^(j+1)*val v) :
  ∀(m:Nat) (g:UInt64) (p:L0),g.toNat=val u / 4294967296^j / val v+m->g.toNat<=4294967295->p.length=v.length+1 ->
   ∃(d:UInt64) (o f:L0),loop (F.FC v (j:Int) u q) (g,p)=some (.inl ((j:Int) - 1,o,q.set j d.toUInt32,f))/\f.length=v.length+1/\o.length=u.length/\d.toNat<=4294967295 /\
    val o+4294967296^j*(d.toNat*val v)=val u/\val o<4294967296^j*val v:=by
 have U:=bv v
 have B:val u<4294967296^(j+v.length+1):=by
  have:=Nat.mul_lt_mul_of_pos_left U (Nat.pow_pos (n:=j+1) (show 0<4294967296 by decide))
  rw[<-Nat.pow_add,show j+1+v.length=j+v.length+1 by omega]at this
  omega
 have V:wI ((wI ((j:Int)+(v.length:Int)))+1)=((j+v.length+1:Nat):Int):=by
  rw[aJ (x:=(j:Int)+(v.length:Int)) (by omega) (by omega),aJ (by omega) (by omega)]; omega
 have wk:wI ((j:Int) - 1)=(j:Int) - 1:=aJ (by omega) (by omega)
 have G:slO u (j:Int) ((j+v.length+1:Nat):Int)=some ((u.drop j).take (j+v.length+1 - j)):=pE (by omega) (by omega)
 have bx:((u.drop j).take (j+v.length+1 - j)).length=v.length+1:=by rw[List.length_take,List.length_drop]; omega
 have I:val ((u.drop j).take (j+v.length+1 - j))=val u / 4294967296^j:=by
  rw[fe]
  have:=dg (u.drop j) (v.length+1) (by rw[List.length_drop]; omega)
  rw[List.drop_drop,show j+(v.length+1)=j+v.length+1 by omega,gm B,Nat.mul_zero,Nat.add_zero]at this
  rw[show j+v.length+1 - j=v.length+1 by omega,this]
 obtain⟨M,k⟩:∃M,val u / 4294967296^j=M:=⟨_,rfl⟩
 have K:=Nat.pow_pos (n:=j) (show 0<4294967296 by decide)
 intro m
 induction m with
 | zero=>
  intro g p i z N
  rw[Nat.add_zero,k]at i
  obtain⟨f,O,t,R⟩:=vc v u q p (j:Int) g z N (by omega)
  have X:g.toNat*val v<=M:=by rw[i]; exact Nat.div_mul_le_self _ _
  have y:=Nat.div_mul_le_self (val u) (4294967296^j)
  rw[k,Nat.mul_comm]at y
  have Y:=Nat.lt_div_mul_add K (a:=val u)
  rw[k,Nat.mul_comm]at Y
  obtain⟨c,o,t1,t2,Z⟩:=tF u f j (j+v.length+1) (by omega) (by omega) (by omega) (by omega) B (by rw[t]; exact Nat.le_trans (Nat.mul_le_mul_left _ X) y)
  refine⟨g,o,f,?_,O,t2,z,by rw[<-t]; exact Z,?_⟩
  ·refine bL ?_
   unfold F.FC
   dsimp only
   rw[R,V,G,ae,rg _ _ (by omega) (by omega),ae,I,k,t,decide_eq_false (by omega),if_pos (by rfl),ae,Int.toNat_natCast,Int.toNat_natCast,t1,ae,aP hq 0,ae,aS,wk]
   rfl
  ·have h1:M<(g.toNat+1)*val v:=by
    rw[i]
    have:=Nat.lt_div_mul_add A (a:=M)
    rw[Nat.add_mul,Nat.one_mul]; exact this
   rw[Nat.add_mul,Nat.one_mul]at h1
   have h2:=Nat.mul_le_mul_left (4294967296^j) (show M+1<=g.toNat*val v+val v by omega)
   rw[Nat.mul_add,Nat.mul_one,Nat.mul_add]at h2
   rw[t]at Z
   omega
 | succ m ih=>
  intro g p i z N
  rw[k]at i
  obtain⟨f,O,t,R⟩:=vc v u q p (j:Int) g z N (by omega)
  have J:M<g.toNat*val v:=by
   rcases Nat.lt_or_ge M (g.toNat*val v) with h | h
   ·exact h
   ·have:=(Nat.le_div_iff_mul_le A).2 h
    omega
  have ab:1<=g.toNat:=by
   rcases Nat.eq_zero_or_pos g.toNat with h | h
   ·rw[h,Nat.zero_mul]at J; omega
   ·exact h
  have ac:(g - 1).toNat=g.toNat - 1:=by
   rw[UInt64.toNat_sub_of_le _ _ (by rw[UInt64.le_iff_toNat_le]; exact ab)]; rfl
  have ad:F.FC v (j:Int) u q (g,p)=some (.inl (g - 1,f)):=by
   unfold F.FC
   dsimp only
   rw[R,V,G,ae,rg _ _ (by omega) (by omega),ae,I,k,t,decide_eq_true J,if_neg (by decide)]
   rfl
  rw[bJ ad]
  exact ih (g - 1) f (by rw[ac,k]; omega) (by omega) O
theorem wz (s:Int) (v u q p:L0) (j:Nat) (J:2<=v.length) (m:2147483648<=(v.getD (v.length - 1) 0).toNat) (K:j+v.length<u.length) (M:j<q.length) (Y:u.length<=70368744177664) (Z:q.length<=70368744177664) (N:p.length=v.length+1) (i:0<val v) (o:val u<4294967296^(j+1)*val v) :
  ∃(d:UInt64) (f h:L0),F.Fe s v ((j:Int),u,q,p)=some (.inl ((j:Int) - 1,f,q.set j d.toUInt32,h))/\h.length=v.length+1/\f.length=u.length/\d.toNat<=4294967295 /\
    val f+4294967296^j*(d.toNat*val v)=val u/\val f<4294967296^j*val v:=by
 have z:=bv v
 have A:val u<4294967296^(j+v.length+1):=by
  have:=Nat.mul_lt_mul_of_pos_left z (Nat.pow_pos (n:=j+1) (show 0<4294967296 by decide))
  rw[<-Nat.pow_add,show j+1+v.length=j+v.length+1 by omega]at this
  omega
 have O:wI ((wI ((j:Int)+(v.length:Int)))+1)=((j+v.length+1:Nat):Int):=by
  rw[aJ (x:=(j:Int)+(v.length:Int)) (by omega) (by omega),aJ (by omega) (by omega)]; omega
 have B:slO u (j:Int) ((j+v.length+1:Nat):Int)=some ((u.drop j).take (j+v.length+1 - j)):=pE (by omega) (by omega)
 have G:((u.drop j).take (j+v.length+1 - j)).length=v.length+1:=by rw[List.length_take,List.length_drop]; omega
 have k:val ((u.drop j).take (j+v.length+1 - j))=val u / 4294967296^j:=by
  rw[fe]
  have:=dg (u.drop j) (v.length+1) (by rw[List.length_drop]; omega)
  rw[List.drop_drop,show j+(v.length+1)=j+v.length+1 by omega,gm A,Nat.mul_zero,Nat.add_zero]at this
  rw[show j+v.length+1 - j=v.length+1 by omega,this]
 have t:=Nat.pow_pos (n:=j) (show 0<4294967296 by decide)
 have y:val u / 4294967296^j<4294967296*val v:=by
  rw[Nat.div_lt_iff_lt_mul t,Nat.mul_comm]
  rw[Nat.pow_succ,Nat.mul_assoc]at o
  exact o
 obtain⟨g,R,U,I⟩:=uJ v _ J G (by omega) m (by rw[k]; exact y)
 rw[k]at I
 have ab:val u / 4294967296^j / val v<=g.toNat:=by
  have:=(Nat.div_lt_iff_lt_mul i).2 I
  omega
 obtain⟨d,f,h,V,X⟩:=vW v u q j K M (by omega) (by omega) i o (g.toNat - val u / 4294967296^j / val v) g p (by omega) U N
 refine⟨d,f,h,?_,X⟩
 unfold F.Fe
 dsimp only
 rw[if_pos (decide_eq_true (by omega)),O,B,ae,R,ae,V]
theorem xZ (s:Nat) (v:L0) (A:Nat) (I:2<=v.length) (o:2147483648<=(v.getD (v.length - 1) 0).toNat) (J:s<32) (m:0<val v) :
  ∀(k:Nat) (u q p:L0),k+v.length<=u.length->k<=q.length->u.length<=70368744177664->q.length<=70368744177664->p.length=v.length+1->(∀i,i<k->q.getD i 0=0)->val q*val v+val u=A->val u<4294967296^k*val v ->
   ∃g f:L0,loop (F.Fe (s:Int) v) ((k:Int) - 1,u,q,p)=some (g,(f,v.length))/\g.length=q.length/\f.length=u.length/\val g=A / val v/\val f=A%val v / 2^s:=by
 intro k
 induction k with
 | zero=>
  intro u q p K M z t B x j h
  rw[Nat.pow_zero,Nat.one_mul]at h
  have N:A / val v=val q:=by rw[<-j,Nat.add_comm,Nat.add_mul_div_right _ _ m,Nat.div_eq_of_lt h,Nat.zero_add]
  have O:A%val v=val u:=by rw[<-j,Nat.add_comm,Nat.add_mul_mod_self_right,Nat.mod_eq_of_lt h]
  obtain⟨f,R,U,V⟩:=se u s J (by omega)
  refine⟨q,f,bL ?_,rfl,U,N.symm,by rw[O]; exact V⟩
  unfold F.Fe
  dsimp only
  rw[if_neg (by decide),R,ae,Int.toNat_natCast,grd_true _ ⟨by omega,by omega⟩]
 | succ k ih=>
  intro u q p K M z t B x j h
  have X:(((k+1:Nat):Int)) - 1=(k:Int):=by omega
  obtain⟨d,f,Y,Z,rp,r2,r5,r3,r4⟩:=wz (s:Int) v u q p k I o (by omega) (by omega) z t B m h
  rw[X,bJ Z]
  obtain⟨g,G,z1,z2,z3,z4⟩:=ih f (q.set k d.toUInt32) Y (by omega) (by simp; omega) (by omega) (by simpa using t) rp (fun i hi=>by rw[dw (by omega)]; exact x i (by omega)) (by
   have y:=dB q k d.toUInt32 (by omega)
   rw[x k (by omega)]at y
   have z0:(0:UInt32).toNat=0:=rfl
   rw[z0,Nat.mul_zero,Nat.add_zero]at y
   rw[y,ez,Nat.mod_eq_of_lt (by omega),Nat.add_mul,Nat.mul_assoc,<-j]
   omega) r4
  exact⟨g,G,z1,by simpa using z2,by omega,z4⟩
theorem tI (n k:Nat):(List.replicate n (0:UInt32)).getD k 0=0:=by
 rw[List.getD_eq_getElem?_getD]
 by_cases hk:k<n <;> simp[hk]
theorem yY (x y:L0) (hy:2<=y.length) (t:y.getD (y.length - 1) 0≠0) (cm:y.length<=x.length) (hx:x.length<=50000000000000) :
  ∃q u:L0,F.IY x y=some (q,(u,y.length))/\q.length<=x.length+1/\u.length=x.length+1/\val q=val x / val y/\val u=val x%val y:=by
 obtain⟨f,z⟩:∃f,y.getD (y.length - 1) 0=f:=⟨_,rfl⟩
 rw[z]at t
 have K:f.toNat≠0:=fun h=>t (UInt32.toNat_inj.1 h)
 obtain⟨b1,I⟩:=d7 f.toNat
 obtain⟨I,b3⟩:=I K
 have b4:nb f.toNat<=32:=mc (cC f)
 obtain⟨s,hs⟩:∃s,s=32 - nb f.toNat:=⟨_,rfl⟩
 have j:s<32:=by omega
 have M:F.Is f=some (s:Int):=by
  unfold F.Is
  rw[sq,ae,aJ (by omega) (by omega)]; congr 1; omega
 have B:val y=val (y.take (y.length - 1))+4294967296^(y.length - 1)*f.toNat:=by
  have:=bO y (y.length - 1)
  rw[show y.length - 1+1=y.length by omega,List.take_of_length_le (Nat.le_refl _),z]at this
  exact this
 have N:val (y.take (y.length - 1))<4294967296^(y.length - 1):=by
  have:=bv (y.take (y.length - 1))
  rwa [List.length_take,Nat.min_eq_left (by omega)]at this
 obtain⟨Q,k⟩:∃Q,(4294967296:Nat)^(y.length - 1)=Q:=⟨_,rfl⟩
 have O:(4294967296:Nat)^y.length=4294967296*Q:=by
  have e:(4294967296:Nat)^(y.length - 1+1)=4294967296^(y.length - 1)*4294967296:=Nat.pow_succ _ _
  rw[show y.length - 1+1=y.length by omega,k,Nat.mul_comm]at e
  exact e
 rw[k]at B N
 have R:2^s*(f.toNat+1)<=4294967296:=by
  have g:2^s*(f.toNat+1)<=2^s*2^nb f.toNat:=Nat.mul_le_mul_left _ b1
  rw[<-Nat.pow_add,show s+nb f.toNat=32 by omega]at g
  exact g
 have U:2147483648<=2^s*f.toNat:=by
  have g:2^s*2^(nb f.toNat - 1)<=2^s*f.toNat:=Nat.mul_le_mul_left _ I
  rw[<-Nat.pow_add,show s+(nb f.toNat - 1)=31 by omega]at g
  exact g
 have V:2^s*val y<4294967296^y.length:=by
  have g:val y<(f.toNat+1)*Q:=by rw[B,Nat.add_mul,Nat.one_mul,Nat.mul_comm Q]; omega
  have o:2^s*val y<2^s*((f.toNat+1)*Q):=Nat.mul_lt_mul_of_pos_left g (Nat.two_pow_pos s)
  rw[<-Nat.mul_assoc]at o
  have J:=Nat.mul_le_mul_right Q R
  rw[O]; omega
 have co:2147483648*Q<=2^s*val y:=by
  have g:=Nat.mul_le_mul_right Q U
  have o:2^s*f.toNat*Q<=2^s*val y:=by
   rw[Nat.mul_assoc]; refine Nat.mul_le_mul_left _ ?_; rw[B,Nat.mul_comm]; omega
  omega
 have ct:0<Q:=by rw[<-k]; exact Nat.pow_pos (by decide)
 obtain⟨v,v1,X,A⟩:=xd (List.replicate y.length 0) y s j (by simp; omega) (by simp) (by rw[List.length_replicate]; exact V)
 have Y:2^s*val x<4294967296^(x.length+1):=by
  have g:=bv x
  have o:2^s<=4294967296:=Nat.le_of_lt (Nat.pow_lt_pow_right (a:=2) (m:=s) (n:=32) (by decide) j)
  have J:=Nat.mul_le_mul_right (val x) o
  rw[Nat.pow_succ]; omega
 obtain⟨u,u1,u2,Z⟩:=xd (List.replicate (x.length+1) 0) x s j (by simp; omega) (by simp) (by rw[List.length_replicate]; exact Y)
 rw[List.length_replicate]at X u2
 have G:2147483648<=(v.getD (v.length - 1) 0).toNat:=by
  have e:=bO v (v.length - 1)
  rw[show v.length - 1+1=v.length by omega,List.take_of_length_le (Nat.le_refl _),A]at e
  have hl:=bv (v.take (v.length - 1))
  rw[List.length_take,Nat.min_eq_left (by omega),show v.length - 1=y.length - 1 by omega,k]at hl
  rw[show v.length - 1=y.length - 1 by omega,k]at e
  rw[show v.length - 1=y.length - 1 by omega]
  rcases Nat.lt_or_ge (v.getD (y.length - 1) 0).toNat 2147483648 with h | h
  ·have:=Nat.mul_le_mul_left Q (show (v.getD (y.length - 1) 0).toNat<=2147483647 by omega)
   omega
  ·exact h
 have ab:0<val v:=by rw[A]; omega
 have hk:val u<4294967296^(x.length - y.length+1)*val v:=by
  rw[Z,A,Nat.mul_left_comm]
  refine Nat.mul_lt_mul_of_pos_left ?_ (Nat.two_pow_pos s)
  have g:=bv x
  have o:Q<=val y:=by rw[B]; have:=Nat.le_mul_of_pos_right Q (show 0<f.toNat by omega); omega
  have J:=Nat.mul_le_mul_left (4294967296^(x.length - y.length+1)) o
  rw[<-k,<-Nat.pow_add,show x.length - y.length+1+(y.length - 1)=x.length by omega]at J
  omega
 obtain⟨q',u',l1,l2,l3,l4,l5⟩:=xZ s v (2^s*val x) (by omega) G j ab (x.length - y.length+1) u (List.replicate (x.length - y.length+1) 0) (List.replicate (y.length+1) 0) (by omega) (by simp) (by omega) (by simp; omega) (by simp; omega)
  (fun i _=>tI _ _) (by rw[cn,Z]; omega) hk
 rw[List.length_replicate]at l2
 refine⟨q',u',?_,by omega,by omega,?_,?_⟩
 rotate_left
 ·rw[l4,A,Nat.mul_div_mul_left _ _ (Nat.two_pow_pos s)]
 ·rw[l5,A,Nat.mul_mod_mul_left,Nat.mul_div_cancel_left _ (Nat.two_pow_pos s)]
 ·have w1:wI ((y.length:Int) - 1)=((y.length - 1:Nat):Int):=by rw[aJ (by omega) (by omega)]; omega
  have w2:wI ((x.length:Int)+1)=((x.length+1:Nat):Int):=by rw[aJ (by omega) (by omega)]; omega
  have w3:wI ((wI ((x.length:Int) - (v.length:Int)))+1)=((x.length - y.length+1:Nat):Int):=by
   rw[aJ (x:=(x.length:Int) - (v.length:Int)) (by omega) (by omega),aJ (by omega) (by omega)]; omega
  have w4:wI ((v.length:Int)+1)=((y.length+1:Nat):Int):=by rw[aJ (by omega) (by omega)]; omega
  have w5:wI ((((x.length - y.length+1:Nat)):Int) - 1)=((x.length - y.length+1:Nat):Int) - 1:=aJ (by omega) (by omega)
  unfold F.IY
  rw[w1,aP (show y.length - 1<y.length by omega) 0,ae,z,M,ae,dK (by omega),ae,Int.toNat_natCast,v1,ae,w2,dK (by omega),ae,Int.toNat_natCast,u1,ae,w3,dK (by omega),ae,
   w4,dK (by omega),ae,Int.toNat_natCast,Int.toNat_natCast,List.length_replicate,aS,w5,l1,X]
theorem uy (u:UInt64):F.IO u=some (an u.toNat):=by
 unfold F.IO
 obtain⟨m,f,h,g⟩:=eZ [u.toUInt32,(aO u 32).toUInt32] (by simp)
 have i:u.toNat<18446744073709551616:=u.toNat_lt
 have e:val [u.toUInt32,(aO u 32).toUInt32]=u.toNat:=by
  simp only[dz,d8,ez,ea]
  rw[show (2:Nat)^min 32 64=4294967296 from rfl]
  omega
 rw[f,ae,g,e]
theorem x4 {n:Nat} (h:(an n).length≠0):(an n).getD ((an n).length - 1) 0≠0:=by
 intro i
 obtain⟨l,g⟩:∃l,an n=l:=⟨_,rfl⟩
 have j:val l=n:=by rw[<-g,ar]
 rw[g]at h i
 have e:=bO l (l.length - 1)
 have z0:(0:UInt32).toNat=0:=rfl
 rw[show l.length - 1+1=l.length by omega,List.take_of_length_le (Nat.le_refl _),i,z0,Nat.mul_zero,Nat.add_zero,j]at e
 have f:=bv (l.take (l.length - 1))
 rw[List.length_take,Nat.min_eq_left (by omega),<-e]at f
 have:=bl f
 rw[g]at this
 omega
theorem fc (n:Nat):(an n).length=0↔n=0:=by
 constructor
 ·intro h
  have:=ar n
  rw[List.eq_nil_of_length_eq_zero h]at this
  exact this.symm
 ·intro h; rw[h,bR]; rfl
theorem p8 (a b:L0) (Y:a.length<=40000000000000) (Z:b.length<=40000000000000):F.Hi a b=some (if val b=0 then ([],[],60) else (an (val a / val b),an (val a%val b),0)):=by
 obtain⟨m,K,h2,M⟩:=eG a (by omega)
 obtain⟨m',N,h5,O⟩:=eG b (by omega)
 have la:(an (val a)).length<=a.length:=bl (bv a)
 have lb:(an (val b)).length<=b.length:=bl (bv b)
 unfold F.Hi
 rw[K,ae,N,ae,M,O]
 by_cases hb0:val b=0
 ·rw[if_pos (by rw[hb0,bR]; rfl),if_pos hb0]
 ·have z:(an (val b)).length≠0:=fun h=>hb0 ((fc _).1 h)
  rw[if_neg (by rw[beq_iff_eq]; omega),if_neg hb0,jK a b (by omega) (by omega),ae]
  unfold cD
  by_cases hl:val a<val b
  ·have A:apO 4 [] (an (val a))=some (an (val a)):=by unfold apO; rw[if_pos (by simp; omega)]; simp
   rw[if_pos hl,if_pos (by decide),A,ae,Nat.div_eq_of_lt hl,Nat.mod_eq_of_lt hl,bR]
  ·rw[if_neg hl,if_neg (by split <;> decide)]
   have B:(an (val b)).length<=(an (val a)).length:=c6 (by omega)
   have i:=x4 z
   by_cases h11:(an (val b)).length=1
   ·have g:val b=((an (val b)).getD 0 0).toNat:=by
     have e:=bO (an (val b)) 0
     rw[Nat.zero_add,List.take_of_length_le (by omega),ar]at e
     simpa [val] using e
    obtain⟨q,r,j,R,o,f⟩:=xD (an (val a)) ((an (val b)).getD 0 0) (by rw[<-g]; exact hb0) (by omega)
    rw[ar,<-g]at o f
    obtain⟨k,t,U,x⟩:=eZ q (by omega)
    rw[if_pos (by rw[beq_iff_eq]; omega),show (0:Int)=((0:Nat):Int) from rfl,aP (show 0<(an (val b)).length by omega) 0,ae,j,ae]
    dsimp only
    rw[t,ae,x,uy,ae,bV,o,f]
   ·obtain⟨q,u,j,R,o,f,y⟩:=yY (an (val a)) (an (val b)) (by omega) i B (by omega)
    rw[ar,ar]at f y
    obtain⟨k,t,U,x⟩:=eZ q (by omega)
    obtain⟨k',V,p5,X⟩:=eZ (u.take (an (val b)).length) (by rw[List.length_take]; omega)
    have G:val (u.take (an (val b)).length)=val u:=by
     have e:=dg u (an (val b)).length (by omega)
     have I:val u<4294967296^(an (val b)).length:=by
      have J:=bv (an (val b))
      rw[ar]at J
      rw[y]
      exact Nat.lt_trans (Nat.mod_lt _ (by omega)) J
     rw[gm I,Nat.mul_zero,Nat.add_zero]at e
     exact e.symm
    rw[if_neg (by rw[beq_iff_eq]; omega),j,ae]
    dsimp only
    rw[t,ae,V,ae,x,X,G,f,y]
end Go.Gk.Bn
end

section
namespace Go.Gk.Bn
open Go Go.Gk Go.Gk.Sh Go.Gk.Ec Go.Gk.Pr
theorem vo (a:L0) (f:a.length<=40000000000000):F.Ij a=some (((nb (val a)+31) / 32:Nat):Int):=by
 have g:nb (val a)<=32*a.length:=Nat.le_trans (jo _) (Nat.mul_le_mul_left 32 (bl (bv a)))
 unfold F.Ij
 rw[i3 a (by omega),ae,aJ (x:=((nb (val a):Nat):Int)+31) (by omega) (by omega),Int.tdiv_eq_ediv_of_nonneg (by omega),aJ (by omega) (by omega)]
 congr 1
def j2 (l:List L0) (m:L0):Int:=if l.any (fun a=>decide (4096<nb (val a))) then 10 else if val m<2 then 60 else 0
theorem sR (l:List L0) (k:Nat) (z:l.length=k+1) (y:k<=100) (q:∀a∈l,a.length<=40000000000000):F.EK l=some (j2 l (l.getD k [])):=by
 have t:∀(n i:Nat),i+n=l.length->loop (F.EI l) (i:Int)=some (j2 (l.drop i) (l.getD k [])):=by
  intro n
  induction n with
  | zero=>
   intro i hi
   have:i=l.length:=by omega
   subst this
   have m:wI ((l.length:Int) - 1)=(k:Int):=by rw[aJ (by omega) (by omega)]; omega
   have A:(l.getD k []).length<=40000000000000:=by
    refine q _ ?_
    rw[List.getD_eq_getElem?_getD,List.getElem?_eq_getElem (by omega)]
    exact List.getElem_mem _
   refine bL ?_
   unfold F.EI j2
   dsimp only
   rw[if_neg (by rw[decide_eq_true_eq]; omega),m,aP (show k<l.length by omega) [],ae,i3 _ (by omega),ae,List.drop_length]
   rw[if_neg (show ¬(List.any [] fun a=>decide (4096<nb (val a)))=true by simp)]
   congr 1
   by_cases h:val (l.getD k [])<2
   ·have:nb (val (l.getD k []))<=1:=mc (k:=1) h
    rw[if_pos h,if_pos (decide_eq_true (by omega))]
   ·rw[if_neg h,if_neg]
    rw[decide_eq_true_eq]
    intro B
    have o:=(d7 (val (l.getD k []))).1
    have G:=Nat.pow_le_pow_right (show 0<2 by decide) (show nb (val (l.getD k []))<=1 by omega)
    omega
  | succ n ih=>
   intro i hi
   have m:wI ((i:Int)+1)=((i+1:Nat):Int):=by rw[aJ (by omega) (by omega)]; rfl
   obtain⟨a,f⟩:∃a,l.getD i []=a:=⟨_,rfl⟩
   have g:a.length<=40000000000000:=by
    refine q _ ?_
    rw[<-f,List.getD_eq_getElem?_getD,List.getElem?_eq_getElem (by omega)]
    exact List.getElem_mem _
   have j:l.drop i=a :: l.drop (i+1):=by
    rw[List.drop_eq_getElem_cons (by omega)]
    congr 1
    rw[<-f,List.getD_eq_getElem?_getD,List.getElem?_eq_getElem (by omega)]; rfl
   by_cases o:4096<nb (val a)
   ·refine (bL (X:=some 10) ?_).trans ?_
    ·unfold F.EI
     dsimp only
     rw[if_pos (decide_eq_true (by omega)),aP (show i<l.length by omega) [],ae,f,vo a g,ae,if_pos (decide_eq_true (by omega))]
    ·unfold j2
     rw[j,if_pos (by simp[o])]
   ·have x:F.EI l (i:Int)=some (.inl ((i+1:Nat):Int)):=by
     unfold F.EI
     dsimp only
     rw[if_pos (decide_eq_true (by omega)),aP (show i<l.length by omega) [],ae,f,vo a g,ae,if_neg (by rw[decide_eq_true_eq]; omega),m]; rfl
    rw[bJ x,ih (i+1) (by omega)]
    unfold j2
    rw[j,List.any_cons,decide_eq_false o,Bool.false_or]
 have:=t l.length 0 (by omega)
 rw[List.drop_zero]at this
 exact this
theorem tl {a b m:L0} (g:nb (val a)<=4096) (h:nb (val b)<=4096) (i:nb (val m)<=4096) (j:2<=val m) (k:a.length<=40000000000000) (o:b.length<=40000000000000) (q:m.length<=40000000000000):F.EK [a,b,m]=some 0:=by
 rw[sR [a,b,m] 2 rfl (by decide) (by intro x f; simp at f; rcases f with rfl | rfl | rfl <;> assumption)]
 unfold j2
 rw[if_neg (by simp; omega),if_neg (by show ¬val m<2; omega)]
theorem ka (a m:L0) (f:a.length<=40000000000000) (g:m.length<=40000000000000) (h:val m≠0):F.Ef a m=some (an (val a%val m)):=by
 unfold F.Ef
 rw[p8 a m f g,if_neg h,ae]
theorem oR {x y m:Nat} (k:x<m) (o:y<m) (f:(an m).length<=1000) (l:L0) (i:val l=m) (g:l.length<=40000000000000):F.F2 (an x) (an y) l=some (an ((m - y+x)%m)):=by
 have lx:(an x).length<=1000:=Nat.le_trans (c6 (by omega)) f
 have q:(an y).length<=1000:=Nat.le_trans (c6 (by omega)) f
 unfold F.F2 F.I2
 rw[oq _ _ (by omega) (by omega),ae,ar,ar]
 by_cases h:x<y
 ·have j:(an (x+m)).length<=1001:=by
   have t:=fS x m
   have z:=c6 (show x<=m by omega)
   omega
  rw[if_pos h,if_pos (by rfl),vi _ _ (by omega) g,ae,ar,i,oq _ _ (by omega) (by omega),ae,ar,ar,if_neg (by omega),Nat.mod_eq_of_lt (by omega),show x+m - y=m - y+x by omega]
 ·rw[if_neg h,if_neg (show ¬(!true)=true by decide),show m - y+x=(x - y)+m by omega,Nat.add_mod_right,Nat.mod_eq_of_lt (by omega)]
section
variable (c:Int)
end
end Go.Gk.Bn
end
