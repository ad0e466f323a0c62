import Derived.Test.YtmegjloifgfldaaGreatDoorGkUR
import Derived.Test.YtmegjloifgfldaaGreatDoorGkFman
set_option linter.unusedVariables false
set_option linter.unusedSimpArgs false
set_option linter.unusedSectionVars false

section
namespace Go.Gk.Bn
open Go Go.Gk Go.Gk.Sh
theorem oJ (x:UInt32):x.toBitVec.msb=decide (2147483648<=x.toNat):=by
 rw[BitVec.msb_eq_decide]; rfl
theorem Ed (x:UInt32):(bv x 31).toNat=if x.toBitVec.msb=true then 1 else 0:=by
 have hx:=cn x
 have:(bv x 31).toNat=x.toNat / 2147483648:=by
  unfold bv
  rw[UInt32.toNat_ofNat',show min 31 32=31 from rfl]
  omega
 rw[this,oJ]
 by_cases h:2147483648<=x.toNat
 ·rw[if_pos (decide_eq_true h)]; omega
 ·rw[if_neg (by rw[decide_eq_true_eq]; exact h)]; omega
theorem BL (a b c:UInt32) (hc:c.toNat<=1):∃d e:UInt32,F.Mi a b c=some (d,e)/\e.toNat<=1/\d.toNat+b.toNat+c.toNat=a.toNat+4294967296*e.toNat:=by
 refine⟨(a - b) - c,_,rfl,?_⟩
 obtain⟨d,f⟩:∃d,(a - b) - c=d:=⟨_,rfl⟩
 rw[f]
 have h:d.toNat=(4294967296 - c.toNat+(4294967296 - b.toNat+a.toNat)%4294967296)%4294967296:=by rw[<-f,UInt32.toNat_sub,UInt32.toNat_sub]
 have ha:=cn a; have hb:=cn b; have i:=cn d
 rw[Ed]
 have g:(((~~~ a) &&& b) ||| ((~~~ (a ^^^ b)) &&& d)).toBitVec.msb=((!a.toBitVec.msb&&b.toBitVec.msb) || (!(a.toBitVec.msb != b.toBitVec.msb)&&d.toBitVec.msb)):=by
  simp[BitVec.msb_or,BitVec.msb_and,BitVec.msb_xor,BitVec.msb_not]
 rw[g,oJ,oJ,oJ]
 by_cases h1:2147483648<=a.toNat <;> by_cases h2:2147483648<=b.toNat <;> by_cases h3:2147483648<=d.toNat <;> simp only[h1,h2,h3,decide_true,decide_false] <;> simp <;> omega
theorem oL {l:Q0} {lo hi:Nat} (f:lo<=hi) (g:hi<=l.length):((l.drop lo).take (hi - lo)).length=hi - lo:=by
 rw[List.length_take,List.length_drop]; omega
theorem xI {l:Q0} {lo hi i:Nat} (g:hi<=l.length) (f:i<hi - lo):aC ((l.drop lo).take (hi - lo)) (i:Int)=some (l.getD (lo+i) 0):=by
 rw[aT (show i<((l.drop lo).take (hi - lo)).length by rw[List.length_take,List.length_drop]; omega) 0]
 congr 1
 rw[List.getD_eq_getElem?_getD,List.getElem?_take_of_lt f,List.getElem?_drop,<-List.getD_eq_getElem?_getD]
def TkI (u y:Q0) (lo i:Nat) (x:UInt32×Q0):Prop:=
 x.2.length=u.length/\x.1.toNat<=1/\(∀k,lo+i<=k->x.2.getD k 0=u.getD k 0)/\val x.2+4294967296^lo*val (y.take i)=val u+4294967296^(lo+i)*x.1.toNat
theorem Cw (u y:Q0) (lo hi:Nat) (h:lo<=hi) (j:hi<=u.length) (Z:u.length<=4611686018427387904) (hy:y.length<=4611686018427387904) :
  ∃r,F.HJ u lo hi y=some r/\TkI u y lo (hi - lo) r:=by
 have o:∀(k i:Nat) (x:UInt32×Q0),i+k=hi - lo->TkI u y lo i x->∃r,loop (F.IM lo hi u y) (x.1,(i:Int),x.2)=some r/\TkI u y lo (hi - lo) r:=by
  intro k
  induction k with
  | zero=>
   intro i x t hx
   have:i=hi - lo:=by omega
   subst this
   refine⟨x,bu ?_,hx⟩
   unfold F.IM
   dsimp only
   rw[oL h j,if_neg (by rw[decide_eq_true_eq]; omega)]
  | succ k ih=>
   intro i x t hx
   obtain⟨I,J,K,M⟩:=hx
   have A:i<hi - lo:=by omega
   have N:wI ((i:Int)+1)=((i+1:Nat):Int):=by rw[aI (by omega) (by omega)]; rfl
   obtain⟨d,e,O,R,U⟩:=BL (x.2.getD (lo+i) 0) (y.getD i 0) x.1 J
   have B:F.IM lo hi u y (x.1,(i:Int),x.2)=some (.inl (e,((i+1:Nat):Int),x.2.set (lo+i) d)):=by
    have f:F.Jg lo hi x.1 (i:Int) x.2 (y.getD i 0)=some (.inl (e,((i+1:Nat):Int),x.2.set (lo+i) d)):=by
     unfold F.Jg
     rw[xI (by omega) A,ae,O,ae,ae,aV,N,Int.toNat_natCast]; rfl
    unfold F.IM
    dsimp only
    rw[oL h j,if_pos (decide_eq_true (by omega))]
    by_cases hb:i<y.length
    ·rw[if_pos (decide_eq_true (by omega)),aT hb 0,ae,f]
    ·rw[if_neg (by rw[decide_eq_true_eq]; omega)]
     have:y.getD i 0=0:=by rw[List.getD_eq_getElem?_getD,List.getElem?_eq_none (by omega)]; rfl
     rw[this]at f; exact f
   rw[bB B]
   refine ih (i+1) (e,x.2.set (lo+i) d) (by omega) ⟨by simpa using I,R,fun G hk=>?_,?_⟩
   ·show (x.2.set (lo+i) d).getD G 0=_
    rw[dB (by omega)]; exact K G (by omega)
   ·show val (x.2.set (lo+i) d)+_=_+_*e.toNat
    have V:=ef x.2 (lo+i) d (by omega)
    rw[bM y i,Nat.mul_add,<-Nat.mul_assoc,<-Nat.pow_add,show lo+(i+1)=(lo+i)+1 by omega,Nat.pow_succ]
    obtain⟨g,X⟩:∃g,(4294967296:Nat)^(lo+i)=g:=⟨_,rfl⟩
    rw[X]at M V ⊢
    have Y:=congrArg (fun z=>g*z) U
    simp only[Nat.mul_add]at Y
    rw[Nat.mul_assoc]
    omega
 exact o (hi - lo) 0 (0,u) (by omega) ⟨rfl,Nat.zero_le 1,fun _ _=>rfl,by simp[val]⟩
theorem vi (u y:Q0) (lo hi:Nat) (t:lo<=hi) (z:hi<=u.length) (A:u.length<=4611686018427387904) (hy:y.length<=hi - lo) (i:val u<4294967296^hi) (I:4294967296^lo*val y<=val u) :
  ∃c f,F.HJ u lo hi y=some (c,f)/\f.length=u.length/\val f+4294967296^lo*val y=val u:=by
 obtain⟨⟨c,f⟩,B,j,r3,o,g⟩:=Cw u y lo hi t z A (by omega)
 dsimp only at j r3 o g
 rw[List.take_of_length_le hy,show lo+(hi - lo)=hi by omega]at g
 refine⟨c,f,B,j,?_⟩
 have J:val f<4294967296^hi:=ny fun k G=>by rw[o k (by omega)]; exact xn i k G
 rcases Nat.lt_or_ge c.toNat 1 with h | h
 ·have:c.toNat=0:=by omega
  rw[this]at g; omega
 ·have:c.toNat=1:=by omega
  rw[this]at g; omega
theorem DA (n:Nat) (l:Q0) (h:l.length=n):cpL (List.replicate n 0) l 0 (List.replicate n (0:UInt32)).length=l:=by
 unfold cpL
 simp only[List.length_replicate,Nat.sub_zero,Nat.zero_add,h,Nat.min_self,List.take_zero,List.nil_append]
 rw[List.take_of_length_le (by omega),List.drop_of_length_le (by simp),List.append_nil]
theorem oY (a b:Q0) (ha:a.length<=40000000000000) (hb:b.length<=40000000000000):F.HM a b=some (if val a<val b then ([],false) else (ao (val a - val b),true)):=by
 obtain⟨m,g,G,h⟩:=dD a (by omega)
 obtain⟨I,i,J,j⟩:=dD b (by omega)
 have K:(ao (val a)).length<=a.length:=ba (bD a)
 unfold F.HM
 rw[eN a b (by omega) (by omega),ae]
 by_cases hl:val a<val b
 ·rw[if_pos hl]; unfold cD; rw[if_pos hl,if_pos (by decide)]
 ·rw[if_neg hl]; unfold cD
  rw[if_neg hl,if_neg (by split <;> decide),g,ae,i,ae,h,j,dv (by omega),ae,Int.toNat_natCast,aV,DA _ _ rfl]
  have B:(ao (val b)).length<=(ao (val a)).length:=da (by omega)
  obtain⟨c,f,o,M,t⟩:=vi (ao (val a)) (ao (val b)) 0 (ao (val a)).length (Nat.zero_le _) (Nat.le_refl _) (by omega) (by omega) (bD _) (by rw[aw,aw]; omega)
  rw[o,ae]
  obtain⟨k,z,N,A⟩:=eo f (by omega)
  dsimp only
  rw[z,ae,A]
  rw[aw,aw,Nat.pow_zero,Nat.one_mul]at t
  rw[show val f=val a - val b by omega]
def MuI (x:UInt32) (y o:Q0) (i j:Nat) (s:UInt64×Q0):Prop:=
 s.2.length=o.length/\s.1.toNat<=4294967295/\(∀k,i+j<=k->s.2.getD k 0=o.getD k 0)/\val s.2+4294967296^(i+j)*s.1.toNat=val o+4294967296^i*(x.toNat*val (y.take j))
theorem yw (a b:Q0) (m:Nat) (i:Nat) (x:UInt32) (y o:Q0) (hy:b.take m=y) (ho:i+y.length<o.length) (ab:o.length<=4611686018427387904) :
  ∃c o',MuI x y o i y.length (c,o')/\loop (F.HV b m (i:Int) x) (0,0,o)=some (.inl (((i+1:Nat):Int),o'.set (i+y.length) c.toUInt32)):=by
 have z:∀(k j:Nat) (s:UInt64×Q0),j+k=y.length->MuI x y o i j s->∃c o',MuI x y o i y.length (c,o')/\loop (F.HV b m (i:Int) x) (s.1,(j:Int),s.2)=some (.inl (((i+1:Nat):Int),o'.set (i+y.length) c.toUInt32)):=by
  intro k
  induction k with
  | zero=>
   intro j s N hs
   have:j=y.length:=by omega
   subst this
   refine⟨s.1,s.2,hs,bu ?_⟩
   have g:wI ((i:Int)+(y.length:Int))=((i+y.length:Nat):Int):=by rw[aI (by omega) (by omega)]; omega
   have h:wI ((i:Int)+1)=((i+1:Nat):Int):=by rw[aI (by omega) (by omega)]; rfl
   unfold F.HV
   dsimp only
   have:=hs.1
   rw[hy,if_neg (by rw[decide_eq_true_eq]; omega),g,h,aT (show i+y.length<s.2.length by omega) 0,ae,aV,Int.toNat_natCast]; rfl
  | succ k ih=>
   intro j s N hs
   obtain⟨O,g2,R,U⟩:=hs
   have g:wI ((i:Int)+(j:Int))=((i+j:Nat):Int):=by rw[aI (by omega) (by omega)]; omega
   have h:wI ((j:Int)+1)=((j+1:Nat):Int):=by rw[aI (by omega) (by omega)]; rfl
   obtain⟨t,A⟩:∃t,s.1+((x.toUInt64*(y.getD j 0).toUInt64)+(s.2.getD (i+j) 0).toUInt64)=t:=⟨_,rfl⟩
   have B:F.HV b m (i:Int) x (s.1,(j:Int),s.2)=some (.inl (aP t 32,((j+1:Nat):Int),s.2.set (i+j) t.toUInt32)):=by
    unfold F.HV
    dsimp only
    rw[hy,if_pos (decide_eq_true (by omega)),aT (show j<y.length by omega) 0,ae,g,aT (show i+j<s.2.length by omega) 0,ae,aV,A,ae,aV,h,Int.toNat_natCast]; rfl
   rw[bB B]
   have x1:=cn x; have x2:=cn (y.getD j 0); have x3:=cn (s.2.getD (i+j) 0)
   have hp:=Nat.mul_le_mul (show x.toNat<=4294967295 by omega) (show (y.getD j 0).toNat<=4294967295 by omega)
   have G:(x.toUInt64*(y.getD j 0).toUInt64).toNat=x.toNat*(y.getD j 0).toNat:=by rw[oB _ _ (by rw[bY,bY]; omega),bY,bY]
   have I:(x.toUInt64*(y.getD j 0).toUInt64+(s.2.getD (i+j) 0).toUInt64).toNat=x.toNat*(y.getD j 0).toNat+(s.2.getD (i+j) 0).toNat:=by rw[gE _ _ (by rw[G,bY]; omega),G,bY]
   have V:t.toNat=s.1.toNat+(x.toNat*(y.getD j 0).toNat+(s.2.getD (i+j) 0).toNat):=by rw[<-A,gE _ _ (by rw[I]; omega),I]
   have J:(aP t 32).toNat=t.toNat / 4294967296:=by rw[dI]; rfl
   refine ih (j+1) (aP t 32,s.2.set (i+j) t.toUInt32) (by omega) ⟨by simpa using O,by show (aP t 32).toNat<=_; rw[J]; omega,fun K hk=>?_,?_⟩
   ·show (s.2.set (i+j) t.toUInt32).getD K 0=_
    rw[dB (by omega)]; exact R K (by omega)
   ·show val (s.2.set (i+j) t.toUInt32)+_*(aP t 32).toNat=_
    have M:=ef s.2 (i+j) t.toUInt32 (by omega)
    rw[fe]at M
    rw[bM y j,Nat.mul_add,Nat.mul_add,J,show i+(j+1)=(i+j)+1 by omega,Nat.pow_succ]
    have X:4294967296^i*(x.toNat*(4294967296^j*(y.getD j 0).toNat))=4294967296^(i+j)*(x.toNat*(y.getD j 0).toNat):=by
     rw[Nat.pow_add,Nat.mul_left_comm x.toNat,Nat.mul_assoc]
    rw[X]
    obtain⟨f,Y⟩:∃f,(4294967296:Nat)^(i+j)=f:=⟨_,rfl⟩
    rw[Y]at U M ⊢
    have Z:=Nat.div_add_mod t.toNat 4294967296
    have e3:f*(t.toNat%4294967296)+f*4294967296*(t.toNat / 4294967296)=f*t.toNat:=by
     rw[Nat.mul_assoc,<-Nat.mul_add,Nat.add_comm,Z]
    have e4:f*t.toNat=f*s.1.toNat+(f*(x.toNat*(y.getD j 0).toNat)+f*(s.2.getD (i+j) 0).toNat):=by rw[V,Nat.mul_add,Nat.mul_add]
    omega
 exact z y.length 0 (0,o) (by omega) ⟨rfl,Nat.zero_le _,fun _ _=>rfl,by simp[val]⟩
theorem xL (a b:Q0) (ha:a.length<=40000000000000) (hb:b.length<=40000000000000) (hs:(ao (val a)).length+(ao (val b)).length<=50000000000000):F.HO a b=some (ao (val a*val b)):=by
 obtain⟨m,R,h2,g⟩:=dD a (by omega)
 obtain⟨h,U,h5,j⟩:=dD b (by omega)
 have V:(ao (val a)).length<=a.length:=ba (bD a)
 have X:(ao (val b)).length<=b.length:=ba (bD b)
 obtain⟨x,hx⟩:∃x,ao (val a)=x:=⟨_,rfl⟩
 obtain⟨y,hy⟩:∃y,ao (val b)=y:=⟨_,rfl⟩
 have Y:val x=val a:=by rw[<-hx,aw]
 have Z:val y=val b:=by rw[<-hy,aw]
 rw[hx]at g V hs; rw[hy]at j X hs
 unfold F.HO
 have w0:wI ((x.length:Int)+(y.length:Int))=((x.length+y.length:Nat):Int):=by rw[aI (by omega) (by omega)]; omega
 rw[R,ae,U,ae,g,j,w0,dv (by omega),ae,Int.toNat_natCast]
 have A:∀(k i:Nat) (o:Q0),i+k=x.length->o.length=x.length+y.length->(∀k,i+y.length<=k->o.getD k 0=0)->val o=val (x.take i)*val y->loop (F.I1 a m b h) ((i:Int),o)=some (ao (val a*val b)):=by
  intro k
  induction k with
  | zero=>
   intro i o hi B _ t
   have:i=x.length:=by omega
   subst this
   refine bu ?_
   unfold F.I1
   dsimp only
   obtain⟨q,p1,p2,p3⟩:=eo o (by omega)
   rw[g,if_neg (by rw[decide_eq_true_eq]; omega),p1,ae,p3,t,List.take_of_length_le (Nat.le_refl _),Y,Z]
  | succ k ih=>
   intro i o hi B G t
   obtain⟨c,o',⟨I,g2,z,J⟩,hl⟩:=yw a b h i (x.getD i 0) y o j (by omega) (by omega)
   dsimp only at I g2 z J
   have K:F.I1 a m b h ((i:Int),o)=some (.inl (((i+1:Nat):Int),o'.set (i+y.length) c.toUInt32)):=by
    unfold F.I1
    dsimp only
    rw[g,if_pos (decide_eq_true (by omega)),aT (show i<x.length by omega) 0,ae,hl]
   rw[bB K]
   have M:o'.getD (i+y.length) 0=0:=by rw[z _ (Nat.le_refl _)]; exact G _ (Nat.le_refl _)
   have f:=ef o' (i+y.length) c.toUInt32 (by omega)
   have z0:(0:UInt32).toNat=0:=rfl
   rw[M,z0,Nat.mul_zero,Nat.add_zero,fe,Nat.mod_eq_of_lt (by omega)]at f
   refine ih (i+1) _ (by omega) (by simpa using (I.trans B)) (fun N O=>?_) ?_
   ·rw[dB (by omega),z N (by omega)]; exact G N (by omega)
   ·rw[f,J,List.take_of_length_le (Nat.le_refl _),t,bM x i,Nat.add_mul,Nat.mul_assoc]
 exact A x.length 0 (List.replicate (x.length+y.length) 0) (by omega) (by simp) (fun k _=>by rw[List.getD_eq_getElem?_getD]; by_cases O:k<x.length+y.length <;> simp[O]) (by rw[dn]; simp[val])
end Go.Gk.Bn
end

section
namespace Go.Gk.Bn
open Go Go.Gk Go.Gk.Sh
theorem Cy (a b d:UInt32) (h:a.toNat<d.toNat):∃q r:UInt32,F.Ls a b d=some (q,r)/\q.toNat=(4294967296*a.toNat+b.toNat) / d.toNat/\r.toNat=(4294967296*a.toNat+b.toNat)%d.toNat:=by
 have hb:=cn b; have k:=cn d
 have f:¬d.toUInt64=0:=fun g=>by
  have:=congrArg UInt64.toNat g
  rw[bY]at this; simp at this; omega
 have i:(d != 0)=true:=by
  rw[bne_iff_ne]; intro g; rw[g]at h; simp at h
 have j:¬d<=a:=fun o=>by have:=UInt32.le_iff_toNat_le.1 o; omega
 refine⟨(((aF a.toUInt64 32) ||| b.toUInt64) / d.toUInt64).toUInt32,(((aF a.toUInt64 32) ||| b.toUInt64)%d.toUInt64).toUInt32,?_,?_,?_⟩
 rotate_left
 ·show ((((aF a.toUInt64 32) ||| b.toUInt64) / d.toUInt64).toUInt32).toNat=_
  rw[fe,UInt64.toNat_div,tP,bY,Nat.mod_eq_of_lt]
  exact Nat.div_lt_of_lt_mul (by rw[Nat.mul_comm]; omega)
 ·show ((((aF a.toUInt64 32) ||| b.toUInt64)%d.toUInt64).toUInt32).toNat=_
  rw[fe,UInt64.toNat_mod,tP,bY,Nat.mod_eq_of_lt]
  exact Nat.lt_trans (Nat.mod_lt _ (by omega)) k
 ·unfold F.Ls F.KI
  dsimp only
  rw[if_pos i,if_neg (by rw[decide_eq_true_eq]; exact j),aV,grd_true _ f,grd_true _ f,aV,aV]
theorem z8 (x:Q0) (d:UInt32) (X:d.toNat≠0) (hx:x.length<=50000000000000):∃q r,F.K4 x d=some (q,r)/\q.length=x.length/\val q=val x / d.toNat/\r.toNat=val x%d.toNat:=by
 unfold F.K4
 rw[dv (by omega),ae,aV,Int.toNat_natCast,aI (by omega) (by omega)]
 have t:∀(k:Nat) (o:Q0) (r:UInt32),k<=x.length->o.length=x.length->r.toNat<d.toNat->val (o.drop k)*d.toNat+r.toNat=val (x.drop k)->∃q g,loop (F.IH x d) (r,(k:Int) - 1,o)=some (q,g)/\q.length=x.length/\g.toNat<d.toNat/\val q*d.toNat+g.toNat=val x:=by
  intro k
  induction k with
  | zero=>
   intro o r K h i j
   refine⟨o,r,bu ?_,h,i,by simpa using j⟩
   unfold F.IH
   dsimp only
   rw[if_neg (by decide)]
  | succ k ih=>
   intro o r K h i j
   have M:(((k+1:Nat):Int)) - 1=(k:Int):=by omega
   obtain⟨f,z,N,O,A⟩:=Cy r (x.getD k 0) d i
   have w:wI ((k:Int) - 1)=(k:Int) - 1:=aI (by omega) (by omega)
   have B:F.IH x d (r,(k:Int),o)=some (.inl (z,(k:Int) - 1,o.set k f)):=by
    unfold F.IH
    dsimp only
    rw[if_pos (decide_eq_true (by omega)),aT (show k<x.length by omega) 0,ae,N,ae,aT (show k<o.length by omega) 0,ae,aV,w,Int.toNat_natCast]; rfl
   rw[M,bB B]
   refine ih (o.set k f) z (by omega) (by simpa using h) (by rw[A]; exact Nat.mod_lt _ (by omega)) ?_
   have G:val ((o.set k f).drop k)=f.toNat+4294967296*val (o.drop (k+1)):=by
    rw[cq,List.drop_set_of_lt (by omega)]
    congr 2
    rw[List.getD_eq_getElem?_getD,List.getElem?_set_self (by omega)]; rfl
   rw[G,cq x k,<-j,O,A]
   have V:=Nat.div_add_mod (4294967296*r.toNat+(x.getD k 0).toNat) d.toNat
   rw[Nat.add_mul,Nat.mul_comm (_ / _),Nat.mul_assoc,Nat.mul_add]
   omega
 obtain⟨q,r,R,U,I,J⟩:=t x.length (List.replicate x.length 0) 0 (Nat.le_refl _) (by simp) (by show 0<_; omega) (by rw[List.drop_of_length_le (by simp),List.drop_of_length_le (by omega)]; simp[val])
 refine⟨q,r,R,U,?_,?_⟩
 ·rw[<-J,Nat.add_comm,Nat.add_mul_div_right _ _ (by omega),Nat.div_eq_of_lt I,Nat.zero_add]
 ·rw[<-J,Nat.add_comm,Nat.add_mul_mod_self_right,Nat.mod_eq_of_lt I]
theorem EC (x c:UInt32) {s:Nat} (hs:s<32) (hc:c.toNat<2^s):(cu x s ||| c).toNat=x.toNat*2^s%4294967296+c.toNat:=by
 rw[UInt32.toNat_or,pm,Nat.min_eq_left (by omega)]
 have f:=jE hs
 have e:x.toNat*2^s%4294967296=2^s*(x.toNat%2^(32 - s)):=by
  rw[Nat.mul_comm,<-f,Nat.mul_mod_mul_left]
 rw[e,Nat.two_pow_add_eq_or_of_lt hc]
theorem EQ (x:UInt32) {s:Nat} (hs:s<32):((aP (aF x.toUInt64 s) 32).toUInt32).toNat=x.toNat*2^s / 4294967296/\x.toNat*2^s / 4294967296<2^s:=by
 have hx:=cn x
 have f:x.toNat*2^s<4294967296*2^s:=Nat.mul_lt_mul_of_pos_right hx (Nat.two_pow_pos s)
 have h:2^s<2^32:=Nat.pow_lt_pow_right (by decide) hs
 have g:x.toNat*2^s / 4294967296<2^s:=Nat.div_lt_of_lt_mul f
 refine⟨?_,g⟩
 rw[fe,dI,dX,bY,Nat.min_eq_left (by omega),show (2:Nat)^min 32 64=4294967296 from rfl]
 rw[Nat.mod_eq_of_lt (b:=18446744073709551616) (by omega),Nat.mod_eq_of_lt (by omega)]
def UpI (u x:Q0) (lo s i:Nat) (t:UInt32×Q0):Prop:=
 t.2.length=u.length/\t.2.take lo=u.take lo/\(∀k,lo+i<=k->t.2.getD k 0=u.getD k 0)/\t.1.toNat<2^s/\val ((t.2.drop lo).take i)+4294967296^i*t.1.toNat=2^s*val (x.take i)
theorem Fj (u x:Q0) (lo hi s:Nat) (hs:s<32) (B:lo<=hi) (G:hi<=u.length) (hu:u.length<=4611686018427387904) (hx:x.length<=4611686018427387904) :
  ∃c h,F.JH u lo hi x (s:Int)=some h/\UpI u x lo s (hi - lo) (c,h):=by
 have I:∀(k i:Nat) (t:UInt32×Q0),i+k=hi - lo->UpI u x lo s i t->∃c h,loop (F.Ix lo hi u x (s:Int)) (t.1,(i:Int),t.2)=some h/\UpI u x lo s (hi - lo) (c,h):=by
  intro k
  induction k with
  | zero=>
   intro i t J o
   have:i=hi - lo:=by omega
   subst this
   refine⟨t.1,t.2,bu ?_,o⟩
   unfold F.Ix
   dsimp only
   rw[oL B G,if_neg (by rw[decide_eq_true_eq]; omega)]
  | succ k ih=>
   intro i t J o
   obtain⟨R,U,V,X,Y⟩:=o
   have K:i<hi - lo:=by omega
   have Z:wI ((i:Int)+1)=((i+1:Nat):Int):=by rw[aI (by omega) (by omega)]; rfl
   obtain⟨z,M⟩:∃z,cu (x.getD i 0) s ||| t.1=z:=⟨_,rfl⟩
   obtain⟨c,hc⟩:∃c,(aP (aF (x.getD i 0).toUInt64 s) 32).toUInt32=c:=⟨_,rfl⟩
   have j:=EC (x.getD i 0) t.1 hs X
   have g:=EQ (x.getD i 0) hs
   rw[M]at j; rw[hc]at g
   have A:F.Kq lo hi (s:Int) t.1 (i:Int) t.2 (x.getD i 0)=some (.inl (c,((i+1:Nat):Int),t.2.set (lo+i) z)):=by
    unfold F.Kq
    dsimp only
    rw[grd_true _ (by omega),xI (by omega) K,ae,aV,Int.toNat_natCast,M,grd_true _ (by omega),aV,hc,Z,Int.toNat_natCast]; rfl
   have N:F.Ix lo hi u x (s:Int) (t.1,(i:Int),t.2)=some (.inl (c,((i+1:Nat):Int),t.2.set (lo+i) z)):=by
    unfold F.Ix
    dsimp only
    rw[oL B G,if_pos (decide_eq_true (by omega))]
    by_cases hb:i<x.length
    ·rw[if_pos (decide_eq_true (by omega)),aT hb 0,ae,A]
    ·rw[if_neg (by rw[decide_eq_true_eq]; omega)]
     rw[dY (by omega)]at A; exact A
   rw[bB N]
   refine ih (i+1) (c,t.2.set (lo+i) z) (by omega) ⟨by simpa using R,?_,fun O hk=>?_,by show c.toNat<_; rw[g.1]; exact g.2,?_⟩
   ·show (t.2.set (lo+i) z).take lo=_
    rw[List.take_set_of_le (by omega)]; exact U
   ·show (t.2.set (lo+i) z).getD O 0=_
    rw[dB (by omega)]; exact V O (by omega)
   ·show val (((t.2.set (lo+i) z).drop lo).take (i+1))+_*c.toNat=_
    have e1:(t.2.set (lo+i) z).drop lo=(t.2.drop lo).set i z:=by rw[List.drop_set,if_neg (by omega),show lo+i - lo=i by omega]
    have e2:((t.2.drop lo).set i z).getD i 0=z:=by
     rw[List.getD_eq_getElem?_getD,List.getElem?_set_self (by rw[List.length_drop]; omega)]; rfl
    rw[e1,bM,e2,List.take_set_of_le (by omega),bM x i,Nat.mul_add,<-Y,j,g.1,Nat.pow_succ]
    obtain⟨f,hP⟩:∃f,(4294967296:Nat)^i=f:=⟨_,rfl⟩
    obtain⟨m,hm⟩:∃m,(x.getD i 0).toNat*2^s=m:=⟨_,rfl⟩
    rw[hP,hm]
    have hd:=Nat.div_add_mod m 4294967296
    have e3:f*(m%4294967296)+f*4294967296*(m / 4294967296)=f*m:=by
     rw[Nat.mul_assoc,<-Nat.mul_add,Nat.add_comm,hd]
    have e4:2^s*(f*(x.getD i 0).toNat)=f*m:=by rw[<-hm,Nat.mul_left_comm,Nat.mul_comm (2^s)]
    rw[e4,Nat.mul_add]
    omega
 exact I (hi - lo) 0 (0,u) (by omega) ⟨rfl,rfl,fun _ _=>rfl,Nat.two_pow_pos s,by simp[val]⟩
theorem zt (u x:Q0) (s:Nat) (hs:s<32) (j:u.length<=4611686018427387904) (hx:x.length<=u.length) (t:2^s*val x<4294967296^u.length) :
  ∃f,F.JH u 0 u.length x (s:Int)=some f/\f.length=u.length/\val f=2^s*val x:=by
 obtain⟨c,f,k,i,r3,z,o,g⟩:=Fj u x 0 u.length s hs (Nat.zero_le _) (Nat.le_refl _) j (by omega)
 dsimp only at i o g
 rw[Nat.sub_zero,List.drop_zero,List.take_of_length_le (by omega),List.take_of_length_le hx]at g
 refine⟨f,k,i,?_⟩
 rcases Nat.eq_zero_or_pos c.toNat with h | h
 ·rw[h]at g; omega
 ·have:=Nat.le_mul_of_pos_right (4294967296^u.length) h
  omega
theorem pH (u:Q0) (s:Nat) (hs:s<32) (O:u.length<=4611686018427387904):∃f,F.KJ u (s:Int)=some f/\f.length=u.length/\val f=val u / 2^s:=by
 have t:=jE hs
 have M:∀i,(val u / 2^s) / 4294967296^i%4294967296=((u.getD i 0).toNat+4294967296*(u.getD (i+1) 0).toNat) / 2^s%4294967296:=by
  intro i
  rw[Nat.div_div_eq_div_mul,Nat.mul_comm,<-Nat.div_div_eq_div_mul,fw,cq,cq]
  have:(u.getD i 0).toNat+4294967296*((u.getD (i+1) 0).toNat+4294967296*val (u.drop (i+1+1)))=((u.getD i 0).toNat+4294967296*(u.getD (i+1) 0).toNat)+2^s*(4294967296*(2^(32 - s)*val (u.drop (i+1+1)))):=by
   have:2^s*(4294967296*(2^(32 - s)*val (u.drop (i+1+1))))=4294967296*(4294967296*val (u.drop (i+1+1))):=by
    rw[Nat.mul_left_comm,<-Nat.mul_assoc (2^s),t]
   rw[this,Nat.mul_add]; omega
  rw[this,Nat.add_mul_div_left _ _ (Nat.two_pow_pos s),Nat.add_mul_mod_self_left]
 have A:∀(k i:Nat) (o:Q0),i+k=u.length->o.length=u.length->(∀j,i<=j->o.getD j 0=u.getD j 0)->val (o.take i)=(val u / 2^s)%4294967296^i ->
   ∃f,loop (F.Ja u (s:Int)) ((i:Int),o)=some f/\f.length=u.length/\val f=val u / 2^s:=by
  intro k
  induction k with
  | zero=>
   intro i o hi h _ g
   have:i=u.length:=by omega
   subst this
   refine⟨o,bu ?_,h,?_⟩
   ·unfold F.Ja
    dsimp only
    rw[if_neg (by rw[decide_eq_true_eq]; omega)]
   ·rw[List.take_of_length_le (by omega)]at g
    rw[g,Nat.mod_eq_of_lt]
    exact Nat.lt_of_le_of_lt (Nat.div_le_self _ _) (bD u)
  | succ k ih=>
   intro i o hi h hg g
   have B:wI ((i:Int)+1)=((i+1:Nat):Int):=by rw[aI (by omega) (by omega)]; rfl
   obtain⟨z,G⟩:∃z,(aP ((u.getD i 0).toUInt64 ||| (aF (u.getD (i+1) 0).toUInt64 32)) s).toUInt32=z:=⟨_,rfl⟩
   have I:z.toNat=((u.getD i 0).toNat+4294967296*(u.getD (i+1) 0).toNat) / 2^s%4294967296:=by
    rw[<-G,fe,dI,qG,Nat.min_eq_left (by omega)]
   have J:∀v:UInt64,v=((u.getD i 0).toUInt64 ||| (aF (u.getD (i+1) 0).toUInt64 32))->F.Jp (s:Int) (i:Int) o v=some (.inl (((i+1:Nat):Int),o.set i z)):=by
    rintro v rfl
    unfold F.Jp
    dsimp only
    rw[grd_true _ (by omega),aT (show i<o.length by omega) 0,ae,aV,Int.toNat_natCast,Int.toNat_natCast,G,B]; rfl
   have K:F.Ja u (s:Int) ((i:Int),o)=some (.inl (((i+1:Nat):Int),o.set i z)):=by
    unfold F.Ja
    dsimp only
    rw[if_pos (decide_eq_true (by omega)),aT (show i<o.length by omega) 0,ae,B,hg i (Nat.le_refl _)]
    by_cases hb:i+1<o.length
    ·rw[if_pos (decide_eq_true (by omega)),aT hb 0,ae,aV,hg (i+1) (by omega),J _ rfl]
    ·rw[if_neg (by rw[decide_eq_true_eq]; omega),J _ (by
      apply UInt64.toNat_inj.1
      rw[qG,dY (a:=u) (i:=i+1) (by omega),bY]; rfl)]
   rw[bB K]
   refine ih (i+1) (o.set i z) (by omega) (by simpa using h) (fun j R=>by rw[dB (by omega)]; exact hg j (by omega)) ?_
   have N:(o.set i z).getD i 0=z:=by
    rw[List.getD_eq_getElem?_getD,List.getElem?_set_self (by omega)]; rfl
   rw[bM,N,List.take_set_of_le (by omega),g,Nat.mod_pow_succ,M i,I]
 exact A u.length 0 u (by omega) rfl (fun _ _=>rfl) (by simp[val,Nat.mod_one])
theorem sw (u v:Q0) (hl:u.length=v.length) (o:u.length<=4611686018427387904):F.Iz u v=some (decide (val u<val v)):=by
 have g:∀k:Nat,k<=u.length->val (u.drop k)=val (v.drop k)->loop (F.Hq u v) ((k:Int) - 1)=some (decide (val u<val v)):=by
  intro k
  induction k with
  | zero=>
   intro _ h
   rw[List.drop_zero,List.drop_zero]at h
   refine bu ?_
   unfold F.Hq
   dsimp only
   rw[if_neg (by decide),decide_eq_false (by omega)]
  | succ k ih=>
   intro t h
   have i:(((k+1:Nat):Int)) - 1=(k:Int):=by omega
   have w:wI ((k:Int) - 1)=(k:Int) - 1:=aI (by omega) (by omega)
   rw[i]
   by_cases hne:u.getD k 0=v.getD k 0
   ·have f:F.Hq u v (k:Int)=some (.inl ((k:Int) - 1)):=by
     unfold F.Hq
     dsimp only
     rw[if_pos (decide_eq_true (by omega)),aT (show k<u.length by omega) 0,ae,aT (show k<v.length by omega) 0,ae,if_neg (by rw[hne]; simp),w]; rfl
    rw[bB f]
    refine ih (by omega) ?_
    rw[cq u k,cq v k,h,hne]
   ·have f:F.Hq u v (k:Int)=bz (some (decide (u.getD k 0<v.getD k 0))):=by
     unfold F.Hq
     dsimp only
     rw[if_pos (decide_eq_true (by omega)),aT (show k<u.length by omega) 0,ae,aT (show k<v.length by omega) 0,ae,if_pos (by rw[bne_iff_ne]; exact hne),ae,ae]
    rw[bu f]
    congr 1
    by_cases hlt:u.getD k 0<v.getD k 0
    ·rw[decide_eq_true hlt,decide_eq_true (oR u v k h (UInt32.lt_iff_toNat_lt.1 hlt))]
    ·have j:(v.getD k 0).toNat<(u.getD k 0).toNat:=by
      have z:¬(u.getD k 0).toNat<(v.getD k 0).toNat:=fun q=>hlt (UInt32.lt_iff_toNat_lt.2 q)
      have A:(u.getD k 0).toNat≠(v.getD k 0).toNat:=fun q=>hne (UInt32.toNat_inj.1 q)
      omega
     have:=oR v u k h.symm j
     rw[decide_eq_false hlt,decide_eq_false (by omega)]
 unfold F.Iz
 rw[aV,aI (by omega) (by omega)]
 exact g u.length (Nat.le_refl _) (by rw[List.drop_of_length_le (by omega),List.drop_of_length_le (by omega)])
end Go.Gk.Bn
end

section
namespace Go.Gk.Bn
open Go Go.Gk Go.Gk.Sh
theorem AM (v a:Q0) (f o i:UInt32) (h K z V':Nat) (hn:2<=v.length) (ha:v.length<=a.length) (hs:v.length<=70368744177664)
  (M:v.getD (v.length - 1) 0=f) (N:v.getD (v.length - 2) 0=o) (V:a.getD (v.length - 2) 0=i) (X:val v=(f.toNat*4294967296+o.toNat)*K+V') (Y:z<K) (bx:V'<K) (b2:1<=f.toNat)
  (Z:(h*4294967296+i.toNat)*K+z<4294967296*val v) (hh:h<=f.toNat*4294967296+4294967295) :
  ∀(m:Nat) (g r:UInt64),g.toNat=m->h=g.toNat*f.toNat+r.toNat->r.toNat<=4294967295->(h*4294967296+i.toNat)*K+z<(g.toNat+1)*val v ->
   ∃t:UInt64,loop (F.Hz a v) (g,r)=some t/\t.toNat<=4294967295/\(h*4294967296+i.toNat)*K+z<(t.toNat+1)*val v:=by
 have x1:=cn f; have x2:=cn o; have x3:=cn i
 have w1:wI ((v.length:Int) - 1)=((v.length - 1:Nat):Int):=by rw[aI (by omega) (by omega)]; omega
 have w2:wI ((v.length:Int) - 2)=((v.length - 2:Nat):Int):=by rw[aI (by omega) (by omega)]; omega
 intro m
 induction m using Nat.strongRecOn with
 | ind m ih=>
  intro g r hm I hr ab
  have A:F.Hz a v (g,r)=F.H2 v g r true->(4294967296<=g.toNat\/r.toNat*4294967296+i.toNat<g.toNat*o.toNat) ->
    ∃t:UInt64,loop (F.Hz a v) (g,r)=some t/\t.toNat<=4294967295/\(h*4294967296+i.toNat)*K+z<(t.toNat+1)*val v:=by
   intro j G
   have ac:1<=g.toNat:=by
    rcases Nat.eq_zero_or_pos g.toNat with O | O
    ·rw[O]at G; omega
    ·exact O
   have J:(g - 1).toNat=g.toNat - 1:=by
    rw[UInt64.toNat_sub_of_le _ _ (by rw[UInt64.le_iff_toNat_le]; exact ac)]; rfl
   have ad:(r+f.toUInt64).toNat=r.toNat+f.toNat:=by rw[gE _ _ (by rw[bY]; omega),bY]
   have hd:=uk (K:=K) (V':=V') I Y G (by rw[<-X]; exact Z)
   rw[<-X]at hd
   obtain⟨k,R⟩:∃k,g.toNat=k+1:=⟨g.toNat - 1,by omega⟩
   have U:h=(g - 1).toNat*f.toNat+(r+f.toUInt64).toNat:=by
    rw[J,ad,I,R,Nat.add_sub_cancel,Nat.add_mul]; omega
   have B:(h*4294967296+i.toNat)*K+z<((g - 1).toNat+1)*val v:=by
    rw[J,R,Nat.add_sub_cancel,<-R]; exact hd
   unfold F.H2 at j
   rw[if_pos rfl,w1,aT (show v.length - 1<v.length by omega) 0,ae,M]at j
   by_cases hb:4294967296<=(r+f.toUInt64).toNat
   ·rw[if_pos (decide_eq_true (by rw[UInt64.le_iff_toNat_le]; exact hb))]at j
    have b3:(g - 1).toNat<4294967296:=by
     have:(g - 1).toNat*f.toNat<4294967296*f.toNat:=by omega
     exact Nat.lt_of_mul_lt_mul_right this
    exact⟨g - 1,bu j,by omega,B⟩
   ·rw[if_neg (by simp only[decide_eq_true_eq,UInt64.le_iff_toNat_le]; exact hb)]at j
    obtain⟨t,q1,q2⟩:=ih (g - 1).toNat (by omega) (g - 1) (r+f.toUInt64) rfl U (by omega) B
    exact⟨t,(bB j).trans q1,q2⟩
  by_cases hg:4294967296<=g.toNat
  ·refine A ?_ (.inl hg)
   unfold F.Hz
   dsimp only
   rw[if_pos (decide_eq_true (by rw[UInt64.le_iff_toNat_le]; exact hg))]
  ·have e1:((aF r 32) ||| i.toUInt64).toNat=4294967296*r.toNat+i.toNat:=vt _ _ hr
   have hp:=Nat.mul_le_mul (show g.toNat<=4294967295 by omega) (show o.toNat<=4294967295 by omega)
   have e2:(g*o.toUInt64).toNat=g.toNat*o.toNat:=by rw[oB _ _ (by rw[bY]; omega),bY]
   have j:F.Hz a v (g,r)=F.H2 v g r (decide (((aF r 32) ||| i.toUInt64)<(g*o.toUInt64))):=by
    unfold F.Hz
    dsimp only
    rw[if_neg (by simp only[decide_eq_true_eq,UInt64.le_iff_toNat_le]; exact hg),w2,aT (show v.length - 2<v.length by omega) 0,ae,aT (show v.length - 2<a.length by omega) 0,ae,N,V]
   by_cases G:r.toNat*4294967296+i.toNat<g.toNat*o.toNat
   ·rw[show decide (((aF r 32) ||| i.toUInt64)<(g*o.toUInt64))=true from decide_eq_true (by rw[UInt64.lt_iff_toNat_lt,e1,e2]; omega)]at j
    exact A j (.inr G)
   ·rw[show decide (((aF r 32) ||| i.toUInt64)<(g*o.toUInt64))=false from decide_eq_false (by rw[UInt64.lt_iff_toNat_lt,e1,e2]; omega)]at j
    unfold F.H2 at j
    rw[if_neg (by decide)]at j
    exact⟨g,bu j,by omega,ab⟩
theorem wF (v a:Q0) (hn:2<=v.length) (ha:a.length=v.length+1) (hs:v.length<=70368744177664) (Y:2147483648<=(v.getD (v.length - 1) 0).toNat) (ap:val a<4294967296*val v) :
  ∃g:UInt64,F.LK a v=some g/\g.toNat<=4294967295/\val a<(g.toNat+1)*val v:=by
 obtain⟨f,z⟩:∃f,v.getD (v.length - 1) 0=f:=⟨_,rfl⟩
 obtain⟨o,I⟩:∃o,v.getD (v.length - 2) 0=o:=⟨_,rfl⟩
 obtain⟨j,J⟩:∃j,a.getD (v.length) 0=j:=⟨_,rfl⟩
 obtain⟨t,M⟩:∃t,a.getD (v.length - 1) 0=t:=⟨_,rfl⟩
 obtain⟨k,N⟩:∃k,a.getD (v.length - 2) 0=k:=⟨_,rfl⟩
 rw[z]at Y
 have x1:=cn f; have x2:=cn o; have y0:=cn j; have y1:=cn t; have y2:=cn k
 have eV:val v=(f.toNat*4294967296+o.toNat)*4294967296^(v.length - 2)+val (v.take (v.length - 2)):=by
  have:=dz v (v.length - 2) (by omega)
  rw[cq,show v.length - 2+1=v.length - 1 by omega,cq,show v.length - 1+1=v.length by omega,List.drop_length,eh,z,I]at this
  rw[this,Nat.mul_zero,Nat.add_zero,Nat.mul_comm (4294967296^_),Nat.add_comm o.toNat,Nat.mul_comm 4294967296 f.toNat]
  omega
 have B:val (v.take (v.length - 2))<4294967296^(v.length - 2):=by
  have:=bD (v.take (v.length - 2))
  rwa [List.length_take,Nat.min_eq_left (by omega)]at this
 obtain⟨K,Z⟩:∃K,4294967296^(v.length - 2)=K:=⟨_,rfl⟩
 obtain⟨A,O⟩:∃A,val (a.take (v.length - 2))=A:=⟨_,rfl⟩
 have ab:A<K:=by
  have:=bD (a.take (v.length - 2))
  rw[List.length_take,Nat.min_eq_left (by omega)]at this
  rw[<-O,<-Z]; exact this
 obtain⟨h,hh⟩:∃h,j.toNat*4294967296+t.toNat=h:=⟨_,rfl⟩
 have eU:val a=(h*4294967296+k.toNat)*K+A:=by
  have G:=dz a (v.length - 2) (by omega)
  rw[cq a (v.length - 2),show v.length - 2+1=v.length - 1 by omega,cq a (v.length - 1),show v.length - 1+1=v.length by omega,cq a v.length,List.drop_of_length_le (l:=a) (i:=v.length+1) (by omega),eh,O,Z,J,M,N]at G
  rw[G,<-hh,Nat.mul_zero,Nat.add_zero,Nat.mul_comm K]
  have:k.toNat+4294967296*(t.toNat+4294967296*j.toNat)=(j.toNat*4294967296+t.toNat)*4294967296+k.toNat:=by omega
  rw[this]; omega
 rw[Z]at eV B
 have ac:(h*4294967296+k.toNat)*K+A<4294967296*val v:=by rw[<-eU]; exact ap
 have b3:j.toNat<=f.toNat:=by
  rcases Nat.lt_or_ge f.toNat j.toNat with G | G
  ·exfalso
   have a1:(f.toNat*4294967296+o.toNat+1)*K<=(j.toNat*4294967296)*K:=Nat.mul_le_mul_right _ (by omega)
   have a2:val v<(f.toNat*4294967296+o.toNat+1)*K:=by rw[eV,Nat.add_mul (f.toNat*4294967296+o.toNat) 1 K,Nat.one_mul]; exact Nat.add_lt_add_left B _
   have a4:=Nat.mul_le_mul_right K (show 4294967296*(j.toNat*4294967296)<=h*4294967296+k.toNat by omega)
   rw[Nat.mul_assoc 4294967296]at a4
   omega
  ·exact G
 have R:¬f.toUInt64=0:=by
  intro h0
  have:=congrArg UInt64.toNat h0
  rw[bY]at this
  simp at this
  omega
 obtain⟨H,hH⟩:∃H,(aF j.toUInt64 32) ||| t.toUInt64=H:=⟨_,rfl⟩
 have U:H.toNat=h:=by rw[<-hH,tP,<-hh]; omega
 have V:(H / f.toUInt64).toNat=h / f.toNat:=by rw[UInt64.toNat_div,bY,U]
 have X:(H%f.toUInt64).toNat=h%f.toNat:=by rw[UInt64.toNat_mod,bY,U]
 have b8:=Nat.div_add_mod h f.toNat
 have b9:=Nat.mod_lt h (show 0<f.toNat by omega)
 obtain⟨g,hg,g1,g2⟩:=AM v a f o k h K A (val (v.take (v.length - 2))) hn (by omega) hs z I N eV ab B (by omega) ac (by omega) _ (H / f.toUInt64) (H%f.toUInt64) rfl
  (by rw[V,X,Nat.mul_comm]; omega) (by rw[X]; omega) (by
   rw[V]
   have a1:h+1<=(h / f.toNat+1)*f.toNat:=by rw[Nat.add_mul,Nat.mul_comm (h / f.toNat)]; omega
   have a2:(h+1)*(4294967296*K)<=(h / f.toNat+1)*f.toNat*(4294967296*K):=Nat.mul_le_mul_right _ a1
   have a3:(h / f.toNat+1)*(f.toNat*(4294967296*K))<=(h / f.toNat+1)*val v:=by
    refine Nat.mul_le_mul_left _ ?_
    rw[eV,Nat.add_mul,Nat.mul_assoc]; omega
   have a4:(h*4294967296+k.toNat+1)*K<=(h+1)*(4294967296*K):=by
    rw[<-Nat.mul_assoc]; exact Nat.mul_le_mul_right _ (by omega)
   rw[Nat.add_mul (h*4294967296+k.toNat) 1 K,Nat.one_mul]at a4
   rw[Nat.mul_assoc]at a2
   omega)
 refine⟨g,?_,g1,by rw[eU]; exact g2⟩
 have w1:wI ((v.length:Int) - 1)=((v.length - 1:Nat):Int):=by rw[aI (by omega) (by omega)]; omega
 unfold F.LK
 rw[aT (show v.length<a.length by omega) 0,ae,w1,aT (show v.length - 1<a.length by omega) 0,ae,aV,J,M,hH,aT (show v.length - 1<v.length by omega) 0,ae,z,grd_true _ R,ae,grd_true _ R,hg]
def PtI (g:UInt64) (v p:Q0) (i:Nat) (s:UInt64×Q0):Prop:=
 s.2.length=p.length/\s.1.toNat<=4294967295/\val (s.2.take i)+4294967296^i*s.1.toNat=g.toNat*val (v.take i)
theorem xm (v u q p:Q0) (j:Int) (g:UInt64) (hg:g.toNat<=4294967295) (hp:p.length=v.length+1) (hv:v.length<=4611686018427387900) :
  ∃p':Q0,p'.length=v.length+1/\val p'=g.toNat*val v/\loop (F.HC v j u q g) (0,0,p) =
   ah (slO u j (wI ((wI (j+(v.length:Int)))+1):Int)) fun h=>ah (F.Iz h p') fun o=>
    if (!o)=true then (bz (ah (slO u j (wI ((wI (j+(v.length:Int)))+1):Int)) fun B=>ah (F.HJ u j.toNat ((wI ((wI (j+(v.length:Int)))+1):Int).toNat) p') fun z=>
     ah (aC q j) fun G=>bq (q.set j.toNat g.toUInt32) fun A=>bN (wI (j - 1),z.2,A,p'))) else bN (g - 1,p'):=by
 have K:∀(k i:Nat) (s:UInt64×Q0),i+k=v.length->PtI g v p i s->∃p':Q0,p'.length=v.length+1/\val p'=g.toNat*val v/\loop (F.HC v j u q g) (s.1,(i:Int),s.2) =
   ah (slO u j (wI ((wI (j+(v.length:Int)))+1):Int)) fun h=>ah (F.Iz h p') fun o=>
    if (!o)=true then (bz (ah (slO u j (wI ((wI (j+(v.length:Int)))+1):Int)) fun B=>ah (F.HJ u j.toNat ((wI ((wI (j+(v.length:Int)))+1):Int).toNat) p') fun z=>
     ah (aC q j) fun G=>bq (q.set j.toNat g.toUInt32) fun A=>bN (wI (j - 1),z.2,A,p'))) else bN (g - 1,p'):=by
  intro k
  induction k with
  | zero=>
   intro i s hi hs
   obtain⟨M,V,I⟩:=hs
   have:i=v.length:=by omega
   subst this
   refine⟨s.2.set v.length s.1.toUInt32,by simp; omega,?_,bu ?_⟩
   ·have X:(s.2.set v.length s.1.toUInt32)=(s.2.set v.length s.1.toUInt32).take (v.length+1):=by rw[List.take_of_length_le (by simp; omega)]
    have J:(s.2.set v.length s.1.toUInt32).getD v.length 0=s.1.toUInt32:=by
     rw[List.getD_eq_getElem?_getD,List.getElem?_set_self (by omega)]; rfl
    rw[X,bM,J,List.take_set_of_le (by omega),fe,Nat.mod_eq_of_lt (by omega),I,List.take_of_length_le (Nat.le_refl _)]
   ·unfold F.HC
    dsimp only
    rw[if_neg (by rw[decide_eq_true_eq]; omega),aT (show v.length<s.2.length by omega) 0,ae,aV,Int.toNat_natCast]
  | succ k ih=>
   intro i s hi hs
   obtain⟨M,V,I⟩:=hs
   have Y:wI ((i:Int)+1)=((i+1:Nat):Int):=by rw[aI (by omega) (by omega)]; rfl
   obtain⟨t,N⟩:∃t,s.1+(g*(v.getD i 0).toUInt64)=t:=⟨_,rfl⟩
   have O:F.HC v j u q g (s.1,(i:Int),s.2)=some (.inl (aP t 32,((i+1:Nat):Int),s.2.set i t.toUInt32)):=by
    unfold F.HC
    dsimp only
    rw[if_pos (decide_eq_true (by omega)),aT (show i<v.length by omega) 0,ae,aV,N,aT (show i<s.2.length by omega) 0,ae,aV,Y,Int.toNat_natCast]; rfl
   rw[bB O]
   have x2:=cn (v.getD i 0)
   have ap:=Nat.mul_le_mul hg (show (v.getD i 0).toNat<=4294967295 by omega)
   have R:(g*(v.getD i 0).toUInt64).toNat=g.toNat*(v.getD i 0).toNat:=by rw[oB _ _ (by rw[bY]; omega),bY]
   have Z:t.toNat=s.1.toNat+g.toNat*(v.getD i 0).toNat:=by rw[<-N,gE _ _ (by rw[R]; omega),R]
   have U:(aP t 32).toNat=t.toNat / 4294967296:=by rw[dI]; rfl
   refine ih (i+1) (aP t 32,s.2.set i t.toUInt32) (by omega) ⟨by simpa using M,by show (aP t 32).toNat<=_; rw[U]; omega,?_⟩
   show val ((s.2.set i t.toUInt32).take (i+1))+_*(aP t 32).toNat=_
   have J:(s.2.set i t.toUInt32).getD i 0=t.toUInt32:=by
    rw[List.getD_eq_getElem?_getD,List.getElem?_set_self (by omega)]; rfl
   rw[bM,J,List.take_set_of_le (by omega),fe,bM v i,Nat.mul_add,<-I,U,Nat.pow_succ]
   obtain⟨f,hP⟩:∃f,(4294967296:Nat)^i=f:=⟨_,rfl⟩
   rw[hP]
   have hd:=Nat.div_add_mod t.toNat 4294967296
   have e3:f*(t.toNat%4294967296)+f*4294967296*(t.toNat / 4294967296)=f*t.toNat:=by
    rw[Nat.mul_assoc,<-Nat.mul_add,Nat.add_comm,hd]
   have e4:f*t.toNat=f*s.1.toNat+f*(g.toNat*(v.getD i 0).toNat):=by rw[Z,Nat.mul_add]
   have e5:g.toNat*(f*(v.getD i 0).toNat)=f*(g.toNat*(v.getD i 0).toNat):=by rw[Nat.mul_left_comm]
   rw[e5]
   omega
 exact K v.length 0 (0,p) (by omega) ⟨rfl,Nat.zero_le _,by simp[val]⟩
theorem yb (v u q:Q0) (j:Nat) (hj:j+v.length<u.length) (hq:j<q.length) (a5:u.length<=4611686018427387900) (a6:q.length<=4611686018427387900) (A:0<val v) (hu:val u<4294967296^(j+1)*val v) :
  ∀(m:Nat) (g:UInt64) (p:Q0),g.toNat=val u / 4294967296^j / val v+m->g.toNat<=4294967295->p.length=v.length+1 ->
   ∃(d:UInt64) (o f:Q0),loop (F.IB v (j:Int) u q) (g,p)=some (.inl ((j:Int) - 1,o,q.set j d.toUInt32,f))/\f.length=v.length+1/\o.length=u.length/\d.toNat<=4294967295 /\
    val o+4294967296^j*(d.toNat*val v)=val u/\val o<4294967296^j*val v:=by
 have U:=bD v
 have B:val u<4294967296^(j+v.length+1):=by
  have:=Nat.mul_lt_mul_of_pos_left U (Nat.pow_pos (n:=j+1) (show 0<4294967296 by decide))
  rw[<-Nat.pow_add,show j+1+v.length=j+v.length+1 by omega]at this
  omega
 have V:wI ((wI ((j:Int)+(v.length:Int)))+1)=((j+v.length+1:Nat):Int):=by
  rw[aI (x:=(j:Int)+(v.length:Int)) (by omega) (by omega),aI (by omega) (by omega)]; omega
 have wk:wI ((j:Int) - 1)=(j:Int) - 1:=aI (by omega) (by omega)
 have G:slO u (j:Int) ((j+v.length+1:Nat):Int)=some ((u.drop j).take (j+v.length+1 - j)):=qB (by omega) (by omega)
 have bx:((u.drop j).take (j+v.length+1 - j)).length=v.length+1:=by rw[List.length_take,List.length_drop]; omega
 have I:val ((u.drop j).take (j+v.length+1 - j))=val u / 4294967296^j:=by
  rw[fw]
  have:=dz (u.drop j) (v.length+1) (by rw[List.length_drop]; omega)
  rw[List.drop_drop,show j+(v.length+1)=j+v.length+1 by omega,iY B,Nat.mul_zero,Nat.add_zero]at this
  rw[show j+v.length+1 - j=v.length+1 by omega,this]
 obtain⟨M,k⟩:∃M,val u / 4294967296^j=M:=⟨_,rfl⟩
 have K:=Nat.pow_pos (n:=j) (show 0<4294967296 by decide)
 intro m
 induction m with
 | zero=>
  intro g p i hg N
  rw[Nat.add_zero,k]at i
  obtain⟨f,O,t,R⟩:=xm v u q p (j:Int) g hg N (by omega)
  have X:g.toNat*val v<=M:=by rw[i]; exact Nat.div_mul_le_self _ _
  have z:=Nat.div_mul_le_self (val u) (4294967296^j)
  rw[k,Nat.mul_comm]at z
  have Y:=Nat.lt_div_mul_add K (a:=val u)
  rw[k,Nat.mul_comm]at Y
  obtain⟨c,o,t1,t2,Z⟩:=vi u f j (j+v.length+1) (by omega) (by omega) (by omega) (by omega) B (by rw[t]; exact Nat.le_trans (Nat.mul_le_mul_left _ X) z)
  refine⟨g,o,f,?_,O,t2,hg,by rw[<-t]; exact Z,?_⟩
  ·refine bu ?_
   unfold F.IB
   dsimp only
   rw[R,V,G,ae,sw _ _ (by omega) (by omega),ae,I,k,t,decide_eq_false (by omega),if_pos (by rfl),ae,Int.toNat_natCast,Int.toNat_natCast,t1,ae,aT hq 0,ae,aV,wk]
   rfl
  ·have h1:M<(g.toNat+1)*val v:=by
    rw[i]
    have:=Nat.lt_div_mul_add A (a:=M)
    rw[Nat.add_mul,Nat.one_mul]; exact this
   rw[Nat.add_mul,Nat.one_mul]at h1
   have h2:=Nat.mul_le_mul_left (4294967296^j) (show M+1<=g.toNat*val v+val v by omega)
   rw[Nat.mul_add,Nat.mul_one,Nat.mul_add]at h2
   rw[t]at Z
   omega
 | succ m ih=>
  intro g p i hg N
  rw[k]at i
  obtain⟨f,O,t,R⟩:=xm v u q p (j:Int) g hg N (by omega)
  have J:M<g.toNat*val v:=by
   rcases Nat.lt_or_ge M (g.toNat*val v) with h | h
   ·exact h
   ·have:=(Nat.le_div_iff_mul_le A).2 h
    omega
  have ab:1<=g.toNat:=by
   rcases Nat.eq_zero_or_pos g.toNat with h | h
   ·rw[h,Nat.zero_mul]at J; omega
   ·exact h
  have ac:(g - 1).toNat=g.toNat - 1:=by
   rw[UInt64.toNat_sub_of_le _ _ (by rw[UInt64.le_iff_toNat_le]; exact ab)]; rfl
  have ad:F.IB v (j:Int) u q (g,p)=some (.inl (g - 1,f)):=by
   unfold F.IB
   dsimp only
   rw[R,V,G,ae,sw _ _ (by omega) (by omega),ae,I,k,t,decide_eq_true J,if_neg (by decide)]
   rfl
  rw[bB ad]
  exact ih (g - 1) f (by rw[ac,k]; omega) (by omega) O
theorem yI (s:Int) (v u q p:Q0) (j:Nat) (hn:2<=v.length) (o:2147483648<=(v.getD (v.length - 1) 0).toNat) (M:j+v.length<u.length) (N:j<q.length) (Z:u.length<=70368744177664) (ab:q.length<=70368744177664) (O:p.length=v.length+1) (i:0<val v) (t:val u<4294967296^(j+1)*val v) :
  ∃(d:UInt64) (f h:Q0),F.Ii s v ((j:Int),u,q,p)=some (.inl ((j:Int) - 1,f,q.set j d.toUInt32,h))/\h.length=v.length+1/\f.length=u.length/\d.toNat<=4294967295 /\
    val f+4294967296^j*(d.toNat*val v)=val u/\val f<4294967296^j*val v:=by
 have B:=bD v
 have G:val u<4294967296^(j+v.length+1):=by
  have:=Nat.mul_lt_mul_of_pos_left B (Nat.pow_pos (n:=j+1) (show 0<4294967296 by decide))
  rw[<-Nat.pow_add,show j+1+v.length=j+v.length+1 by omega]at this
  omega
 have R:wI ((wI ((j:Int)+(v.length:Int)))+1)=((j+v.length+1:Nat):Int):=by
  rw[aI (x:=(j:Int)+(v.length:Int)) (by omega) (by omega),aI (by omega) (by omega)]; omega
 have I:slO u (j:Int) ((j+v.length+1:Nat):Int)=some ((u.drop j).take (j+v.length+1 - j)):=qB (by omega) (by omega)
 have J:((u.drop j).take (j+v.length+1 - j)).length=v.length+1:=by rw[List.length_take,List.length_drop]; omega
 have k:val ((u.drop j).take (j+v.length+1 - j))=val u / 4294967296^j:=by
  rw[fw]
  have:=dz (u.drop j) (v.length+1) (by rw[List.length_drop]; omega)
  rw[List.drop_drop,show j+(v.length+1)=j+v.length+1 by omega,iY G,Nat.mul_zero,Nat.add_zero]at this
  rw[show j+v.length+1 - j=v.length+1 by omega,this]
 have z:=Nat.pow_pos (n:=j) (show 0<4294967296 by decide)
 have A:val u / 4294967296^j<4294967296*val v:=by
  rw[Nat.div_lt_iff_lt_mul z,Nat.mul_comm]
  rw[Nat.pow_succ,Nat.mul_assoc]at t
  exact t
 obtain⟨g,U,V,K⟩:=wF v _ hn J (by omega) o (by rw[k]; exact A)
 rw[k]at K
 have ac:val u / 4294967296^j / val v<=g.toNat:=by
  have:=(Nat.div_lt_iff_lt_mul i).2 K
  omega
 obtain⟨d,f,h,X,Y⟩:=yb v u q j M N (by omega) (by omega) i t (g.toNat - val u / 4294967296^j / val v) g p (by omega) V O
 refine⟨d,f,h,?_,Y⟩
 unfold F.Ii
 dsimp only
 rw[if_pos (decide_eq_true (by omega)),R,I,ae,U,ae,X]
theorem Aq (s:Nat) (v:Q0) (A:Nat) (hn:2<=v.length) (t:2147483648<=(v.getD (v.length - 1) 0).toNat) (hs:s<32) (o:0<val v) :
  ∀(k:Nat) (u q p:Q0),k+v.length<=u.length->k<=q.length->u.length<=70368744177664->q.length<=70368744177664->p.length=v.length+1->(∀i,i<k->q.getD i 0=0)->val q*val v+val u=A->val u<4294967296^k*val v ->
   ∃g f:Q0,loop (F.Ii (s:Int) v) ((k:Int) - 1,u,q,p)=some (g,(f,v.length))/\g.length=q.length/\f.length=u.length/\val g=A / val v/\val f=A%val v / 2^s:=by
 intro k
 induction k with
 | zero=>
  intro u q p M N I z J B j h
  rw[Nat.pow_zero,Nat.one_mul]at h
  have O:A / val v=val q:=by rw[<-j,Nat.add_comm,Nat.add_mul_div_right _ _ o,Nat.div_eq_of_lt h,Nat.zero_add]
  have R:A%val v=val u:=by rw[<-j,Nat.add_comm,Nat.add_mul_mod_self_right,Nat.mod_eq_of_lt h]
  obtain⟨f,U,V,X⟩:=pH u s hs (by omega)
  refine⟨q,f,bu ?_,rfl,V,O.symm,by rw[R]; exact X⟩
  unfold F.Ii
  dsimp only
  rw[if_neg (by decide),U,ae,Int.toNat_natCast,grd_true _ ⟨by omega,by omega⟩]
 | succ k ih=>
  intro u q p M N I z J B j h
  have Y:(((k+1:Nat):Int)) - 1=(k:Int):=by omega
  obtain⟨d,f,Z,r1,rp,r2,r5,r3,r4⟩:=yI (s:Int) v u q p k hn t (by omega) (by omega) I z J o h
  rw[Y,bB r1]
  obtain⟨g,K,z1,z2,z3,z4⟩:=ih f (q.set k d.toUInt32) Z (by omega) (by simp; omega) (by omega) (by simpa using z) rp (fun i hi=>by rw[dB (by omega)]; exact B i (by omega)) (by
   have G:=ef q k d.toUInt32 (by omega)
   rw[B k (by omega)]at G
   have z0:(0:UInt32).toNat=0:=rfl
   rw[z0,Nat.mul_zero,Nat.add_zero]at G
   rw[G,fe,Nat.mod_eq_of_lt (by omega),Nat.add_mul,Nat.mul_assoc,<-j]
   omega) r4
  exact⟨g,K,z1,by simpa using z2,by omega,z4⟩
theorem Cz (n k:Nat):(List.replicate n (0:UInt32)).getD k 0=0:=by
 rw[List.getD_eq_getElem?_getD]
 by_cases hk:k<n <;> simp[hk]
theorem Bo (x y:Q0) (hy:2<=y.length) (t:y.getD (y.length - 1) 0≠0) (b8:y.length<=x.length) (hx:x.length<=50000000000000) :
  ∃q u:Q0,F.LC x y=some (q,(u,y.length))/\q.length<=x.length+1/\u.length=x.length+1/\val q=val x / val y/\val u=val x%val y:=by
 obtain⟨f,z⟩:∃f,y.getD (y.length - 1) 0=f:=⟨_,rfl⟩
 rw[z]at t
 have K:f.toNat≠0:=fun h=>t (UInt32.toNat_inj.1 h)
 obtain⟨b1,I⟩:=c9 f.toNat
 obtain⟨I,b3⟩:=I K
 have b4:nb f.toNat<=32:=gv (cn f)
 obtain⟨s,hs⟩:∃s,s=32 - nb f.toNat:=⟨_,rfl⟩
 have j:s<32:=by omega
 have M:F.K5 f=some (s:Int):=by
  unfold F.K5
  rw[ub,ae,aI (by omega) (by omega)]; congr 1; omega
 have B:val y=val (y.take (y.length - 1))+4294967296^(y.length - 1)*f.toNat:=by
  have:=bM y (y.length - 1)
  rw[show y.length - 1+1=y.length by omega,List.take_of_length_le (Nat.le_refl _),z]at this
  exact this
 have N:val (y.take (y.length - 1))<4294967296^(y.length - 1):=by
  have:=bD (y.take (y.length - 1))
  rwa [List.length_take,Nat.min_eq_left (by omega)]at this
 obtain⟨Q,k⟩:∃Q,(4294967296:Nat)^(y.length - 1)=Q:=⟨_,rfl⟩
 have O:(4294967296:Nat)^y.length=4294967296*Q:=by
  have e:(4294967296:Nat)^(y.length - 1+1)=4294967296^(y.length - 1)*4294967296:=Nat.pow_succ _ _
  rw[show y.length - 1+1=y.length by omega,k,Nat.mul_comm]at e
  exact e
 rw[k]at B N
 have R:2^s*(f.toNat+1)<=4294967296:=by
  have g:2^s*(f.toNat+1)<=2^s*2^nb f.toNat:=Nat.mul_le_mul_left _ b1
  rw[<-Nat.pow_add,show s+nb f.toNat=32 by omega]at g
  exact g
 have U:2147483648<=2^s*f.toNat:=by
  have g:2^s*2^(nb f.toNat - 1)<=2^s*f.toNat:=Nat.mul_le_mul_left _ I
  rw[<-Nat.pow_add,show s+(nb f.toNat - 1)=31 by omega]at g
  exact g
 have V:2^s*val y<4294967296^y.length:=by
  have g:val y<(f.toNat+1)*Q:=by rw[B,Nat.add_mul,Nat.one_mul,Nat.mul_comm Q]; omega
  have o:2^s*val y<2^s*((f.toNat+1)*Q):=Nat.mul_lt_mul_of_pos_left g (Nat.two_pow_pos s)
  rw[<-Nat.mul_assoc]at o
  have J:=Nat.mul_le_mul_right Q R
  rw[O]; omega
 have b9:2147483648*Q<=2^s*val y:=by
  have g:=Nat.mul_le_mul_right Q U
  have o:2^s*f.toNat*Q<=2^s*val y:=by
   rw[Nat.mul_assoc]; refine Nat.mul_le_mul_left _ ?_; rw[B,Nat.mul_comm]; omega
  omega
 have cm:0<Q:=by rw[<-k]; exact Nat.pow_pos (by decide)
 obtain⟨v,v1,X,A⟩:=zt (List.replicate y.length 0) y s j (by simp; omega) (by simp) (by rw[List.length_replicate]; exact V)
 have Y:2^s*val x<4294967296^(x.length+1):=by
  have g:=bD x
  have o:2^s<=4294967296:=Nat.le_of_lt (Nat.pow_lt_pow_right (a:=2) (m:=s) (n:=32) (by decide) j)
  have J:=Nat.mul_le_mul_right (val x) o
  rw[Nat.pow_succ]; omega
 obtain⟨u,u1,u2,Z⟩:=zt (List.replicate (x.length+1) 0) x s j (by simp; omega) (by simp) (by rw[List.length_replicate]; exact Y)
 rw[List.length_replicate]at X u2
 have G:2147483648<=(v.getD (v.length - 1) 0).toNat:=by
  have e:=bM v (v.length - 1)
  rw[show v.length - 1+1=v.length by omega,List.take_of_length_le (Nat.le_refl _),A]at e
  have hl:=bD (v.take (v.length - 1))
  rw[List.length_take,Nat.min_eq_left (by omega),show v.length - 1=y.length - 1 by omega,k]at hl
  rw[show v.length - 1=y.length - 1 by omega,k]at e
  rw[show v.length - 1=y.length - 1 by omega]
  rcases Nat.lt_or_ge (v.getD (y.length - 1) 0).toNat 2147483648 with h | h
  ·have:=Nat.mul_le_mul_left Q (show (v.getD (y.length - 1) 0).toNat<=2147483647 by omega)
   omega
  ·exact h
 have ab:0<val v:=by rw[A]; omega
 have hk:val u<4294967296^(x.length - y.length+1)*val v:=by
  rw[Z,A,Nat.mul_left_comm]
  refine Nat.mul_lt_mul_of_pos_left ?_ (Nat.two_pow_pos s)
  have g:=bD x
  have o:Q<=val y:=by rw[B]; have:=Nat.le_mul_of_pos_right Q (show 0<f.toNat by omega); omega
  have J:=Nat.mul_le_mul_left (4294967296^(x.length - y.length+1)) o
  rw[<-k,<-Nat.pow_add,show x.length - y.length+1+(y.length - 1)=x.length by omega]at J
  omega
 obtain⟨q',u',l1,l2,l3,l4,l5⟩:=Aq s v (2^s*val x) (by omega) G j ab (x.length - y.length+1) u (List.replicate (x.length - y.length+1) 0) (List.replicate (y.length+1) 0) (by omega) (by simp) (by omega) (by simp; omega) (by simp; omega)
  (fun i _=>Cz _ _) (by rw[dn,Z]; omega) hk
 rw[List.length_replicate]at l2
 refine⟨q',u',?_,by omega,by omega,?_,?_⟩
 rotate_left
 ·rw[l4,A,Nat.mul_div_mul_left _ _ (Nat.two_pow_pos s)]
 ·rw[l5,A,Nat.mul_mod_mul_left,Nat.mul_div_cancel_left _ (Nat.two_pow_pos s)]
 ·have w1:wI ((y.length:Int) - 1)=((y.length - 1:Nat):Int):=by rw[aI (by omega) (by omega)]; omega
  have w2:wI ((x.length:Int)+1)=((x.length+1:Nat):Int):=by rw[aI (by omega) (by omega)]; omega
  have w3:wI ((wI ((x.length:Int) - (v.length:Int)))+1)=((x.length - y.length+1:Nat):Int):=by
   rw[aI (x:=(x.length:Int) - (v.length:Int)) (by omega) (by omega),aI (by omega) (by omega)]; omega
  have w4:wI ((v.length:Int)+1)=((y.length+1:Nat):Int):=by rw[aI (by omega) (by omega)]; omega
  have w5:wI ((((x.length - y.length+1:Nat)):Int) - 1)=((x.length - y.length+1:Nat):Int) - 1:=aI (by omega) (by omega)
  unfold F.LC
  rw[w1,aT (show y.length - 1<y.length by omega) 0,ae,z,M,ae,dv (by omega),ae,Int.toNat_natCast,v1,ae,w2,dv (by omega),ae,Int.toNat_natCast,u1,ae,w3,dv (by omega),ae,
   w4,dv (by omega),ae,Int.toNat_natCast,Int.toNat_natCast,List.length_replicate,aV,w5,l1,X]
theorem wy (u:UInt64):F.Lr u=some (ao u.toNat):=by
 unfold F.Lr
 obtain⟨m,f,h,g⟩:=eo [u.toUInt32,(aP u 32).toUInt32] (by simp)
 have i:u.toNat<18446744073709551616:=u.toNat_lt
 have e:val [u.toUInt32,(aP u 32).toUInt32]=u.toNat:=by
  simp only[dg,eh,fe,dI]
  rw[show (2:Nat)^min 32 64=4294967296 from rfl]
  omega
 rw[f,ae,g,e]
theorem Ar {n:Nat} (h:(ao n).length≠0):(ao n).getD ((ao n).length - 1) 0≠0:=by
 intro g
 obtain⟨l,hl⟩:∃l,ao n=l:=⟨_,rfl⟩
 have i:val l=n:=by rw[<-hl,aw]
 rw[hl]at h g
 have e:=bM l (l.length - 1)
 have z0:(0:UInt32).toNat=0:=rfl
 rw[show l.length - 1+1=l.length by omega,List.take_of_length_le (Nat.le_refl _),g,z0,Nat.mul_zero,Nat.add_zero,i]at e
 have f:=bD (l.take (l.length - 1))
 rw[List.length_take,Nat.min_eq_left (by omega),<-e]at f
 have:=ba f
 rw[hl]at this
 omega
theorem jc (n:Nat):(ao n).length=0↔n=0:=by
 constructor
 ·intro h
  have:=aw n
  rw[List.eq_nil_of_length_eq_zero h]at this
  exact this.symm
 ·intro h; rw[h,bG]; rfl
theorem mU (a b:Q0) (ha:a.length<=40000000000000) (hb:b.length<=40000000000000):F.IK a b=some (if val b=0 then ([],[],60) else (ao (val a / val b),ao (val a%val b),0)):=by
 obtain⟨m,N,h2,O⟩:=dD a (by omega)
 obtain⟨m',R,h5,U⟩:=dD b (by omega)
 have la:(ao (val a)).length<=a.length:=ba (bD a)
 have lb:(ao (val b)).length<=b.length:=ba (bD b)
 unfold F.IK
 rw[N,ae,R,ae,O,U]
 by_cases hb0:val b=0
 ·rw[if_pos (by rw[hb0,bG]; rfl),if_pos hb0]
 ·have B:(ao (val b)).length≠0:=fun h=>hb0 ((jc _).1 h)
  rw[if_neg (by rw[beq_iff_eq]; omega),if_neg hb0,eN a b (by omega) (by omega),ae]
  unfold cD
  by_cases hl:val a<val b
  ·have G:apO 4 [] (ao (val a))=some (ao (val a)):=by unfold apO; rw[if_pos (by simp; omega)]; simp
   rw[if_pos hl,if_pos (by decide),G,ae,Nat.div_eq_of_lt hl,Nat.mod_eq_of_lt hl,bG]
  ·rw[if_neg hl,if_neg (by split <;> decide)]
   have I:(ao (val b)).length<=(ao (val a)).length:=da (by omega)
   have i:=Ar B
   by_cases h11:(ao (val b)).length=1
   ·have g:val b=((ao (val b)).getD 0 0).toNat:=by
     have e:=bM (ao (val b)) 0
     rw[Nat.zero_add,List.take_of_length_le (by omega),aw]at e
     simpa [val] using e
    obtain⟨q,r,j,V,o,f⟩:=z8 (ao (val a)) ((ao (val b)).getD 0 0) (by rw[<-g]; exact hb0) (by omega)
    rw[aw,<-g]at o f
    obtain⟨k,t,X,z⟩:=eo q (by omega)
    rw[if_pos (by rw[beq_iff_eq]; omega),show (0:Int)=((0:Nat):Int) from rfl,aT (show 0<(ao (val b)).length by omega) 0,ae,j,ae]
    dsimp only
    rw[t,ae,z,wy,ae,bY,o,f]
   ·obtain⟨q,u,j,V,o,f,A⟩:=Bo (ao (val a)) (ao (val b)) (by omega) i I (by omega)
    rw[aw,aw]at f A
    obtain⟨k,t,X,z⟩:=eo q (by omega)
    obtain⟨k',Y,p5,Z⟩:=eo (u.take (ao (val b)).length) (by rw[List.length_take]; omega)
    have J:val (u.take (ao (val b)).length)=val u:=by
     have e:=dz u (ao (val b)).length (by omega)
     have K:val u<4294967296^(ao (val b)).length:=by
      have M:=bD (ao (val b))
      rw[aw]at M
      rw[A]
      exact Nat.lt_trans (Nat.mod_lt _ (by omega)) M
     rw[iY K,Nat.mul_zero,Nat.add_zero]at e
     exact e.symm
    rw[if_neg (by rw[beq_iff_eq]; omega),j,ae]
    dsimp only
    rw[t,ae,Y,ae,z,Z,J,f,A]
end Go.Gk.Bn
end

section
namespace Go.Gk.Bn
open Go Go.Gk Go.Gk.Sh Go.Gk.Ec Go.Gk.Pr
theorem xw (a:Q0) (ha:a.length<=40000000000000):F.KZ a=some (((nb (val a)+31) / 32:Nat):Int):=by
 have f:nb (val a)<=32*a.length:=Nat.le_trans (ib _) (Nat.mul_le_mul_left 32 (ba (bD a)))
 unfold F.KZ
 rw[ew a (by omega),ae,aI (x:=((nb (val a):Nat):Int)+31) (by omega) (by omega),Int.tdiv_eq_ediv_of_nonneg (by omega),aI (by omega) (by omega)]
 congr 1
def jG (l:List Q0) (m:Q0):Int:=if l.any (fun a=>decide (4096<nb (val a))) then 10 else if val m<2 then 60 else 0
theorem pQ (l:List Q0) (k:Nat) (A:l.length=k+1) (z:k<=100) (hl:∀a∈l,a.length<=40000000000000):F.G4 l=some (jG l (l.getD k [])):=by
 have o:∀(n i:Nat),i+n=l.length->loop (F.HQ l) (i:Int)=some (jG (l.drop i) (l.getD k [])):=by
  intro n
  induction n with
  | zero=>
   intro i hi
   have:i=l.length:=by omega
   subst this
   have j:wI ((l.length:Int) - 1)=(k:Int):=by rw[aI (by omega) (by omega)]; omega
   have hm:(l.getD k []).length<=40000000000000:=by
    refine hl _ ?_
    rw[List.getD_eq_getElem?_getD,List.getElem?_eq_getElem (by omega)]
    exact List.getElem_mem _
   refine bu ?_
   unfold F.HQ jG
   dsimp only
   rw[if_neg (by rw[decide_eq_true_eq]; omega),j,aT (show k<l.length by omega) [],ae,ew _ (by omega),ae,List.drop_length]
   rw[if_neg (show ¬(List.any [] fun a=>decide (4096<nb (val a)))=true by simp)]
   congr 1
   by_cases h:val (l.getD k [])<2
   ·have:nb (val (l.getD k []))<=1:=gv (k:=1) h
    rw[if_pos h,if_pos (decide_eq_true (by omega))]
   ·rw[if_neg h,if_neg]
    rw[decide_eq_true_eq]
    intro B
    have hb:=(c9 (val (l.getD k []))).1
    have G:=Nat.pow_le_pow_right (show 0<2 by decide) (show nb (val (l.getD k []))<=1 by omega)
    omega
  | succ n ih=>
   intro i hi
   have j:wI ((i:Int)+1)=((i+1:Nat):Int):=by rw[aI (by omega) (by omega)]; rfl
   obtain⟨a,ha⟩:∃a,l.getD i []=a:=⟨_,rfl⟩
   have f:a.length<=40000000000000:=by
    refine hl _ ?_
    rw[<-ha,List.getD_eq_getElem?_getD,List.getElem?_eq_getElem (by omega)]
    exact List.getElem_mem _
   have g:l.drop i=a :: l.drop (i+1):=by
    rw[List.drop_eq_getElem_cons (by omega)]
    congr 1
    rw[<-ha,List.getD_eq_getElem?_getD,List.getElem?_eq_getElem (by omega)]; rfl
   by_cases hb:4096<nb (val a)
   ·refine (bu (X:=some 10) ?_).trans ?_
    ·unfold F.HQ
     dsimp only
     rw[if_pos (decide_eq_true (by omega)),aT (show i<l.length by omega) [],ae,ha,xw a f,ae,if_pos (decide_eq_true (by omega))]
    ·unfold jG
     rw[g,if_pos (by simp[hb])]
   ·have t:F.HQ l (i:Int)=some (.inl ((i+1:Nat):Int)):=by
     unfold F.HQ
     dsimp only
     rw[if_pos (decide_eq_true (by omega)),aT (show i<l.length by omega) [],ae,ha,xw a f,ae,if_neg (by rw[decide_eq_true_eq]; omega),j]; rfl
    rw[bB t,ih (i+1) (by omega)]
    unfold jG
    rw[g,List.any_cons,decide_eq_false hb,Bool.false_or]
 have:=o l.length 0 (by omega)
 rw[List.drop_zero]at this
 exact this
theorem mL {a b m:Q0} (ha:nb (val a)<=4096) (hb:nb (val b)<=4096) (hm:nb (val m)<=4096) (f:2<=val m) (g:a.length<=40000000000000) (h:b.length<=40000000000000) (i:m.length<=40000000000000):F.G4 [a,b,m]=some 0:=by
 rw[pQ [a,b,m] 2 rfl (by decide) (by intro x hx; simp at hx; rcases hx with rfl | rfl | rfl <;> assumption)]
 unfold jG
 rw[if_neg (by simp; omega),if_neg (by show ¬val m<2; omega)]
theorem fH (a m:Q0) (ha:a.length<=40000000000000) (hm:m.length<=40000000000000) (h:val m≠0):F.GO a m=some (ao (val a%val m)):=by
 unfold F.GO
 rw[mU a m ha hm,if_neg h,ae]
theorem pL {x y m:Nat} (hx:x<m) (hy:y<m) (f:(ao m).length<=1000) (l:Q0) (hl:val l=m) (g:l.length<=40000000000000):F.I0 (ao x) (ao y) l=some (ao ((m - y+x)%m)):=by
 have lx:(ao x).length<=1000:=Nat.le_trans (da (by omega)) f
 have j:(ao y).length<=1000:=Nat.le_trans (da (by omega)) f
 unfold F.I0 F.LE
 rw[oY _ _ (by omega) (by omega),ae,aw,aw]
 by_cases h:x<y
 ·have i:(ao (x+m)).length<=1001:=by
   have k:=iH x m
   have o:=da (show x<=m by omega)
   omega
  rw[if_pos h,if_pos (by rfl),oK _ _ (by omega) g,ae,aw,hl,oY _ _ (by omega) (by omega),ae,aw,aw,if_neg (by omega),Nat.mod_eq_of_lt (by omega),show x+m - y=m - y+x by omega]
 ·rw[if_neg h,if_neg (show ¬(!true)=true by decide),show m - y+x=(x - y)+m by omega,Nat.add_mod_right,Nat.mod_eq_of_lt (by omega)]
section
variable (c:Int)
end
end Go.Gk.Bn
end
