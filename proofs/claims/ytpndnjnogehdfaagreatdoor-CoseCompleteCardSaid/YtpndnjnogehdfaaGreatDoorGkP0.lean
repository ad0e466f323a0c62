import Derived.Test.YtpndnjnogehdfaaGreatDoorGkS
import Derived.Test.YtpndnjnogehdfaaGreatDoorGkFman
set_option linter.unusedVariables false
set_option linter.unusedSimpArgs false
set_option linter.unusedSectionVars false
section
namespace Go.Gk
theorem uJ {x y:Nat} (k:Nat) (hx:x%2^k=0) (j:y<2^k):x ||| y=x+y:=by
 have q:x=(x / 2^k) <<< k:=by
  rw[Nat.shiftLeft_eq]
  have:=cQ x (2^k)
  rw[hx]at this
  rw[aN]; omega
 rw[q,<-Nat.shiftLeft_add_eq_or_of_lt j]
theorem Ad (x k:Nat):x &&& (2^k - 1)=x%2^k:=Nat.and_two_pow_sub_one_eq_mod x k
section
theorem na (x:UInt64) (n:Nat):(c9 x n).toNat=x.toNat*2^(min n 64)%18446744073709551616:=by simp[c9,bL]
theorem iO (x:UInt64) (n:Nat):(bb x n).toNat=x.toNat / 2^(min n 64):=by
 simp only[bb,bL]
 exact ax (et (dO _ _) x.toNat_lt)
theorem sT (x:UInt32) (n:Nat):(iu x n).toNat=x.toNat*2^(min n 32)%4294967296:=by simp[iu,dm]
theorem lQ (x:UInt32) (n:Nat):(ff x n).toNat=x.toNat / 2^(min n 32):=by
 simp only[ff,dm]
 exact ax (et (dO _ _) x.toNat_lt)
theorem ES (x:UInt8) (n:Nat):(qt x n).toNat=x.toNat / 2^(min n 8):=by
 simp only[qt,dQ]
 exact ax (et (dO _ _) x.toNat_lt)
end
theorem o9 {τ:Type} (a:τ) (l:List τ):au (a :: l) (0:Int)=some a:=by simp[au]
theorem cd {τ:Type} {l:List τ} {i:Nat} (h:i<l.length):au l (i:Int)=some l[i]:=by rw[mJ]; simp[h]
theorem ir {τ:Type} {l m:List τ} {bytes:Nat} (h:(l.length+m.length)*bytes<=225000000000000):apO bytes l m=some (l++m):=ah h
theorem KS {l m:Y3} (h:l.length+m.length<=9223372036854775807):pK l m=some (l++m):=ah h
theorem iR {τ:Type} {bytes:Nat} {l c:Int} {t0:τ} (h:0<=l/\l<=c/\(bytes:Int)*c<=281474976710656/\c<=9223372036854775807):mkO bytes l c t0=some (List.replicate l.toNat t0):=ah h
theorem zn {τ:Type} {l:List τ} {k:Nat} (h:k<=l.length):drO l (k:Int)=some (l.drop k):=by
 unfold drO; rw[ah (by simp; omega)]; simp
theorem kU {τ:Type} {l:List τ} {lo hi:Nat} (h:lo<=hi) (j:hi<=l.length):slO l (lo:Int) (hi:Int)=some ((l.drop lo).take (hi - lo)):=by
 unfold slO; rw[ah (by simp; omega)]; simp
theorem aa {α ρ:Type} (a:α) (k:α->Option ρ):af (some a) k=k a:=rfl
theorem aM {α ρ:Type} (a:α) (k:α->Option ρ):bI a k=k a:=rfl
end Go.Gk
end
section
namespace Go.Gk
open Go
theorem cU {σ ρ:Type} {f:σ->Option (σ⊕ρ)} {s:σ} {X:Option ρ} (h:f s=bj X):loop f s=X:=by
 rw[mP,h]
 cases X <;> rfl
theorem xF {τ ρ:Type} {f:Int×List τ->Option ((Int×List τ)⊕ρ)} {c:τ} {X:List τ->Option ρ}
  (hf:∀i l,f (i,l)=if decide (i<(l.length:Int))=true then (af (au l i) fun _=>bI (l.set i.toNat c) fun y=>bV (wI (i+1),y)) else bj (X l))
  (l:List τ) (hl:l.length<=4611686018427387904):loop f (0,l)=X (List.replicate l.length c):=by
 have q:∀(r i:Nat) (m:List τ),i+r=m.length->m.length=l.length->m.take i=List.replicate i c->loop f ((i:Int),m)=X (List.replicate l.length c):=by
  intro r
  induction r with
  | zero=>
   intro i m B A j
   have:m=List.replicate l.length c:=by
    rw[<-A,show m.length=i by omega,<-j,aA (by omega)]
   have hd:decide ((i:Int)<(m.length:Int))=false:=az (by omega)
   refine cU ?_
   rw[hf,hd,<-this]
   rfl
  | succ r ih=>
   intro i m B A j
   have hi:i<m.length:=by omega
   have hd:decide ((i:Int)<(m.length:Int))=true:=aj (by omega)
   have hs:f ((i:Int),m)=some (.inl (((i+1:Nat):Int),m.set i c)):=by
    rw[hf,hd,cd hi]
    simp only[am,aa,aM,aq]
    rw[aO (by omega) (by omega)]
    rfl
   rw[bB hs]
   refine ih (i+1) _ (by simp; omega) (by simp; omega) ?_
   rw[List.take_set,dL hi,j,eb _ _ (by simp)]
   simp[gL]
 exact q l.length 0 l (by simp) rfl (by simp)
theorem xg {τ ρ:Type} {f:List τ×Int->Option ((List τ×Int)⊕ρ)} {c:τ} {X:List τ->Option ρ} {bytes:Nat}
  (hf:∀l k,f (l,k)=if decide (k<70)=true then (af (apO bytes l [c]) fun y=>bV (y,wI (k+1))) else bj (X l))
  (l:List τ) (hl:(l.length+70)*bytes<=225000000000000):loop f (l,0)=X (l++List.replicate 70 c):=by
 have j:∀(r i:Nat),i+r=70->loop f (l++List.replicate i c,(i:Int))=X (l++List.replicate 70 c):=by
  intro r
  induction r with
  | zero=>
   intro i q
   have hd:decide ((i:Int)<70)=false:=az (by omega)
   have:i=70:=by omega
   subst this
   refine cU ?_
   rw[hf,hd]
   rfl
  | succ r ih=>
   intro i q
   have hd:decide ((i:Int)<70)=true:=aj (by omega)
   have hs:f (l++List.replicate i c,(i:Int))=some (.inl (l++List.replicate (i+1) c,((i+1:Nat):Int))):=by
    rw[hf,hd,ir (bz (aR _ (by simp; omega)) hl)]
    simp only[am,aa]
    rw[aO (by omega) (by omega),aP,<-gL]
    rfl
   rw[bB hs]
   exact ih (i+1) (by omega)
 simpa using j 70 0 (by omega)
theorem GN {f:Int->Option (Int⊕Bool)} {τ:Type} {X:Option Bool} (n:Nat) (c d:τ) (q A:τ->Bool) (hc:q c=false) (J:A d=false) (hn:n<=4611686018427387904)
  (hf:∀i,f i=if decide (i<((List.replicate n c++List.replicate 70 d).length:Int))=true then
   (if decide (i<((List.replicate n c).length:Int))=true then
    (af (au (List.replicate n c) i) fun x=>
     if q x=true then (if true=true then bj (some false) else bV (wI (i+1)))
     else (af (au (List.replicate n c++List.replicate 70 d) i) fun y=>
      if q y=true then (if true=true then bj (some false) else bV (wI (i+1)))
      else (if decide (((List.replicate n c).length:Int)<=i)=true then (af (au (List.replicate n c++List.replicate 70 d) i) fun z=>if A z=true then bj (some false) else bV (wI (i+1)))
       else (if false=true then bj (some false) else bV (wI (i+1))))))
   else (if decide (((List.replicate n c).length:Int)<=i)=true then (af (au (List.replicate n c++List.replicate 70 d) i) fun z=>if A z=true then bj (some false) else bV (wI (i+1)))
    else (if false=true then bj (some false) else bV (wI (i+1)))))
   else bj X):loop f 0=X:=by
 have N:∀(r i:Nat),i+r=n+70->loop f (i:Int)=X:=by
  intro r
  induction r with
  | zero=>
   intro i O
   have hd:decide ((i:Int)<((List.replicate n c++List.replicate 70 d).length:Int))=false:=az (by simp; omega)
   refine cU ?_
   rw[hf,hd]
   rfl
  | succ r ih=>
   intro i O
   have hd:decide ((i:Int)<((List.replicate n c++List.replicate 70 d).length:Int))=true:=aj (by simp; omega)
   have hw:wI ((i:Int)+1)=((i+1:Nat):Int):=by rw[aO (by omega) (by omega)]; rfl
   have hs:f (i:Int)=some (.inl (((i+1:Nat):Int))):=by
    rw[hf,hd,hw]
    have j:i<(List.replicate n c++List.replicate 70 d).length:=by simp; omega
    by_cases h:i<n
    ·have B:decide ((i:Int)<((List.replicate n c).length:Int))=true:=aj (by simp; omega)
     have G:decide (((List.replicate n c).length:Int)<=(i:Int))=false:=az (by simp; omega)
     have R:au (List.replicate n c) (i:Int)=some c:=by rw[cd (by simpa using h)]; simp
     have I:au (List.replicate n c++List.replicate 70 d) (i:Int)=some c:=by rw[cd j,List.getElem_append_left (by simpa using h),iy]
     rw[B,G,R,I]
     simp only[aa,am,hc,ai,ak]
     rfl
    ·have B:decide ((i:Int)<((List.replicate n c).length:Int))=false:=az (by simp; omega)
     have G:decide (((List.replicate n c).length:Int)<=(i:Int))=true:=aj (by simp; omega)
     have I:au (List.replicate n c++List.replicate 70 d) (i:Int)=some d:=by rw[cd j,List.getElem_append_right (by simp; omega),iy]
     rw[B,G,I]
     simp only[aa,am,J,ai,ak]
     rfl
   rw[bB hs]
   exact ih (i+1) (by omega)
 exact N (n+70) 0 (by omega)
theorem Ca {f:Int->Option (Int⊕Bool)} {τ:Type} {X r:Option Bool} (n:Nat) (c d:τ) (j q:τ->Bool) (hc:j c=false) (A:q d=false) (hn:n<=4611686018427387904)
  (hf:∀i,f i=if decide (i<((List.replicate n c++List.replicate 70 d).length:Int))=true then
   (if decide (i<((List.replicate n c).length:Int))=true then
    (af (au (List.replicate n c) i) fun x=>
     if j x=true then (if true=true then bj (some false) else bV (wI (i+1)))
     else (af (au (List.replicate n c++List.replicate 70 d) i) fun y=>
      if j y=true then (if true=true then bj (some false) else bV (wI (i+1)))
      else (if decide (((List.replicate n c).length:Int)<=i)=true then (af (au (List.replicate n c++List.replicate 70 d) i) fun z=>if q z=true then bj (some false) else bV (wI (i+1)))
       else (if false=true then bj (some false) else bV (wI (i+1))))))
   else (if decide (((List.replicate n c).length:Int)<=i)=true then (af (au (List.replicate n c++List.replicate 70 d) i) fun z=>if q z=true then bj (some false) else bV (wI (i+1)))
    else (if false=true then bj (some false) else bV (wI (i+1)))))
   else bj X) (hX:X=r):loop f 0=r:=(GN n c d j q hc A hn hf).trans hX
end Go.Gk
end
section
namespace Go.Gk.Sh
open Go Go.Gk
theorem jH {σ α ρ:Type} {f:σ->Option (σ⊕ρ)} (st:α->Nat->σ) (I:α->Prop) (g:α->Nat->α) (lo n:Nat) {X:α->Option ρ}
  (j:∀i x,lo<=i->i<n->I x->f (st x i)=some (.inl (st (g x i) (i+1)))/\I (g x i)) (q:∀x,I x->f (st x n)=bj (X x)) :
  ∀(r i:Nat) (x:α),lo<=i->i+r=n->I x->loop f (st x i)=X ((List.range' i r).foldl g x)
 | 0,i,x,hl,h,hx=>by
  have:i=n:=by omega
  subst this
  simp only[List.range'_zero,List.foldl_nil]
  exact cU (q x hx)
 | r+1,i,x,hl,h,hx=>by
  obtain⟨y,A⟩:=j i x hl (by omega) hx
  rw[bB y,gW,d9]
  exact jH st I g lo n j q r (i+1) _ (by omega) (by omega) A
theorem mR {α:Type} (I:α->Prop) (g:α->Nat->α) (h:∀i x,I x->I (g x i)):∀(r i:Nat) (x:α),I x->I ((List.range' i r).foldl g x)
 | 0,i,x,hx=>by simpa using hx
 | r+1,i,x,hx=>by
  rw[gW,d9]
  exact mR I g h r (i+1) _ (h i x hx)
theorem ms {α:Type} {g j:α->Nat->α}:∀(r i:Nat) (x:α),(∀k y,i<=k->k<i+r->g y k=j y k)->(List.range' i r).foldl g x=(List.range' i r).foldl j x
 | 0,i,x,_=>rfl
 | r+1,i,x,h=>by
  rw[gW,d9,d9,h i x (av _) (by omega)]
  exact ms r (i+1) _ fun k y q A=>h k y (by omega) (by omega)
theorem bv {τ:Type} [Inhabited τ] {l:List τ} {i:Nat} (h:i<l.length) (d:τ):au l (i:Int)=some (l.getD i d):=by
 rw[cd h,ao,aE h]; rfl
theorem O7 (e f g:UInt32):g ^^^ (e &&& (f ^^^ g))=(e &&& f) ^^^ (~~~e &&& g):=by
 apply UInt32.eq_of_toBitVec_eq
 simp only[UInt32.toBitVec_xor,UInt32.toBitVec_and,UInt32.toBitVec_not]
 ext i hi
 simp only[BitVec.getElem_xor,BitVec.getElem_and,BitVec.getElem_not]
 cases e.toBitVec[i] <;> cases f.toBitVec[i] <;> cases g.toBitVec[i] <;> rfl
theorem OP (a b c:UInt32):(a &&& b) ||| (c &&& (a ||| b))=((a &&& b) ^^^ (a &&& c)) ^^^ (b &&& c):=by
 apply UInt32.eq_of_toBitVec_eq
 simp only[UInt32.toBitVec_xor,UInt32.toBitVec_and,UInt32.toBitVec_or]
 ext i hi
 simp only[BitVec.getElem_xor,BitVec.getElem_and,BitVec.getElem_or]
 cases a.toBitVec[i] <;> cases b.toBitVec[i] <;> cases c.toBitVec[i] <;> rfl
theorem PG (e f g:UInt64):g ^^^ (e &&& (f ^^^ g))=(e &&& f) ^^^ (~~~e &&& g):=by
 apply UInt64.eq_of_toBitVec_eq
 simp only[UInt64.toBitVec_xor,UInt64.toBitVec_and,UInt64.toBitVec_not]
 ext i hi
 simp only[BitVec.getElem_xor,BitVec.getElem_and,BitVec.getElem_not]
 cases e.toBitVec[i] <;> cases f.toBitVec[i] <;> cases g.toBitVec[i] <;> rfl
theorem OF (a b c:UInt64):(a &&& b) ||| (c &&& (a ||| b))=((a &&& b) ^^^ (a &&& c)) ^^^ (b &&& c):=by
 apply UInt64.eq_of_toBitVec_eq
 simp only[UInt64.toBitVec_xor,UInt64.toBitVec_and,UInt64.toBitVec_or]
 ext i hi
 simp only[BitVec.getElem_xor,BitVec.getElem_and,BitVec.getElem_or]
 cases a.toBitVec[i] <;> cases b.toBitVec[i] <;> cases c.toBitVec[i] <;> rfl
def nG (x:UInt32) (k:Nat):UInt32:=ff x k ||| iu x (32 - k)
def nB (x:UInt64) (k:Nat):UInt64:=bb x k ||| c9 x (64 - k)
theorem m0 (x:UInt32) (k:Nat) (h:0<k) (A:k<32):F.QO x (-(k:Int))=some (nG x k):=by
 unfold F.QO nG
 have j:∀k:Fin 32,0<k.val->((UInt64.ofInt (-(k.val:Int))) &&& 31).toNat=32 - k.val/\((32:UInt64) - ((UInt64.ofInt (-(k.val:Int))) &&& 31)).toNat=k.val:=by decide
 obtain⟨q,y⟩:=j ⟨k,A⟩ h
 simp only at q y
 rw[q,y,UInt32.or_comm]
theorem mY (x:UInt64) (k:Nat) (h:0<k) (A:k<64):F.QQ x (-(k:Int))=some (nB x k):=by
 unfold F.QQ nB
 have j:∀k:Fin 64,0<k.val->((UInt64.ofInt (-(k.val:Int))) &&& 63).toNat=64 - k.val/\((64:UInt64) - ((UInt64.ofInt (-(k.val:Int))) &&& 63)).toNat=k.val:=by decide
 obtain⟨q,y⟩:=j ⟨k,A⟩ h
 simp only at q y
 rw[q,y,UInt64.or_comm]
theorem Kx:F.Ta=F.Xp:=rfl
theorem Lo:F.SP=F.Xh:=rfl
abbrev V8 (W:Type):=W×W×W×W×W×W×W×W
def toL {W:Type} (v:V8 W):List W:=[v.1,v.2.1,v.2.2.1,v.2.2.2.1,v.2.2.2.2.1,v.2.2.2.2.2.1,v.2.2.2.2.2.2.1,v.2.2.2.2.2.2.2]
def ofL {W:Type} (d:W) (l:List W):V8 W:=(l.getD 0 d,l.getD 1 d,l.getD 2 d,l.getD 3 d,l.getD 4 d,l.getD 5 d,l.getD 6 d,l.getD 7 d)
def Bj (b:Y3) (i:Nat):UInt32:=
 ((iu (b.getD (4*i) 0).toUInt32 24 ||| iu (b.getD (4*i+1) 0).toUInt32 16) ||| iu (b.getD (4*i+2) 0).toUInt32 8) ||| (b.getD (4*i+3) 0).toUInt32
def JM (w:Y0) (i:Nat):UInt32:=
 ((w.getD (i - 16) 0+w.getD (i - 7) 0)+((nG (w.getD (i - 15) 0) 7 ^^^ nG (w.getD (i - 15) 0) 18) ^^^ ff (w.getD (i - 15) 0) 3)) +
  ((nG (w.getD (i - 2) 0) 17 ^^^ nG (w.getD (i - 2) 0) 19) ^^^ ff (w.getD (i - 2) 0) 10)
def jX (b:Y3) (w:Y0) (i:Nat):Y0:=if i<16 then w.set i (Bj b i) else w.set i (JM w i)
def mS (b:Y3):Y0:=(List.range' 0 64).foldl (jX b) (List.replicate 64 0)
def Mt (v:V8 UInt32) (k w:UInt32):UInt32:=
 (((v.2.2.2.2.2.2.2+((nG v.2.2.2.2.1 6 ^^^ nG v.2.2.2.2.1 11) ^^^ nG v.2.2.2.2.1 25))+((v.2.2.2.2.1 &&& v.2.2.2.2.2.1) ^^^ (~~~v.2.2.2.2.1 &&& v.2.2.2.2.2.2.1)))+k)+w
def PP (v:V8 UInt32):UInt32:=((nG v.1 2 ^^^ nG v.1 13) ^^^ nG v.1 22)+(((v.1 &&& v.2.1) ^^^ (v.1 &&& v.2.2.1)) ^^^ (v.2.1 &&& v.2.2.1))
def JH (ws:Y0) (v:V8 UInt32) (i:Nat):V8 UInt32:=
 (Mt v (F.Xp.getD i 0) (ws.getD i 0)+PP v,v.1,v.2.1,v.2.2.1,v.2.2.2.1+Mt v (F.Xp.getD i 0) (ws.getD i 0),v.2.2.2.2.1,v.2.2.2.2.2.1,v.2.2.2.2.2.2.1)
def ud (v:Y0) (h:Y0) (i:Nat):Y0:=h.set i (h.getD i 0+v.getD i 0)
def pW (h:Y0) (b:Y3):Y0:=(List.range' 0 8).foldl (ud (toL ((List.range' 0 64).foldl (JH (mS b)) (ofL 0 h)))) h
theorem pb (b:Y3) (i:Nat) (w:Y0) (hw:w.length=64):(jX b w i).length=64:=by
 unfold jX; split <;> simpa using hw
theorem F9 (b:Y3):(mS b).length=64:=mR (fun w:Y0=>w.length=64) (jX b) (fun i x hx=>pb b i x hx) 64 0 _ (by simp)
theorem zv (v:Y0) (i:Nat) (h:Y0) (hh:h.length=8):(ud v h i).length=8:=by unfold ud; simpa using hh
theorem H7 (h:Y0) (b:Y3) (hh:h.length=8):(pW h b).length=8:=mR (fun w:Y0=>w.length=8) _ (fun i x hx=>zv _ i x hx) 8 0 _ hh
theorem B5 (b:Y3):mS b=(List.range' 16 48).foldl (jX b) ((List.range' 0 16).foldl (jX b) (List.replicate 64 0)):=by
 unfold mS
 rw[<-List.foldl_append]; rfl
theorem wI1 (i:Nat) (h:i<1000000):wI ((i:Int)+1)=((i+1:Nat):Int):=by rw[aO (by omega) (by omega)]; rfl
theorem wIs (i k:Nat) (h:k<=i) (j:i<1000000):wI ((i:Int) - (k:Int))=((i - k:Nat):Int):=by rw[aO (by omega) (by omega)]; omega
theorem HK (i:Nat) (w:Y0) (N:16<=i) (hi:i<64) (hw:w.length=64) {ρ:Type} (K:UInt32->UInt32->UInt32->UInt32->Option ρ) :
  (af (au w (wI ((i:Int) - 15))) fun j=>af (au w (wI ((i:Int) - 2))) fun q=>af (au w (wI ((i:Int) - 16))) fun y=>af (au w (wI ((i:Int) - 7))) fun A=>K j q y A) =
   K (w.getD (i - 15) 0) (w.getD (i - 2) 0) (w.getD (i - 16) 0) (w.getD (i - 7) 0):=by
 have m:∀k:Nat,k<=16->au w (wI ((i:Int) - (k:Int)))=some (w.getD (i - k) 0):=fun k O=>by
  rw[wIs i k (by omega) (by omega),bv (by omega) 0]
 have B:=m 15 (by omega); have I:=m 2 (by omega); have G:=m 16 (by omega); have J:=m 7 (by omega)
 rw[show au w (wI ((i:Int) - 15))=_ from B,aa,show au w (wI ((i:Int) - 2))=_ from I,aa,show au w (wI ((i:Int) - 16))=_ from G,aa,show au w (wI ((i:Int) - 7))=_ from J,aa]
theorem D4 (a:Int) (h:Y0) (l:List UInt64) (rest:Y3) (n:UInt64) (hh:h.length=8) (hr:rest.length=128) :
  F.UT a h l rest n=some (a,pW h rest,l,rest,n):=by
 unfold F.UT
 -- the first sixteen words
 have J:=jH (f:=F.Xe rest h a l n) (fun w i=>((i:Int),w)) (fun w=>w.length=64) (jX rest) 0 16
  (X:=fun w=>loop (F.TZ h a l rest n) (16,w))
  (fun i w _ hi hw=>by
   have j:decide ((i:Int)<16)=true:=aj (by omega)
   have N:wI (4*(i:Int))=((4*i:Nat):Int):=by rw[aO (by omega) (by omega)]; omega
   have d:∀k:Nat,k<4->au (rest.drop (4*i)) (k:Int)=some (rest.getD (4*i+k) 0):=fun k O=>by
    rw[bv (by simp; omega) 0,ao,ep,ao]
   refine⟨?_,pb rest i w hw⟩
   simp only[F.Xe,j,am,N,zn (show 4*i<=rest.length by omega),aa,aM]
   have y:=d 0 (by omega); have A:=d 1 (by omega); have B:=d 2 (by omega); have G:=d 3 (by omega)
   simp only[show ((0:Nat):Int)=0 from rfl,show ((1:Nat):Int)=1 from rfl,show ((2:Nat):Int)=2 from rfl,show ((3:Nat):Int)=3 from rfl,bA]at y A B G
   rw[y,aa,A,aa,B,aa,G,aa,cd (show i<w.length by omega),aa,wI1 i (by omega),aq]
   simp only[jX,hi,am,Bj]
   rfl)
  (fun w hw=>rfl) 16 0 (List.replicate 64 0) (av _) rfl (by simp)
 have R:=fun (w:Y0) (hw:w.length=64)=>jH (f:=F.TZ h a l rest n) (fun w i=>((i:Int),w)) (fun w=>w.length=64) (jX rest) 16 64
  (X:=fun w=>loop (F.Wc h w a l rest n) (h.getD 0 0,h.getD 1 0,h.getD 2 0,h.getD 3 0,h.getD 4 0,h.getD 5 0,h.getD 6 0,h.getD 7 0,0))
  (fun i w I hi hw=>by
   have j:decide ((i:Int)<64)=true:=aj (by omega)
   refine⟨?_,pb rest i w hw⟩
   simp only[F.TZ,j,am,HK i w I hi hw]
   rw[show F.QO (w.getD (i - 15) 0) (-7)=_ from m0 _ 7 (by omega) (by omega),aa,show F.QO (w.getD (i - 15) 0) (-18)=_ from m0 _ 18 (by omega) (by omega),aa,
    show F.QO (w.getD (i - 2) 0) (-17)=_ from m0 _ 17 (by omega) (by omega),aa,show F.QO (w.getD (i - 2) 0) (-19)=_ from m0 _ 19 (by omega) (by omega),aa,
    cd (show i<w.length by omega),aa,aM,wI1 i (by omega),aq]
   simp only[jX,show ¬i<16 by omega,ak,JM]
   rfl)
  (fun w hw=>by
   have g:∀k:Nat,k<8->au h (k:Int)=some (h.getD k 0):=fun k O=>bv (by omega) 0
   have U:=g 0 (by omega); have V:=g 1 (by omega); have Y:=g 2 (by omega); have g3:=g 3 (by omega); have g4:=g 4 (by omega); have Z:=g 5 (by omega); have g6:=g 6 (by omega); have g7:=g 7 (by omega)
   simp only[F.TZ,show decide (((64:Nat):Int)<64)=false from rfl,ai,ak]
   rw[show au h (0:Int)=_ from U,aa,show au h (1:Int)=_ from V,aa,show au h (2:Int)=_ from Y,aa,show au h (3:Int)=_ from g3,aa,show au h (4:Int)=_ from g4,aa,show au h (5:Int)=_ from Z,aa,show au h (6:Int)=_ from g6,aa,show au h (7:Int)=_ from g7,aa])
  48 16 w (av _) rfl hw
 have e3:=fun (q:Y0) (hw:q.length=64)=>jH (f:=F.Wc h q a l rest n) (fun (v:V8 UInt32) i=>(v.1,v.2.1,v.2.2.1,v.2.2.2.1,v.2.2.2.2.1,v.2.2.2.2.2.1,v.2.2.2.2.2.2.1,v.2.2.2.2.2.2.2,(i:Int))) (fun _=>True) (JH q) 0 64
  (X:=fun v=>loop (F.Vc a l rest n v.1 v.2.1 v.2.2.1 v.2.2.2.1 v.2.2.2.2.1 v.2.2.2.2.2.1 v.2.2.2.2.2.2.1 v.2.2.2.2.2.2.2) (0,h))
  (fun i v _ hi _=>by
   have j:decide ((i:Int)<64)=true:=aj (by omega)
   refine⟨?_,trivial⟩
   simp only[F.Wc,j,am]
   rw[show F.QO v.2.2.2.2.1 (-6)=_ from m0 _ 6 (by omega) (by omega),aa,show F.QO v.2.2.2.2.1 (-11)=_ from m0 _ 11 (by omega) (by omega),aa,show F.QO v.2.2.2.2.1 (-25)=_ from m0 _ 25 (by omega) (by omega),aa,
    Kx,bv (show i<F.Xp.length from hi) 0,aa,bv (show i<q.length by omega) 0,aa,aM,
    show F.QO v.1 (-2)=_ from m0 _ 2 (by omega) (by omega),aa,show F.QO v.1 (-13)=_ from m0 _ 13 (by omega) (by omega),aa,show F.QO v.1 (-22)=_ from m0 _ 22 (by omega) (by omega),aa,aM,O7,OP,wI1 i (by omega)]
   rfl)
  (fun v _=>rfl) 64 0 (ofL 0 h) (av _) rfl trivial
 have e4:=fun (v:V8 UInt32)=>jH (f:=F.Vc a l rest n v.1 v.2.1 v.2.2.1 v.2.2.2.1 v.2.2.2.2.1 v.2.2.2.2.2.1 v.2.2.2.2.2.2.1 v.2.2.2.2.2.2.2) (fun h i=>((i:Int),h)) (fun h=>h.length=8) (ud (toL v)) 0 8
  (X:=fun h=>some (a,h,l,rest,n))
  (fun i h _ hi hh=>by
   have j:decide ((i:Int)<8)=true:=aj (by omega)
   refine⟨?_,zv _ i h hh⟩
   simp only[F.Vc,j,am]
   rw[bv (l:=[v.1,v.2.1,v.2.2.1,v.2.2.2.1,v.2.2.2.2.1,v.2.2.2.2.2.1,v.2.2.2.2.2.2.1,v.2.2.2.2.2.2.2]) (show i<8 from hi) 0,aa,bv (show i<h.length by omega) 0,aa,aa,aM,wI1 i (by omega),aq]
   rfl)
  (fun h hh=>rfl) 8 0 h (av _) rfl hh
 refine J.trans ?_
 refine (R _ (mR (fun w:Y0=>w.length=64) (jX rest) (fun i x hx=>pb rest i x hx) 16 0 _ (by simp))).trans ?_
 rw[<-B5]
 refine (e3 _ (F9 rest)).trans ?_
 exact e4 _
theorem ft {σ α ρ:Type} {f:σ->Option (σ⊕ρ)} (st:α->Nat->σ) (I:Nat->α->Prop) (g:α->Nat->α) (lo n:Nat) {X:α->Option ρ}
  (j:∀i x,lo<=i->i<n->I i x->f (st x i)=some (.inl (st (g x i) (i+1)))/\I (i+1) (g x i)) (q:∀x,I n x->f (st x n)=bj (X x)) :
  ∀(r i:Nat) (x:α),lo<=i->i+r=n->I i x->loop f (st x i)=X ((List.range' i r).foldl g x)
 | 0,i,x,hl,h,hx=>by
  have:i=n:=by omega
  subst this
  simp only[List.range'_zero,List.foldl_nil]
  exact cU (q x hx)
 | r+1,i,x,hl,h,hx=>by
  obtain⟨y,A⟩:=j i x hl (by omega) hx
  rw[bB y,gW,d9]
  exact ft st I g lo n j q r (i+1) _ (by omega) (by omega) A
theorem f8 {α:Type} (I:Nat->α->Prop) (g:α->Nat->α) (h:∀i x,I i x->I (i+1) (g x i)):∀(r i:Nat) (x:α),I i x->I (i+r) ((List.range' i r).foldl g x)
 | 0,i,x,hx=>by simpa using hx
 | r+1,i,x,hx=>by
  rw[gW,d9,show i+(r+1)=i+1+r by omega]
  exact f8 I g h r (i+1) _ (h i x hx)
def AS (b:Y3) (i:Nat) (x:UInt64) (k:Nat):UInt64:=c9 x 8 ||| (b.getD (8*i+k) 0).toUInt64
def uR (b:Y3) (i:Nat):UInt64:=(List.range' 0 8).foldl (AS b i) 0
def JI (w:List UInt64) (i:Nat):UInt64:=
 ((w.getD (i - 16) 0+w.getD (i - 7) 0)+((nB (w.getD (i - 15) 0) 1 ^^^ nB (w.getD (i - 15) 0) 8) ^^^ bb (w.getD (i - 15) 0) 7)) +
  ((nB (w.getD (i - 2) 0) 19 ^^^ nB (w.getD (i - 2) 0) 61) ^^^ bb (w.getD (i - 2) 0) 6)
def jL (b:Y3) (w:List UInt64) (i:Nat):List UInt64:=if i<16 then w.set i (uR b i) else w.set i (JI w i)
def mC (b:Y3):List UInt64:=(List.range' 0 80).foldl (jL b) (List.replicate 80 0)
def MM (v:V8 UInt64) (k w:UInt64):UInt64:=
 (((v.2.2.2.2.2.2.2+((nB v.2.2.2.2.1 14 ^^^ nB v.2.2.2.2.1 18) ^^^ nB v.2.2.2.2.1 41))+((v.2.2.2.2.1 &&& v.2.2.2.2.2.1) ^^^ (~~~v.2.2.2.2.1 &&& v.2.2.2.2.2.2.1)))+k)+w
def Qk (v:V8 UInt64):UInt64:=((nB v.1 28 ^^^ nB v.1 34) ^^^ nB v.1 39)+(((v.1 &&& v.2.1) ^^^ (v.1 &&& v.2.2.1)) ^^^ (v.2.1 &&& v.2.2.1))
def JF (ws:List UInt64) (v:V8 UInt64) (i:Nat):V8 UInt64:=
 (MM v (F.Xh.getD i 0) (ws.getD i 0)+Qk v,v.1,v.2.1,v.2.2.1,v.2.2.2.1+MM v (F.Xh.getD i 0) (ws.getD i 0),v.2.2.2.2.1,v.2.2.2.2.2.1,v.2.2.2.2.2.2.1)
def uf (v:List UInt64) (h:List UInt64) (i:Nat):List UInt64:=h.set i (h.getD i 0+v.getD i 0)
def pV (h:List UInt64) (b:Y3):List UInt64:=(List.range' 0 8).foldl (uf (toL ((List.range' 0 80).foldl (JF (mC b)) (ofL 0 h)))) h
def np (i:Nat) (w:List UInt64):Prop:=w.length=80/\∀k,i<=k->w.getD k 0=0
theorem rG (b:Y3) (i:Nat) (w:List UInt64) (hw:np i w):np (i+1) (jL b w i):=by
 unfold jL
 refine⟨by split <;> simpa using hw.1,fun k j=>?_⟩
 have:=hw.2 k (by omega)
 rw[ao]at this ⊢
 split <;> (rw[da]; rw[ae (by omega)]; exact this)
theorem vQ:np 0 (List.replicate 80 0):=⟨by simp,fun k _=>by
 rw[ao,f9]; split <;> rfl⟩
theorem FT (b:Y3):np 80 (mC b):=f8 np (jL b) (fun i x hx=>rG b i x hx) 80 0 _ vQ
theorem vf (v:List UInt64) (i:Nat) (h:List UInt64) (hh:h.length=8):(uf v h i).length=8:=by unfold uf; simpa using hh
theorem Eo (h:List UInt64) (b:Y3) (hh:h.length=8):(pV h b).length=8:=mR (fun w:List UInt64=>w.length=8) _ (fun i x hx=>vf _ i x hx) 8 0 _ hh
theorem xW (b:Y3):mC b=(List.range' 16 64).foldl (jL b) ((List.range' 0 16).foldl (jL b) (List.replicate 80 0)):=by
 unfold mC
 rw[<-List.foldl_append]; rfl
theorem OD {w:List UInt64} {i:Nat} (h:i<w.length):w.set i (w.getD i 0)=w:=by
 apply iH
 intro k
 rw[da]
 split
 ·rename_i e
  subst e
  rw[ao,aE h]; simp[h]
 ·rfl
theorem yN {w:List UInt64} {i:Nat} (h:i<w.length) (x:UInt64):au (w.set i x) (i:Int)=some x:=by
 rw[mJ,da,ah rfl,ah h]
theorem Dr (i:Nat) (w:List UInt64) (N:16<=i) (hi:i<80) (hw:w.length=80) {ρ:Type} (K:UInt64->UInt64->UInt64->UInt64->Option ρ) :
  (af (au w (wI ((i:Int) - 15))) fun j=>af (au w (wI ((i:Int) - 2))) fun q=>af (au w (wI ((i:Int) - 16))) fun y=>af (au w (wI ((i:Int) - 7))) fun A=>K j q y A) =
   K (w.getD (i - 15) 0) (w.getD (i - 2) 0) (w.getD (i - 16) 0) (w.getD (i - 7) 0):=by
 have m:∀k:Nat,k<=16->au w (wI ((i:Int) - (k:Int)))=some (w.getD (i - k) 0):=fun k O=>by
  rw[wIs i k (by omega) (by omega),bv (by omega) 0]
 have B:=m 15 (by omega); have I:=m 2 (by omega); have G:=m 16 (by omega); have J:=m 7 (by omega)
 rw[show au w (wI ((i:Int) - 15))=_ from B,aa,show au w (wI ((i:Int) - 2))=_ from I,aa,show au w (wI ((i:Int) - 16))=_ from G,aa,show au w (wI ((i:Int) - 7))=_ from J,aa]
theorem Dk (a:Int) (h:List UInt64) (l:Y0) (rest:Y3) (n:UInt64) (hh:h.length=8) (hr:rest.length=128) :
  F.VY a l h rest n=some (a,l,pV h rest,rest,n):=by
 unfold F.VY
 -- the first sixteen words
 have G:=fun (i:Nat) (w:List UInt64) (hi:i<16) (hw:np i w)=>jH (f:=F.Vf (i:Int) ((rest.drop (8*i)).take (8*i+8 - 8*i))) (fun x j=>((j:Int),w.set i x)) (fun _=>True) (AS rest i) 0 8
  (X:=fun x=>(some (.inl (((i+1:Nat):Int),w.set i x)):Option ((Int×List UInt64)⊕(Int×Y0×List UInt64×Y3×UInt64))))
  (fun j x _ hj _=>by
   have hl:((rest.drop (8*i)).take (8*i+8 - 8*i)).length=8:=by simp; omega
   have q:decide ((j:Int)<(((rest.drop (8*i)).take (8*i+8 - 8*i)).length:Int))=true:=aj (by omega)
   have g:au ((rest.drop (8*i)).take (8*i+8 - 8*i)) (j:Int)=some (rest.getD (8*i+j) 0):=by
    rw[bv (by omega) 0,ao,bK,ah (by omega),ep,ao]
   have ag:=hw.1
   refine⟨?_,trivial⟩
   simp only[F.Vf,q,am]
   rw[g,aa,yN (by omega),aa,aa,aM,wI1 j (by omega),aq,List.set_set]
   rfl)
  (fun x _=>by
   have hl:((rest.drop (8*i)).take (8*i+8 - 8*i)).length=8:=by simp; omega
   have q:decide (((8:Nat):Int)<(((rest.drop (8*i)).take (8*i+8 - 8*i)).length:Int))=false:=az (by omega)
   simp only[F.Vf,q,ai,ak,wI1 i (by omega)]
   rfl)
  8 0 0 (av _) rfl trivial
 have I:=ft (f:=F.WN rest h a l n) (fun w i=>((i:Int),w)) np (jL rest) 0 16
  (X:=fun w=>loop (F.TA h a l rest n) (16,w))
  (fun i w _ hi hw=>by
   have q:decide ((i:Int)<16)=true:=aj (by omega)
   have J:wI (8*(i:Int))=((8*i:Nat):Int):=by rw[aO (by omega) (by omega)]; omega
   have N:wI (((8*i:Nat):Int)+8)=((8*i+8:Nat):Int):=by rw[aO (by omega) (by omega)]; omega
   refine⟨?_,rG rest i w hw⟩
   simp only[F.WN,q,am,J,N]
   rw[kU (by omega) (by omega),aa]
   have A:=G i w hi hw
   have hz:w.set i 0=w:=by
    have:=OD (w:=w) (i:=i) (by have:=hw.1; omega)
    rwa [hw.2 i (av _)]at this
   rw[hz]at A
   refine A.trans ?_
   simp only[jL,hi,am,uR])
  (fun w hw=>rfl) 16 0 (List.replicate 80 0) (av _) rfl vQ
 have O:=fun (w:List UInt64) (hw:w.length=80)=>jH (f:=F.TA h a l rest n) (fun w i=>((i:Int),w)) (fun w=>w.length=80) (jL rest) 16 80
  (X:=fun w=>loop (F.Wu h w a l rest n) (h.getD 0 0,h.getD 1 0,h.getD 2 0,h.getD 3 0,h.getD 4 0,h.getD 5 0,h.getD 6 0,h.getD 7 0,0))
  (fun i w B hi hw=>by
   have q:decide ((i:Int)<80)=true:=aj (by omega)
   refine⟨?_,(by unfold jL; split <;> simpa using hw)⟩
   simp only[F.TA,q,am,Dr i w B hi hw]
   rw[show F.QQ (w.getD (i - 15) 0) (-1)=_ from mY _ 1 (by omega) (by omega),aa,show F.QQ (w.getD (i - 15) 0) (-8)=_ from mY _ 8 (by omega) (by omega),aa,
    show F.QQ (w.getD (i - 2) 0) (-19)=_ from mY _ 19 (by omega) (by omega),aa,show F.QQ (w.getD (i - 2) 0) (-61)=_ from mY _ 61 (by omega) (by omega),aa,
    cd (show i<w.length by omega),aa,aM,wI1 i (by omega),aq]
   simp only[jL,show ¬i<16 by omega,ak,JI]
   rfl)
  (fun w hw=>by
   have g:∀k:Nat,k<8->au h (k:Int)=some (h.getD k 0):=fun k hk=>bv (by omega) 0
   have R:=g 0 (by omega); have U:=g 1 (by omega); have V:=g 2 (by omega); have g3:=g 3 (by omega); have g4:=g 4 (by omega); have Y:=g 5 (by omega); have Z:=g 6 (by omega); have g7:=g 7 (by omega)
   simp only[F.TA,show decide (((80:Nat):Int)<80)=false from rfl,ai,ak]
   rw[show au h (0:Int)=_ from R,aa,show au h (1:Int)=_ from U,aa,show au h (2:Int)=_ from V,aa,show au h (3:Int)=_ from g3,aa,show au h (4:Int)=_ from g4,aa,show au h (5:Int)=_ from Y,aa,show au h (6:Int)=_ from Z,aa,show au h (7:Int)=_ from g7,aa])
  64 16 w (av _) rfl hw
 have e3:=fun (y:List UInt64) (hw:y.length=80)=>jH (f:=F.Wu h y a l rest n) (fun (v:V8 UInt64) i=>(v.1,v.2.1,v.2.2.1,v.2.2.2.1,v.2.2.2.2.1,v.2.2.2.2.2.1,v.2.2.2.2.2.2.1,v.2.2.2.2.2.2.2,(i:Int))) (fun _=>True) (JF y) 0 80
  (X:=fun v=>loop (F.V9 a l rest n v.1 v.2.1 v.2.2.1 v.2.2.2.1 v.2.2.2.2.1 v.2.2.2.2.2.1 v.2.2.2.2.2.2.1 v.2.2.2.2.2.2.2) (0,h))
  (fun i v _ hi _=>by
   have q:decide ((i:Int)<80)=true:=aj (by omega)
   refine⟨?_,trivial⟩
   simp only[F.Wu,q,am]
   rw[show F.QQ v.2.2.2.2.1 (-14)=_ from mY _ 14 (by omega) (by omega),aa,show F.QQ v.2.2.2.2.1 (-18)=_ from mY _ 18 (by omega) (by omega),aa,show F.QQ v.2.2.2.2.1 (-41)=_ from mY _ 41 (by omega) (by omega),aa,
    Lo,bv (show i<F.Xh.length from hi) 0,aa,bv (show i<y.length by omega) 0,aa,aM,
    show F.QQ v.1 (-28)=_ from mY _ 28 (by omega) (by omega),aa,show F.QQ v.1 (-34)=_ from mY _ 34 (by omega) (by omega),aa,show F.QQ v.1 (-39)=_ from mY _ 39 (by omega) (by omega),aa,aM,PG,OF,wI1 i (by omega)]
   rfl)
  (fun v _=>rfl) 80 0 (ofL 0 h) (av _) rfl trivial
 have e4:=fun (v:V8 UInt64)=>jH (f:=F.V9 a l rest n v.1 v.2.1 v.2.2.1 v.2.2.2.1 v.2.2.2.2.1 v.2.2.2.2.2.1 v.2.2.2.2.2.2.1 v.2.2.2.2.2.2.2) (fun h i=>((i:Int),h)) (fun h=>h.length=8) (uf (toL v)) 0 8
  (X:=fun h=>some (a,l,h,rest,n))
  (fun i h _ hi hh=>by
   have q:decide ((i:Int)<8)=true:=aj (by omega)
   refine⟨?_,vf _ i h hh⟩
   simp only[F.V9,q,am]
   rw[bv (l:=[v.1,v.2.1,v.2.2.1,v.2.2.2.1,v.2.2.2.2.1,v.2.2.2.2.2.1,v.2.2.2.2.2.2.1,v.2.2.2.2.2.2.2]) (show i<8 from hi) 0,aa,bv (show i<h.length by omega) 0,aa,aa,aM,wI1 i (by omega),aq]
   rfl)
  (fun h hh=>rfl) 8 0 h (av _) rfl hh
 refine I.trans ?_
 refine (O _ (f8 np (jL rest) (fun i x hx=>rG rest i x hx) 16 0 _ vQ).1).trans ?_
 rw[<-xW]
 refine (e3 _ ((FT rest).1)).trans ?_
 exact e4 _
theorem IV (m:Nat) (h:m<18446744073709551616):(UInt64.ofInt (m:Int)).toNat=m:=by
 simp[UInt64.ofInt,bL]
 omega
theorem ni {b:Y3} {k n:Nat} (h:k<n):(b.take n).getD k 0=b.getD k 0:=by
 rw[ao,bK,ah h,ao]
theorem Bv (h:Y0) (b:Y3):pW h (b.take 64)=pW h b:=by
 have:mS (b.take 64)=mS b:=by
  unfold mS
  refine ms 64 0 _ fun k y _ q=>?_
  unfold jX
  split
  ·rename_i j
   simp only[Bj]
   rw[ni (by omega),ni (by omega),ni (by omega),ni (by omega)]
  ·rfl
 unfold pW
 rw[this]
theorem BM (h:List UInt64) (b:Y3):pV h (b.take 128)=pV h b:=by
 have:mC (b.take 128)=mC b:=by
  unfold mC
  refine ms 80 0 _ fun k y _ A=>?_
  unfold jL
  split
  ·rename_i q
   have:uR (b.take 128) k=uR b k:=ms 8 0 _ fun j x _ B=>by
    simp only[AS]
    rw[ni (by omega)]
   rw[this]
  ·rfl
 unfold pV
 rw[this]
abbrev HS:=Y0×List UInt64
def Bk (a:Int):Nat:=if a=1 then 64 else 128
def mix (a:Int) (H:HS) (b:Y3):HS:=if a=1 then (pW H.1 b,H.2) else (H.1,pV H.2 b)
theorem tj (a:Int) (H:HS) (b:Y3):mix a H (b.take (Bk a))=mix a H b:=by
 unfold mix Bk
 split
 ·rw[Bv]
 ·rw[BM]
theorem KH (a:Int) (H:HS) (b:Y3) (h:H.1.length=8/\H.2.length=8):(mix a H b).1.length=8/\(mix a H b).2.length=8:=by
 unfold mix
 split
 ·exact⟨H7 _ _ h.1,h.2⟩
 ·exact⟨h.1,Eo _ _ h.2⟩
def nE (a:Int) (H:HS) (D:Y3) (k:Nat):HS:=(List.range' 0 k).foldl (fun H i=>mix a H (D.drop (Bk a*i))) H
theorem AJ (a:Int) (H:HS) (D:Y3) (k:Nat) (h:H.1.length=8/\H.2.length=8):(nE a H D k).1.length=8/\(nE a H D k).2.length=8:=
 mR (fun H:HS=>H.1.length=8/\H.2.length=8) _ (fun i x hx=>KH a x _ hx) k 0 _ h
theorem Gs (a:Int) (H:HS) (D:Y3) (k:Nat):nE a H D (k+1)=mix a (nE a H D k) (D.drop (Bk a*k)):=by
 unfold nE
 rw[List.range'_concat,List.foldl_append]
 simp
theorem zw (a:Int) (H:HS) (D E:Y3) (k:Nat) (h:Bk a*k<=D.length):nE a H (D++E) k=nE a H D k:=by
 unfold nE
 refine ms k 0 _ fun i x _ hi=>?_
 have j:Bk a*(i+1)<=Bk a*k:=bo _ (by omega)
 rw[aG,cH]at j
 rw[<-tj,<-tj a x (D.drop _),List.drop_append_of_le_length (by omega),List.take_append_of_le_length (by simp; omega)]
def Inv (a:Int) (H0:HS) (D:Y3) (s:Y0) (l:List UInt64) (rest:Y3) (n:UInt64):Prop:=
 (s,l)=nE a H0 D (D.length / Bk a)/\rest.length=128/\rest.take (D.length%Bk a)=D.drop (Bk a*(D.length / Bk a))/\n=UInt64.ofNat D.length
theorem IT (a:Int) (s:Y0) (l:List UInt64) (rest:Y3) (n:UInt64) (hs:s.length=8) (hl:l.length=8) (j:rest.length=128) :
  F.TC a s l rest n=some (a,(mix a (s,l) rest).1,(mix a (s,l) rest).2,rest,n):=by
 unfold F.TC mix
 by_cases h:a=1
 ·have e:(a == 1)=true:=by simpa using h
  rw[e,ah rfl,ah h,D4 a s l rest n hs j]; rfl
 ·have e:(a == 1)=false:=by simpa using h
  rw[e,ae (by simp),ae h,Dk a l s rest n hl j]; rfl
theorem Eu (a:Int) (H0:HS) (h0:H0.1.length=8/\H0.2.length=8):∀(m:Nat) (b D:Y3) (s:Y0) (l:List UInt64) (rest:Y3) (n:UInt64),b.length=m->D.length+b.length<=1000000000000000->Inv a H0 D s l rest n ->
  ∃N l' U n',loop (F.SN ((Bk a:Nat):Int)) (b,a,s,l,rest,n)=some (a,N,l',U,n')/\Inv a H0 (D++b) N l' U n':=by
 intro m
 induction m using Nat.strongRecOn with
 | ind m ih=>
  intro b D s l rest n hm hD hI
  obtain⟨Y,hr,Z,hn⟩:=hI
  have O:=AJ a H0 D (D.length / Bk a) h0
  rw[<-Y]at O
  have hB:Bk a=64\/Bk a=128:=by unfold Bk; split <;> simp
  by_cases hb:b=[]
  ·subst hb
   refine⟨s,l,rest,n,bP rfl,?_⟩
   rw[bR]; exact⟨Y,hr,Z,hn⟩
  ·have dy:0<b.length:=d8.2 hb
   -- numbers
   obtain⟨B,j⟩:∃B,Bk a=B:=⟨_,rfl⟩
   rw[j]at hB Z Y
   have b9:D.length%B<B:=bM _ (by omega)
   have bT:=cQ D.length B
   obtain⟨q,hq⟩:∃q,D.length / B=q:=⟨_,rfl⟩
   obtain⟨t,ab⟩:∃t,D.length%B=t:=⟨_,rfl⟩
   rw[hq,ab]at bT
   rw[ab]at b9 Z
   rw[hq]at Z Y
   have cm:(UInt64.ofInt ((B:Nat):Int)).toNat=B:=by rcases hB with rfl | rfl <;> rfl
   have ct:¬(UInt64.ofInt ((B:Nat):Int))=0:=by rcases hB with rfl | rfl <;> decide
   have hN:n.toNat=D.length:=by rw[hn,bL]; omega
   have b6:(n%UInt64.ofInt ((B:Nat):Int)).toNat=t:=by rw[dH,hN,cm,ab]
   obtain⟨k,hk⟩:∃k,min b.length (B - t)=k:=⟨_,rfl⟩
   have b2:0<k/\k<=b.length/\k<=B - t:=by omega
   have c3:cpL rest b t B=rest.take t++b.take k++rest.drop (t+k):=by
    unfold cpL
    rw[hk]
    congr 2
    by_cases h:b.length<=B - t
    ·rw[aA h,aA (by omega)]
    ·congr 1; omega
   have ac:(cpL rest b t B).length=128:=by rw[ka _ _ _ _ (by omega) (by omega),hr]
   have dX:D.length=B*q+t:=bT.symm
   have V:(D++b.take k).drop (B*q)=rest.take t++b.take k:=by
    rw[List.drop_append_of_le_length (by omega),Z]
   have ad:(cpL rest b t B).take (t+k)=rest.take t++b.take k:=by
    rw[c3,fu (by simp; omega)]
   have b3:n+UInt64.ofInt ((k:Nat):Int)=UInt64.ofNat (D++b.take k).length:=by
    apply cA.1
    rw[fI,hN,bL,IV k (by omega)]
    simp; omega
   have R:∀N l':_,Inv a H0 (D++b.take k) N l' (cpL rest b t B) (n+UInt64.ofInt ((k:Nat):Int))->∃G I X J,loop (F.SN ((Bk a:Nat):Int)) (b.drop k,a,N,l',cpL rest b t B,n+UInt64.ofInt ((k:Nat):Int))=some (a,G,I,X,J)/\Inv a H0 (D++b) G I X J:=by
    intro N l' c4
    obtain⟨G,I,r2,J,h1,h2⟩:=ih (b.drop k).length (by simp; omega) (b.drop k) (D++b.take k) N l' _ _ rfl (by simp; omega) c4
    refine⟨G,I,r2,J,h1,?_⟩
    rwa [aP,cD]at h2
   rw[j]at R ⊢
   have c1:decide ((0:Int)<(b.length:Int))=true:=aj (by omega)
   have w1:wI ((t:Nat):Int)=((t:Nat):Int):=aO (by omega) (by omega)
   have y:F.SN ((B:Nat):Int) (b,a,s,l,rest,n) =
     if (wI ((t:Int)+(k:Int)) == (B:Int))=true then (af (F.TC a s l (cpL rest b t B) (n+UInt64.ofInt ((k:Nat):Int))) fun x=>bV (b.drop k,x.1,x.2.1,x.2.2.1,x.2.2.2.1,x.2.2.2.2))
     else bV (b.drop k,a,s,l,cpL rest b t B,n+UInt64.ofInt ((k:Nat):Int)):=by
    simp only[F.SN,c1,am,grd_true _ ct,aM,b6,w1]
    rw[kU (by omega) (by omega),aa]
    simp only[aq,hk]
    rw[zn (by omega),aa]
   have w2:wI ((t:Int)+(k:Int))=((t+k:Nat):Int):=by rw[aO (by omega) (by omega)]; simp
   rw[w2]at y
   by_cases hfull:t+k=B
   ·have e:(((t+k:Nat):Int) == (B:Int))=true:=by simp[hfull]
    rw[e,ah rfl,IT a s l _ _ O.1 O.2 ac,aa]at y
    obtain⟨G,I,r2,J,h1,h2⟩:=R (mix a (s,l) (cpL rest b t B)).1 (mix a (s,l) (cpL rest b t B)).2 (by
     have A:(D++b.take k).length=B*(q+1):=by rw[ay,aQ,bm b2.2.1,aG]; omega
     have hd:(D++b.take k).length / B=q+1:=by rw[A,Nat.mul_div_cancel_left _ (by omega)]
     have bx:(D++b.take k).length%B=0:=by rw[A,Nat.mul_mod_right]
     refine⟨?_,ac,?_,b3⟩
     ·rw[j,hd,Gs,zw a H0 D _ q (by rw[j]; omega),<-Y,j,V,<-ad,hfull,<-j,tj]
     ·rw[j,bx,hd,gS,cu (by rw[A]; exact av _)])
    exact⟨G,I,r2,J,(bB y).trans h1,h2⟩
   ·have e:(((t+k:Nat):Int) == (B:Int))=false:=by simp; omega
    rw[e,ae (by simp)]at y
    obtain⟨G,I,r2,J,h1,h2⟩:=R s l (by
     have b4:t+k<B:=by omega
     have A:(D++b.take k).length=t+k+B*q:=by rw[ay,aQ,bm b2.2.1]; omega
     have hd:(D++b.take k).length / B=q:=by rw[A,gG _ _ (by omega),cp b4]; simp
     have bx:(D++b.take k).length%B=t+k:=by rw[A,gF,ax b4]
     refine⟨?_,ac,?_,b3⟩
     ·rw[j,hd,zw a H0 D _ q (by rw[j]; omega),<-Y]
     ·rw[j,bx,hd,ad,V])
    exact⟨G,I,r2,J,(bB y).trans h1,h2⟩
theorem zy (a:Int) (h:a=1\/a=2\/a=3):F.VJ a=some ((Bk a:Nat):Int):=by
 rcases h with rfl | rfl | rfl <;> rfl
theorem zJ (a:Int) (A:a=1\/a=2\/a=3) (H0:HS) (B:H0.1.length=8/\H0.2.length=8) (b D:Y3) (s:Y0) (l:List UInt64) (rest:Y3) (n:UInt64) (G:D.length+b.length<=1000000000000000) (I:Inv a H0 D s l rest n) :
  ∃q l' j y,F.SC a s l rest n b=some (a,q,l',j,y)/\Inv a H0 (D++b) q l' j y:=by
 unfold F.SC
 rw[zy a A,aa]
 exact Eu a H0 B _ b D s l rest n rfl G I
def zc (B r:Nat):Nat:=(2*B - B / 8 - (r+1))%B
def nI (n:UInt64) (i:Nat):UInt8:=if i<8 then (bb (c9 n 3) (8*i)).toUInt8 else if i=8 then (bb n 61).toUInt8 else 0
def mD (B:Nat) (D:Y3):Y3:=([128]++List.replicate (zc B (D.length%B)) 0)++(List.range' 0 (B / 8)).map (fun i=>nI (UInt64.ofNat D.length) (B / 8 - 1 - i))
def q32 (v:UInt32):Y3:=[(ff v 24).toUInt8,(ff v 16).toUInt8,(ff v 8).toUInt8,v.toUInt8]
def q64 (v:UInt64):Y3:=(List.range' 0 8).map (fun j=>(bb v (56 - 8*j)).toUInt8)
def Jq (s:Y0):Y3:=(List.range' 0 8).foldl (fun x i=>x++q32 (s.getD i 0)) []
def DS (s:List UInt64):Y3:=(List.range' 0 8).foldl (fun x i=>x++q64 (s.getD i 0)) []
def Sz (a:Int):Nat:=if a=1 then 32 else if a=2 then 48 else 64
def uv (a:Int) (H:HS):Y3:=if a=1 then Jq H.1 else (DS H.2).take (Sz a)
def H0 (a:Int):HS:=if a=1 then (F.YA,List.replicate 8 0) else if a=2 then (List.replicate 8 0,F.YB) else (List.replicate 8 0,F.Yy)
theorem y8 (a:Int):(H0 a).1.length=8/\(H0 a).2.length=8:=by
 unfold H0
 split
 ·exact⟨rfl,rfl⟩
 ·split <;> exact⟨rfl,rfl⟩
def mi (a:Int) (D:Y3):Y3:=uv a (nE a (H0 a) (D++mD (Bk a) D) ((D++mD (Bk a) D).length / Bk a))
theorem tG {β:Type} (f:Nat->List β):∀(r i:Nat) (x:List β),(List.range' i r).foldl (fun x i=>x++f i) x=x++(List.range' i r).flatMap f
 | 0,i,x=>by simp
 | r+1,i,x=>by
  rw[gW,d9,tG f r (i+1),dM,aP]
theorem Cp (v:UInt64):(q64 v).length=8:=by simp[q64]
theorem Fm (s:List UInt64):(DS s).length=64:=by
 unfold DS
 have:=f8 (fun i (x:Y3)=>x.length=8*i) (fun x i=>x++q64 (s.getD i 0)) (fun i x hx=>by simp only[ay,Cp,hx]; omega) 8 0 [] rfl
 simpa using this
theorem H1 (B:Nat) (D:Y3):(mD B D).length=1+zc B (D.length%B)+B / 8:=by simp[mD]; omega
theorem E4 (a:Int) (D:Y3):(D++mD (Bk a) D).length%Bk a=0/\(mD (Bk a) D).length<=300:=by
 rw[ay,H1]
 have j:Bk a=64\/Bk a=128:=by unfold Bk; split <;> simp
 have q:=bM D.length (show 0<Bk a by omega)
 have hd:=cQ D.length (Bk a)
 rcases j with h | h <;> rw[h]at q hd ⊢ <;> unfold zc <;> omega
theorem L9 (a:Int) (Z:a=1\/a=2\/a=3) (s:Y0) (l:List UInt64) (rest:Y3) (n:UInt64) (x:Y3) (hx:x.length<=1000) :
  loop (F.SZ a s l rest n) (x,(((Bk a / 8 - 1:Nat)):Int))=(af (F.SC a s l rest n (x++(List.range' 0 (Bk a / 8)).map (fun i=>nI n (Bk a / 8 - 1 - i)))) fun A=>
   if (A.1 == 1)=true then loop (F.UF a s l rest n A) ([],0) else loop (F.S4 a s l rest n A) ([],0)):=by
 have U:Bk a / 8=8\/Bk a / 8=16:=by unfold Bk; split <;> simp
 obtain⟨j,O⟩:∃q,Bk a / 8=q:=⟨_,rfl⟩
 rw[O]at U ⊢
 have:=ft (f:=F.SZ a s l rest n) (fun (y:Y3) i=>(y,(j:Int) - 1 - (i:Int))) (fun i y=>y.length=x.length+i) (fun y i=>y++[nI n (j - 1 - i)]) 0 j
  (X:=fun y=>(af (F.SC a s l rest n y) fun A=>if (A.1 == 1)=true then loop (F.UF a s l rest n A) ([],0) else loop (F.S4 a s l rest n A) ([],0)))
  (fun i y _ hi R=>by
   have B:decide ((0:Int)<=((j - 1 - i:Nat):Int))=true:=aj (by omega)
   have V:(j:Int) - 1 - (i:Int)=((j - 1 - i:Nat):Int):=by omega
   have G:∀c:UInt8,F.TX y ((j - 1 - i:Nat):Int) c=some (.inl (y++[c],(j:Int) - 1 - ((i+1:Nat):Int))):=fun c=>by
    simp only[F.TX]
    rw[ir (by simp; omega),aa,aO (by omega) (by omega),show ((j - 1 - i:Nat):Int) - 1=(j:Int) - 1 - ((i+1:Nat):Int) by omega]
    rfl
   refine⟨?_,by simp[R]; omega⟩
   simp only[F.SZ,V,B,am]
   by_cases h8:j - 1 - i<8
   ·have I:decide (((j - 1 - i:Nat):Int)<8)=true:=aj (by omega)
    have Y:wI (8*((j - 1 - i:Nat):Int))=((8*(j - 1 - i):Nat):Int):=by rw[aO (by omega) (by omega)]; omega
    simp only[I,am,Y]
    rw[grd_true _ (by omega),aM,aq,G]
    simp only[nI,h8,am]
   ·have I:decide (((j - 1 - i:Nat):Int)<8)=false:=az (by omega)
    simp only[I,ai,ak]
    by_cases h9:j - 1 - i=8
    ·have J:(((j - 1 - i:Nat):Int) == 8)=true:=by rw[h9]; rfl
     have N:nI n (j - 1 - i)=(bb n 61).toUInt8:=by unfold nI; rw[ae h8,ah h9]
     simp only[J,am,G,N]
    ·have J:(((j - 1 - i:Nat):Int) == 8)=false:=by simp; omega
     have N:nI n (j - 1 - i)=0:=by unfold nI; rw[ae h8,ae h9]
     simp only[J,ai,ak,G,N])
  (fun y R=>by
   have B:decide ((0:Int)<=(j:Int) - 1 - ((j:Nat):Int))=false:=az (by omega)
   simp only[F.SZ,B,ai,ak])
  j 0 x (av _) (by omega) rfl
 have e:(j:Int) - 1 - ((0:Nat):Int)=((j - 1:Nat):Int):=by omega
 rw[e]at this
 refine this.trans ?_
 have hf:=tG (fun i=>[nI n (j - 1 - i)]) j 0 x
 simp only[hf]
 have hm:∀r:Y4,r.flatMap (fun i=>[nI n (j - 1 - i)])=r.map (fun i=>nI n (j - 1 - i)):=fun r=>by
  induction r with
  | nil=>rfl
  | cons p r ih=>rw[dM,ih]; rfl
 rw[hm]
theorem MO (a:Int) (O:a=1\/a=2\/a=3) (D:Y3) (s:Y0) (l:List UInt64) (rest:Y3) (n:UInt64) (hD:D.length<=900000000000000) (hI:Inv a (H0 a) D s l rest n) :
  F.VQ a s l rest n=some (mi a D,a,s,l,rest,n):=by
 unfold F.VQ
 rw[zy a O,aa]
 obtain⟨B,q⟩:∃B,Bk a=B:=⟨_,rfl⟩
 have R:B=64\/B=128:=by rw[<-q]; unfold Bk; split <;> simp
 have hn:=hI.2.2.2
 obtain⟨t,ht⟩:∃t,D.length%B=t:=⟨_,rfl⟩
 have c4:t<B:=by rw[<-ht]; exact bM _ (by omega)
 have aS:(UInt64.ofInt ((B:Nat):Int)).toNat=B:=by rcases R with rfl | rfl <;> rfl
 have V:¬(UInt64.ofInt ((B:Nat):Int))=0:=by rcases R with rfl | rfl <;> decide
 have I:¬((B:Nat):Int)=0:=by omega
 have hN:n.toNat=D.length:=by rw[hn,bL]; omega
 have ac:(n%UInt64.ofInt ((B:Nat):Int)).toNat=t:=by rw[dH,hN,aS,ht]
 have hq:Int.tdiv ((B:Nat):Int) 8=((B / 8:Nat):Int):=by rcases R with rfl | rfl <;> rfl
 have w8:wI ((B / 8:Nat):Int)=((B / 8:Nat):Int):=aO (by omega) (by omega)
 have w9:wI (((B:Nat):Int) - ((B / 8:Nat):Int))=((B - B / 8:Nat):Int):=by rw[aO (by omega) (by omega)]; omega
 have wt:wI ((t:Nat):Int)=((t:Nat):Int):=aO (by omega) (by omega)
 have J:∀j:Nat,j<=zc B t->(Int.tmod (wI (wI ((n%UInt64.ofInt ((B:Nat):Int)).toNat:Int)+((([128]++List.replicate j 0:Y3)).length:Int))) ((B:Nat):Int) != wI (((B:Nat):Int) - wI (Int.tdiv ((B:Nat):Int) 8)))=decide (j≠zc B t):=by
  intro j hj
  have hz:zc B t<B:=bM _ (by omega)
  rw[ac,wt,hq,w8,w9]
  have hl:((([128]++List.replicate j 0:Y3)).length:Int)=((1+j:Nat):Int):=by simp; omega
  rw[hl,aO (by omega) (by omega),show ((t:Nat):Int)+((1+j:Nat):Int)=((t+(1+j):Nat):Int) by omega]
  have hm:Int.tmod ((t+(1+j):Nat):Int) ((B:Nat):Int)=(((t+(1+j))%B:Nat):Int):=rfl
  rw[hm]
  have Y:(t+(1+j))%B=B - B / 8↔j=zc B t:=by
   unfold zc at hj hz ⊢
   rcases R with rfl | rfl <;> omega
  by_cases h:j=zc B t
  ·have:=Y.2 h
   rw[this]; simp[h]
  ·have:¬(t+(1+j))%B=B - B / 8:=fun h'=>h (Y.1 h')
   simp only[h,ne_eq,iD,ib,iE]
   omega
 have c5:zc B t<B:=bM _ (by omega)
 have e1:=jH (f:=F.VV n ((B:Nat):Int) a s l rest) (fun (_:Unit) i=>([128]++List.replicate i 0:Y3)) (fun _=>True) (fun _ _=>()) 0 (zc B t)
  (X:=fun _=>loop (F.SZ a s l rest n) ([128]++List.replicate (zc B t) 0,((B / 8 - 1:Nat):Int)))
  (fun i _ _ hi _=>by
   refine⟨?_,trivial⟩
   unfold F.VV
   simp only
   rw[grd_true _ V,grd_true _ I,J i (by omega),ah (aj (by omega)),ir (by simp; omega),aa]
   simp only[aP,gL]
   rfl)
  (fun _ _=>by
   unfold F.VV
   simp only
   rw[grd_true _ V,grd_true _ I,J _ (av _),ae (by simp),aM,hq,w8,aO (by omega) (by omega),show ((B / 8:Nat):Int) - 1=((B / 8 - 1:Nat):Int) by omega])
  (zc B t) 0 () (av _) (by omega) trivial
 rw[q]
 refine e1.trans ?_
 have Z:=L9 a O s l rest n ([128]++List.replicate (zc B t) 0) (by simp; omega)
 rw[q]at Z
 refine Z.trans ?_
 have ad:([128]++List.replicate (zc B t) 0)++(List.range' 0 (B / 8)).map (fun i=>nI n (B / 8 - 1 - i))=mD B D:=by
  unfold mD
  rw[ht,hn]
 have hpl:=(E4 a D).2
 rw[ad]
 rw[q]at hpl
 obtain⟨U,l',r',n',hw,b5⟩:=zJ a O (H0 a) (y8 a) (mD B D) D s l rest n (by omega) hI
 rw[hw,aa]
 have G:=b5.1
 rw[q]at G
 have A:=AJ a (H0 a) (D++mD B D) ((D++mD B D).length / B) (y8 a)
 rw[<-G]at A
 by_cases h1:a=1
 ·have c1:(a == 1)=true:=by simpa using h1
  simp only[c1,am]
  have e3:=ft (f:=F.UF a s l rest n (a,U,l',r',n')) (fun (x:Y3) i=>(x,(i:Int))) (fun i x=>x.length=4*i) (fun x i=>x++q32 (U.getD i 0)) 0 8
   (X:=fun x=>some (x,a,s,l,rest,n))
   (fun i x _ hi hx=>by
    have N:decide ((i:Int)<8)=true:=aj (by omega)
    refine⟨?_,by simp[hx,q32]; omega⟩
    simp only[F.UF,N,am]
    rw[bv (show i<U.length by have:=A.1; simp only at this; omega) 0,aa,ir (by simp; omega),aa,wI1 i (by omega)]
    rfl)
   (fun x _=>rfl) 8 0 [] (av _) rfl rfl
  refine e3.trans ?_
  unfold mi uv
  rw[ah h1,q,<-G]
  rfl
 ·have c1:(a == 1)=false:=by simpa using h1
  simp only[c1,ai,ak]
  have e5:=fun (i:Nat) (x:Y3) (v:UInt64) (hi:i<8) (hx:x.length=8*i)=>ft (f:=F.VI (i:Int) v) (fun (x:Y3) j=>(x,(56:Int) - 8*(j:Int))) (fun j y=>y.length=8*i+j) (fun y j=>y++[(bb v (56 - 8*j)).toUInt8]) 0 8
   (X:=fun y=>(some (.inl (y,((i+1:Nat):Int))):Option ((Y3×Int)⊕(Y3×Int×Y0×List UInt64×Y3×UInt64))))
   (fun j y _ hj hy=>by
    have N:decide ((0:Int)<=56 - 8*(j:Int))=true:=aj (by omega)
    refine⟨?_,by simp[hy]; omega⟩
    simp only[F.VI,N,am]
    rw[grd_true _ (by omega),ir (by simp; omega),aa,show ((56:Int) - 8*(j:Int)).toNat=56 - 8*j by omega,aO (by omega) (by omega),show (56:Int) - 8*(j:Int) - 8=56 - 8*((j+1:Nat):Int) by omega]
    rfl)
   (fun y _=>by
    simp only[F.VI,show decide ((0:Int)<=56 - 8*((8:Nat):Int))=false from rfl,ai,ak,wI1 i (by omega)]
    rfl) 8 0 x (av _) rfl (by omega)
  have b6:F.RE a=some ((Sz a:Nat):Int)/\Sz a<=64:=by
   rcases O with rfl | rfl | rfl
   ·exact absurd rfl h1
   ·exact⟨rfl,by decide⟩
   ·exact⟨rfl,by decide⟩
  have e4:=ft (f:=F.S4 a s l rest n (a,U,l',r',n')) (fun (x:Y3) i=>(x,(i:Int))) (fun i x=>x.length=8*i) (fun x i=>x++q64 (l'.getD i 0)) 0 8
   (X:=fun x=>some (x.take (Sz a),a,s,l,rest,n))
   (fun i x _ hi hx=>by
    have N:decide ((i:Int)<8)=true:=aj (by omega)
    refine⟨?_,by simp only[ay,Cp,hx]; omega⟩
    simp only[F.S4,N,am]
    rw[bv (show i<l'.length by have:=A.2; simp only at this; omega) 0,aa]
    refine (e5 i x _ hi hx).trans ?_
    have hf:=tG (fun j=>[(bb (l'.getD i 0) (56 - 8*j)).toUInt8]) 8 0 x
    simp only[hf]
    have:(List.range' 0 8).flatMap (fun j=>[(bb (l'.getD i 0) (56 - 8*j)).toUInt8])=q64 (l'.getD i 0):=rfl
    rw[this])
   (fun x hx=>by
    simp only[F.S4,show decide (((8:Nat):Int)<8)=false from rfl,ai,ak]
    rw[b6.1,aa,aa,grd_true _ ⟨by omega,by rw[aq]; omega,rfl⟩,aq])
   8 0 [] (av _) rfl rfl
  refine e4.trans ?_
  unfold mi uv
  rw[ae h1,q,<-G]
  rfl
theorem MD (a:Int) (j:a=1\/a=2\/a=3):F.W4 a=some (some (a,(H0 a).1,(H0 a).2,List.replicate 128 0,0)):=by
 rcases j with rfl | rfl | rfl <;> rfl
theorem PE (a:Int):Inv a (H0 a) [] (H0 a).1 (H0 a).2 (List.replicate 128 0) 0:=by
 refine⟨?_,by simp,by simp,rfl⟩
 simp[nE]
theorem DF (a:Int) (B:a=1\/a=2\/a=3) (j:List Y3) (hl:j.length<=1000) (V:j.flatten.length<=900000000000000):F.TR a j=some (mi a j.flatten):=by
 unfold F.TR
 rw[MD a B,aa]
 show loop (F.SF j) (0,a,(H0 a).1,(H0 a).2,List.replicate 128 0,0)=_
 have I:∀(r i:Nat) (s:Y0) (l:List UInt64) (rest:Y3) (n:UInt64),i+r=j.length->Inv a (H0 a) (j.take i).flatten s l rest n->loop (F.SF j) ((i:Int),a,s,l,rest,n)=some (mi a j.flatten):=by
  intro r
  induction r with
  | zero=>
   intro i s l rest n hi G
   have hd:decide ((i:Int)<(j.length:Int))=false:=az (by omega)
   have J:Inv a (H0 a) j.flatten s l rest n:=by rwa [aA (by omega)]at G
   refine bP (r:=mi a j.flatten) ?_
   simp only[F.SF,hd,ai,ak]
   rw[MO a B _ s l rest n V J,aa]
   rfl
  | succ r ih=>
   intro i s l rest n hi G
   have hd:decide ((i:Int)<(j.length:Int))=true:=aj (by omega)
   have q:i<j.length:=by omega
   have y:(j.take (i+1)).flatten=(j.take i).flatten++j[i]:=by rw[dL q,List.flatten_append]; simp
   have N:(j.take (i+1)).flatten.length<=j.flatten.length:=by
    have:j.flatten=(j.take (i+1)).flatten++(j.drop (i+1)).flatten:=by rw[<-List.flatten_append,cD]
    rw[this,ay]; omega
   rw[y,ay]at N
   obtain⟨O,l',R,U,hw,A⟩:=zJ a B (H0 a) (y8 a) j[i] _ s l rest n (by omega) G
   rw[<-y]at A
   have hs:F.SF j ((i:Int),a,s,l,rest,n)=some (.inl (((i+1:Nat):Int),a,O,l',R,U)):=by
    simp only[F.SF,hd,am]
    rw[cd q,aa,hw,aa,wI1 i (by omega)]
    rfl
   rw[bB hs]
   exact ih (i+1) O l' R U (by omega) A
 exact I j.length 0 _ _ _ _ (by omega) (by simpa using PE a)
end Go.Gk.Sh
end
section
namespace Go.Gk.Bn
open Go Go.Gk
def val:Y0->Nat
 | []=>0
 | x :: l=>x.toNat+4294967296*val l
theorem iI:val []=0:=rfl
theorem gg (x:UInt32) (l:Y0):val (x :: l)=x.toNat+4294967296*val l:=rfl
theorem eH (x:UInt32):x.toNat<4294967296:=x.toNat_lt
theorem mr:∀(a b:Y0),val (a++b)=val a+4294967296^a.length*val b
 | [],b=>by simp[val]
 | x :: a,b=>by
  rw[di,gg,mr a b,gg,cg,bn,aG,<-eo]
  congr 1
  rw[<-aF,aN 4294967296 (4294967296^a.length)]
theorem cG:∀l:Y0,val l<4294967296^l.length
 | []=>by simp[val]
 | x :: l=>by
  have j:=cG l
  have q:=eH x
  rw[gg,cg,bn]
  have:val l+1<=4294967296^l.length:=j
  have:=bo 4294967296 this
  omega
theorem gU (l:Y0) (k:Nat) (h:k<=l.length):val l=val (l.take k)+4294967296^k*val (l.drop k):=by
 have:=mr (l.take k) (l.drop k)
 rw[cD,aQ,bm h]at this
 exact this
theorem gn:∀k:Nat,val (List.replicate k 0)=0
 | 0=>rfl
 | k+1=>by rw[List.replicate_succ,gg,gn k]; rfl
theorem mG (l:Y0) (x:UInt32):val (l++[x])=val l+4294967296^l.length*x.toNat:=by
 rw[mr,gg,iI]; simp
theorem je:∀(l:Y0) (i:Nat) (x:UInt32),i<l.length->val (l.set i x)+4294967296^i*(l.getD i 0).toNat=val l+4294967296^i*x.toNat
 | [],i,x,h=>by simp at h
 | y :: l,0,x,h=>by simp[val]; omega
 | y :: l,i+1,x,h=>by
  have B:=je l i x (by simpa using h)
  have j:(y :: l).getD (i+1) 0=l.getD i 0:=by simp
  rw[j,List.set_cons_succ,gg,gg,bn]
  have q:4294967296^i*4294967296*(l.getD i 0).toNat=4294967296*(4294967296^i*(l.getD i 0).toNat):=by rw[Nat.mul_right_comm,aN]
  have A:4294967296^i*4294967296*x.toNat=4294967296*(4294967296^i*x.toNat):=by rw[Nat.mul_right_comm,aN]
  rw[q,A]
  omega
def aw (n:Nat):Y0:=if h:n=0 then [] else UInt32.ofNat n :: aw (n / 4294967296)
termination_by n
decreasing_by exact jc (fk h) (show 1<4294967296 by decide)
theorem c8:aw 0=[]:=by rw[aw]; simp
theorem mc {n:Nat} (h:n≠0):aw n=UInt32.ofNat n :: aw (n / 4294967296):=by rw[aw]; simp[h]
theorem aC (n:Nat):val (aw n)=n:=by
 induction n using Nat.strongRecOn with
 | ind n ih=>
  by_cases h:n=0
  ·subst h; rw[c8]; rfl
  ·rw[mc h,gg,ih _ (jc (fk h) (show 1<4294967296 by decide)),dm]
   omega
def Can (l:Y0):Prop:=l.getLast?≠some 0
theorem wA:Can []:=by simp[Can]
theorem I3 {x:UInt32} {l:Y0} (h:Can (x :: l)):Can l:=by
 unfold Can at h ⊢
 cases l with
 | nil=>simp
 | cons y l=>simpa using h
theorem nc:∀l:Y0,Can l->aw (val l)=l
 | [],_=>c8
 | x :: l,h=>by
  have j:=nc l (I3 h)
  have hx:=eH x
  have q:val (x :: l)≠0:=by
   rw[gg]
   intro B
   have y:x.toNat=0:=by omega
   have A:val l=0:=by omega
   rw[A,c8]at j
   subst j
   have:x=0:=c7.1 y
   subst this
   simp[Can]at h
  rw[mc q,gg]
  congr 1
  ·apply c7.1
   rw[dm]; omega
  ·rw[show (x.toNat+4294967296*val l) / 4294967296=val l by omega,j]
theorem xu (n:Nat):Can (aw n):=by
 induction n using Nat.strongRecOn with
 | ind n ih=>
  by_cases h:n=0
  ·subst h; rw[c8]; exact wA
  ·have j:=ih _ (jc (fk h) (show 1<4294967296 by decide))
   rw[mc h]
   by_cases hd:n / 4294967296=0
   ·rw[hd,c8]
    unfold Can
    simp only[List.getLast?_singleton,ne_eq,dZ]
    intro q
    have:=cv UInt32.toNat q
    rw[dm]at this
    simp at this
    omega
   ·unfold Can at j ⊢
    rw[mc hd]at j ⊢
    simpa using j
theorem Mu {a b:Y0} (j:Can a) (q:Can b) (h:val a=val b):a=b:=by
 rw[<-nc a j,<-nc b q,h]
theorem xj (l:Y0) (k:Nat):val (l++List.replicate k 0)=val l:=by rw[mr,gn]; simp
theorem HP {l:Y0} {n:Nat} (h:val l=n) (hc:Can l):l=aw n:=by rw[<-h,nc l hc]
theorem ca {n k:Nat} (h:n<4294967296^k):(aw n).length<=k:=by
 induction k generalizing n with
 | zero=>simp at h; subst h; rw[c8]; simp
 | succ k ih=>
  by_cases h0:n=0
  ·subst h0; rw[c8]; simp
  ·rw[mc h0,cg]
   have:=ih (n:=n / 4294967296) (by rw[bn]at h; exact Nat.div_lt_of_lt_mul (by rwa [aN]at h))
   omega
theorem rI {n k:Nat} (h:4294967296^k<=n):k<(aw n).length:=by
 have:=cG (aw n)
 rw[aC]at this
 rcases cj k (aw n).length with j | j
 ·exact j
 ·have:=br (show 0<4294967296 by decide) j
  omega
theorem sA {a b:Y0} (A:Can b) (h:a.length<b.length):val a<val b:=by
 have B:=cG a
 have j:b≠[]:=by rintro rfl; simp at h
 have hd:b=b.dropLast++[b.getLast j]:=(List.dropLast_concat_getLast j).symm
 have hl:b.getLast j≠0:=fun q=>A (by rw[List.getLast?_eq_some_getLast j,q])
 have y:1<=(b.getLast j).toNat:=by
  rcases bS (b.getLast j).toNat with q | q
  ·exact absurd (c7.1 q) hl
  ·exact q
 rw[hd,mG,List.length_dropLast]
 have G:=br (show 0<4294967296 by decide) (show a.length<=b.length - 1 by omega)
 have I:=bo (4294967296^(b.length - 1)) y
 omega
end Go.Gk.Bn
end
section
namespace Go.Gk.Bn
theorem zt {g r j q V' h y B K:Nat} (hh:h=g*j+r) (O:B<K)
  (A:4294967296<=g\/r*4294967296+y<g*q) (G:(h*4294967296+y)*K+B<4294967296*((j*4294967296+q)*K+V')) :
  (h*4294967296+y)*K+B<g*((j*4294967296+q)*K+V'):=by
 rcases A with A | A
 ·exact bg G (aR _ A)
 ·have I:h*4294967296+y+1<=g*(j*4294967296+q):=by
   subst hh
   have J:g*(j*4294967296+q)=g*j*4294967296+g*q:=by rw[aG,<-aF]
   rw[J,aW]
   omega
  have N:(h*4294967296+y+1)*K<=g*(j*4294967296+q)*K:=aR _ I
  rw[aW,cL]at N
  rw[aG,<-aF]
  omega
theorem F4 {g r j q V' h y A K:Nat} (hh:h=g*j+r) (I:V'<K) (J:1<=j)
  (N:g<4294967296) (O:g*q<=r*4294967296+y) :
  g*((j*4294967296+q)*K+V')<(h*4294967296+y)*K+A+((j*4294967296+q)*K+V'):=by
 have B:g*(j*4294967296+q)<=h*4294967296+y:=by
  subst hh
  have G:g*(j*4294967296+q)=g*j*4294967296+g*q:=by rw[aG,<-aF]
  rw[G,aW]
  omega
 have R:g*(j*4294967296+q)*K<=(h*4294967296+y)*K:=aR _ B
 have U:g*V'<=4294967295*V':=aR _ (by omega)
 have V:4294967296*K<=(j*4294967296+q)*K:=aR _ (by omega)
 rw[aG,<-aF]
 omega
end Go.Gk.Bn
end
section
namespace Go.Gk.Bn
open Go Go.Gk
theorem jQ (c:UInt64):c.toUInt32.toNat=c.toNat%4294967296:=UInt64.toNat_toUInt32 c
theorem pI (c:UInt64):(bb c 32).toNat=c.toNat / 4294967296:=by rw[iO]; rfl
theorem Dw (c:UInt64):(bb c 32).toUInt32.toNat=c.toNat / 4294967296:=by
 rw[jQ,pI,ax]
 have:=c.toNat_lt
 omega
theorem ID (c:UInt64):(bb c 63).toNat=c.toNat / 9223372036854775808:=by rw[iO]; rfl
theorem dF (x:UInt32):x.toUInt64.toNat=x.toNat:=UInt32.toNat_toUInt64 x
theorem n6 (c:UInt64):c.toNat=c.toUInt32.toNat+4294967296*(bb c 32).toNat:=by rw[jQ,pI]; omega
theorem kY (a b:UInt64) (h:a.toNat+b.toNat<18446744073709551616):(a+b).toNat=a.toNat+b.toNat:=by rw[fI]; omega
theorem rZ (a b:UInt64) (h:a.toNat*b.toNat<18446744073709551616):(a*b).toNat=a.toNat*b.toNat:=by rw[iQ]; omega
theorem mE (x:UInt32):x.toNat<=4294967295:=by have:=eH x; omega
def pad (x:Y0) (n:Nat):Y0:=x++List.replicate (n - x.length) 0
theorem lA {x:Y0} {n:Nat} (h:x.length<=n):(pad x n).length=n:=by simp[pad]; omega
theorem wg (n:Nat):pad [] n=List.replicate n 0:=by simp[pad]
theorem rY {x:Y0} {n:Nat} (h:x.length<n) (v:UInt32):(pad x n).set x.length v=pad (x++[v]) n:=by
 unfold pad
 rw[eb _ _ (av _),Nat.sub_self]
 obtain⟨k,j⟩:∃k,n - x.length=k+1:=⟨n - x.length - 1,by omega⟩
 rw[j,List.replicate_succ,List.set_cons_zero,aP]
 congr 2
 simp; omega
theorem pZ (x:Y0) (n:Nat):val (pad x n)=val x:=xj x _
theorem iP {a:Y0} {i:Nat} (h:a.length<=i):a.getD i 0=0:=by
 rw[ao,dA h]; rfl
theorem s7 {a:Y0} {i:Nat} (h:i<a.length):a.take (i+1)=a.take i++[a.getD i 0]:=by
 rw[dL h]
 congr 2
 rw[ao,aE h]; rfl
theorem cR (a:Y0) (i:Nat):val (a.take (i+1))=val (a.take i)+4294967296^i*(a.getD i 0).toNat:=by
 by_cases h:i<a.length
 ·rw[s7 h,mG,aQ,bm (by omega)]
 ·rw[aA (by omega),aA (by omega),iP (by omega)]; simp
theorem oX {a:Y0} {n:Nat} (hn:n<=a.length) (y:∀k,n<=k->a.getD k 0=0) (q:n=0\/a.getD (n - 1) 0≠0):a.take n=aw (val a):=by
 have hd:a.drop n=List.replicate (a.length - n) 0:=by
  refine List.ext_getElem (by simp) fun i j A=>?_
  have:=y (n+i) (by omega)
  rw[ao,aE (by simp at j; omega)]at this
  rw[List.getElem_drop,iy]
  exact this
 refine HP ?_ ?_
 ·conv=>rhs; rw[<-cD n a,hd,xj]
 ·unfold Can
  rcases q with rfl | q
  ·simp
  ·intro j
   by_cases h0:n=0
   ·subst h0; simp at j
   ·have hl:(a.take n).length=n:=by simp; omega
    rw[List.getLast?_eq_getElem?,hl,List.getElem?_take_of_lt (by omega)]at j
    rw[ao,j]at q
    exact q rfl
theorem FB {ρ:Type} {f:Int->Option (Int⊕ρ)} (a:Y0) (X:Int->Option ρ) (G:a.length<=4611686018427387904)
  (hf:∀n:Nat,n<=a.length->f (n:Int)=if n≠0/\a.getD (n - 1) 0=0 then some (.inl ((n - 1:Nat):Int)) else bj (X (n:Int))) :
  ∃n,n<=a.length/\a.take n=aw (val a)/\loop f (a.length:Int)=X (n:Int):=by
 have q:∀n:Nat,n<=a.length->(∀k,n<=k->a.getD k 0=0)->∃m,m<=a.length/\a.take m=aw (val a)/\loop f (n:Int)=X (m:Int):=by
  intro n
  induction n with
  | zero=>
   intro hn hz
   refine⟨0,hn,oX hn hz (.inl rfl),?_⟩
   have:=hf 0 hn
   rw[ae (by simp)]at this
   rw[mP,this]
   cases X ((0:Nat):Int) <;> rfl
  | succ n ih=>
   intro hn hz
   have h:=hf (n+1) hn
   rw[fo]at h
   by_cases h0:a.getD n 0=0
   ·rw[ah ⟨by omega,h0⟩]at h
    obtain⟨m,y,A,B⟩:=ih (by omega) fun k j=>by
     rcases Nat.eq_or_lt_of_le j with rfl | j
     ·exact h0
     ·exact hz k j
    exact⟨m,y,A,(bB h).trans B⟩
   ·rw[ae (fun hc=>h0 hc.2)]at h
    refine⟨n+1,hn,oX hn hz (.inr (by simpa using h0)),?_⟩
    rw[mP,h]
    cases X ((n+1:Nat):Int) <;> rfl
 exact q a.length (av _) fun k j=>iP j
end Go.Gk.Bn
end
section
namespace Go.Gk.Bn
open Go Go.Gk Go.Gk.Sh
theorem kM (a:Y0) (q:a.length<=4611686018427387904):F.QS a=some (aw (val a)):=by
 unfold F.QS
 obtain⟨n,hn,y,hl⟩:=FB (f:=F.WQ a) a (fun j=>grd (0<=(j:Int)/\(j:Int).toNat<=a.length) <| some (a.take ((j:Int).toNat))) q (fun n hn=>by
  unfold F.WQ F.XT
  by_cases h0:n=0
  ·subst h0
   rw[ae (by simp),ae (by simp)]
   rfl
  ·have A:wI ((n:Int) - 1)=((n - 1:Nat):Int):=by rw[aO (by omega) (by omega)]; omega
   rw[ah (aj (by omega)),A,bv (show n - 1<a.length by omega) 0,aa]
   by_cases hz:a.getD (n - 1) 0=0
   ·rw[ah (show n≠0/\a.getD (n - 1) 0=0 from⟨h0,hz⟩),ah (show (a.getD (n - 1) 0 == 0)=true from by rw[hz]; rfl)]; rfl
   ·rw[ae (show ¬(n≠0/\a.getD (n - 1) 0=0) from fun h=>hz h.2),ae (show ¬(a.getD (n - 1) 0 == 0)=true from fun h=>hz (eq_of_beq h))])
 rw[hl,grd_true _ ⟨by omega,by rw[aq]; exact hn⟩,aq,y]
theorem mK (x:UInt64):F.RI x=some (aw x.toNat):=by
 unfold F.RI
 rw[kM _ (by simp),aa,gg,gg,iI,cK,bA,Dw,<-pI,<-n6]
theorem qs {x:Y0} {n i:Nat} (hx:x.length<=n) (h:i<n):∃u,au (pad x n) (i:Int)=some u:=⟨_,bv (by rw[lA hx]; exact h) 0⟩
def ph (a b:Y0) (x:Y0×UInt64) (i:Nat):Y0×UInt64:=
 (x.1++[(x.2+(a.getD i 0).toUInt64+(b.getD i 0).toUInt64).toUInt32],bb (x.2+(a.getD i 0).toUInt64+(b.getD i 0).toUInt64) 32)
theorem zB {a b:Y0} {x:Y0×UInt64} {i:Nat} (j:x.1.length=i) (y:val x.1+4294967296^i*x.2.toNat=val (a.take i)+val (b.take i)) (A:x.2.toNat<=1) :
  (ph a b x i).1.length=i+1/\val (ph a b x i).1+4294967296^(i+1)*(ph a b x i).2.toNat=val (a.take (i+1))+val (b.take (i+1))/\(ph a b x i).2.toNat<=1:=by
 have B:=eH (a.getD i 0); have G:=eH (b.getD i 0)
 obtain⟨s,hs⟩:∃s,x.2+(a.getD i 0).toUInt64+(b.getD i 0).toUInt64=s:=⟨_,rfl⟩
 have q:s.toNat=x.2.toNat+(a.getD i 0).toNat+(b.getD i 0).toNat:=by
  rw[<-hs,kY _ _ (by rw[kY _ _ (by rw[dF]; omega),dF,dF]; omega),kY _ _ (by rw[dF]; omega),dF,dF]
 unfold ph
 rw[hs]
 refine⟨by simp[j],?_,by simp only[pI]; omega⟩
 have e:=n6 s
 simp only
 rw[mG,j,cR,cR,bn,aF]
 have:4294967296^i*s.toNat=4294967296^i*s.toUInt32.toNat+4294967296^i*(4294967296*(bb s 32).toNat):=by rw[<-aG,<-e]
 rw[q,aG,aG]at this
 omega
theorem HE (a b:Y0) (B:b.length<=a.length) (J:a.length<=70368744177663):loop (F.T7 a b) (0,0,pad [] (a.length+1))=some (aw (val a+val b)):=by
 have e:=ft (f:=F.T7 a b) (fun (x:Y0×UInt64) i=>(x.2,(i:Int),pad x.1 (a.length+1)))
  (fun i x=>x.1.length=i/\val x.1+4294967296^i*x.2.toNat=val (a.take i)+val (b.take i)/\x.2.toNat<=1) (ph a b) 0 a.length
  (X:=fun x=>F.QS ((pad x.1 (a.length+1)).set a.length x.2.toUInt32))
  (fun i x _ hi hx=>by
   obtain⟨j,q,A⟩:=hx
   refine⟨?_,zB j q A⟩
   have G:wI ((i:Int)+1)=((i+1:Nat):Int):=by rw[aO (by omega) (by omega)]; rfl
   obtain⟨u,hu⟩:=qs (x:=x.1) (n:=a.length+1) (i:=i) (by omega) (by omega)
   have hK:∀s:UInt64,s=x.2+(a.getD i 0).toUInt64+(b.getD i 0).toUInt64->F.Vb (i:Int) (pad x.1 (a.length+1)) s=some (.inl ((ph a b x i).2,((i+1:Nat):Int),pad (ph a b x i).1 (a.length+1))):=by
    rintro s rfl
    unfold F.Vb
    dsimp only
    rw[hu,aa,aM,G,aq]
    have:=rY (x:=x.1) (n:=a.length+1) (by omega) (x.2+(a.getD i 0).toUInt64+(b.getD i 0).toUInt64).toUInt32
    rw[j]at this
    rw[this]; rfl
   unfold F.T7
   dsimp only
   rw[ah (aj (by omega)),bv hi 0,aa]
   by_cases hb:i<b.length
   ·rw[ah (aj (by omega)),bv hb 0,aa,aM,hK _ rfl]
   ·rw[ae (by simp only[ar]; omega),hK _ (by rw[iP (a:=b) (i:=i) (by omega)]; exact (UInt64.add_zero _).symm)])
  (fun x hx=>by
   obtain⟨u,hu⟩:=qs (x:=x.1) (n:=a.length+1) (i:=a.length) (by omega) (by omega)
   unfold F.T7
   dsimp only
   rw[ae (by simp),hu,aa,aM,aq]
   cases F.QS ((pad x.1 (a.length+1)).set a.length x.2.toUInt32) <;> rfl)
  a.length 0 ([],0) (av _) (by omega) ⟨rfl,by simp[val],by simp⟩
 refine e.trans ?_
 obtain⟨j,q,A⟩:=f8 (fun i (x:Y0×UInt64)=>x.1.length=i/\val x.1+4294967296^i*x.2.toNat=val (a.take i)+val (b.take i)/\x.2.toNat<=1) (ph a b)
  (fun i x hx=>zB hx.1 hx.2.1 hx.2.2) a.length 0 ([],0) ⟨rfl,by simp[val],by simp⟩
 obtain⟨y,I⟩:∃y,(List.range' 0 a.length).foldl (ph a b) ([],0)=y:=⟨_,rfl⟩
 rw[I]at j q A ⊢
 rw[bh]at j q
 rw[dk,aA B]at q
 have hp:=rY (x:=y.1) (n:=a.length+1) (by omega) y.2.toUInt32
 rw[j]at hp
 rw[hp,kM _ (by rw[lA (by simp; omega)]; omega),pZ,mG,j,jQ,ax (by omega),q]
theorem uE (a b:Y0) (j:a.length<=70368744177663) (q:b.length<=70368744177663):F.S6 a b=some (aw (val a+val b)):=by
 have hK:∀a b:Y0,b.length<=a.length->a.length<=70368744177663->F.Vg (a,b)=some (aw (val a+val b)):=by
  intro a b y A
  unfold F.Vg
  dsimp only
  rw[aO (by omega) (by omega),iR (by omega),aa]
  have:(((a.length:Int)+1).toNat)=a.length+1:=by omega
  rw[this,<-wg,HE a b y A]
 unfold F.S6
 by_cases h:a.length<b.length
 ·rw[ah (aj (by omega)),hK b a (by omega) q,ch]
 ·rw[ae (by simp only[ar]; omega),hK a b (by omega) j]
theorem Hy (u v:UInt32) (c:UInt64) (hc:c.toNat<=1):((u.toUInt64 - c) - v.toUInt64).toUInt32.toNat+c.toNat+v.toNat=u.toNat+4294967296*(bb ((u.toUInt64 - c) - v.toUInt64) 63).toNat/\(bb ((u.toUInt64 - c) - v.toUInt64) 63).toNat<=1:=by
 have hu:=eH u; have j:=eH v
 rw[jQ,ID,fi,fi,dF,dF]
 omega
def l9 (a b:Y0) (x:Y0×UInt64) (i:Nat):Y0×UInt64:=
 (x.1++[((a.getD i 0).toUInt64 - x.2 - (b.getD i 0).toUInt64).toUInt32],bb ((a.getD i 0).toUInt64 - x.2 - (b.getD i 0).toUInt64) 63)
theorem z8 {a b:Y0} {x:Y0×UInt64} {i:Nat} (j:x.1.length=i) (B:val x.1+val (b.take i)=val (a.take i)+4294967296^i*x.2.toNat) (A:x.2.toNat<=1) :
  (l9 a b x i).1.length=i+1/\val (l9 a b x i).1+val (b.take (i+1))=val (a.take (i+1))+4294967296^(i+1)*(l9 a b x i).2.toNat/\(l9 a b x i).2.toNat<=1:=by
 obtain⟨q,y⟩:=Hy (a.getD i 0) (b.getD i 0) x.2 A
 unfold l9
 obtain⟨s,hs⟩:∃s,(a.getD i 0).toUInt64 - x.2 - (b.getD i 0).toUInt64=s:=⟨_,rfl⟩
 rw[hs]at q y ⊢
 refine⟨by simp[j],?_,y⟩
 simp only
 rw[mG,j,cR,cR,bn,aF]
 have:4294967296^i*(s.toUInt32.toNat+x.2.toNat+(b.getD i 0).toNat)=4294967296^i*((a.getD i 0).toNat+4294967296*(bb s 63).toNat):=by rw[q]
 rw[aG,aG,aG]at this
 omega
theorem Bs (a b:Y0) (B:b.length<=a.length) (N:val b<=val a) (O:a.length<=70368744177664):F.S2 a b=some (aw (val a - val b)):=by
 unfold F.S2
 rw[iR (by omega),aa,aq,<-wg]
 have e:=ft (f:=F.Wo a b) (fun (x:Y0×UInt64) i=>(x.2,(i:Int),pad x.1 a.length))
  (fun i x=>x.1.length=i/\val x.1+val (b.take i)=val (a.take i)+4294967296^i*x.2.toNat/\x.2.toNat<=1) (l9 a b) 0 a.length
  (X:=fun x=>F.QS (pad x.1 a.length))
  (fun i x _ hi hx=>by
   obtain⟨q,j,A⟩:=hx
   refine⟨?_,z8 q j A⟩
   have I:wI ((i:Int)+1)=((i+1:Nat):Int):=by rw[aO (by omega) (by omega)]; rfl
   obtain⟨u,hu⟩:=qs (x:=x.1) (n:=a.length) (i:=i) (by omega) (by omega)
   have hK:∀s:UInt64,s=(a.getD i 0).toUInt64 - x.2 - (b.getD i 0).toUInt64->F.UX (i:Int) (pad x.1 a.length) s=some (.inl ((l9 a b x i).2,((i+1:Nat):Int),pad (l9 a b x i).1 a.length)):=by
    rintro s rfl
    unfold F.UX
    dsimp only
    rw[hu,aa,aM,I,aq]
    have:=rY (x:=x.1) (n:=a.length) (by omega) ((a.getD i 0).toUInt64 - x.2 - (b.getD i 0).toUInt64).toUInt32
    rw[q]at this
    rw[this]; rfl
   unfold F.Wo
   dsimp only
   rw[ah (aj (by omega)),bv hi 0,aa]
   by_cases hb:i<b.length
   ·rw[ah (aj (by omega)),bv hb 0,aa,aM,hK _ rfl]
   ·rw[ae (by simp only[ar]; omega),hK _ (by rw[iP (a:=b) (i:=i) (by omega)]; exact (UInt64.sub_zero _).symm)])
  (fun x hx=>by
   unfold F.Wo
   dsimp only
   rw[ae (by simp)]
   cases F.QS (pad x.1 a.length) <;> rfl)
  a.length 0 ([],0) (av _) (by omega) ⟨rfl,by simp[val],by simp⟩
 refine e.trans ?_
 obtain⟨q,j,A⟩:=f8 (fun i (x:Y0×UInt64)=>x.1.length=i/\val x.1+val (b.take i)=val (a.take i)+4294967296^i*x.2.toNat/\x.2.toNat<=1) (l9 a b)
  (fun i x hx=>z8 hx.1 hx.2.1 hx.2.2) a.length 0 ([],0) ⟨rfl,by simp[val],by simp⟩
 obtain⟨y,J⟩:∃y,(List.range' 0 a.length).foldl (l9 a b) ([],0)=y:=⟨_,rfl⟩
 rw[J]at q j A ⊢
 rw[bh]at q j
 rw[dk,aA B]at j
 have G:=cG y.1
 rw[q]at G
 have hc:y.2.toNat=0:=by
  rcases bS y.2.toNat with h | h
  ·exact h
  ·have:y.2.toNat=1:=by omega
   rw[this,cH]at j
   omega
 rw[hc,cK,bA]at j
 rw[kM _ (by rw[lA (by omega)]; omega),pZ,show val y.1=val a - val b by omega]
theorem FD (a b:UInt32):a.toNat*b.toNat<=4294967295*4294967295:=dW (mE a) (mE b)
theorem Hw (c:UInt64) (u v r:UInt32) (hc:c.toNat<=4294967295):(c+(u.toUInt64*v.toUInt64+r.toUInt64)).toNat=c.toNat+(u.toNat*v.toNat+r.toNat):=by
 have y:=FD u v; have A:=mE r
 have j:(u.toUInt64*v.toUInt64).toNat=u.toNat*v.toNat:=by rw[rZ _ _ (by rw[dF,dF]; omega),dF,dF]
 have q:(u.toUInt64*v.toUInt64+r.toUInt64).toNat=u.toNat*v.toNat+r.toNat:=by rw[kY _ _ (by rw[j,dF]; omega),j,dF]
 rw[kY _ _ (by rw[q]; omega),q]
theorem g9 {l:Y0} {i k:Nat} {x:UInt32} (h:i≠k):(l.set i x).getD k 0=l.getD k 0:=by
 rw[ao,List.getElem?_set_ne h,ao]
def AD (u:UInt32) (b:Y0) (i:Nat) (x:UInt64×Y0) (j:Nat):UInt64×Y0:=
 (bb (x.1+(u.toUInt64*(b.getD j 0).toUInt64+(x.2.getD (i+j) 0).toUInt64)) 32,x.2.set (i+j) (x.1+(u.toUInt64*(b.getD j 0).toUInt64+(x.2.getD (i+j) 0).toUInt64)).toUInt32)
def yL (u:UInt32) (b:Y0) (i N:Nat) (r0:Y0) (j:Nat) (x:UInt64×Y0):Prop:=
 x.2.length=N/\(∀k,i+b.length<=k->x.2.getD k 0=0)/\val x.2+4294967296^(i+j)*x.1.toNat=val r0+4294967296^i*(u.toNat*val (b.take j))/\x.1.toNat<=4294967295
theorem zL {u:UInt32} {b:Y0} {i N:Nat} {q:Y0} {j:Nat} {x:UInt64×Y0} (R:i+b.length<N) (U:j<b.length) (h:yL u b i N q j x):yL u b i N q (j+1) (AD u b i x j):=by
 obtain⟨A,B,V,G⟩:=h
 have e:=Hw x.1 u (b.getD j 0) (x.2.getD (i+j) 0) G
 unfold AD
 obtain⟨s,hs⟩:∃s,x.1+(u.toUInt64*(b.getD j 0).toUInt64+(x.2.getD (i+j) 0).toUInt64)=s:=⟨_,rfl⟩
 rw[hs]at e ⊢
 have y:=n6 s
 have X:=FD u (b.getD j 0); have Y:=mE (x.2.getD (i+j) 0)
 refine⟨by simpa using A,fun k I=>?_,?_,by simp only[pI]; omega⟩
 ·simp only
  rw[g9 (by omega)]; exact B k I
 ·simp only
  have Z:=je x.2 (i+j) s.toUInt32 (by omega)
  rw[cR,aG,aG]
  have J:4294967296^i*(u.toNat*(4294967296^j*(b.getD j 0).toNat))=4294967296^(i+j)*(u.toNat*(b.getD j 0).toNat):=by
   rw[bW,aF,cT u.toNat]
  have O:4294967296^(i+j)*s.toNat=4294967296^(i+j)*s.toUInt32.toNat+4294967296^(i+(j+1))*(bb s 32).toNat:=by
   rw[<-eo,bn,aF,<-aG,<-y]
  rw[e,aG,aG]at O
  rw[J]
  omega
theorem FQ (a b:Y0) (i:Nat) (r:Y0) (hi:i<a.length) (hl:r.length=a.length+b.length) (hz:∀k,i+b.length<=k->r.getD k 0=0) (hs:a.length+b.length<=70368744177664) :
  ∃q,loop (F.TK a b (i:Int)) (0,0,r)=some (.inl (((i+1:Nat):Int),q))/\q.length=a.length+b.length/\(∀k,i+1+b.length<=k->q.getD k 0=0)/\val q=val r+4294967296^i*((a.getD i 0).toNat*val b):=by
 have R:yL (a.getD i 0) b i (a.length+b.length) r 0 (0,r):=⟨hl,hz,by simp[val],by simp⟩
 have e:=ft (f:=F.TK a b (i:Int)) (fun (x:UInt64×Y0) j=>(x.1,(j:Int),x.2)) (fun j x=>j<=b.length->yL (a.getD i 0) b i (a.length+b.length) r j x) (AD (a.getD i 0) b i) 0 b.length
  (X:=fun x=>some (.inl (((i+1:Nat):Int),x.2.set (i+b.length) x.1.toUInt32)))
  (fun j x _ G hx=>by
   have hx:=hx (by omega)
   refine⟨?_,fun _=>zL (by omega) G hx⟩
   obtain⟨I,A,B,U⟩:=hx
   have J:wI ((i:Int)+(j:Int))=((i+j:Nat):Int):=by rw[aO (by omega) (by omega)]; rfl
   have w2:wI ((j:Int)+1)=((j+1:Nat):Int):=by rw[aO (by omega) (by omega)]; rfl
   unfold F.TK
   dsimp only
   rw[ah (aj (by omega)),bv hi 0,aa,bv G 0,aa,J,bv (show i+j<x.2.length by omega) 0,aa,aM,aa,aM,aq,w2]
   rfl)
  (fun x hx=>by
   obtain⟨I,A,B,U⟩:=hx (av _)
   have J:wI ((i:Int)+(b.length:Int))=((i+b.length:Nat):Int):=by rw[aO (by omega) (by omega)]; rfl
   have w2:wI ((i:Int)+1)=((i+1:Nat):Int):=by rw[aO (by omega) (by omega)]; rfl
   unfold F.TK
   dsimp only
   rw[ae (by simp),J,bv (show i+b.length<x.2.length by omega) 0,aa,aM,aq,w2]
   rfl)
  b.length 0 (0,r) (av _) (by omega) (fun _=>R)
 have N:=f8 (fun j (x:UInt64×Y0)=>j<=b.length->yL (a.getD i 0) b i (a.length+b.length) r j x) (AD (a.getD i 0) b i) (fun j x hx=>fun G=>zL (by omega) (by omega) (hx (by omega))) b.length 0 (0,r) (fun _=>R)
 obtain⟨y,V⟩:∃y,(List.range' 0 b.length).foldl (AD (a.getD i 0) b i) (0,r)=y:=⟨_,rfl⟩
 rw[V]at N e
 rw[bh]at N
 obtain⟨I,A,B,U⟩:=N (av _)
 refine⟨_,e,by simpa using I,fun k Y=>?_,?_⟩
 ·rw[g9 (by omega)]; exact A k (by omega)
 ·have O:=je y.2 (i+b.length) y.1.toUInt32 (by omega)
  rw[A _ (av _)]at O
  have:(0:UInt32).toNat=0:=rfl
  rw[this,cK,bA]at O
  rw[dk]at B
  rw[O,jQ,ax (by omega),B]
theorem G8 (a b:Y0) (hs:a.length+b.length<=70368744177664):F.Ue a b=some (aw (val a*val b)):=by
 unfold F.Ue
 have j:F.Ub a b true=some []:=by unfold F.Ub; rw[ah rfl]
 by_cases ha:a.length=0
 ·rw[ah (by simp[ha]),j,aZ ha,iI,fN,c8]
 ·rw[ae (by simpa using fun h=>ha (by rw[h]; rfl))]
  by_cases hb:b.length=0
  ·rw[show ((b.length:Int) == 0)=true by simp[hb],j,aZ hb,iI,cK,c8]
  ·rw[show ((b.length:Int) == 0)=false by simpa using fun h=>hb (by rw[h]; rfl)]
   unfold F.Ub
   rw[ae (by decide),aO (by omega) (by omega),iR (by omega),aa,show ((a.length:Int)+(b.length:Int)).toNat=a.length+b.length by omega]
   have y:∀(k i:Nat) (r:Y0),i+k=a.length->r.length=a.length+b.length->(∀k,i+b.length<=k->r.getD k 0=0)->val r=val (a.take i)*val b->loop (F.TL a b) ((i:Int),r)=some (aw (val a*val b)):=by
    intro k
    induction k with
    | zero=>
     intro i r h A B q
     have:i=a.length:=by omega
     subst this
     refine bP ?_
     unfold F.TL
     dsimp only
     rw[ae (by simp),kM _ (by omega),aa,q,dk]; rfl
    | succ k ih=>
     intro i r h A B q
     obtain⟨G,J,N,O,R⟩:=FQ a b i r (by omega) A B hs
     have I:F.TL a b ((i:Int),r)=some (.inl (((i+1:Nat):Int),G)):=by
      unfold F.TL
      dsimp only
      rw[ah (aj (by omega)),J]
     rw[bB I]
     refine ih (i+1) G (by omega) N (fun k U=>O k (by omega)) ?_
     rw[R,q,cR,aW,aF]
   exact y a.length 0 _ (by omega) (by simp) (fun k _=>by
    rw[ao,f9]; split <;> rfl) (by rw[gn]; simp[val])
def jy (a b:Nat):Int:=if a<b then -1 else if a=b then 0 else 1
theorem q8 (a:Y0) (k:Nat) (h:k<a.length):val a=val (a.take k)+4294967296^k*((a.getD k 0).toNat+4294967296*val (a.drop (k+1))):=by
 rw[gU a k (by omega),bk h,gg]
 congr 4
 rw[ao,aE h]; rfl
theorem wY {a b:Y0} {k:Nat} (j:k<a.length) (q:k<b.length) (hd:a.drop (k+1)=b.drop (k+1)) (B:(a.getD k 0).toNat<(b.getD k 0).toNat):val a<val b:=by
 rw[q8 a k j,q8 b k q,hd]
 have y:=cG (a.take k)
 rw[aQ,bm (by omega)]at y
 have A:4294967296^k*((a.getD k 0).toNat+4294967296*val (b.drop (k+1))+1)<=4294967296^k*((b.getD k 0).toNat+4294967296*val (b.drop (k+1))):=bo _ (by omega)
 rw[aG,cH]at A
 omega
theorem ug (a b:Y0) (A:Can a) (B:Can b) (hl:a.length<=4611686018427387904) (N:b.length<=4611686018427387904):F.SL a b=some (jy (val a) (val b)):=by
 unfold F.SL jy
 by_cases h:a.length=b.length
 ·rw[ae (by simp[h]),aM]
  have q:∀k,k<=a.length->a.drop k=b.drop k->loop (F.Ti a b) ((k:Int) - 1)=some (if val a<val b then -1 else if val a=val b then 0 else 1):=by
   intro k
   induction k with
   | zero=>
    intro _ hd
    have:a=b:=by simpa using hd
    subst this
    rw[ae (by omega),ah rfl]
    exact bP rfl
   | succ k ih=>
    intro O hd
    have j:k<b.length:=by omega
    have G:(((k+1:Nat):Int)) - 1=(k:Int):=by omega
    have I:wI ((k:Int) - 1)=(k:Int) - 1:=aO (by omega) (by omega)
    rw[G]
    by_cases he:a.getD k 0=b.getD k 0
    ·have hs:F.Ti a b (k:Int)=some (.inl ((k:Int) - 1)):=by
      unfold F.Ti
      rw[ah (aj (by omega)),bv (show k<a.length by omega) 0,aa,bv j 0,aa,ae (by simp only[he,d5]; simp),I]; rfl
     rw[bB hs]
     refine ih (by omega) ?_
     rw[bk (show k<a.length by omega),bk j,hd]
     congr 1
     rw[ao,ao,aE (show k<a.length by omega),aE j]at he
     exact he
    ·have hs:F.Ti a b (k:Int)=if decide (a.getD k 0<b.getD k 0)=true then some (.inr (-1)) else some (.inr 1):=by
      unfold F.Ti
      rw[ah (aj (by omega)),bv (show k<a.length by omega) 0,aa,bv j 0,aa,ah (by simpa using he),aa,aa]
      split <;> rfl
     by_cases hlt:a.getD k 0<b.getD k 0
     ·rw[ah (aj hlt)]at hs
      rw[bP hs,ah (wY (by omega) j hd (dr.1 hlt))]
     ·rw[ae (by simpa using hlt)]at hs
      have y:(b.getD k 0).toNat<(a.getD k 0).toNat:=by
       have R:¬(a.getD k 0).toNat<(b.getD k 0).toNat:=fun h=>hlt (dr.2 h)
       have J:(a.getD k 0).toNat≠(b.getD k 0).toNat:=fun h=>he (c7.1 h)
       omega
      have:=wY j (show k<a.length by omega) hd.symm y
      rw[bP hs,ae (by omega),ae (by omega)]
  have w0:wI ((a.length:Int) - 1)=(a.length:Int) - 1:=aO (by omega) (by omega)
  rw[w0]
  exact q a.length (av _) (by rw[ew,cu (by omega)])
 ·rw[ah (by simpa using fun J=>h (by omega))]
  by_cases hlt:a.length<b.length
  ·rw[ah (aj (by omega)),ah (sA B hlt)]
  ·have:=sA A (show b.length<a.length by omega)
   rw[ae (by simp only[ar]; omega),ae (by omega),ae (by omega)]
theorem AW (x:UInt64) (y:UInt32) (hx:x.toNat<=4294967295):((c9 x 32) ||| y.toUInt64).toNat=4294967296*x.toNat+y.toNat:=by
 have j:=eH y
 have q:(c9 x 32).toNat=x.toNat*4294967296:=by
  rw[na,show min 32 64=32 from rfl,ax (by omega)]
 rw[UInt64.toNat_or,q,dF,uJ 32 (by omega) j]
 omega
theorem uu (x:UInt32) (y:UInt32):(x.toUInt64 ||| (c9 y.toUInt64 32)).toNat=x.toNat+4294967296*y.toNat:=by
 have hx:=eH x; have j:=eH y
 rw[UInt64.or_comm,AW _ _ (by rw[dF]; omega),dF]; omega
theorem Aj (a:Y0) (h:a.length<=2):∃x,F.Tu a=some x/\x.toNat=val a:=by
 unfold F.Tu
 match a,h with
 | [],_=>exact⟨0,rfl,rfl⟩
 | [u],_=>exact⟨u.toUInt64,rfl,by rw[dF]; simp[val]⟩
 | [u,v],_=>exact⟨u.toUInt64 ||| (c9 v.toUInt64 32),rfl,by rw[uu]; simp[val]⟩
theorem Ij (a:Y0) (d:UInt32) (hd:d≠0) (hl:a.length<=70368744177664):∃r,F.Vx a d=some (aw (val a / d.toNat),r)/\r.toNat=val a%d.toNat:=by
 have j:0<d.toNat:=by
  rcases bS d.toNat with h | h
  ·exact absurd (c7.1 h) hd
  ·exact h
 have ac:=eH d
 have A:¬d.toUInt64=0:=by
  intro h
  have:=cv UInt64.toNat h
  rw[dF]at this
  simp at this
  omega
 have I:∀(k:Nat) (q:Y0) (r:UInt64),k<=a.length->q.length=a.length->r.toNat<d.toNat->val (a.drop k)=d.toNat*val (q.drop k)+r.toNat ->
   ∃J,loop (F.Uv a d) (r,(k:Int) - 1,q)=some (aw (val a / d.toNat),J)/\J.toNat=val a%d.toNat:=by
  intro k
  induction k with
  | zero=>
   intro q r _ N G y
   refine⟨r.toUInt32,bP ?_,?_⟩
   ·unfold F.Uv
    dsimp only
    rw[ae (by decide),kM _ (by omega),aa]
    simp only[fj]at y
    have:val q=val a / d.toNat:=by
     rw[y,ch,gG _ _ j,cp G,bh]
    rw[this]; rfl
   ·simp only[fj]at y
    rw[jQ,ax (by omega),y,Nat.mul_add_mod,ax G]
  | succ k ih=>
   intro q r hk N G y
   have Z:(((k+1:Nat):Int)) - 1=(k:Int):=by omega
   have w1:wI ((k:Int) - 1)=(k:Int) - 1:=aO (by omega) (by omega)
   have O:r.toNat<=4294967295:=by omega
   obtain⟨x,hx⟩:∃x,(c9 r 32) ||| (a.getD k 0).toUInt64=x:=⟨_,rfl⟩
   have R:x.toNat=4294967296*r.toNat+(a.getD k 0).toNat:=by rw[<-hx,AW _ _ O]
   have U:(x / d.toUInt64).toNat=x.toNat / d.toNat:=by rw[fh,dF]
   have B:(x%d.toUInt64).toNat=x.toNat%d.toNat:=by rw[dH,dF]
   have ad:=eH (a.getD k 0)
   have V:x.toNat / d.toNat<4294967296:=by
    rw[fg j,R]
    have:=bo 4294967296 (show r.toNat+1<=d.toNat by omega)
    omega
   have hs:F.Uv a d (r,(k:Int),q)=some (.inl (x%d.toUInt64,(k:Int) - 1,q.set k (x / d.toUInt64).toUInt32)):=by
    unfold F.Uv
    dsimp only
    rw[ah (aj (by omega)),bv (show k<a.length by omega) 0,aa,hx,aM,grd_true _ A,bv (show k<q.length by omega) 0,aa,aM,grd_true _ A,w1]; rfl
   rw[Z,bB hs]
   refine ih _ _ (by omega) (by simpa using N) (by rw[B]; exact bM _ j) ?_
   have X:a.drop k=a.getD k 0 :: a.drop (k+1):=by
    rw[bk (show k<a.length by omega)]
    congr 1
    rw[ao,aE (show k<a.length by omega)]; rfl
   have Y:(q.set k (x / d.toUInt64).toUInt32).drop k=(x / d.toUInt64).toUInt32 :: q.drop (k+1):=by
    rw[bk (by simp; omega)]
    congr 1
    ·simp
    ·rw[List.drop_set_of_lt (by omega)]
   rw[X,Y,gg,gg,y,jQ,U,B,ax V]
   have:=cQ x.toNat d.toNat
   rw[aG,aG,cT d.toNat 4294967296]
   omega
 unfold F.Vx
 have w0:wI ((a.length:Int) - 1)=(a.length:Int) - 1:=aO (by omega) (by omega)
 rw[iR (by omega),aa,aM,w0]
 refine I a.length _ 0 (av _) (by simp) (by simpa using j) ?_
 rw[ew,cu (by simp)]
 simp[val]
def nb (n:Nat):Nat:=if h:n=0 then 0 else nb (n / 2)+1
termination_by n
decreasing_by exact jc (fk h) (show 1<2 by decide)
theorem kL:nb 0=0:=by rw[nb]; simp
theorem Be {n:Nat} (h:n≠0):nb n=nb (n / 2)+1:=by rw[nb]; simp[h]
theorem gR (n:Nat):n<2^nb n/\(n≠0->2^(nb n - 1)<=n/\1<=nb n):=by
 induction n using Nat.strongRecOn with
 | ind n ih=>
  by_cases h:n=0
  ·subst h; rw[kL]; simp
  ·obtain⟨q,j⟩:=ih (n / 2) (jc (fk h) (by decide))
   rw[Be h]
   refine⟨by rw[bn]; omega,fun _=>⟨?_,by omega⟩⟩
   rw[fo]
   by_cases h3:n / 2=0
   ·rw[h3,kL]; omega
   ·obtain⟨y,A⟩:=j h3
    have:2^nb (n / 2)=2^(nb (n / 2) - 1)*2:=by rw[<-bn]; congr 1; omega
    omega
theorem qB {n k:Nat} (h:n<2^k):nb n<=k:=by
 by_cases h0:n=0
 ·subst h0; rw[kL]; omega
 ·obtain⟨q,y⟩:=(gR n).2 h0
  rcases cj k (nb n) with j | j
  ·have:=br (show 0<2 by decide) (show k<=nb n - 1 by omega)
   omega
  ·exact j
theorem HJ (x:UInt32):nb x.toNat<=32:=qB (eH x)
theorem PS (x:UInt32):(ff x 1).toNat=x.toNat / 2:=by rw[lQ]; rfl
theorem BY (a:Y0) (A:a.length≠0) (B:a.length<=1000000000000000):∀(m:Nat) (t:UInt32) (n:Nat),nb t.toNat=m->n+m<=32->loop (F.TO a) ((n:Int),t)=some (((32*(a.length - 1)+n+m:Nat):Int)):=by
 intro m
 induction m with
 | zero=>
  intro t n h hn
  have j:t.toNat=0:=by
   rcases bS t.toNat with j | j
   ·exact j
   ·rw[Be (by omega)]at h; omega
  have:t=0:=c7.1 j
  subst this
  refine bP ?_
  unfold F.TO
  dsimp only
  rw[ae (by decide),aO (x:=(a.length:Int) - 1) (by omega) (by omega),aO (x:=((a.length:Int) - 1)*32) (by omega) (by omega),aO (by omega) (by omega)]
  show some _=_
  congr 2
  omega
 | succ m ih=>
  intro t n h hn
  have j:t.toNat≠0:=by intro j; rw[j,kL]at h; omega
  have q:t≠0:=fun y=>j (by rw[y]; rfl)
  rw[Be j]at h
  have hs:F.TO a ((n:Int),t)=some (.inl (((n+1:Nat):Int),ff t 1)):=by
   unfold F.TO
   dsimp only
   rw[ah (by simpa using q),aO (by omega) (by omega)]; rfl
  rw[bB hs,ih (ff t 1) (n+1) (by rw[PS]; omega) (by omega)]
  congr 2; omega
def mV (a:Y0):Nat:=if a.length=0 then 0 else 32*(a.length - 1)+nb (a.getD (a.length - 1) 0).toNat
theorem length_eq (a:Y0) (j:a.length<=1000000000000000):F.Tk a=some ((mV a:Nat):Int):=by
 unfold F.Tk mV
 by_cases h0:a.length=0
 ·rw[ah (by simp[h0]),ah h0]; rfl
 ·have q:wI ((a.length:Int) - 1)=((a.length - 1:Nat):Int):=by rw[aO (by omega) (by omega)]; omega
  rw[ae (by simpa using fun h=>h0 (by rw[h]; rfl)),q,bv (show a.length - 1<a.length by omega) 0,aa]
  have:=BY a h0 j _ (a.getD (a.length - 1) 0) 0 rfl (by have:=HJ (a.getD (a.length - 1) 0); omega)
  rw[ae h0]
  rw[bA]at this
  exact this
theorem HR (x:UInt32) (s:Nat) (hs:s<32):(c9 x.toUInt64 s).toNat=x.toNat*2^s:=by
 have hx:=eH x
 rw[na,dF,bm (by omega),ax]
 have j:2^s<=2^31:=br (by decide) (by omega)
 have q:x.toNat*2^s<=4294967295*2^31:=dW (by omega) j
 have y:(2:Nat)^31=2147483648:=rfl
 omega
theorem L3 {p q:UInt32} (s:Nat) (j:q.toNat%2^s=0) (hp:p.toNat<2^s):(p ||| q).toNat=p.toNat+q.toNat:=by
 rw[UInt32.toNat_or,Nat.or_comm,uJ s j hp,ch]
theorem ng {s:Nat} (hs:s<32):2^s*2^(32 - s)=4294967296:=by
 rw[<-bW,show s+(32 - s)=32 by omega]
def o6 (a:Y0) (s w:Nat) (r:Y0) (i:Nat):Y0:=
 (r.set (i+w) (r.getD (i+w) 0 ||| (c9 (a.getD i 0).toUInt64 s).toUInt32)).set (i+w+1) ((r.set (i+w) (r.getD (i+w) 0 ||| (c9 (a.getD i 0).toUInt64 s).toUInt32)).getD (i+w+1) 0 ||| (bb (c9 (a.getD i 0).toUInt64 s) 32).toUInt32)
theorem vD (a:Y0) (n:UInt64) (hn:n.toNat<=1000000000000) (ha:a.length+n.toNat / 32+1<=70368744177664):F.Tm a n=some (aw (val a*2^n.toNat)):=by
 unfold F.Tm
 by_cases h0:a.length=0
 ·rw[ah (by simp[h0]),aZ h0,iI,fN,c8]
 ·obtain⟨w,hw⟩:∃w,n.toNat / 32=w:=⟨_,rfl⟩
  obtain⟨s,hs⟩:∃s,n.toNat%32=s:=⟨_,rfl⟩
  have B:s<32:=by omega
  have e1:(n / 32).toNat=w:=by rw[fh,<-hw]; rfl
  have e2:(n%32).toNat=s:=by rw[dH,<-hs]; rfl
  have ab:2^n.toNat=4294967296^w*2^s:=by
   rw[show (4294967296:Nat)=2^32 from rfl,<-dh,<-bW]
   congr 1; omega
  rw[ae (by simpa using fun h=>h0 (by rw[h]; rfl)),e1,aM,aO (x:=(w:Int)) (by omega) (by omega),aO (x:=(a.length:Int)+(w:Int)) (by omega) (by omega),aO (by omega) (by omega),iR (by omega),aa,
   show ((a.length:Int)+(w:Int)+1).toNat=a.length+w+1 by omega]
  have N:=ng B
  have ac:1<=2^s:=Nat.one_le_two_pow
  -- what holds behind i words
  have step:∀(i:Nat) (r:Y0),i<a.length->(r.length=a.length+w+1/\(∀k,i+w<k->r.getD k 0=0)/\(r.getD (i+w) 0).toNat<2^s/\val r=4294967296^w*(val (a.take i)*2^s)) ->
    ((o6 a s w r i).length=a.length+w+1/\(∀k,i+1+w<k->(o6 a s w r i).getD k 0=0)/\((o6 a s w r i).getD (i+1+w) 0).toNat<2^s/\val (o6 a s w r i)=4294967296^w*(val (a.take (i+1))*2^s)):=by
   rintro i r hi ⟨O,h2,h3,R⟩
   unfold o6
   obtain⟨v,hv⟩:∃v,c9 (a.getD i 0).toUInt64 s=v:=⟨_,rfl⟩
   have G:v.toNat=(a.getD i 0).toNat*2^s:=by rw[<-hv,HR _ _ B]
   have ap:=eH (a.getD i 0)
   rw[hv]
   have aS:=n6 v
   -- the low part is a multiple of 2^s,the high part is below it
   have I:v.toUInt32.toNat%2^s=0:=by
    rw[jQ,G,<-N]
    rw[Nat.mod_mul_right_mod,Nat.mul_mod_left]
   have b7:v.toUInt32.toNat+2^s<=4294967296:=by
    have U:=eH v.toUInt32
    obtain⟨c,hc⟩:=eX I
    rw[hc]at U ⊢
    rw[<-N]at U ⊢
    have:=Nat.lt_of_mul_lt_mul_left U
    have:=bo (2^s) (show c+1<=2^(32 - s) by omega)
    rw[aG,cH]at this
    exact this
   have bx:(bb v 32).toNat<2^s:=by
    rw[pI,G,fg (by decide),aN (2^s)]
    exact Nat.mul_lt_mul_of_pos_right ap (by omega)
   have bT:=L3 (p:=r.getD (i+w) 0) (q:=v.toUInt32) s I h3
   obtain⟨J,j⟩:∃J,r.set (i+w) (r.getD (i+w) 0 ||| v.toUInt32)=J:=⟨_,rfl⟩
   have V:J.length=a.length+w+1:=by rw[<-j]; simpa using O
   have hz:J.getD (i+w+1) 0=0:=by rw[<-j,g9 (by omega)]; exact h2 _ (by omega)
   rw[j,hz,UInt32.zero_or]
   have v1:=je r (i+w) (r.getD (i+w) 0 ||| v.toUInt32) (by omega)
   rw[j,bT]at v1
   have Y:=je J (i+w+1) (bb v 32).toUInt32 (by omega)
   rw[hz]at Y
   have z0:(0:UInt32).toNat=0:=rfl
   rw[z0,cK,bA,Dw,<-pI]at Y
   refine⟨by simpa using V,fun k hk=>?_,?_,?_⟩
   ·rw[g9 (by omega),<-j,g9 (by omega)]; exact h2 k (by omega)
   ·rw[show i+1+w=i+w+1 by omega,ao,dt (by omega)]
    simp only[Option.getD_some,Dw,<-pI]
    exact bx
   ·rw[Y,cR,aW,aG,<-R]
    have e3:4294967296^w*(4294967296^i*(a.getD i 0).toNat*2^s)=4294967296^(i+w)*v.toNat:=by
     rw[G,ch i w,bW,aF,aF]
    have e4:4294967296^(i+w)*v.toNat=4294967296^(i+w)*v.toUInt32.toNat+4294967296^(i+w+1)*(bb v 32).toNat:=by
     rw[bn,aF,<-aG,<-aS]
    rw[e3,e4]
    rw[aG]at v1
    omega
  have A:(List.replicate (a.length+w+1) (0:UInt32)).length=a.length+w+1/\(∀k,0+w<k->(List.replicate (a.length+w+1) (0:UInt32)).getD k 0=0)/\((List.replicate (a.length+w+1) (0:UInt32)).getD (0+w) 0).toNat<2^s /\
    val (List.replicate (a.length+w+1) 0)=4294967296^w*(val (a.take 0)*2^s):=by
   have hg:∀k,(List.replicate (a.length+w+1) (0:UInt32)).getD k 0=0:=fun k=>by
    rw[ao,f9]; split <;> rfl
   exact⟨by simp,fun k _=>hg k,by rw[hg]; exact bg (show (0:UInt32).toNat<1 by decide) ac,by rw[gn]; simp[val]⟩
  have e:=ft (f:=F.US a n (w:Int)) (fun (x:Y0) i=>((i:Int),x))
   (fun i r=>i<=a.length->(r.length=a.length+w+1/\(∀k,i+w<k->r.getD k 0=0)/\(r.getD (i+w) 0).toNat<2^s/\val r=4294967296^w*(val (a.take i)*2^s))) (o6 a s w) 0 a.length
   (X:=fun x=>F.QS x)
   (fun i x _ hi hx=>by
    have hx:=hx (by omega)
    refine⟨?_,fun _=>step i x hi hx⟩
    obtain⟨O,_⟩:=hx
    have w1:wI ((i:Int)+(w:Int))=((i+w:Nat):Int):=by rw[aO (by omega) (by omega)]; rfl
    have w2:wI (((i+w:Nat):Int)+1)=((i+w+1:Nat):Int):=by rw[aO (by omega) (by omega)]; rfl
    have w3:wI ((i:Int)+1)=((i+1:Nat):Int):=by rw[aO (by omega) (by omega)]; rfl
    unfold F.US
    dsimp only
    rw[ah (aj (by omega)),bv hi 0,aa,aM,w1,w2,w3,e2,bv (show i+w<x.length by omega) 0,aa,aa,aM,aq,bv (show i+w+1<(x.set (i+w) (x.getD (i+w) 0 ||| (c9 (a.getD i 0).toUInt64 s).toUInt32)).length by simp; omega) 0,aa,aa,aM,aq]
    rfl)
   (fun x hx=>by
    unfold F.US
    dsimp only
    rw[ae (by simp)]
    cases F.QS x <;> rfl)
   a.length 0 _ (av _) (by omega) (fun _=>A)
  refine e.trans ?_
  have Z:=f8 (fun i (r:Y0)=>i<=a.length->(r.length=a.length+w+1/\(∀k,i+w<k->r.getD k 0=0)/\(r.getD (i+w) 0).toNat<2^s/\val r=4294967296^w*(val (a.take i)*2^s))) (o6 a s w)
   (fun i x hx=>fun hi=>step i x (by omega) (hx (by omega))) a.length 0 _ (fun _=>A)
  obtain⟨y,hy⟩:∃y,(List.range' 0 a.length).foldl (o6 a s w) (List.replicate (a.length+w+1) 0)=y:=⟨_,rfl⟩
  rw[hy]at Z ⊢
  rw[bh]at Z
  obtain⟨O,_,_,R⟩:=Z (av _)
  rw[kM _ (by omega),R,dk,ab,cT]
theorem eA (a:Y0) (i:Nat):val (a.drop i)=(a.getD i 0).toNat+4294967296*val (a.drop (i+1)):=by
 by_cases h:i<a.length
 ·rw[bk h,gg]
  congr 2
  rw[ao,aE h]; rfl
 ·rw[cu (by omega),cu (by omega),iP (by omega)]; rfl
theorem jY (a:Y0) (i:Nat):val a / 4294967296^i=val (a.drop i):=by
 by_cases h:i<=a.length
 ·have j:=cG (a.take i)
  rw[aQ,bm h]at j
  rw[gU a i h,ch,Nat.mul_add_div (eL (by decide)),cp j,bA]
 ·have j:=cG a
  have q:=br (show 0<4294967296 by decide) (show a.length<=i by omega)
  rw[cu (by omega),cp (by omega)]; rfl
theorem HL (a:Y0) (n:UInt64) (hn:n.toNat<32) (V:a.length<=70368744177664):F.Wd a n=some (aw (val a / 2^n.toNat)):=by
 unfold F.Wd
 have N:(n / 32).toNat=0:=by rw[fh]; exact cp hn
 have B:(n%32).toNat=n.toNat:=by rw[dH]; exact ax hn
 obtain⟨s,hs⟩:∃s,n.toNat=s:=⟨_,rfl⟩
 rw[hs]at B hn ⊢
 have w0:wI ((0:Nat):Int)=0:=rfl
 rw[N,aM,w0]
 by_cases h0:a.length=0
 ·rw[ah (aj (by omega)),aZ h0,iI,Nat.zero_div,c8]
 ·rw[ae (by simp only[ar]; omega),Int.sub_zero,aO (by omega) (by omega),iR (by omega),aa,aq,<-wg]
  have G:=ng hn
  have I:∀i,(val a / 2^s) / 4294967296^i%4294967296=((a.getD i 0).toNat+4294967296*(a.getD (i+1) 0).toNat) / 2^s%4294967296:=by
   intro i
   rw[du,aN,<-du,jY,eA,eA]
   have:(a.getD i 0).toNat+4294967296*((a.getD (i+1) 0).toNat+4294967296*val (a.drop (i+1+1)))=((a.getD i 0).toNat+4294967296*(a.getD (i+1) 0).toNat)+2^s*(4294967296*(2^(32 - s)*val (a.drop (i+1+1)))):=by
    have:2^s*(4294967296*(2^(32 - s)*val (a.drop (i+1+1))))=4294967296*(4294967296*val (a.drop (i+1+1))):=by
     rw[cT,<-aF (2^s),G]
    rw[this,aG]; omega
   rw[this,gG _ _ (dv s),gF]
  have q:∀(i:Nat) (x:Y0),(x.length=i/\val x=(val a / 2^s)%4294967296^i) ->
    ((x++[(bb ((a.getD i 0).toUInt64 ||| (c9 (a.getD (i+1) 0).toUInt64 32)) s).toUInt32]).length=i+1/\val (x++[(bb ((a.getD i 0).toUInt64 ||| (c9 (a.getD (i+1) 0).toUInt64 32)) s).toUInt32])=(val a / 2^s)%4294967296^(i+1)):=by
   rintro i x ⟨j,A⟩
   refine⟨by simp[j],?_⟩
   rw[mG,j,A,Nat.mod_pow_succ,I i,jQ,iO,uu,bm (by omega)]
  have e:=ft (f:=F.U0 a 0 n) (fun (x:Y0) i=>((i:Int),pad x a.length)) (fun i x=>x.length=i/\val x=(val a / 2^s)%4294967296^i)
   (fun x i=>x++[(bb ((a.getD i 0).toUInt64 ||| (c9 (a.getD (i+1) 0).toUInt64 32)) s).toUInt32]) 0 a.length
   (X:=fun x=>F.QS (pad x a.length))
   (fun i x _ hi hx=>by
    refine⟨?_,q i x hx⟩
    obtain⟨j,A⟩:=hx
    have J:wI ((i:Int)+1)=((i+1:Nat):Int):=by rw[aO (by omega) (by omega)]; rfl
    have w2:wI ((i:Int)+0)=(i:Int):=by rw[aO (by omega) (by omega)]; omega
    obtain⟨u,hu⟩:=qs (x:=x) (n:=a.length) (i:=i) (by omega) (by omega)
    have hK:∀v:UInt64,v=((a.getD i 0).toUInt64 ||| (c9 (a.getD (i+1) 0).toUInt64 32))->F.Vz n (i:Int) (pad x a.length) v=some (.inl (((i+1:Nat):Int),pad (x++[(bb ((a.getD i 0).toUInt64 ||| (c9 (a.getD (i+1) 0).toUInt64 32)) s).toUInt32]) a.length)):=by
     rintro v rfl
     unfold F.Vz
     dsimp only
     have:=rY (x:=x) (n:=a.length) (by omega) (bb ((a.getD i 0).toUInt64 ||| (c9 (a.getD (i+1) 0).toUInt64 32)) s).toUInt32
     rw[j]at this
     rw[hu,aa,aM,aq,J,B,this]; rfl
    unfold F.U0
    dsimp only
    rw[ah (aj (by rw[lA (by omega)]; omega)),w2,bv hi 0,aa,J]
    by_cases hb:i+1<a.length
    ·rw[ah (aj (by omega)),bv hb 0,aa,aM,hK _ rfl]
    ·rw[ae (by simp only[ar]; omega),hK _ (by
      apply cA.1
      rw[uu,iP (a:=a) (i:=i+1) (by omega),dF]; rfl)])
   (fun x hx=>by
    unfold F.U0
    dsimp only
    rw[ae (by rw[lA (by omega)]; simp)]
    cases F.QS (pad x a.length) <;> rfl)
   a.length 0 [] (av _) (by omega) ⟨rfl,by simp[val,Nat.mod_one]⟩
  refine e.trans ?_
  obtain⟨j,A⟩:=f8 (fun i (x:Y0)=>x.length=i/\val x=(val a / 2^s)%4294967296^i) (fun x i=>x++[(bb ((a.getD i 0).toUInt64 ||| (c9 (a.getD (i+1) 0).toUInt64 32)) s).toUInt32])
   (fun i x hx=>q i x hx) a.length 0 [] ⟨rfl,by simp[val,Nat.mod_one]⟩
  obtain⟨y,O⟩:∃y,(List.range' 0 a.length).foldl (fun x i=>x++[(bb ((a.getD i 0).toUInt64 ||| (c9 (a.getD (i+1) 0).toUInt64 32)) s).toUInt32]) []=y:=⟨_,rfl⟩
  rw[O]at j A ⊢
  rw[bh]at j A
  have R:=cG a
  have U:=dO (val a) (2^s)
  rw[kM _ (by rw[lA (by omega)]; omega),pZ,A,ax (by omega)]
theorem Gi (u v:UInt32) (c:UInt64) (hc:c.toNat<=1):((u.toUInt64 - v.toUInt64) - c).toUInt32.toNat+c.toNat+v.toNat=u.toNat+4294967296*(bb ((u.toUInt64 - v.toUInt64) - c) 63).toNat/\(bb ((u.toUInt64 - v.toUInt64) - c) 63).toNat<=1:=by
 have hu:=eH u; have j:=eH v
 rw[jQ,ID,fi,fi,dF,dF]
 omega
theorem G5 (u:UInt32) (c d:UInt64) (hc:c.toNat<=4294967295) (hd:d.toNat<=1):((u.toUInt64 - c) - d).toUInt32.toNat+c.toNat+d.toNat=u.toNat+4294967296*(bb ((u.toUInt64 - c) - d) 63).toNat/\(bb ((u.toUInt64 - c) - d) 63).toNat<=1:=by
 have hu:=eH u
 rw[jQ,ID,fi,fi,dF]
 omega
abbrev MS:=UInt64×UInt64×Y0
def msS (g:UInt64) (v:Y0) (j:Nat) (x:MS) (i:Nat):MS:=
 (bb (x.1+g*(v.getD i 0).toUInt64) 32,bb (((x.2.2.getD (j+i) 0).toUInt64 - (x.1+g*(v.getD i 0).toUInt64).toUInt32.toUInt64) - x.2.1) 63,
  x.2.2.set (j+i) (((x.2.2.getD (j+i) 0).toUInt64 - (x.1+g*(v.getD i 0).toUInt64).toUInt32.toUInt64) - x.2.1).toUInt32)
def MSI (g:UInt64) (v u:Y0) (j i:Nat) (x:MS):Prop:=
 x.2.2.length=u.length/\(∀k,k<j\/j+i<=k->x.2.2.getD k 0=u.getD k 0)/\val x.2.2+4294967296^j*(g.toNat*val (v.take i))=val u+4294967296^(j+i)*(x.1.toNat+x.2.1.toNat)/\x.1.toNat<=4294967295/\x.2.1.toNat<=1
theorem CU {g:UInt64} {v u:Y0} {j i:Nat} {x:MS} (I:g.toNat<=4294967295) (hj:j+i<u.length) (h:MSI g v u j i x):MSI g v u j (i+1) (msS g v j x i):=by
 obtain⟨J,N,O,h4,R⟩:=h
 unfold msS
 have y:=mE (v.getD i 0)
 have hp:g.toNat*(v.getD i 0).toNat<=4294967295*4294967295:=dW I y
 have A:(x.1+g*(v.getD i 0).toUInt64).toNat=x.1.toNat+g.toNat*(v.getD i 0).toNat:=by
  have q:(g*(v.getD i 0).toUInt64).toNat=g.toNat*(v.getD i 0).toNat:=by rw[rZ _ _ (by rw[dF]; omega),dF]
  rw[kY _ _ (by rw[q]; omega),q]
 obtain⟨C,U⟩:∃C,x.1+g*(v.getD i 0).toUInt64=C:=⟨_,rfl⟩
 rw[U]at A ⊢
 obtain⟨q,B⟩:=Gi (x.2.2.getD (j+i) 0) C.toUInt32 x.2.1 R
 obtain⟨t,V⟩:∃t,((x.2.2.getD (j+i) 0).toUInt64 - C.toUInt32.toUInt64) - x.2.1=t:=⟨_,rfl⟩
 rw[V]at q B ⊢
 have G:=n6 C
 refine⟨by simpa using J,fun k hk=>?_,?_,?_,B⟩
 ·simp only
  rw[g9 (by omega)]; exact N k (by omega)
 ·simp only
  have hv:=je x.2.2 (j+i) t.toUInt32 (by omega)
  rw[cR,aG,aG]
  have X:4294967296^j*(g.toNat*(4294967296^i*(v.getD i 0).toNat))=4294967296^(j+i)*(g.toNat*(v.getD i 0).toNat):=by
   rw[bW,aF,cT g.toNat]
  have Y:4294967296^(j+i)*(t.toUInt32.toNat+x.2.1.toNat+C.toUInt32.toNat)=4294967296^(j+i)*((x.2.2.getD (j+i) 0).toNat+4294967296*(bb t 63).toNat):=by rw[q]
  have Z:4294967296^(j+i)*(x.1.toNat+g.toNat*(v.getD i 0).toNat)=4294967296^(j+i)*(C.toUInt32.toNat+4294967296*(bb C 32).toNat):=by rw[<-A,<-G]
  rw[X,<-eo j i 1,bn,aF]
  rw[aG,aG,aG]at Y
  rw[aG,aG]at Z
  rw[aG]at O
  rw[aG,aG]
  omega
 ·simp only[pI]; omega
theorem ri {a:Y0} {m:Nat} (h:∀k,m<=k->a.getD k 0=0):val a<4294967296^m:=by
 by_cases hm:m<=a.length
 ·have hz:a.drop m=List.replicate (a.length - m) 0:=by
   refine List.ext_getElem (by simp) fun i q y=>?_
   have:=h (m+i) (by omega)
   rw[ao,aE (by simp at q; omega)]at this
   rw[List.getElem_drop,iy]
   exact this
  have j:=cG (a.take m)
  rw[aQ,bm hm]at j
  rw[gU a m hm,hz,gn]
  simpa using j
 ·exact bg (cG a) (br (by decide) (by omega))
theorem Cz {a:Y0} {m:Nat} (h:val a<4294967296^m) (k:Nat) (j:m<=k):a.getD k 0=0:=by
 have q:val a / 4294967296^k=0:=cp (bg h (br (by decide) j))
 rw[jY,eA]at q
 exact c7.1 (by show _=0; omega)
theorem mz {a:Y0} {m:Nat} (h:val a<4294967296^m):val (a.drop m)=0:=by
 rw[<-jY,cp h]
def abS (v:Y0) (j:Nat) (x:UInt64×Y0) (i:Nat):UInt64×Y0:=
 (bb (x.1+((x.2.getD (i+j) 0).toUInt64+(v.getD i 0).toUInt64)) 32,x.2.set (i+j) (x.1+((x.2.getD (i+j) 0).toUInt64+(v.getD i 0).toUInt64)).toUInt32)
def ABI (v u:Y0) (j i:Nat) (x:UInt64×Y0):Prop:=
 x.2.length=u.length/\(∀k,k<j\/j+i<=k->x.2.getD k 0=u.getD k 0)/\val x.2+4294967296^(j+i)*x.1.toNat=val u+4294967296^j*val (v.take i)/\x.1.toNat<=1
theorem Cw {v u:Y0} {j i:Nat} {x:UInt64×Y0} (N:j+i<u.length) (h:ABI v u j i x):ABI v u j (i+1) (abS v j x i):=by
 obtain⟨B,G,O,R⟩:=h
 unfold abS
 have U:=mE (x.2.getD (i+j) 0); have V:=mE (v.getD i 0)
 obtain⟨s,hs⟩:∃s,x.1+((x.2.getD (i+j) 0).toUInt64+(v.getD i 0).toUInt64)=s:=⟨_,rfl⟩
 have q:s.toNat=x.1.toNat+((x.2.getD (i+j) 0).toNat+(v.getD i 0).toNat):=by
  have y:((x.2.getD (i+j) 0).toUInt64+(v.getD i 0).toUInt64).toNat=(x.2.getD (i+j) 0).toNat+(v.getD i 0).toNat:=by rw[kY _ _ (by rw[dF,dF]; omega),dF,dF]
  rw[<-hs,kY _ _ (by rw[y]; omega),y]
 rw[hs]
 have A:=n6 s
 refine⟨by simpa using B,fun k X=>?_,?_,by simp only[pI]; omega⟩
 ·simp only
  rw[g9 (by omega)]; exact G k (by omega)
 ·simp only
  have Y:=je x.2 (i+j) s.toUInt32 (by omega)
  have I:4294967296^(j+i)*s.toNat=4294967296^(j+i)*s.toUInt32.toNat+4294967296^(j+(i+1))*(bb s 32).toNat:=by
   rw[<-eo,bn,aF,<-aG,<-A]
  have J:4294967296^j*(4294967296^i*(v.getD i 0).toNat)=4294967296^(j+i)*(v.getD i 0).toNat:=by rw[bW,aF]
  rw[cR,aG,J]
  rw[q,aG,aG]at I
  rw[ch i j]at *
  omega
theorem LG (v u q:Y0) (j:Nat) (g:UInt64) (hg:g.toNat<=4294967295) (hj:j+v.length<u.length) (hq:j<q.length) (hs:u.length<=70368744177664) (er:q.length<=70368744177664)
  (h1:val u<4294967296^j*((g.toNat+1)*val v)) (h2:4294967296^j*(g.toNat*val v)<=val u+4294967296^j*val v) (h3:val u<4294967296^(j+v.length+1)) :
  ∃(d:UInt64) (B:Y0),loop (F.Tz v (j:Int) g q) (0,0,0,u)=some (.inl ((j:Int) - 1,B,q.set j d.toUInt32))/\B.length=u.length /\
   val B+4294967296^j*(d.toNat*val v)=val u/\val B<4294967296^j*val v/\d.toNat<=4294967295:=by
 have w2:wI ((j:Int)+(v.length:Int))=((j+v.length:Nat):Int):=by rw[aO (by omega) (by omega)]; rfl
 have wj:wI ((j:Int) - 1)=(j:Int) - 1:=aO (by omega) (by omega)
 have ac:∀(d:UInt64) (y:Y0),F.Tp (j:Int) q (d,y)=some (.inl ((j:Int) - 1,y,q.set j d.toUInt32)):=by
  intro d y
  unfold F.Tp
  dsimp only
  rw[bv hq 0,aa,aM,aq,wj]; rfl
 have dy:=eL (n:=j) (show 0<4294967296 by decide)
 have h0:MSI g v u j 0 (0,0,u):=⟨rfl,fun _ _=>rfl,by simp[val],by simp,by simp⟩
 have hz:=fun k (U:j+v.length+1<=k)=>Cz h3 k U
 -- behind the loop
 have b3:∀x:MS,MSI g v u j v.length x->∃(d:UInt64) (B:Y0),
   (af (au x.2.2 (wI ((j:Int)+(v.length:Int)):Int)) fun O=>bI ((O.toUInt64 - x.1) - x.2.1) fun G=>af (au x.2.2 (wI ((j:Int)+(v.length:Int)):Int)) fun bx=>
    bI (x.2.2.set (wI ((j:Int)+(v.length:Int)):Int).toNat G.toUInt32) fun I=>if ((bb G 63) != 0)=true then loop (F.SQ v (j:Int) g q) (0,0,I) else F.Tp (j:Int) q (g,I))
    = some (.inl ((j:Int) - 1,B,q.set j d.toUInt32))/\B.length=u.length/\val B+4294967296^j*(d.toNat*val v)=val u/\val B<4294967296^j*val v/\d.toNat<=4294967295:=by
  rintro x ⟨e1,e2,e3,e4,e5⟩
  rw[w2,bv (show j+v.length<x.2.2.length by omega) 0,aa,aM,aa,aM,aq]
  obtain⟨f1,f2⟩:=G5 (x.2.2.getD (j+v.length) 0) x.1 x.2.1 e4 e5
  obtain⟨t,ht⟩:∃t,((x.2.2.getD (j+v.length) 0).toUInt64 - x.1) - x.2.1=t:=⟨_,rfl⟩
  rw[ht]at f1 f2 ⊢
  have hv:=je x.2.2 (j+v.length) t.toUInt32 (by omega)
  obtain⟨A,V⟩:∃A,x.2.2.set (j+v.length) t.toUInt32=A:=⟨_,rfl⟩
  have b6:A.length=u.length:=by rw[<-V]; simpa using e1
  have ad:∀k,j+v.length+1<=k->A.getD k 0=0:=fun k U=>by
   rw[<-V,g9 (by omega),e2 k (by omega)]; exact hz k U
  have d7:=ri ad
  rw[V]at hv ⊢
  rw[dk]at e3
  have N:val A+4294967296^j*(g.toNat*val v)=val u+4294967296^(j+v.length+1)*(bb t 63).toNat:=by
   have:=cv (4294967296^(j+v.length)*·) f1
   simp only[aG]at this
   rw[aG]at e3
   rw[bn,aF]
   omega
  by_cases hb:(bb t 63).toNat=0
  ·have:bb t 63=0:=cA.1 hb
   rw[ae (by rw[this]; decide),ac]
   rw[hb,cK,bA]at N
   refine⟨g,A,rfl,b6,N,?_,hg⟩
   rw[aW,cL,aG]at h1
   omega
  ·have b7:(bb t 63).toNat=1:=by omega
   have b8:¬bb t 63=0:=fun h=>hb (by rw[h]; rfl)
   rw[ah (by simpa using b8)]
   rw[b7,cH]at N
   have b9:1<=g.toNat:=by
    rcases bS g.toNat with h | h
    ·rw[h,fN,cK]at N; omega
    ·exact h
   have a0:ABI v A j 0 (0,A):=⟨rfl,fun _ _=>rfl,by simp[val],by simp⟩
   have e:=ft (f:=F.SQ v (j:Int) g q) (fun (y:UInt64×Y0) i=>(y.1,(i:Int),y.2)) (fun i y=>i<=v.length->ABI v A j i y) (abS v j) 0 v.length
    (X:=fun y=>some (.inl ((j:Int) - 1,y.2.set (j+v.length) (y.2.getD (j+v.length) 0+y.1.toUInt32),q.set j (g - 1).toUInt32)))
    (fun i y _ hi J=>by
     have J:=J (by omega)
     refine⟨?_,fun _=>Cw (by omega) J⟩
     have cf:=J.1
     have w3:wI ((i:Int)+(j:Int))=((i+j:Nat):Int):=by rw[aO (by omega) (by omega)]; rfl
     have w4:wI ((i:Int)+1)=((i+1:Nat):Int):=by rw[aO (by omega) (by omega)]; rfl
     unfold F.SQ
     dsimp only
     rw[ah (aj (by omega)),w3,bv (show i+j<y.2.length by omega) 0,aa,bv hi 0,aa,aM,aa,aM,aq,w4]
     rfl)
    (fun y J=>by
     have cf:=(J (av _)).1
     unfold F.SQ
     dsimp only
     rw[ae (by simp),w2,bv (show j+v.length<y.2.length by omega) 0,aa,aa,aM,aq,ac])
    v.length 0 (0,A) (av _) (by omega) (fun _=>a0)
   have R:=f8 (fun i (y:UInt64×Y0)=>i<=v.length->ABI v A j i y) (abS v j) (fun i y J=>fun hi=>Cw (by omega) (J (by omega))) v.length 0 (0,A) (fun _=>a0)
   obtain⟨y,J⟩:∃y,(List.range' 0 v.length).foldl (abS v j) (0,A)=y:=⟨_,rfl⟩
   rw[J]at R e
   rw[bh]at R
   obtain⟨k1,k2,k3,k4⟩:=R (av _)
   rw[dk]at k3
   refine⟨g - 1,_,e,by rw[ig]; omega,?_⟩
   have cm:(g - 1).toNat=g.toNat - 1:=by
    rw[fH _ _ (by rw[db]; exact b9)]; rfl
   obtain⟨u2,ag⟩:∃u2,y.2.set (j+v.length) (y.2.getD (j+v.length) 0+y.1.toUInt32)=u2:=⟨_,rfl⟩
   have ct:=je y.2 (j+v.length) (y.2.getD (j+v.length) 0+y.1.toUInt32) (by omega)
   rw[ag]at ct ⊢
   have c0:∀k,j+v.length+1<=k->u2.getD k 0=0:=fun k U=>by
    rw[<-ag,g9 (by omega),k2 k (by omega)]; exact ad k U
   have eh:=ri c0
   have hw:=eH (y.2.getD (j+v.length) 0)
   have Y:(y.2.getD (j+v.length) 0+y.1.toUInt32).toNat+4294967296*(((y.2.getD (j+v.length) 0).toNat+y.1.toNat) / 4294967296)=(y.2.getD (j+v.length) 0).toNat+y.1.toNat:=by
    rw[UInt32.toNat_add,jQ,ax (a:=y.1.toNat) (by omega)]; omega
   obtain⟨b',c1⟩:∃b',((y.2.getD (j+v.length) 0).toNat+y.1.toNat) / 4294967296=b':=⟨_,rfl⟩
   rw[c1]at Y
   have ex:b'<=1:=by omega
   have Z:val u2+4294967296^(j+v.length+1)*b'=val A+4294967296^j*val v:=by
    have:=cv (4294967296^(j+v.length)*·) Y
    simp only[aG]at this
    rw[bn,aF]
    omega
   obtain⟨g',ap⟩:∃g',g.toNat=g'+1:=⟨g.toNat - 1,by omega⟩
   rw[cm,ap,fo]
   rw[ap,aW,cL,aG]at N h2
   have c3:b'=1:=by
    rcases bS b' with h | h
    ·rw[h,cK]at Z; omega
    ·omega
   rw[c3,cH]at Z
   exact⟨by omega,by omega,by omega⟩
 have e:=ft (f:=F.Tz v (j:Int) g q) (fun (x:MS) i=>(x.1,x.2.1,(i:Int),x.2.2)) (fun i x=>i<=v.length->MSI g v u j i x) (msS g v j) 0 v.length
  (X:=fun x=>(af (au x.2.2 (wI ((j:Int)+(v.length:Int)):Int)) fun O=>bI ((O.toUInt64 - x.1) - x.2.1) fun G=>af (au x.2.2 (wI ((j:Int)+(v.length:Int)):Int)) fun bx=>
    bI (x.2.2.set (wI ((j:Int)+(v.length:Int)):Int).toNat G.toUInt32) fun I=>if ((bb G 63) != 0)=true then loop (F.SQ v (j:Int) g q) (0,0,I) else F.Tp (j:Int) q (g,I)))
  (fun i x _ hi hx=>by
   have hx:=hx (by omega)
   refine⟨?_,fun _=>CU hg (by omega) hx⟩
   have ey:=hx.1
   have w3:wI ((i:Int)+(j:Int))=((j+i:Nat):Int):=by rw[aO (by omega) (by omega)]; omega
   have w4:wI ((i:Int)+1)=((i+1:Nat):Int):=by rw[aO (by omega) (by omega)]; rfl
   unfold F.Tz
   dsimp only
   rw[ah (aj (by omega)),bv hi 0,aa,aM,w3,bv (show j+i<x.2.2.length by omega) 0,aa,aM,aa,aM,aq,w4]
   rfl)
  (fun x hx=>by
   unfold F.Tz
   dsimp only
   rw[ae (by simp)])
  v.length 0 (0,0,u) (av _) (by omega) (fun _=>h0)
 have R:=f8 (fun i (x:MS)=>i<=v.length->MSI g v u j i x) (msS g v j) (fun i x hx=>fun hi=>CU hg (by omega) (hx (by omega))) v.length 0 (0,0,u) (fun _=>h0)
 rw[bh]at R
 obtain⟨d,B,r1,r2⟩:=b3 _ (R (av _))
 exact⟨d,B,e.trans r1,r2⟩
theorem yG (x y:UInt32):((c9 x.toUInt64 32) ||| y.toUInt64).toNat=4294967296*x.toNat+y.toNat:=by
 have:=eH x
 rw[AW _ _ (by rw[dF]; omega),dF]
theorem Il (v u q:Y0) (j:Nat) (y A B:UInt32) (h K I V':Nat) (hn:2<=v.length) (hj:j+v.length<u.length) (hs:u.length<=70368744177664)
  (ag:u.getD (j+v.length - 2) 0=B) (U:val v=(y.toNat*4294967296+A.toNat)*K+V') (ap:I<K) (X:V'<K) (Y:1<=y.toNat)
  (aS:(h*4294967296+B.toNat)*K+I<4294967296*val v) (hh:h<=y.toNat*4294967296+4294967295) :
  ∀(m:Nat) (g r:UInt64),g.toNat=m->h=g.toNat*y.toNat+r.toNat->r.toNat<=4294967295->(h*4294967296+B.toNat)*K+I<(g.toNat+1)*val v ->
   ∃G:UInt64,loop (F.Ux v A (j:Int) u y q) (g,r)=F.TW u v (j:Int) q G/\G.toNat<=4294967295/\(h*4294967296+B.toNat)*K+I<(G.toNat+1)*val v /\
    G.toNat*val v<(h*4294967296+B.toNat)*K+I+val v:=by
 have x1:=eH y; have x2:=eH A; have x3:=eH B
 have w0:wI ((wI ((j:Int)+(v.length:Int))) - 2)=((j+v.length - 2:Nat):Int):=by
  rw[aO (x:=(j:Int)+(v.length:Int)) (by omega) (by omega),aO (by omega) (by omega)]; omega
 intro m
 induction m using Nat.strongRecOn with
 | ind m ih=>
  intro g r hm J hr bx
  -- too great
  have N:F.Ux v A (j:Int) u y q (g,r)=F.Td y g r u v (j:Int) q true->(4294967296<=g.toNat\/r.toNat*4294967296+B.toNat<g.toNat*A.toNat) ->
    ∃G:UInt64,loop (F.Ux v A (j:Int) u y q) (g,r)=F.TW u v (j:Int) q G/\G.toNat<=4294967295/\(h*4294967296+B.toNat)*K+I<(G.toNat+1)*val v /\
    G.toNat*val v<(h*4294967296+B.toNat)*K+I+val v:=by
   intro hL V
   have bT:1<=g.toNat:=by
    rcases bS g.toNat with h0 | h0
    ·rw[h0]at V; omega
    ·exact h0
   have Z:(g - 1).toNat=g.toNat - 1:=by
    rw[fH _ _ (by rw[db]; exact bT)]; rfl
   have b2:(r+y.toUInt64).toNat=r.toNat+y.toNat:=by rw[kY _ _ (by rw[dF]; omega),dF]
   have hd:=zt (K:=K) (V':=V') J ap V (by rw[<-U]; exact aS)
   rw[<-U]at hd
   obtain⟨k,hk⟩:∃k,g.toNat=k+1:=⟨g.toNat - 1,by omega⟩
   have O:h=(g - 1).toNat*y.toNat+(r+y.toUInt64).toNat:=by
    rw[Z,b2,J,hk,fo,aW]; omega
   have R:(h*4294967296+B.toNat)*K+I<((g - 1).toNat+1)*val v:=by
    rw[Z,hk,fo,<-hk]; exact hd
   unfold F.Td at hL
   rw[ah rfl]at hL
   by_cases hb:4294967295<(r+y.toUInt64).toNat
   ·rw[ah (aj (by rw[bq]; exact hb))]at hL
    have b3:(g - 1).toNat<4294967296:=by
     have:(g - 1).toNat*y.toNat<4294967296*y.toNat:=by omega
     exact Nat.lt_of_mul_lt_mul_right this
    refine⟨g - 1,cU hL,by omega,R,?_⟩
    rw[U]
    refine F4 O X Y b3 ?_
    have:=dW (show (g - 1).toNat<=4294967295 by omega) (show A.toNat<=4294967295 by omega)
    omega
   ·rw[ae (by simp only[ar,bq]; exact hb)]at hL
    obtain⟨G,q1,q2⟩:=ih (g - 1).toNat (by omega) (g - 1) (r+y.toUInt64) rfl O (by omega) R
    exact⟨G,(bB hL).trans q1,q2⟩
  have hL:F.Ux v A (j:Int) u y q (g,r)=if (decide ((4294967295:UInt64)<g))=true then F.Td y g r u v (j:Int) q true else
    af (au u (wI ((wI ((j:Int)+(v.length:Int))) - 2):Int)) fun ad=>F.Td y g r u v (j:Int) q (decide (((c9 r 32) ||| ad.toUInt64)<(g*A.toUInt64))):=rfl
  by_cases hg:4294967295<g.toNat
  ·rw[ah (aj (by rw[bq]; exact hg))]at hL
   exact N hL (.inl (by omega))
  ·rw[ae (by simp only[ar,bq]; exact hg),w0,bv (show j+v.length - 2<u.length by omega) 0,aa,ag]at hL
   have e1:((c9 r 32) ||| B.toUInt64).toNat=4294967296*r.toNat+B.toNat:=AW _ _ hr
   have hp:=dW (show g.toNat<=4294967295 by omega) (show A.toNat<=4294967295 by omega)
   have e2:(g*A.toUInt64).toNat=g.toNat*A.toNat:=by rw[rZ _ _ (by rw[dF]; omega),dF]
   by_cases V:r.toNat*4294967296+B.toNat<g.toNat*A.toNat
   ·rw[show decide (((c9 r 32) ||| B.toUInt64)<(g*A.toUInt64))=true from aj (by rw[bq,e1,e2]; omega)]at hL
    exact N hL (.inr V)
   ·rw[show decide (((c9 r 32) ||| B.toUInt64)<(g*A.toUInt64))=false from az (by rw[bq,e1,e2]; omega)]at hL
    unfold F.Td at hL
    rw[ae (by decide)]at hL
    refine⟨g,cU hL,by omega,bx,?_⟩
    rw[U]
    exact F4 J X Y (by omega) (by omega)
theorem Hc (s:UInt64) (v u q:Y0) (j:Nat) (hn:2<=v.length) (bT:2147483648<=(v.getD (v.length - 1) 0).toNat) (hj:j+v.length<u.length) (hq:j<q.length) (hs:u.length<=70368744177664) (b6:q.length<=70368744177664)
  (hu:val u<4294967296^(j+1)*val v) :
  ∃(d:UInt64) (J:Y0),F.Ud s v (v.getD (v.length - 1) 0) (v.getD (v.length - 2) 0) ((j:Int),u,q)=some (.inl ((j:Int) - 1,J,q.set j d.toUInt32))/\J.length=u.length /\
   val J+4294967296^j*(d.toNat*val v)=val u/\val J<4294967296^j*val v/\d.toNat<=4294967295:=by
 obtain⟨y,O⟩:∃y,v.getD (v.length - 1) 0=y:=⟨_,rfl⟩
 obtain⟨G,X⟩:∃G,v.getD (v.length - 2) 0=G:=⟨_,rfl⟩
 obtain⟨A,Y⟩:∃A,u.getD (j+v.length) 0=A:=⟨_,rfl⟩
 obtain⟨I,Z⟩:∃I,u.getD (j+v.length - 1) 0=I:=⟨_,rfl⟩
 obtain⟨B,ab⟩:∃B,u.getD (j+v.length - 2) 0=B:=⟨_,rfl⟩
 rw[O]at bT
 have x1:=eH y; have x2:=eH G; have y0:=eH A; have y1:=eH I; have y2:=eH B
 -- the divisor's parts
 have eV:val v=(y.toNat*4294967296+G.toNat)*4294967296^(v.length - 2)+val (v.take (v.length - 2)):=by
  have:=gU v (v.length - 2) (by omega)
  rw[eA,show v.length - 2+1=v.length - 1 by omega,eA,show v.length - 1+1=v.length by omega,ew,iI,O,X]at this
  rw[this,cK,bA,aN (4294967296^_),ch G.toNat,aN 4294967296 y.toNat]
  omega
 have R:val (v.take (v.length - 2))<4294967296^(v.length - 2):=by
  have:=cG (v.take (v.length - 2))
  rwa [aQ,bm (by omega)]at this
 have b7:=cG v
 have ac:val u<4294967296^(j+v.length+1):=by
  have:=eO b7 (eL (n:=j+1) (show 0<4294967296 by decide))
  rw[<-bW,show j+1+v.length=j+v.length+1 by omega]at this
  omega
 -- the dividend's parts
 obtain⟨K,hK⟩:∃K,4294967296^(v.length - 2)=K:=⟨_,rfl⟩
 obtain⟨N,ad⟩:∃N,val ((u.drop j).take (v.length - 2))=N:=⟨_,rfl⟩
 have b3:N<K:=by
  have:=cG ((u.drop j).take (v.length - 2))
  rw[aQ,bU,bm (by omega)]at this
  rw[<-ad,<-hK]; exact this
 obtain⟨h,hh⟩:∃h,A.toNat*4294967296+I.toNat=h:=⟨_,rfl⟩
 have eU:val u / 4294967296^j=(h*4294967296+B.toNat)*K+N:=by
  have U:=gU (u.drop j) (v.length - 2) (by rw[bU]; omega)
  rw[f6,show j+(v.length - 2)=j+v.length - 2 by omega,eA u (j+v.length - 2),show j+v.length - 2+1=j+v.length - 1 by omega,eA u (j+v.length - 1),show j+v.length - 1+1=j+v.length by omega,eA u (j+v.length),mz ac,ad,hK,Y,Z,ab]at U
  rw[jY,U,<-hh,cK,bA,aN K]
  have:B.toNat+4294967296*(I.toNat+4294967296*A.toNat)=(A.toNat*4294967296+I.toNat)*4294967296+B.toNat:=by omega
  rw[this]; omega
 rw[hK]at eV R
 have V:=eL (n:=j) (show 0<4294967296 by decide)
 have b5:(h*4294967296+B.toNat)*K+N<4294967296*val v:=by
  rw[<-eU,fg V,aN]
  rw[bn,aF]at hu
  exact hu
 -- the first word is no greater than the divisor's
 have cf:A.toNat<=y.toNat:=by
  rcases cj y.toNat A.toNat with U | U
  ·exfalso
   have a1:(y.toNat*4294967296+G.toNat+1)*K<=(A.toNat*4294967296)*K:=aR _ (by omega)
   have a2:val v<(y.toNat*4294967296+G.toNat+1)*K:=by rw[eV,aW (y.toNat*4294967296+G.toNat) 1 K,cL]; exact Nat.add_lt_add_left R _
   have a4:=aR K (show 4294967296*(A.toNat*4294967296)<=h*4294967296+B.toNat by omega)
   rw[aF 4294967296]at a4
   omega
  ·exact U
 have ag:¬y.toUInt64=0:=by
  intro h0
  have:=cv UInt64.toNat h0
  rw[dF]at this
  simp at this
  omega
 obtain⟨H,hH⟩:∃H,(c9 A.toUInt64 32) ||| I.toUInt64=H:=⟨_,rfl⟩
 have ap:H.toNat=h:=by rw[<-hH,yG,<-hh]; omega
 have aS:(H / y.toUInt64).toNat=h / y.toNat:=by rw[fh,dF,ap]
 have bx:(H%y.toUInt64).toNat=h%y.toNat:=by rw[dH,dF,ap]
 have c5:=cQ h y.toNat
 have dd:=bM h (show 0<y.toNat by omega)
 obtain⟨g,hg,g1,g2,g3⟩:=Il v u q j y G B h K N (val (v.take (v.length - 2))) hn hj hs ab eV b3 R (by omega) b5 (by omega) _ (H / y.toUInt64) (H%y.toUInt64) rfl
  (by rw[aS,bx,aN]; omega) (by rw[bx]; omega) (by
   rw[aS]
   have a1:h+1<=(h / y.toNat+1)*y.toNat:=by rw[aW,aN (h / y.toNat)]; omega
   have a2:(h+1)*(4294967296*K)<=(h / y.toNat+1)*y.toNat*(4294967296*K):=aR _ a1
   have a3:(h / y.toNat+1)*(y.toNat*(4294967296*K))<=(h / y.toNat+1)*val v:=by
    refine bo _ ?_
    rw[eV,aW,aF]; omega
   have a4:(h*4294967296+B.toNat+1)*K<=(h+1)*(4294967296*K):=by
    rw[<-aF]; exact aR _ (by omega)
   rw[aW (h*4294967296+B.toNat) 1 K,cL]at a4
   rw[aF]at a2
   omega)
 have c1:=Nat.div_mul_le_self (val u) (4294967296^j)
 have df:=Nat.lt_div_mul_add V (a:=val u)
 obtain⟨d,J,r1,r2⟩:=LG v u q j g g1 hj hq hs b6
  (by
   have:=bo (4294967296^j) (show val u / 4294967296^j+1<=(g.toNat+1)*val v by rw[eU]; omega)
   rw[aG,cH,aN _ (val u / _)]at this
   omega)
  (by
   have:=bo (4294967296^j) (show g.toNat*val v<=val u / 4294967296^j+val v by rw[eU]; omega)
   rw[aG _ (val u / _),aN _ (val u / _)]at this
   omega) ac
 refine⟨d,J,?_,r2⟩
 have w2:wI ((j:Int)+(v.length:Int))=((j+v.length:Nat):Int):=by rw[aO (by omega) (by omega)]; rfl
 have w3:wI ((((j+v.length:Nat):Int)) - 1)=((j+v.length - 1:Nat):Int):=by rw[aO (by omega) (by omega)]; omega
 rw[O,X]
 unfold F.Ud
 dsimp only
 rw[ah (aj (by omega)),w2,w3,bv hj 0,aa,bv (show j+v.length - 1<u.length by omega) 0,aa,aM,Y,Z,hH,grd_true _ ag,grd_true _ ag,hg]
 unfold F.TW
 exact r1
theorem Hz (s:UInt64) (v:Y0) (A:Nat) (hn:2<=v.length) (B:2147483648<=(v.getD (v.length - 1) 0).toNat) (N:s.toNat<32) :
  ∀(k:Nat) (u q:Y0),k+v.length<=u.length->k<=q.length->u.length<=70368744177664->q.length<=70368744177664->(∀i,i<k->q.getD i 0=0)->val q*val v+val u=A->val u<4294967296^k*val v ->
   loop (F.Ud s v (v.getD (v.length - 1) 0) (v.getD (v.length - 2) 0)) ((k:Int) - 1,u,q)=some (aw (A / val v),aw (A%val v / 2^s.toNat)):=by
 have O:0<val v:=by
  rw[q8 v (v.length - 1) (by omega)]
  have:=Nat.mul_pos (eL (n:=v.length - 1) (show 0<4294967296 by decide)) (show 0<(v.getD (v.length - 1) 0).toNat+4294967296*val (v.drop (v.length - 1+1)) by omega)
  omega
 intro k
 induction k with
 | zero=>
  intro u q U V R G I y j
  rw[jg,cL]at j
  have eq:A / val v=val q:=by rw[<-y,ch,gz _ _ O,cp j,bh]
  have X:A%val v=val u:=by rw[<-y,ch,gx,ax j]
  refine bP ?_
  unfold F.Ud
  dsimp only
  have ad:(aw (val u)).length<=u.length:=ca (cG u)
  rw[ae (by decide),kM _ (by omega),aa,kM _ (by omega),aa,HL _ _ N (by omega),aa,aC,eq,X]; rfl
 | succ k ih=>
  intro u q U V R G I y j
  have Y:(((k+1:Nat):Int)) - 1=(k:Int):=by omega
  obtain⟨d,Z,r1,r2,r3,r4,r5⟩:=Hc s v u q k hn B (by omega) (by omega) R G j
  rw[Y,bB r1]
  refine ih Z _ (by omega) (by simp; omega) (by omega) (by simpa using G) (fun i hi=>by rw[g9 (by omega)]; exact I i (by omega)) ?_ r4
  have J:=je q k d.toUInt32 (by omega)
  rw[I k (by omega)]at J
  have z0:(0:UInt32).toNat=0:=rfl
  rw[z0,cK,bA]at J
  rw[J,jQ,ax (by omega),aW,aF,<-y]
  omega
theorem NN (a b:Y0) (Y:Can a) (N:Can b) (h0:b≠[]) (dd:a.length<=70368744177660) (df:b.length<=70000000000) :
  F.SM a b=some (aw (val a / val b),aw (val a%val b)):=by
 have O:b.length≠0:=fun h=>h0 (aZ h)
 have dx:0<val b:=by
  rcases bS (val b) with h | h
  ·exact absurd (Mu N wA h) h0
  ·exact h
 unfold F.SM
 rw[ae (by simpa using fun h=>O (by rw[h]; rfl)),ug a b Y N (by omega) (by omega),aa]
 unfold jy
 by_cases h1:val a<val b
 ·rw[ah h1,ah (by decide)]
  have dy:a.length<=b.length:=by
   rcases cj b.length a.length with h | h
   ·have:=sA Y h; omega
   ·exact h
  unfold F.Sy
  have bx:apO 4 [] a=some a:=by unfold apO; rw[ah (by simp; omega)]; simp
  rw[bx,aa,aa,cp h1,ax h1,c8,nc a Y]
 ·rw[ae h1,ae (by split <;> decide)]
  have dX:b.length<=a.length:=by
   rcases cj a.length b.length with h | h
   ·exact absurd (sA N h) h1
   ·exact h
  by_cases h2:a.length<=2
  ·rw[ah (aj (by omega))]
   obtain⟨x,hx,ex⟩:=Aj a h2
   obtain⟨y,hy,Z⟩:=Aj b (by omega)
   have R:¬y=0:=fun h=>by rw[h]at Z; simp at Z; omega
   rw[hx,aa,hy,aa,grd_true _ R,mK,aa,grd_true _ R,mK,aa,fh,dH,ex,Z]
  ·rw[ae (by simp only[ar]; omega)]
   by_cases h3:b.length=1
   ·rw[ah (by simp[h3]),show (0:Int)=((0:Nat):Int) from rfl,bv (show 0<b.length by omega) 0,aa]
    have B:val b=(b.getD 0 0).toNat:=by
     match b,h3 with
     | [x],_=>simp[val]
    have hd:b.getD 0 0≠0:=fun h=>by rw[h]at B; simp at B; omega
    obtain⟨r,hr,er⟩:=Ij a (b.getD 0 0) hd (by omega)
    rw[hr,aa,kM _ (by simp),aa,<-B]
    rw[<-B]at er
    simp only[gg,iI,cK,bA,er]
   ·rw[ae (by simpa using fun h=>h3 (by omega)),length_eq b (by omega),aa]
    have q:mV b=32*(b.length - 1)+nb (b.getD (b.length - 1) 0).toNat:=by unfold mV; rw[ae O]
    obtain⟨j,G⟩:∃j,b.getD (b.length - 1) 0=j:=⟨_,rfl⟩
    rw[G]at q
    have ab:j≠0:=by
     intro h
     refine N ?_
     rw[List.getLast?_eq_getElem?]
     rw[<-G,ao,aE (show b.length - 1<b.length by omega)]at h
     rw[aE (show b.length - 1<b.length by omega),<-h]; rfl
    have b2:j.toNat≠0:=fun h=>ab (c7.1 h)
    obtain⟨n1,n2⟩:=gR j.toNat
    obtain⟨n3,n4⟩:=n2 b2
    have n5:=HJ j
    obtain⟨z,hz⟩:∃z,nb j.toNat=z:=⟨_,rfl⟩
    rw[hz]at n1 n3 n4 n5 q
    -- the shift
    have es:UInt64.ofInt (wI ((wI (32 - (Int.tmod (wI ((mV b:Int) - 1)) 32))) - 1))=UInt64.ofNat (32 - z):=by
     rw[aO (x:=(mV b:Int) - 1) (by omega) (by omega)]
     have:Int.tmod ((mV b:Int) - 1) 32=(z:Int) - 1:=by
      rw[q]
      have:((32*(b.length - 1)+z:Nat):Int) - 1=((32*(b.length - 1)+(z - 1):Nat):Int):=by omega
      rw[this,cI (by omega)]
      omega
     rw[this,aO (x:=32 - ((z:Int) - 1)) (by omega) (by omega),aO (x:=32 - ((z:Int) - 1) - 1) (by omega) (by omega),show (32 - ((z:Int) - 1)) - 1=((32 - z:Nat):Int) by omega]
     apply cA.1
     rw[UInt64.ofInt,bL,bL]; omega
    rw[es,aM]
    obtain⟨s,hs⟩:∃s,UInt64.ofNat (32 - z)=s:=⟨_,rfl⟩
    have U:s.toNat=32 - z:=by rw[<-hs,bL]; omega
    have b4:s.toNat<32:=by omega
    rw[hs,vD b s (by omega) (by omega),aa]
    -- the divisor shifted
    have b5:2^z*2^(32 - z)=4294967296:=by rw[<-bW,show z+(32 - z)=32 by omega]
    have ac:2^(z - 1)*2^(32 - z)=2147483648:=by rw[<-bW,show z - 1+(32 - z)=31 by omega]
    have ev:val b=val (b.take (b.length - 1))+4294967296^(b.length - 1)*j.toNat:=by
     have:=cR b (b.length - 1)
     rwa [show b.length - 1+1=b.length by omega,dk,G]at this
    have dY:val (b.take (b.length - 1))<4294967296^(b.length - 1):=by
     have:=cG (b.take (b.length - 1))
     rwa [aQ,bm (by omega)]at this
    have b6:val b*2^s.toNat<4294967296^b.length:=by
     have a1:val b<4294967296^(b.length - 1)*2^z:=by
      have:4294967296^(b.length - 1)*(j.toNat+1)<=4294967296^(b.length - 1)*2^z:=bo _ n1
      rw[aG]at this
      omega
     have a2:=Nat.mul_lt_mul_of_pos_right a1 (dv (32 - z))
     rw[aF,b5,<-bn,Nat.succ_eq_add_one,show b.length - 1+1=b.length by omega]at a2
     rw[U]; exact a2
    have I:4294967296^(b.length - 1)*2147483648<=val b*2^s.toNat:=by
     rw[U,<-ac,<-aF]
     refine aR _ ?_
     have:4294967296^(b.length - 1)*2^(z - 1)<=4294967296^(b.length - 1)*j.toNat:=bo _ n3
     omega
    obtain⟨v,hv⟩:∃v,aw (val b*2^s.toNat)=v:=⟨_,rfl⟩
    have V:val v=val b*2^s.toNat:=by rw[<-hv,aC]
    have X:v.length=b.length:=by
     have a1:=ca b6
     have a2:=rI (n:=val b*2^s.toNat) (k:=b.length - 1) (by
      refine bz ?_ I
      exact dP _ (by decide))
     rw[hv]at a1 a2
     omega
    have ag:2147483648<=(v.getD (v.length - 1) 0).toNat:=by
     have a1:=cR v (v.length - 1)
     rw[show v.length - 1+1=v.length by omega,dk]at a1
     have a2:=cG (v.take (v.length - 1))
     rw[aQ,bm (by omega)]at a2
     rw[X]at a1 a2 ⊢
     rcases cj (v.getD (b.length - 1) 0).toNat 2147483648 with h | h
     ·have:4294967296^(b.length - 1)*((v.getD (b.length - 1) 0).toNat+1)<=4294967296^(b.length - 1)*2147483648:=bo _ h
      rw[aG]at this
      omega
     ·exact h
    rw[hv]
    -- the dividend shifted
    have w2:wI ((a.length:Int)+2)=((a.length+2:Nat):Int):=by rw[aO (by omega) (by omega)]; rfl
    rw[w2,iR (by omega),aa,aq,vD a s (by omega) (by omega),aa]
    have ap:2^s.toNat<=4294967296:=by
     have:=br (show 0<2 by decide) (show s.toNat<=32 by omega)
     have e:(2:Nat)^32=4294967296:=rfl
     omega
    have J:val a*2^s.toNat<4294967296^(a.length+1):=by
     have a1:=cG a
     have a2:=dW (show val a+1<=4294967296^a.length from a1) ap
     rw[<-bn,aW]at a2
     have:=dv s.toNat
     omega
    obtain⟨A,hA⟩:∃A,val a*2^s.toNat=A:=⟨_,rfl⟩
    rw[hA]at J ⊢
    have d0:=ca J
    have b7:cpL (List.replicate (a.length+2) (0:UInt32)) (aw A) 0 (List.replicate (a.length+2) (0:UInt32)).length=pad (aw A) (a.length+2):=by
     unfold cpL pad
     simp only[bd,gM,gS,bJ,bh]
     rw[aA (by omega),bm (by omega),List.drop_replicate]
    rw[b7,aM,lA (by omega)]
    have w5:wI ((wI (((a.length+2:Nat):Int) - (v.length:Int))) - 1)=((a.length+1 - b.length:Nat):Int):=by
     rw[X,aO (x:=((a.length+2:Nat):Int) - (b.length:Int)) (by omega) (by omega),aO (by omega) (by omega)]; omega
    have w6:wI (((a.length+1 - b.length:Nat):Int)+1)=((a.length+2 - b.length:Nat):Int):=by rw[aO (by omega) (by omega)]; omega
    have w7:wI ((v.length:Int) - 1)=((v.length - 1:Nat):Int):=by rw[aO (by omega) (by omega)]; omega
    have w8:wI ((v.length:Int) - 2)=((v.length - 2:Nat):Int):=by rw[aO (by omega) (by omega)]; omega
    rw[w5,aM,w6,iR (by omega),aa,aq,w7,bv (show v.length - 1<v.length by omega) 0,aa,w8,bv (show v.length - 2<v.length by omega) 0,aa]
    have b8:∀i,(List.replicate (a.length+2 - b.length) (0:UInt32)).getD i 0=0:=fun i=>by
     rw[ao,f9]; split <;> rfl
    have hL:=Hz s v A (by omega) ag b4 (a.length+2 - b.length) (pad (aw A) (a.length+2)) (List.replicate (a.length+2 - b.length) 0)
     (by rw[lA (by omega)]; omega) (by simp) (by rw[lA (by omega)]; omega) (by simp; omega) (fun i _=>b8 i) (by rw[gn,pZ,aC]; omega) (by
      rw[pZ,aC]
      refine bg J ?_
      have a1:=bo (4294967296^(a.length+2 - b.length)) (bz (dP (4294967296^(b.length - 1)) (show 0<2147483648 by decide)) I)
      rw[<-V,<-bW,show a.length+2 - b.length+(b.length - 1)=a.length+1 by omega]at a1
      exact a1)
    rw[show (((a.length+2 - b.length:Nat):Int)) - 1=((a.length+1 - b.length:Nat):Int) by omega]at hL
    rw[hL,V,<-hA,Nat.mul_div_mul_right _ _ (dv _),Nat.mul_mod_mul_right,Nat.mul_div_cancel _ (dv _)]
def bi (z:Int):Bool×Y0:=(decide (z<0),aw z.natAbs)
def nl (z:Int):Nat:=(aw z.natAbs).length
theorem Fj (n:Nat):bi (n:Int)=(false,aw n):=by
 unfold bi
 rw[az (by omega),cy]
theorem bi1 {z:Int} (h:0<=z):(bi z).1=false:=az (by omega)
theorem bi2 (z:Int):(bi z).2=aw z.natAbs:=rfl
theorem bis (z:Int):(bi z).1=decide (z<0):=rfl
theorem qh (z:Int):Can (bi z).2:=xu _
theorem ql (z:Int):val (bi z).2=z.natAbs:=aC _
theorem lS {n:Nat}:aw n=[]↔n=0:=⟨fun h=>by have:=aC n; rw[h]at this; simpa [val] using this.symm,fun h=>by rw[h,c8]⟩
theorem lR {n:Nat}:0<(aw n).length↔n≠0:=by
 rw[d8,Ne,lS]
theorem jn {a b:Nat} (h:a<=b):(aw a).length<=(aw b).length:=
 ca (et h (by have:=cG (aw b); rwa [aC]at this))
theorem Jy {x y:Int} (h:x.natAbs<=y.natAbs):(bi x).2.length<=(bi y).2.length:=jn h
theorem rA (a b:Nat):(aw (a+b)).length<=max (aw a).length (aw b).length+1:=by
 refine ca ?_
 have j:=cG (aw a); have q:=cG (aw b)
 rw[aC]at j q
 have y:=br (show 0<4294967296 by decide) (Nat.le_max_left (aw a).length (aw b).length)
 have A:=br (show 0<4294967296 by decide) (Nat.le_max_right (aw a).length (aw b).length)
 rw[bn]
 omega
theorem rx (a b:Nat):(aw (a*b)).length<=(aw a).length+(aw b).length:=by
 by_cases hb:b=0
 ·subst hb; simp[c8]
 refine ca ?_
 have j:=cG (aw a); have q:=cG (aw b)
 rw[aC]at j q
 rw[bW]
 exact Nat.mul_lt_mul_of_lt_of_le j (cE q) (fk (by have:=eL (n:=(aw b).length) (show 0<4294967296 by decide); omega))
theorem As (x y:Int):nl (x*y)<=nl x+nl y:=by
 unfold nl; rw[Int.natAbs_mul]; exact rx _ _
theorem Aq (x y:Int):nl (x+y)<=max (nl x) (nl y)+1:=by
 unfold nl
 exact bz (jn (Int.natAbs_add_le x y)) (rA _ _)
theorem EU (x:Int):nl (-x)=nl x:=by unfold nl; rw[Int.natAbs_neg]
theorem Fi (x y:Int):nl (x - y)<=max (nl x) (nl y)+1:=by
 rw[Int.sub_eq_add_neg,<-EU y]; exact Aq x (-y)
theorem jK {x y:Int} (h:x.natAbs<=y.natAbs):nl x<=nl y:=jn h
theorem yA {z:Int} {k:Nat} (h:z.natAbs<4294967296^k):nl z<=k:=ca h
theorem rf (x:Int) {m:Int} (h:0<m):nl (x%m)<=nl m:=jK (by
 have:=im x (show m≠0 by omega); have:=Int.emod_lt_of_pos x h; omega)
theorem wq (n0:Bool) (j:Y0) (b:Bool) (a:Y0):F.QT n0 j b a=some (b&&decide (a≠[]),a):=by
 unfold F.QT F.WF
 cases b with
 | false=>rfl
 | true=>
  simp only[am,el]
  congr 2
  cases a <;> simp
theorem kr (n0:Bool) (q:Y0) (b:Bool) (z:Int) (h:z≠0->(b=true↔z<0)):F.QT n0 q b (aw z.natAbs)=some (bi z):=by
 rw[wq]
 congr 1
 unfold bi
 congr 1
 by_cases h0:z=0
 ·subst h0
  rw[show aw (Int.natAbs 0)=[] from c8]
  simp
 ·have j:aw z.natAbs≠[]:=by rw[Ne,lS]; omega
  simp only[ne_eq,j,iD,ib,Bool.and_true]
  have:=h h0
  cases b with
  | true=>exact (aj (this.1 rfl)).symm
  | false=>exact (az (fun hz=>by have:=this.2 hz; cases this)).symm
theorem Bt (x y:Int) (hx:nl x<=70000000000000) (G:nl y<=70000000000000):∃b,F.Rt (bi x).1 (bi x).2 (bi y).1 (bi y).2=some (b,aw (x+y).natAbs)/\(x+y≠0->(b=true↔x+y<0)):=by
 unfold F.Rt
 have I:(bi x).2.length<=70000000000000:=hx
 have J:(bi y).2.length<=70000000000000:=G
 have j:val (bi x).2=x.natAbs:=aC _
 have q:val (bi y).2=y.natAbs:=aC _
 have A:(bi x).1=decide (x<0):=rfl
 have B:(bi y).1=decide (y<0):=rfl
 by_cases hs:(decide (x<0))=(decide (y<0))
 ·rw[A,B,ah (by rw[hs]; exact ez _),uE _ _ (by omega) (by omega),aa,j,q]
  have:(x<0)↔(y<0):=by simpa using hs
  refine⟨_,by rw[show (x+y).natAbs=x.natAbs+y.natAbs by omega],fun _=>?_⟩
  rw[ar]; omega
 ·have:¬((x<0)↔(y<0)):=by simpa using hs
  rw[A,B,ae (by simpa using hs),ug _ _ (qh _) (qh _) (by omega) (by omega),aa,j,q]
  unfold jy
  by_cases h1:x.natAbs<y.natAbs
  ·rw[ah h1,ae (by decide),Bs _ _ (Jy (by omega)) (by rw[j,q]; omega) (by omega),aa,j,q]
   refine⟨_,by rw[show (x+y).natAbs=y.natAbs - x.natAbs by omega],fun _=>?_⟩
   rw[ar]; omega
  ·rw[ae h1,ah (by split <;> decide),Bs _ _ (Jy (by omega)) (by rw[j,q]; omega) (by omega),aa,j,q]
   refine⟨_,by rw[show (x+y).natAbs=x.natAbs - y.natAbs by omega],fun _=>?_⟩
   rw[ar]; omega
theorem L4 (n0:Bool) (j:Y0) (x y:Int) (hx:nl x<=70000000000000) (q:nl y<=70000000000000):F.T5 n0 j (bi x).1 (bi x).2 (bi y).1 (bi y).2=some (bi (x+y)):=by
 unfold F.T5
 obtain⟨b,A,B⟩:=Bt x y hx q
 rw[A,aa,kr _ _ _ _ B,aa]
theorem ut (x y:Int) (hx:nl x<=70000000000000) (j:nl y<=70000000000000):F.RX (bi x).1 (bi x).2 (bi y).1 (bi y).2=some (bi (x+y)):=by
 unfold F.RX
 obtain⟨b,q,A⟩:=Bt x y hx j
 rw[q,aa,kr _ _ _ _ A,aa]
theorem wy (x y:Int) (hx:nl x<=70000000000000) (A:nl y<=70000000000000):∃b,F.Rt (bi x).1 (bi x).2 (!(bi y).1) (bi y).2=some (b,aw (x - y).natAbs)/\(x - y≠0->(b=true↔x - y<0)):=by
 by_cases h0:y=0
 ·-- nought with a sign
  subst h0
  unfold F.Rt
  have N:(bi x).2.length<=70000000000000:=hx
  have B:(bi 0).2=[]:=c8
  have es:(bi 0).1=false:=rfl
  have q:val (bi x).2=x.natAbs:=aC _
  rw[B,es]
  have j:(bi x).1=decide (x<0):=rfl
  by_cases hs:x<0
  ·rw[j,ah (by rw[aj hs]; rfl),uE _ _ (by omega) (by simp),aa,q,iI]
   refine⟨_,by rw[show (x - 0).natAbs=x.natAbs+0 by omega],fun _=>by rw[ar]; omega⟩
  ·rw[j,ae (by rw[az hs]; decide),ug _ _ (qh _) wA (by omega) (by simp),aa,q,iI]
   have G:jy x.natAbs 0=if x.natAbs=0 then 0 else 1:=by unfold jy; rw[ae (by omega)]
   rw[G,ah (by split <;> decide),Bs _ _ (by simp) (by rw[iI]; omega) (by omega),aa,q,iI]
   refine⟨_,by rw[show (x - 0).natAbs=x.natAbs - 0 by omega],fun _=>by rw[ar]; omega⟩
 ·have I:(!(bi y).1)=(bi (-y)).1:=by
   unfold bi
   by_cases h:y<0
   ·rw[aj h,az (by omega)]; rfl
   ·rw[az h,aj (by omega)]; rfl
  have J:(bi y).2=(bi (-y)).2:=by rw[bi2,bi2,Int.natAbs_neg]
  rw[I,J,Int.sub_eq_add_neg]
  exact Bt x (-y) hx (by rw[EU]; exact A)
theorem GB (n0:Bool) (j:Y0) (x y:Int) (hx:nl x<=70000000000000) (q:nl y<=70000000000000):F.Tx n0 j (bi x).1 (bi x).2 (bi y).1 (bi y).2=some (bi (x - y)):=by
 unfold F.Tx
 obtain⟨b,A,B⟩:=wy x y hx q
 rw[A,aa,kr _ _ _ _ B,aa]
theorem Dy (x y:Int) (hx:nl x<=70000000000000) (j:nl y<=70000000000000):F.Sa (bi x).1 (bi x).2 (bi y).1 (bi y).2=some (bi (x - y)):=by
 unfold F.Sa
 obtain⟨b,q,A⟩:=wy x y hx j
 rw[q,aa,kr _ _ _ _ A,aa]
theorem Dl (x y:Int) (hx:nl x<=70000000000000) (j:nl y<=70000000000000):F.UZ (bi y).1 (bi y).2 (bi x).1 (bi x).2=some (bi (x - y)):=by
 unfold F.UZ
 obtain⟨b,q,A⟩:=wy x y hx j
 rw[q,aa,kr _ _ _ _ A,aa]
theorem Ll (x y:Int) (h:x*y≠0):((decide (x<0) != decide (y<0))=true↔x*y<0):=by
 have hx:x≠0:=fun j=>h (by rw[j,Int.zero_mul])
 have q:y≠0:=fun j=>h (by rw[j,Int.mul_zero])
 by_cases h1:x<0 <;> by_cases h2:y<0
 ·have:=Int.mul_pos_of_neg_of_neg h1 h2
  simp[h1,h2]; omega
 ·have:=Int.mul_neg_of_neg_of_pos h1 (show 0<y by omega)
  simp[h1,h2,this]
 ·have:=Int.mul_neg_of_pos_of_neg (show 0<x by omega) h2
  simp[h1,h2,this]
 ·have:=Int.mul_pos (show 0<x by omega) (show 0<y by omega)
  simp[h1,h2]; omega
theorem Ae (n0:Bool) (j:Y0) (x y:Int) (h:nl x+nl y<=70368744177664):F.SW n0 j (bi x).1 (bi x).2 (bi y).1 (bi y).2=some (bi (x*y)):=by
 unfold F.SW
 have q:(bi x).2.length+(bi y).2.length<=70368744177664:=h
 rw[G8 _ _ (by omega),aa,ql,ql,<-Int.natAbs_mul,bis,bis,kr _ _ _ _ (Ll x y),aa]
theorem BR (n0:Bool) (q:Y0) (x:Int) (A:-9223372036854775808<=x) (B:x<=9223372036854775807):F.Tf n0 q x=some (bi x):=by
 have j:∀u:UInt64,u.toNat=x.natAbs->F.We n0 q x u=some (bi x):=by
  intro u hu
  unfold F.We
  dsimp only
  rw[mK,aa,hu,kr _ _ _ _ (fun _=>by rw[ar]),aa]
 unfold F.Tf
 have y:(UInt64.ofInt x).toNat=(x%18446744073709551616).toNat:=by
  rw[UInt64.ofInt,bL]
  have:=im x (show (18446744073709551616:Int)≠0 by decide)
  have:=Int.emod_lt_of_pos x (show (0:Int)<18446744073709551616 by decide)
  omega
 by_cases h:x<0
 ·rw[ah (aj h)]
  refine j _ ?_
  rw[fi,y]
  have:(0:UInt64).toNat=0:=rfl
  omega
 ·rw[ae (by simpa using h)]
  refine j _ ?_
  rw[y]; omega
theorem me (x:Int) (j:-9223372036854775808<=x) (q:x<=9223372036854775807):F.Rb x=some (bi x):=by
 unfold F.Rb
 rw[BR _ _ x j q,aa]
theorem CM (a:Y0) (h:a.length<=50000000000000):F.Sy a=some a:=by
 unfold F.Sy
 have j:apO 4 [] a=some a:=by unfold apO; rw[ah (by simp; omega)]; simp
 rw[j,aa]
theorem A5 (n0:Bool) (j:Y0) (x:Int) (h:nl x<=50000000000000):F.R0 n0 j (bi x).1 (bi x).2=some (bi x):=by
 unfold F.R0
 rw[CM (bi x).2 h,aa,bi2,bis,kr _ _ _ _ (fun _=>by rw[ar]),aa]
theorem zH (x y:Int):(Int.tdiv x y).natAbs=x.natAbs / y.natAbs:=Int.natAbs_tdiv x y
theorem qr (x y:Int):(Int.tmod x y).natAbs=x.natAbs%y.natAbs:=Int.natAbs_tmod x y
theorem rk (n0 q:Bool) (A B:Y0) (x y:Int) (N:y≠0) (G:nl x<=70368744177660) (I:nl y<=70000000000) :
  F.Ts n0 A (bi x).1 (bi x).2 (bi y).1 (bi y).2 q B=some ((bi (Int.tdiv x y)).1,(bi (Int.tdiv x y)).2,(bi (Int.tmod x y)).1,(bi (Int.tmod x y)).2):=by
 unfold F.Ts
 rw[NN _ _ (qh _) (qh _) (by rw[bi2,Ne,lS]; omega) G I,aa,ql,ql]
 dsimp only
 rw[bis,bis,<-zH,<-qr,kr _ _ _ _ (fun h=>?_),aa,kr _ _ _ _ (fun h=>?_),aa]
 ·show decide (x<0)=true↔_
  rw[ar]
  rcases Int.lt_trichotomy x 0 with j | j | j
  ·have:=Int.tmod_nonneg y (show 0<=-x by omega)
   rw[Int.neg_tmod]at this
   omega
  ·subst j; simp at h
  ·have:=Int.tmod_nonneg y (show 0<=x by omega)
   omega
 ·have hp:Int.tdiv x y≠0:=h
  show (decide (x<0) != decide (y<0))=true↔_
  by_cases hx:x<0 <;> by_cases hyn:y<0
  ·have:=Int.tdiv_nonneg_of_nonpos_of_nonpos (show x<=0 by omega) (show y<=0 by omega)
   simp[hx,hyn]; omega
  ·simp only[hx,hyn,ib,dq]
   have J:Int.tdiv x y<=0:=by
    have:=Int.tdiv_nonneg (a:=-x) (b:=y) (by omega) (by omega)
    rw[Int.neg_tdiv]at this; omega
   simp; omega
  ·have J:Int.tdiv x y<=0:=by
    have:=Int.tdiv_nonneg (a:=x) (b:=-y) (by omega) (by omega)
    rw[Int.tdiv_neg]at this; omega
   simp[hx,hyn]; omega
  ·have:=Int.tdiv_nonneg (a:=x) (b:=y) (by omega) (by omega)
   simp[hx,hyn]; omega
theorem Gb {x y:Int} (j:0<y) (h:Int.tmod x y<0):Int.tdiv x y - 1=x / y/\Int.tmod x y+y=x%y:=by
 have A:=Int.mul_tdiv_add_tmod x y
 have B:(Int.tmod x y).natAbs<y.natAbs:=by rw[qr]; exact bM _ (by omega)
 have G:y*Int.tdiv x y=y*(Int.tdiv x y - 1)+y:=by rw[Int.mul_sub,Int.mul_one]; omega
 have:=(Int.ediv_emod_unique (a:=x) (b:=y) (q:=Int.tdiv x y - 1) (r:=Int.tmod x y+y) j).2 ⟨by omega,by omega,by omega⟩
 exact⟨this.1.symm,this.2.symm⟩
theorem EF {x y:Int} (j:0<y) (h:¬Int.tmod x y<0):Int.tdiv x y=x / y/\Int.tmod x y=x%y:=by
 have A:=Int.mul_tdiv_add_tmod x y
 have B:(Int.tmod x y).natAbs<y.natAbs:=by rw[qr]; exact bM _ (by omega)
 have:=(Int.ediv_emod_unique (a:=x) (b:=y) (q:=Int.tdiv x y) (r:=Int.tmod x y) j).2 ⟨by omega,by omega,by omega⟩
 exact⟨this.1.symm,this.2.symm⟩
theorem JW (x y:Int):nl (Int.tdiv x y)<=nl x:=jK (by rw[zH]; exact dO _ _)
theorem Lq (x y:Int):nl (Int.tmod x y)<=nl x:=jK (by rw[qr]; exact Nat.mod_le _ _)
theorem AF:nl 1<=1:=yA (by decide)
theorem xI (n0 G:Bool) (I J:Y0) (x y:Int) (A:0<y) (N:nl x<=70368744177660) (O:nl y<=70000000000) (B:x<0->nl x<=70000000000000) :
  F.Tv n0 I (bi x).1 (bi x).2 (bi y).1 (bi y).2 G J=some ((bi (x / y)).1,(bi (x / y)).2,(bi (x%y)).1,(bi (x%y)).2):=by
 have R:=JW x y; have U:=Lq x y; have V:=AF
 unfold F.Tv
 rw[A5 _ _ _ (by omega),aa,rk _ _ _ _ _ _ (by omega) N O,aa]
 dsimp only
 by_cases h:Int.tmod x y<0
 ·obtain⟨j,q⟩:=Gb A h
  have B:=B (by rcases Int.lt_or_le x 0 with hx | hx; exact hx; have:=Int.tmod_nonneg y hx; omega)
  rw[ah (show (bi (Int.tmod x y)).1=true from aj h),ae (by rw[bi1 (by omega)]; decide),me 1 (by decide) (by decide),aa,Dy _ _ (by omega) (by omega),aa,ut _ _ (by omega) (by omega),aa,j,q]
  rfl
 ·obtain⟨j,q⟩:=EF A h
  rw[ae (by rw[show (bi (Int.tmod x y)).1=false from az h]; decide),j,q]
  rfl
theorem yg (n0 j y:Bool) (A q B:Y0):F.WC n0 A y B j q=F.Tv n0 A j q y B j q:=rfl
theorem GP (n0:Bool) (j:Y0) (x y:Int) (q:0<y) (A:nl x<=70368744177660) (B:nl y<=70000000000) (G:x<0->nl x<=70000000000000):F.UK n0 j (bi x).1 (bi x).2 (bi y).1 (bi y).2=some (bi (x%y)):=by
 unfold F.UK
 rw[xI _ _ _ _ x y q A B G,aa]
theorem EB (x y:Int) (j:0<y) (q:nl x<=70368744177660) (A:nl y<=70000000000) (B:x<0->nl x<=70000000000000):F.Wf (bi x).1 (bi x).2 (bi y).1 (bi y).2=some (bi (x%y)):=by
 unfold F.Wf
 rw[yg,xI _ _ _ _ x y j q A B,aa]
def zp (x y:Int):Int:=if x<y then -1 else if x=y then 0 else 1
theorem uk (x y:Int) (hx:nl x<=70368744177664) (B:nl y<=70368744177664):F.R5 (bi x).1 (bi x).2 (bi y).1 (bi y).2=some (zp x y):=by
 have J:(bi x).2.length<=70368744177664:=hx
 have N:(bi y).2.length<=70368744177664:=B
 unfold F.R5 zp
 rw[ug _ _ (qh x) (qh y) (by omega) (by omega),ql,ql]
 unfold jy
 have j:(bi x).1=decide (x<0):=rfl
 have A:(bi y).1=decide (y<0):=rfl
 obtain⟨O,G⟩:∃q,(bi x).1=q:=⟨_,rfl⟩
 obtain⟨R,I⟩:∃q,(bi y).1=q:=⟨_,rfl⟩
 rw[G]at j ⊢; rw[I]at A ⊢
 by_cases h1:x<0 <;> by_cases h2:y<0
 ·rw[aj h1]at j; rw[aj h2]at A; subst j; subst A
  rw[ae (by decide),aa,ah rfl]
  rcases Int.lt_trichotomy x y with h | h | h
  ·rw[ah h,ae (by omega),ae (by omega)]; rfl
  ·rw[ae (by omega),ah (by omega),ae (by omega),ah h]; rfl
  ·rw[ah (by omega),ae (by omega),ae (by omega)]; rfl
 ·rw[aj h1]at j; rw[az h2]at A; subst j; subst A
  rw[ah (by decide),ah rfl,ah (by omega)]
 ·rw[az h1]at j; rw[aj h2]at A; subst j; subst A
  rw[ah (by decide),ae (by decide),ae (by omega),ae (by omega)]
 ·rw[az h1]at j; rw[az h2]at A; subst j; subst A
  rw[ae (by decide),aa,ae (by decide)]
  rcases Int.lt_trichotomy x y with h | h | h
  ·rw[ah (by omega),ah h]
  ·rw[ae (by omega),ah (by omega),ae (by omega),ah h]
  ·rw[ae (by omega),ae (by omega),ae (by omega),ae (by omega)]
theorem sc (x:Int):F.Q4 (bi x).1 (bi x).2=some (if x=0 then 0 else if x<0 then -1 else 1):=by
 unfold F.Q4
 by_cases h:x=0
 ·subst h; rw[ah rfl]; exact ah (by rw[bi2,show Int.natAbs 0=0 from rfl,c8]; rfl)
 ·have:(bi x).2.length≠0:=fun j=>h (by have:=aZ j; rw[bi2,lS]at this; omega)
  rw[ae (by simpa using fun j=>this (by rw[j]; rfl)),ae h,bis]
  by_cases h1:x<0
  ·rw[ah (by simp[h1]),ah h1]
  ·rw[ae (by simp[h1]),ae h1]
def beN:Y3->Nat
 | []=>0
 | x :: l=>x.toNat*256^l.length+beN l
def beB:Nat->Nat->Y3
 | 0,_=>[]
 | k+1,n=>UInt8.ofNat (n / 256^k) :: beB k n
theorem il:∀k n,(beB k n).length=k
 | 0,_=>rfl
 | k+1,n=>by simp[beB,il k n]
theorem nq:∀l:Y3,beN l<256^l.length
 | []=>by simp[beN]
 | x :: l=>by
  have j:=nq l; have q:=x.toNat_lt
  have:(x.toNat+1)*256^l.length<=256*256^l.length:=aR _ (by omega)
  rw[aW]at this
  rw[beN,cg,bn,aN (256^_) 256]
  omega
theorem nU:∀k n,beN (beB k n)=n%256^k
 | 0,n=>by simp[beB,beN,Nat.mod_one]
 | k+1,n=>by
  rw[beB,beN,il,nU k n,dQ,show (2:Nat)^8=256 from rfl,Nat.mod_pow_succ,aN (256^k),ch]
theorem uK:∀a b:Y3,beN (a++b)=beN a*256^b.length+beN b
 | [],b=>by simp[beN]
 | x :: a,b=>by
  rw[di,beN,beN,uK a b,ay,aW,bW,aF]; omega
theorem CF:∀{a b:Y3},a.length=b.length->beN a=beN b->a=b
 | [],[],_,_=>rfl
 | [],_ :: _,h,_=>by simp at h
 | _ :: _,[],h,_=>by simp at h
 | x :: a,y :: b,h,h2=>by
  have hl:a.length=b.length:=by simpa using h
  rw[beN,beN,hl]at h2
  have j:=nq a; have q:=nq b
  rw[hl]at j
  have hp:0<256^b.length:=eL (by decide)
  have A:(x.toNat*256^b.length+beN a) / 256^b.length=x.toNat:=by rw[ch,gz _ _ hp,cp j,bh]
  have B:(y.toNat*256^b.length+beN b) / 256^b.length=y.toNat:=by rw[ch,gz _ _ hp,cp q,bh]
  have:x.toNat=y.toNat:=by rw[<-A,<-B,h2]
  have hx:x=y:=fX.1 this
  subst hx
  rw[CF hl (by omega)]
theorem wJ:∀(k:Nat) (l:Y3),beN (List.replicate k 0++l)=beN l
 | 0,l=>rfl
 | k+1,l=>by rw[List.replicate_succ,di,beN,wJ k l]; simp
theorem nF (l:Y3) {i:Nat} (h:i<l.length):beN (l.take (i+1))=256*beN (l.take i)+(l.getD i 0).toNat:=by
 rw[List.take_add_one,ao,aE h,uK]
 simp[beN]; omega
theorem A2:∀(k n i:Nat),i<k->(beB k n).getD i 0=UInt8.ofNat (n / 256^(k - 1 - i))
 | 0,_,_,h=>by omega
 | k+1,n,0,_=>by simp[beB]
 | k+1,n,i+1,h=>by
  rw[beB,List.getD_cons_succ,A2 k n i (by omega),show k+1 - 1 - (i+1)=k - 1 - i by omega]
theorem mu {n k:Nat} (h:n<256^k):(aw n).length<=(k+3) / 4:=by
 refine ca (bg h ?_)
 rw[show (4294967296:Nat)=256^4 from rfl,<-dh]
 exact br (by decide) (by omega)
theorem pu (n0:Bool) (q:Y0) (b:Y3) (G:b.length<=140737488351232):F.SO n0 q b=some (bi (beN b:Nat)):=by
 unfold F.SO
 have e:=ft (f:=F.Vn n0 q b) (fun (x:Nat) i=>(aw x,(i:Int))) (fun i x=>i<=b.length->x=beN (b.take i)) (fun x i=>256*x+(b.getD i 0).toNat) 0 b.length
  (X:=fun x=>some (bi (x:Nat)))
  (fun i x _ hi hx=>by
   have hx:=hx (by omega)
   refine⟨?_,fun _=>by rw[hx,nF b hi]⟩
   have w4:wI ((i:Int)+1)=((i+1:Nat):Int):=by rw[aO (by omega) (by omega)]; rfl
   have hl:(aw x).length<=(i+3) / 4:=by
    rw[hx]
    have:=nq (b.take i)
    rw[aQ,bm (by omega)]at this
    exact mu this
   have y:(8:UInt64).toNat=8:=rfl
   unfold F.Vn
   dsimp only
   rw[ah (aj (by omega)),vD _ 8 (by rw[y]; omega) (by omega),aa,bv hi 0,aa,mK,aa,aC,y]
   have A:(aw (x*2^8)).length<=(i+3) / 4+1:=by
    have:=rx x (2^8)
    have I:(aw (2^8)).length<=1:=ca (by decide)
    omega
   have B:(aw (b.getD i 0).toUInt64.toNat).length<=2:=ca (by have:=(b.getD i 0).toUInt64.toNat_lt; omega)
   rw[uE _ _ (by omega) (by omega),aa,aC,aC,w4]
   have:(b.getD i 0).toUInt64.toNat=(b.getD i 0).toNat:=UInt8.toNat_toUInt64 _
   rw[this,show x*2^8=256*x by omega]; rfl)
  (fun x hx=>by
   unfold F.Vn
   dsimp only
   rw[ae (by simp),wq,aa,Fj]; rfl)
  b.length 0 0 (av _) (by omega) (fun _=>by simp[beN])
 have j:=f8 (fun i (x:Nat)=>i<=b.length->x=beN (b.take i)) (fun x i=>256*x+(b.getD i 0).toNat) (fun i x hx=>fun hi=>by rw[hx (by omega),nF b (by omega)]) b.length 0 0 (fun _=>by simp[beN])
 rw[bh]at j
 have j:=j (av _)
 rw[j,dk]at e
 rw[c8]at e
 exact e
theorem q6 {n k:Nat} (j:n<2^k) (q:2^(k - 1)<=n) (y:1<=k):nb n=k:=by
 have a1:=qB j
 rcases cj (nb n) k with h | h
 ·have a2:=(gR n).1
  have a3:=br (show 0<2 by decide) (show nb n<=k - 1 by omega)
  omega
 ·omega
theorem pv (n:Nat):mV (aw n)=nb n:=by
 unfold mV
 by_cases h0:n=0
 ·subst h0; rw[c8,ah (show ([]:Y0).length=0 from rfl),kL]
 ·obtain⟨l,hl⟩:∃l,aw n=l:=⟨_,rfl⟩
  have j:l.length≠0:=by have:=lR.2 h0; rw[hl]at this; omega
  have B:val l=n:=by rw[<-hl,aC]
  have hc:Can l:=by rw[<-hl]; exact xu n
  rw[hl,ae j]
  have q:=cR l (l.length - 1)
  rw[show l.length - 1+1=l.length by omega,dk,B]at q
  have G:=cG (l.take (l.length - 1))
  rw[aQ,bm (by omega)]at G
  obtain⟨t,y⟩:∃t,l.getD (l.length - 1) 0=t:=⟨_,rfl⟩
  rw[y]at q ⊢
  have A:t.toNat≠0:=by
   intro h
   have h:t=0:=c7.1 h
   refine hc ?_
   rw[List.getLast?_eq_getElem?]
   rw[<-y,ao,aE (show l.length - 1<l.length by omega)]at h
   rw[aE (show l.length - 1<l.length by omega),<-h]; rfl
  obtain⟨n1,I⟩:=gR t.toNat
  obtain⟨J,N⟩:=I A
  have hp:(4294967296:Nat)^(l.length - 1)=2^(32*(l.length - 1)):=by rw[dh]
  symm
  refine q6 ?_ ?_ (by omega)
  ·rw[bW,<-hp]
   have:4294967296^(l.length - 1)*(t.toNat+1)<=4294967296^(l.length - 1)*2^nb t.toNat:=bo _ n1
   rw[aG]at this
   omega
  ·rw[show 32*(l.length - 1)+nb t.toNat - 1=32*(l.length - 1)+(nb t.toNat - 1) by omega,bW,<-hp]
   have:4294967296^(l.length - 1)*2^(nb t.toNat - 1)<=4294967296^(l.length - 1)*t.toNat:=bo _ J
   omega
def nby (n:Nat):Nat:=(nb n+7) / 8
theorem Jj (k:Nat):(256:Nat)^k=2^(8*k):=by rw[dh]
theorem uW (n:Nat):n<256^nby n:=by
 rw[Jj]
 exact bg (gR n).1 (br (by decide) (by unfold nby; omega))
theorem Fp {n i:Nat} (h:i<nby n):256^i<=n:=by
 rw[Jj]
 have hn:n≠0:=by rintro rfl; unfold nby at h; rw[kL]at h; omega
 obtain⟨j,q⟩:=(gR n).2 hn
 exact bz (br (by decide) (by unfold nby at h; omega)) j
theorem Fv {n k:Nat} (h:n<256^k):nby n<=k:=by
 rcases cj k (nby n) with j | j
 ·have:=Fp j; omega
 ·exact j
theorem nk (n:Nat):nb n<=32*(aw n).length:=by
 refine qB ?_
 have:=cG (aw n)
 rw[aC]at this
 rw[dh]; exact this
theorem xa (l:Y0) (i:Nat):(ff (l.getD (i / 4) 0) (8*(i%4))).toUInt8=UInt8.ofNat (val l / 256^i):=by
 apply fX.1
 rw[UInt32.toNat_toUInt8,lQ,dQ]
 have e8:(2:Nat)^8=256:=rfl
 rw[e8]
 have j:(256:Nat)^i=4294967296^(i / 4)*256^(i%4):=by
  rw[show (4294967296:Nat)=256^4 from rfl,<-dh,<-bW]; congr 1; omega
 rw[j,<-du,jY,eA]
 obtain⟨w,hw⟩:∃w,(l.getD (i / 4) 0).toNat=w:=⟨_,rfl⟩
 obtain⟨R,q⟩:∃R,val (l.drop (i / 4+1))=R:=⟨_,rfl⟩
 rw[hw,q]
 have:i%4=0\/i%4=1\/i%4=2\/i%4=3:=by omega
 rcases this with h | h | h | h <;> rw[h] <;> simp <;> omega
theorem AG (x:Int) (hx:nl x<=1000000000):F.TQ (bi x).1 (bi x).2=some (beB (nby x.natAbs) x.natAbs):=by
 obtain⟨n,hn⟩:∃n,x.natAbs=n:=⟨_,rfl⟩
 have hl:(aw n).length<=1000000000:=by rw[<-hn]; exact hx
 have Z:=nk n
 obtain⟨m,hm⟩:∃m,nby n=m:=⟨_,rfl⟩
 have V:m<=4*(aw n).length:=by rw[<-hm]; unfold nby; omega
 unfold F.TQ
 rw[bi2,hn,length_eq _ (by omega),aa,pv]
 have G:wI (Int.tdiv (wI ((nb n:Int)+7)) 8)=(m:Int):=by
  rw[aO (x:=(nb n:Int)+7) (by omega) (by omega),ce (by omega),aO (by omega) (by omega),<-hm]; unfold nby; omega
 rw[G,aM,iR (by omega),aa,aq,hm]
 have e:=ft (f:=F.Wy (aw n) (m:Int)) (fun (y:Y3) i=>((i:Int),y)) (fun i y=>i<=m->y=List.replicate (m - i) 0++beB i n) (fun y i=>y.set (m - 1 - i) (UInt8.ofNat (n / 256^i))) 0 m
  (X:=fun y=>some y)
  (fun i y _ hi j=>by
   have j:=j (by omega)
   have A:y.set (m - 1 - i) (UInt8.ofNat (n / 256^i))=List.replicate (m - (i+1)) 0++beB (i+1) n:=by
    rw[j,show m - i=m - (i+1)+1 by omega,gL,aP,show m - 1 - i=m - (i+1) by omega,eb _ _ (by simp)]
    simp[beB]
   refine⟨?_,fun _=>A⟩
   have B:i / 4<(aw n).length:=by
    refine rI (k:=i / 4) ?_
    refine bz ?_ (Fp (show i<nby n by omega))
    rw[show (4294967296:Nat)=256^4 from rfl,<-dh]
    exact br (by decide) (by omega)
   have Y:y.length=m:=by rw[j]; simp[il]; omega
   have w4:wI ((i:Int)+1)=((i+1:Nat):Int):=by rw[aO (by omega) (by omega)]; rfl
   have I:wI (Int.tdiv (i:Int) 4)=((i / 4:Nat):Int):=by rw[ce (by omega),aO (by omega) (by omega)]; omega
   have J:wI ((wI ((m:Int) - 1)) - (i:Int))=((m - 1 - i:Nat):Int):=by rw[aO (x:=(m:Int) - 1) (by omega) (by omega),aO (by omega) (by omega)]; omega
   have N:(8*((UInt64.ofInt (i:Int))%4)).toNat=8*(i%4):=by
    have O:(UInt64.ofInt (i:Int)).toNat=i:=by
     rw[UInt64.ofInt,bL]
     omega
    have R:(4:UInt64).toNat=4:=rfl
    have U:(8:UInt64).toNat=8:=rfl
    rw[iQ,dH,O,R,U]; omega
   unfold F.Wy
   dsimp only
   rw[ah (aj (by omega)),I,bv B 0,aa,J,bv (show m - 1 - i<y.length by omega) 0,aa,aM,aq,N,xa,aC,w4]
   rfl)
  (fun y j=>by
   unfold F.Wy
   dsimp only
   rw[ae (by simp)])
  m 0 (List.replicate m 0) (av _) (by omega) (fun _=>by simp[beB])
 have q:=f8 (fun i (y:Y3)=>i<=m->y=List.replicate (m - i) 0++beB i n) (fun y i=>y.set (m - 1 - i) (UInt8.ofNat (n / 256^i)))
  (fun i y j=>fun hi=>by
   rw[j (by omega),show m - i=m - (i+1)+1 by omega,gL,aP,show m - 1 - i=m - (i+1) by omega,eb _ _ (by simp)]
   simp[beB]) m 0 (List.replicate m 0) (fun _=>by simp[beB])
 rw[bh]at q
 have q:=q (av _)
 rw[q,Nat.sub_self,List.replicate_zero,bJ]at e
 exact e
def pj (c:UInt8):Nat:=if c.toNat<=57 then c.toNat - 48 else c.toNat - 87
def jU (c:UInt8):Bool:=(48<=c.toNat&&c.toNat<=57) || (97<=c.toNat&&c.toNat<=102)
def iN:Y3->Nat
 | []=>0
 | x :: l=>pj x*16^l.length+iN l
theorem C5 {c:UInt8} (h:jU c=true):pj c<16:=by
 unfold jU at h; unfold pj
 simp only[fW,aK,ar]at h
 split <;> omega
theorem sO:∀a b:Y3,iN (a++b)=iN a*16^b.length+iN b
 | [],b=>by simp[iN]
 | x :: a,b=>by
  rw[di,iN,iN,sO a b,ay,aW,bW,aF]; omega
theorem CR:∀l:Y3,l.all jU=true->iN l<16^l.length
 | [],_=>by simp[iN]
 | x :: l,h=>by
  rw[List.all_cons,aK]at h
  have j:=CR l h.2; have q:=C5 h.1
  have:(pj x+1)*16^l.length<=16*16^l.length:=aR _ (by omega)
  rw[aW]at this
  rw[iN,cg,bn,aN (16^_) 16]
  omega
theorem p9 (l:Y3) {i:Nat} (h:i<l.length):iN (l.take (i+1))=16*iN (l.take i)+pj (l.getD i 0):=by
 rw[List.take_add_one,ao,aE h,sO]
 simp[iN]; omega
theorem AR {l:Y3} {p:UInt8->Bool} (h:l.all p=true) {i:Nat} (hi:i<l.length):p (l.getD i 0)=true:=by
 rw[ao,aE hi]
 exact cq.1 h _ (cC hi)
theorem Iy {l:Y3} {p:UInt8->Bool} (h:l.all p=true) (i:Nat):(l.take i).all p=true:=
 cq.2 fun x hx=>cq.1 h x (List.mem_of_mem_take hx)
theorem IK (n0:Bool) (I:Y0) (J:Bool) (s:Y3) (n i:Nat) (hs:s.all jU=true) (hi:i<s.length) (N:s.length<=1000000000) (hn:(aw n).length<=1000000000) :
  F.TP n0 I J s 16 (aw n,(i:Int))=some (.inl (aw (16*n+pj (s.getD i 0)),((i+1:Nat):Int))):=by
 have hc:=AR hs hi
 obtain⟨c,y⟩:∃c,s.getD i 0=c:=⟨_,rfl⟩
 rw[y]at hc ⊢
 have hd:=C5 hc
 have w4:wI ((i:Int)+1)=((i+1:Nat):Int):=by rw[aO (by omega) (by omega)]; rfl
 have A:∀d:Nat,d<16->F.SU 16 (aw n) (i:Int) (d:Int)=some (.inl (aw (16*n+d),((i+1:Nat):Int))):=by
  intro d hd
  unfold F.SU
  have B:(UInt64.ofInt 16).toNat=16:=rfl
  have G:(UInt64.ofInt (d:Int)).toNat=d:=by rw[UInt64.ofInt,bL]; omega
  have j:(aw 16).length<=1:=ca (by decide)
  have q:(aw d).length<=1:=ca (by omega)
  have O:=rx n 16
  rw[ae (by simp only[ar]; omega),mK,aa,B,G8 _ _ (by omega),aa,mK,aa,G,aC,aC,uE _ _ (by omega) (by omega),aa,aC,aC,w4,aN n 16]
  rfl
 unfold F.TP
 dsimp only
 rw[ah (aj (by omega)),bv hi 0,aa,y]
 unfold jU at hc
 simp only[fW,aK,ar]at hc
 rw[ah (aj (by rw[dN]; have:(48:UInt8).toNat=48:=rfl; omega))]
 unfold F.W1
 by_cases h:c.toNat<=57
 ·have j:(c - 48).toNat=c.toNat - 48:=UInt8.toNat_sub_of_le _ _ (by rw[dN]; have:(48:UInt8).toNat=48:=rfl; omega)
  have q:pj c=c.toNat - 48:=ah h
  rw[ah (aj (by rw[dN]; exact h)),aM,j,q]
  exact A _ (by omega)
 ·have j:(c - 97).toNat=c.toNat - 97:=UInt8.toNat_sub_of_le _ _ (by rw[dN]; have:(97:UInt8).toNat=97:=rfl; omega)
  have q:pj c=c.toNat - 87:=ae h
  rw[ae (by rw[ar,dN]; exact h),ah (aj (by rw[dN]; have:(97:UInt8).toNat=97:=rfl; omega))]
  unfold F.WU
  rw[ah (aj (by rw[dN]; have:(122:UInt8).toNat=122:=rfl; omega)),aM,j,aO (by omega) (by omega),q,show ((c.toNat - 97:Nat):Int)+10=((c.toNat - 87:Nat):Int) by omega]
  exact A _ (by omega)
theorem zg (n0:Bool) (y:Y0) (s:Y3) (hs:s.all jU=true) (A:s≠[]) (B:s.length<=1000000000):F.U6 n0 y s 16=some (true,false,aw (iN s)):=by
 have hl:0<s.length:=d8.2 A
 have hc:=AR hs hl
 unfold jU at hc
 simp only[fW,aK,ar]at hc
 have q:∀d:UInt8,d.toNat<48->(s.getD 0 0 == d)=false:=fun d hd=>by
  rw[fF]; intro h; rw[h]at hc; omega
 unfold F.U6
 rw[ah (aj (by omega)),show (0:Int)=((0:Nat):Int) from rfl,bv hl 0,aa,ae (by rw[q 45 (by decide)]; decide),aa,q 43 (by decide)]
 unfold F.Wi F.Xd
 rw[ae (by decide)]
 dsimp only
 rw[ae (by decide)]
 unfold F.TS
 dsimp only
 rw[ae (by simpa using A),ae (by decide)]
 unfold F.UR
 rw[ae (by decide)]
 have I:∀i,i<=s.length->(aw (iN (s.take i))).length<=1000000000:=fun i hi=>by
  have G:=CR (s.take i) (Iy hs i)
  rw[aQ,bm hi]at G
  have J:=mu (k:=i) (bg G (Nat.pow_le_pow_left (by decide) i))
  omega
 have e:=ft (f:=F.TP n0 y false s 16) (fun (x:Nat) i=>(aw x,(i:Int))) (fun i x=>i<=s.length->x=iN (s.take i)) (fun x i=>16*x+pj (s.getD i 0)) 0 s.length
  (X:=fun x=>some (true,false,aw x))
  (fun i x _ hi hx=>by
   have hx:=hx (by omega)
   exact⟨IK n0 y false s x i hs hi B (by rw[hx]; exact I i (by omega)),fun _=>by rw[hx,p9 s hi]⟩)
  (fun x hx=>by
   unfold F.TP
   dsimp only
   rw[ae (by simp),wq,aa]; rfl)
  s.length 0 0 (av _) (by omega) (fun _=>by simp[iN])
 have j:=f8 (fun i (x:Nat)=>i<=s.length->x=iN (s.take i)) (fun x i=>16*x+pj (s.getD i 0)) (fun i x hx=>fun hi=>by rw[hx (by omega),p9 s (by omega)]) s.length 0 0 (fun _=>by simp[iN])
 rw[bh]at j
 have j:=j (av _)
 rw[j,dk,c8]at e
 exact e
theorem sW (a:Y0) (y:a.length<=4611686018427387904):∀k,k<=a.length->(∀j,k<=j->a.getD j 0=0)->∃m,loop (F.UE a) k=some m/\m<=a.length/\a.take m=aw (val a)
 | 0,_,hz=>by
  refine⟨0,?_,by omega,oX (by omega) hz (.inl rfl)⟩
  have h:F.UE a 0=bj (grd (0<=(((a.take 0).length:Int):Int)/\(((a.take 0).length:Int):Int).toNat<=(a.take 0).length/\(((a.take 0).length:Int):Int)=((a.take 0).length:Int)) <| some ((((a.take 0).length:Int):Int).toNat)):=rfl
  rw[cU h,grd_true _ (by simp)]; rfl
 | k+1,hk,hz=>by
  have hl:(a.take (k+1)).length=k+1:=by rw[aQ]; omega
  have w:wI (((k+1:Nat):Int) - 1)=(k:Int):=by rw[aO (by omega) (by omega)]; omega
  have A:au (a.take (k+1)) (k:Int)=some (a.getD k 0):=by
   rw[bv (show k<(a.take (k+1)).length by omega) 0]
   congr 1
   rw[ao,bK,ah (by omega),<-ao]
  have hL:F.UE a (k+1)=if (decide ((0:Int)<((a.take (k+1)).length:Int)))=true then af (au (a.take (k+1)) (wI (((a.take (k+1)).length:Int) - 1):Int)) fun q=>F.R7 a (k+1) (q == 0) else F.R7 a (k+1) false:=rfl
  rw[hl,ah (aj (by omega)),w,A,aa]at hL
  by_cases h0:a.getD k 0=0
  ·obtain⟨m,B,G⟩:=sW a y k (by omega) (fun j I=>by
    rcases cj k j with h | h
    ·exact hz j (by omega)
    ·rw[show j=k by omega]; exact h0)
   refine⟨m,?_,G⟩
   rw[<-B]
   refine bB ?_
   rw[hL,h0]
   unfold F.R7
   rw[ah (by rfl),hl,w,grd_true _ (by omega)]; rfl
  ·refine⟨k+1,?_,hk,oX hk hz (.inr (by simpa using h0))⟩
   have hn:(a.getD k 0 == 0)=false:=by rw[fF]; exact h0
   rw[hn]at hL
   unfold F.R7 at hL
   rw[ae (by decide),hl]at hL
   rw[cU hL,grd_true _ (by omega)]; rfl
theorem jI (a:Y0) (q:a.length<=4611686018427387904):∃m,F.Rg a=some m/\m<=a.length/\a.take m=aw (val a):=
 sW a q a.length (av _) fun j y=>iP y
theorem iZ (a:Y0) (j:a.length<=4611686018427387904):∃m,F.Q0 a=some m/\m<=a.length/\a.take m=aw (val a):=by
 obtain⟨m,q,y⟩:=jI a j
 exact⟨m,by unfold F.Q0; rw[q,aa],y⟩
theorem zi {n k:Nat} (h:2^k<=n):nb n=nb (n / 2^k)+k:=by
 have hp:=dv k
 have j:n / 2^k≠0:=by
  have:=Nat.div_le_div_right (c:=2^k) h
  rw[Nat.div_self hp]at this; omega
 obtain⟨q,y⟩:=gR (n / 2^k)
 obtain⟨A,B⟩:=y j
 refine q6 ?_ ?_ (by omega)
 ·rw[bW]; exact (fg hp).1 q
 ·rw[show nb (n / 2^k)+k - 1=nb (n / 2^k) - 1+k by omega,bW]
  exact (Nat.le_div_iff_mul_le hp).1 A
def wa:Y3:=[0,1,2,2,3,3,3,3,4,4,4,4,4,4,4,4,5,5,5,5,5,5,5,5,5,5,5,5,5,5,5,5,6,6,6,6,6,6,6,6,6,6,6,6,6,6,6,6,6,6,6,6,6,6,6,6,6,6,6,6,6,6,6,6,7,7,7,7,7,7,7,7,7,7,7,7,7,7,7,7,7,7,7,7,7,7,7,7,7,7,7,7,7,7,7,7,7,7,7,7,7,7,7,7,7,7,7,7,7,7,7,7,7,7,7,7,7,7,7,7,7,7,7,7,7,7,7,7,8,8,8,8,8,8,8,8,8,8,8,8,8,8,8,8,8,8,8,8,8,8,8,8,8,8,8,8,8,8,8,8,8,8,8,8,8,8,8,8,8,8,8,8,8,8,8,8,8,8,8,8,8,8,8,8,8,8,8,8,8,8,8,8,8,8,8,8,8,8,8,8,8,8,8,8,8,8,8,8,8,8,8,8,8,8,8,8,8,8,8,8,8,8,8,8,8,8,8,8,8,8,8,8,8,8,8,8,8,8,8,8,8,8,8,8,8,8,8,8,8,8,8,8,8,8,8,8]
def ck (i:Nat) (t:Nat):Bool:=Nat.blt i (2^t)&&(Nat.beq i 0&&Nat.beq t 0 || Nat.ble (2^(t - 1)) i&&Nat.ble 1 t)
def ckA:Y3->Nat->Bool
 | [],_=>true
 | x :: l,i=>ck i x.toNat&&ckA l (i+1)
theorem F0:∀(l:Y3) (i j:Nat),ckA l i=true->j<l.length->ck (i+j) (l.getD j 0).toNat=true
 | [],_,_,_,h=>by simp at h
 | x :: l,i,0,h,_=>by
  rw[ckA,aK]at h
  exact h.1
 | x :: l,i,j+1,h,hj=>by
  rw[ckA,aK]at h
  have:=F0 l (i+1) j h.2 (by simpa using hj)
  rw[List.getD_cons_succ,show i+(j+1)=i+1+j by omega]
  exact this
theorem J7:ckA wa 0=true:=by decide +kernel
theorem H5:Nat.beq wa.length 256=true:=by decide +kernel
theorem Qs (b:Nat) (A:b<256):∃t:UInt8,au wa (b:Int)=some t/\t.toNat=nb b:=by
 have hl:=bf H5
 have h:=F0 wa 0 b J7 (by omega)
 rw[bh]at h
 unfold ck at h
 rw[aK,fW,aK,aK]at h
 obtain⟨y,j⟩:=h
 rw[fp]at y
 refine⟨wa.getD b 0,bv (by omega) 0,?_⟩
 rcases j with⟨j,q⟩ | ⟨j,q⟩
 ·rw[bf j,kL]
  rw[bf j]at q
  exact bf q
 ·exact (q6 y (an j) (an q)).symm
theorem Bx (y:UInt32) (k:Int):F.VD (y,k)=af (au wa (y.toUInt8.toNat:Int)) fun q=>bI (wI (k+(q.toNat:Int))) fun j=>some j:=rfl
theorem zk (x:UInt32):F.UI x=some (nb x.toNat:Int):=by
 have hx:=eH x
 have A:∀(y:UInt32) (k:Nat),y.toNat<256->k<=24->F.VD (y,(k:Int))=some ((nb y.toNat+k:Nat):Int):=by
  intro y k q G
  have j:y.toUInt8.toNat=y.toNat:=by rw[UInt32.toNat_toUInt8]; omega
  obtain⟨t,I,J⟩:=Qs y.toNat q
  have N:=qB (n:=y.toNat) (k:=8) q
  rw[Bx,j,I,aa,aM,J,aO (by omega) (by omega)]
  congr 1; omega
 have B:∀(y:UInt32) (k:Nat),y.toNat<65536->k<=16->F.VH (y,(k:Int))=some ((nb y.toNat+k:Nat):Int):=by
  intro y k q G
  unfold F.VH
  dsimp only
  by_cases h:256<=y.toNat
  ·have j:(ff y 8).toNat=y.toNat / 2^8:=by rw[lQ]; rfl
   rw[ah (aj (by rw[eY]; exact h)),aO (by omega) (by omega),show (k:Int)+8=((k+8:Nat):Int) by omega,A _ _ (by rw[j]; omega) (by omega),j,zi (n:=y.toNat) (k:=8) (by omega)]
   congr 1; omega
  ·rw[ae (by rw[ar,eY]; exact h)]
   exact A y k (by omega) (by omega)
 unfold F.UI
 by_cases h:65536<=x.toNat
 ·have j:(ff x 16).toNat=x.toNat / 2^16:=by rw[lQ]; rfl
  rw[ah (aj (by rw[eY]; exact h)),show (16:Int)=((16:Nat):Int) from rfl,B _ _ (by rw[j]; omega) (by omega),j,zi (n:=x.toNat) (k:=16) (by omega)]
 ·rw[ae (by rw[ar,eY]; exact h),show (0:Int)=((0:Nat):Int) from rfl,B _ _ (by omega) (by omega),bA]
theorem lB (a:Y0) (A:a.length<=100000000000000):F.Ru a=some (nb (val a):Int):=by
 obtain⟨m,j,B,q⟩:=iZ a (by omega)
 have hl:(aw (val a)).length<=a.length:=ca (cG a)
 unfold F.Ru
 rw[j,aa,q,<-pv]
 unfold mV
 by_cases h0:(aw (val a)).length=0
 ·rw[ah (by rw[h0]; rfl),ah h0]; rfl
 ·have y:wI (((aw (val a)).length:Int) - 1)=(((aw (val a)).length - 1:Nat):Int):=by rw[aO (by omega) (by omega)]; omega
  have G:=HJ ((aw (val a)).getD ((aw (val a)).length - 1) 0)
  rw[ae (by simpa using fun h=>h0 (by rw[h]; rfl)),ae h0,y,bv (by omega) 0,aa,zk,aa,aO (x:=32*_) (by omega) (by omega),aO (by omega) (by omega)]
  congr 1
theorem Dc (o:Y3) (a:Y0) (Y:o.length<=1000000000000000) (Z:a.length<=100000000000000):F.TM o a=some (beB o.length (val a)):=by
 unfold F.TM
 have e:=ft (f:=F.Wt o a) (fun (y:Y3) i=>((i:Int),y)) (fun i y=>i<=o.length->y.length=o.length/\∀k,k<i->y.getD k 0=UInt8.ofNat (val a / 256^(o.length - 1 - k))) (fun y i=>y.set i (UInt8.ofNat (val a / 256^(o.length - 1 - i)))) 0 o.length
  (X:=fun y=>some y)
  (fun i y _ hi A=>by
   obtain⟨hl,A⟩:=A (by omega)
   refine⟨?_,fun _=>⟨by simpa using hl,fun k G=>?_⟩⟩
   ·have w4:wI ((i:Int)+1)=((i+1:Nat):Int):=by rw[aO (by omega) (by omega)]; rfl
    obtain⟨j,B⟩:∃t,o.length - 1 - i=t:=⟨_,rfl⟩
    have N:wI ((wI ((y.length:Int) - 1)) - (i:Int))=(j:Int):=by rw[hl,aO (x:=(o.length:Int) - 1) (by omega) (by omega),aO (by omega) (by omega)]; omega
    have O:wI (Int.tdiv (j:Int) 4)=((j / 4:Nat):Int):=by rw[ce (by omega),aO (by omega) (by omega)]; omega
    have R:wI (8*(Int.tmod (j:Int) 4))=((8*(j%4):Nat):Int):=by rw[cI (by omega),aO (by omega) (by omega)]; omega
    unfold F.Wt
    dsimp only
    rw[ah (aj (by omega)),N,aM,bv (show i<y.length by omega) 0,aa,aM,O,aq]
    by_cases h:j / 4<a.length
    ·rw[ah (aj (by omega)),bv h 0,aa,R,grd_true _ (by omega),bv (show i<(y.set i 0).length by simp; omega) 0,aa,aM,aq,xa,B]
     unfold F.Wm
     rw[w4,List.set_set]; rfl
    ·rw[ae (by simp only[ar]; omega)]
     unfold F.Wm
     have hz:val a / 256^j=0:=by
      refine cp (bg (cG a) ?_)
      rw[show (4294967296:Nat)=256^4 from rfl,<-dh]
      exact br (by decide) (by omega)
     rw[w4,B,hz]; rfl
   ·rw[ao,da]
    by_cases q:i=k
    ·subst q; rw[ah rfl,ah (by omega)]; rfl
    ·rw[ae q,<-ao]; exact A k (by omega))
  (fun y A=>by
   unfold F.Wt
   dsimp only
   rw[ae (by simp)])
  o.length 0 o (av _) (by omega) (fun _=>⟨rfl,fun k G=>by omega⟩)
 have I:=f8 (fun i (y:Y3)=>i<=o.length->y.length=o.length/\∀k,k<i->y.getD k 0=UInt8.ofNat (val a / 256^(o.length - 1 - k))) (fun y i=>y.set i (UInt8.ofNat (val a / 256^(o.length - 1 - i))))
  (fun i y A=>fun hi=>by
   obtain⟨hl,A⟩:=A (by omega)
   refine⟨by simpa using hl,fun k G=>?_⟩
   rw[ao,da]
   by_cases q:i=k
   ·subst q; rw[ah rfl,ah (by omega)]; rfl
   ·rw[ae q,<-ao]; exact A k (by omega)) o.length 0 o (fun _=>⟨rfl,fun k G=>by omega⟩)
 rw[bh]at I
 obtain⟨y,A⟩:∃y,(List.range' 0 o.length).foldl (fun y i=>y.set i (UInt8.ofNat (val a / 256^(o.length - 1 - i)))) o=y:=⟨_,rfl⟩
 rw[A]at I e
 obtain⟨U,V⟩:=I (av _)
 refine e.trans ?_
 congr 1
 refine List.ext_getElem (by rw[U,il]) fun k J q=>?_
 have a1:=V k (by omega)
 have a2:=A2 o.length (val a) k (by omega)
 rw[ao,aE J]at a1
 rw[ao,aE q]at a2
 exact a1.trans a2.symm
theorem GZ (a:Y0) (A:a.length<=35184372087808):F.VG a=some (beB (nby (val a)) (val a)):=by
 obtain⟨m,j,B,q⟩:=iZ a (by omega)
 have hl:(aw (val a)).length<=a.length:=ca (cG a)
 have G:=nk (val a)
 have y:wI (Int.tdiv (wI ((nb (val a):Int)+7)) 8)=(nby (val a):Int):=by
  rw[aO (x:=(nb (val a):Int)+7) (by omega) (by omega),ce (by omega),aO (by omega) (by omega)]; unfold nby; omega
 have hn:nby (val a)<=4*(aw (val a)).length:=by unfold nby; omega
 unfold F.VG
 rw[lB a (by omega),aa,y,aM,iR (by omega),aa,j,aa,q,Dc _ _ (by simp; omega) (by omega),aa,aq,bd,aC]
theorem K1 (x y:UInt32) (t:Nat) (j:y.toNat<256) (q:t<4) (hx:x.toNat%256^(t+1)=0):(x ||| iu y (8*t)).toNat=x.toNat+y.toNat*256^t:=by
 have hs:(iu y (8*t)).toNat=y.toNat*256^t:=by
  rw[sT,bm (by omega),dh,show (2:Nat)^8=256 from rfl,ax]
  have:t=0\/t=1\/t=2\/t=3:=by omega
  rcases this with h | h | h | h <;> subst h <;> simp <;> omega
 rw[UInt32.toNat_or,hs]
 refine uJ (8*(t+1)) (by rw[dh]; exact hx) ?_
 rw[dh,bn,aN]
 exact eO j (eL (by decide))
theorem Jm {l:Y0} {q t:Nat} (A:t<=4) (h:val l%256^(4*q+t)=0):(l.getD q 0).toNat%256^t=0:=by
 have y:val l / 256^(4*q)%256^t=0:=by
  rw[bW]at h
  have:=Nat.mod_mul_right_div_self (val l) (256^(4*q)) (256^t)
  rw[h,Nat.zero_div]at this
  exact this.symm
 rw[dh,show (256:Nat)^4=4294967296 from rfl,jY,eA]at y
 have:t=0\/t=1\/t=2\/t=3\/t=4:=by omega
 rcases this with j | j | j | j | j <;> subst j <;> simp at y ⊢ <;> omega
theorem kn (b:Y3) (hb:b.length<=140737488351232):F.RA b=some (aw (beN b)):=by
 obtain⟨n,hn⟩:∃n,(b.length+3) / 4=n:=⟨_,rfl⟩
 have w0:wI (Int.tdiv (wI ((b.length:Int)+3)) 4)=(n:Int):=by
  rw[aO (x:=(b.length:Int)+3) (by omega) (by omega),ce (by omega),aO (by omega) (by omega)]; omega
 unfold F.RA
 rw[w0,iR (by omega),aa,aq]
 have A:∀(i:Nat) (y:Y0),i<b.length->(y.length=n/\val y=beN (b.take i)*256^(b.length - i)) ->
   ((y.set ((b.length - 1 - i) / 4) (y.getD ((b.length - 1 - i) / 4) 0 ||| iu (b.getD i 0).toUInt32 (8*((b.length - 1 - i)%4)))).length=n /\
    val (y.set ((b.length - 1 - i) / 4) (y.getD ((b.length - 1 - i) / 4) 0 ||| iu (b.getD i 0).toUInt32 (8*((b.length - 1 - i)%4))))=beN (b.take (i+1))*256^(b.length - (i+1))):=by
  rintro i y hi ⟨G,N⟩
  obtain⟨t,I⟩:∃t,b.length - 1 - i=t:=⟨_,rfl⟩
  rw[I]
  have B:(b.getD i 0).toUInt32.toNat=(b.getD i 0).toNat:=UInt8.toNat_toUInt32 _
  have Y:=(b.getD i 0).toNat_lt
  have O:=je y (t / 4) (y.getD (t / 4) 0 ||| iu (b.getD i 0).toUInt32 (8*(t%4))) (by omega)
  have hm:(y.getD (t / 4) 0).toNat%256^(t%4+1)=0:=by
   refine Jm (by omega) ?_
   rw[show 4*(t / 4)+(t%4+1)=b.length - i by omega,N,Nat.mul_mod_left]
  rw[K1 _ _ _ (by rw[B]; omega) (by omega) hm,B,aG]at O
  refine⟨by simpa using G,?_⟩
  have hp:4294967296^(t / 4)*((b.getD i 0).toNat*256^(t%4))=(b.getD i 0).toNat*256^t:=by
   rw[show (4294967296:Nat)=256^4 from rfl,<-dh,cT,<-bW]; congr 2; omega
  rw[hp]at O
  rw[nF b hi,show b.length - (i+1)=t by omega,aW]
  have J:256*beN (b.take i)*256^t=beN (b.take i)*256^(b.length - i):=by
   rw[show b.length - i=t+1 by omega,bn,aN 256,aF,aN 256]
  rw[J]
  omega
 have e:=ft (f:=F.U2 b) (fun (y:Y0) i=>((i:Int),y)) (fun i y=>i<=b.length->y.length=n/\val y=beN (b.take i)*256^(b.length - i))
  (fun y i=>y.set ((b.length - 1 - i) / 4) (y.getD ((b.length - 1 - i) / 4) 0 ||| iu (b.getD i 0).toUInt32 (8*((b.length - 1 - i)%4)))) 0 b.length
  (X:=fun y=>some (aw (val y)))
  (fun i y _ hi j=>by
   have j:=j (by omega)
   refine⟨?_,fun _=>A i y hi j⟩
   obtain⟨t,I⟩:∃t,b.length - 1 - i=t:=⟨_,rfl⟩
   rw[I]
   have Z:=j.1
   have w4:wI ((i:Int)+1)=((i+1:Nat):Int):=by rw[aO (by omega) (by omega)]; rfl
   have R:wI ((wI ((b.length:Int) - 1)) - (i:Int))=(t:Int):=by rw[aO (x:=(b.length:Int) - 1) (by omega) (by omega),aO (by omega) (by omega)]; omega
   have U:wI (Int.tdiv (t:Int) 4)=((t / 4:Nat):Int):=by rw[ce (by omega),aO (by omega) (by omega)]; omega
   have V:wI (8*(Int.tmod (t:Int) 4))=((8*(t%4):Nat):Int):=by rw[cI (by omega),aO (by omega) (by omega)]; omega
   unfold F.U2
   dsimp only
   rw[ah (aj (by omega)),bv hi 0,aa,R,aM,U,bv (show t / 4<y.length by omega) 0,aa,V,grd_true _ (by omega),aa,aM,aq,aq,w4]
   rfl)
  (fun y j=>by
   obtain⟨m,G,N,J⟩:=jI y (by have:=(j (av _)).1; omega)
   unfold F.U2
   dsimp only
   rw[ae (by simp),G,aa,J])
  b.length 0 (List.replicate n 0) (av _) (by omega) (fun _=>⟨by simp,by rw[gn]; simp[beN]⟩)
 have q:=f8 (fun i (y:Y0)=>i<=b.length->y.length=n/\val y=beN (b.take i)*256^(b.length - i)) (fun y i=>y.set ((b.length - 1 - i) / 4) (y.getD ((b.length - 1 - i) / 4) 0 ||| iu (b.getD i 0).toUInt32 (8*((b.length - 1 - i)%4))))
  (fun i y j=>fun hi=>A i y (by omega) (j (by omega))) b.length 0 (List.replicate n 0) (fun _=>⟨by simp,by rw[gn]; simp[beN]⟩)
 rw[bh]at q
 have q:=(q (av _)).2
 rw[q,Nat.sub_self,jg,cH,dk]at e
 exact e
theorem sn (a b:Y0) (k:Nat) (h:val (a.drop (k+1))=val (b.drop (k+1))) (y:(a.getD k 0).toNat<(b.getD k 0).toNat):val a<val b:=by
 have A:=eA a k; have B:=eA b k
 have q:val (a.drop k)<val (b.drop k):=by omega
 rw[<-jY,<-jY]at q
 exact Nat.lt_of_not_le fun j=>by have:=Nat.div_le_div_right (c:=4294967296^k) j; omega
theorem AK (l:Y0) (i:Nat):(l.getD (i / 32) 0).toNat / 2^(i%32)%2=val l / 2^i%2:=by
 have j:(2:Nat)^i=4294967296^(i / 32)*2^(i%32):=by
  rw[show (4294967296:Nat)=2^32 from rfl,<-dh,<-bW]; congr 1; omega
 rw[j,<-du,jY,eA]
 obtain⟨R,q⟩:∃R,val (l.drop (i / 32+1))=R:=⟨_,rfl⟩
 obtain⟨w,hw⟩:∃w,(l.getD (i / 32) 0).toNat=w:=⟨_,rfl⟩
 obtain⟨s,hs⟩:∃s,i%32=s:=⟨_,rfl⟩
 rw[q,hw,hs]
 have hp:=ng (s:=s) (by omega)
 rw[<-hp,aF,gG _ _ (dv s)]
 have y:(2:Nat)^(32 - s)=2*2^(32 - s - 1):=by rw[aN,<-bn]; congr 1; omega
 rw[y,aF]
 omega
def yD:Y3:=[102,102,102,102,102,102,102,102,48,48,48,48,48,48,48,49,48,48,48,48,48,48,48,48,48,48,48,48,48,48,48,48,48,48,48,48,48,48,48,48,102,102,102,102,102,102,102,102,102,102,102,102,102,102,102,102,102,102,102,102,102,102,102,102]
def ue:Nat:=0xffffffff00000001000000000000000000000000ffffffffffffffffffffffff
theorem IN:(yD.all jU&&Nat.beq (iN yD) ue&&Nat.beq yD.length 64)=true:=by decide +kernel
def yr:Y3:=[53,97,99,54,51,53,100,56,97,97,51,97,57,51,101,55,98,51,101,98,98,100,53,53,55,54,57,56,56,54,98,99,54,53,49,100,48,54,98,48,99,99,53,51,98,48,102,54,51,98,99,101,51,99,51,101,50,55,100,50,54,48,52,98]
def Dh:Nat:=0x5ac635d8aa3a93e7b3ebbd55769886bc651d06b0cc53b0f63bce3c3e27d2604b
theorem HQ:(yr.all jU&&Nat.beq (iN yr) Dh&&Nat.beq yr.length 64)=true:=by decide +kernel
def ym:Y3:=[102,102,102,102,102,102,102,102,48,48,48,48,48,48,48,48,102,102,102,102,102,102,102,102,102,102,102,102,102,102,102,102,98,99,101,54,102,97,97,100,97,55,49,55,57,101,56,52,102,51,98,57,99,97,99,50,102,99,54,51,50,53,53,49]
def DE:Nat:=0xffffffff00000000ffffffffffffffffbce6faada7179e84f3b9cac2fc632551
theorem He:(ym.all jU&&Nat.beq (iN ym) DE&&Nat.beq ym.length 64)=true:=by decide +kernel
def yB:Y3:=[54,98,49,55,100,49,102,50,101,49,50,99,52,50,52,55,102,56,98,99,101,54,101,53,54,51,97,52,52,48,102,50,55,55,48,51,55,100,56,49,50,100,101,98,51,51,97,48,102,52,97,49,51,57,52,53,100,56,57,56,99,50,57,54]
def EI:Nat:=0x6b17d1f2e12c4247f8bce6e563a440f277037d812deb33a0f4a13945d898c296
theorem Hs:(yB.all jU&&Nat.beq (iN yB) EI&&Nat.beq yB.length 64)=true:=by decide +kernel
def yn:Y3:=[52,102,101,51,52,50,101,50,102,101,49,97,55,102,57,98,56,101,101,55,101,98,52,97,55,99,48,102,57,101,49,54,50,98,99,101,51,51,53,55,54,98,51,49,53,101,99,101,99,98,98,54,52,48,54,56,51,55,98,102,53,49,102,53]
def Eh:Nat:=0x4fe342e2fe1a7f9b8ee7eb4a7c0f9e162bce33576b315ececbb6406837bf51f5
theorem HO:(yn.all jU&&Nat.beq (iN yn) Eh&&Nat.beq yn.length 64)=true:=by decide +kernel
def yq:Y3:=[102,102,102,102,102,102,102,102,102,102,102,102,102,102,102,102,102,102,102,102,102,102,102,102,102,102,102,102,102,102,102,102,102,102,102,102,102,102,102,102,102,102,102,102,102,102,102,102,102,102,102,102,102,102,102,102,102,102,102,102,102,102,102,101,102,102,102,102,102,102,102,102,48,48,48,48,48,48,48,48,48,48,48,48,48,48,48,48,102,102,102,102,102,102,102,102]
def r8:Nat:=0xfffffffffffffffffffffffffffffffffffffffffffffffffffffffffffffffeffffffff0000000000000000ffffffff
theorem Iz:(yq.all jU&&Nat.beq (iN yq) r8&&Nat.beq yq.length 96)=true:=by decide +kernel
def yF:Y3:=[98,51,51,49,50,102,97,55,101,50,51,101,101,55,101,52,57,56,56,101,48,53,54,98,101,51,102,56,50,100,49,57,49,56,49,100,57,99,54,101,102,101,56,49,52,49,49,50,48,51,49,52,48,56,56,102,53,48,49,51,56,55,53,97,99,54,53,54,51,57,56,100,56,97,50,101,100,49,57,100,50,97,56,53,99,56,101,100,100,51,101,99,50,97,101,102]
def yw:Nat:=0xb3312fa7e23ee7e4988e056be3f82d19181d9c6efe8141120314088f5013875ac656398d8a2ed19d2a85c8edd3ec2aef
theorem H2:(yF.all jU&&Nat.beq (iN yF) yw&&Nat.beq yF.length 96)=true:=by decide +kernel
def yj:Y3:=[102,102,102,102,102,102,102,102,102,102,102,102,102,102,102,102,102,102,102,102,102,102,102,102,102,102,102,102,102,102,102,102,102,102,102,102,102,102,102,102,102,102,102,102,102,102,102,102,99,55,54,51,52,100,56,49,102,52,51,55,50,100,100,102,53,56,49,97,48,100,98,50,52,56,98,48,97,55,55,97,101,99,101,99,49,57,54,97,99,99,99,53,50,57,55,51]
def Dt:Nat:=0xffffffffffffffffffffffffffffffffffffffffffffffffc7634d81f4372ddf581a0db248b0a77aecec196accc52973
theorem Ji:(yj.all jU&&Nat.beq (iN yj) Dt&&Nat.beq yj.length 96)=true:=by decide +kernel
def yl:Y3:=[97,97,56,55,99,97,50,50,98,101,56,98,48,53,51,55,56,101,98,49,99,55,49,101,102,51,50,48,97,100,55,52,54,101,49,100,51,98,54,50,56,98,97,55,57,98,57,56,53,57,102,55,52,49,101,48,56,50,53,52,50,97,51,56,53,53,48,50,102,50,53,100,98,102,53,53,50,57,54,99,51,97,53,52,53,101,51,56,55,50,55,54,48,97,98,55]
def Eg:Nat:=0xaa87ca22be8b05378eb1c71ef320ad746e1d3b628ba79b9859f741e082542a385502f25dbf55296c3a545e3872760ab7
theorem HZ:(yl.all jU&&Nat.beq (iN yl) Eg&&Nat.beq yl.length 96)=true:=by decide +kernel
def yk:Y3:=[51,54,49,55,100,101,52,97,57,54,50,54,50,99,54,102,53,100,57,101,57,56,98,102,57,50,57,50,100,99,50,57,102,56,102,52,49,100,98,100,50,56,57,97,49,52,55,99,101,57,100,97,51,49,49,51,98,53,102,48,98,56,99,48,48,97,54,48,98,49,99,101,49,100,55,101,56,49,57,100,55,97,52,51,49,100,55,99,57,48,101,97,48,101,53,102]
def DO:Nat:=0x3617de4a96262c6f5d9e98bf9292dc29f8f41dbd289a147ce9da3113b5f0b8c00a60b1ce1d7e819d7a431d7c90ea0e5f
theorem I6:(yk.all jU&&Nat.beq (iN yk) DO&&Nat.beq yk.length 96)=true:=by decide +kernel
def cP (c:Int):Nat:=if c=1 then ue else r8
def cB (c:Int):Nat:=if c=1 then Dh else yw
def cN (c:Int):Nat:=if c=1 then DE else Dt
def cX (c:Int):Nat:=if c=1 then EI else Eg
def cY (c:Int):Nat:=if c=1 then Eh else DO
def cS (c:Int):Int:=if c=1 then 32 else 48
theorem jZ (c:Int):cP c<4294967296^12/\cB c<cP c/\cN c<cP c/\cX c<cP c/\cY c<cP c/\4<cP c/\4<cN c:=by
 unfold cP cB cN cX cY
 by_cases h:c=1
 ·simp only[ah h]; decide +kernel
 ·simp only[ae h]; decide +kernel
theorem qI (c:Int):nl (cP c:Int)<=12:=yA (by have:=(jZ c).1; omega)
theorem jJ (s:Y3) (v m:Nat) (h:(s.all jU&&Nat.beq (iN s) v&&Nat.beq s.length m)=true) (hm:0<m) (q:m<=1000):F.QP s=some ((bi (v:Int)).1,(bi (v:Int)).2):=by
 simp only[aK]at h
 have hl:=bf h.2
 unfold F.QP
 rw[zg _ _ s h.1.1 (by intro j; rw[j]at hl; simp at hl; omega) (by omega),aa,bf h.1.2,Fj]
def gT (c:Int):Bool×Y0×Bool×Y0×Bool×Y0×Bool×Y0×Bool×Y0×Int:=
 ((bi (cP c:Int)).1,(bi (cP c:Int)).2,(bi (cB c:Int)).1,(bi (cB c:Int)).2,(bi (cN c:Int)).1,(bi (cN c:Int)).2,(bi (cX c:Int)).1,(bi (cX c:Int)).2,(bi (cY c:Int)).1,(bi (cY c:Int)).2,cS c)
theorem Kp:F.U4=some (gT 1):=by
 have h:F.U4=af (F.QP yD) fun A=>af (F.QP yr) fun B=>af (F.QP ym) fun j=>af (F.QP yB) fun q=>af (F.QP yn) fun y=>
   some (A.1,A.2,B.1,B.2,j.1,j.2,q.1,q.2,y.1,y.2,32):=rfl
 rw[h,jJ _ _ _ IN (by decide) (by decide),aa,jJ _ _ _ HQ (by decide) (by decide),aa,jJ _ _ _ He (by decide) (by decide),aa,jJ _ _ _ Hs (by decide) (by decide),aa,jJ _ _ _ HO (by decide) (by decide),aa]
 rfl
theorem Kc:F.Wq=some (gT 2):=by
 have h:F.Wq=af (F.QP yq) fun A=>af (F.QP yF) fun B=>af (F.QP yj) fun j=>af (F.QP yl) fun q=>af (F.QP yk) fun y=>
   some (A.1,A.2,B.1,B.2,j.1,j.2,q.1,q.2,y.1,y.2,48):=rfl
 rw[h,jJ _ _ _ Iz (by decide) (by decide),aa,jJ _ _ _ H2 (by decide) (by decide),aa,jJ _ _ _ Ji (by decide) (by decide),aa,jJ _ _ _ HZ (by decide) (by decide),aa,jJ _ _ _ I6 (by decide) (by decide),aa]
 rfl
def isC (c:Int):Prop:=c=1\/c=2
instance (c:Int):Decidable (isC c):=by unfold isC; infer_instance
theorem of_eq (c:Int):F.Sm c=some (if isC c then some (gT c) else none):=by
 unfold F.Sm
 by_cases h1:c=1
 ·subst h1; rw[ah (by rfl),Kp,aa,ah (.inl rfl)]
 ·rw[ae (by simpa using h1)]
  by_cases h2:c=2
  ·subst h2; rw[ah (by rfl),Kc,aa,ah (.inr rfl)]
  ·rw[ae (by simpa using h2),ae (by unfold isC; omega)]
section
variable (p:Nat) (b0:Bool) (b1:Y0) (n0:Bool) (n1:Y0) (x0:Bool) (x1:Y0) (y0:Bool) (y1:Y0) (s:Int)
theorem so (hp:0<p) (hpl:nl (p:Int)<=1000) (z:Int) (hz:nl z<=70368744177660) (j:z<0->nl z<=70000000000000) :
  F.RJ (bi (p:Int)).1 (bi (p:Int)).2 b0 b1 n0 n1 x0 x1 y0 y1 s (bi z).1 (bi z).2=some (bi (z%p)):=by
 unfold F.RJ
 rw[EB z p (by omega) hz (by omega) j,aa]
theorem pM (hp:0<p) (hpl:nl (p:Int)<=1000) (u v:Int) (h:nl u+nl v<=70368744177660) (j:u*v<0->nl u+nl v<=70000000000000) :
  F.QJ (bi (p:Int)).1 (bi (p:Int)).2 b0 b1 n0 n1 x0 x1 y0 y1 s (bi u).1 (bi u).2 (bi v).1 (bi v).2=some (bi (u*v%p)):=by
 have hm:=As u v
 unfold F.QJ
 rw[Ae _ _ u v (by omega),aa,so p b0 b1 n0 n1 x0 x1 y0 y1 s hp hpl _ (by omega) (fun q=>by have:=j q; omega),aa]
theorem C3 (hp:0<p) (hpl:nl (p:Int)<=1000) (u v:Int) (hu:nl u<=60000000000000) (j:nl v<=60000000000000) :
  F.Q6 (bi (p:Int)).1 (bi (p:Int)).2 b0 b1 n0 n1 x0 x1 y0 y1 s (bi u).1 (bi u).2 (bi v).1 (bi v).2=some (bi ((u - v)%p)):=by
 have hm:=Fi u v
 unfold F.Q6
 rw[GB _ _ u v (by omega) (by omega),aa,so p b0 b1 n0 n1 x0 x1 y0 y1 s hp hpl _ (by omega) (fun _=>by omega),aa]
theorem wR (hp:0<p) (hpl:nl (p:Int)<=1000) (k v:Int) (j:0<=k) (y:k<=1000) (q:0<=v) (h:nl v<=70368744177600) :
  F.Ri (bi (p:Int)).1 (bi (p:Int)).2 b0 b1 n0 n1 x0 x1 y0 y1 s k (bi v).1 (bi v).2=some (bi (k*v%p)):=by
 have A:nl k<=1:=yA (by omega)
 unfold F.Ri
 rw[me k (by omega) (by omega),aa,pM p b0 b1 n0 n1 x0 x1 y0 y1 s hp hpl k v (by omega) (fun B=>by have:=fJ j q; omega),aa]
end
def onN (p b x y:Nat):Bool:=decide (x<p)&&(decide (y<p)&&decide (y*y%p=((x*(x*x%p)%p+p - 3*x%p)%p+b)%p))
theorem Bc (p A B:Nat) (hA:A<p) (j:B<p):((A:Int) - (B:Int))%(p:Int)=(((A+p - B)%p:Nat):Int):=by
 rw[bN,show (((A+p - B:Nat):Int))=(A:Int) - B+p by omega,Int.add_emod_right]
theorem JL (p b:Nat) (n0:Bool) (n1:Y0) (x0:Bool) (x1:Y0) (y0:Bool) (y1:Y0) (s:Int) (hp:0<p) (hpl:nl (p:Int)<=1000) (hb:b<p) (x y:Nat) (hx:nl (x:Int)<=35184372087808) (hy:nl (y:Int)<=35184372087808) :
  F.Tn (bi (p:Int)).1 (bi (p:Int)).2 (bi (b:Int)).1 (bi (b:Int)).2 n0 n1 x0 x1 y0 y1 s (bi (x:Int)).1 (bi (x:Int)).2 (bi (y:Int)).1 (bi (y:Int)).2=some (onN p b x y):=by
 have j:(0:Int)<(p:Int):=by omega
 have ab:nl (b:Int)<=1000:=bz (jK (by omega)) hpl
 have m1:=rf ((x:Int)*x) j
 have q1:=fJ (dG x) (dG x)
 have O:=im ((x:Int)*x) (show (p:Int)≠0 by omega)
 have q3:=fJ (dG x) O
 unfold F.Tn
 rw[pM p _ _ n0 n1 x0 x1 y0 y1 s hp hpl _ _ (by omega) (fun h=>by omega),aa,pM p _ _ n0 n1 x0 x1 y0 y1 s hp hpl _ _ (by omega) (fun h=>by omega),aa,
  wR p _ _ n0 n1 x0 x1 y0 y1 s hp hpl 3 _ (by decide) (by decide) (dG x) (by omega),aa]
 have R:=rf ((x:Int)*((x:Int)*x%p)) j
 have U:=rf (3*(x:Int)) j
 have V:(x:Int)*((x:Int)*x%p)%p=((x*(x*x%p)%p:Nat):Int):=by rw[bN,cZ,bN,cZ]
 have X:3*(x:Int)%p=((3*x%p:Nat):Int):=by rw[bN,cZ]; rfl
 obtain⟨A,hA⟩:∃A,x*(x*x%p)%p=A:=⟨_,rfl⟩
 obtain⟨B,q⟩:∃B,3*x%p=B:=⟨_,rfl⟩
 have I:A<p:=by rw[<-hA]; exact bM _ hp
 have J:B<p:=by rw[<-q]; exact bM _ hp
 rw[V,hA]at R ⊢
 rw[X,q]at U ⊢
 rw[C3 p _ _ n0 n1 x0 x1 y0 y1 s hp hpl _ _ (by omega) (by omega),aa,Bc p A B I J]
 obtain⟨D,G⟩:∃D,(A+p - B)%p=D:=⟨_,rfl⟩
 have ac:D<p:=by rw[<-G]; exact bM _ hp
 have m4:nl (D:Int)<=1000:=bz (jK (by omega)) hpl
 have m5:=Aq (D:Int) (b:Int)
 rw[G,ut _ _ (by omega) (by omega),aa,so p _ _ n0 n1 x0 x1 y0 y1 s hp hpl _ (by omega) (fun _=>by omega),aa,uk _ _ (by omega) (by omega),aa]
 unfold onN
 rw[hA,q,G]
 have N:∀u v:Nat,decide (zp (u:Int) (v:Int)<0)=decide (u<v):=fun u v=>by
  unfold zp
  by_cases h:u<v
  ·rw[ah (by omega),aj h]; rfl
  ·rw[ae (by omega),az h]; split <;> rfl
 rw[N]
 by_cases h1:x<p
 ·rw[aj h1,ah rfl,uk _ _ (by omega) (by omega),aa,N]
  by_cases h2:y<p
  ·have ad:nl (y:Int)<=1000:=bz (jK (by omega)) hpl
   have q4:=fJ (dG y) (dG y)
   have m6:=rf ((y:Int)*y) j
   have m7:=rf ((D:Int)+b) j
   rw[aj h2,ah rfl,pM p _ _ n0 n1 x0 x1 y0 y1 s hp hpl _ _ (by omega) (fun h=>by omega),aa,uk _ _ (by omega) (by omega),aa]
   have Y:(y:Int)*y%p=((y*y%p:Nat):Int):=by rw[bN,cZ]
   have Z:((D:Int)+b)%p=(((D+b)%p:Nat):Int):=by rw[bN,gt]
   rw[Y,Z]
   unfold zp
   congr 1
   by_cases h3:y*y%p=(D+b)%p
   ·rw[h3,ae (by omega),ah rfl]; simp
   ·rw[el,el,az h3,fF]
    split
    ·omega
    ·rw[ae (by omega)]; omega
  ·rw[az h2,ae (by decide)]; rfl
 ·rw[az h1,ae (by decide)]; rfl
theorem Ej (a:Y0) (j:a.length<=35184372087808):F.SX a=some (bi (val a:Int)):=by
 have q:=nk (val a)
 have y:(aw (val a)).length<=a.length:=ca (cG a)
 have A:nby (val a)<=4*a.length:=by unfold nby; omega
 unfold F.SX
 rw[GZ a j,aa,pu _ _ _ (by rw[il]; omega),aa,nU,ax (uW _)]
theorem FO (n:Nat) (hn:nl (n:Int)<=1000000000):F.RN (bi (n:Int)).1 (bi (n:Int)).2=some (aw n):=by
 have j:=nk n
 have q:(aw n).length<=1000000000:=by have:=hn; unfold nl at this; rwa [cy]at this
 have y:nby n<=4*(aw n).length:=by unfold nby; omega
 unfold F.RN
 rw[AG _ hn,aa,cy,kn _ (by rw[il]; omega),aa,nU,ax (uW _)]
theorem EV (a:Y0):nl (val a:Int)<=a.length:=by unfold nl; rw[cy]; exact ca (cG a)
def onS (c:Int) (X Y:Y0) (inf:Bool):Bool:=if isC c then (if inf then decide (val X=0)&&decide (val Y=0) else onN (cP c) (cB c) (val X) (val Y)) else false
def rdT (X Y:Y0) (inf:Bool):Bool×Y0×Bool×Y0×Bool×Y0:=
 if inf then (false,[],false,[],false,[]) else ((bi (val X:Int)).1,(bi (val X:Int)).2,(bi (val Y:Int)).1,(bi (val Y:Int)).2,(bi 1).1,(bi 1).2)
theorem Ls (c:Int) (hc:isC c) (X Y:Y0) (j:Bool) (hX:X.length<=35184372087808) (q:Y.length<=35184372087808) :
  F.Uc (gT c).1 (gT c).2.1 (gT c).2.2.1 (gT c).2.2.2.1 (gT c).2.2.2.2.1 (gT c).2.2.2.2.2.1 (gT c).2.2.2.2.2.2.1 (gT c).2.2.2.2.2.2.2.1 (gT c).2.2.2.2.2.2.2.2.1 (gT c).2.2.2.2.2.2.2.2.2.1 (gT c).2.2.2.2.2.2.2.2.2.2 X Y j =
   some ((rdT X Y j).1,(rdT X Y j).2.1,(rdT X Y j).2.2.1,(rdT X Y j).2.2.2.1,(rdT X Y j).2.2.2.2.1,(rdT X Y j).2.2.2.2.2,onS c X Y j):=by
 obtain⟨G,B,_,_,_,I,_⟩:=jZ c
 have hp:=qI c
 unfold F.Uc
 rw[Ej X hX,aa,Ej Y q,aa]
 unfold onS rdT
 rw[ah hc]
 cases j with
 | true=>
  have y:∀v:Nat,(if ((v:Int))=0 then (0:Int) else if (v:Int)<0 then -1 else 1)=if v=0 then 0 else 1:=fun v=>by
   by_cases h:v=0
   ·rw[ah (by omega),ah h]
   ·rw[ae (by omega),ae (by omega),ae h]
  have A:∀v:Nat,((if v=0 then (0:Int) else 1) == 0)=decide (v=0):=fun v=>by
   by_cases h:v=0
   ·rw[ah h,aj h]; rfl
   ·rw[ae h,az h]; rfl
  rw[ah rfl]
  unfold F.Ry
  rw[aa,sc,aa,y]
  show _=some (false,[],false,[],false,[],decide (val X=0)&&decide (val Y=0))
  by_cases h1:val X=0
  ·rw[ah h1,ah (by rfl),sc,aa,y,A,aj h1,el]
  ·rw[ae h1,ae (by decide),az h1,dV]
 | false=>
  rw[ae (by decide),me 1 (by decide) (by decide),aa]
  have h:=JL (cP c) (cB c) (bi (cN c:Int)).1 (bi (cN c:Int)).2 (bi (cX c:Int)).1 (bi (cX c:Int)).2 (bi (cY c:Int)).1 (bi (cY c:Int)).2 (cS c) (by omega) (by omega) B (val X) (val Y) (bz (EV X) hX) (bz (EV Y) q)
  unfold gT
  dsimp only
  rw[h,aa]
  simp
theorem tx (c:Int) (X Y:Y0) (j:Bool) (hX:X.length<=35184372087808) (q:Y.length<=35184372087808) :
  F.Tg c X Y j=some (if isC c then some ((gT c).1,(gT c).2.1,(gT c).2.2.1,(gT c).2.2.2.1,(gT c).2.2.2.2.1,(gT c).2.2.2.2.2.1,(gT c).2.2.2.2.2.2.1,(gT c).2.2.2.2.2.2.2.1,(gT c).2.2.2.2.2.2.2.2.1,(gT c).2.2.2.2.2.2.2.2.2.1,(gT c).2.2.2.2.2.2.2.2.2.2,
   (rdT X Y j).1,(rdT X Y j).2.1,(rdT X Y j).2.2.1,(rdT X Y j).2.2.2.1,(rdT X Y j).2.2.2.2.1,(rdT X Y j).2.2.2.2.2) else none,onS c X Y j):=by
 unfold F.Tg
 rw[of_eq,aa]
 by_cases h:isC c
 ·rw[ah h,ah h]
  show af (F.Uc _ _ _ _ _ _ _ _ _ _ _ _ _ _) _=_
  rw[Ls c h X Y j hX q,aa]
 ·rw[ae h,ae h]
  unfold onS
  rw[ae h]; rfl
theorem OJ (c:Int) (X Y:Y0) (j:Bool) (hX:X.length<=35184372087808) (q:Y.length<=35184372087808):F.Va c X Y j=some (onS c X Y j):=by
 unfold F.Va
 rw[tx c X Y j hX q,aa]
 dsimp only
 split <;> rfl
theorem vn (c:Int):F.SS c=some (if isC c then cS c else 0):=by
 unfold F.SS
 rw[of_eq,aa]
 by_cases h:isC c
 ·rw[ah h,ah h]; rfl
 ·rw[ae h,ae h]; rfl
theorem Iq (c:Int) {v:Nat} (h:v<cP c):nl (v:Int)<=1000000000:=by
 have:=bz (jK (show ((v:Int)).natAbs<=((cP c:Int)).natAbs by omega)) (qI c)
 omega
theorem zr (c:Int):F.UJ c=some (if isC c then aw (cN c) else []):=by
 unfold F.UJ
 rw[of_eq,aa]
 by_cases h:isC c
 ·rw[ah h,ah h]
  show af (F.RN _ _) _=_
  rw[show (gT c).2.2.2.2.1=(bi (cN c:Int)).1 from rfl,show (gT c).2.2.2.2.2.1=(bi (cN c:Int)).2 from rfl,FO _ (Iq c (jZ c).2.2.1),aa]
 ·rw[ae h,ae h]; rfl
theorem CY (c:Int) {v:Nat} (h:v<=cP c):(aw v).length<=12:=ca (by have:=(jZ c).1; omega)
theorem Kw {v k m:Nat} (h:v<256^k) (j:k<=m):List.replicate (m - k) 0++beB k v=beB m v:=by
 refine CF (by simp[il]; omega) ?_
 rw[wJ,nU,nU,ax h,ax (bg h (br (by decide) j))]
def nS (c:Int):Nat:=if c=1 then 32 else 48
theorem vz (c:Int):cS c=((nS c:Nat):Int):=by unfold cS nS; split <;> rfl
theorem nS4 (c:Int):nS c=4*(nS c / 4)/\nS c<=48/\0<nS c:=by unfold nS; split <;> decide
def lD (c:Int) (x y:Y3):Y0×Y0×Bool×Int:=
 if isC c/\x.length=nS c/\y.length=nS c/\onN (cP c) (cB c) (beN x) (beN y)=true then (aw (beN x),aw (beN y),false,0) else ([],[],false,93)
theorem Fg (x:Y3) (h:x.length<=48):nl (beN x:Int)<=1000:=by
 unfold nl; rw[cy]
 have:=mu (nq x); omega
theorem wM (c:Int) (x y:Y3):F.Uz c x y=some (lD c x y):=by
 obtain⟨A,q,_,_,_,B,_⟩:=jZ c
 have hp:=qI c
 obtain⟨n1,G,I⟩:=nS4 c
 have j:F.Uf x y true=some ([],[],false,93):=rfl
 unfold F.Uz lD
 rw[of_eq,aa]
 by_cases hc:isC c
 ·rw[ah hc]
  show (if ((x.length:Int) != cS c)=true then _ else _)=_
  rw[vz]
  by_cases h1:x.length=nS c
  ·rw[ae (by rw[h1]; simp)]
   show (if ((y.length:Int) != cS c)=true then _ else _)=_
   rw[vz]
   by_cases h2:y.length=nS c
   ·rw[ae (by rw[h2]; simp),pu _ _ x (by omega),aa,pu _ _ y (by omega),aa]
    have h:=JL (cP c) (cB c) (bi (cN c:Int)).1 (bi (cN c:Int)).2 (bi (cX c:Int)).1 (bi (cX c:Int)).2 (bi (cY c:Int)).1 (bi (cY c:Int)).2 (cS c) (by omega) (by omega) q (beN x) (beN y) (by have:=Fg x (by omega); omega) (by have:=Fg y (by omega); omega)
    show af (F.Tn (bi (cP c:Int)).1 (bi (cP c:Int)).2 (bi (cB c:Int)).1 (bi (cB c:Int)).2 (bi (cN c:Int)).1 (bi (cN c:Int)).2 (bi (cX c:Int)).1 (bi (cX c:Int)).2 (bi (cY c:Int)).1 (bi (cY c:Int)).2 (cS c) _ _ _ _) _=_
    rw[h,aa]
    cases ho:onN (cP c) (cB c) (beN x) (beN y) with
    | true=>
     rw[ah ⟨hc,h1,h2,rfl⟩]
     unfold F.Uf
     rw[ae (by decide),kn x (by omega),aa,kn y (by omega),aa]
    | false=>
     rw[ae (fun h=>by cases h.2.2.2)]
     exact j
   ·rw[ah (by simp only[iE]; omega),ae (fun h=>h2 h.2.2.1)]; exact j
  ·rw[ah (by simp only[iE]; omega),ae (fun h=>h1 h.2.1)]; exact j
 ·rw[ae hc,ae (fun h=>hc h.1)]; rfl
def HW (c:Int) (X Y:Y0) (inf:Bool):Y3×Y3×Int:=
 if onS c X Y inf=true/\inf=false then (beB (nS c) (val X),beB (nS c) (val Y),0) else ([],[],93)
theorem CL (c:Int) (hc:isC c):cP c<256^nS c:=by
 rcases hc with h | h <;> subst h <;> decide +kernel
theorem za {p b x y:Nat} (h:onN p b x y=true):x<p/\y<p:=by
 unfold onN at h
 simp only[aK,ar]at h
 exact⟨h.1,h.2.1⟩
theorem zC (n m:Nat) (hn:nl (n:Int)<=1000) (hm:m<=1000) (h:n<256^m):F.Sv (bi (n:Int)).1 (bi (n:Int)).2 (List.replicate m 0)=some (beB m n):=by
 have j:=Fv h
 unfold F.Sv
 have q:wI ((m:Int) - ((nby n:Nat):Int))=((m - nby n:Nat):Int):=by rw[aO (by omega) (by omega)]; omega
 rw[AG _ (by omega),aa,cy,aM,bd,bd,il,q]
 have hd:drO (List.replicate m (0:UInt8)) ((m - nby n:Nat):Int)=some ((List.replicate m (0:UInt8)).drop (m - nby n)):=by
  unfold drO; rw[ah (by simp),aq]
 rw[hd,aa,aM,aq]
 congr 1
 have y:(List.replicate m (0:UInt8)).take (m - nby n)=List.replicate (m - nby n) 0:=by rw[List.take_replicate,bm (by omega)]
 have A:(beB (nby n) n).take (nby n)=beB (nby n) n:=aA (by rw[il]; exact av _)
 have t3:(List.replicate m (0:UInt8)).drop (m - nby n+nby n)=[]:=cu (by simp; omega)
 unfold cpL
 rw[show m - (m - nby n)=nby n by omega,y,A,il,Nat.min_self,t3,bR,Kw (uW n) j]
theorem GF (c:Int) (X Y:Y0) (j:Bool) (hX:X.length<=35184372087808) (I:Y.length<=35184372087808):F.VB c X Y j=some (HW c X Y j):=by
 obtain⟨n1,R,U⟩:=nS4 c
 have hp:=qI c
 unfold F.VB HW
 rw[tx c X Y j hX I,aa]
 by_cases hc:isC c
 ·rw[ah hc]
  dsimp only
  show (if (!onS c X Y j)=true then _ else _)=_
  cases ho:onS c X Y j with
  | false=>
   rw[ah (by decide),ae (fun h=>by cases h.1)]
   unfold F.Tb
   rw[ah rfl]
  | true=>
   rw[ae (by decide)]
   cases j with
   | true=>
    rw[ae (fun h=>by cases h.2)]
    show af (F.Q4 false []) _=_
    have:F.Q4 false []=some 0:=rfl
    rw[this,aa]
    unfold F.Tb
    rw[ah (by rfl)]
   | false=>
    rw[ah ⟨rfl,rfl⟩]
    show af (F.Q4 (bi 1).1 (bi 1).2) _=_
    rw[sc,aa,ae (by decide),ae (by decide)]
    unfold F.Tb
    rw[ae (by decide)]
    have q:=ho
    unfold onS at q
    rw[ah hc,ae (by decide)]at q
    obtain⟨hx,V⟩:=za q
    have O:=CL c hc
    have J:nl (val X:Int)<=1000:=by have:=jK (show ((val X:Int)).natAbs<=((cP c:Int)).natAbs by omega); omega
    have N:nl (val Y:Int)<=1000:=by have:=jK (show ((val Y:Int)).natAbs<=((cP c:Int)).natAbs by omega); omega
    show (af (mkO 1 (cS c) (cS c) (0:UInt8)) fun y=>af (F.Sv (bi (val X:Int)).1 (bi (val X:Int)).2 y) fun A=>af (mkO 1 (cS c) (cS c) (0:UInt8)) fun B=>af (F.Sv (bi (val Y:Int)).1 (bi (val Y:Int)).2 B) fun G=>some (A,G,(0:Int)))=_
    rw[vz,iR (by omega),aa,aq,zC _ _ J (by omega) (by omega),aa,aa,zC _ _ N (by omega) (by omega),aa]
 ·rw[ae hc]
  have:onS c X Y j=false:=by unfold onS; rw[ae hc]
  have e:(if false=true/\j=false then (beB (nS c) (val X),beB (nS c) (val Y),(0:Int)) else ([],[],93))=([],[],93):=ae (fun h=>by cases h.1)
  rw[this,e]
  rfl
end Go.Gk.Bn
end
