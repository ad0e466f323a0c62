import Derived.Test.YthnmbmmifamifaaGreatDoorGkS
import Derived.Test.YthnmbmmifamifaaGreatDoorGkFman
set_option linter.unusedVariables false
set_option linter.unusedSimpArgs false
set_option linter.unusedSectionVars false
section
namespace Go.Gk
theorem qD {x y:Nat} (k:Nat) (hx:x%2^k=0) (hy:y<2^k):x ||| y=x+y:=by
 have j:x=(x / 2^k) <<< k:=by
  rw[Nat.shiftLeft_eq]
  have:=cQ x (2^k)
  rw[hx]at this
  rw[aP]; omega
 rw[j,<-Nat.shiftLeft_add_eq_or_of_lt hy]
theorem LS (x k:Nat):x &&& (2^k - 1)=x%2^k:=dJ x k
section
theorem mA (x:UInt64) (n:Nat):(di x n).toNat=x.toNat*2^(min n 64)%18446744073709551616:=by simp[di,bO]
theorem jm (x:UInt64) (n:Nat):(bH x n).toNat=x.toNat / 2^(min n 64):=by
 simp only[bH,bO]
 exact av (dR (dy _ _) x.toNat_lt)
theorem n8 (x:UInt32) (n:Nat):(dB x n).toNat=x.toNat*2^(min n 32)%4294967296:=by simp[dB,cV]
theorem lP (x:UInt32) (n:Nat):(cq x n).toNat=x.toNat / 2^(min n 32):=by
 simp only[cq,cV]
 exact av (dR (dy _ _) x.toNat_lt)
end
theorem Q9 (n:Nat) (h:n<9223372036854775808):wI (n:Int)=n:=ay q10 q10
theorem JT {τ:Type} (a:τ) (l:List τ):au (a :: l) (0:Int)=some a:=by simp[au]
theorem Ku {τ:Type} (a b:τ) (l:List τ):au (a :: b :: l) (1:Int)=some b:=by simp[au]
theorem jv {τ:Type} {l:List τ} {i:Nat} (h:i<l.length):au l (i:Int)=some l[i]:=by rw[qt]; simp[h]
theorem iy {τ:Type} {l m:List τ} {bytes:Nat} (h:(l.length+m.length)*bytes<=225000000000000):apO bytes l m=some (l++m):=af h
theorem Ft {τ:Type} {l m:List τ} (h:l.length+m.length<=225000000000000):apO 1 l m=some (l++m):=af q10
theorem fU {τ:Type} {bytes:Nat} {l c:Int} {j:τ} (h:0<=l/\l<=c/\(bytes:Int)*c<=281474976710656/\c<=9223372036854775807):mkO bytes l c j=some (List.replicate l.toNat j):=af h
theorem na {τ:Type} {l:List τ} {k:Nat} (h:k<=l.length):drO l (k:Int)=some (l.drop k):=by
 unfold drO; rw[af (by simp; omega)]; simp
theorem t9 {τ:Type} {l:List τ} {k:Nat} (h:k<=l.length):tkO l (k:Int)=some (l.take k):=by
 unfold tkO; rw[af (by simp; omega)]; simp
theorem tN {τ:Type} {l:List τ} {lo hi:Nat} (h:lo<=hi) (j:hi<=l.length):slO l (lo:Int) (hi:Int)=some ((l.drop lo).take (hi - lo)):=by
 unfold slO; rw[af (by simp; omega)]; simp
theorem aa {α ρ:Type} (a:α) (k:α->Option ρ):ag (some a) k=k a:=rfl
theorem aS {α ρ:Type} (a:α) (k:α->Option ρ):bD a k=k a:=rfl
end Go.Gk
end
section
namespace Go.Gk
open Go
theorem bm {σ ρ:Type} {f:σ->Option (σ⊕ρ)} {s:σ} {X:Option ρ} (h:f s=bz X):loop f s=X:=by
 rw[rM,h]
 cases X <;> rfl
end Go.Gk
end
section
namespace Go.Gk.Sh
open Go Go.Gk
theorem gu {σ α ρ:Type} {f:σ->Option (σ⊕ρ)} (st:α->Nat->σ) (I:α->Prop) (g:α->Nat->α) (lo n:Nat) {X:α->Option ρ}
  (j:∀i x,lo<=i->i<n->I x->f (st x i)=some (.inl (st (g x i) (i+1)))/\I (g x i)) (k:∀x,I x->f (st x n)=bz (X x)) :
  ∀(r i:Nat) (x:α),lo<=i->i+r=n->I x->loop f (st x i)=X ((List.range' i r).foldl g x)
 | 0,i,x,hl,h,hx=>by
  have:i=n:=by omega
  subst this
  simp only[List.range'_zero,List.foldl_nil]
  exact bm (k x hx)
 | r+1,i,x,hl,h,hx=>by
  obtain⟨z,A⟩:=j i x hl q10 hx
  rw[bv z,gq,eo]
  exact gu st I g lo n j k r (i+1) _ q10 q10 A
theorem oB {α:Type} (I:α->Prop) (g:α->Nat->α) (h:∀i x,I x->I (g x i)):∀(r i:Nat) (x:α),I x->I ((List.range' i r).foldl g x)
 | 0,i,x,hx=>by simpa using hx
 | r+1,i,x,hx=>by
  rw[gq,eo]
  exact oB I g h r (i+1) _ (h i x hx)
theorem oV {α:Type} {g j:α->Nat->α}:∀(r i:Nat) (x:α),(∀k y,i<=k->k<i+r->g y k=j y k)->(List.range' i r).foldl g x=(List.range' i r).foldl j x
 | 0,i,x,_=>rfl
 | r+1,i,x,h=>by
  rw[gq,eo,eo,h i x (aq _) q10]
  exact oV r (i+1) _ fun k y z A=>h k y q10 q10
theorem aG {τ:Type} [Inhabited τ] {l:List τ} {i:Nat} (h:i<l.length) (d:τ):au l (i:Int)=some (l.getD i d):=by
 rw[jv h,ak,aw h]; rfl
theorem S0 (e f g:UInt32):g ^^^ (e &&& (f ^^^ g))=(e &&& f) ^^^ (~~~e &&& g):=by
 apply UInt32.eq_of_toBitVec_eq
 simp only[UInt32.toBitVec_xor,UInt32.toBitVec_and,UInt32.toBitVec_not]
 ext i hi
 simp only[BitVec.getElem_xor,BitVec.getElem_and,BitVec.getElem_not]
 cases e.toBitVec[i] <;> cases f.toBitVec[i] <;> cases g.toBitVec[i] <;> rfl
theorem SD (a b c:UInt32):(a &&& b) ||| (c &&& (a ||| b))=((a &&& b) ^^^ (a &&& c)) ^^^ (b &&& c):=by
 apply UInt32.eq_of_toBitVec_eq
 simp only[UInt32.toBitVec_xor,UInt32.toBitVec_and,UInt32.toBitVec_or]
 ext i hi
 simp only[BitVec.getElem_xor,BitVec.getElem_and,BitVec.getElem_or]
 cases a.toBitVec[i] <;> cases b.toBitVec[i] <;> cases c.toBitVec[i] <;> rfl
theorem Tm (e f g:UInt64):g ^^^ (e &&& (f ^^^ g))=(e &&& f) ^^^ (~~~e &&& g):=by
 apply UInt64.eq_of_toBitVec_eq
 simp only[UInt64.toBitVec_xor,UInt64.toBitVec_and,UInt64.toBitVec_not]
 ext i hi
 simp only[BitVec.getElem_xor,BitVec.getElem_and,BitVec.getElem_not]
 cases e.toBitVec[i] <;> cases f.toBitVec[i] <;> cases g.toBitVec[i] <;> rfl
theorem Sm (a b c:UInt64):(a &&& b) ||| (c &&& (a ||| b))=((a &&& b) ^^^ (a &&& c)) ^^^ (b &&& c):=by
 apply UInt64.eq_of_toBitVec_eq
 simp only[UInt64.toBitVec_xor,UInt64.toBitVec_and,UInt64.toBitVec_or]
 ext i hi
 simp only[BitVec.getElem_xor,BitVec.getElem_and,BitVec.getElem_or]
 cases a.toBitVec[i] <;> cases b.toBitVec[i] <;> cases c.toBitVec[i] <;> rfl
def oX (x:UInt32) (k:Nat):UInt32:=cq x k ||| dB x (32 - k)
def oQ (x:UInt64) (k:Nat):UInt64:=bH x k ||| di x (64 - k)
theorem pF (x:UInt32) (k:Nat) (h:0<k) (B:k<32):F.T8 x (-(k:Int))=some (oX x k):=by
 unfold F.T8 oX
 have j:∀k:Fin 32,0<k.val->((UInt64.ofInt (-(k.val:Int))) &&& 31).toNat=32 - k.val/\((32:UInt64) - ((UInt64.ofInt (-(k.val:Int))) &&& 31)).toNat=k.val:=by decide
 obtain⟨z,A⟩:=j ⟨k,B⟩ h
 simp only at z A
 rw[z,A,UInt32.or_comm]
theorem pC (x:UInt64) (k:Nat) (h:0<k) (B:k<64):F.Ub x (-(k:Int))=some (oQ x k):=by
 unfold F.Ub oQ
 have j:∀k:Fin 64,0<k.val->((UInt64.ofInt (-(k.val:Int))) &&& 63).toNat=64 - k.val/\((64:UInt64) - ((UInt64.ofInt (-(k.val:Int))) &&& 63)).toNat=k.val:=by decide
 obtain⟨z,A⟩:=j ⟨k,B⟩ h
 simp only at z A
 rw[z,A,UInt64.or_comm]
theorem od (x:UInt32) (k:Nat) (B:k<32):F.T7 x (k:Int)=some (oX x k):=by
 unfold F.T7 oX
 have j:∀k:Fin 32,(UInt64.ofInt (k.val:Int)).toNat=k.val/\(UInt64.ofInt (wI (32 - (k.val:Int)))).toNat=32 - k.val:=by decide
 obtain⟨z,A⟩:=j ⟨k,B⟩
 simp only at z A
 rw[z,A]
theorem oh (x:UInt64) (k:Nat) (B:k<64):F.Uc x (k:Int)=some (oQ x k):=by
 unfold F.Uc oQ
 have j:∀k:Fin 64,(UInt64.ofInt (k.val:Int)).toNat=k.val/\(UInt64.ofInt (wI (64 - (k.val:Int)))).toNat=64 - k.val:=by decide
 obtain⟨z,A⟩:=j ⟨k,B⟩
 simp only at z A
 rw[z,A]
theorem Ow:F.WC=F.UT:=rfl
theorem PC:F.V9=F.US:=rfl
abbrev V8 (W:Type):=W×W×W×W×W×W×W×W
def toL {W:Type} (v:V8 W):List W:=[v.1,v.2.1,v.2.2.1,v.2.2.2.1,v.2.2.2.2.1,v.2.2.2.2.2.1,v.2.2.2.2.2.2.1,v.2.2.2.2.2.2.2]
def ofL {W:Type} (d:W) (l:List W):V8 W:=(l.getD 0 d,l.getD 1 d,l.getD 2 d,l.getD 3 d,l.getD 4 d,l.getD 5 d,l.getD 6 d,l.getD 7 d)
def yd (b:L00) (i:Nat):UInt32:=
 ((dB (b.getD (4*i) 0).toUInt32 24 ||| dB (b.getD (4*i+1) 0).toUInt32 16) ||| dB (b.getD (4*i+2) 0).toUInt32 8) ||| (b.getD (4*i+3) 0).toUInt32
def HV (w:L8) (i:Nat):UInt32:=
 ((w.getD (i - 16) 0+w.getD (i - 7) 0)+((oX (w.getD (i - 15) 0) 7 ^^^ oX (w.getD (i - 15) 0) 18) ^^^ cq (w.getD (i - 15) 0) 3)) +
  ((oX (w.getD (i - 2) 0) 17 ^^^ oX (w.getD (i - 2) 0) 19) ^^^ cq (w.getD (i - 2) 0) 10)
def kr (b:L00) (w:L8) (i:Nat):L8:=if i<16 then w.set i (yd b i) else w.set i (HV w i)
def oL (b:L00):L8:=(List.range' 0 64).foldl (kr b) (List.replicate 64 0)
def Qt (v:V8 UInt32) (k w:UInt32):UInt32:=
 (((v.2.2.2.2.2.2.2+((oX v.2.2.2.2.1 6 ^^^ oX v.2.2.2.2.1 11) ^^^ oX v.2.2.2.2.1 25))+((v.2.2.2.2.1 &&& v.2.2.2.2.2.1) ^^^ (~~~v.2.2.2.2.1 &&& v.2.2.2.2.2.2.1)))+k)+w
def Tv (v:V8 UInt32):UInt32:=((oX v.1 2 ^^^ oX v.1 13) ^^^ oX v.1 22)+(((v.1 &&& v.2.1) ^^^ (v.1 &&& v.2.2.1)) ^^^ (v.2.1 &&& v.2.2.1))
def HJ (ws:L8) (v:V8 UInt32) (i:Nat):V8 UInt32:=
 (Qt v (F.UT.getD i 0) (ws.getD i 0)+Tv v,v.1,v.2.1,v.2.2.1,v.2.2.2.1+Qt v (F.UT.getD i 0) (ws.getD i 0),v.2.2.2.2.1,v.2.2.2.2.2.1,v.2.2.2.2.2.2.1)
def tz (v:L8) (h:L8) (i:Nat):L8:=h.set i (h.getD i 0+v.getD i 0)
def n9 (h:L8) (b:L00):L8:=(List.range' 0 8).foldl (tz (toL ((List.range' 0 64).foldl (HJ (oL b)) (ofL 0 h)))) h
theorem pO (b:L00) (i:Nat) (w:L8) (j:w.length=64):(kr b w i).length=64:=by
 unfold kr; split <;> simpa using j
theorem Aa (b:L00):(oL b).length=64:=oB (fun w:L8=>w.length=64) (kr b) (fun i x hx=>pO b i x hx) 64 0 _ (by simp)
theorem vM (v:L8) (i:Nat) (h:L8) (hh:h.length=8):(tz v h i).length=8:=by unfold tz; simpa using hh
theorem Co (h:L8) (b:L00) (hh:h.length=8):(n9 h b).length=8:=oB (fun w:L8=>w.length=8) _ (fun i x hx=>vM _ i x hx) 8 0 _ hh
theorem EH (b:L00):oL b=(List.range' 16 48).foldl (kr b) ((List.range' 0 16).foldl (kr b) (List.replicate 64 0)):=by
 unfold oL
 rw[<-List.foldl_append]; rfl
theorem wI1 (i:Nat) (h:i<1000000):wI ((i:Int)+1)=((i+1:Nat):Int):=by rw[ay q10 q10]; rfl
theorem wIs (i k:Nat) (h:k<=i) (j:i<1000000):wI ((i:Int) - (k:Int))=((i - k:Nat):Int):=by rw[ay q10 q10]; omega
theorem Ll (i:Nat) (w:L8) (O:16<=i) (hi:i<64) (R:w.length=64) {ρ:Type} (K:UInt32->UInt32->UInt32->UInt32->Option ρ) :
  (ag (au w (wI ((i:Int) - 15))) fun j=>ag (au w (wI ((i:Int) - 2))) fun z=>ag (au w (wI ((i:Int) - 16))) fun A=>ag (au w (wI ((i:Int) - 7))) fun B=>K j z A B) =
   K (w.getD (i - 15) 0) (w.getD (i - 2) 0) (w.getD (i - 16) 0) (w.getD (i - 7) 0):=by
 have m:∀k:Nat,k<=16->au w (wI ((i:Int) - (k:Int)))=some (w.getD (i - k) 0):=fun k U=>by
  rw[wIs i k q10 q10,aG q10 0]
 have G:=m 15 q10; have J:=m 2 q10; have I:=m 16 q10; have N:=m 7 q10
 rw[show au w (wI ((i:Int) - 15))=_ from G,aa,show au w (wI ((i:Int) - 2))=_ from J,aa,show au w (wI ((i:Int) - 16))=_ from I,aa,show au w (wI ((i:Int) - 7))=_ from N,aa]
theorem GU (a:Int) (h:L8) (l:List UInt64) (rest:L00) (n:UInt64) (hh:h.length=8) (hr:rest.length=128) :
  F.Zu a h l rest n=some (a,n9 h rest,l,rest,n):=by
 unfold F.Zu
 -- the first sixteen words
 have O:=gu (f:=F.acG rest h a l n) (fun w i=>((i:Int),w)) (fun w=>w.length=64) (kr rest) 0 16
  (X:=fun w=>loop (F.X0 h a l rest n) (16,w))
  (fun i w _ hi j=>by
   have z:decide ((i:Int)<16)=true:=ah q10
   have R:wI (4*(i:Int))=((4*i:Nat):Int):=by rw[ay q10 q10]; omega
   have d:∀k:Nat,k<4->au (rest.drop (4*i)) (k:Int)=some (rest.getD (4*i+k) 0):=fun k U=>by
    rw[aG (by simp; omega) 0,ak,dt,ak]
   refine⟨?_,pO rest i w j⟩
   simp only[F.acG,z,bo,R,na (show 4*i<=rest.length by omega),aa,aS]
   have B:=d 0 q10; have G:=d 1 q10; have I:=d 2 q10; have J:=d 3 q10
   simp only[show ((0:Nat):Int)=0 from rfl,show ((1:Nat):Int)=1 from rfl,show ((2:Nat):Int)=2 from rfl,show ((3:Nat):Int)=3 from rfl,bb]at B G I J
   rw[B,aa,G,aa,I,aa,J,aa,jv (show i<w.length by omega),aa,wI1 i q10,ao]
   simp only[kr,hi,bo,yd]
   rfl)
  (fun w j=>rfl) 16 0 (List.replicate 64 0) (aq _) rfl (by simp)
 have V:=fun (w:L8) (j:w.length=64)=>gu (f:=F.X0 h a l rest n) (fun w i=>((i:Int),w)) (fun w=>w.length=64) (kr rest) 16 64
  (X:=fun w=>loop (F.abw h w a l rest n) (h.getD 0 0,h.getD 1 0,h.getD 2 0,h.getD 3 0,h.getD 4 0,h.getD 5 0,h.getD 6 0,h.getD 7 0,0))
  (fun i w N hi j=>by
   have z:decide ((i:Int)<64)=true:=ah q10
   refine⟨?_,pO rest i w j⟩
   simp only[F.X0,z,bo,Ll i w N hi j]
   rw[show F.T8 (w.getD (i - 15) 0) (-7)=_ from pF _ 7 q10 q10,aa,show F.T8 (w.getD (i - 15) 0) (-18)=_ from pF _ 18 q10 q10,aa,
    show F.T8 (w.getD (i - 2) 0) (-17)=_ from pF _ 17 q10 q10,aa,show F.T8 (w.getD (i - 2) 0) (-19)=_ from pF _ 19 q10 q10,aa,
    jv (show i<w.length by omega),aa,aS,wI1 i q10,ao]
   simp only[kr,show ¬i<16 by omega,cC,HV]
   rfl)
  (fun w j=>by
   have g:∀k:Nat,k<8->au h (k:Int)=some (h.getD k 0):=fun k U=>aG q10 0
   have Y:=g 0 q10; have Z:=g 1 q10; have g2:=g 2 q10; have g3:=g 3 q10; have g4:=g 4 q10; have g5:=g 5 q10; have g6:=g 6 q10; have g7:=g 7 q10
   simp only[F.X0,show decide (((64:Nat):Int)<64)=false from rfl,bK,cC]
   rw[show au h (0:Int)=_ from Y,aa,show au h (1:Int)=_ from Z,aa,show au h (2:Int)=_ from g2,aa,show au h (3:Int)=_ from g3,aa,show au h (4:Int)=_ from g4,aa,show au h (5:Int)=_ from g5,aa,show au h (6:Int)=_ from g6,aa,show au h (7:Int)=_ from g7,aa])
  48 16 w (aq _) rfl j
 have e3:=fun (A:L8) (j:A.length=64)=>gu (f:=F.abw h A a l rest n) (fun (v:V8 UInt32) i=>(v.1,v.2.1,v.2.2.1,v.2.2.2.1,v.2.2.2.2.1,v.2.2.2.2.2.1,v.2.2.2.2.2.2.1,v.2.2.2.2.2.2.2,(i:Int))) (fun _=>True) (HJ A) 0 64
  (X:=fun v=>loop (F.ZX a l rest n v.1 v.2.1 v.2.2.1 v.2.2.2.1 v.2.2.2.2.1 v.2.2.2.2.2.1 v.2.2.2.2.2.2.1 v.2.2.2.2.2.2.2) (0,h))
  (fun i v _ hi _=>by
   have z:decide ((i:Int)<64)=true:=ah q10
   refine⟨?_,trivial⟩
   simp only[F.abw,z,bo]
   rw[show F.T8 v.2.2.2.2.1 (-6)=_ from pF _ 6 q10 q10,aa,show F.T8 v.2.2.2.2.1 (-11)=_ from pF _ 11 q10 q10,aa,show F.T8 v.2.2.2.2.1 (-25)=_ from pF _ 25 q10 q10,aa,
    Ow,aG (show i<F.UT.length from hi) 0,aa,aG (show i<A.length by omega) 0,aa,aS,
    show F.T8 v.1 (-2)=_ from pF _ 2 q10 q10,aa,show F.T8 v.1 (-13)=_ from pF _ 13 q10 q10,aa,show F.T8 v.1 (-22)=_ from pF _ 22 q10 q10,aa,aS,S0,SD,wI1 i q10]
   rfl)
  (fun v _=>rfl) 64 0 (ofL 0 h) (aq _) rfl trivial
 have e4:=fun (v:V8 UInt32)=>gu (f:=F.ZX a l rest n v.1 v.2.1 v.2.2.1 v.2.2.2.1 v.2.2.2.2.1 v.2.2.2.2.2.1 v.2.2.2.2.2.2.1 v.2.2.2.2.2.2.2) (fun h i=>((i:Int),h)) (fun h=>h.length=8) (tz (toL v)) 0 8
  (X:=fun h=>some (a,h,l,rest,n))
  (fun i h _ hi hh=>by
   have z:decide ((i:Int)<8)=true:=ah q10
   refine⟨?_,vM _ i h hh⟩
   simp only[F.ZX,z,bo]
   rw[aG (l:=[v.1,v.2.1,v.2.2.1,v.2.2.2.1,v.2.2.2.2.1,v.2.2.2.2.2.1,v.2.2.2.2.2.2.1,v.2.2.2.2.2.2.2]) (show i<8 from hi) 0,aa,aG (show i<h.length by omega) 0,aa,aa,aS,wI1 i q10,ao]
   rfl)
  (fun h hh=>rfl) 8 0 h (aq _) rfl hh
 refine O.trans ?_
 refine (V _ (oB (fun w:L8=>w.length=64) (kr rest) (fun i x hx=>pO rest i x hx) 16 0 _ (by simp))).trans ?_
 rw[<-EH]
 refine (e3 _ (Aa rest)).trans ?_
 exact e4 _
theorem Pa {v:V8 UInt32}:au (toL v) (0:Int)=some v.1/\au (toL v) (1:Int)=some v.2.1/\au (toL v) (2:Int)=some v.2.2.1/\au (toL v) (3:Int)=some v.2.2.2.1 /\
  au (toL v) (4:Int)=some v.2.2.2.2.1/\au (toL v) (5:Int)=some v.2.2.2.2.2.1/\au (toL v) (6:Int)=some v.2.2.2.2.2.2.1/\au (toL v) (7:Int)=some v.2.2.2.2.2.2.2:=⟨rfl,rfl,rfl,rfl,rfl,rfl,rfl,rfl⟩
theorem NY {h:L8} (hh:h.length=8):toL (ofL 0 h)=h:=by
 match h,hh with
 | [a,b,c,d,e,f,g,i],_=>rfl
theorem Ax (all:L00) (j:Nat) (h:L8) (hh:h.length=8) (hl:j+64<=all.length) (hb:all.length<=1000000000000000) :
  loop (F.Wy all (j:Int) h) (0,List.replicate 64 0)=some (.inl (((j+64:Nat):Int),n9 h (all.drop j))):=by
 have R:=gu (f:=F.Wy all (j:Int) h) (fun w i=>((i:Int),w)) (fun w=>w.length=64) (kr (all.drop j)) 0 64
  (X:=fun w=>loop (F.Zk h w (j:Int)) (0,h))
  (fun i w _ hi G=>by
   have z:decide ((i:Int)<64)=true:=ah q10
   refine⟨?_,pO _ i w G⟩
   by_cases h16:i<16
   ·have I:decide ((i:Int)<16)=true:=ah q10
    have U:wI ((j:Int)+wI (4*(i:Int)))=((j+4*i:Nat):Int):=by rw[ay (show -9223372036854775808<=4*(i:Int) by omega) q10,ay q10 q10]; omega
    have d:∀k:Nat,k<4->au all (wI (((j+4*i:Nat):Int)+(k:Int)))=some ((all.drop j).getD (4*i+k) 0):=fun k V=>by
     rw[ay q10 q10,show (((j+4*i:Nat):Int)+(k:Int))=((j+4*i+k:Nat):Int) by omega,aG q10 0,ak,ak,dt,dW]
    have J:=d 0 q10; have Y:=d 1 q10; have Z:=d 2 q10; have d3:=d 3 q10
    rw[show ((0:Nat):Int)=0 from rfl,Int.add_zero,ay q10 q10]at J
    simp only[F.Wy,z,I,bo,U,aS]
    rw[J,aa,show au all (wI (((j+4*i:Nat):Int)+1))=_ from Y,aa,show au all (wI (((j+4*i:Nat):Int)+2))=_ from Z,aa,show au all (wI (((j+4*i:Nat):Int)+3))=_ from d3,aa,
     jv (show i<w.length by omega),aa,ao]
    simp only[F.Xl,wI1 i q10,kr,h16,bo,yd]
    rfl
   ·have I:decide ((i:Int)<16)=false:=an q10
    have m:∀k:Nat,k<=16->au w (wI ((i:Int) - (k:Int)))=some (w.getD (i - k) 0):=fun k V=>by
     rw[wIs i k q10 q10,aG q10 0]
    have N:=m 15 q10; have m2:=m 2 q10; have O:=m 16 q10; have m7:=m 7 q10
    simp only[F.Wy,z,I,bo,bK,cC]
    rw[show au w (wI ((i:Int) - 15))=_ from N,aa,show au w (wI ((i:Int) - 2))=_ from m2,aa,show au w (wI ((i:Int) - 16))=_ from O,aa,
     show F.T7 (w.getD (i - 15) 0) 7=_ from od _ 7 q10,aa,show F.T7 (w.getD (i - 15) 0) 18=_ from od _ 18 q10,aa,
     show au w (wI ((i:Int) - 7))=_ from m7,aa,
     show F.T7 (w.getD (i - 2) 0) 17=_ from od _ 17 q10,aa,show F.T7 (w.getD (i - 2) 0) 19=_ from od _ 19 q10,aa,
     jv (show i<w.length by omega),aa,aS,ao]
    simp only[F.Xl,wI1 i q10,kr,h16,cC,HV]
    have e:∀a b c d:UInt32,((a+b)+c)+d=((a+c)+b)+d:=fun a b c d=>by rw[UInt32.add_assoc a b c,UInt32.add_comm b c,<-UInt32.add_assoc]
    rw[e]
    rfl)
  (fun w G=>rfl) 64 0 (List.replicate 64 0) (aq _) rfl (by simp)
 have e3:=fun (A:L8) (G:A.length=64)=>gu (f:=F.Zk h A (j:Int)) (fun (v:V8 UInt32) i=>((i:Int),toL v)) (fun _=>True) (HJ A) 0 64
  (X:=fun v=>loop (F.Wo (j:Int) (toL v)) (0,h))
  (fun i v _ hi _=>by
   have z:decide ((i:Int)<64)=true:=ah q10
   obtain⟨t0,t1,t2,t3,t4,t5,t6,t7⟩:=Pa (v:=v)
   refine⟨?_,trivial⟩
   simp only[F.Zk,z,bo]
   rw[t0,aa,t4,aa,t7,aa,show F.T7 v.2.2.2.2.1 6=_ from od _ 6 q10,aa,show F.T7 v.2.2.2.2.1 11=_ from od _ 11 q10,aa,show F.T7 v.2.2.2.2.1 25=_ from od _ 25 q10,aa,
    t5,aa,t6,aa,aG (show i<F.UT.length from hi) 0,aa,aG (show i<A.length by omega) 0,aa,aS,
    show F.T7 v.1 2=_ from od _ 2 q10,aa,show F.T7 v.1 13=_ from od _ 13 q10,aa,show F.T7 v.1 22=_ from od _ 22 q10,aa,
    t1,aa,t2,aa,aa,aa,aS,aa,aa,t3,aa,aa,aa,wI1 i q10]
   rfl)
  (fun v _=>rfl) 64 0 (ofL 0 h) (aq _) rfl trivial
 have e4:=fun (v:V8 UInt32)=>gu (f:=F.Wo (j:Int) (toL v)) (fun h i=>((i:Int),h)) (fun h=>h.length=8) (tz (toL v)) 0 8
  (X:=fun h=>some (.inl (((j+64:Nat):Int),h)))
  (fun i h _ hi hh=>by
   have z:decide ((i:Int)<8)=true:=ah q10
   refine⟨?_,vM _ i h hh⟩
   simp only[F.Wo,z,bo]
   rw[aG (show i<h.length by omega) 0,aa,aG (l:=toL v) (show i<8 from hi) 0,aa,aa,aS,wI1 i q10,ao]
   rfl)
  (fun h hh=>by
   simp only[F.Wo,show decide (((8:Nat):Int)<8)=false from rfl,bK,cC]
   rw[ay q10 q10]
   rfl) 8 0 h (aq _) rfl hh
 refine R.trans ?_
 have B:=e3 (oL (all.drop j)) (Aa _)
 rw[NY hh]at B
 refine B.trans ?_
 exact e4 _
theorem dC {σ α ρ:Type} {f:σ->Option (σ⊕ρ)} (st:α->Nat->σ) (I:Nat->α->Prop) (g:α->Nat->α) (lo n:Nat) {X:α->Option ρ}
  (j:∀i x,lo<=i->i<n->I i x->f (st x i)=some (.inl (st (g x i) (i+1)))/\I (i+1) (g x i)) (k:∀x,I n x->f (st x n)=bz (X x)) :
  ∀(r i:Nat) (x:α),lo<=i->i+r=n->I i x->loop f (st x i)=X ((List.range' i r).foldl g x)
 | 0,i,x,hl,h,hx=>by
  have:i=n:=by omega
  subst this
  simp only[List.range'_zero,List.foldl_nil]
  exact bm (k x hx)
 | r+1,i,x,hl,h,hx=>by
  obtain⟨z,A⟩:=j i x hl q10 hx
  rw[bv z,gq,eo]
  exact dC st I g lo n j k r (i+1) _ q10 q10 A
theorem eO {α:Type} (I:Nat->α->Prop) (g:α->Nat->α) (h:∀i x,I i x->I (i+1) (g x i)):∀(r i:Nat) (x:α),I i x->I (i+r) ((List.range' i r).foldl g x)
 | 0,i,x,hx=>by simpa using hx
 | r+1,i,x,hx=>by
  rw[gq,eo,show i+(r+1)=i+1+r by omega]
  exact eO I g h r (i+1) _ (h i x hx)
def xK (b:L00) (i:Nat) (x:UInt64) (k:Nat):UInt64:=di x 8 ||| (b.getD (8*i+k) 0).toUInt64
def uj (b:L00) (i:Nat):UInt64:=(List.range' 0 8).foldl (xK b i) 0
def HL (w:List UInt64) (i:Nat):UInt64:=
 ((w.getD (i - 16) 0+w.getD (i - 7) 0)+((oQ (w.getD (i - 15) 0) 1 ^^^ oQ (w.getD (i - 15) 0) 8) ^^^ bH (w.getD (i - 15) 0) 7)) +
  ((oQ (w.getD (i - 2) 0) 19 ^^^ oQ (w.getD (i - 2) 0) 61) ^^^ bH (w.getD (i - 2) 0) 6)
def jZ (b:L00) (w:List UInt64) (i:Nat):List UInt64:=if i<16 then w.set i (uj b i) else w.set i (HL w i)
def oD (b:L00):List UInt64:=(List.range' 0 80).foldl (jZ b) (List.replicate 80 0)
def QJ (v:V8 UInt64) (k w:UInt64):UInt64:=
 (((v.2.2.2.2.2.2.2+((oQ v.2.2.2.2.1 14 ^^^ oQ v.2.2.2.2.1 18) ^^^ oQ v.2.2.2.2.1 41))+((v.2.2.2.2.1 &&& v.2.2.2.2.2.1) ^^^ (~~~v.2.2.2.2.1 &&& v.2.2.2.2.2.2.1)))+k)+w
def TQ (v:V8 UInt64):UInt64:=((oQ v.1 28 ^^^ oQ v.1 34) ^^^ oQ v.1 39)+(((v.1 &&& v.2.1) ^^^ (v.1 &&& v.2.2.1)) ^^^ (v.2.1 &&& v.2.2.1))
def Hx (ws:List UInt64) (v:V8 UInt64) (i:Nat):V8 UInt64:=
 (QJ v (F.US.getD i 0) (ws.getD i 0)+TQ v,v.1,v.2.1,v.2.2.1,v.2.2.2.1+QJ v (F.US.getD i 0) (ws.getD i 0),v.2.2.2.2.1,v.2.2.2.2.2.1,v.2.2.2.2.2.2.1)
def tE (v:List UInt64) (h:List UInt64) (i:Nat):List UInt64:=h.set i (h.getD i 0+v.getD i 0)
def mc (h:List UInt64) (b:L00):List UInt64:=(List.range' 0 8).foldl (tE (toL ((List.range' 0 80).foldl (Hx (oD b)) (ofL 0 h)))) h
def oZ (i:Nat) (w:List UInt64):Prop:=w.length=80/\∀k,i<=k->w.getD k 0=0
theorem ra (b:L00) (i:Nat) (w:List UInt64) (j:oZ i w):oZ (i+1) (jZ b w i):=by
 unfold jZ
 refine⟨by split <;> simpa using j.1,fun k z=>?_⟩
 have:=j.2 k q10
 rw[ak]at this ⊢
 split <;> (rw[gd]; rw[ae q10]; exact this)
theorem uI:oZ 0 (List.replicate 80 0):=⟨by simp,fun k _=>by
 rw[ak,et]; split <;> rfl⟩
theorem zW (b:L00):oZ 80 (oD b):=eO oZ (jZ b) (fun i x hx=>ra b i x hx) 80 0 _ uI
theorem sR (v:List UInt64) (i:Nat) (h:List UInt64) (hh:h.length=8):(tE v h i).length=8:=by unfold tE; simpa using hh
theorem sB (h:List UInt64) (b:L00) (hh:h.length=8):(mc h b).length=8:=oB (fun w:List UInt64=>w.length=8) _ (fun i x hx=>sR _ i x hx) 8 0 _ hh
theorem Az (b:L00):oD b=(List.range' 16 64).foldl (jZ b) ((List.range' 0 16).foldl (jZ b) (List.replicate 80 0)):=by
 unfold oD
 rw[<-List.foldl_append]; rfl
theorem Nq {w:List UInt64} {i:Nat} (h:i<w.length):w.set i (w.getD i 0)=w:=by
 apply jw
 intro k
 rw[gd]
 split
 ·rename_i e
  subst e
  rw[ak,aw h]; simp[h]
 ·rfl
theorem vr {w:List UInt64} {i:Nat} (h:i<w.length) (x:UInt64):au (w.set i x) (i:Int)=some x:=by
 rw[qt,gd,af rfl,af h]
theorem Ge (i:Nat) (w:List UInt64) (O:16<=i) (hi:i<80) (R:w.length=80) {ρ:Type} (K:UInt64->UInt64->UInt64->UInt64->Option ρ) :
  (ag (au w (wI ((i:Int) - 15))) fun j=>ag (au w (wI ((i:Int) - 2))) fun z=>ag (au w (wI ((i:Int) - 16))) fun A=>ag (au w (wI ((i:Int) - 7))) fun B=>K j z A B) =
   K (w.getD (i - 15) 0) (w.getD (i - 2) 0) (w.getD (i - 16) 0) (w.getD (i - 7) 0):=by
 have m:∀k:Nat,k<=16->au w (wI ((i:Int) - (k:Int)))=some (w.getD (i - k) 0):=fun k U=>by
  rw[wIs i k q10 q10,aG q10 0]
 have G:=m 15 q10; have J:=m 2 q10; have I:=m 16 q10; have N:=m 7 q10
 rw[show au w (wI ((i:Int) - 15))=_ from G,aa,show au w (wI ((i:Int) - 2))=_ from J,aa,show au w (wI ((i:Int) - 16))=_ from I,aa,show au w (wI ((i:Int) - 7))=_ from N,aa]
theorem F8 (a:Int) (h:List UInt64) (l:L8) (rest:L00) (n:UInt64) (hh:h.length=8) (hr:rest.length=128) :
  F.abj a l h rest n=some (a,l,mc h rest,rest,n):=by
 unfold F.abj
 -- the first sixteen words
 have J:=fun (i:Nat) (w:List UInt64) (hi:i<16) (z:oZ i w)=>gu (f:=F.ZY (i:Int) ((rest.drop (8*i)).take (8*i+8 - 8*i))) (fun x j=>((j:Int),w.set i x)) (fun _=>True) (xK rest i) 0 8
  (X:=fun x=>(some (.inl (((i+1:Nat):Int),w.set i x)):Option ((Int×List UInt64)⊕(Int×L8×List UInt64×L00×UInt64))))
  (fun j x _ hj _=>by
   have hl:((rest.drop (8*i)).take (8*i+8 - 8*i)).length=8:=by simp; omega
   have A:decide ((j:Int)<(((rest.drop (8*i)).take (8*i+8 - 8*i)).length:Int))=true:=ah q10
   have g:au ((rest.drop (8*i)).take (8*i+8 - 8*i)) (j:Int)=some (rest.getD (8*i+j) 0):=by
    rw[aG q10 0,ak,bY,af q10,dt,ak]
   have b3:=z.1
   refine⟨?_,trivial⟩
   simp only[F.ZY,A,bo]
   rw[g,aa,vr q10,aa,aa,aS,wI1 j q10,ao,List.set_set]
   rfl)
  (fun x _=>by
   have hl:((rest.drop (8*i)).take (8*i+8 - 8*i)).length=8:=by simp; omega
   have A:decide (((8:Nat):Int)<(((rest.drop (8*i)).take (8*i+8 - 8*i)).length:Int))=false:=an q10
   simp only[F.ZY,A,bK,cC,wI1 i q10]
   rfl)
  8 0 0 (aq _) rfl trivial
 have N:=dC (f:=F.acl rest h a l n) (fun w i=>((i:Int),w)) oZ (jZ rest) 0 16
  (X:=fun w=>loop (F.Xo h a l rest n) (16,w))
  (fun i w _ hi z=>by
   have A:decide ((i:Int)<16)=true:=ah q10
   have O:wI (8*(i:Int))=((8*i:Nat):Int):=by rw[ay q10 q10]; omega
   have R:wI (((8*i:Nat):Int)+8)=((8*i+8:Nat):Int):=by rw[ay q10 q10]; omega
   refine⟨?_,ra rest i w z⟩
   simp only[F.acl,A,bo,O,R]
   rw[tN q10 q10,aa]
   have G:=J i w hi z
   have hz:w.set i 0=w:=by
    have:=Nq (w:=w) (i:=i) (by have:=z.1; omega)
    rwa [z.2 i (aq _)]at this
   rw[hz]at G
   refine G.trans ?_
   simp only[jZ,hi,bo,uj])
  (fun w z=>rfl) 16 0 (List.replicate 80 0) (aq _) rfl uI
 have U:=fun (w:List UInt64) (z:w.length=80)=>gu (f:=F.Xo h a l rest n) (fun w i=>((i:Int),w)) (fun w=>w.length=80) (jZ rest) 16 80
  (X:=fun w=>loop (F.abZ h w a l rest n) (h.getD 0 0,h.getD 1 0,h.getD 2 0,h.getD 3 0,h.getD 4 0,h.getD 5 0,h.getD 6 0,h.getD 7 0,0))
  (fun i w I hi z=>by
   have A:decide ((i:Int)<80)=true:=ah q10
   refine⟨?_,(by unfold jZ; split <;> simpa using z)⟩
   simp only[F.Xo,A,bo,Ge i w I hi z]
   rw[show F.Ub (w.getD (i - 15) 0) (-1)=_ from pC _ 1 q10 q10,aa,show F.Ub (w.getD (i - 15) 0) (-8)=_ from pC _ 8 q10 q10,aa,
    show F.Ub (w.getD (i - 2) 0) (-19)=_ from pC _ 19 q10 q10,aa,show F.Ub (w.getD (i - 2) 0) (-61)=_ from pC _ 61 q10 q10,aa,
    jv (show i<w.length by omega),aa,aS,wI1 i q10,ao]
   simp only[jZ,show ¬i<16 by omega,cC,HL]
   rfl)
  (fun w z=>by
   have g:∀k:Nat,k<8->au h (k:Int)=some (h.getD k 0):=fun k hk=>aG q10 0
   have V:=g 0 q10; have Y:=g 1 q10; have Z:=g 2 q10; have g3:=g 3 q10; have g4:=g 4 q10; have g5:=g 5 q10; have g6:=g 6 q10; have g7:=g 7 q10
   simp only[F.Xo,show decide (((80:Nat):Int)<80)=false from rfl,bK,cC]
   rw[show au h (0:Int)=_ from V,aa,show au h (1:Int)=_ from Y,aa,show au h (2:Int)=_ from Z,aa,show au h (3:Int)=_ from g3,aa,show au h (4:Int)=_ from g4,aa,show au h (5:Int)=_ from g5,aa,show au h (6:Int)=_ from g6,aa,show au h (7:Int)=_ from g7,aa])
  64 16 w (aq _) rfl z
 have e3:=fun (B:List UInt64) (z:B.length=80)=>gu (f:=F.abZ h B a l rest n) (fun (v:V8 UInt64) i=>(v.1,v.2.1,v.2.2.1,v.2.2.2.1,v.2.2.2.2.1,v.2.2.2.2.2.1,v.2.2.2.2.2.2.1,v.2.2.2.2.2.2.2,(i:Int))) (fun _=>True) (Hx B) 0 80
  (X:=fun v=>loop (F.abu a l rest n v.1 v.2.1 v.2.2.1 v.2.2.2.1 v.2.2.2.2.1 v.2.2.2.2.2.1 v.2.2.2.2.2.2.1 v.2.2.2.2.2.2.2) (0,h))
  (fun i v _ hi _=>by
   have A:decide ((i:Int)<80)=true:=ah q10
   refine⟨?_,trivial⟩
   simp only[F.abZ,A,bo]
   rw[show F.Ub v.2.2.2.2.1 (-14)=_ from pC _ 14 q10 q10,aa,show F.Ub v.2.2.2.2.1 (-18)=_ from pC _ 18 q10 q10,aa,show F.Ub v.2.2.2.2.1 (-41)=_ from pC _ 41 q10 q10,aa,
    PC,aG (show i<F.US.length from hi) 0,aa,aG (show i<B.length by omega) 0,aa,aS,
    show F.Ub v.1 (-28)=_ from pC _ 28 q10 q10,aa,show F.Ub v.1 (-34)=_ from pC _ 34 q10 q10,aa,show F.Ub v.1 (-39)=_ from pC _ 39 q10 q10,aa,aS,Tm,Sm,wI1 i q10]
   rfl)
  (fun v _=>rfl) 80 0 (ofL 0 h) (aq _) rfl trivial
 have e4:=fun (v:V8 UInt64)=>gu (f:=F.abu a l rest n v.1 v.2.1 v.2.2.1 v.2.2.2.1 v.2.2.2.2.1 v.2.2.2.2.2.1 v.2.2.2.2.2.2.1 v.2.2.2.2.2.2.2) (fun h i=>((i:Int),h)) (fun h=>h.length=8) (tE (toL v)) 0 8
  (X:=fun h=>some (a,l,h,rest,n))
  (fun i h _ hi hh=>by
   have A:decide ((i:Int)<8)=true:=ah q10
   refine⟨?_,sR _ i h hh⟩
   simp only[F.abu,A,bo]
   rw[aG (l:=[v.1,v.2.1,v.2.2.1,v.2.2.2.1,v.2.2.2.2.1,v.2.2.2.2.2.1,v.2.2.2.2.2.2.1,v.2.2.2.2.2.2.2]) (show i<8 from hi) 0,aa,aG (show i<h.length by omega) 0,aa,aa,aS,wI1 i q10,ao]
   rfl)
  (fun h hh=>rfl) 8 0 h (aq _) rfl hh
 refine N.trans ?_
 refine (U _ (eO oZ (jZ rest) (fun i x hx=>ra rest i x hx) 16 0 _ uI).1).trans ?_
 rw[<-Az]
 refine (e3 _ ((zW rest).1)).trans ?_
 exact e4 _
end Go.Gk.Sh
end
section
namespace Go.Gk
def TW:L00:=[65,66,67,68,69,70,71,72,73,74,75,76,77,78,79,80,81,82,83,84,85,86,87,88,89,90,97,98,99,100,101,102,103,104,105,106,107,108,109,110,111,112,113,114,115,116,117,118,119,120,121,122,48,49,50,51,52,53,54,55,56,57,45,95]
def S1:L00:=[65,66,67,68,69,70,71,72,73,74,75,76,77,78,79,80,81,82,83,84,85,86,87,88,89,90,97,98,99,100,101,102,103,104,105,106,107,108,109,110,111,112,113,114,115,116,117,118,119,120,121,122,48,49,50,51,52,53,54,55,56,57,43,47]
def sg6 (sg:L00) (n:Nat):UInt8:=sg.getD n 0
theorem wr (a b:Nat) (ha:a<9223372036854775808) (hb:b<9223372036854775808):n7 (a:Int) (b:Int)=((a &&& b:Nat):Int):=by
 unfold n7
 rw[BitVec.ofInt_natCast,BitVec.ofInt_natCast,BitVec.toNat_and,BitVec.toNat_ofNat,BitVec.toNat_ofNat,av q10,av q10]
 exact Q9 _ (dR Nat.and_le_left ha)
theorem D7 (m:Nat) (h:m<18446744073709551616):(UInt64.ofInt (m:Int)).toNat=m:=by
 simp[UInt64.ofInt,bO]
 omega
def num (sg:L00) (c:UInt8):Nat:=sg.findIdx (· == c)
structure SgOk (sg:L00):Prop where
 len:sg.length=64
 inv:∀n,n<64->num sg (sg6 sg n)=n
theorem pn (a n:Nat) (hn:n<=64):kV (a:Int) n=((a / 2^n:Nat):Int):=by
 unfold kV
 rw[aT hn]
 have:((2:Int)^n)=((2^n:Nat):Int):=by simp
 rw[this]
 rw[iN _ (eb _)]; rfl
section
variable {sg:L00} {std:Bool} (hs:SgOk sg) (hsg:(if std then S1 else TW)=sg) (l:L00) (hg:∀c∈l,c∈sg) (hl:l.length<=225000000000000)
include hs hsg hg hl
end
theorem DL {σ ρ:Type} {f:σ->Option (σ⊕ρ)} {n:Nat} {r:ρ} (st:Nat->σ) (j:∀i,i<n->f (st i)=some (.inl (st (i+1)))) (z:f (st n)=some (.inr r)) :
  ∀i,i<=n->loop f (st i)=some r:=by
 intro i hi
 induction h:n - i generalizing i with
 | zero=>
  have:i=n:=by omega
  subst this
  exact eL z
 | succ k ih=>
  rw[bv (j i q10)]
  exact ih (i+1) q10 q10
theorem Cb (i:Nat) (h:i<225000000000001):wI ((i:Int)+1)=((i+1:Nat):Int):=by rw[ay] <;> omega
theorem oE {l:L00} {q:Nat} (h:q<l.length):l.getD q 0=l[q]:=by
 rw[ak,aw h]; rfl
section
variable (l:L00) (hl:l.length<=140737488355328) (q x:Nat)
include hl
end
section
variable (l:L00) (hl:l.length<=65536)
include hl
end
section
variable (a b c:L00) (ha:a.length<=140737488355328) (hb:b.length<=140737488355328) (hc:c.length<=140737488355328)
include ha hb hc
end
theorem AZ (l:L00) (hl:l.length<=140737488355328):F.UX l=some (l++List.replicate 40 165,l.length):=by
 unfold F.UX
 rw[Ft (by simp; omega),aa,cZ]
 have k:=DL (f:=F.aay l) (n:=40) (r:=(l++List.replicate 40 165,l.length)) (fun j=>(l++List.replicate j 165,(j:Int)))
  (fun j z=>by
   unfold F.aay
   dsimp only
   rw[af (by simp; omega),Ft (by simp; omega),aa,Cb j q10,bh,<-ez]; rfl)
  (by
   unfold F.aay
   dsimp only
   rw[ae (by simp),grd_true _ (by simp)]; rfl) 0 q10
 simpa using k
theorem yl (r p:L00) (hp:p.length<=140737488355328) (J:r.length=p.length+40) (G:r.take p.length=p) (hd:r.drop p.length=List.replicate 40 165):F.UA r p.length p=some true:=by
 unfold F.UA
 have A:wI ((p.length:Int)+40)=((p.length+40:Nat):Int):=by rw[ay] <;> omega
 rw[ae (by rw[G]; simp),A,grd_true _ (by simp; omega)]
 have j:r.take (wI ((p.length:Int)+40)).toNat=r:=by rw[A,ao,aC q10]
 refine DL (n:=r.length) (fun i=>(i:Int)) (fun i hi=>?_) ?_ 0 q10
 ·unfold F.abv
  dsimp only
  rw[j,af (by simp; omega)]
  have B:F.Vk (i:Int) false=some (.inl ((i+1:Nat):Int)):=by
   unfold F.Vk
   dsimp only
   rw[ae (by simp),Cb i q10]; rfl
  by_cases h:i<p.length
  ·have hg:r[i]=p[i]:=by
    have z:(r.take p.length)[i]'(by simp; omega)=r[i]:=by simp
    rw[<-z]; congr 1
   rw[af (by simp; omega),jv hi,aa,jv h,aa,ae (by simp[hg]),ae (by simp; omega)]
   exact B
  ·have hg:r[i]=165:=by
    have z:(r.drop p.length)[i - p.length]'(by simp; omega)=r[i]:=by simp; congr 1; omega
    rw[<-z]
    have:∀(y:L00) (k:Nat) (I:k<y.length),y=List.replicate 40 165->y[k]=165:=by
     rintro y k I rfl; rw[js]
    exact this _ _ _ hd
   rw[ae (by simp; omega),af (by simp; omega),jv hi,aa,show (r[i] != 165)=false by simp[hg]]
   exact B
 ·unfold F.abv
  dsimp only
  rw[j,ae (by simp)]; rfl
theorem vt (l:L00) (hl:l.length<=140737488355328):F.UA (l++List.replicate 40 165) l.length l=some true:=
 yl _ l hl (by simp) (List.take_left' rfl) (List.drop_left' rfl)
end Go.Gk
end
section
namespace Go.Gk.Bn
open Go Go.Gk
def val:L8->Nat
 | []=>0
 | x :: l=>x.toNat+4294967296*val l
theorem jX:val []=0:=rfl
theorem il (x:UInt32) (l:L8):val (x :: l)=x.toNat+4294967296*val l:=rfl
theorem eF (x:UInt32):x.toNat<4294967296:=x.toNat_lt
theorem oT:∀(a b:L8),val (a++b)=val a+4294967296^a.length*val b
 | [],b=>by simp[val]
 | x :: a,b=>by
  rw[i9,il,oT a b,il,dN,aU,aF,<-dW]
  congr 1
  rw[<-aD,aP 4294967296 (4294967296^a.length)]
theorem bN:∀l:L8,val l<4294967296^l.length
 | []=>by simp[val]
 | x :: l=>by
  have j:=bN l
  have k:=eF x
  rw[il,dN,aU]
  have:val l+1<=4294967296^l.length:=j
  have:=bf 4294967296 this
  omega
theorem fS (l:L8) (k:Nat) (h:k<=l.length):val l=val (l.take k)+4294967296^k*val (l.drop k):=by
 have:=oT (l.take k) (l.drop k)
 rw[ch,az,aT h]at this
 exact this
theorem eh:∀k:Nat,val (List.replicate k 0)=0
 | 0=>rfl
 | k+1=>by rw[List.replicate_succ,il,eh k]; rfl
theorem kR (l:L8) (x:UInt32):val (l++[x])=val l+4294967296^l.length*x.toNat:=by
 rw[oT,il,jX]; simp
theorem gI:∀(l:L8) (i:Nat) (x:UInt32),i<l.length->val (l.set i x)+4294967296^i*(l.getD i 0).toNat=val l+4294967296^i*x.toNat
 | [],i,x,h=>by simp at h
 | y :: l,0,x,h=>by simp[val]; omega
 | y :: l,i+1,x,h=>by
  have A:=gI l i x (by simpa using h)
  have j:(y :: l).getD (i+1) 0=l.getD i 0:=by simp
  rw[j,List.set_cons_succ,il,il,aU]
  have k:4294967296^i*4294967296*(l.getD i 0).toNat=4294967296*(4294967296^i*(l.getD i 0).toNat):=by rw[Nat.mul_right_comm,aP]
  have z:4294967296^i*4294967296*x.toNat=4294967296*(4294967296^i*x.toNat):=by rw[Nat.mul_right_comm,aP]
  rw[k,z]
  omega
def am (n:Nat):L8:=if h:n=0 then [] else UInt32.ofNat n :: am (n / 4294967296)
termination_by n
decreasing_by exact kn (eu h) (show 1<4294967296 by decide)
theorem cu:am 0=[]:=by rw[am]; simp
theorem lG {n:Nat} (h:n≠0):am n=UInt32.ofNat n :: am (n / 4294967296):=by rw[am]; simp[h]
theorem al (n:Nat):val (am n)=n:=by
 induction n using Nat.strongRecOn with
 | ind n ih=>
  by_cases h:n=0
  ·subst h; rw[cu]; rfl
  ·rw[lG h,il,ih _ (kn (eu h) (show 1<4294967296 by decide)),cV]
   omega
def Can (l:L8):Prop:=l.getLast?≠some 0
theorem zp:Can []:=by simp[Can]
theorem MA {x:UInt32} {l:L8} (h:Can (x :: l)):Can l:=by
 unfold Can at h ⊢
 cases l with
 | nil=>simp
 | cons y l=>simpa using h
theorem pG:∀l:L8,Can l->am (val l)=l
 | [],_=>cu
 | x :: l,h=>by
  have j:=pG l (MA h)
  have hx:=eF x
  have k:val (x :: l)≠0:=by
   rw[il]
   intro B
   have z:x.toNat=0:=by omega
   have A:val l=0:=by omega
   rw[A,cu]at j
   subst j
   have:x=0:=cz.1 z
   subst this
   simp[Can]at h
  rw[lG k,il]
  congr 1
  ·apply cz.1
   rw[cV]; omega
  ·rw[show (x.toNat+4294967296*val l) / 4294967296=val l by omega,j]
theorem Ae (n:Nat):Can (am n):=by
 induction n using Nat.strongRecOn with
 | ind n ih=>
  by_cases h:n=0
  ·subst h; rw[cu]; exact zp
  ·have j:=ih _ (kn (eu h) (show 1<4294967296 by decide))
   rw[lG h]
   by_cases hd:n / 4294967296=0
   ·rw[hd,cu]
    unfold Can
    simp only[List.getLast?_singleton,ne_eq,fj]
    intro k
    have:=cD UInt32.toNat k
    rw[cV]at this
    simp at this
    omega
   ·unfold Can at j ⊢
    rw[lG hd]at j ⊢
    simpa using j
theorem Qu {a b:L8} (ha:Can a) (hb:Can b) (h:val a=val b):a=b:=by
 rw[<-pG a ha,<-pG b hb,h]
theorem z5 (l:L8) (k:Nat):val (l++List.replicate k 0)=val l:=by rw[oT,eh]; simp
theorem vP {l:L8} {n:Nat} (h:val l=n) (hc:Can l):l=am n:=by rw[<-h,pG l hc]
theorem bc {n k:Nat} (h:n<4294967296^k):(am n).length<=k:=by
 induction k generalizing n with
 | zero=>simp at h; subst h; rw[cu]; simp
 | succ k ih=>
  by_cases h0:n=0
  ·subst h0; rw[cu]; simp
  ·rw[lG h0,dN]
   have:=ih (n:=n / 4294967296) (by rw[aU]at h; exact Nat.div_lt_of_lt_mul (by rwa [aP]at h))
   omega
theorem tZ {n k:Nat} (h:4294967296^k<=n):k<(am n).length:=by
 have:=bN (am n)
 rw[al]at this
 rcases cI k (am n).length with j | j
 ·exact j
 ·have:=aE (show 0<4294967296 by decide) j
  omega
theorem uU {a b:L8} (hb:Can b) (h:a.length<b.length):val a<val b:=by
 have A:=bN a
 have j:b≠[]:=by rintro rfl; simp at h
 have hd:b=b.dropLast++[b.getLast j]:=(List.dropLast_concat_getLast j).symm
 have hl:b.getLast j≠0:=fun k=>hb (by rw[List.getLast?_eq_some_getLast j,k])
 have z:1<=(b.getLast j).toNat:=by
  rcases bR (b.getLast j).toNat with k | k
  ·exact absurd (cz.1 k) hl
  ·exact k
 rw[hd,kR,List.length_dropLast]
 have B:=aE (show 0<4294967296 by decide) (show a.length<=b.length - 1 by omega)
 have G:=bf (4294967296^(b.length - 1)) z
 omega
end Go.Gk.Bn
end
section
namespace Go.Gk.Bn
theorem BJ {g r j k V' h z B K:Nat} (hh:h=g*j+r) (O:B<K)
  (A:4294967296<=g\/r*4294967296+z<g*k) (G:(h*4294967296+z)*K+B<4294967296*((j*4294967296+k)*K+V')) :
  (h*4294967296+z)*K+B<g*((j*4294967296+k)*K+V'):=by
 rcases A with A | A
 ·exact aO G (bg _ A)
 ·have I:h*4294967296+z+1<=g*(j*4294967296+k):=by
   subst hh
   have J:g*(j*4294967296+k)=g*j*4294967296+g*k:=by rw[aF,<-aD]
   rw[J,bd]
   omega
  have N:(h*4294967296+z+1)*K<=g*(j*4294967296+k)*K:=bg _ I
  rw[bd,ci]at N
  rw[aF,<-aD]
  omega
theorem Jm {g r j k V' h z A K:Nat} (hh:h=g*j+r) (I:V'<K) (J:1<=j)
  (hg:g<4294967296) (N:g*k<=r*4294967296+z) :
  g*((j*4294967296+k)*K+V')<(h*4294967296+z)*K+A+((j*4294967296+k)*K+V'):=by
 have B:g*(j*4294967296+k)<=h*4294967296+z:=by
  subst hh
  have G:g*(j*4294967296+k)=g*j*4294967296+g*k:=by rw[aF,<-aD]
  rw[G,bd]
  omega
 have O:g*(j*4294967296+k)*K<=(h*4294967296+z)*K:=bg _ B
 have R:g*V'<=4294967295*V':=bg _ q10
 have U:4294967296*K<=(j*4294967296+k)*K:=bg _ q10
 rw[aF,<-aD]
 omega
end Go.Gk.Bn
end
section
namespace Go.Gk.Bn
open Go Go.Gk
theorem kh (c:UInt64):c.toUInt32.toNat=c.toNat%4294967296:=UInt64.toNat_toUInt32 c
theorem rv (c:UInt64):(bH c 32).toNat=c.toNat / 4294967296:=by rw[jm]; rfl
theorem Gj (c:UInt64):(bH c 32).toUInt32.toNat=c.toNat / 4294967296:=by
 rw[kh,rv,av]
 have:=c.toNat_lt
 omega
theorem Mj (c:UInt64):(bH c 63).toNat=c.toNat / 9223372036854775808:=by rw[jm]; rfl
theorem dD (x:UInt32):x.toUInt64.toNat=x.toNat:=UInt32.toNat_toUInt64 x
theorem ql (c:UInt64):c.toNat=c.toUInt32.toNat+4294967296*(bH c 32).toNat:=by rw[kh,rv]; omega
theorem mQ (a b:UInt64) (h:a.toNat+b.toNat<18446744073709551616):(a+b).toNat=a.toNat+b.toNat:=by rw[iX]; omega
theorem uy (a b:UInt64) (h:a.toNat*b.toNat<18446744073709551616):(a*b).toNat=a.toNat*b.toNat:=by rw[UInt64.toNat_mul]; omega
theorem oE (x:UInt32):x.toNat<=4294967295:=by have:=eF x; omega
def pad (x:L8) (n:Nat):L8:=x++List.replicate (n - x.length) 0
theorem nU {x:L8} {n:Nat} (h:x.length<=n):(pad x n).length=n:=by simp[pad]; omega
theorem y9 (n:Nat):pad [] n=List.replicate n 0:=by simp[pad]
theorem ux {x:L8} {n:Nat} (h:x.length<n) (v:UInt32):(pad x n).set x.length v=pad (x++[v]) n:=by
 unfold pad
 rw[eQ _ _ (aq _),kv]
 obtain⟨k,j⟩:∃k,n - x.length=k+1:=⟨n - x.length - 1,by omega⟩
 rw[j,List.replicate_succ,List.set_cons_zero,bh]
 congr 2
 simp; omega
theorem rI (x:L8) (n:Nat):val (pad x n)=val x:=z5 x _
theorem iW {a:L8} {i:Nat} (h:a.length<=i):a.getD i 0=0:=by
 rw[ak,dw h]; rfl
theorem pD {a:L8} {i:Nat} (h:i<a.length):a.take (i+1)=a.take i++[a.getD i 0]:=by
 rw[List.take_succ_eq_append_getElem h]
 congr 2
 rw[ak,aw h]; rfl
theorem cH (a:L8) (i:Nat):val (a.take (i+1))=val (a.take i)+4294967296^i*(a.getD i 0).toNat:=by
 by_cases h:i<a.length
 ·rw[pD h,kR,az,aT q10]
 ·rw[aC q10,aC q10,iW q10]; simp
theorem q5 {a:L8} {n:Nat} (hn:n<=a.length) (A:∀k,n<=k->a.getD k 0=0) (z:n=0\/a.getD (n - 1) 0≠0):a.take n=am (val a):=by
 have hd:a.drop n=List.replicate (a.length - n) 0:=by
  refine ew (by simp) fun i j B=>?_
  have:=A (n+i) q10
  rw[ak,aw (by simp at j; omega)]at this
  rw[List.getElem_drop,js]
  exact this
 refine vP ?_ ?_
 ·conv=>rhs; rw[<-ch n a,hd,z5]
 ·unfold Can
  rcases z with rfl | z
  ·simp
  ·intro j
   by_cases h0:n=0
   ·subst h0; simp at j
   ·have hl:(a.take n).length=n:=by simp; omega
    rw[List.getLast?_eq_getElem?,hl,List.getElem?_take_of_lt q10]at j
    rw[ak,j]at z
    exact z rfl
theorem tO {ρ:Type} {f:Int->Option (Int⊕ρ)} (a:L8) (X:Int->Option ρ) (ha:a.length<=4611686018427387904)
  (hf:∀n:Nat,n<=a.length->f (n:Int)=if n≠0/\a.getD (n - 1) 0=0 then some (.inl ((n - 1:Nat):Int)) else bz (X (n:Int))) :
  ∃n,n<=a.length/\a.take n=am (val a)/\loop f (a.length:Int)=X (n:Int):=by
 have z:∀n:Nat,n<=a.length->(∀k,n<=k->a.getD k 0=0)->∃m,m<=a.length/\a.take m=am (val a)/\loop f (n:Int)=X (m:Int):=by
  intro n
  induction n with
  | zero=>
   intro hn hz
   refine⟨0,hn,q5 hn hz (.inl rfl),?_⟩
   have:=hf 0 hn
   rw[ae (by simp)]at this
   rw[rM,this]
   cases X ((0:Nat):Int) <;> rfl
  | succ n ih=>
   intro hn hz
   have h:=hf (n+1) hn
   rw[fa]at h
   by_cases h0:a.getD n 0=0
   ·rw[af ⟨by omega,h0⟩]at h
    obtain⟨m,A,B,G⟩:=ih q10 fun k j=>by
     rcases Nat.eq_or_lt_of_le j with rfl | j
     ·exact h0
     ·exact hz k j
    exact⟨m,A,B,(bv h).trans G⟩
   ·rw[ae (fun hc=>h0 hc.2)]at h
    refine⟨n+1,hn,q5 hn hz (.inr (by simpa using h0)),?_⟩
    rw[rM,h]
    cases X ((n+1:Nat):Int) <;> rfl
 exact z a.length (aq _) fun k j=>iW j
end Go.Gk.Bn
end
section
namespace Go.Gk.Bn
open Go Go.Gk Go.Gk.Sh
theorem ni (a:L8) (ha:a.length<=4611686018427387904):F.Ud a=some (am (val a)):=by
 unfold F.Ud
 obtain⟨n,hn,k,hl⟩:=tO (f:=F.acn a) a (fun j=>grd (0<=(j:Int)/\(j:Int).toNat<=a.length) <| some (a.take ((j:Int).toNat))) ha (fun n hn=>by
  unfold F.acn F.acY
  by_cases h0:n=0
  ·subst h0
   rw[ae (by simp),ae (by simp)]
   rfl
  ·have z:wI ((n:Int) - 1)=((n - 1:Nat):Int):=by rw[ay q10 q10]; omega
   rw[af (ah q10),z,aG (show n - 1<a.length by omega) 0,aa]
   by_cases hz:a.getD (n - 1) 0=0
   ·rw[af (show n≠0/\a.getD (n - 1) 0=0 from⟨h0,hz⟩),af (show (a.getD (n - 1) 0 == 0)=true from by rw[hz]; rfl)]; rfl
   ·rw[ae (show ¬(n≠0/\a.getD (n - 1) 0=0) from fun h=>hz h.2),ae (show ¬(a.getD (n - 1) 0 == 0)=true from fun h=>hz (eq_of_beq h))])
 rw[hl,grd_true _ ⟨by omega,by rw[ao]; exact hn⟩,ao,k]
theorem pm (x:UInt64):F.Vb x=some (am x.toNat):=by
 unfold F.Vb
 rw[ni _ (by simp),aa,il,il,jX,cb,bb,Gj,<-rv,<-ql]
theorem sk {x:L8} {n i:Nat} (hx:x.length<=n) (h:i<n):∃u,au (pad x n) (i:Int)=some u:=⟨_,aG (by rw[nU hx]; exact h) 0⟩
def pc (a b:L8) (x:L8×UInt64) (i:Nat):L8×UInt64:=
 (x.1++[(x.2+(a.getD i 0).toUInt64+(b.getD i 0).toUInt64).toUInt32],bH (x.2+(a.getD i 0).toUInt64+(b.getD i 0).toUInt64) 32)
theorem se {a b:L8} {x:L8×UInt64} {i:Nat} (j:x.1.length=i) (z:val x.1+4294967296^i*x.2.toNat=val (a.take i)+val (b.take i)) (A:x.2.toNat<=1) :
  (pc a b x i).1.length=i+1/\val (pc a b x i).1+4294967296^(i+1)*(pc a b x i).2.toNat=val (a.take (i+1))+val (b.take (i+1))/\(pc a b x i).2.toNat<=1:=by
 have ha:=eF (a.getD i 0); have hb:=eF (b.getD i 0)
 obtain⟨s,hs⟩:∃s,x.2+(a.getD i 0).toUInt64+(b.getD i 0).toUInt64=s:=⟨_,rfl⟩
 have k:s.toNat=x.2.toNat+(a.getD i 0).toNat+(b.getD i 0).toNat:=by
  rw[<-hs,mQ _ _ (by rw[mQ _ _ (by rw[dD]; omega),dD,dD]; omega),mQ _ _ (by rw[dD]; omega),dD,dD]
 unfold pc
 rw[hs]
 refine⟨by simp[j],?_,by simp only[rv]; omega⟩
 have e:=ql s
 simp only
 rw[kR,j,cH,cH,aU,aD]
 have:4294967296^i*s.toNat=4294967296^i*s.toUInt32.toNat+4294967296^i*(4294967296*(bH s 32).toNat):=by rw[<-aF,<-e]
 rw[k,aF,aF]at this
 omega
theorem Lf (a b:L8) (A:b.length<=a.length) (ha:a.length<=70368744177663):loop (F.X9 a b) (0,0,pad [] (a.length+1))=some (am (val a+val b)):=by
 have e:=dC (f:=F.X9 a b) (fun (x:L8×UInt64) i=>(x.2,(i:Int),pad x.1 (a.length+1)))
  (fun i x=>x.1.length=i/\val x.1+4294967296^i*x.2.toNat=val (a.take i)+val (b.take i)/\x.2.toNat<=1) (pc a b) 0 a.length
  (X:=fun x=>F.Ud ((pad x.1 (a.length+1)).set a.length x.2.toUInt32))
  (fun i x _ hi hx=>by
   obtain⟨j,k,z⟩:=hx
   refine⟨?_,se j k z⟩
   have G:wI ((i:Int)+1)=((i+1:Nat):Int):=by rw[ay q10 q10]; rfl
   obtain⟨u,hu⟩:=sk (x:=x.1) (n:=a.length+1) (i:=i) q10 q10
   have B:∀s:UInt64,s=x.2+(a.getD i 0).toUInt64+(b.getD i 0).toUInt64->F.ZW (i:Int) (pad x.1 (a.length+1)) s=some (.inl ((pc a b x i).2,((i+1:Nat):Int),pad (pc a b x i).1 (a.length+1))):=by
    rintro s rfl
    unfold F.ZW
    dsimp only
    rw[hu,aa,aS,G,ao]
    have:=ux (x:=x.1) (n:=a.length+1) q10 (x.2+(a.getD i 0).toUInt64+(b.getD i 0).toUInt64).toUInt32
    rw[j]at this
    rw[this]; rfl
   unfold F.X9
   dsimp only
   rw[af (ah q10),aG hi 0,aa]
   by_cases hb:i<b.length
   ·rw[af (ah q10),aG hb 0,aa,aS,B _ rfl]
   ·rw[ae (by simp only[aj]; omega),B _ (by rw[iW (a:=b) (i:=i) q10]; exact (UInt64.add_zero _).symm)])
  (fun x hx=>by
   obtain⟨u,hu⟩:=sk (x:=x.1) (n:=a.length+1) (i:=a.length) q10 q10
   unfold F.X9
   dsimp only
   rw[ae (by simp),hu,aa,aS,ao]
   cases F.Ud ((pad x.1 (a.length+1)).set a.length x.2.toUInt32) <;> rfl)
  a.length 0 ([],0) (aq _) q10 ⟨rfl,by simp[val],by simp⟩
 refine e.trans ?_
 obtain⟨j,k,z⟩:=eO (fun i (x:L8×UInt64)=>x.1.length=i/\val x.1+4294967296^i*x.2.toNat=val (a.take i)+val (b.take i)/\x.2.toNat<=1) (pc a b)
  (fun i x hx=>se hx.1 hx.2.1 hx.2.2) a.length 0 ([],0) ⟨rfl,by simp[val],by simp⟩
 obtain⟨y,hy⟩:∃y,(List.range' 0 a.length).foldl (pc a b) ([],0)=y:=⟨_,rfl⟩
 rw[hy]at j k z ⊢
 rw[bn]at j k
 rw[cJ,aC A]at k
 have hp:=ux (x:=y.1) (n:=a.length+1) q10 y.2.toUInt32
 rw[j]at hp
 rw[hp,ni _ (by rw[nU (by simp; omega)]; omega),rI,kR,j,kh,av q10,k]
theorem xq (a b:L8) (ha:a.length<=70368744177663) (hb:b.length<=70368744177663):F.Wv a b=some (am (val a+val b)):=by
 have j:∀a b:L8,b.length<=a.length->a.length<=70368744177663->F.Z3 (a,b)=some (am (val a+val b)):=by
  intro a b k z
  unfold F.Z3
  dsimp only
  rw[ay q10 q10,fU q10,aa]
  have:(((a.length:Int)+1).toNat)=a.length+1:=by omega
  rw[this,<-y9,Lf a b k z]
 unfold F.Wv
 by_cases h:a.length<b.length
 ·rw[af (ah q10),j b a q10 hb,bW]
 ·rw[ae (by simp only[aj]; omega),j a b q10 ha]
theorem K0 (u v:UInt32) (c:UInt64) (hc:c.toNat<=1):((u.toUInt64 - c) - v.toUInt64).toUInt32.toNat+c.toNat+v.toNat=u.toNat+4294967296*(bH ((u.toUInt64 - c) - v.toUInt64) 63).toNat/\(bH ((u.toUInt64 - c) - v.toUInt64) 63).toNat<=1:=by
 have hu:=eF u; have j:=eF v
 rw[kh,Mj,fO,fO,dD,dD]
 omega
def oA (a b:L8) (x:L8×UInt64) (i:Nat):L8×UInt64:=
 (x.1++[((a.getD i 0).toUInt64 - x.2 - (b.getD i 0).toUInt64).toUInt32],bH ((a.getD i 0).toUInt64 - x.2 - (b.getD i 0).toUInt64) 63)
theorem Cp {a b:L8} {x:L8×UInt64} {i:Nat} (j:x.1.length=i) (B:val x.1+val (b.take i)=val (a.take i)+4294967296^i*x.2.toNat) (A:x.2.toNat<=1) :
  (oA a b x i).1.length=i+1/\val (oA a b x i).1+val (b.take (i+1))=val (a.take (i+1))+4294967296^(i+1)*(oA a b x i).2.toNat/\(oA a b x i).2.toNat<=1:=by
 obtain⟨k,z⟩:=K0 (a.getD i 0) (b.getD i 0) x.2 A
 unfold oA
 obtain⟨s,hs⟩:∃s,(a.getD i 0).toUInt64 - x.2 - (b.getD i 0).toUInt64=s:=⟨_,rfl⟩
 rw[hs]at k z ⊢
 refine⟨by simp[j],?_,z⟩
 simp only
 rw[kR,j,cH,cH,aU,aD]
 have:4294967296^i*(s.toUInt32.toNat+x.2.toNat+(b.getD i 0).toNat)=4294967296^i*((a.getD i 0).toNat+4294967296*(bH s 63).toNat):=by rw[k]
 rw[aF,aF,aF]at this
 omega
theorem DP (a b:L8) (A:b.length<=a.length) (J:val b<=val a) (ha:a.length<=70368744177664):F.Ws a b=some (am (val a - val b)):=by
 unfold F.Ws
 rw[fU q10,aa,ao,<-y9]
 have e:=dC (f:=F.abQ a b) (fun (x:L8×UInt64) i=>(x.2,(i:Int),pad x.1 a.length))
  (fun i x=>x.1.length=i/\val x.1+val (b.take i)=val (a.take i)+4294967296^i*x.2.toNat/\x.2.toNat<=1) (oA a b) 0 a.length
  (X:=fun x=>F.Ud (pad x.1 a.length))
  (fun i x _ hi hx=>by
   obtain⟨k,j,z⟩:=hx
   refine⟨?_,Cp k j z⟩
   have I:wI ((i:Int)+1)=((i+1:Nat):Int):=by rw[ay q10 q10]; rfl
   obtain⟨u,hu⟩:=sk (x:=x.1) (n:=a.length) (i:=i) q10 q10
   have B:∀s:UInt64,s=(a.getD i 0).toUInt64 - x.2 - (b.getD i 0).toUInt64->F.Zy (i:Int) (pad x.1 a.length) s=some (.inl ((oA a b x i).2,((i+1:Nat):Int),pad (oA a b x i).1 a.length)):=by
    rintro s rfl
    unfold F.Zy
    dsimp only
    rw[hu,aa,aS,I,ao]
    have:=ux (x:=x.1) (n:=a.length) q10 ((a.getD i 0).toUInt64 - x.2 - (b.getD i 0).toUInt64).toUInt32
    rw[k]at this
    rw[this]; rfl
   unfold F.abQ
   dsimp only
   rw[af (ah q10),aG hi 0,aa]
   by_cases hb:i<b.length
   ·rw[af (ah q10),aG hb 0,aa,aS,B _ rfl]
   ·rw[ae (by simp only[aj]; omega),B _ (by rw[iW (a:=b) (i:=i) q10]; exact (UInt64.sub_zero _).symm)])
  (fun x hx=>by
   unfold F.abQ
   dsimp only
   rw[ae (by simp)]
   cases F.Ud (pad x.1 a.length) <;> rfl)
  a.length 0 ([],0) (aq _) q10 ⟨rfl,by simp[val],by simp⟩
 refine e.trans ?_
 obtain⟨k,j,z⟩:=eO (fun i (x:L8×UInt64)=>x.1.length=i/\val x.1+val (b.take i)=val (a.take i)+4294967296^i*x.2.toNat/\x.2.toNat<=1) (oA a b)
  (fun i x hx=>Cp hx.1 hx.2.1 hx.2.2) a.length 0 ([],0) ⟨rfl,by simp[val],by simp⟩
 obtain⟨y,hy⟩:∃y,(List.range' 0 a.length).foldl (oA a b) ([],0)=y:=⟨_,rfl⟩
 rw[hy]at k j z ⊢
 rw[bn]at k j
 rw[cJ,aC A]at j
 have G:=bN y.1
 rw[k]at G
 have hc:y.2.toNat=0:=by
  rcases bR y.2.toNat with h | h
  ·exact h
  ·have:y.2.toNat=1:=by omega
   rw[this,de]at j
   omega
 rw[hc,cb,bb]at j
 rw[ni _ (by rw[nU q10]; omega),rI,show val y.1=val a - val b by omega]
theorem IU (a b:UInt32):a.toNat*b.toNat<=4294967295*4294967295:=en (oE a) (oE b)
theorem KY (c:UInt64) (u v r:UInt32) (hc:c.toNat<=4294967295):(c+(u.toUInt64*v.toUInt64+r.toUInt64)).toNat=c.toNat+(u.toNat*v.toNat+r.toNat):=by
 have z:=IU u v; have A:=oE r
 have j:(u.toUInt64*v.toUInt64).toNat=u.toNat*v.toNat:=by rw[uy _ _ (by rw[dD,dD]; omega),dD,dD]
 have k:(u.toUInt64*v.toUInt64+r.toUInt64).toNat=u.toNat*v.toNat+r.toNat:=by rw[mQ _ _ (by rw[j,dD]; omega),j,dD]
 rw[mQ _ _ (by rw[k]; omega),k]
theorem ik {l:L8} {i k:Nat} {x:UInt32} (h:i≠k):(l.set i x).getD k 0=l.getD k 0:=by
 rw[ak,iU h,ak]
def ud (u:UInt32) (b:L8) (i:Nat) (x:UInt64×L8) (j:Nat):UInt64×L8:=
 (bH (x.1+(u.toUInt64*(b.getD j 0).toUInt64+(x.2.getD (i+j) 0).toUInt64)) 32,x.2.set (i+j) (x.1+(u.toUInt64*(b.getD j 0).toUInt64+(x.2.getD (i+j) 0).toUInt64)).toUInt32)
def tq (u:UInt32) (b:L8) (i N:Nat) (r0:L8) (j:Nat) (x:UInt64×L8):Prop:=
 x.2.length=N/\(∀k,i+b.length<=k->x.2.getD k 0=0)/\val x.2+4294967296^(i+j)*x.1.toNat=val r0+4294967296^i*(u.toNat*val (b.take j))/\x.1.toNat<=4294967295
theorem sf {u:UInt32} {b:L8} {i N:Nat} {z:L8} {j:Nat} {x:UInt64×L8} (U:i+b.length<N) (V:j<b.length) (h:tq u b i N z j x):tq u b i N z (j+1) (ud u b i x j):=by
 obtain⟨B,G,X,I⟩:=h
 have e:=KY x.1 u (b.getD j 0) (x.2.getD (i+j) 0) I
 unfold ud
 obtain⟨s,hs⟩:∃s,x.1+(u.toUInt64*(b.getD j 0).toUInt64+(x.2.getD (i+j) 0).toUInt64)=s:=⟨_,rfl⟩
 rw[hs]at e ⊢
 have A:=ql s
 have hb:=IU u (b.getD j 0); have Y:=oE (x.2.getD (i+j) 0)
 refine⟨by simpa using B,fun k J=>?_,?_,by simp only[rv]; omega⟩
 ·simp only
  rw[ik q10]; exact G k J
 ·simp only
  have Z:=gI x.2 (i+j) s.toUInt32 q10
  rw[cH,aF,aF]
  have O:4294967296^i*(u.toNat*(4294967296^j*(b.getD j 0).toNat))=4294967296^(i+j)*(u.toNat*(b.getD j 0).toNat):=by
   rw[bu,aD,dO u.toNat]
  have R:4294967296^(i+j)*s.toNat=4294967296^(i+j)*s.toUInt32.toNat+4294967296^(i+(j+1))*(bH s 32).toNat:=by
   rw[<-dW,aU,aD,<-aF,<-A]
  rw[e,aF,aF]at R
  rw[O]
  omega
theorem I9 (a b:L8) (i:Nat) (r:L8) (hi:i<a.length) (hl:r.length=a.length+b.length) (hz:∀k,i+b.length<=k->r.getD k 0=0) (hs:a.length+b.length<=70368744177664) :
  ∃z,loop (F.Xz a b (i:Int)) (0,0,r)=some (.inl (((i+1:Nat):Int),z))/\z.length=a.length+b.length/\(∀k,i+1+b.length<=k->z.getD k 0=0)/\val z=val r+4294967296^i*((a.getD i 0).toNat*val b):=by
 have U:tq (a.getD i 0) b i (a.length+b.length) r 0 (0,r):=⟨hl,hz,by simp[val],by simp⟩
 have e:=dC (f:=F.Xz a b (i:Int)) (fun (x:UInt64×L8) j=>(x.1,(j:Int),x.2)) (fun j x=>j<=b.length->tq (a.getD i 0) b i (a.length+b.length) r j x) (ud (a.getD i 0) b i) 0 b.length
  (X:=fun x=>some (.inl (((i+1:Nat):Int),x.2.set (i+b.length) x.1.toUInt32)))
  (fun j x _ G hx=>by
   have hx:=hx q10
   refine⟨?_,fun _=>sf q10 G hx⟩
   obtain⟨I,A,B,V⟩:=hx
   have J:wI ((i:Int)+(j:Int))=((i+j:Nat):Int):=by rw[ay q10 q10]; rfl
   have N:wI ((j:Int)+1)=((j+1:Nat):Int):=by rw[ay q10 q10]; rfl
   unfold F.Xz
   dsimp only
   rw[af (ah q10),aG hi 0,aa,aG G 0,aa,J,aG (show i+j<x.2.length by omega) 0,aa,aS,aa,aS,ao,N]
   rfl)
  (fun x hx=>by
   obtain⟨I,A,B,V⟩:=hx (aq _)
   have J:wI ((i:Int)+(b.length:Int))=((i+b.length:Nat):Int):=by rw[ay q10 q10]; rfl
   have N:wI ((i:Int)+1)=((i+1:Nat):Int):=by rw[ay q10 q10]; rfl
   unfold F.Xz
   dsimp only
   rw[ae (by simp),J,aG (show i+b.length<x.2.length by omega) 0,aa,aS,ao,N]
   rfl)
  b.length 0 (0,r) (aq _) q10 (fun _=>U)
 have O:=eO (fun j (x:UInt64×L8)=>j<=b.length->tq (a.getD i 0) b i (a.length+b.length) r j x) (ud (a.getD i 0) b i) (fun j x hx=>fun G=>sf q10 q10 (hx q10)) b.length 0 (0,r) (fun _=>U)
 obtain⟨y,hy⟩:∃y,(List.range' 0 b.length).foldl (ud (a.getD i 0) b i) (0,r)=y:=⟨_,rfl⟩
 rw[hy]at O e
 rw[bn]at O
 obtain⟨I,A,B,V⟩:=O (aq _)
 refine⟨_,e,by simpa using I,fun k Y=>?_,?_⟩
 ·rw[ik q10]; exact A k q10
 ·have R:=gI y.2 (i+b.length) y.1.toUInt32 q10
  rw[A _ (aq _)]at R
  have:(0:UInt32).toNat=0:=rfl
  rw[this,cb,bb]at R
  rw[cJ]at B
  rw[R,kh,av q10,B]
theorem KB (a b:L8) (hs:a.length+b.length<=70368744177664):F.Yf a b=some (am (val a*val b)):=by
 unfold F.Yf
 have j:F.Yc a b true=some []:=by unfold F.Yc; rw[af rfl]
 by_cases ha:a.length=0
 ·rw[af (by simp[ha]),j,bA ha,jX,eW,cu]
 ·rw[ae (by simpa using fun h=>ha (by rw[h]; rfl))]
  by_cases hb:b.length=0
  ·rw[show ((b.length:Int) == 0)=true by simp[hb],j,bA hb,jX,cb,cu]
  ·rw[show ((b.length:Int) == 0)=false by simpa using fun h=>hb (by rw[h]; rfl)]
   unfold F.Yc
   rw[ae q11,ay q10 q10,fU q10,aa,show ((a.length:Int)+(b.length:Int)).toNat=a.length+b.length by omega]
   have A:∀(k i:Nat) (r:L8),i+k=a.length->r.length=a.length+b.length->(∀k,i+b.length<=k->r.getD k 0=0)->val r=val (a.take i)*val b->loop (F.XA a b) ((i:Int),r)=some (am (val a*val b)):=by
    intro k
    induction k with
    | zero=>
     intro i r h B G z
     have:i=a.length:=by omega
     subst this
     refine eL ?_
     unfold F.XA
     dsimp only
     rw[ae (by simp),ni _ q10,aa,z,cJ]; rfl
    | succ k ih=>
     intro i r h B G z
     obtain⟨I,N,O,R,U⟩:=I9 a b i r q10 B G hs
     have J:F.XA a b ((i:Int),r)=some (.inl (((i+1:Nat):Int),I)):=by
      unfold F.XA
      dsimp only
      rw[af (ah q10),N]
     rw[bv J]
     refine ih (i+1) I q10 O (fun k V=>R k q10) ?_
     rw[U,z,cH,bd,aD]
   exact A a.length 0 _ q10 (by simp) (fun k _=>by
    rw[ak,et]; split <;> rfl) (by rw[eh]; simp[val])
def cW (a b:Nat):Int:=if a<b then -1 else if a=b then 0 else 1
theorem qP (a:L8) (k:Nat) (h:k<a.length):val a=val (a.take k)+4294967296^k*((a.getD k 0).toNat+4294967296*val (a.drop (k+1))):=by
 rw[fS a k q10,bZ h,il]
 congr 4
 rw[ak,aw h]; rfl
theorem zU {a b:L8} {k:Nat} (ha:k<a.length) (hb:k<b.length) (hd:a.drop (k+1)=b.drop (k+1)) (A:(a.getD k 0).toNat<(b.getD k 0).toNat):val a<val b:=by
 rw[qP a k ha,qP b k hb,hd]
 have j:=bN (a.take k)
 rw[az,aT q10]at j
 have z:4294967296^k*((a.getD k 0).toNat+4294967296*val (b.drop (k+1))+1)<=4294967296^k*((b.getD k 0).toNat+4294967296*val (b.drop (k+1))):=bf _ q10
 rw[aF,de]at z
 omega
theorem wC (a b:L8) (ha:Can a) (hb:Can b) (hl:a.length<=4611686018427387904) (J:b.length<=4611686018427387904):F.V1 a b=some (cW (val a) (val b)):=by
 unfold F.V1 cW
 by_cases h:a.length=b.length
 ·rw[ae (by simp[h]),aS]
  have z:∀k,k<=a.length->a.drop k=b.drop k->loop (F.WP a b) ((k:Int) - 1)=some (if val a<val b then -1 else if val a=val b then 0 else 1):=by
   intro k
   induction k with
   | zero=>
    intro _ hd
    have:a=b:=by simpa using hd
    subst this
    rw[ae q10,af rfl]
    exact eL rfl
   | succ k ih=>
    intro N hd
    have j:k<b.length:=by omega
    have B:(((k+1:Nat):Int)) - 1=(k:Int):=by omega
    have G:wI ((k:Int) - 1)=(k:Int) - 1:=ay q10 q10
    rw[B]
    by_cases he:a.getD k 0=b.getD k 0
    ·have hs:F.WP a b (k:Int)=some (.inl ((k:Int) - 1)):=by
      unfold F.WP
      rw[af (ah q10),aG (show k<a.length by omega) 0,aa,aG j 0,aa,ae (by simp only[he,gM]; simp),G]; rfl
     rw[bv hs]
     refine ih q10 ?_
     rw[bZ (show k<a.length by omega),bZ j,hd]
     congr 1
     rw[ak,ak,aw (show k<a.length by omega),aw j]at he
     exact he
    ·have hs:F.WP a b (k:Int)=if decide (a.getD k 0<b.getD k 0)=true then some (.inr (-1)) else some (.inr 1):=by
      unfold F.WP
      rw[af (ah q10),aG (show k<a.length by omega) 0,aa,aG j 0,aa,af (by simpa using he),aa,aa]
      split <;> rfl
     by_cases hlt:a.getD k 0<b.getD k 0
     ·rw[af (ah hlt)]at hs
      rw[eL hs,af (zU q10 j hd (dn.1 hlt))]
     ·rw[ae (by simpa using hlt)]at hs
      have A:(b.getD k 0).toNat<(a.getD k 0).toNat:=by
       have O:¬(a.getD k 0).toNat<(b.getD k 0).toNat:=fun h=>hlt (dn.2 h)
       have I:(a.getD k 0).toNat≠(b.getD k 0).toNat:=fun h=>he (cz.1 h)
       omega
      have:=zU j (show k<a.length by omega) hd.symm A
      rw[eL hs,ae q10,ae q10]
  have w0:wI ((a.length:Int) - 1)=(a.length:Int) - 1:=ay q10 q10
  rw[w0]
  exact z a.length (aq _) (by rw[jb,bp q10])
 ·rw[af (by simpa using fun I=>h q10)]
  by_cases hlt:a.length<b.length
  ·rw[af (ah q10),af (uU hb hlt)]
  ·have:=uU ha (show b.length<a.length by omega)
   rw[ae (by simp only[aj]; omega),ae q10,ae q10]
theorem Df (x:UInt64) (y:UInt32) (hx:x.toNat<=4294967295):((di x 32) ||| y.toUInt64).toNat=4294967296*x.toNat+y.toNat:=by
 have hy:=eF y
 have j:(di x 32).toNat=x.toNat*4294967296:=by
  rw[mA,show min 32 64=32 from rfl,av q10]
 rw[UInt64.toNat_or,j,dD,qD 32 q10 hy]
 omega
theorem wY (x:UInt32) (y:UInt32):(x.toUInt64 ||| (di y.toUInt64 32)).toNat=x.toNat+4294967296*y.toNat:=by
 have hx:=eF x; have hy:=eF y
 rw[UInt64.or_comm,Df _ _ (by rw[dD]; omega),dD]; omega
theorem CA (a:L8) (h:a.length<=2):∃x,F.Xf a=some x/\x.toNat=val a:=by
 unfold F.Xf
 match a,h with
 | [],_=>exact⟨0,rfl,rfl⟩
 | [u],_=>exact⟨u.toUInt64,rfl,by rw[dD]; simp[val]⟩
 | [u,v],_=>exact⟨u.toUInt64 ||| (di v.toUInt64 32),rfl,by rw[wY]; simp[val]⟩
theorem L1 (a:L8) (d:UInt32) (hd:d≠0) (hl:a.length<=70368744177664):∃r,F.aaA a d=some (am (val a / d.toNat),r)/\r.toNat=val a%d.toNat:=by
 have j:0<d.toNat:=by
  rcases bR d.toNat with h | h
  ·exact absurd (cz.1 h) hd
  ·exact h
 have ac:=eF d
 have A:¬d.toUInt64=0:=by
  intro h
  have:=cD UInt64.toNat h
  rw[dD]at this
  simp at this
  omega
 have I:∀(k:Nat) (q:L8) (r:UInt64),k<=a.length->q.length=a.length->r.toNat<d.toNat->val (a.drop k)=d.toNat*val (q.drop k)+r.toNat ->
   ∃J,loop (F.Yv a d) (r,(k:Int) - 1,q)=some (am (val a / d.toNat),J)/\J.toNat=val a%d.toNat:=by
  intro k
  induction k with
  | zero=>
   intro q r _ N G z
   refine⟨r.toUInt32,eL ?_,?_⟩
   ·unfold F.Yv
    dsimp only
    rw[ae q11,ni _ q10,aa]
    simp only[cR]at z
    have:val q=val a / d.toNat:=by
     rw[z,bW,gK _ _ j,bE G,bn]
    rw[this]; rfl
   ·simp only[cR]at z
    rw[kh,av q10,z,Nat.mul_add_mod,av G]
  | succ k ih=>
   intro q r hk N G z
   have Z:(((k+1:Nat):Int)) - 1=(k:Int):=by omega
   have w1:wI ((k:Int) - 1)=(k:Int) - 1:=ay q10 q10
   have O:r.toNat<=4294967295:=by omega
   obtain⟨x,hx⟩:∃x,(di r 32) ||| (a.getD k 0).toUInt64=x:=⟨_,rfl⟩
   have R:x.toNat=4294967296*r.toNat+(a.getD k 0).toNat:=by rw[<-hx,Df _ _ O]
   have U:(x / d.toUInt64).toNat=x.toNat / d.toNat:=by rw[gr,dD]
   have B:(x%d.toUInt64).toNat=x.toNat%d.toNat:=by rw[dM,dD]
   have ad:=eF (a.getD k 0)
   have V:x.toNat / d.toNat<4294967296:=by
    rw[fK j,R]
    have:=bf 4294967296 (show r.toNat+1<=d.toNat by omega)
    omega
   have hs:F.Yv a d (r,(k:Int),q)=some (.inl (x%d.toUInt64,(k:Int) - 1,q.set k (x / d.toUInt64).toUInt32)):=by
    unfold F.Yv
    dsimp only
    rw[af (ah q10),aG (show k<a.length by omega) 0,aa,hx,aS,grd_true _ A,aG (show k<q.length by omega) 0,aa,aS,grd_true _ A,w1]; rfl
   rw[Z,bv hs]
   refine ih _ _ q10 (by simpa using N) (by rw[B]; exact ba _ j) ?_
   have X:a.drop k=a.getD k 0 :: a.drop (k+1):=by
    rw[bZ (show k<a.length by omega)]
    congr 1
    rw[ak,aw (show k<a.length by omega)]; rfl
   have Y:(q.set k (x / d.toUInt64).toUInt32).drop k=(x / d.toUInt64).toUInt32 :: q.drop (k+1):=by
    rw[bZ (by simp; omega)]
    congr 1
    ·simp
    ·rw[List.drop_set_of_lt q10]
   rw[X,Y,il,il,z,kh,U,B,av V]
   have:=cQ x.toNat d.toNat
   rw[aF,aF,dO d.toNat 4294967296]
   omega
 unfold F.aaA
 have w0:wI ((a.length:Int) - 1)=(a.length:Int) - 1:=ay q10 q10
 rw[fU q10,aa,aS,w0]
 refine I a.length _ 0 (aq _) (by simp) (by simpa using j) ?_
 rw[jb,bp (by simp)]
 simp[val]
def nb (n:Nat):Nat:=if h:n=0 then 0 else nb (n / 2)+1
termination_by n
decreasing_by exact kn (eu h) (show 1<2 by decide)
theorem lU:nb 0=0:=by rw[nb]; simp
theorem up {n:Nat} (h:n≠0):nb n=nb (n / 2)+1:=by rw[nb]; simp[h]
theorem fi (n:Nat):n<2^nb n/\(n≠0->2^(nb n - 1)<=n/\1<=nb n):=by
 induction n using Nat.strongRecOn with
 | ind n ih=>
  by_cases h:n=0
  ·subst h; rw[lU]; simp
  ·obtain⟨k,j⟩:=ih (n / 2) (kn (eu h) q11)
   rw[up h]
   refine⟨by rw[aU]; omega,fun _=>⟨?_,by omega⟩⟩
   rw[fa]
   by_cases h3:n / 2=0
   ·rw[h3,lU]; omega
   ·obtain⟨z,A⟩:=j h3
    have:2^nb (n / 2)=2^(nb (n / 2) - 1)*2:=by rw[<-aU]; congr 1; omega
    omega
theorem mE {n k:Nat} (h:n<2^k):nb n<=k:=by
 by_cases h0:n=0
 ·subst h0; rw[lU]; omega
 ·obtain⟨z,A⟩:=(fi n).2 h0
  rcases cI k (nb n) with j | j
  ·have:=aE (show 0<2 by decide) (show k<=nb n - 1 by omega)
   omega
  ·exact j
theorem GF (x:UInt32):nb x.toNat<=32:=mE (eF x)
theorem Ty (x:UInt32):(cq x 1).toNat=x.toNat / 2:=by rw[lP]; rfl
theorem Ez (a:L8) (A:a.length≠0) (ha:a.length<=1000000000000000):∀(m:Nat) (t:UInt32) (n:Nat),nb t.toNat=m->n+m<=32->loop (F.XG a) ((n:Int),t)=some (((32*(a.length - 1)+n+m:Nat):Int)):=by
 intro m
 induction m with
 | zero=>
  intro t n h hn
  have j:t.toNat=0:=by
   rcases bR t.toNat with j | j
   ·exact j
   ·rw[up q10]at h; omega
  have:t=0:=cz.1 j
  subst this
  refine eL ?_
  unfold F.XG
  dsimp only
  rw[ae q11,ay (x:=(a.length:Int) - 1) q10 q10,ay (x:=((a.length:Int) - 1)*32) q10 q10,ay q10 q10]
  show some _=_
  congr 2
  omega
 | succ m ih=>
  intro t n h hn
  have j:t.toNat≠0:=by intro j; rw[j,lU]at h; omega
  have k:t≠0:=fun z=>j (by rw[z]; rfl)
  rw[up j]at h
  have hs:F.XG a ((n:Int),t)=some (.inl (((n+1:Nat):Int),cq t 1)):=by
   unfold F.XG
   dsimp only
   rw[af (by simpa using k),ay q10 q10]; rfl
  rw[bv hs,ih (cq t 1) (n+1) (by rw[Ty]; omega) q10]
  congr 2; omega
def oR (a:L8):Nat:=if a.length=0 then 0 else 32*(a.length - 1)+nb (a.getD (a.length - 1) 0).toNat
theorem length_eq (a:L8) (ha:a.length<=1000000000000000):F.WT a=some ((oR a:Nat):Int):=by
 unfold F.WT oR
 by_cases h0:a.length=0
 ·rw[af (by simp[h0]),af h0]; rfl
 ·have j:wI ((a.length:Int) - 1)=((a.length - 1:Nat):Int):=by rw[ay q10 q10]; omega
  rw[ae (by simpa using fun h=>h0 (by rw[h]; rfl)),j,aG (show a.length - 1<a.length by omega) 0,aa]
  have:=Ez a h0 ha _ (a.getD (a.length - 1) 0) 0 rfl (by have:=GF (a.getD (a.length - 1) 0); omega)
  rw[ae h0]
  rw[bb]at this
  exact this
theorem Lt (x:UInt32) (s:Nat) (hs:s<32):(di x.toUInt64 s).toNat=x.toNat*2^s:=by
 have hx:=eF x
 rw[mA,dD,aT q10,av]
 have j:2^s<=2^31:=aE q11 q10
 have k:x.toNat*2^s<=4294967295*2^31:=en q10 j
 have z:(2:Nat)^31=2147483648:=rfl
 omega
theorem P4 {p q:UInt32} (s:Nat) (j:q.toNat%2^s=0) (hp:p.toNat<2^s):(p ||| q).toNat=p.toNat+q.toNat:=by
 rw[ji,Nat.or_comm,qD s j hp,bW]
theorem pI {s:Nat} (hs:s<32):2^s*2^(32 - s)=4294967296:=by
 rw[<-bu,show s+(32 - s)=32 by omega]
def q7 (a:L8) (s w:Nat) (r:L8) (i:Nat):L8:=
 (r.set (i+w) (r.getD (i+w) 0 ||| (di (a.getD i 0).toUInt64 s).toUInt32)).set (i+w+1) ((r.set (i+w) (r.getD (i+w) 0 ||| (di (a.getD i 0).toUInt64 s).toUInt32)).getD (i+w+1) 0 ||| (bH (di (a.getD i 0).toUInt64 s) 32).toUInt32)
theorem yr (a:L8) (n:UInt64) (hn:n.toNat<=1000000000000) (ha:a.length+n.toNat / 32+1<=70368744177664):F.WV a n=some (am (val a*2^n.toNat)):=by
 unfold F.WV
 by_cases h0:a.length=0
 ·rw[af (by simp[h0]),bA h0,jX,eW,cu]
 ·obtain⟨w,hw⟩:∃w,n.toNat / 32=w:=⟨_,rfl⟩
  obtain⟨s,hs⟩:∃s,n.toNat%32=s:=⟨_,rfl⟩
  have A:s<32:=by omega
  have e1:(n / 32).toNat=w:=by rw[gr,<-hw]; rfl
  have e2:(n%32).toNat=s:=by rw[dM,<-hs]; rfl
  have Z:2^n.toNat=4294967296^w*2^s:=by
   rw[show (4294967296:Nat)=2^32 from rfl,<-bB,<-bu]
   congr 1; omega
  rw[ae (by simpa using fun h=>h0 (by rw[h]; rfl)),e1,aS,ay (x:=(w:Int)) q10 q10,ay (x:=(a.length:Int)+(w:Int)) q10 q10,ay q10 q10,fU q10,aa,
   show ((a.length:Int)+(w:Int)+1).toNat=a.length+w+1 by omega]
  have J:=pI A
  have ab:1<=2^s:=Nat.one_le_two_pow
  -- what holds behind i words
  have step:∀(i:Nat) (r:L8),i<a.length->(r.length=a.length+w+1/\(∀k,i+w<k->r.getD k 0=0)/\(r.getD (i+w) 0).toNat<2^s/\val r=4294967296^w*(val (a.take i)*2^s)) ->
    ((q7 a s w r i).length=a.length+w+1/\(∀k,i+1+w<k->(q7 a s w r i).getD k 0=0)/\((q7 a s w r i).getD (i+1+w) 0).toNat<2^s/\val (q7 a s w r i)=4294967296^w*(val (a.take (i+1))*2^s)):=by
   rintro i r hi ⟨N,h2,h3,O⟩
   unfold q7
   obtain⟨v,hv⟩:∃v,di (a.getD i 0).toUInt64 s=v:=⟨_,rfl⟩
   have B:v.toNat=(a.getD i 0).toNat*2^s:=by rw[<-hv,Lt _ _ A]
   have ap:=eF (a.getD i 0)
   rw[hv]
   have ax:=ql v
   -- the low part is a multiple of 2^s,the high part is below it
   have G:v.toUInt32.toNat%2^s=0:=by
    rw[kh,B,<-J]
    rw[Nat.mod_mul_right_mod,Nat.mul_mod_left]
   have b9:v.toUInt32.toNat+2^s<=4294967296:=by
    have R:=eF v.toUInt32
    obtain⟨c,hc⟩:=ee G
    rw[hc]at R ⊢
    rw[<-J]at R ⊢
    have:=Nat.lt_of_mul_lt_mul_left R
    have:=bf (2^s) (show c+1<=2^(32 - s) by omega)
    rw[aF,de]at this
    exact this
   have bx:(bH v 32).toNat<2^s:=by
    rw[rv,B,fK q11,aP (2^s)]
    exact iA ap q10
   have b2:=P4 (p:=r.getD (i+w) 0) (q:=v.toUInt32) s G h3
   obtain⟨I,j⟩:∃I,r.set (i+w) (r.getD (i+w) 0 ||| v.toUInt32)=I:=⟨_,rfl⟩
   have U:I.length=a.length+w+1:=by rw[<-j]; simpa using N
   have hz:I.getD (i+w+1) 0=0:=by rw[<-j,ik q10]; exact h2 _ q10
   rw[j,hz,UInt32.zero_or]
   have v1:=gI r (i+w) (r.getD (i+w) 0 ||| v.toUInt32) q10
   rw[j,b2]at v1
   have V:=gI I (i+w+1) (bH v 32).toUInt32 q10
   rw[hz]at V
   have z0:(0:UInt32).toNat=0:=rfl
   rw[z0,cb,bb,Gj,<-rv]at V
   refine⟨by simpa using U,fun k hk=>?_,?_,?_⟩
   ·rw[ik q10,<-j,ik q10]; exact h2 k q10
   ·rw[show i+1+w=i+w+1 by omega,ak,dp q10]
    simp only[Option.getD_some,Gj,<-rv]
    exact bx
   ·rw[V,cH,bd,aF,<-O]
    have e3:4294967296^w*(4294967296^i*(a.getD i 0).toNat*2^s)=4294967296^(i+w)*v.toNat:=by
     rw[B,bW i w,bu,aD,aD]
    have e4:4294967296^(i+w)*v.toNat=4294967296^(i+w)*v.toUInt32.toNat+4294967296^(i+w+1)*(bH v 32).toNat:=by
     rw[aU,aD,<-aF,<-ax]
    rw[e3,e4]
    rw[aF]at v1
    omega
  have z:(List.replicate (a.length+w+1) (0:UInt32)).length=a.length+w+1/\(∀k,0+w<k->(List.replicate (a.length+w+1) (0:UInt32)).getD k 0=0)/\((List.replicate (a.length+w+1) (0:UInt32)).getD (0+w) 0).toNat<2^s /\
    val (List.replicate (a.length+w+1) 0)=4294967296^w*(val (a.take 0)*2^s):=by
   have hg:∀k,(List.replicate (a.length+w+1) (0:UInt32)).getD k 0=0:=fun k=>by
    rw[ak,et]; split <;> rfl
   exact⟨by simp,fun k _=>hg k,by rw[hg]; exact aO (show (0:UInt32).toNat<1 by decide) ab,by rw[eh]; simp[val]⟩
  have e:=dC (f:=F.Zt a n (w:Int)) (fun (x:L8) i=>((i:Int),x))
   (fun i r=>i<=a.length->(r.length=a.length+w+1/\(∀k,i+w<k->r.getD k 0=0)/\(r.getD (i+w) 0).toNat<2^s/\val r=4294967296^w*(val (a.take i)*2^s))) (q7 a s w) 0 a.length
   (X:=fun x=>F.Ud x)
   (fun i x _ hi hx=>by
    have hx:=hx q10
    refine⟨?_,fun _=>step i x hi hx⟩
    obtain⟨N,_⟩:=hx
    have w1:wI ((i:Int)+(w:Int))=((i+w:Nat):Int):=by rw[ay q10 q10]; rfl
    have w2:wI (((i+w:Nat):Int)+1)=((i+w+1:Nat):Int):=by rw[ay q10 q10]; rfl
    have w3:wI ((i:Int)+1)=((i+1:Nat):Int):=by rw[ay q10 q10]; rfl
    unfold F.Zt
    dsimp only
    rw[af (ah q10),aG hi 0,aa,aS,w1,w2,w3,e2,aG (show i+w<x.length by omega) 0,aa,aa,aS,ao,aG (show i+w+1<(x.set (i+w) (x.getD (i+w) 0 ||| (di (a.getD i 0).toUInt64 s).toUInt32)).length by simp; omega) 0,aa,aa,aS,ao]
    rfl)
   (fun x hx=>by
    unfold F.Zt
    dsimp only
    rw[ae (by simp)]
    cases F.Ud x <;> rfl)
   a.length 0 _ (aq _) q10 (fun _=>z)
  refine e.trans ?_
  have Y:=eO (fun i (r:L8)=>i<=a.length->(r.length=a.length+w+1/\(∀k,i+w<k->r.getD k 0=0)/\(r.getD (i+w) 0).toNat<2^s/\val r=4294967296^w*(val (a.take i)*2^s))) (q7 a s w)
   (fun i x hx=>fun hi=>step i x q10 (hx q10)) a.length 0 _ (fun _=>z)
  obtain⟨y,hy⟩:∃y,(List.range' 0 a.length).foldl (q7 a s w) (List.replicate (a.length+w+1) 0)=y:=⟨_,rfl⟩
  rw[hy]at Y ⊢
  rw[bn]at Y
  obtain⟨N,_,_,O⟩:=Y (aq _)
  rw[ni _ q10,O,cJ,Z,dO]
theorem d9 (a:L8) (i:Nat):val (a.drop i)=(a.getD i 0).toNat+4294967296*val (a.drop (i+1)):=by
 by_cases h:i<a.length
 ·rw[bZ h,il]
  congr 2
  rw[ak,aw h]; rfl
 ·rw[bp q10,bp q10,iW q10]; rfl
theorem lW (a:L8) (i:Nat):val a / 4294967296^i=val (a.drop i):=by
 by_cases h:i<=a.length
 ·have j:=bN (a.take i)
  rw[az,aT h]at j
  rw[fS a i h,bW,Nat.mul_add_div (dF q11),bE j,bb]
 ·have j:=bN a
  have k:=aE (show 0<4294967296 by decide) (show a.length<=i by omega)
  rw[bp q10,bE q10]; rfl
theorem Lq (a:L8) (n:UInt64) (hn:n.toNat<32) (ha:a.length<=70368744177664):F.abA a n=some (am (val a / 2^n.toNat)):=by
 unfold F.abA
 have N:(n / 32).toNat=0:=by rw[gr]; exact bE hn
 have A:(n%32).toNat=n.toNat:=by rw[dM]; exact av hn
 obtain⟨s,hs⟩:∃s,n.toNat=s:=⟨_,rfl⟩
 rw[hs]at A hn ⊢
 have w0:wI ((0:Nat):Int)=0:=rfl
 rw[N,aS,w0]
 by_cases h0:a.length=0
 ·rw[af (ah q10),bA h0,jX,kw,cu]
 ·rw[ae (by simp only[aj]; omega),Int.sub_zero,ay q10 q10,fU q10,aa,ao,<-y9]
  have B:=pI hn
  have G:∀i,(val a / 2^s) / 4294967296^i%4294967296=((a.getD i 0).toNat+4294967296*(a.getD (i+1) 0).toNat) / 2^s%4294967296:=by
   intro i
   rw[dq,aP,<-dq,lW,d9,d9]
   have:(a.getD i 0).toNat+4294967296*((a.getD (i+1) 0).toNat+4294967296*val (a.drop (i+1+1)))=((a.getD i 0).toNat+4294967296*(a.getD (i+1) 0).toNat)+2^s*(4294967296*(2^(32 - s)*val (a.drop (i+1+1)))):=by
    have:2^s*(4294967296*(2^(32 - s)*val (a.drop (i+1+1))))=4294967296*(4294967296*val (a.drop (i+1+1))):=by
     rw[dO,<-aD (2^s),B]
    rw[this,aF]; omega
   rw[this,gK _ _ (dz s),eJ]
  have k:∀(i:Nat) (x:L8),(x.length=i/\val x=(val a / 2^s)%4294967296^i) ->
    ((x++[(bH ((a.getD i 0).toUInt64 ||| (di (a.getD (i+1) 0).toUInt64 32)) s).toUInt32]).length=i+1/\val (x++[(bH ((a.getD i 0).toUInt64 ||| (di (a.getD (i+1) 0).toUInt64 32)) s).toUInt32])=(val a / 2^s)%4294967296^(i+1)):=by
   rintro i x ⟨j,z⟩
   refine⟨by simp[j],?_⟩
   rw[kR,j,z,Nat.mod_pow_succ,G i,kh,jm,wY,aT q10]
  have e:=dC (f:=F.ZF a 0 n) (fun (x:L8) i=>((i:Int),pad x a.length)) (fun i x=>x.length=i/\val x=(val a / 2^s)%4294967296^i)
   (fun x i=>x++[(bH ((a.getD i 0).toUInt64 ||| (di (a.getD (i+1) 0).toUInt64 32)) s).toUInt32]) 0 a.length
   (X:=fun x=>F.Ud (pad x a.length))
   (fun i x _ hi hx=>by
    refine⟨?_,k i x hx⟩
    obtain⟨j,z⟩:=hx
    have I:wI ((i:Int)+1)=((i+1:Nat):Int):=by rw[ay q10 q10]; rfl
    have O:wI ((i:Int)+0)=(i:Int):=by rw[ay q10 q10]; omega
    obtain⟨u,hu⟩:=sk (x:=x) (n:=a.length) (i:=i) q10 q10
    have J:∀v:UInt64,v=((a.getD i 0).toUInt64 ||| (di (a.getD (i+1) 0).toUInt64 32))->F.aaE n (i:Int) (pad x a.length) v=some (.inl (((i+1:Nat):Int),pad (x++[(bH ((a.getD i 0).toUInt64 ||| (di (a.getD (i+1) 0).toUInt64 32)) s).toUInt32]) a.length)):=by
     rintro v rfl
     unfold F.aaE
     dsimp only
     have:=ux (x:=x) (n:=a.length) q10 (bH ((a.getD i 0).toUInt64 ||| (di (a.getD (i+1) 0).toUInt64 32)) s).toUInt32
     rw[j]at this
     rw[hu,aa,aS,ao,I,A,this]; rfl
    unfold F.ZF
    dsimp only
    rw[af (ah (by rw[nU q10]; omega)),O,aG hi 0,aa,I]
    by_cases hb:i+1<a.length
    ·rw[af (ah q10),aG hb 0,aa,aS,J _ rfl]
    ·rw[ae (by simp only[aj]; omega),J _ (by
      apply dA.1
      rw[wY,iW (a:=a) (i:=i+1) q10,dD]; rfl)])
   (fun x hx=>by
    unfold F.ZF
    dsimp only
    rw[ae (by rw[nU q10]; simp)]
    cases F.Ud (pad x a.length) <;> rfl)
   a.length 0 [] (aq _) q10 ⟨rfl,by simp[val,Nat.mod_one]⟩
  refine e.trans ?_
  obtain⟨j,z⟩:=eO (fun i (x:L8)=>x.length=i/\val x=(val a / 2^s)%4294967296^i) (fun x i=>x++[(bH ((a.getD i 0).toUInt64 ||| (di (a.getD (i+1) 0).toUInt64 32)) s).toUInt32])
   (fun i x hx=>k i x hx) a.length 0 [] ⟨rfl,by simp[val,Nat.mod_one]⟩
  obtain⟨y,hy⟩:∃y,(List.range' 0 a.length).foldl (fun x i=>x++[(bH ((a.getD i 0).toUInt64 ||| (di (a.getD (i+1) 0).toUInt64 32)) s).toUInt32]) []=y:=⟨_,rfl⟩
  rw[hy]at j z ⊢
  rw[bn]at j z
  have R:=bN a
  have U:=dy (val a) (2^s)
  rw[ni _ (by rw[nU q10]; omega),rI,z,av q10]
theorem Jy (u v:UInt32) (c:UInt64) (hc:c.toNat<=1):((u.toUInt64 - v.toUInt64) - c).toUInt32.toNat+c.toNat+v.toNat=u.toNat+4294967296*(bH ((u.toUInt64 - v.toUInt64) - c) 63).toNat/\(bH ((u.toUInt64 - v.toUInt64) - c) 63).toNat<=1:=by
 have hu:=eF u; have j:=eF v
 rw[kh,Mj,fO,fO,dD,dD]
 omega
theorem Kz (u:UInt32) (c d:UInt64) (hc:c.toNat<=4294967295) (hd:d.toNat<=1):((u.toUInt64 - c) - d).toUInt32.toNat+c.toNat+d.toNat=u.toNat+4294967296*(bH ((u.toUInt64 - c) - d) 63).toNat/\(bH ((u.toUInt64 - c) - d) 63).toNat<=1:=by
 have hu:=eF u
 rw[kh,Mj,fO,fO,dD]
 omega
abbrev MS:=UInt64×UInt64×L8
def msS (g:UInt64) (v:L8) (j:Nat) (x:MS) (i:Nat):MS:=
 (bH (x.1+g*(v.getD i 0).toUInt64) 32,bH (((x.2.2.getD (j+i) 0).toUInt64 - (x.1+g*(v.getD i 0).toUInt64).toUInt32.toUInt64) - x.2.1) 63,
  x.2.2.set (j+i) (((x.2.2.getD (j+i) 0).toUInt64 - (x.1+g*(v.getD i 0).toUInt64).toUInt32.toUInt64) - x.2.1).toUInt32)
def MSI (g:UInt64) (v u:L8) (j i:Nat) (x:MS):Prop:=
 x.2.2.length=u.length/\(∀k,k<j\/j+i<=k->x.2.2.getD k 0=u.getD k 0)/\val x.2.2+4294967296^j*(g.toNat*val (v.take i))=val u+4294967296^(j+i)*(x.1.toNat+x.2.1.toNat)/\x.1.toNat<=4294967295/\x.2.1.toNat<=1
theorem FL {g:UInt64} {v u:L8} {j i:Nat} {x:MS} (hg:g.toNat<=4294967295) (hj:j+i<u.length) (h:MSI g v u j i x):MSI g v u j (i+1) (msS g v j x i):=by
 obtain⟨J,N,O,h4,R⟩:=h
 unfold msS
 have A:=oE (v.getD i 0)
 have hp:g.toNat*(v.getD i 0).toNat<=4294967295*4294967295:=en hg A
 have B:(x.1+g*(v.getD i 0).toUInt64).toNat=x.1.toNat+g.toNat*(v.getD i 0).toNat:=by
  have z:(g*(v.getD i 0).toUInt64).toNat=g.toNat*(v.getD i 0).toNat:=by rw[uy _ _ (by rw[dD]; omega),dD]
  rw[mQ _ _ (by rw[z]; omega),z]
 obtain⟨C,U⟩:∃C,x.1+g*(v.getD i 0).toUInt64=C:=⟨_,rfl⟩
 rw[U]at B ⊢
 obtain⟨z,G⟩:=Jy (x.2.2.getD (j+i) 0) C.toUInt32 x.2.1 R
 obtain⟨t,V⟩:∃t,((x.2.2.getD (j+i) 0).toUInt64 - C.toUInt32.toUInt64) - x.2.1=t:=⟨_,rfl⟩
 rw[V]at z G ⊢
 have I:=ql C
 refine⟨by simpa using J,fun k hk=>?_,?_,?_,G⟩
 ·simp only
  rw[ik q10]; exact N k q10
 ·simp only
  have hv:=gI x.2.2 (j+i) t.toUInt32 q10
  rw[cH,aF,aF]
  have X:4294967296^j*(g.toNat*(4294967296^i*(v.getD i 0).toNat))=4294967296^(j+i)*(g.toNat*(v.getD i 0).toNat):=by
   rw[bu,aD,dO g.toNat]
  have Y:4294967296^(j+i)*(t.toUInt32.toNat+x.2.1.toNat+C.toUInt32.toNat)=4294967296^(j+i)*((x.2.2.getD (j+i) 0).toNat+4294967296*(bH t 63).toNat):=by rw[z]
  have Z:4294967296^(j+i)*(x.1.toNat+g.toNat*(v.getD i 0).toNat)=4294967296^(j+i)*(C.toUInt32.toNat+4294967296*(bH C 32).toNat):=by rw[<-B,<-I]
  rw[X,<-dW j i 1,aU,aD]
  rw[aF,aF,aF]at Y
  rw[aF,aF]at Z
  rw[aF]at O
  rw[aF,aF]
  omega
 ·simp only[rv]; omega
theorem tA {a:L8} {m:Nat} (h:∀k,m<=k->a.getD k 0=0):val a<4294967296^m:=by
 by_cases hm:m<=a.length
 ·have hz:a.drop m=List.replicate (a.length - m) 0:=by
   refine ew (by simp) fun i z A=>?_
   have:=h (m+i) q10
   rw[ak,aw (by simp at z; omega)]at this
   rw[List.getElem_drop,js]
   exact this
  have j:=bN (a.take m)
  rw[az,aT hm]at j
  rw[fS a m hm,hz,eh]
  simpa using j
 ·exact aO (bN a) (aE q11 q10)
theorem Fq {a:L8} {m:Nat} (h:val a<4294967296^m) (k:Nat) (j:m<=k):a.getD k 0=0:=by
 have z:val a / 4294967296^k=0:=bE (aO h (aE q11 j))
 rw[lW,d9]at z
 exact cz.1 (by show _=0; omega)
theorem nH {a:L8} {m:Nat} (h:val a<4294967296^m):val (a.drop m)=0:=by
 rw[<-lW,bE h]
def abS (v:L8) (j:Nat) (x:UInt64×L8) (i:Nat):UInt64×L8:=
 (bH (x.1+((x.2.getD (i+j) 0).toUInt64+(v.getD i 0).toUInt64)) 32,x.2.set (i+j) (x.1+((x.2.getD (i+j) 0).toUInt64+(v.getD i 0).toUInt64)).toUInt32)
def ABI (v u:L8) (j i:Nat) (x:UInt64×L8):Prop:=
 x.2.length=u.length/\(∀k,k<j\/j+i<=k->x.2.getD k 0=u.getD k 0)/\val x.2+4294967296^(j+i)*x.1.toNat=val u+4294967296^j*val (v.take i)/\x.1.toNat<=1
theorem Fo {v u:L8} {j i:Nat} {x:UInt64×L8} (O:j+i<u.length) (h:ABI v u j i x):ABI v u j (i+1) (abS v j x i):=by
 obtain⟨G,I,R,U⟩:=h
 unfold abS
 have ha:=oE (x.2.getD (i+j) 0); have hb:=oE (v.getD i 0)
 obtain⟨s,hs⟩:∃s,x.1+((x.2.getD (i+j) 0).toUInt64+(v.getD i 0).toUInt64)=s:=⟨_,rfl⟩
 have z:s.toNat=x.1.toNat+((x.2.getD (i+j) 0).toNat+(v.getD i 0).toNat):=by
  have A:((x.2.getD (i+j) 0).toUInt64+(v.getD i 0).toUInt64).toNat=(x.2.getD (i+j) 0).toNat+(v.getD i 0).toNat:=by rw[mQ _ _ (by rw[dD,dD]; omega),dD,dD]
  rw[<-hs,mQ _ _ (by rw[A]; omega),A]
 rw[hs]
 have B:=ql s
 refine⟨by simpa using G,fun k V=>?_,?_,by simp only[rv]; omega⟩
 ·simp only
  rw[ik q10]; exact I k q10
 ·simp only
  have X:=gI x.2 (i+j) s.toUInt32 q10
  have J:4294967296^(j+i)*s.toNat=4294967296^(j+i)*s.toUInt32.toNat+4294967296^(j+(i+1))*(bH s 32).toNat:=by
   rw[<-dW,aU,aD,<-aF,<-B]
  have N:4294967296^j*(4294967296^i*(v.getD i 0).toNat)=4294967296^(j+i)*(v.getD i 0).toNat:=by rw[bu,aD]
  rw[cH,aF,N]
  rw[z,aF,aF]at J
  rw[bW i j]at *
  omega
theorem PQ (v u q:L8) (j:Nat) (g:UInt64) (hg:g.toNat<=4294967295) (hj:j+v.length<u.length) (hq:j<q.length) (hs:u.length<=70368744177664) (ek:q.length<=70368744177664)
  (h1:val u<4294967296^j*((g.toNat+1)*val v)) (h2:4294967296^j*(g.toNat*val v)<=val u+4294967296^j*val v) (h3:val u<4294967296^(j+v.length+1)) :
  ∃(d:UInt64) (A:L8),loop (F.Xk v (j:Int) g q) (0,0,0,u)=some (.inl ((j:Int) - 1,A,q.set j d.toUInt32))/\A.length=u.length /\
   val A+4294967296^j*(d.toNat*val v)=val u/\val A<4294967296^j*val v/\d.toNat<=4294967295:=by
 have w2:wI ((j:Int)+(v.length:Int))=((j+v.length:Nat):Int):=by rw[ay q10 q10]; rfl
 have wj:wI ((j:Int) - 1)=(j:Int) - 1:=ay q10 q10
 have ab:∀(d:UInt64) (y:L8),F.W3 (j:Int) q (d,y)=some (.inl ((j:Int) - 1,y,q.set j d.toUInt32)):=by
  intro d y
  unfold F.W3
  dsimp only
  rw[aG hq 0,aa,aS,ao,wj]; rfl
 have dc:=dF (n:=j) (show 0<4294967296 by decide)
 have h0:MSI g v u j 0 (0,0,u):=⟨rfl,fun _ _=>rfl,by simp[val],by simp,by simp⟩
 have hz:=fun k (R:j+v.length+1<=k)=>Fq h3 k R
 -- behind the loop
 have b5:∀x:MS,MSI g v u j v.length x->∃(d:UInt64) (A:L8),
   (ag (au x.2.2 (wI ((j:Int)+(v.length:Int)):Int)) fun J=>bD ((J.toUInt64 - x.1) - x.2.1) fun B=>ag (au x.2.2 (wI ((j:Int)+(v.length:Int)):Int)) fun ax=>
    bD (x.2.2.set (wI ((j:Int)+(v.length:Int)):Int).toNat B.toUInt32) fun G=>if ((bH B 63) != 0)=true then loop (F.Wa v (j:Int) g q) (0,0,G) else F.W3 (j:Int) q (g,G))
    = some (.inl ((j:Int) - 1,A,q.set j d.toUInt32))/\A.length=u.length/\val A+4294967296^j*(d.toNat*val v)=val u/\val A<4294967296^j*val v/\d.toNat<=4294967295:=by
  rintro x ⟨e1,e2,e3,e4,e5⟩
  rw[w2,aG (show j+v.length<x.2.2.length by omega) 0,aa,aS,aa,aS,ao]
  obtain⟨f1,f2⟩:=Kz (x.2.2.getD (j+v.length) 0) x.1 x.2.1 e4 e5
  obtain⟨t,ht⟩:∃t,((x.2.2.getD (j+v.length) 0).toUInt64 - x.1) - x.2.1=t:=⟨_,rfl⟩
  rw[ht]at f1 f2 ⊢
  have hv:=gI x.2.2 (j+v.length) t.toUInt32 q10
  obtain⟨z,U⟩:∃z,x.2.2.set (j+v.length) t.toUInt32=z:=⟨_,rfl⟩
  have b9:z.length=u.length:=by rw[<-U]; simpa using e1
  have ac:∀k,j+v.length+1<=k->z.getD k 0=0:=fun k R=>by
   rw[<-U,ik q10,e2 k q10]; exact hz k R
  have d4:=tA ac
  rw[U]at hv ⊢
  rw[cJ]at e3
  have I:val z+4294967296^j*(g.toNat*val v)=val u+4294967296^(j+v.length+1)*(bH t 63).toNat:=by
   have:=cD (4294967296^(j+v.length)*·) f1
   simp only[aF]at this
   rw[aF]at e3
   rw[aU,aD]
   omega
  by_cases hb:(bH t 63).toNat=0
  ·have:bH t 63=0:=dA.1 hb
   rw[ae (by rw[this]; decide),ab]
   rw[hb,cb,bb]at I
   refine⟨g,z,rfl,b9,I,?_,hg⟩
   rw[bd,ci,aF]at h1
   omega
  ·have ca:(bH t 63).toNat=1:=by omega
   have cf:¬bH t 63=0:=fun h=>hb (by rw[h]; rfl)
   rw[af (by simpa using cf)]
   rw[ca,de]at I
   have cm:1<=g.toNat:=by
    rcases bR g.toNat with h | h
    ·rw[h,eW,cb]at I; omega
    ·exact h
   have a0:ABI v z j 0 (0,z):=⟨rfl,fun _ _=>rfl,by simp[val],by simp⟩
   have e:=dC (f:=F.Wa v (j:Int) g q) (fun (y:UInt64×L8) i=>(y.1,(i:Int),y.2)) (fun i y=>i<=v.length->ABI v z j i y) (abS v j) 0 v.length
    (X:=fun y=>some (.inl ((j:Int) - 1,y.2.set (j+v.length) (y.2.getD (j+v.length) 0+y.1.toUInt32),q.set j (g - 1).toUInt32)))
    (fun i y _ hi hy=>by
     have hy:=hy q10
     refine⟨?_,fun _=>Fo q10 hy⟩
     have cx:=hy.1
     have w3:wI ((i:Int)+(j:Int))=((i+j:Nat):Int):=by rw[ay q10 q10]; rfl
     have w4:wI ((i:Int)+1)=((i+1:Nat):Int):=by rw[ay q10 q10]; rfl
     unfold F.Wa
     dsimp only
     rw[af (ah q10),w3,aG (show i+j<y.2.length by omega) 0,aa,aG hi 0,aa,aS,aa,aS,ao,w4]
     rfl)
    (fun y hy=>by
     have cx:=(hy (aq _)).1
     unfold F.Wa
     dsimp only
     rw[ae (by simp),w2,aG (show j+v.length<y.2.length by omega) 0,aa,aa,aS,ao,ab])
    v.length 0 (0,z) (aq _) q10 (fun _=>a0)
   have N:=eO (fun i (y:UInt64×L8)=>i<=v.length->ABI v z j i y) (abS v j) (fun i y hy=>fun hi=>Fo q10 (hy q10)) v.length 0 (0,z) (fun _=>a0)
   obtain⟨y,hy⟩:∃y,(List.range' 0 v.length).foldl (abS v j) (0,z)=y:=⟨_,rfl⟩
   rw[hy]at N e
   rw[bn]at N
   obtain⟨k1,k2,k3,k4⟩:=N (aq _)
   rw[cJ]at k3
   refine⟨g - 1,_,e,by rw[bM]; omega,?_⟩
   have cy:(g - 1).toNat=g.toNat - 1:=by
    rw[gn _ _ (by rw[dG]; exact cm)]; rfl
   obtain⟨Z,ad⟩:∃Z,y.2.set (j+v.length) (y.2.getD (j+v.length) 0+y.1.toUInt32)=Z:=⟨_,rfl⟩
   have c0:=gI y.2 (j+v.length) (y.2.getD (j+v.length) 0+y.1.toUInt32) q10
   rw[ad]at c0 ⊢
   have c1:∀k,j+v.length+1<=k->Z.getD k 0=0:=fun k R=>by
    rw[<-ad,ik q10,k2 k q10]; exact ac k R
   have d8:=tA c1
   have hw:=eF (y.2.getD (j+v.length) 0)
   have V:(y.2.getD (j+v.length) 0+y.1.toUInt32).toNat+4294967296*(((y.2.getD (j+v.length) 0).toNat+y.1.toNat) / 4294967296)=(y.2.getD (j+v.length) 0).toNat+y.1.toNat:=by
    rw[ij,kh,av (a:=y.1.toNat) q10]; omega
   obtain⟨O,c2⟩:∃O,((y.2.getD (j+v.length) 0).toNat+y.1.toNat) / 4294967296=O:=⟨_,rfl⟩
   rw[c2]at V
   have el:O<=1:=by omega
   have Y:val Z+4294967296^(j+v.length+1)*O=val z+4294967296^j*val v:=by
    have:=cD (4294967296^(j+v.length)*·) V
    simp only[aF]at this
    rw[aU,aD]
    omega
   obtain⟨g',ap⟩:∃g',g.toNat=g'+1:=⟨g.toNat - 1,by omega⟩
   rw[cy,ap,fa]
   rw[ap,bd,ci,aF]at I h2
   have c4:O=1:=by
    rcases bR O with h | h
    ·rw[h,cb]at Y; omega
    ·omega
   rw[c4,de]at Y
   exact⟨by omega,by omega,by omega⟩
 have e:=dC (f:=F.Xk v (j:Int) g q) (fun (x:MS) i=>(x.1,x.2.1,(i:Int),x.2.2)) (fun i x=>i<=v.length->MSI g v u j i x) (msS g v j) 0 v.length
  (X:=fun x=>(ag (au x.2.2 (wI ((j:Int)+(v.length:Int)):Int)) fun J=>bD ((J.toUInt64 - x.1) - x.2.1) fun B=>ag (au x.2.2 (wI ((j:Int)+(v.length:Int)):Int)) fun ax=>
    bD (x.2.2.set (wI ((j:Int)+(v.length:Int)):Int).toNat B.toUInt32) fun G=>if ((bH B 63) != 0)=true then loop (F.Wa v (j:Int) g q) (0,0,G) else F.W3 (j:Int) q (g,G)))
  (fun i x _ hi hx=>by
   have hx:=hx q10
   refine⟨?_,fun _=>FL hg q10 hx⟩
   have er:=hx.1
   have w3:wI ((i:Int)+(j:Int))=((j+i:Nat):Int):=by rw[ay q10 q10]; omega
   have w4:wI ((i:Int)+1)=((i+1:Nat):Int):=by rw[ay q10 q10]; rfl
   unfold F.Xk
   dsimp only
   rw[af (ah q10),aG hi 0,aa,aS,w3,aG (show j+i<x.2.2.length by omega) 0,aa,aS,aa,aS,ao,w4]
   rfl)
  (fun x hx=>by
   unfold F.Xk
   dsimp only
   rw[ae (by simp)])
  v.length 0 (0,0,u) (aq _) q10 (fun _=>h0)
 have N:=eO (fun i (x:MS)=>i<=v.length->MSI g v u j i x) (msS g v j) (fun i x hx=>fun hi=>FL hg q10 (hx q10)) v.length 0 (0,0,u) (fun _=>h0)
 rw[bn]at N
 obtain⟨d,A,r1,r2⟩:=b5 _ (N (aq _))
 exact⟨d,A,e.trans r1,r2⟩
theorem Bb (x y:UInt32):((di x.toUInt64 32) ||| y.toUInt64).toNat=4294967296*x.toNat+y.toNat:=by
 have:=eF x
 rw[Df _ _ (by rw[dD]; omega),dD]
theorem L5 (v u q:L8) (j:Nat) (z A B:UInt32) (h K I V':Nat) (hn:2<=v.length) (hj:j+v.length<u.length) (hs:u.length<=70368744177664)
  (ap:u.getD (j+v.length - 2) 0=B) (U:val v=(z.toNat*4294967296+A.toNat)*K+V') (ax:I<K) (X:V'<K) (Y:1<=z.toNat)
  (bx:(h*4294967296+B.toNat)*K+I<4294967296*val v) (hh:h<=z.toNat*4294967296+4294967295) :
  ∀(m:Nat) (g r:UInt64),g.toNat=m->h=g.toNat*z.toNat+r.toNat->r.toNat<=4294967295->(h*4294967296+B.toNat)*K+I<(g.toNat+1)*val v ->
   ∃G:UInt64,loop (F.YL v A (j:Int) u z q) (g,r)=F.XX u v (j:Int) q G/\G.toNat<=4294967295/\(h*4294967296+B.toNat)*K+I<(G.toNat+1)*val v /\
    G.toNat*val v<(h*4294967296+B.toNat)*K+I+val v:=by
 have x1:=eF z; have x2:=eF A; have x3:=eF B
 have w0:wI ((wI ((j:Int)+(v.length:Int))) - 2)=((j+v.length - 2:Nat):Int):=by
  rw[ay (x:=(j:Int)+(v.length:Int)) q10 q10,ay q10 q10]; omega
 intro m
 induction m using Nat.strongRecOn with
 | ind m ih=>
  intro g r hm J hr b2
  -- too great
  have N:F.YL v A (j:Int) u z q (g,r)=F.WJ z g r u v (j:Int) q true->(4294967296<=g.toNat\/r.toNat*4294967296+B.toNat<g.toNat*A.toNat) ->
    ∃G:UInt64,loop (F.YL v A (j:Int) u z q) (g,r)=F.XX u v (j:Int) q G/\G.toNat<=4294967295/\(h*4294967296+B.toNat)*K+I<(G.toNat+1)*val v /\
    G.toNat*val v<(h*4294967296+B.toNat)*K+I+val v:=by
   intro hL V
   have b3:1<=g.toNat:=by
    rcases bR g.toNat with h0 | h0
    ·rw[h0]at V; omega
    ·exact h0
   have Z:(g - 1).toNat=g.toNat - 1:=by
    rw[gn _ _ (by rw[dG]; exact b3)]; rfl
   have b4:(r+z.toUInt64).toNat=r.toNat+z.toNat:=by rw[mQ _ _ (by rw[dD]; omega),dD]
   have hd:=BJ (K:=K) (V':=V') J ax V (by rw[<-U]; exact bx)
   rw[<-U]at hd
   obtain⟨k,hk⟩:∃k,g.toNat=k+1:=⟨g.toNat - 1,by omega⟩
   have O:h=(g - 1).toNat*z.toNat+(r+z.toUInt64).toNat:=by
    rw[Z,b4,J,hk,fa,bd]; omega
   have R:(h*4294967296+B.toNat)*K+I<((g - 1).toNat+1)*val v:=by
    rw[Z,hk,fa,<-hk]; exact hd
   unfold F.WJ at hL
   rw[af rfl]at hL
   by_cases hb:4294967295<(r+z.toUInt64).toNat
   ·rw[af (ah (by rw[cM]; exact hb))]at hL
    have b5:(g - 1).toNat<4294967296:=by
     have:(g - 1).toNat*z.toNat<4294967296*z.toNat:=by omega
     exact Nat.lt_of_mul_lt_mul_right this
    refine⟨g - 1,bm hL,by omega,R,?_⟩
    rw[U]
    refine Jm O X Y b5 ?_
    have:=en (show (g - 1).toNat<=4294967295 by omega) (show A.toNat<=4294967295 by omega)
    omega
   ·rw[ae (by simp only[aj,cM]; exact hb)]at hL
    obtain⟨G,q1,q2⟩:=ih (g - 1).toNat q10 (g - 1) (r+z.toUInt64) rfl O q10 R
    exact⟨G,(bv hL).trans q1,q2⟩
  have hL:F.YL v A (j:Int) u z q (g,r)=if (decide ((4294967295:UInt64)<g))=true then F.WJ z g r u v (j:Int) q true else
    ag (au u (wI ((wI ((j:Int)+(v.length:Int))) - 2):Int)) fun ad=>F.WJ z g r u v (j:Int) q (decide (((di r 32) ||| ad.toUInt64)<(g*A.toUInt64))):=rfl
  by_cases hg:4294967295<g.toNat
  ·rw[af (ah (by rw[cM]; exact hg))]at hL
   exact N hL (.inl q10)
  ·rw[ae (by simp only[aj,cM]; exact hg),w0,aG (show j+v.length - 2<u.length by omega) 0,aa,ap]at hL
   have e1:((di r 32) ||| B.toUInt64).toNat=4294967296*r.toNat+B.toNat:=Df _ _ hr
   have hp:=en (show g.toNat<=4294967295 by omega) (show A.toNat<=4294967295 by omega)
   have e2:(g*A.toUInt64).toNat=g.toNat*A.toNat:=by rw[uy _ _ (by rw[dD]; omega),dD]
   by_cases V:r.toNat*4294967296+B.toNat<g.toNat*A.toNat
   ·rw[show decide (((di r 32) ||| B.toUInt64)<(g*A.toUInt64))=true from ah (by rw[cM,e1,e2]; omega)]at hL
    exact N hL (.inr V)
   ·rw[show decide (((di r 32) ||| B.toUInt64)<(g*A.toUInt64))=false from an (by rw[cM,e1,e2]; omega)]at hL
    unfold F.WJ at hL
    rw[ae q11]at hL
    refine⟨g,bm hL,by omega,b2,?_⟩
    rw[U]
    exact Jm J X Y q10 q10
theorem KG (s:UInt64) (v u q:L8) (j:Nat) (hn:2<=v.length) (b2:2147483648<=(v.getD (v.length - 1) 0).toNat) (hj:j+v.length<u.length) (hq:j<q.length) (hs:u.length<=70368744177664) (ca:q.length<=70368744177664)
  (hu:val u<4294967296^(j+1)*val v) :
  ∃(d:UInt64) (I:L8),F.Ye s v (v.getD (v.length - 1) 0) (v.getD (v.length - 2) 0) ((j:Int),u,q)=some (.inl ((j:Int) - 1,I,q.set j d.toUInt32))/\I.length=u.length /\
   val I+4294967296^j*(d.toNat*val v)=val u/\val I<4294967296^j*val v/\d.toNat<=4294967295:=by
 obtain⟨k,N⟩:∃k,v.getD (v.length - 1) 0=k:=⟨_,rfl⟩
 obtain⟨B,V⟩:∃B,v.getD (v.length - 2) 0=B:=⟨_,rfl⟩
 obtain⟨z,X⟩:∃z,u.getD (j+v.length) 0=z:=⟨_,rfl⟩
 obtain⟨G,Y⟩:∃G,u.getD (j+v.length - 1) 0=G:=⟨_,rfl⟩
 obtain⟨A,Z⟩:∃A,u.getD (j+v.length - 2) 0=A:=⟨_,rfl⟩
 rw[N]at b2
 have x1:=eF k; have x2:=eF B; have y0:=eF z; have y1:=eF G; have y2:=eF A
 -- the divisor's parts
 have eV:val v=(k.toNat*4294967296+B.toNat)*4294967296^(v.length - 2)+val (v.take (v.length - 2)):=by
  have:=fS v (v.length - 2) q10
  rw[d9,show v.length - 2+1=v.length - 1 by omega,d9,show v.length - 1+1=v.length by omega,jb,jX,N,V]at this
  rw[this,cb,bb,aP (4294967296^_),bW B.toNat,aP 4294967296 k.toNat]
  omega
 have O:val (v.take (v.length - 2))<4294967296^(v.length - 2):=by
  have:=bN (v.take (v.length - 2))
  rwa [az,aT q10]at this
 have cf:=bN v
 have ab:val u<4294967296^(j+v.length+1):=by
  have:=ft cf (dF (n:=j+1) (show 0<4294967296 by decide))
  rw[<-bu,show j+1+v.length=j+v.length+1 by omega]at this
  omega
 -- the dividend's parts
 obtain⟨K,hK⟩:∃K,4294967296^(v.length - 2)=K:=⟨_,rfl⟩
 obtain⟨J,ac⟩:∃J,val ((u.drop j).take (v.length - 2))=J:=⟨_,rfl⟩
 have b5:J<K:=by
  have:=bN ((u.drop j).take (v.length - 2))
  rw[az,bj,aT q10]at this
  rw[<-ac,<-hK]; exact this
 obtain⟨h,hh⟩:∃h,z.toNat*4294967296+G.toNat=h:=⟨_,rfl⟩
 have eU:val u / 4294967296^j=(h*4294967296+A.toNat)*K+J:=by
  have R:=fS (u.drop j) (v.length - 2) (by rw[bj]; omega)
  rw[ia,show j+(v.length - 2)=j+v.length - 2 by omega,d9 u (j+v.length - 2),show j+v.length - 2+1=j+v.length - 1 by omega,d9 u (j+v.length - 1),show j+v.length - 1+1=j+v.length by omega,d9 u (j+v.length),nH ab,ac,hK,X,Y,Z]at R
  rw[lW,R,<-hh,cb,bb,aP K]
  have:A.toNat+4294967296*(G.toNat+4294967296*z.toNat)=(z.toNat*4294967296+G.toNat)*4294967296+A.toNat:=by omega
  rw[this]; omega
 rw[hK]at eV O
 have U:=dF (n:=j) (show 0<4294967296 by decide)
 have b7:(h*4294967296+A.toNat)*K+J<4294967296*val v:=by
  rw[<-eU,fK U,aP]
  rw[aU,aD]at hu
  exact hu
 -- the first word is no greater than the divisor's
 have c0:z.toNat<=k.toNat:=by
  rcases cI k.toNat z.toNat with R | R
  ·exfalso
   have a1:(k.toNat*4294967296+B.toNat+1)*K<=(z.toNat*4294967296)*K:=bg _ q10
   have a2:val v<(k.toNat*4294967296+B.toNat+1)*K:=by rw[eV,bd (k.toNat*4294967296+B.toNat) 1 K,ci]; exact Nat.add_lt_add_left O _
   have a4:=bg K (show 4294967296*(z.toNat*4294967296)<=h*4294967296+A.toNat by omega)
   rw[aD 4294967296]at a4
   omega
  ·exact R
 have ad:¬k.toUInt64=0:=by
  intro h0
  have:=cD UInt64.toNat h0
  rw[dD]at this
  simp at this
  omega
 obtain⟨H,hH⟩:∃H,(di z.toUInt64 32) ||| G.toUInt64=H:=⟨_,rfl⟩
 have ap:H.toNat=h:=by rw[<-hH,Bb,<-hh]; omega
 have ax:(H / k.toUInt64).toNat=h / k.toNat:=by rw[gr,dD,ap]
 have bx:(H%k.toUInt64).toNat=h%k.toNat:=by rw[dM,dD,ap]
 have c8:=cQ h k.toNat
 have c9:=ba h (show 0<k.toNat by omega)
 obtain⟨g,hg,g1,g2,g3⟩:=L5 v u q j k B A h K J (val (v.take (v.length - 2))) hn hj hs Z eV b5 O q10 b7 q10 _ (H / k.toUInt64) (H%k.toUInt64) rfl
  (by rw[ax,bx,aP]; omega) (by rw[bx]; omega) (by
   rw[ax]
   have a1:h+1<=(h / k.toNat+1)*k.toNat:=by rw[bd,aP (h / k.toNat)]; omega
   have a2:(h+1)*(4294967296*K)<=(h / k.toNat+1)*k.toNat*(4294967296*K):=bg _ a1
   have a3:(h / k.toNat+1)*(k.toNat*(4294967296*K))<=(h / k.toNat+1)*val v:=by
    refine bf _ ?_
    rw[eV,bd,aD]; omega
   have a4:(h*4294967296+A.toNat+1)*K<=(h+1)*(4294967296*K):=by
    rw[<-aD]; exact bg _ q10
   rw[bd (h*4294967296+A.toNat) 1 K,ci]at a4
   rw[aD]at a2
   omega)
 have c3:=gi (val u) (4294967296^j)
 have dc:=Nat.lt_div_mul_add U (a:=val u)
 obtain⟨d,I,r1,r2⟩:=PQ v u q j g g1 hj hq hs ca
  (by
   have:=bf (4294967296^j) (show val u / 4294967296^j+1<=(g.toNat+1)*val v by rw[eU]; omega)
   rw[aF,de,aP _ (val u / _)]at this
   omega)
  (by
   have:=bf (4294967296^j) (show g.toNat*val v<=val u / 4294967296^j+val v by rw[eU]; omega)
   rw[aF _ (val u / _),aP _ (val u / _)]at this
   omega) ab
 refine⟨d,I,?_,r2⟩
 have w2:wI ((j:Int)+(v.length:Int))=((j+v.length:Nat):Int):=by rw[ay q10 q10]; rfl
 have w3:wI ((((j+v.length:Nat):Int)) - 1)=((j+v.length - 1:Nat):Int):=by rw[ay q10 q10]; omega
 rw[N,V]
 unfold F.Ye
 dsimp only
 rw[af (ah q10),w2,w3,aG hj 0,aa,aG (show j+v.length - 1<u.length by omega) 0,aa,aS,X,Y,hH,grd_true _ ad,grd_true _ ad,hg]
 unfold F.XX
 exact r1
theorem K2 (s:UInt64) (v:L8) (A:Nat) (hn:2<=v.length) (B:2147483648<=(v.getD (v.length - 1) 0).toNat) (N:s.toNat<32) :
  ∀(k:Nat) (u q:L8),k+v.length<=u.length->k<=q.length->u.length<=70368744177664->q.length<=70368744177664->(∀i,i<k->q.getD i 0=0)->val q*val v+val u=A->val u<4294967296^k*val v ->
   loop (F.Ye s v (v.getD (v.length - 1) 0) (v.getD (v.length - 2) 0)) ((k:Int) - 1,u,q)=some (am (A / val v),am (A%val v / 2^s.toNat)):=by
 have O:0<val v:=by
  rw[qP v (v.length - 1) q10]
  have:=Nat.mul_pos (dF (n:=v.length - 1) (show 0<4294967296 by decide)) (show 0<(v.getD (v.length - 1) 0).toNat+4294967296*val (v.drop (v.length - 1+1)) by omega)
  omega
 intro k
 induction k with
 | zero=>
  intro u q U V R G I z j
  rw[dg,ci]at j
  have eq:A / val v=val q:=by rw[<-z,bW,gx _ _ O,bE j,bn]
  have X:A%val v=val u:=by rw[<-z,bW,fp,av j]
  refine eL ?_
  unfold F.Ye
  dsimp only
  have ad:(am (val u)).length<=u.length:=bc (bN u)
  rw[ae q11,ni _ q10,aa,ni _ q10,aa,Lq _ _ N q10,aa,al,eq,X]; rfl
 | succ k ih=>
  intro u q U V R G I z j
  have Y:(((k+1:Nat):Int)) - 1=(k:Int):=by omega
  obtain⟨d,Z,r1,r2,r3,r4,r5⟩:=KG s v u q k hn B q10 q10 R G j
  rw[Y,bv r1]
  refine ih Z _ q10 (by simp; omega) q10 (by simpa using G) (fun i hi=>by rw[ik q10]; exact I i q10) ?_ r4
  have J:=gI q k d.toUInt32 q10
  rw[I k q10]at J
  have z0:(0:UInt32).toNat=0:=rfl
  rw[z0,cb,bb]at J
  rw[J,kh,av q10,bd,aD,<-z]
  omega
theorem Rz (a b:L8) (ha:Can a) (hb:Can b) (h0:b≠[]) (c7:a.length<=70368744177660) (c8:b.length<=70000000000) :
  F.V4 a b=some (am (val a / val b),am (val a%val b)):=by
 have U:b.length≠0:=fun h=>h0 (bA h)
 have c9:0<val b:=by
  rcases bR (val b) with h | h
  ·exact absurd (Qu hb zp h) h0
  ·exact h
 unfold F.V4
 rw[ae (by simpa using fun h=>U (by rw[h]; rfl)),wC a b ha hb q10 q10,aa]
 unfold cW
 by_cases h1:val a<val b
 ·rw[af h1,af q11]
  have dc:a.length<=b.length:=by
   rcases cI b.length a.length with h | h
   ·have:=uU ha h; omega
   ·exact h
  unfold F.VR
  have b3:apO 4 [] a=some a:=by unfold apO; rw[af (by simp; omega)]; simp
  rw[b3,aa,aa,bE h1,av h1,cu,pG a ha]
 ·rw[ae h1,ae (by split <;> decide)]
  have dd:b.length<=a.length:=by
   rcases cI a.length b.length with h | h
   ·exact absurd (uU hb h) h1
   ·exact h
  by_cases h2:a.length<=2
  ·rw[af (ah q10)]
   obtain⟨x,hx,ex⟩:=CA a h2
   obtain⟨y,hy,ey⟩:=CA b q10
   have V:¬y=0:=fun h=>by rw[h]at ey; simp at ey; omega
   rw[hx,aa,hy,aa,grd_true _ V,pm,aa,grd_true _ V,pm,aa,gr,dM,ex,ey]
  ·rw[ae (by simp only[aj]; omega)]
   by_cases h3:b.length=1
   ·rw[af (by simp[h3]),show (0:Int)=((0:Nat):Int) from rfl,aG (show 0<b.length by omega) 0,aa]
    have J:val b=(b.getD 0 0).toNat:=by
     match b,h3 with
     | [x],_=>simp[val]
    have hd:b.getD 0 0≠0:=fun h=>by rw[h]at J; simp at J; omega
    obtain⟨r,hr,er⟩:=L1 a (b.getD 0 0) hd q10
    rw[hr,aa,ni _ (by simp),aa,<-J]
    rw[<-J]at er
    simp only[il,jX,cb,bb,er]
   ·rw[ae (by simpa using fun h=>h3 q10),length_eq b q10,aa]
    have G:oR b=32*(b.length - 1)+nb (b.getD (b.length - 1) 0).toNat:=by unfold oR; rw[ae U]
    obtain⟨B,N⟩:∃B,b.getD (b.length - 1) 0=B:=⟨_,rfl⟩
    rw[N]at G
    have ac:B≠0:=by
     intro h
     refine hb ?_
     rw[List.getLast?_eq_getElem?]
     rw[<-N,ak,aw (show b.length - 1<b.length by omega)]at h
     rw[aw (show b.length - 1<b.length by omega),<-h]; rfl
    have b5:B.toNat≠0:=fun h=>ac (cz.1 h)
    obtain⟨n1,n2⟩:=fi B.toNat
    obtain⟨n3,n4⟩:=n2 b5
    have n5:=GF B
    obtain⟨z,hz⟩:∃z,nb B.toNat=z:=⟨_,rfl⟩
    rw[hz]at n1 n3 n4 n5 G
    -- the shift
    have es:UInt64.ofInt (wI ((wI (32 - (Int.tmod (wI ((oR b:Int) - 1)) 32))) - 1))=UInt64.ofNat (32 - z):=by
     rw[ay (x:=(oR b:Int) - 1) q10 q10]
     have:Int.tmod ((oR b:Int) - 1) 32=(z:Int) - 1:=by
      rw[G]
      have:((32*(b.length - 1)+z:Nat):Int) - 1=((32*(b.length - 1)+(z - 1):Nat):Int):=by omega
      rw[this,dv q10]
      omega
     rw[this,ay (x:=32 - ((z:Int) - 1)) q10 q10,ay (x:=32 - ((z:Int) - 1) - 1) q10 q10,show (32 - ((z:Int) - 1)) - 1=((32 - z:Nat):Int) by omega]
     apply dA.1
     rw[UInt64.ofInt,bO,bO]; omega
    rw[es,aS]
    obtain⟨s,hs⟩:∃s,UInt64.ofNat (32 - z)=s:=⟨_,rfl⟩
    have X:s.toNat=32 - z:=by rw[<-hs,bO]; omega
    have b7:s.toNat<32:=by omega
    rw[hs,yr b s q10 q10,aa]
    -- the divisor shifted
    have b9:2^z*2^(32 - z)=4294967296:=by rw[<-bu,show z+(32 - z)=32 by omega]
    have ad:2^(z - 1)*2^(32 - z)=2147483648:=by rw[<-bu,show z - 1+(32 - z)=31 by omega]
    have ev:val b=val (b.take (b.length - 1))+4294967296^(b.length - 1)*B.toNat:=by
     have:=cH b (b.length - 1)
     rwa [show b.length - 1+1=b.length by omega,cJ,N]at this
    have df:val (b.take (b.length - 1))<4294967296^(b.length - 1):=by
     have:=bN (b.take (b.length - 1))
     rwa [az,aT q10]at this
    have ca:val b*2^s.toNat<4294967296^b.length:=by
     have j:val b<4294967296^(b.length - 1)*2^z:=by
      have:4294967296^(b.length - 1)*(B.toNat+1)<=4294967296^(b.length - 1)*2^z:=bf _ n1
      rw[aF]at this
      omega
     have I:=iA j (dz (32 - z))
     rw[aD,b9,<-aU,Nat.succ_eq_add_one,show b.length - 1+1=b.length by omega]at I
     rw[X]; exact I
    have O:4294967296^(b.length - 1)*2147483648<=val b*2^s.toNat:=by
     rw[X,<-ad,<-aD]
     refine bg _ ?_
     have:4294967296^(b.length - 1)*2^(z - 1)<=4294967296^(b.length - 1)*B.toNat:=bf _ n3
     omega
    obtain⟨v,hv⟩:∃v,am (val b*2^s.toNat)=v:=⟨_,rfl⟩
    have Y:val v=val b*2^s.toNat:=by rw[<-hv,al]
    have Z:v.length=b.length:=by
     have j:=bc ca
     have I:=tZ (n:=val b*2^s.toNat) (k:=b.length - 1) (by
      refine aA ?_ O
      exact dX _ q11)
     rw[hv]at j I
     omega
    have ax:2147483648<=(v.getD (v.length - 1) 0).toNat:=by
     have j:=cH v (v.length - 1)
     rw[show v.length - 1+1=v.length by omega,cJ]at j
     have I:=bN (v.take (v.length - 1))
     rw[az,aT q10]at I
     rw[Z]at j I ⊢
     rcases cI (v.getD (b.length - 1) 0).toNat 2147483648 with h | h
     ·have:4294967296^(b.length - 1)*((v.getD (b.length - 1) 0).toNat+1)<=4294967296^(b.length - 1)*2147483648:=bf _ h
      rw[aF]at this
      omega
     ·exact h
    rw[hv]
    -- the dividend shifted
    have w2:wI ((a.length:Int)+2)=((a.length+2:Nat):Int):=by rw[ay q10 q10]; rfl
    rw[w2,fU q10,aa,ao,yr a s q10 q10,aa]
    have bx:2^s.toNat<=4294967296:=by
     have:=aE (show 0<2 by decide) (show s.toNat<=32 by omega)
     have e:(2:Nat)^32=4294967296:=rfl
     omega
    have R:val a*2^s.toNat<4294967296^(a.length+1):=by
     have j:=bN a
     have I:=en (show val a+1<=4294967296^a.length from j) bx
     rw[<-aU,bd]at I
     have:=dz s.toNat
     omega
    obtain⟨A,hA⟩:∃A,val a*2^s.toNat=A:=⟨_,rfl⟩
    rw[hA]at R ⊢
    have dk:=bc R
    have cf:cpL (List.replicate (a.length+2) (0:UInt32)) (am A) 0 (List.replicate (a.length+2) (0:UInt32)).length=pad (am A) (a.length+2):=by
     unfold cpL pad
     simp only[aZ,fW,List.take_zero,cZ,bn]
     rw[aC q10,aT q10,List.drop_replicate]
    rw[cf,aS,nU q10]
    have w5:wI ((wI (((a.length+2:Nat):Int) - (v.length:Int))) - 1)=((a.length+1 - b.length:Nat):Int):=by
     rw[Z,ay (x:=((a.length+2:Nat):Int) - (b.length:Int)) q10 q10,ay q10 q10]; omega
    have w6:wI (((a.length+1 - b.length:Nat):Int)+1)=((a.length+2 - b.length:Nat):Int):=by rw[ay q10 q10]; omega
    have w7:wI ((v.length:Int) - 1)=((v.length - 1:Nat):Int):=by rw[ay q10 q10]; omega
    have w8:wI ((v.length:Int) - 2)=((v.length - 2:Nat):Int):=by rw[ay q10 q10]; omega
    rw[w5,aS,w6,fU q10,aa,ao,w7,aG (show v.length - 1<v.length by omega) 0,aa,w8,aG (show v.length - 2<v.length by omega) 0,aa]
    have cm:∀i,(List.replicate (a.length+2 - b.length) (0:UInt32)).getD i 0=0:=fun i=>by
     rw[ak,et]; split <;> rfl
    have hL:=K2 s v A q10 ax b7 (a.length+2 - b.length) (pad (am A) (a.length+2)) (List.replicate (a.length+2 - b.length) 0)
     (by rw[nU q10]; omega) (by simp) (by rw[nU q10]; omega) (by simp; omega) (fun i _=>cm i) (by rw[eh,rI,al]; omega) (by
      rw[rI,al]
      refine aO R ?_
      have j:=bf (4294967296^(a.length+2 - b.length)) (aA (dX (4294967296^(b.length - 1)) (show 0<2147483648 by decide)) O)
      rw[<-Y,<-bu,show a.length+2 - b.length+(b.length - 1)=a.length+1 by omega]at j
      exact j)
    rw[show (((a.length+2 - b.length:Nat):Int)) - 1=((a.length+1 - b.length:Nat):Int) by omega]at hL
    rw[hL,Y,<-hA,Nat.mul_div_mul_right _ _ (dz _),Nat.mul_mod_mul_right,Nat.mul_div_cancel _ (dz _)]
def bi (z:Int):Bool×L8:=(decide (z<0),am z.natAbs)
def nl (z:Int):Nat:=(am z.natAbs).length
theorem IB (n:Nat):bi (n:Int)=(false,am n):=by
 unfold bi
 rw[an q10,cU]
theorem bi1 {z:Int} (h:0<=z):(bi z).1=false:=an q10
theorem bi2 (z:Int):(bi z).2=am z.natAbs:=rfl
theorem bis (z:Int):(bi z).1=decide (z<0):=rfl
theorem rX (z:Int):Can (bi z).2:=Ae _
theorem r7 (z:Int):val (bi z).2=z.natAbs:=al _
theorem oo {n:Nat}:am n=[]↔n=0:=⟨fun h=>by have:=al n; rw[h]at this; simpa [val] using this.symm,fun h=>by rw[h,cu]⟩
theorem mi {n:Nat}:0<(am n).length↔n≠0:=by
 rw[fE,Ne,oo]
theorem db {a b:Nat} (h:a<=b):(am a).length<=(am b).length:=
 bc (dR h (by have:=bN (am b); rwa [al]at this))
theorem Np {x y:Int} (h:x.natAbs<=y.natAbs):(bi x).2.length<=(bi y).2.length:=db h
theorem kH (a b:Nat):(am (a+b)).length<=max (am a).length (am b).length+1:=by
 refine bc ?_
 have j:=bN (am a); have k:=bN (am b)
 rw[al]at j k
 have z:=aE (show 0<4294967296 by decide) (Nat.le_max_left (am a).length (am b).length)
 have A:=aE (show 0<4294967296 by decide) (Nat.le_max_right (am a).length (am b).length)
 rw[aU]
 omega
theorem kc (a b:Nat):(am (a*b)).length<=(am a).length+(am b).length:=by
 by_cases hb:b=0
 ·subst hb; simp[cu]
 refine bc ?_
 have j:=bN (am a); have k:=bN (am b)
 rw[al]at j k
 rw[bu]
 exact Nat.mul_lt_mul_of_lt_of_le j (bG k) (eu (by have:=dF (n:=(am b).length) (show 0<4294967296 by decide); omega))
theorem CN (x y:Int):nl (x*y)<=nl x+nl y:=by
 unfold nl; rw[Int.natAbs_mul]; exact kc _ _
theorem CJ (x y:Int):nl (x+y)<=max (nl x) (nl y)+1:=by
 unfold nl
 exact aA (db (Int.natAbs_add_le x y)) (kH _ _)
theorem HW (x:Int):nl (-x)=nl x:=by unfold nl; rw[Int.natAbs_neg]
theorem Iz (x y:Int):nl (x - y)<=max (nl x) (nl y)+1:=by
 rw[Int.sub_eq_add_neg,<-HW y]; exact CJ x (-y)
theorem mF {x y:Int} (h:x.natAbs<=y.natAbs):nl x<=nl y:=db h
theorem A8 {z:Int} {k:Nat} (h:z.natAbs<4294967296^k):nl z<=k:=bc h
theorem tw (x:Int) {m:Int} (h:0<m):nl (x%m)<=nl m:=mF (by
 have:=jh x (show m≠0 by omega); have:=Int.emod_lt_of_pos x h; omega)
theorem zh (n0:Bool) (j:L8) (b:Bool) (a:L8):F.Ue n0 j b a=some (b&&decide (a≠[]),a):=by
 unfold F.Ue F.acf
 cases b with
 | false=>rfl
 | true=>
  simp only[bo,fH]
  congr 2
  cases a <;> simp
theorem mN (n0:Bool) (k:L8) (b:Bool) (z:Int) (h:z≠0->(b=true↔z<0)):F.Ue n0 k b (am z.natAbs)=some (bi z):=by
 rw[zh]
 congr 1
 unfold bi
 congr 1
 by_cases h0:z=0
 ·subst h0
  rw[show am (Int.natAbs 0)=[] from cu]
  simp
 ·have j:am z.natAbs≠[]:=by rw[Ne,oo]; omega
  simp only[ne_eq,j,not_false_eq_true,decide_true,Bool.and_true]
  have:=h h0
  cases b with
  | true=>exact (ah (this.1 rfl)).symm
  | false=>exact (an (fun hz=>by have:=this.2 hz; cases this)).symm
theorem DR (x y:Int) (hx:nl x<=70000000000000) (hy:nl y<=70000000000000):∃b,F.U2 (bi x).1 (bi x).2 (bi y).1 (bi y).2=some (b,am (x+y).natAbs)/\(x+y≠0->(b=true↔x+y<0)):=by
 unfold F.U2
 have B:(bi x).2.length<=70000000000000:=hx
 have G:(bi y).2.length<=70000000000000:=hy
 have j:val (bi x).2=x.natAbs:=al _
 have k:val (bi y).2=y.natAbs:=al _
 have z:(bi x).1=decide (x<0):=rfl
 have A:(bi y).1=decide (y<0):=rfl
 by_cases hs:(decide (x<0))=(decide (y<0))
 ·rw[z,A,af (by rw[hs]; exact jS _),xq _ _ q10 q10,aa,j,k]
  have:(x<0)↔(y<0):=by simpa using hs
  refine⟨_,by rw[show (x+y).natAbs=x.natAbs+y.natAbs by omega],fun _=>?_⟩
  rw[aj]; omega
 ·have:¬((x<0)↔(y<0)):=by simpa using hs
  rw[z,A,ae (by simpa using hs),wC _ _ (rX _) (rX _) q10 q10,aa,j,k]
  unfold cW
  by_cases h1:x.natAbs<y.natAbs
  ·rw[af h1,ae q11,DP _ _ (Np q10) (by rw[j,k]; omega) q10,aa,j,k]
   refine⟨_,by rw[show (x+y).natAbs=y.natAbs - x.natAbs by omega],fun _=>?_⟩
   rw[aj]; omega
  ·rw[ae h1,af (by split <;> decide),DP _ _ (Np q10) (by rw[j,k]; omega) q10,aa,j,k]
   refine⟨_,by rw[show (x+y).natAbs=x.natAbs - y.natAbs by omega],fun _=>?_⟩
   rw[aj]; omega
theorem P6 (n0:Bool) (j:L8) (x y:Int) (hx:nl x<=70000000000000) (hy:nl y<=70000000000000):F.X7 n0 j (bi x).1 (bi x).2 (bi y).1 (bi y).2=some (bi (x+y)):=by
 unfold F.X7
 obtain⟨b,k,z⟩:=DR x y hx hy
 rw[k,aa,mN _ _ _ _ z,aa]
theorem wW (x y:Int) (hx:nl x<=70000000000000) (hy:nl y<=70000000000000):F.Vr (bi x).1 (bi x).2 (bi y).1 (bi y).2=some (bi (x+y)):=by
 unfold F.Vr
 obtain⟨b,j,k⟩:=DR x y hx hy
 rw[j,aa,mN _ _ _ _ k,aa]
theorem zm (x y:Int) (hx:nl x<=70000000000000) (hy:nl y<=70000000000000):∃b,F.U2 (bi x).1 (bi x).2 (!(bi y).1) (bi y).2=some (b,am (x - y).natAbs)/\(x - y≠0->(b=true↔x - y<0)):=by
 by_cases h0:y=0
 ·
  subst h0
  unfold F.U2
  have I:(bi x).2.length<=70000000000000:=hx
  have z:(bi 0).2=[]:=cu
  have es:(bi 0).1=false:=rfl
  have k:val (bi x).2=x.natAbs:=al _
  rw[z,es]
  have j:(bi x).1=decide (x<0):=rfl
  by_cases hs:x<0
  ·rw[j,af (by rw[ah hs]; rfl),xq _ _ q10 (by simp),aa,k,jX]
   refine⟨_,by rw[show (x - 0).natAbs=x.natAbs+0 by omega],fun _=>by rw[aj]; omega⟩
  ·rw[j,ae (by rw[an hs]; decide),wC _ _ (rX _) zp q10 (by simp),aa,k,jX]
   have A:cW x.natAbs 0=if x.natAbs=0 then 0 else 1:=by unfold cW; rw[ae q10]
   rw[A,af (by split <;> decide),DP _ _ (by simp) (by rw[jX]; omega) q10,aa,k,jX]
   refine⟨_,by rw[show (x - 0).natAbs=x.natAbs - 0 by omega],fun _=>by rw[aj]; omega⟩
 ·have B:(!(bi y).1)=(bi (-y)).1:=by
   unfold bi
   by_cases h:y<0
   ·rw[ah h,an q10]; rfl
   ·rw[an h,ah q10]; rfl
  have G:(bi y).2=(bi (-y)).2:=by rw[bi2,bi2,Int.natAbs_neg]
  rw[B,G,Int.sub_eq_add_neg]
  exact DR x (-y) hx (by rw[HW]; exact hy)
theorem JO (n0:Bool) (j:L8) (x y:Int) (hx:nl x<=70000000000000) (hy:nl y<=70000000000000):F.Xj n0 j (bi x).1 (bi x).2 (bi y).1 (bi y).2=some (bi (x - y)):=by
 unfold F.Xj
 obtain⟨b,k,z⟩:=zm x y hx hy
 rw[k,aa,mN _ _ _ _ z,aa]
theorem Gp (x y:Int) (hx:nl x<=70000000000000) (hy:nl y<=70000000000000):F.VH (bi x).1 (bi x).2 (bi y).1 (bi y).2=some (bi (x - y)):=by
 unfold F.VH
 obtain⟨b,j,k⟩:=zm x y hx hy
 rw[j,aa,mN _ _ _ _ k,aa]
theorem Gb (x y:Int) (hx:nl x<=70000000000000) (hy:nl y<=70000000000000):F.ZE (bi y).1 (bi y).2 (bi x).1 (bi x).2=some (bi (x - y)):=by
 unfold F.ZE
 obtain⟨b,j,k⟩:=zm x y hx hy
 rw[j,aa,mN _ _ _ _ k,aa]
theorem PA (x y:Int) (h:x*y≠0):((decide (x<0) != decide (y<0))=true↔x*y<0):=by
 have hx:x≠0:=fun j=>h (by rw[j,Int.zero_mul])
 have hy:y≠0:=fun j=>h (by rw[j,Int.mul_zero])
 by_cases h1:x<0 <;> by_cases h2:y<0
 ·have:=Int.mul_pos_of_neg_of_neg h1 h2
  simp[h1,h2]; omega
 ·have:=Int.mul_neg_of_neg_of_pos h1 (show 0<y by omega)
  simp[h1,h2,this]
 ·have:=Int.mul_neg_of_pos_of_neg (show 0<x by omega) h2
  simp[h1,h2,this]
 ·have:=Int.mul_pos (show 0<x by omega) (show 0<y by omega)
  simp[h1,h2]; omega
theorem Cs (n0:Bool) (j:L8) (x y:Int) (h:nl x+nl y<=70368744177664):F.Wf n0 j (bi x).1 (bi x).2 (bi y).1 (bi y).2=some (bi (x*y)):=by
 unfold F.Wf
 have k:(bi x).2.length+(bi y).2.length<=70368744177664:=h
 rw[KB _ _ q10,aa,r7,r7,<-Int.natAbs_mul,bis,bis,mN _ _ _ _ (PA x y),aa]
theorem Es (n0:Bool) (k:L8) (x:Int) (A:-9223372036854775808<=x) (B:x<=9223372036854775807):F.WO n0 k x=some (bi x):=by
 have j:∀u:UInt64,u.toNat=x.natAbs->F.abB n0 k x u=some (bi x):=by
  intro u hu
  unfold F.abB
  dsimp only
  rw[pm,aa,hu,mN _ _ _ _ (fun _=>by rw[aj]),aa]
 unfold F.WO
 have z:(UInt64.ofInt x).toNat=(x%18446744073709551616).toNat:=by
  rw[UInt64.ofInt,bO]
  have:=jh x (show (18446744073709551616:Int)≠0 by decide)
  have:=Int.emod_lt_of_pos x (show (0:Int)<18446744073709551616 by decide)
  omega
 by_cases h:x<0
 ·rw[af (ah h)]
  refine j _ ?_
  rw[fO,z]
  have:(0:UInt64).toNat=0:=rfl
  omega
 ·rw[ae (by simpa using h)]
  refine j _ ?_
  rw[z]; omega
theorem oK (x:Int) (j:-9223372036854775808<=x) (k:x<=9223372036854775807):F.Uw x=some (bi x):=by
 unfold F.Uw
 rw[Es _ _ x j k,aa]
theorem FA (a:L8) (h:a.length<=50000000000000):F.VR a=some a:=by
 unfold F.VR
 have j:apO 4 [] a=some a:=by unfold apO; rw[af (by simp; omega)]; simp
 rw[j,aa]
theorem Dp (n0:Bool) (j:L8) (x:Int) (h:nl x<=50000000000000):F.Vx n0 j (bi x).1 (bi x).2=some (bi x):=by
 unfold F.Vx
 rw[FA (bi x).2 h,aa,bi2,bis,mN _ _ _ _ (fun _=>by rw[aj]),aa]
theorem BQ (x y:Int):(Int.tdiv x y).natAbs=x.natAbs / y.natAbs:=Int.natAbs_tdiv x y
theorem sj (x y:Int):(Int.tmod x y).natAbs=x.natAbs%y.natAbs:=Int.natAbs_tmod x y
theorem tC (n0 k:Bool) (z A:L8) (x y:Int) (hy:y≠0) (B:nl x<=70368744177660) (G:nl y<=70000000000) :
  F.W9 n0 z (bi x).1 (bi x).2 (bi y).1 (bi y).2 k A=some ((bi (Int.tdiv x y)).1,(bi (Int.tdiv x y)).2,(bi (Int.tmod x y)).1,(bi (Int.tmod x y)).2):=by
 unfold F.W9
 rw[Rz _ _ (rX _) (rX _) (by rw[bi2,Ne,oo]; omega) B G,aa,r7,r7]
 dsimp only
 rw[bis,bis,<-BQ,<-sj,mN _ _ _ _ (fun h=>?_),aa,mN _ _ _ _ (fun h=>?_),aa]
 ·show decide (x<0)=true↔_
  rw[aj]
  rcases Int.lt_trichotomy x 0 with j | j | j
  ·have:=Int.tmod_nonneg y (show 0<=-x by omega)
   rw[Int.neg_tmod]at this
   omega
  ·subst j; simp at h
  ·have:=Int.tmod_nonneg y (show 0<=x by omega)
   omega
 ·have hp:Int.tdiv x y≠0:=h
  show (decide (x<0) != decide (y<0))=true↔_
  by_cases hx:x<0 <;> by_cases hyn:y<0
  ·have:=Int.tdiv_nonneg_of_nonpos_of_nonpos (show x<=0 by omega) (show y<=0 by omega)
   simp[hx,hyn]; omega
  ·simp only[hx,hyn,decide_true,decide_false]
   have I:Int.tdiv x y<=0:=by
    have:=Int.tdiv_nonneg (a:=-x) (b:=y) q10 q10
    rw[Int.neg_tdiv]at this; omega
   simp; omega
  ·have I:Int.tdiv x y<=0:=by
    have:=Int.tdiv_nonneg (a:=x) (b:=-y) q10 q10
    rw[Int.tdiv_neg]at this; omega
   simp[hx,hyn]; omega
  ·have:=Int.tdiv_nonneg (a:=x) (b:=y) q10 q10
   simp[hx,hyn]; omega
theorem Jt {x y:Int} (hy:0<y) (h:Int.tmod x y<0):Int.tdiv x y - 1=x / y/\Int.tmod x y+y=x%y:=by
 have j:=Int.mul_tdiv_add_tmod x y
 have k:(Int.tmod x y).natAbs<y.natAbs:=by rw[sj]; exact ba _ q10
 have z:y*Int.tdiv x y=y*(Int.tdiv x y - 1)+y:=by rw[Int.mul_sub,Int.mul_one]; omega
 have:=(Int.ediv_emod_unique (a:=x) (b:=y) (q:=Int.tdiv x y - 1) (r:=Int.tmod x y+y) hy).2 ⟨by omega,by omega,by omega⟩
 exact⟨this.1.symm,this.2.symm⟩
theorem HG {x y:Int} (hy:0<y) (h:¬Int.tmod x y<0):Int.tdiv x y=x / y/\Int.tmod x y=x%y:=by
 have j:=Int.mul_tdiv_add_tmod x y
 have k:(Int.tmod x y).natAbs<y.natAbs:=by rw[sj]; exact ba _ q10
 have:=(Int.ediv_emod_unique (a:=x) (b:=y) (q:=Int.tdiv x y) (r:=Int.tmod x y) hy).2 ⟨by omega,by omega,by omega⟩
 exact⟨this.1.symm,this.2.symm⟩
theorem NW (x y:Int):nl (Int.tdiv x y)<=nl x:=mF (by rw[BQ]; exact dy _ _)
theorem PD (x y:Int):nl (Int.tmod x y)<=nl x:=mF (by rw[sj]; exact Nat.mod_le _ _)
theorem CZ:nl 1<=1:=A8 q11
theorem Aq (n0 A:Bool) (B G:L8) (x y:Int) (hy:0<y) (I:nl x<=70368744177660) (J:nl y<=70000000000) (z:x<0->nl x<=70000000000000) :
  F.Xh n0 B (bi x).1 (bi x).2 (bi y).1 (bi y).2 A G=some ((bi (x / y)).1,(bi (x / y)).2,(bi (x%y)).1,(bi (x%y)).2):=by
 have N:=NW x y; have O:=PD x y; have R:=CZ
 unfold F.Xh
 rw[Dp _ _ _ q10,aa,tC _ _ _ _ _ _ q10 I J,aa]
 dsimp only
 by_cases h:Int.tmod x y<0
 ·obtain⟨j,k⟩:=Jt hy h
  have z:=z (by rcases Int.lt_or_le x 0 with hx | hx; exact hx; have:=Int.tmod_nonneg y hx; omega)
  rw[af (show (bi (Int.tmod x y)).1=true from ah h),ae (by rw[bi1 q10]; decide),oK 1 q11 q11,aa,Gp _ _ q10 q10,aa,wW _ _ q10 q10,aa,j,k]
  rfl
 ·obtain⟨j,k⟩:=HG hy h
  rw[ae (by rw[show (bi (Int.tmod x y)).1=false from an h]; decide),j,k]
  rfl
theorem A2 (n0 j z:Bool) (A k B:L8):F.ace n0 A z B j k=F.Xh n0 A j k z B j k:=rfl
theorem Kd (n0:Bool) (j:L8) (x y:Int) (hy:0<y) (k:nl x<=70368744177660) (z:nl y<=70000000000) (A:x<0->nl x<=70000000000000):F.Za n0 j (bi x).1 (bi x).2 (bi y).1 (bi y).2=some (bi (x%y)):=by
 unfold F.Za
 rw[Aq _ _ _ _ x y hy k z A,aa]
theorem HC (x y:Int) (hy:0<y) (j:nl x<=70368744177660) (k:nl y<=70000000000) (z:x<0->nl x<=70000000000000):F.abE (bi x).1 (bi x).2 (bi y).1 (bi y).2=some (bi (x%y)):=by
 unfold F.abE
 rw[A2,Aq _ _ _ _ x y hy j k z,aa]
def BG (x y:Int):Int:=if x<y then -1 else if x=y then 0 else 1
theorem wK (x y:Int) (hx:nl x<=70368744177664) (hy:nl y<=70368744177664):F.VB (bi x).1 (bi x).2 (bi y).1 (bi y).2=some (BG x y):=by
 have B:(bi x).2.length<=70368744177664:=hx
 have G:(bi y).2.length<=70368744177664:=hy
 unfold F.VB BG
 rw[wC _ _ (rX x) (rX y) q10 q10,r7,r7]
 unfold cW
 have j:(bi x).1=decide (x<0):=rfl
 have k:(bi y).1=decide (y<0):=rfl
 obtain⟨I,z⟩:∃q,(bi x).1=q:=⟨_,rfl⟩
 obtain⟨J,A⟩:∃q,(bi y).1=q:=⟨_,rfl⟩
 rw[z]at j ⊢; rw[A]at k ⊢
 by_cases h1:x<0 <;> by_cases h2:y<0
 ·rw[ah h1]at j; rw[ah h2]at k; subst j; subst k
  rw[ae q11,aa,af rfl]
  rcases Int.lt_trichotomy x y with h | h | h
  ·rw[af h,ae q10,ae q10]; rfl
  ·rw[ae q10,af q10,ae q10,af h]; rfl
  ·rw[af q10,ae q10,ae q10]; rfl
 ·rw[ah h1]at j; rw[an h2]at k; subst j; subst k
  rw[af q11,af rfl,af q10]
 ·rw[an h1]at j; rw[ah h2]at k; subst j; subst k
  rw[af q11,ae q11,ae q10,ae q10]
 ·rw[an h1]at j; rw[an h2]at k; subst j; subst k
  rw[ae q11,aa,ae q11]
  rcases Int.lt_trichotomy x y with h | h | h
  ·rw[af q10,af h]
  ·rw[ae q10,af q10,ae q10,af h]
  ·rw[ae q10,ae q10,ae q10,ae q10]
theorem yE (x:Int):F.UJ (bi x).1 (bi x).2=some (if x=0 then 0 else if x<0 then -1 else 1):=by
 unfold F.UJ
 by_cases h:x=0
 ·subst h; rw[af rfl]; exact af (by rw[bi2,show Int.natAbs 0=0 from rfl,cu]; rfl)
 ·have:(bi x).2.length≠0:=fun j=>h (by have:=bA j; rw[bi2,oo]at this; omega)
  rw[ae (by simpa using fun j=>this (by rw[j]; rfl)),ae h,bis]
  by_cases h1:x<0
  ·rw[af (by simp[h1]),af h1]
  ·rw[ae (by simp[h1]),ae h1]
def beN:L00->Nat
 | []=>0
 | x :: l=>x.toNat*256^l.length+beN l
def beB:Nat->Nat->L00
 | 0,_=>[]
 | k+1,n=>UInt8.ofNat (n / 256^k) :: beB k n
theorem gl:∀k n,(beB k n).length=k
 | 0,_=>rfl
 | k+1,n=>by simp[beB,gl k n]
theorem gS:∀l:L00,beN l<256^l.length
 | []=>by simp[beN]
 | x :: l=>by
  have j:=gS l; have k:=x.toNat_lt
  have:(x.toNat+1)*256^l.length<=256*256^l.length:=bg _ q10
  rw[bd]at this
  rw[beN,dN,aU,aP (256^_) 256]
  omega
theorem pe:∀k n,beN (beB k n)=n%256^k
 | 0,n=>by simp[beB,beN,Nat.mod_one]
 | k+1,n=>by
  rw[beB,beN,gl,pe k n,cp,show (2:Nat)^8=256 from rfl,Nat.mod_pow_succ,aP (256^k),bW]
theorem mu:∀a b:L00,beN (a++b)=beN a*256^b.length+beN b
 | [],b=>by simp[beN]
 | x :: a,b=>by
  rw[i9,beN,beN,mu a b,aR,bd,bu,aD]; omega
theorem yI:∀{a b:L00},a.length=b.length->beN a=beN b->a=b
 | [],[],_,_=>rfl
 | [],_ :: _,h,_=>by simp at h
 | _ :: _,[],h,_=>by simp at h
 | x :: a,y :: b,h,h2=>by
  have hl:a.length=b.length:=by simpa using h
  rw[beN,beN,hl]at h2
  have j:=gS a; have k:=gS b
  rw[hl]at j
  have hp:0<256^b.length:=dF q11
  have z:(x.toNat*256^b.length+beN a) / 256^b.length=x.toNat:=by rw[bW,gx _ _ hp,bE j,bn]
  have A:(y.toNat*256^b.length+beN b) / 256^b.length=y.toNat:=by rw[bW,gx _ _ hp,bE k,bn]
  have:x.toNat=y.toNat:=by rw[<-z,<-A,h2]
  have hx:x=y:=cO.1 this
  subst hx
  rw[yI hl q10]
theorem Oz (l:L00):beB l.length (beN l)=l:=yI (gl _ _) (by rw[pe,av (gS l)])
theorem zF:∀(k:Nat) (l:L00),beN (List.replicate k 0++l)=beN l
 | 0,l=>rfl
 | k+1,l=>by rw[List.replicate_succ,i9,beN,zF k l]; simp
theorem nf (l:L00) {i:Nat} (h:i<l.length):beN (l.take (i+1))=256*beN (l.take i)+(l.getD i 0).toNat:=by
 rw[gR,ak,aw h,mu]
 simp[beN]; omega
theorem wl:∀(k n i:Nat),i<k->(beB k n).getD i 0=UInt8.ofNat (n / 256^(k - 1 - i))
 | 0,_,_,h=>by omega
 | k+1,n,0,_=>by simp[beB]
 | k+1,n,i+1,h=>by
  rw[beB,List.getD_cons_succ,wl k n i q10,show k+1 - 1 - (i+1)=k - 1 - i by omega]
theorem gZ {n k:Nat} (h:n<256^k):(am n).length<=(k+3) / 4:=by
 refine bc (aO h ?_)
 rw[show (4294967296:Nat)=256^4 from rfl,<-bB]
 exact aE q11 q10
theorem ru (n0:Bool) (k:L8) (b:L00) (hb:b.length<=140737488351232):F.V7 n0 k b=some (bi (beN b:Nat)):=by
 unfold F.V7
 have e:=dC (f:=F.aad n0 k b) (fun (x:Nat) i=>(am x,(i:Int))) (fun i x=>i<=b.length->x=beN (b.take i)) (fun x i=>256*x+(b.getD i 0).toNat) 0 b.length
  (X:=fun x=>some (bi (x:Nat)))
  (fun i x _ hi hx=>by
   have hx:=hx q10
   refine⟨?_,fun _=>by rw[hx,nf b hi]⟩
   have A:wI ((i:Int)+1)=((i+1:Nat):Int):=by rw[ay q10 q10]; rfl
   have hl:(am x).length<=(i+3) / 4:=by
    rw[hx]
    have:=gS (b.take i)
    rw[az,aT q10]at this
    exact gZ this
   have z:(8:UInt64).toNat=8:=rfl
   unfold F.aad
   dsimp only
   rw[af (ah q10),yr _ 8 (by rw[z]; omega) q10,aa,aG hi 0,aa,pm,aa,al,z]
   have B:(am (x*2^8)).length<=(i+3) / 4+1:=by
    have:=kc x (2^8)
    have I:(am (2^8)).length<=1:=bc q11
    omega
   have G:(am (b.getD i 0).toUInt64.toNat).length<=2:=bc (by have:=(b.getD i 0).toUInt64.toNat_lt; omega)
   rw[xq _ _ q10 q10,aa,al,al,A]
   have:(b.getD i 0).toUInt64.toNat=(b.getD i 0).toNat:=UInt8.toNat_toUInt64 _
   rw[this,show x*2^8=256*x by omega]; rfl)
  (fun x hx=>by
   unfold F.aad
   dsimp only
   rw[ae (by simp),zh,aa,IB]; rfl)
  b.length 0 0 (aq _) q10 (fun _=>by simp[beN])
 have j:=eO (fun i (x:Nat)=>i<=b.length->x=beN (b.take i)) (fun x i=>256*x+(b.getD i 0).toNat) (fun i x hx=>fun hi=>by rw[hx q10,nf b q10]) b.length 0 0 (fun _=>by simp[beN])
 rw[bn]at j
 have j:=j (aq _)
 rw[j,cJ]at e
 rw[cu]at e
 exact e
theorem tl {n k:Nat} (j:n<2^k) (z:2^(k - 1)<=n) (A:1<=k):nb n=k:=by
 have B:=mE j
 rcases cI (nb n) k with h | h
 ·have G:=(fi n).1
  have I:=aE (show 0<2 by decide) (show nb n<=k - 1 by omega)
  omega
 ·omega
theorem pz (n:Nat):oR (am n)=nb n:=by
 unfold oR
 by_cases h0:n=0
 ·subst h0; rw[cu,af (show ([]:L8).length=0 from rfl),lU]
 ·obtain⟨l,hl⟩:∃l,am n=l:=⟨_,rfl⟩
  have j:l.length≠0:=by have:=mi.2 h0; rw[hl]at this; omega
  have B:val l=n:=by rw[<-hl,al]
  have hc:Can l:=by rw[<-hl]; exact Ae n
  rw[hl,ae j]
  have k:=cH l (l.length - 1)
  rw[show l.length - 1+1=l.length by omega,cJ,B]at k
  have G:=bN (l.take (l.length - 1))
  rw[az,aT q10]at G
  obtain⟨t,z⟩:∃t,l.getD (l.length - 1) 0=t:=⟨_,rfl⟩
  rw[z]at k ⊢
  have A:t.toNat≠0:=by
   intro h
   have h:t=0:=cz.1 h
   refine hc ?_
   rw[List.getLast?_eq_getElem?]
   rw[<-z,ak,aw (show l.length - 1<l.length by omega)]at h
   rw[aw (show l.length - 1<l.length by omega),<-h]; rfl
  obtain⟨n1,I⟩:=fi t.toNat
  obtain⟨J,N⟩:=I A
  have hp:(4294967296:Nat)^(l.length - 1)=2^(32*(l.length - 1)):=by rw[bB]
  symm
  refine tl ?_ ?_ q10
  ·rw[bu,<-hp]
   have:4294967296^(l.length - 1)*(t.toNat+1)<=4294967296^(l.length - 1)*2^nb t.toNat:=bf _ n1
   rw[aF]at this
   omega
  ·rw[show 32*(l.length - 1)+nb t.toNat - 1=32*(l.length - 1)+(nb t.toNat - 1) by omega,bu,<-hp]
   have:4294967296^(l.length - 1)*2^(nb t.toNat - 1)<=4294967296^(l.length - 1)*t.toNat:=bf _ J
   omega
def nby (n:Nat):Nat:=(nb n+7) / 8
theorem DH (k:Nat):(256:Nat)^k=2^(8*k):=by rw[bB]
theorem xU (n:Nat):n<256^nby n:=by
 rw[DH]
 exact aO (fi n).1 (aE q11 (by unfold nby; omega))
theorem IF {n i:Nat} (h:i<nby n):256^i<=n:=by
 rw[DH]
 have hn:n≠0:=by rintro rfl; unfold nby at h; rw[lU]at h; omega
 obtain⟨j,k⟩:=(fi n).2 hn
 exact aA (aE q11 (by unfold nby at h; omega)) j
theorem IK {n k:Nat} (h:n<256^k):nby n<=k:=by
 rcases cI k (nby n) with j | j
 ·have:=IF j; omega
 ·exact j
theorem mf (n:Nat):nb n<=32*(am n).length:=by
 refine mE ?_
 have:=bN (am n)
 rw[al]at this
 rw[bB]; exact this
theorem qW (l:L8) (i:Nat):(cq (l.getD (i / 4) 0) (8*(i%4))).toUInt8=UInt8.ofNat (val l / 256^i):=by
 apply cO.1
 rw[fb,lP,cp]
 have e8:(2:Nat)^8=256:=rfl
 rw[e8]
 have j:(256:Nat)^i=4294967296^(i / 4)*256^(i%4):=by
  rw[show (4294967296:Nat)=256^4 from rfl,<-bB,<-bu]; congr 1; omega
 rw[j,<-dq,lW,d9]
 obtain⟨w,k⟩:∃w,(l.getD (i / 4) 0).toNat=w:=⟨_,rfl⟩
 obtain⟨R,z⟩:∃R,val (l.drop (i / 4+1))=R:=⟨_,rfl⟩
 rw[k,z]
 have:i%4=0\/i%4=1\/i%4=2\/i%4=3:=by omega
 rcases this with h | h | h | h <;> rw[h] <;> simp <;> omega
theorem Mg (x:Int) (hx:nl x<=1000000000):F.ZZ (bi x).1 (bi x).2=some (beB (nby x.natAbs) x.natAbs):=by
 obtain⟨n,hn⟩:∃n,x.natAbs=n:=⟨_,rfl⟩
 have hl:(am n).length<=1000000000:=by rw[<-hn]; exact hx
 have hb:=mf n
 obtain⟨m,hm⟩:∃m,nby n=m:=⟨_,rfl⟩
 have V:m<=4*(am n).length:=by rw[<-hm]; unfold nby; omega
 unfold F.ZZ
 rw[bi2,hn,length_eq _ q10,aa,pz]
 have B:wI (Int.tdiv (wI ((nb n:Int)+7)) 8)=(m:Int):=by
  rw[ay (x:=(nb n:Int)+7) q10 q10,bQ q10,ay q10 q10,<-hm]; unfold nby; omega
 rw[B,aS,fU q10,aa,ao,hm]
 have e:=dC (f:=F.ab9 (am n) (m:Int)) (fun (y:L00) i=>((i:Int),y)) (fun i y=>i<=m->y=List.replicate (m - i) 0++beB i n) (fun y i=>y.set (m - 1 - i) (UInt8.ofNat (n / 256^i))) 0 m
  (X:=fun y=>some y)
  (fun i y _ hi hy=>by
   have hy:=hy q10
   have z:y.set (m - 1 - i) (UInt8.ofNat (n / 256^i))=List.replicate (m - (i+1)) 0++beB (i+1) n:=by
    rw[hy,show m - i=m - (i+1)+1 by omega,ez,bh,show m - 1 - i=m - (i+1) by omega,eQ _ _ (by simp)]
    simp[beB]
   refine⟨?_,fun _=>z⟩
   have A:i / 4<(am n).length:=by
    refine tZ (k:=i / 4) ?_
    refine aA ?_ (IF (show i<nby n by omega))
    rw[show (4294967296:Nat)=256^4 from rfl,<-bB]
    exact aE q11 q10
   have Y:y.length=m:=by rw[hy]; simp[gl]; omega
   have G:wI ((i:Int)+1)=((i+1:Nat):Int):=by rw[ay q10 q10]; rfl
   have I:wI (Int.tdiv (i:Int) 4)=((i / 4:Nat):Int):=by rw[bQ q10,ay q10 q10]; omega
   have J:wI ((wI ((m:Int) - 1)) - (i:Int))=((m - 1 - i:Nat):Int):=by rw[ay (x:=(m:Int) - 1) q10 q10,ay q10 q10]; omega
   have N:(8*((UInt64.ofInt (i:Int))%4)).toNat=8*(i%4):=by
    have O:(UInt64.ofInt (i:Int)).toNat=i:=by
     rw[UInt64.ofInt,bO]
     omega
    have R:(4:UInt64).toNat=4:=rfl
    have U:(8:UInt64).toNat=8:=rfl
    rw[UInt64.toNat_mul,dM,O,R,U]; omega
   unfold F.ab9
   dsimp only
   rw[af (ah q10),I,aG A 0,aa,J,aG (show m - 1 - i<y.length by omega) 0,aa,aS,ao,N,qW,al,G]
   rfl)
  (fun y hy=>by
   unfold F.ab9
   dsimp only
   rw[ae (by simp)])
  m 0 (List.replicate m 0) (aq _) q10 (fun _=>by simp[beB])
 have j:=eO (fun i (y:L00)=>i<=m->y=List.replicate (m - i) 0++beB i n) (fun y i=>y.set (m - 1 - i) (UInt8.ofNat (n / 256^i)))
  (fun i y hy=>fun hi=>by
   rw[hy q10,show m - i=m - (i+1)+1 by omega,ez,bh,show m - 1 - i=m - (i+1) by omega,eQ _ _ (by simp)]
   simp[beB]) m 0 (List.replicate m 0) (fun _=>by simp[beB])
 rw[bn]at j
 have j:=j (aq _)
 rw[j,kv,List.replicate_zero,cZ]at e
 exact e
def ph (c:UInt8):Nat:=if c.toNat<=57 then c.toNat - 48 else c.toNat - 87
def jU (c:UInt8):Bool:=(48<=c.toNat&&c.toNat<=57) || (97<=c.toNat&&c.toNat<=102)
def iP:L00->Nat
 | []=>0
 | x :: l=>ph x*16^l.length+iP l
theorem zf {c:UInt8} (h:jU c=true):ph c<16:=by
 unfold jU at h; unfold ph
 simp only[fu,aW,aj]at h
 split <;> omega
theorem rm:∀a b:L00,iP (a++b)=iP a*16^b.length+iP b
 | [],b=>by simp[iP]
 | x :: a,b=>by
  rw[i9,iP,iP,rm a b,aR,bd,bu,aD]; omega
theorem yN:∀l:L00,l.all jU=true->iP l<16^l.length
 | [],_=>by simp[iP]
 | x :: l,h=>by
  rw[List.all_cons,aW]at h
  have j:=yN l h.2; have k:=zf h.1
  have:(ph x+1)*16^l.length<=16*16^l.length:=bg _ q10
  rw[bd]at this
  rw[iP,dN,aU,aP (16^_) 16]
  omega
theorem pr (l:L00) {i:Nat} (h:i<l.length):iP (l.take (i+1))=16*iP (l.take i)+ph (l.getD i 0):=by
 rw[gR,ak,aw h,rm]
 simp[iP]; omega
theorem wg {l:L00} {p:UInt8->Bool} (h:l.all p=true) {i:Nat} (hi:i<l.length):p (l.getD i 0)=true:=by
 rw[ak,aw hi]
 exact cr.1 h _ (i0 hi)
theorem Md {l:L00} {p:UInt8->Bool} (h:l.all p=true) (i:Nat):(l.take i).all p=true:=
 cr.2 fun x hx=>cr.1 h x (List.mem_of_mem_take hx)
theorem Ms (n0:Bool) (I:L8) (sg:Bool) (s:L00) (n i:Nat) (hs:s.all jU=true) (hi:i<s.length) (N:s.length<=1000000000) (hn:(am n).length<=1000000000) :
  F.XJ n0 I sg s 16 (am n,(i:Int))=some (.inl (am (16*n+ph (s.getD i 0)),((i+1:Nat):Int))):=by
 have hc:=wg hs hi
 obtain⟨c,z⟩:∃c,s.getD i 0=c:=⟨_,rfl⟩
 rw[z]at hc ⊢
 have hd:=zf hc
 have J:wI ((i:Int)+1)=((i+1:Nat):Int):=by rw[ay q10 q10]; rfl
 have A:∀d:Nat,d<16->F.We 16 (am n) (i:Int) (d:Int)=some (.inl (am (16*n+d),((i+1:Nat):Int))):=by
  intro d hd
  unfold F.We
  have B:(UInt64.ofInt 16).toNat=16:=rfl
  have G:(UInt64.ofInt (d:Int)).toNat=d:=by rw[UInt64.ofInt,bO]; omega
  have j:(am 16).length<=1:=bc q11
  have k:(am d).length<=1:=bc q10
  have O:=kc n 16
  rw[ae (by simp only[aj]; omega),pm,aa,B,KB _ _ q10,aa,pm,aa,G,al,al,xq _ _ q10 q10,aa,al,al,J,aP n 16]
  rfl
 unfold F.XJ
 dsimp only
 rw[af (ah q10),aG hi 0,aa,z]
 unfold jU at hc
 simp only[fu,aW,aj]at hc
 rw[af (ah (by rw[cT]; have:(48:UInt8).toNat=48:=rfl; omega))]
 unfold F.acw
 by_cases h:c.toNat<=57
 ·have j:(c - 48).toNat=c.toNat - 48:=jB _ _ (by rw[cT]; have:(48:UInt8).toNat=48:=rfl; omega)
  have k:ph c=c.toNat - 48:=af h
  rw[af (ah (by rw[cT]; exact h)),aS,j,k]
  exact A _ q10
 ·have j:(c - 97).toNat=c.toNat - 97:=jB _ _ (by rw[cT]; have:(97:UInt8).toNat=97:=rfl; omega)
  have k:ph c=c.toNat - 87:=ae h
  rw[ae (by rw[aj,cT]; exact h),af (ah (by rw[cT]; have:(97:UInt8).toNat=97:=rfl; omega))]
  unfold F.acp
  rw[af (ah (by rw[cT]; have:(122:UInt8).toNat=122:=rfl; omega)),aS,j,ay q10 q10,k,show ((c.toNat - 97:Nat):Int)+10=((c.toNat - 87:Nat):Int) by omega]
  exact A _ q10
theorem Bv (n0:Bool) (A:L8) (s:L00) (hs:s.all jU=true) (B:s≠[]) (G:s.length<=1000000000):F.ZR n0 A s 16=some (true,false,am (iP s)):=by
 have hl:0<s.length:=fE.2 B
 have hc:=wg hs hl
 unfold jU at hc
 simp only[fu,aW,aj]at hc
 have z:∀d:UInt8,d.toNat<48->(s.getD 0 0 == d)=false:=fun d hd=>by
  rw[cd]; intro h; rw[h]at hc; omega
 unfold F.ZR
 rw[af (ah q10),show (0:Int)=((0:Nat):Int) from rfl,aG hl 0,aa,ae (by rw[z 45 q11]; decide),aa,z 43 q11]
 unfold F.abJ F.acF
 rw[ae q11]
 dsimp only
 rw[ae q11]
 unfold F.XP
 dsimp only
 rw[ae (by simpa using B),ae q11]
 unfold F.Zs
 rw[ae q11]
 have J:∀i,i<=s.length->(am (iP (s.take i))).length<=1000000000:=fun i hi=>by
  have I:=yN (s.take i) (Md hs i)
  rw[az,aT hi]at I
  have N:=gZ (k:=i) (aO I (Nat.pow_le_pow_left q11 i))
  omega
 have e:=dC (f:=F.XJ n0 A false s 16) (fun (x:Nat) i=>(am x,(i:Int))) (fun i x=>i<=s.length->x=iP (s.take i)) (fun x i=>16*x+ph (s.getD i 0)) 0 s.length
  (X:=fun x=>some (true,false,am x))
  (fun i x _ hi hx=>by
   have hx:=hx q10
   exact⟨Ms n0 A false s x i hs hi G (by rw[hx]; exact J i q10),fun _=>by rw[hx,pr s hi]⟩)
  (fun x hx=>by
   unfold F.XJ
   dsimp only
   rw[ae (by simp),zh,aa]; rfl)
  s.length 0 0 (aq _) q10 (fun _=>by simp[iP])
 have j:=eO (fun i (x:Nat)=>i<=s.length->x=iP (s.take i)) (fun x i=>16*x+ph (s.getD i 0)) (fun i x hx=>fun hi=>by rw[hx q10,pr s q10]) s.length 0 0 (fun _=>by simp[iP])
 rw[bn]at j
 have j:=j (aq _)
 rw[j,cJ,cu]at e
 exact e
theorem vk (a:L8) (ha:a.length<=4611686018427387904):∀k,k<=a.length->(∀j,k<=j->a.getD j 0=0)->∃m,loop (F.Y0 a) k=some m/\m<=a.length/\a.take m=am (val a)
 | 0,_,hz=>by
  refine⟨0,?_,by omega,q5 q10 hz (.inl rfl)⟩
  have h:F.Y0 a 0=bz (grd (0<=(((a.take 0).length:Int):Int)/\(((a.take 0).length:Int):Int).toNat<=(a.take 0).length/\(((a.take 0).length:Int):Int)=((a.take 0).length:Int)) <| some ((((a.take 0).length:Int):Int).toNat)):=rfl
  rw[bm h,grd_true _ (by simp)]; rfl
 | k+1,hk,hz=>by
  have hl:(a.take (k+1)).length=k+1:=by rw[az]; omega
  have w:wI (((k+1:Nat):Int) - 1)=(k:Int):=by rw[ay q10 q10]; omega
  have hg:au (a.take (k+1)) (k:Int)=some (a.getD k 0):=by
   rw[aG (show k<(a.take (k+1)).length by omega) 0]
   congr 1
   rw[ak,bY,af q10,<-ak]
  have hL:F.Y0 a (k+1)=if (decide ((0:Int)<((a.take (k+1)).length:Int)))=true then ag (au (a.take (k+1)) (wI (((a.take (k+1)).length:Int) - 1):Int)) fun z=>F.VE a (k+1) (z == 0) else F.VE a (k+1) false:=rfl
  rw[hl,af (ah q10),w,hg,aa]at hL
  by_cases h0:a.getD k 0=0
  ·obtain⟨m,A,B⟩:=vk a ha k q10 (fun j G=>by
    rcases cI k j with h | h
    ·exact hz j q10
    ·rw[show j=k by omega]; exact h0)
   refine⟨m,?_,B⟩
   rw[<-A]
   refine bv ?_
   rw[hL,h0]
   unfold F.VE
   rw[af (by rfl),hl,w,grd_true _ q10]; rfl
  ·refine⟨k+1,?_,hk,q5 hk hz (.inr (by simpa using h0))⟩
   have hn:(a.getD k 0 == 0)=false:=by rw[cd]; exact h0
   rw[hn]at hL
   unfold F.VE at hL
   rw[ae q11,hl]at hL
   rw[bm hL,grd_true _ q10]; rfl
theorem kI (a:L8) (ha:a.length<=4611686018427387904):∃m,F.UI a=some m/\m<=a.length/\a.take m=am (val a):=
 vk a ha a.length (aq _) fun j k=>iW k
theorem jf (a:L8) (ha:a.length<=4611686018427387904):∃m,F.Ug a=some m/\m<=a.length/\a.take m=am (val a):=by
 obtain⟨m,j,k⟩:=kI a ha
 exact⟨m,by unfold F.Ug; rw[j,aa],k⟩
theorem By {n k:Nat} (h:2^k<=n):nb n=nb (n / 2^k)+k:=by
 have hp:=dz k
 have j:n / 2^k≠0:=by
  have:=Nat.div_le_div_right (c:=2^k) h
  rw[Nat.div_self hp]at this; omega
 obtain⟨z,A⟩:=fi (n / 2^k)
 obtain⟨B,G⟩:=A j
 refine tl ?_ ?_ q10
 ·rw[bu]; exact (fK hp).1 z
 ·rw[show nb (n / 2^k)+k - 1=nb (n / 2^k) - 1+k by omega,bu]
  exact (Nat.le_div_iff_mul_le hp).1 B
def y7:L00:=[0,1,2,2,3,3,3,3,4,4,4,4,4,4,4,4,5,5,5,5,5,5,5,5,5,5,5,5,5,5,5,5,6,6,6,6,6,6,6,6,6,6,6,6,6,6,6,6,6,6,6,6,6,6,6,6,6,6,6,6,6,6,6,6,7,7,7,7,7,7,7,7,7,7,7,7,7,7,7,7,7,7,7,7,7,7,7,7,7,7,7,7,7,7,7,7,7,7,7,7,7,7,7,7,7,7,7,7,7,7,7,7,7,7,7,7,7,7,7,7,7,7,7,7,7,7,7,7,8,8,8,8,8,8,8,8,8,8,8,8,8,8,8,8,8,8,8,8,8,8,8,8,8,8,8,8,8,8,8,8,8,8,8,8,8,8,8,8,8,8,8,8,8,8,8,8,8,8,8,8,8,8,8,8,8,8,8,8,8,8,8,8,8,8,8,8,8,8,8,8,8,8,8,8,8,8,8,8,8,8,8,8,8,8,8,8,8,8,8,8,8,8,8,8,8,8,8,8,8,8,8,8,8,8,8,8,8,8,8,8,8,8,8,8,8,8,8,8,8,8,8,8,8,8,8,8]
def ck (i:Nat) (t:Nat):Bool:=Nat.blt i (2^t)&&(Nat.beq i 0&&Nat.beq t 0 || Nat.ble (2^(t - 1)) i&&Nat.ble 1 t)
def ckA:L00->Nat->Bool
 | [],_=>true
 | x :: l,i=>ck i x.toNat&&ckA l (i+1)
theorem Jl:∀(l:L00) (i j:Nat),ckA l i=true->j<l.length->ck (i+j) (l.getD j 0).toNat=true
 | [],_,_,_,h=>by simp at h
 | x :: l,i,0,h,_=>by
  rw[ckA,aW]at h
  exact h.1
 | x :: l,i,j+1,h,hj=>by
  rw[ckA,aW]at h
  have:=Jl l (i+1) j h.2 (by simpa using hj)
  rw[List.getD_cons_succ,show i+(j+1)=i+1+j by omega]
  exact this
theorem N2:ckA y7 0=true:=by decide +kernel
theorem LJ:Nat.beq y7.length 256=true:=by decide +kernel
theorem p7 (b:Nat) (hb:b<256):∃t:UInt8,au y7 (b:Int)=some t/\t.toNat=nb b:=by
 have hl:=bP LJ
 have h:=Jl y7 0 b N2 q10
 rw[bn]at h
 unfold ck at h
 rw[aW,fu,aW,aW]at h
 obtain⟨z,j⟩:=h
 rw[gm]at z
 refine⟨y7.getD b 0,aG q10 0,?_⟩
 rcases j with⟨j,k⟩ | ⟨j,k⟩
 ·rw[bP j,lU]
  rw[bP j]at k
  exact bP k
 ·exact (tl z (ai j) (ai k)).symm
theorem DX (y:UInt32) (k:Int):F.aaI (y,k)=ag (au y7 (y.toUInt8.toNat:Int)) fun z=>bD (wI (k+(z.toNat:Int))) fun j=>some j:=rfl
theorem Bz (x:UInt32):F.Y9 x=some (nb x.toNat:Int):=by
 have hx:=eF x
 have z:∀(y:UInt32) (k:Nat),y.toNat<256->k<=24->F.aaI (y,(k:Int))=some ((nb y.toNat+k:Nat):Int):=by
  intro y k hy B
  have j:y.toUInt8.toNat=y.toNat:=by rw[fb]; omega
  obtain⟨t,G,I⟩:=p7 y.toNat hy
  have J:=mE (n:=y.toNat) (k:=8) hy
  rw[DX,j,G,aa,aS,I,ay q10 q10]
  congr 1; omega
 have A:∀(y:UInt32) (k:Nat),y.toNat<65536->k<=16->F.aaN (y,(k:Int))=some ((nb y.toNat+k:Nat):Int):=by
  intro y k hy B
  unfold F.aaN
  dsimp only
  by_cases h:256<=y.toNat
  ·have j:(cq y 8).toNat=y.toNat / 2^8:=by rw[lP]; rfl
   rw[af (ah (by rw[fC]; exact h)),ay q10 q10,show (k:Int)+8=((k+8:Nat):Int) by omega,z _ _ (by rw[j]; omega) q10,j,By (n:=y.toNat) (k:=8) q10]
   congr 1; omega
  ·rw[ae (by rw[aj,fC]; exact h)]
   exact z y k q10 q10
 unfold F.Y9
 by_cases h:65536<=x.toNat
 ·have j:(cq x 16).toNat=x.toNat / 2^16:=by rw[lP]; rfl
  rw[af (ah (by rw[fC]; exact h)),show (16:Int)=((16:Nat):Int) from rfl,A _ _ (by rw[j]; omega) q10,j,By (n:=x.toNat) (k:=16) q10]
 ·rw[ae (by rw[aj,fC]; exact h),show (0:Int)=((0:Nat):Int) from rfl,A _ _ q10 q10,bb]
theorem kO (a:L8) (ha:a.length<=100000000000000):F.Uo a=some (nb (val a):Int):=by
 obtain⟨m,j,A,k⟩:=jf a q10
 have hl:(am (val a)).length<=a.length:=bc (bN a)
 unfold F.Uo
 rw[j,aa,k,<-pz]
 unfold oR
 by_cases h0:(am (val a)).length=0
 ·rw[af (by rw[h0]; rfl),af h0]; rfl
 ·have z:wI (((am (val a)).length:Int) - 1)=(((am (val a)).length - 1:Nat):Int):=by rw[ay q10 q10]; omega
  have B:=GF ((am (val a)).getD ((am (val a)).length - 1) 0)
  rw[ae (by simpa using fun h=>h0 (by rw[h]; rfl)),ae h0,z,aG q10 0,aa,Bz,aa,ay (x:=32*_) q10 q10,ay q10 q10]
  congr 1
theorem FZ (o:L00) (a:L8) (ho:o.length<=1000000000000000) (ha:a.length<=100000000000000):F.XB o a=some (beB o.length (val a)):=by
 unfold F.XB
 have e:=dC (f:=F.abY o a) (fun (y:L00) i=>((i:Int),y)) (fun i y=>i<=o.length->y.length=o.length/\∀k,k<i->y.getD k 0=UInt8.ofNat (val a / 256^(o.length - 1 - k))) (fun y i=>y.set i (UInt8.ofNat (val a / 256^(o.length - 1 - i)))) 0 o.length
  (X:=fun y=>some y)
  (fun i y _ hi hy=>by
   obtain⟨hl,hy⟩:=hy q10
   refine⟨?_,fun _=>⟨by simpa using hl,fun k B=>?_⟩⟩
   ·have I:wI ((i:Int)+1)=((i+1:Nat):Int):=by rw[ay q10 q10]; rfl
    obtain⟨j,A⟩:∃t,o.length - 1 - i=t:=⟨_,rfl⟩
    have R:wI ((wI ((y.length:Int) - 1)) - (i:Int))=(j:Int):=by rw[hl,ay (x:=(o.length:Int) - 1) q10 q10,ay q10 q10]; omega
    have U:wI (Int.tdiv (j:Int) 4)=((j / 4:Nat):Int):=by rw[bQ q10,ay q10 q10]; omega
    have V:wI (8*(Int.tmod (j:Int) 4))=((8*(j%4):Nat):Int):=by rw[dv q10,ay q10 q10]; omega
    unfold F.abY
    dsimp only
    rw[af (ah q10),R,aS,aG (show i<y.length by omega) 0,aa,aS,U,ao]
    by_cases h:j / 4<a.length
    ·rw[af (ah q10),aG h 0,aa,V,grd_true _ q10,aG (show i<(y.set i 0).length by simp; omega) 0,aa,aS,ao,qW,A]
     unfold F.abP
     rw[I,List.set_set]; rfl
    ·rw[ae (by simp only[aj]; omega)]
     unfold F.abP
     have hz:val a / 256^j=0:=by
      refine bE (aO (bN a) ?_)
      rw[show (4294967296:Nat)=256^4 from rfl,<-bB]
      exact aE q11 q10
     rw[I,A,hz]; rfl
   ·rw[ak,gd]
    by_cases z:i=k
    ·subst z; rw[af rfl,af q10]; rfl
    ·rw[ae z,<-ak]; exact hy k q10)
  (fun y hy=>by
   unfold F.abY
   dsimp only
   rw[ae (by simp)])
  o.length 0 o (aq _) q10 (fun _=>⟨rfl,fun k B=>by omega⟩)
 have G:=eO (fun i (y:L00)=>i<=o.length->y.length=o.length/\∀k,k<i->y.getD k 0=UInt8.ofNat (val a / 256^(o.length - 1 - k))) (fun y i=>y.set i (UInt8.ofNat (val a / 256^(o.length - 1 - i))))
  (fun i y hy=>fun hi=>by
   obtain⟨hl,hy⟩:=hy q10
   refine⟨by simpa using hl,fun k B=>?_⟩
   rw[ak,gd]
   by_cases z:i=k
   ·subst z; rw[af rfl,af q10]; rfl
   ·rw[ae z,<-ak]; exact hy k q10) o.length 0 o (fun _=>⟨rfl,fun k B=>by omega⟩)
 rw[bn]at G
 obtain⟨y,hy⟩:∃y,(List.range' 0 o.length).foldl (fun y i=>y.set i (UInt8.ofNat (val a / 256^(o.length - 1 - i)))) o=y:=⟨_,rfl⟩
 rw[hy]at G e
 obtain⟨Y,Z⟩:=G (aq _)
 refine e.trans ?_
 congr 1
 refine ew (by rw[Y,gl]) fun k J z=>?_
 have N:=Z k q10
 have O:=wl o.length (val a) k q10
 rw[ak,aw J]at N
 rw[ak,aw z]at O
 exact N.trans O.symm
theorem Kn (a:L8) (ha:a.length<=35184372087808):F.aaL a=some (beB (nby (val a)) (val a)):=by
 obtain⟨m,j,A,k⟩:=jf a q10
 have hl:(am (val a)).length<=a.length:=bc (bN a)
 have hb:=mf (val a)
 have z:wI (Int.tdiv (wI ((nb (val a):Int)+7)) 8)=(nby (val a):Int):=by
  rw[ay (x:=(nb (val a):Int)+7) q10 q10,bQ q10,ay q10 q10]; unfold nby; omega
 have hn:nby (val a)<=4*(am (val a)).length:=by unfold nby; omega
 unfold F.aaL
 rw[kO a q10,aa,z,aS,fU q10,aa,j,aa,k,FZ _ _ (by simp; omega) q10,aa,ao,aZ,al]
theorem O9 (x y:UInt32) (t:Nat) (hy:y.toNat<256) (j:t<4) (hx:x.toNat%256^(t+1)=0):(x ||| dB y (8*t)).toNat=x.toNat+y.toNat*256^t:=by
 have hs:(dB y (8*t)).toNat=y.toNat*256^t:=by
  rw[n8,aT q10,bB,show (2:Nat)^8=256 from rfl,av]
  have:t=0\/t=1\/t=2\/t=3:=by omega
  rcases this with h | h | h | h <;> subst h <;> simp <;> omega
 rw[ji,hs]
 refine qD (8*(t+1)) (by rw[bB]; exact hx) ?_
 rw[bB,aU,aP]
 exact ft hy (dF q11)
theorem M0 {l:L8} {q t:Nat} (z:t<=4) (h:val l%256^(4*q+t)=0):(l.getD q 0).toNat%256^t=0:=by
 have k:val l / 256^(4*q)%256^t=0:=by
  rw[bu]at h
  have:=Nat.mod_mul_right_div_self (val l) (256^(4*q)) (256^t)
  rw[h,kw]at this
  exact this.symm
 rw[bB,show (256:Nat)^4=4294967296 from rfl,lW,d9]at k
 have:t=0\/t=1\/t=2\/t=3\/t=4:=by omega
 rcases this with j | j | j | j | j <;> subst j <;> simp at k ⊢ <;> omega
theorem fV (b:L00) (hb:b.length<=140737488351232):F.Uh b=some (am (beN b)):=by
 obtain⟨n,hn⟩:∃n,(b.length+3) / 4=n:=⟨_,rfl⟩
 have w0:wI (Int.tdiv (wI ((b.length:Int)+3)) 4)=(n:Int):=by
  rw[ay (x:=(b.length:Int)+3) q10 q10,bQ q10,ay q10 q10]; omega
 unfold F.Uh
 rw[w0,fU q10,aa,ao]
 have k:∀(i:Nat) (y:L8),i<b.length->(y.length=n/\val y=beN (b.take i)*256^(b.length - i)) ->
   ((y.set ((b.length - 1 - i) / 4) (y.getD ((b.length - 1 - i) / 4) 0 ||| dB (b.getD i 0).toUInt32 (8*((b.length - 1 - i)%4)))).length=n /\
    val (y.set ((b.length - 1 - i) / 4) (y.getD ((b.length - 1 - i) / 4) 0 ||| dB (b.getD i 0).toUInt32 (8*((b.length - 1 - i)%4))))=beN (b.take (i+1))*256^(b.length - (i+1))):=by
  rintro i y hi ⟨A,I⟩
  obtain⟨t,B⟩:∃t,b.length - 1 - i=t:=⟨_,rfl⟩
  rw[B]
  have z:(b.getD i 0).toUInt32.toNat=(b.getD i 0).toNat:=ea _
  have V:=(b.getD i 0).toNat_lt
  have J:=gI y (t / 4) (y.getD (t / 4) 0 ||| dB (b.getD i 0).toUInt32 (8*(t%4))) q10
  have hm:(y.getD (t / 4) 0).toNat%256^(t%4+1)=0:=by
   refine M0 q10 ?_
   rw[show 4*(t / 4)+(t%4+1)=b.length - i by omega,I,Nat.mul_mod_left]
  rw[O9 _ _ _ (by rw[z]; omega) q10 hm,z,aF]at J
  refine⟨by simpa using A,?_⟩
  have hp:4294967296^(t / 4)*((b.getD i 0).toNat*256^(t%4))=(b.getD i 0).toNat*256^t:=by
   rw[show (4294967296:Nat)=256^4 from rfl,<-bB,dO,<-bu]; congr 2; omega
  rw[hp]at J
  rw[nf b hi,show b.length - (i+1)=t by omega,bd]
  have G:256*beN (b.take i)*256^t=beN (b.take i)*256^(b.length - i):=by
   rw[show b.length - i=t+1 by omega,aU,aP 256,aD,aP 256]
  rw[G]
  omega
 have e:=dC (f:=F.ZK b) (fun (y:L8) i=>((i:Int),y)) (fun i y=>i<=b.length->y.length=n/\val y=beN (b.take i)*256^(b.length - i))
  (fun y i=>y.set ((b.length - 1 - i) / 4) (y.getD ((b.length - 1 - i) / 4) 0 ||| dB (b.getD i 0).toUInt32 (8*((b.length - 1 - i)%4)))) 0 b.length
  (X:=fun y=>some (am (val y)))
  (fun i y _ hi hy=>by
   have hy:=hy q10
   refine⟨?_,fun _=>k i y hi hy⟩
   obtain⟨t,B⟩:∃t,b.length - 1 - i=t:=⟨_,rfl⟩
   rw[B]
   have Y:=hy.1
   have N:wI ((i:Int)+1)=((i+1:Nat):Int):=by rw[ay q10 q10]; rfl
   have O:wI ((wI ((b.length:Int) - 1)) - (i:Int))=(t:Int):=by rw[ay (x:=(b.length:Int) - 1) q10 q10,ay q10 q10]; omega
   have R:wI (Int.tdiv (t:Int) 4)=((t / 4:Nat):Int):=by rw[bQ q10,ay q10 q10]; omega
   have U:wI (8*(Int.tmod (t:Int) 4))=((8*(t%4):Nat):Int):=by rw[dv q10,ay q10 q10]; omega
   unfold F.ZK
   dsimp only
   rw[af (ah q10),aG hi 0,aa,O,aS,R,aG (show t / 4<y.length by omega) 0,aa,U,grd_true _ q10,aa,aS,ao,ao,N]
   rfl)
  (fun y hy=>by
   obtain⟨m,A,I,G⟩:=kI y (by have:=(hy (aq _)).1; omega)
   unfold F.ZK
   dsimp only
   rw[ae (by simp),A,aa,G])
  b.length 0 (List.replicate n 0) (aq _) q10 (fun _=>⟨by simp,by rw[eh]; simp[beN]⟩)
 have j:=eO (fun i (y:L8)=>i<=b.length->y.length=n/\val y=beN (b.take i)*256^(b.length - i)) (fun y i=>y.set ((b.length - 1 - i) / 4) (y.getD ((b.length - 1 - i) / 4) 0 ||| dB (b.getD i 0).toUInt32 (8*((b.length - 1 - i)%4))))
  (fun i y hy=>fun hi=>k i y q10 (hy q10)) b.length 0 (List.replicate n 0) (fun _=>⟨by simp,by rw[eh]; simp[beN]⟩)
 rw[bn]at j
 have j:=(j (aq _)).2
 rw[j,kv,dg,de,cJ]at e
 exact e
theorem rj (a:L8) (i:Nat):F.UD a (i:Int)=some (a.getD i 0).toUInt64:=by
 unfold F.UD
 by_cases h:a.length<=i
 ·rw[af (ah q10),iW h]; rfl
 ·rw[ae (by simp only[aj]; omega),aG (show i<a.length by omega) 0,aa]
theorem NJ (a:L8) (i:Nat):F.Zq a (i:Int)=some (a.getD i 0).toUInt64:=by
 unfold F.Zq
 by_cases h:a.length<=i
 ·rw[af (ah q10),iW h]; rfl
 ·rw[ae (by simp only[aj]; omega),aG (show i<a.length by omega) 0,aa]
theorem uv (x y:UInt32):x.toUInt64<y.toUInt64↔x.toNat<y.toNat:=by rw[cM,dD,dD]
theorem fX (a:L8) (ha:a.length<=50000000000000):F.T4 a=some (am (val a)):=by
 unfold F.T4
 obtain⟨n,hn,B,hl⟩:=tO (f:=F.acM a) a (fun k=>ag (tkO a (k:Int)) fun z=>ag (apO 4 [] z) fun j=>some j) q10 (fun n hn=>by
  unfold F.acM F.adg
  by_cases h0:n=0
  ·subst h0
   rw[ae (by simp),ae (by simp)]
   rfl
  ·have G:wI ((n:Int) - 1)=((n - 1:Nat):Int):=by rw[ay q10 q10]; omega
   rw[af (ah q10),G,aG (show n - 1<a.length by omega) 0,aa]
   by_cases hz:a.getD (n - 1) 0=0
   ·rw[af (show n≠0/\a.getD (n - 1) 0=0 from⟨h0,hz⟩),af (show (a.getD (n - 1) 0 == 0)=true from by rw[hz]; rfl)]; rfl
   ·rw[ae (show ¬(n≠0/\a.getD (n - 1) 0=0) from fun h=>hz h.2),ae (show ¬(a.getD (n - 1) 0 == 0)=true from fun h=>hz (eq_of_beq h))])
 have A:apO 4 [] (a.take n)=some (a.take n):=by unfold apO; rw[af (by simp; omega)]; simp
 rw[hl,t9 hn,aa,A,aa,B]
theorem oI (a b:L8) (k:Nat) (h:val (a.drop (k+1))=val (b.drop (k+1))) (A:(a.getD k 0).toNat<(b.getD k 0).toNat):val a<val b:=by
 have B:=d9 a k; have G:=d9 b k
 have z:val (a.drop k)<val (b.drop k):=by omega
 rw[<-lW,<-lW]at z
 exact Nat.lt_of_not_le fun j=>by have:=Nat.div_le_div_right (c:=4294967296^k) j; omega
theorem jj (a b:L8) (ha:a.length<=4611686018427387904) (hb:b.length<=4611686018427387904):F.T6 a b=some (cW (val a) (val b)):=by
 unfold F.T6
 obtain⟨m,hm⟩:∃m,max a.length b.length=m:=⟨_,rfl⟩
 have w0:wI ((max (a.length:Int) (b.length:Int)) - 1)=(m:Int) - 1:=by rw[ay q10 q10]; omega
 rw[w0,aS]
 have j:∀k,k<=m->val (a.drop k)=val (b.drop k)->loop (F.Xw a b) ((k:Int) - 1)=some (cW (val a) (val b)):=by
  intro k
  induction k with
  | zero=>
   intro _ h
   rw[cR,cR]at h
   refine eL ?_
   unfold F.Xw cW
   rw[ae q11,h,ae q10,af rfl]; rfl
  | succ k ih=>
   intro A h
   have z:(((k+1:Nat):Int)) - 1=(k:Int):=by omega
   rw[z]
   have hL:F.Xw a b (k:Int)=if (a.getD k 0).toNat<(b.getD k 0).toNat then some (.inr (-1)) else if (b.getD k 0).toNat<(a.getD k 0).toNat then some (.inr 1) else some (.inl ((k:Int) - 1)):=by
    unfold F.Xw
    rw[af (ah q10),rj,aa,rj,aa]
    by_cases h1:(a.getD k 0).toNat<(b.getD k 0).toNat
    ·rw[af (ah ((uv _ _).2 h1)),af h1]; rfl
    ·rw[ae (by rw[aj,uv]; exact h1),ae h1,aa,aa]
     by_cases h2:(b.getD k 0).toNat<(a.getD k 0).toNat
     ·rw[af (ah ((uv _ _).2 h2)),af h2]; rfl
     ·rw[ae (by rw[aj,uv]; exact h2),ae h2,ay q10 q10]; rfl
   by_cases h1:(a.getD k 0).toNat<(b.getD k 0).toNat
   ·rw[af h1]at hL
    have:=oI a b k h h1
    rw[eL hL]; unfold cW; rw[af this]
   ·rw[ae h1]at hL
    by_cases h2:(b.getD k 0).toNat<(a.getD k 0).toNat
    ·rw[af h2]at hL
     have:=oI b a k h.symm h2
     rw[eL hL]; unfold cW; rw[ae q10,ae q10]
    ·rw[ae h2]at hL
     rw[bv hL]
     refine ih q10 ?_
     rw[d9 a k,d9 b k,h]; omega
 exact j m (aq _) (by rw[bp q10,bp q10])
theorem qn (a b:L8) (ha:a.length<=4611686018427387904) (hb:b.length<=4611686018427387904):F.U8 a b=some (cW (val a) (val b)):=by
 have A:∀k:Nat,k<=4611686018427387904->val (a.drop k)=val (b.drop k)->loop (F.W4 a b) ((k:Int) - 1)=some (cW (val a) (val b)):=by
  intro k
  induction k with
  | zero=>
   intro _ h
   rw[cR,cR]at h
   refine eL ?_
   unfold F.W4 cW
   rw[ae q11,h,ae q10,af rfl]; rfl
  | succ k ih=>
   intro I h
   have G:(((k+1:Nat):Int)) - 1=(k:Int):=by omega
   rw[G]
   have hL:F.W4 a b (k:Int)=if (a.getD k 0).toNat<(b.getD k 0).toNat then some (.inr (-1)) else if (b.getD k 0).toNat<(a.getD k 0).toNat then some (.inr 1) else some (.inl ((k:Int) - 1)):=by
    unfold F.W4
    rw[af (ah q10),NJ,aa,NJ,aa]
    by_cases j:(a.getD k 0).toNat<(b.getD k 0).toNat
    ·rw[af (ah ((uv _ _).2 j)),af j]; rfl
    ·rw[ae (by rw[aj,uv]; exact j),ae j]
     by_cases z:(b.getD k 0).toNat<(a.getD k 0).toNat
     ·rw[af (ah ((uv _ _).2 z)),af z]; rfl
     ·rw[ae (by rw[aj,uv]; exact z),ae z,ay q10 q10]; rfl
   by_cases j:(a.getD k 0).toNat<(b.getD k 0).toNat
   ·rw[af j]at hL
    have:=oI a b k h j
    rw[eL hL]; unfold cW; rw[af this]
   ·rw[ae j]at hL
    by_cases z:(b.getD k 0).toNat<(a.getD k 0).toNat
    ·rw[af z]at hL
     have:=oI b a k h.symm z
     rw[eL hL]; unfold cW; rw[ae q10,ae q10]
    ·rw[ae z]at hL
     rw[bv hL]
     refine ih q10 ?_
     rw[d9 a k,d9 b k,h]; omega
 have B:∀m:Nat,m<=4611686018427387904->a.length<=m->b.length<=m->F.acs a b (m:Int)=some (cW (val a) (val b)):=by
  intro m hm j z
  have w0:wI ((m:Int) - 1)=(m:Int) - 1:=ay q10 q10
  show loop (F.W4 a b) (wI ((m:Int) - 1))=_
  rw[w0]
  exact A m hm (by rw[bp j,bp z])
 unfold F.U8
 by_cases h:a.length<b.length
 ·rw[af (ah q10)]; exact B _ hb q10 (aq _)
 ·rw[ae (by simp only[aj]; omega)]; exact B _ ha (aq _) q10
theorem pM (m a b:L8) (hm:m.length<=50000000000000) (ha:a.length<=50000000000000) (hb:b.length<=50000000000000) (B:(am (val a)).length<=128) (G:(am (val b)).length<=128) (I:(am (val m)).length<=128) (J:1<val m) :
  F.U3 m [a,b]=some 0:=by
 unfold F.U3
 have k:F.UP m [a,b] 0=some (.inl 1):=by
  unfold F.UP
  rw[af (by simp),JT,aa,fX a ha,aa,ae (by simp only[aj]; omega)]; rfl
 have z:F.UP m [a,b] 1=some (.inl 2):=by
  unfold F.UP
  rw[af (by simp),Ku,aa,fX b hb,aa,ae (by simp only[aj]; omega)]; rfl
 have A:F.UP m [a,b] 2=bz (some 0):=by
  unfold F.UP
  rw[ae (by simp),fX m hm,aa,ae (by simp only[aj]; omega)]
  unfold F.U4
  have j:val [1]=1:=rfl
  have hc:cW (val m) 1=1:=by unfold cW; rw[ae q10,ae q10]
  rw[aa,jj _ _ q10 (by simp),aa,j,hc,ae q11]
 rw[bv k,bv z,bm A]
theorem Nx (s:UInt64):(s &&& 4294967295).toUInt32=s.toUInt32:=by
 apply cz.1
 rw[kh,kh,UInt64.toNat_and]
 have:(4294967295:UInt64).toNat=2^32 - 1:=rfl
 rw[this,dJ]
 omega
theorem nX (a b:L8) (ha:a.length<=40000000000000) (hb:b.length<=40000000000000):F.UE a b=some (am (val a+val b)):=by
 obtain⟨m,hm⟩:∃m,max a.length b.length=m:=⟨_,rfl⟩
 have A:max (a.length:Int) (b.length:Int)=(m:Int):=by omega
 unfold F.UE
 have k:∀(x:L8×UInt64) (i:Nat),x.2.toNat<=1->((a.getD i 0).toUInt64+(b.getD i 0).toUInt64)+x.2=x.2+(a.getD i 0).toUInt64+(b.getD i 0).toUInt64:=fun x i _=>by
  rw[UInt64.add_comm _ x.2,UInt64.add_assoc]
 have e:=dC (f:=F.Zr a b) (fun (x:L8×UInt64) i=>(x.1,x.2,(i:Int)))
  (fun i x=>x.1.length=i/\val x.1+4294967296^i*x.2.toNat=val (a.take i)+val (b.take i)/\x.2.toNat<=1) (pc a b) 0 (m+1)
  (X:=fun x=>some (am (val x.1)))
  (fun i x _ hi hx=>by
   obtain⟨B,j,z⟩:=hx
   refine⟨?_,se B j z⟩
   have I:wI ((i:Int)+1)=((i+1:Nat):Int):=by rw[ay q10 q10]; rfl
   unfold F.Zr
   dsimp only
   rw[A,af (ah q10),rj,aa,rj,aa,k x i z,Nx,iy (by simp; omega),aa,aS,I]
   rfl)
  (fun x hx=>by
   obtain⟨B,j,z⟩:=hx
   unfold F.Zr
   dsimp only
   rw[A,ae (by simp only[aj]; omega),fX _ q10,aa])
  (m+1) 0 ([],0) (aq _) q10 ⟨rfl,by simp[val],by decide⟩
 have G:=eO (fun i (x:L8×UInt64)=>x.1.length=i/\val x.1+4294967296^i*x.2.toNat=val (a.take i)+val (b.take i)/\x.2.toNat<=1) (pc a b) (fun i x hx=>se hx.1 hx.2.1 hx.2.2) (m+1) 0 ([],0) ⟨rfl,by simp[val],by decide⟩
 obtain⟨x,hx⟩:∃x,(List.range' 0 (m+1)).foldl (pc a b) ([],0)=x:=⟨_,rfl⟩
 rw[hx]at G e
 obtain⟨B,j,z⟩:=G
 rw[bn,aC q10,aC q10]at j
 refine e.trans ?_
 -- no carry is left
 have N:val a<4294967296^m:=aO (bN a) (aE q11 q10)
 have O:val b<4294967296^m:=aO (bN b) (aE q11 q10)
 have hp:=dF (n:=m) (show 0<4294967296 by decide)
 have J:x.2.toNat=0:=by
  rcases bR x.2.toNat with h | h
  ·exact h
  ·have:4294967296^(m+1)*1<=4294967296^(m+1)*x.2.toNat:=bf _ h
   rw[aU]at this j
   omega
 rw[J,cb,bb]at j
 rw[j]
theorem brw (u v:UInt32) (c:UInt64) (hc:c.toNat<=1) :
  (u.toUInt64<v.toUInt64+c↔u.toNat<v.toNat+c.toNat)/\(u.toNat<v.toNat+c.toNat->((u.toUInt64+4294967296) - (v.toUInt64+c)).toUInt32.toNat+v.toNat+c.toNat=u.toNat+4294967296) /\
   (¬u.toNat<v.toNat+c.toNat->(u.toUInt64 - (v.toUInt64+c)).toUInt32.toNat+v.toNat+c.toNat=u.toNat):=by
 have hu:=eF u; have A:=eF v
 have j:(v.toUInt64+c).toNat=v.toNat+c.toNat:=by rw[mQ _ _ (by rw[dD]; omega),dD]
 have k:(4294967296:UInt64).toNat=4294967296:=rfl
 have z:(u.toUInt64+4294967296).toNat=u.toNat+4294967296:=by rw[mQ _ _ (by rw[dD,k]; omega),dD,k]
 refine⟨by rw[cM,j,dD],fun h=>?_,fun h=>?_⟩
 ·rw[kh,gn _ _ (by rw[dG,j,z]; omega),j,z]; omega
 ·rw[kh,gn _ _ (by rw[dG,j,dD]; omega),j,dD]; omega
def mnW (u v:UInt32) (c:UInt64):UInt32:=if u.toUInt64<v.toUInt64+c then ((u.toUInt64+4294967296) - (v.toUInt64+c)).toUInt32 else (u.toUInt64 - (v.toUInt64+c)).toUInt32
def mnC (u v:UInt32) (c:UInt64):UInt64:=if u.toUInt64<v.toUInt64+c then 1 else 0
theorem JJ (u v:UInt32) (c:UInt64) (hc:c.toNat<=1):(mnW u v c).toNat+v.toNat+c.toNat=u.toNat+4294967296*(mnC u v c).toNat/\(mnC u v c).toNat<=1:=by
 obtain⟨j,k,z⟩:=brw u v c hc
 unfold mnW mnC
 by_cases h:u.toNat<v.toNat+c.toNat
 ·rw[af (j.2 h),af (j.2 h)]
  have:(1:UInt64).toNat=1:=rfl
  rw[this]; exact⟨by have:=k h; omega,by omega⟩
 ·rw[ae (fun hh=>h (j.1 hh)),ae (fun hh=>h (j.1 hh))]
  have:(0:UInt64).toNat=0:=rfl
  rw[this]; exact⟨by have:=z h; omega,by omega⟩
def mnS (a b:L8) (x:L8×UInt64) (i:Nat):L8×UInt64:=(x.1++[mnW (a.getD i 0) (b.getD i 0) x.2],mnC (a.getD i 0) (b.getD i 0) x.2)
theorem FF {a b:L8} {x:L8×UInt64} {i:Nat} (j:x.1.length=i) (B:val x.1+val (b.take i)=val (a.take i)+4294967296^i*x.2.toNat) (k:x.2.toNat<=1) :
  (mnS a b x i).1.length=i+1/\val (mnS a b x i).1+val (b.take (i+1))=val (a.take (i+1))+4294967296^(i+1)*(mnS a b x i).2.toNat/\(mnS a b x i).2.toNat<=1:=by
 obtain⟨z,A⟩:=JJ (a.getD i 0) (b.getD i 0) x.2 k
 unfold mnS
 refine⟨by simp[j],?_,A⟩
 simp only
 rw[kR,j,cH,cH]
 have:=cD (4294967296^i*·) z
 simp only[aF]at this
 rw[aU,aD]
 omega
theorem ku (a b:L8) (ha:a.length<=50000000000000) (I:val b<=val a):F.Ui a b=some (am (val a - val b)):=by
 unfold F.Ui
 have e:=dC (f:=F.aa4 a b) (fun (x:L8×UInt64) i=>(x.1,x.2,(i:Int)))
  (fun i x=>x.1.length=i/\val x.1+val (b.take i)=val (a.take i)+4294967296^i*x.2.toNat/\x.2.toNat<=1) (mnS a b) 0 a.length
  (X:=fun x=>some (am (val x.1)))
  (fun i x _ hi hx=>by
   obtain⟨k,j,z⟩:=hx
   refine⟨?_,FF k j z⟩
   have A:wI ((i:Int)+1)=((i+1:Nat):Int):=by rw[ay q10 q10]; rfl
   unfold F.aa4
   dsimp only
   rw[af (ah q10),rj,aa,rj,aa]
   unfold mnS mnW mnC
   by_cases h:(a.getD i 0).toUInt64<(b.getD i 0).toUInt64+x.2
   ·rw[af (ah h),af h,af h]
    unfold F.aag
    dsimp only
    rw[iy (by simp; omega),aa,A]; rfl
   ·rw[ae (by simpa using h),ae h,ae h]
    unfold F.aag
    dsimp only
    rw[iy (by simp; omega),aa,A]; rfl)
  (fun x hx=>by
   unfold F.aa4
   dsimp only
   rw[ae (by simp),fX _ q10,aa])
  a.length 0 ([],0) (aq _) q10 ⟨rfl,by simp[val],by simp⟩
 refine e.trans ?_
 obtain⟨k,j,z⟩:=eO (fun i (x:L8×UInt64)=>x.1.length=i/\val x.1+val (b.take i)=val (a.take i)+4294967296^i*x.2.toNat/\x.2.toNat<=1) (mnS a b)
  (fun i x hx=>FF hx.1 hx.2.1 hx.2.2) a.length 0 ([],0) ⟨rfl,by simp[val],by simp⟩
 obtain⟨y,hy⟩:∃y,(List.range' 0 a.length).foldl (mnS a b) ([],0)=y:=⟨_,rfl⟩
 rw[hy]at k j z ⊢
 rw[bn]at k j
 have hb:val (b.take a.length)=val b:=by
  by_cases hl:a.length<=b.length
  ·have B:=fS b a.length hl
   rw[nH (dR I (bN a)),cb,bb]at B
   exact B.symm
  ·rw[aC q10]
 rw[cJ,hb]at j
 have G:=bN y.1
 rw[k]at G
 have hc:y.2.toNat=0:=by
  rcases bR y.2.toNat with h | h
  ·exact h
  ·have:y.2.toNat=1:=by omega
   rw[this,de]at j
   omega
 rw[hc,cb,bb]at j
 rw[show val y.1=val a - val b by omega]
theorem JE (c r p:UInt64):r+p+c=c+(p+r):=by rw[UInt64.add_comm _ c,UInt64.add_comm r p]
theorem DU (a b:L8) (i:Nat) (r:L8) (hi:i<a.length) (hl:r.length=a.length+b.length) (hz:∀k,i+b.length<=k->r.getD k 0=0) (hs:a.length+b.length<=50000000000000) :
  ∃z,loop (F.XT a b (i:Int)) (0,0,r)=some (.inl (((i+1:Nat):Int),z))/\z.length=a.length+b.length/\(∀k,i+1+b.length<=k->z.getD k 0=0)/\val z=val r+4294967296^i*((a.getD i 0).toNat*val b):=by
 have U:tq (a.getD i 0) b i (a.length+b.length) r 0 (0,r):=⟨hl,hz,by simp[val],by simp⟩
 have e:=dC (f:=F.XT a b (i:Int)) (fun (x:UInt64×L8) j=>(x.1,(j:Int),x.2)) (fun j x=>j<=b.length->tq (a.getD i 0) b i (a.length+b.length) r j x) (ud (a.getD i 0) b i) 0 b.length
  (X:=fun x=>some (.inl (((i+1:Nat):Int),x.2.set (i+b.length) x.1.toUInt32)))
  (fun j x _ G hx=>by
   have hx:=hx q10
   refine⟨?_,fun _=>sf q10 G hx⟩
   obtain⟨I,A,B,V⟩:=hx
   have J:wI ((i:Int)+(j:Int))=((i+j:Nat):Int):=by rw[ay q10 q10]; rfl
   have N:wI ((j:Int)+1)=((j+1:Nat):Int):=by rw[ay q10 q10]; rfl
   unfold F.XT
   dsimp only
   rw[af (ah q10),J,aG (show i+j<x.2.length by omega) 0,aa,aG hi 0,aa,aG G 0,aa,aS,aa,aS,ao,N,Nx,JE]
   rfl)
  (fun x hx=>by
   obtain⟨I,A,B,V⟩:=hx (aq _)
   have J:wI ((i:Int)+(b.length:Int))=((i+b.length:Nat):Int):=by rw[ay q10 q10]; rfl
   have N:wI ((i:Int)+1)=((i+1:Nat):Int):=by rw[ay q10 q10]; rfl
   unfold F.XT
   dsimp only
   rw[ae (by simp),J,aG (show i+b.length<x.2.length by omega) 0,aa,aS,ao,N]
   rfl)
  b.length 0 (0,r) (aq _) q10 (fun _=>U)
 have O:=eO (fun j (x:UInt64×L8)=>j<=b.length->tq (a.getD i 0) b i (a.length+b.length) r j x) (ud (a.getD i 0) b i) (fun j x hx=>fun G=>sf q10 q10 (hx q10)) b.length 0 (0,r) (fun _=>U)
 obtain⟨y,hy⟩:∃y,(List.range' 0 b.length).foldl (ud (a.getD i 0) b i) (0,r)=y:=⟨_,rfl⟩
 rw[hy]at O e
 rw[bn]at O
 obtain⟨I,A,B,V⟩:=O (aq _)
 refine⟨_,e,by simpa using I,fun k Y=>?_,?_⟩
 ·rw[ik q10]; exact A k q10
 ·have R:=gI y.2 (i+b.length) y.1.toUInt32 q10
  rw[A _ (aq _)]at R
  have:(0:UInt32).toNat=0:=rfl
  rw[this,cb,bb]at R
  rw[cJ]at B
  rw[R,kh,av q10,B]
theorem mC (a b:L8) (hs:a.length+b.length<=50000000000000):F.UG a b=some (am (val a*val b)):=by
 unfold F.UG
 rw[ay q10 q10,fU q10,aa,show ((a.length:Int)+(b.length:Int)).toNat=a.length+b.length by omega]
 have z:∀(k i:Nat) (r:L8),i+k=a.length->r.length=a.length+b.length->(∀k,i+b.length<=k->r.getD k 0=0)->val r=val (a.take i)*val b->loop (F.Y6 a b) ((i:Int),r)=some (am (val a*val b)):=by
  intro k
  induction k with
  | zero=>
   intro i r h A B j
   have:i=a.length:=by omega
   subst this
   refine eL ?_
   unfold F.Y6
   dsimp only
   rw[ae (by simp),fX _ q10,aa,j,cJ]; rfl
  | succ k ih=>
   intro i r h A B j
   obtain⟨G,J,N,O,R⟩:=DU a b i r q10 A B hs
   have I:F.Y6 a b ((i:Int),r)=some (.inl (((i+1:Nat):Int),G)):=by
    unfold F.Y6
    dsimp only
    rw[af (ah q10),J]
   rw[bv I]
   refine ih (i+1) G q10 N (fun k U=>O k q10) ?_
   rw[R,j,cH,bd,aD]
 exact z a.length 0 _ q10 (by simp) (fun k _=>by
  rw[ak,et]; split <;> rfl) (by rw[eh]; simp[val])
theorem sI (l:L8) (i:Nat):(l.getD (i / 32) 0).toNat / 2^(i%32)%2=val l / 2^i%2:=by
 have j:(2:Nat)^i=4294967296^(i / 32)*2^(i%32):=by
  rw[show (4294967296:Nat)=2^32 from rfl,<-bB,<-bu]; congr 1; omega
 rw[j,<-dq,lW,d9]
 obtain⟨R,k⟩:∃R,val (l.drop (i / 32+1))=R:=⟨_,rfl⟩
 obtain⟨w,z⟩:∃w,(l.getD (i / 32) 0).toNat=w:=⟨_,rfl⟩
 obtain⟨s,hs⟩:∃s,i%32=s:=⟨_,rfl⟩
 rw[k,z,hs]
 have hp:=pI (s:=s) q10
 rw[<-hp,aD,gK _ _ (dz s)]
 have A:(2:Nat)^(32 - s)=2*2^(32 - s - 1):=by rw[aP,<-aU]; congr 1; omega
 rw[A,aD]
 omega
theorem mM (a:L8) (i:Nat) (hi:i<=4611686018427387904):F.Ur a (i:Int)=some (decide (val a / 2^i%2=1)):=by
 unfold F.Ur
 have k:wI (Int.tdiv (i:Int) 32)=((i / 32:Nat):Int):=by rw[bQ q10,ay q10 q10]; omega
 have z:(UInt64.ofInt (Int.tmod (i:Int) 32)).toNat=i%32:=by
  rw[dv q10,UInt64.ofInt,bO]; omega
 rw[k,rj,aa,z]
 congr 1
 have j:((bH (a.getD (i / 32) 0).toUInt64 (i%32)) &&& 1).toNat=val a / 2^i%2:=by
  rw[UInt64.toNat_and,jm,dD,aT q10,<-sI]
  have:(1:UInt64).toNat=2^1 - 1:=rfl
  rw[this,dJ]
 by_cases h:val a / 2^i%2=1
 ·rw[ah h,dh]
  apply dA.1
  rw[j,h]; rfl
 ·rw[an h,cd]
  intro hh
  rw[hh]at j
  exact h j.symm
def dbS (x:UInt32×L8) (k:Nat):UInt32×L8:=(cq (x.2.getD k 0) 31,x.2.set k ((dB (x.2.getD k 0) 1) ||| x.1))
def DBI (r:L8) (c k:Nat) (x:UInt32×L8):Prop:=
 x.2.length=r.length/\(∀j,k<=j->x.2.getD j 0=r.getD j 0)/\val x.2+4294967296^k*x.1.toNat=val r+val (r.take k)+c/\x.1.toNat<=1
theorem F3 {r:L8} {c k:Nat} {x:UInt32×L8} (N:k<r.length) (h:DBI r c k x):DBI r c (k+1) (dbS x k):=by
 obtain⟨I,z,O,R⟩:=h
 have U:=eF (x.2.getD k 0)
 have A:(cq (x.2.getD k 0) 31).toNat=(x.2.getD k 0).toNat / 2147483648:=by rw[lP]; rfl
 have B:(dB (x.2.getD k 0) 1).toNat=(x.2.getD k 0).toNat*2%4294967296:=by rw[n8]; rfl
 have J:((dB (x.2.getD k 0) 1) ||| x.1).toNat=(x.2.getD k 0).toNat*2%4294967296+x.1.toNat:=by
  rw[ji,qD 1 (by rw[B]; omega) q10,B]
 unfold dbS
 refine⟨by simpa using I,fun j V=>?_,?_,by simp only[A]; omega⟩
 ·simp only
  rw[ik q10]; exact z j q10
 ·simp only
  have G:=gI x.2 k ((dB (x.2.getD k 0) 1) ||| x.1) q10
  rw[cH,<-z k (aq _),A]
  rw[J]at G
  have:(x.2.getD k 0).toNat*2=(x.2.getD k 0).toNat*2%4294967296+4294967296*((x.2.getD k 0).toNat / 2147483648):=by omega
  have:=cD (4294967296^k*·) this
  simp only[aF]at this
  rw[aF]at G
  rw[aU,aD]
  have X:4294967296^k*((x.2.getD k 0).toNat*2)=4294967296^k*(x.2.getD k 0).toNat+4294967296^k*(x.2.getD k 0).toNat:=by rw[<-aD]; omega
  omega
def tkS (d:L8) (x:UInt64×L8) (k:Nat):UInt64×L8:=(mnC (x.2.getD k 0) (d.getD k 0) x.1,x.2.set k (mnW (x.2.getD k 0) (d.getD k 0) x.1))
def TKI (d r:L8) (k:Nat) (x:UInt64×L8):Prop:=
 x.2.length=r.length/\(∀j,k<=j->x.2.getD j 0=r.getD j 0)/\val x.2+val (d.take k)=val r+4294967296^k*x.1.toNat/\x.1.toNat<=1
theorem FW {d r:L8} {k:Nat} {x:UInt64×L8} (J:k<r.length) (h:TKI d r k x):TKI d r (k+1) (tkS d x k):=by
 obtain⟨z,A,N,B⟩:=h
 obtain⟨G,I⟩:=JJ (x.2.getD k 0) (d.getD k 0) x.1 B
 unfold tkS
 refine⟨by simpa using z,fun j O=>?_,?_,I⟩
 ·simp only
  rw[ik q10]; exact A j q10
 ·simp only
  have R:=gI x.2 k (mnW (x.2.getD k 0) (d.getD k 0) x.1) q10
  rw[cH]
  have:=cD (4294967296^k*·) G
  simp only[aF]at this
  rw[aU,aD]
  omega
theorem Ro (x:UInt32) (s:Nat) (hs:s<32) (hx:x.toNat%2^(s+1)=0):(x ||| dB 1 s).toNat=x.toNat+2^s:=by
 have e:(dB 1 s).toNat=2^s:=by
  rw[n8,aT q10]
  have:(1:UInt32).toNat=1:=rfl
  rw[this,ci,av]
  exact iV q11 (n:=32) hs
 rw[ji,qD (s+1) hx (by rw[e]; exact iV q11 q10),e]
theorem MJ {l:L8} {q t:Nat} (z:t<=32) (h:val l%2^(32*q+t)=0):(l.getD q 0).toNat%2^t=0:=by
 have j:val l / 2^(32*q)%2^t=0:=by
  rw[bu]at h
  have:=Nat.mod_mul_right_div_self (val l) (2^(32*q)) (2^t)
  rw[h,kw]at this
  exact this.symm
 rw[bB,show (2:Nat)^32=4294967296 from rfl,lW,d9]at j
 have k:(4294967296:Nat)=2^t*2^(32 - t):=by rw[<-bu,show t+(32 - t)=32 by omega]
 rw[k,aD,eJ]at j
 exact j
theorem Mp (a d:L8) (i:Nat) (q r:L8) (hr:r.length=d.length+1) (c0:val r<val d) (hq:i / 32<q.length) (Y:val q%2^(i+1)=0) (hi:i<=4611686018427387) (hd:d.length<=36000000000000) (c1:q.length<=36000000000000) :
  ∃j A,F.Xg a d ((i:Int),q,r)=some (.inl ((i:Int) - 1,j,A))/\j.length=q.length/\A.length=r.length/\val A<val d/\val j%2^i=0 /\
   ∃e,val j=val q+2^i*e/\e<=1/\val A+e*val d=2*val r+val a / 2^i%2:=by
 obtain⟨c,hc⟩:∃c,val a / 2^i%2=c:=⟨_,rfl⟩
 have c2:c<=1:=by omega
 have c3:=bN d
 have w1:wI ((i:Int) - 1)=(i:Int) - 1:=ay q10 q10
 have w5:wI (Int.tdiv (i:Int) 32)=((i / 32:Nat):Int):=by rw[bQ q10,ay q10 q10]; omega
 have w2:(UInt64.ofInt (Int.tmod (i:Int) 32)).toNat=i%32:=by
  rw[dv q10,UInt64.ofInt,bO]; omega
 have J:val q%2^i=0:=by
  have B:(2:Nat)^(i+1)=2^i*2:=aU ..
  rw[B,Nat.mod_mul]at Y
  omega
 -- from the doubled rest on
 have ax:∀y:UInt32×L8,DBI r c r.length y->∃j A,(ag (F.T6 y.2 d) fun G=>if (decide ((0:Int)<=G))=true then loop (F.V0 d (i:Int) q) (0,0,y.2) else F.Wc (i:Int) (q,y.2))=some (.inl ((i:Int) - 1,j,A))/\j.length=q.length/\A.length=r.length/\val A<val d/\val j%2^i=0 /\
   ∃e,val j=val q+2^i*e/\e<=1/\val A+e*val d=2*val r+c:=by
  rintro⟨y1,y⟩ ⟨B,h2,U,h4⟩
  simp only at B h2 U h4 ⊢
  rw[cJ]at U
  have bx:y1.toNat=0:=by
   rcases bR y1.toNat with h | h
   ·exact h
   ·have:4294967296^r.length*1<=4294967296^r.length*y1.toNat:=bf _ h
    rw[hr,aU]at this
    rw[hr,aU]at U
    omega
  rw[bx,cb,bb]at U
  rw[jj _ _ q10 q10,aa]
  unfold cW
  by_cases hlt:val y<val d
  ·rw[af hlt,ae q11]
   unfold F.Wc
   dsimp only
   rw[w1]
   exact⟨q,y,rfl,rfl,B,hlt,J,0,by omega,by omega,by omega⟩
  ·rw[ae hlt,af (by split <;> decide)]
   have N:TKI d y 0 (0,y):=⟨rfl,fun _ _=>rfl,by simp[val],by simp⟩
   have e:=dC (f:=F.V0 d (i:Int) q) (fun (x:UInt64×L8) k=>(x.1,(k:Int),x.2)) (fun k x=>k<=y.length->TKI d y k x) (tkS d) 0 y.length
    (X:=fun x=>some (.inl ((i:Int) - 1,q.set (i / 32) (q.getD (i / 32) 0 ||| dB 1 (i%32)),x.2)))
    (fun k x _ O hx=>by
     have hx:=hx q10
     refine⟨?_,fun _=>FW O hx⟩
     have R:=hx.1
     have V:wI ((k:Int)+1)=((k+1:Nat):Int):=by rw[ay q10 q10]; rfl
     unfold F.V0
     dsimp only
     rw[af (ah q10),rj,aa,aG (show k<x.2.length by omega) 0,aa]
     unfold tkS mnC mnW
     by_cases h:(x.2.getD k 0).toUInt64<(d.getD k 0).toUInt64+x.1
     ·rw[af (ah h),af h,af h,aS]
      unfold F.aaW
      dsimp only
      rw[aG (show k<x.2.length by omega) 0,aa,aS,ao,V]; rfl
     ·rw[ae (by simpa using h),ae h,ae h]
      unfold F.aaW
      dsimp only
      rw[aG (show k<x.2.length by omega) 0,aa,aS,ao,V]; rfl)
    (fun x hx=>by
     have R:=(hx (aq _)).1
     unfold F.V0
     dsimp only
     rw[ae (by simp only[aj]; omega),w5,aG hq 0,aa,aa,aS,ao,w2]
     unfold F.Wc
     dsimp only
     rw[w1]; rfl)
    y.length 0 (0,y) (aq _) q10 (fun _=>N)
   have I:=eO (fun k (x:UInt64×L8)=>k<=y.length->TKI d y k x) (tkS d) (fun k x hx=>fun O=>FW q10 (hx q10)) y.length 0 (0,y) (fun _=>N)
   obtain⟨z,hz⟩:∃z,(List.range' 0 y.length).foldl (tkS d) (0,y)=z:=⟨_,rfl⟩
   rw[hz]at I e
   rw[bn]at I
   obtain⟨k1,k2,k3,k4⟩:=I (aq _)
   rw[aC q10]at k3
   have b3:=bN z.2
   have b4:z.1.toNat=0:=by
    rcases bR z.1.toNat with h | h
    ·exact h
    ·have:4294967296^y.length*1<=4294967296^y.length*z.1.toNat:=bf _ h
     rw[k1]at b3
     omega
   rw[b4,cb,bb]at k3
   have b5:=Ro (q.getD (i / 32) 0) (i%32) q10 (MJ q10 (by rw[show 32*(i / 32)+(i%32+1)=i+1 by omega]; exact Y))
   have hv:=gI q (i / 32) (q.getD (i / 32) 0 ||| dB 1 (i%32)) hq
   rw[b5,aF]at hv
   have hp:4294967296^(i / 32)*2^(i%32)=2^i:=by
    rw[show (4294967296:Nat)=2^32 from rfl,<-bB,<-bu]; congr 1; omega
   rw[hp]at hv
   have Z:val (q.set (i / 32) (q.getD (i / 32) 0 ||| dB 1 (i%32)))=val q+2^i*1:=by omega
   refine⟨_,_,e,by simp,by omega,by omega,?_,1,Z,by omega,by omega⟩
   rw[Z,eJ]; exact J
 have ab:∀x0:UInt32,x0.toNat=c->∃j A,F.ZT r d q (i:Int) x0=some (.inl ((i:Int) - 1,j,A))/\j.length=q.length/\A.length=r.length/\val A<val d/\val j%2^i=0 /\
   ∃e,val j=val q+2^i*e/\e<=1/\val A+e*val d=2*val r+c:=by
  intro x0 b7
  unfold F.ZT
  have N:DBI r c 0 (x0,r):=⟨rfl,fun _ _=>rfl,by simp[val,b7],by simp only; omega⟩
  have e:=dC (f:=F.aas d q (i:Int)) (fun (x:UInt32×L8) k=>(x.1,(k:Int),x.2)) (fun k x=>k<=r.length->DBI r c k x) dbS 0 r.length
   (X:=fun y=>ag (F.T6 y.2 d) fun G=>if (decide ((0:Int)<=G))=true then loop (F.V0 d (i:Int) q) (0,0,y.2) else F.Wc (i:Int) (q,y.2))
   (fun k x _ O hx=>by
    have hx:=hx q10
    refine⟨?_,fun _=>F3 O hx⟩
    have R:=hx.1
    have V:wI ((k:Int)+1)=((k+1:Nat):Int):=by rw[ay q10 q10]; rfl
    unfold F.aas
    dsimp only
    rw[af (ah q10),aG (show k<x.2.length by omega) 0,aa,aa,aa,aS,ao,V]; rfl)
   (fun x hx=>by
    have R:=(hx (aq _)).1
    unfold F.aas
    dsimp only
    rw[ae (by simp only[aj]; omega)])
   r.length 0 (x0,r) (aq _) q10 (fun _=>N)
  have I:=eO (fun k (x:UInt32×L8)=>k<=r.length->DBI r c k x) dbS (fun k x hx=>fun O=>F3 q10 (hx q10)) r.length 0 (x0,r) (fun _=>N)
  rw[bn]at I
  obtain⟨j,A,f1,f2⟩:=ax _ (I (aq _))
  exact⟨j,A,e.trans f1,f2⟩
 unfold F.Xg
 dsimp only
 rw[af (ah q10),mM _ _ q10,aa,hc]
 by_cases B:c=1
 ·rw[af (ah B)]; exact ab 1 (by rw[B]; rfl)
 ·rw[ae (by simpa using B)]; exact ab 0 (by rw[show c=0 by omega]; rfl)
theorem Ky {A q d r i e c j z:Nat} (h:A / 2^(i+1)=q / 2^(i+1)*d+r) (O:q%2^(i+1)=0) (B:j=q+2^i*e) (he:e<=1) (hc:A / 2^i%2=c) (R:z+e*d=2*r+c):A / 2^i=j / 2^i*d+z:=by
 have hp:=dz i
 have hs:(2:Nat)^(i+1)=2^i*2:=aU ..
 have I:A / 2^i=2*(A / 2^(i+1))+c:=by
  rw[hs,<-dq]; omega
 obtain⟨k,G⟩:∃k,q=2^(i+1)*k:=⟨q / 2^(i+1),by have:=cQ q (2^(i+1)); omega⟩
 have J:q / 2^(i+1)=k:=by rw[G,ge _ (dz _)]
 have N:j / 2^i=2*k+e:=by
  rw[B,G,hs,aD,<-aF,ge _ hp]
 rw[I,h,J,N,bd,aD,aF]
 omega
theorem oJ (a d:L8) (ha:a.length<=36000000000000) (hd:d.length<=36000000000000) (U:val d≠0):F.U7 a d=some (am (val a / val d),am (val a%val d)):=by
 have G:(am (val a)).length<=a.length:=bc (bN a)
 have I:(am (val d)).length<=d.length:=bc (bN d)
 unfold F.U7
 rw[fX _ q10,aa,fX _ q10,aa]
 obtain⟨A,hA⟩:∃A,am (val a)=A:=⟨_,rfl⟩
 obtain⟨D,J⟩:∃D,am (val d)=D:=⟨_,rfl⟩
 have V:val A=val a:=by rw[<-hA,al]
 have N:val D=val d:=by rw[<-J,al]
 rw[hA]at G ⊢; rw[J]at I ⊢
 rw[<-V,<-N]
 rw[<-N]at U
 have X:wI ((D.length:Int)+1)=((D.length+1:Nat):Int):=by rw[ay q10 q10]; rfl
 have Y:wI ((wI (32*(A.length:Int))) - 1)=((32*A.length:Nat):Int) - 1:=by rw[ay (x:=32*(A.length:Int)) q10 q10,ay q10 q10]; omega
 rw[fU q10,aa,X,fU q10,aa,Y,aS,ao,ao]
 have O:∀(k:Nat) (q r:L8),k<=32*A.length->q.length=A.length->r.length=D.length+1->val r<val D->val q%2^k=0->val A / 2^k=val q / 2^k*val D+val r ->
   loop (F.Xg A D) ((k:Int) - 1,q,r)=some (am (val A / val D),am (val A%val D)):=by
  intro k
  induction k with
  | zero=>
   intro q r Z h1 R z B j
   refine eL ?_
   unfold F.Xg
   dsimp only
   rw[dg,iK,iK]at j
   have e1:val A / val D=val q:=by rw[j,bW,gx _ _ q10,bE z,bn]
   have e2:val A%val D=val r:=by rw[j,bW,fp,av z]
   rw[ae q11,fX _ q10,aa,fX _ q10,aa,e1,e2]; rfl
  | succ k ih=>
   intro q r Z h1 R z B j
   obtain⟨q',r',f1,f2,f3,f4,f5,e,f6,f7,f8⟩:=Mp A D k q r R z q10 B q10 q10 q10
   rw[show (((k+1:Nat):Int)) - 1=(k:Int) by omega,bv f1]
   exact ih q' r' q10 q10 q10 f4 f5 (Ky j B f6 f7 rfl f8)
 have hz:val A / 2^(32*A.length)=0:=by
  rw[bB,show (2:Nat)^32=4294967296 from rfl]; exact bE (bN A)
 exact O (32*A.length) _ _ (aq _) (by simp) (by simp) (by rw[eh]; omega) (by rw[eh]; simp) (by rw[hz,eh,eh]; simp)
theorem kL (a m:L8) (ha:a.length<=36000000000000) (hm:m.length<=36000000000000) (j:val m≠0):F.Ul a m=some (am (val a%val m)):=by
 unfold F.Ul
 rw[oJ a m ha hm j,aa]
theorem km {a:L8} (h:a.length<=128):(am (val a)).length<=128:=aA (bc (bN a)) h
theorem Ph (a b m:L8) (ha:a.length<=128) (hb:b.length<=128) (hm:m.length<=128) (j:1<val m):F.Vd a b m=some (am (val a*val b%val m),0):=by
 unfold F.Vd
 have h:=kc (val a) (val b)
 have k:=km ha; have z:=km hb
 rw[pM m a b q10 q10 q10 k z (km hm) j,aa,ae q11,mC _ _ q10,aa,kL _ _ q10 q10 q10,aa,al]
theorem OF (a b m:L8) (ha:a.length<=128) (hb:b.length<=128) (hm:m.length<=128) (j:1<val m):F.aao a b m=some (am ((val a+val b)%val m),0):=by
 unfold F.aao
 have h:=kH (val a) (val b)
 have k:=km ha; have z:=km hb
 rw[pM m a b q10 q10 q10 k z (km hm) j,aa,ae q11,nX _ _ q10 q10,aa,kL _ _ q10 q10 q10,aa,al]
theorem OT (a b m:L8) (ha:a.length<=128) (hb:b.length<=128) (hm:m.length<=128) (z:1<val m):F.Z4 a b m=some (am ((val a%val m+val m - val b%val m)%val m),0):=by
 unfold F.Z4
 have j:=km ha; have k:=km hb; have A:=km hm
 have B:=ba (val a) (show 0<val m by omega)
 have G:=ba (val b) (show 0<val m by omega)
 have l1:(am (val a%val m)).length<=128:=aA (db (Nat.mod_le _ _)) j
 have I:(am (val b%val m)).length<=128:=aA (db (Nat.mod_le _ _)) k
 have J:=kH (val a%val m) (val m)
 have N:(am (val a%val m+val m - val b%val m)).length<=(am (val a%val m+val m)).length:=db (Nat.sub_le _ _)
 rw[pM m a b q10 q10 q10 j k A z,aa,ae q11,kL _ _ q10 q10 q10,aa,nX _ _ q10 q10,aa,kL _ _ q10 q10 q10,aa,
  ku _ _ (by rw[al]; omega) (by rw[al,al,al]; omega),aa,al,al,al,kL _ _ q10 q10 q10,aa,al]
def xN:L00:=[102,102,102,102,102,102,102,102,48,48,48,48,48,48,48,49,48,48,48,48,48,48,48,48,48,48,48,48,48,48,48,48,48,48,48,48,48,48,48,48,102,102,102,102,102,102,102,102,102,102,102,102,102,102,102,102,102,102,102,102,102,102,102,102]
def Na:Nat:=0xffffffff00000001000000000000000000000000ffffffffffffffffffffffff
theorem Da:(xN.all jU&&Nat.beq (iP xN) Na&&Nat.beq xN.length 64)=true:=by decide +kernel
def xh:L00:=[53,97,99,54,51,53,100,56,97,97,51,97,57,51,101,55,98,51,101,98,98,100,53,53,55,54,57,56,56,54,98,99,54,53,49,100,48,54,98,48,99,99,53,51,98,48,102,54,51,98,99,101,51,99,51,101,50,55,100,50,54,48,52,98]
def M8:Nat:=0x5ac635d8aa3a93e7b3ebbd55769886bc651d06b0cc53b0f63bce3c3e27d2604b
theorem BZ:(xh.all jU&&Nat.beq (iP xh) M8&&Nat.beq xh.length 64)=true:=by decide +kernel
def wP:L00:=[102,102,102,102,102,102,102,102,48,48,48,48,48,48,48,48,102,102,102,102,102,102,102,102,102,102,102,102,102,102,102,102,98,99,101,54,102,97,97,100,97,55,49,55,57,101,56,52,102,51,98,57,99,97,99,50,102,99,54,51,50,53,53,49]
def Nh:Nat:=0xffffffff00000000ffffffffffffffffbce6faada7179e84f3b9cac2fc632551
theorem Bc:(wP.all jU&&Nat.beq (iP wP) Nh&&Nat.beq wP.length 64)=true:=by decide +kernel
def xM:L00:=[54,98,49,55,100,49,102,50,101,49,50,99,52,50,52,55,102,56,98,99,101,54,101,53,54,51,97,52,52,48,102,50,55,55,48,51,55,100,56,49,50,100,101,98,51,51,97,48,102,52,97,49,51,57,52,53,100,56,57,56,99,50,57,54]
def NH:Nat:=0x6b17d1f2e12c4247f8bce6e563a440f277037d812deb33a0f4a13945d898c296
theorem Br:(xM.all jU&&Nat.beq (iP xM) NH&&Nat.beq xM.length 64)=true:=by decide +kernel
def wR:L00:=[52,102,101,51,52,50,101,50,102,101,49,97,55,102,57,98,56,101,101,55,101,98,52,97,55,99,48,102,57,101,49,54,50,98,99,101,51,51,53,55,54,98,51,49,53,101,99,101,99,98,98,54,52,48,54,56,51,55,98,102,53,49,102,53]
def Nw:Nat:=0x4fe342e2fe1a7f9b8ee7eb4a7c0f9e162bce33576b315ececbb6406837bf51f5
theorem BU:(wR.all jU&&Nat.beq (iP wR) Nw&&Nat.beq wR.length 64)=true:=by decide +kernel
def wZ:L00:=[102,102,102,102,102,102,102,102,102,102,102,102,102,102,102,102,102,102,102,102,102,102,102,102,102,102,102,102,102,102,102,102,102,102,102,102,102,102,102,102,102,102,102,102,102,102,102,102,102,102,102,102,102,102,102,102,102,102,102,102,102,102,102,101,102,102,102,102,102,102,102,102,48,48,48,48,48,48,48,48,48,48,48,48,48,48,48,48,102,102,102,102,102,102,102,102]
def Nf:Nat:=0xfffffffffffffffffffffffffffffffffffffffffffffffffffffffffffffffeffffffff0000000000000000ffffffff
theorem CV:(wZ.all jU&&Nat.beq (iP wZ) Nf&&Nat.beq wZ.length 96)=true:=by decide +kernel
def ya:L00:=[98,51,51,49,50,102,97,55,101,50,51,101,101,55,101,52,57,56,56,101,48,53,54,98,101,51,102,56,50,100,49,57,49,56,49,100,57,99,54,101,102,101,56,49,52,49,49,50,48,51,49,52,48,56,56,102,53,48,49,51,56,55,53,97,99,54,53,54,51,57,56,100,56,97,50,101,100,49,57,100,50,97,56,53,99,56,101,100,100,51,101,99,50,97,101,102]
def Nv:Nat:=0xb3312fa7e23ee7e4988e056be3f82d19181d9c6efe8141120314088f5013875ac656398d8a2ed19d2a85c8edd3ec2aef
theorem Cd:(ya.all jU&&Nat.beq (iP ya) Nv&&Nat.beq ya.length 96)=true:=by decide +kernel
def wA:L00:=[102,102,102,102,102,102,102,102,102,102,102,102,102,102,102,102,102,102,102,102,102,102,102,102,102,102,102,102,102,102,102,102,102,102,102,102,102,102,102,102,102,102,102,102,102,102,102,102,99,55,54,51,52,100,56,49,102,52,51,55,50,100,100,102,53,56,49,97,48,100,98,50,52,56,98,48,97,55,55,97,101,99,101,99,49,57,54,97,99,99,99,53,50,57,55,51]
def Nb:Nat:=0xffffffffffffffffffffffffffffffffffffffffffffffffc7634d81f4372ddf581a0db248b0a77aecec196accc52973
theorem DG:(wA.all jU&&Nat.beq (iP wA) Nb&&Nat.beq wA.length 96)=true:=by decide +kernel
def wH:L00:=[97,97,56,55,99,97,50,50,98,101,56,98,48,53,51,55,56,101,98,49,99,55,49,101,102,51,50,48,97,100,55,52,54,101,49,100,51,98,54,50,56,98,97,55,57,98,57,56,53,57,102,55,52,49,101,48,56,50,53,52,50,97,51,56,53,53,48,50,102,50,53,100,98,102,53,53,50,57,54,99,51,97,53,52,53,101,51,56,55,50,55,54,48,97,98,55]
def Nu:Nat:=0xaa87ca22be8b05378eb1c71ef320ad746e1d3b628ba79b9859f741e082542a385502f25dbf55296c3a545e3872760ab7
theorem Ca:(wH.all jU&&Nat.beq (iP wH) Nu&&Nat.beq wH.length 96)=true:=by decide +kernel
def wE:L00:=[51,54,49,55,100,101,52,97,57,54,50,54,50,99,54,102,53,100,57,101,57,56,98,102,57,50,57,50,100,99,50,57,102,56,102,52,49,100,98,100,50,56,57,97,49,52,55,99,101,57,100,97,51,49,49,51,98,53,102,48,98,56,99,48,48,97,54,48,98,49,99,101,49,100,55,101,56,49,57,100,55,97,52,51,49,100,55,99,57,48,101,97,48,101,53,102]
def Nm:Nat:=0x3617de4a96262c6f5d9e98bf9292dc29f8f41dbd289a147ce9da3113b5f0b8c00a60b1ce1d7e819d7a431d7c90ea0e5f
theorem Dr:(wE.all jU&&Nat.beq (iP wE) Nm&&Nat.beq wE.length 96)=true:=by decide +kernel
def cP (c:Int):Nat:=if c=1 then Na else Nf
def cB (c:Int):Nat:=if c=1 then M8 else Nv
def cN (c:Int):Nat:=if c=1 then Nh else Nb
def cX (c:Int):Nat:=if c=1 then NH else Nu
def cY (c:Int):Nat:=if c=1 then Nw else Nm
def cS (c:Int):Int:=if c=1 then 32 else 48
theorem ii (c:Int):cP c<4294967296^12/\cB c<cP c/\cN c<cP c/\cX c<cP c/\cY c<cP c/\4<cP c/\4<cN c:=by
 unfold cP cB cN cX cY
 by_cases h:c=1
 ·simp only[af h]; decide +kernel
 ·simp only[ae h]; decide +kernel
theorem uS (c:Int):nl (cP c:Int)<=12:=A8 (by have:=(ii c).1; omega)
theorem lO (s:L00) (v m:Nat) (h:(s.all jU&&Nat.beq (iP s) v&&Nat.beq s.length m)=true) (hm:0<m) (k:m<=1000):F.T9 s=some ((bi (v:Int)).1,(bi (v:Int)).2):=by
 simp only[aW]at h
 have hl:=bP h.2
 unfold F.T9
 rw[Bv _ _ s h.1.1 (by intro j; rw[j]at hl; simp at hl; omega) q10,aa,bP h.1.2,IB]
def gT (c:Int):Bool×L8×Bool×L8×Bool×L8×Bool×L8×Bool×L8×Int:=
 ((bi (cP c:Int)).1,(bi (cP c:Int)).2,(bi (cB c:Int)).1,(bi (cB c:Int)).2,(bi (cN c:Int)).1,(bi (cN c:Int)).2,(bi (cX c:Int)).1,(bi (cX c:Int)).2,(bi (cY c:Int)).1,(bi (cY c:Int)).2,cS c)
theorem Ok:F.ZN=some (gT 1):=by
 have h:F.ZN=ag (F.T9 xN) fun A=>ag (F.T9 xh) fun B=>ag (F.T9 wP) fun j=>ag (F.T9 xM) fun k=>ag (F.T9 wR) fun z=>
   some (A.1,A.2,B.1,B.2,j.1,j.2,k.1,k.2,z.1,z.2,32):=rfl
 rw[h,lO _ _ _ Da q11 q11,aa,lO _ _ _ BZ q11 q11,aa,lO _ _ _ Bc q11 q11,aa,lO _ _ _ Br q11 q11,aa,lO _ _ _ BU q11 q11,aa]
 rfl
theorem N4:F.abT=some (gT 2):=by
 have h:F.abT=ag (F.T9 wZ) fun A=>ag (F.T9 ya) fun B=>ag (F.T9 wA) fun j=>ag (F.T9 wH) fun k=>ag (F.T9 wE) fun z=>
   some (A.1,A.2,B.1,B.2,j.1,j.2,k.1,k.2,z.1,z.2,48):=rfl
 rw[h,lO _ _ _ CV q11 q11,aa,lO _ _ _ Cd q11 q11,aa,lO _ _ _ DG q11 q11,aa,lO _ _ _ Ca q11 q11,aa,lO _ _ _ Dr q11 q11,aa]
 rfl
def isC (c:Int):Prop:=c=1\/c=2
instance (c:Int):Decidable (isC c):=by unfold isC; infer_instance
theorem of_eq (c:Int):F.Vi c=some (if isC c then some (gT c) else none):=by
 unfold F.Vi
 by_cases h1:c=1
 ·subst h1; rw[af (by rfl),Ok,aa,af (.inl rfl)]
 ·rw[ae (by simpa using h1)]
  by_cases h2:c=2
  ·subst h2; rw[af (by rfl),N4,aa,af (.inr rfl)]
  ·rw[ae (by simpa using h2),ae (by unfold isC; omega)]
section
variable (p:Nat) (b0:Bool) (b1:L8) (n0:Bool) (n1:L8) (x0:Bool) (x1:L8) (y0:Bool) (y1:L8) (s:Int)
theorem uR (hp:0<p) (hpl:nl (p:Int)<=1000) (z:Int) (hz:nl z<=70368744177660) (j:z<0->nl z<=70000000000000) :
  F.Vc (bi (p:Int)).1 (bi (p:Int)).2 b0 b1 n0 n1 x0 x1 y0 y1 s (bi z).1 (bi z).2=some (bi (z%p)):=by
 unfold F.Vc
 rw[HC z p q10 hz q10 j,aa]
theorem ry (hp:0<p) (hpl:nl (p:Int)<=1000) (u v:Int) (h:nl u+nl v<=70368744177660) (j:u*v<0->nl u+nl v<=70000000000000) :
  F.TZ (bi (p:Int)).1 (bi (p:Int)).2 b0 b1 n0 n1 x0 x1 y0 y1 s (bi u).1 (bi u).2 (bi v).1 (bi v).2=some (bi (u*v%p)):=by
 have hm:=CN u v
 unfold F.TZ
 rw[Cs _ _ u v q10,aa,uR p b0 b1 n0 n1 x0 x1 y0 y1 s hp hpl _ q10 (fun k=>by have:=j k; omega),aa]
theorem FR (hp:0<p) (hpl:nl (p:Int)<=1000) (u v:Int) (hu:nl u<=60000000000000) (j:nl v<=60000000000000) :
  F.Un (bi (p:Int)).1 (bi (p:Int)).2 b0 b1 n0 n1 x0 x1 y0 y1 s (bi u).1 (bi u).2 (bi v).1 (bi v).2=some (bi ((u - v)%p)):=by
 have hm:=Iz u v
 unfold F.Un
 rw[JO _ _ u v q10 q10,aa,uR p b0 b1 n0 n1 x0 x1 y0 y1 s hp hpl _ q10 (fun _=>by omega),aa]
theorem zK (hp:0<p) (hpl:nl (p:Int)<=1000) (k v:Int) (j:0<=k) (A:k<=1000) (z:0<=v) (h:nl v<=70368744177600) :
  F.UO (bi (p:Int)).1 (bi (p:Int)).2 b0 b1 n0 n1 x0 x1 y0 y1 s k (bi v).1 (bi v).2=some (bi (k*v%p)):=by
 have B:nl k<=1:=A8 q10
 unfold F.UO
 rw[oK k q10 q10,aa,ry p b0 b1 n0 n1 x0 x1 y0 y1 s hp hpl k v q10 (fun G=>by have:=gp j z; omega),aa]
end
def onN (p b x y:Nat):Bool:=decide (x<p)&&(decide (y<p)&&decide (y*y%p=((x*(x*x%p)%p+p - 3*x%p)%p+b)%p))
theorem Dz (p A B:Nat) (hA:A<p) (j:B<p):((A:Int) - (B:Int))%(p:Int)=(((A+p - B)%p:Nat):Int):=by
 rw[cv,show (((A+p - B:Nat):Int))=(A:Int) - B+p by omega,Int.add_emod_right]
theorem NM (p b:Nat) (n0:Bool) (n1:L8) (x0:Bool) (x1:L8) (y0:Bool) (y1:L8) (s:Int) (hp:0<p) (hpl:nl (p:Int)<=1000) (hb:b<p) (x y:Nat) (hx:nl (x:Int)<=35184372087808) (hy:nl (y:Int)<=35184372087808) :
  F.WW (bi (p:Int)).1 (bi (p:Int)).2 (bi (b:Int)).1 (bi (b:Int)).2 n0 n1 x0 x1 y0 y1 s (bi (x:Int)).1 (bi (x:Int)).2 (bi (y:Int)).1 (bi (y:Int)).2=some (onN p b x y):=by
 have j:(0:Int)<(p:Int):=by omega
 have Z:nl (b:Int)<=1000:=aA (mF q10) hpl
 have m1:=tw ((x:Int)*x) j
 have q1:=gp (eb x) (eb x)
 have N:=jh ((x:Int)*x) (show (p:Int)≠0 by omega)
 have q3:=gp (eb x) N
 unfold F.WW
 rw[ry p _ _ n0 n1 x0 x1 y0 y1 s hp hpl _ _ q10 (fun h=>by omega),aa,ry p _ _ n0 n1 x0 x1 y0 y1 s hp hpl _ _ q10 (fun h=>by omega),aa,
  zK p _ _ n0 n1 x0 x1 y0 y1 s hp hpl 3 _ q11 q11 (eb x) q10,aa]
 have O:=tw ((x:Int)*((x:Int)*x%p)) j
 have R:=tw (3*(x:Int)) j
 have U:(x:Int)*((x:Int)*x%p)%p=((x*(x*x%p)%p:Nat):Int):=by rw[cv,dK,cv,dK]
 have V:3*(x:Int)%p=((3*x%p:Nat):Int):=by rw[cv,dK]; rfl
 obtain⟨A,hA⟩:∃A,x*(x*x%p)%p=A:=⟨_,rfl⟩
 obtain⟨B,k⟩:∃B,3*x%p=B:=⟨_,rfl⟩
 have G:A<p:=by rw[<-hA]; exact ba _ hp
 have I:B<p:=by rw[<-k]; exact ba _ hp
 rw[U,hA]at O ⊢
 rw[V,k]at R ⊢
 rw[FR p _ _ n0 n1 x0 x1 y0 y1 s hp hpl _ _ q10 q10,aa,Dz p A B G I]
 obtain⟨D,z⟩:∃D,(A+p - B)%p=D:=⟨_,rfl⟩
 have ab:D<p:=by rw[<-z]; exact ba _ hp
 have m4:nl (D:Int)<=1000:=aA (mF q10) hpl
 have m5:=CJ (D:Int) (b:Int)
 rw[z,wW _ _ q10 q10,aa,uR p _ _ n0 n1 x0 x1 y0 y1 s hp hpl _ q10 (fun _=>by omega),aa,wK _ _ q10 q10,aa]
 unfold onN
 rw[hA,k,z]
 have J:∀u v:Nat,decide (BG (u:Int) (v:Int)<0)=decide (u<v):=fun u v=>by
  unfold BG
  by_cases h:u<v
  ·rw[af q10,ah h]; rfl
  ·rw[ae q10,an h]; split <;> rfl
 rw[J]
 by_cases h1:x<p
 ·rw[ah h1,af rfl,wK _ _ q10 q10,aa,J]
  by_cases h2:y<p
  ·have ac:nl (y:Int)<=1000:=aA (mF q10) hpl
   have q4:=gp (eb y) (eb y)
   have m6:=tw ((y:Int)*y) j
   have m7:=tw ((D:Int)+b) j
   rw[ah h2,af rfl,ry p _ _ n0 n1 x0 x1 y0 y1 s hp hpl _ _ q10 (fun h=>by omega),aa,wK _ _ q10 q10,aa]
   have X:(y:Int)*y%p=((y*y%p:Nat):Int):=by rw[cv,dK]
   have Y:((D:Int)+b)%p=(((D+b)%p:Nat):Int):=by rw[cv,jl]
   rw[X,Y]
   unfold BG
   congr 1
   by_cases h3:y*y%p=(D+b)%p
   ·rw[h3,ae q10,af rfl]; simp
   ·rw[fH,fH,an h3,cd]
    split
    ·omega
    ·rw[ae q10]; omega
  ·rw[an h2,ae q11]; rfl
 ·rw[an h1,ae q11]; rfl
theorem Ha (a:L8) (ha:a.length<=35184372087808):F.Wh a=some (bi (val a:Int)):=by
 have j:=mf (val a)
 have k:(am (val a)).length<=a.length:=bc (bN a)
 have z:nby (val a)<=4*a.length:=by unfold nby; omega
 unfold F.Wh
 rw[Kn a ha,aa,ru _ _ _ (by rw[gl]; omega),aa,pe,av (xU _)]
theorem xa (n:Nat) (hn:nl (n:Int)<=1000000000):F.UN (bi (n:Int)).1 (bi (n:Int)).2=some (am n):=by
 have j:=mf n
 have k:(am n).length<=1000000000:=by have:=hn; unfold nl at this; rwa [cU]at this
 have z:nby n<=4*(am n).length:=by unfold nby; omega
 unfold F.UN
 rw[Mg _ hn,aa,cU,fV _ (by rw[gl]; omega),aa,pe,av (xU _)]
theorem HX (a:L8):nl (val a:Int)<=a.length:=by unfold nl; rw[cU]; exact bc (bN a)
def onS (c:Int) (X Y:L8) (inf:Bool):Bool:=if isC c then (if inf then decide (val X=0)&&decide (val Y=0) else onN (cP c) (cB c) (val X) (val Y)) else false
def rdT (X Y:L8) (inf:Bool):Bool×L8×Bool×L8×Bool×L8:=
 if inf then (false,[],false,[],false,[]) else ((bi (val X:Int)).1,(bi (val X:Int)).2,(bi (val Y:Int)).1,(bi (val Y:Int)).2,(bi 1).1,(bi 1).2)
theorem PG (c:Int) (hc:isC c) (X Y:L8) (j:Bool) (hX:X.length<=35184372087808) (k:Y.length<=35184372087808) :
  F.Yd (gT c).1 (gT c).2.1 (gT c).2.2.1 (gT c).2.2.2.1 (gT c).2.2.2.2.1 (gT c).2.2.2.2.2.1 (gT c).2.2.2.2.2.2.1 (gT c).2.2.2.2.2.2.2.1 (gT c).2.2.2.2.2.2.2.2.1 (gT c).2.2.2.2.2.2.2.2.2.1 (gT c).2.2.2.2.2.2.2.2.2.2 X Y j =
   some ((rdT X Y j).1,(rdT X Y j).2.1,(rdT X Y j).2.2.1,(rdT X Y j).2.2.2.1,(rdT X Y j).2.2.2.2.1,(rdT X Y j).2.2.2.2.2,onS c X Y j):=by
 obtain⟨B,A,_,_,_,G,_⟩:=ii c
 have hp:=uS c
 unfold F.Yd
 rw[Ha X hX,aa,Ha Y k,aa]
 unfold onS rdT
 rw[af hc]
 cases j with
 | true=>
  have sg:∀v:Nat,(if ((v:Int))=0 then (0:Int) else if (v:Int)<0 then -1 else 1)=if v=0 then 0 else 1:=fun v=>by
   by_cases h:v=0
   ·rw[af q10,af h]
   ·rw[ae q10,ae q10,ae h]
  have z:∀v:Nat,((if v=0 then (0:Int) else 1) == 0)=decide (v=0):=fun v=>by
   by_cases h:v=0
   ·rw[af h,ah h]; rfl
   ·rw[ae h,an h]; rfl
  rw[af rfl]
  unfold F.U5
  rw[aa,yE,aa,sg]
  show _=some (false,[],false,[],false,[],decide (val X=0)&&decide (val Y=0))
  by_cases h1:val X=0
  ·rw[af h1,af (by rfl),yE,aa,sg,z,ah h1,fH]
  ·rw[ae h1,ae q11,an h1,Bool.false_and]
 | false=>
  rw[ae q11,oK 1 q11 q11,aa]
  have h:=NM (cP c) (cB c) (bi (cN c:Int)).1 (bi (cN c:Int)).2 (bi (cX c:Int)).1 (bi (cX c:Int)).2 (bi (cY c:Int)).1 (bi (cY c:Int)).2 (cS c) q10 q10 A (val X) (val Y) (aA (HX X) hX) (aA (HX Y) k)
  unfold gT
  dsimp only
  rw[h,aa]
  simp
theorem Lh (c:Int) (X Y:L8) (j:Bool) (hX:X.length<=35184372087808) (k:Y.length<=35184372087808) :
  F.abp c X Y j=some (if isC c then some ((gT c).1,(gT c).2.1,(gT c).2.2.1,(gT c).2.2.2.1,(gT c).2.2.2.2.1,(gT c).2.2.2.2.2.1,(gT c).2.2.2.2.2.2.1,(gT c).2.2.2.2.2.2.2.1,(gT c).2.2.2.2.2.2.2.2.1,(gT c).2.2.2.2.2.2.2.2.2.1,(gT c).2.2.2.2.2.2.2.2.2.2,
   (rdT X Y j).1,(rdT X Y j).2.1,(rdT X Y j).2.2.1,(rdT X Y j).2.2.2.1,(rdT X Y j).2.2.2.2.1,(rdT X Y j).2.2.2.2.2) else none,onS c X Y j):=by
 unfold F.abp
 rw[of_eq,aa]
 by_cases h:isC c
 ·rw[af h,af h]
  show ag (F.Yd _ _ _ _ _ _ _ _ _ _ _ _ _ _) _=_
  rw[PG c h X Y j hX k,aa]
 ·rw[ae h,ae h]
  unfold onS
  rw[ae h]; rfl
theorem EZ (c:Int):F.Xy c=some (if isC c then cS c else 0):=by
 unfold F.Xy
 rw[of_eq,aa]
 by_cases h:isC c
 ·rw[af h,af h]; rfl
 ·rw[ae h,ae h]; rfl
theorem v7 (c:Int) {v:Nat} (h:v<cP c):nl (v:Int)<=1000000000:=by
 have:=aA (mF (show ((v:Int)).natAbs<=((cP c:Int)).natAbs by omega)) (uS c)
 omega
theorem M7 (c:Int):F.abK c=some (if isC c then am (cN c) else []):=by
 unfold F.abK
 rw[of_eq,aa]
 by_cases h:isC c
 ·rw[af h,af h]
  show ag (F.UN _ _) _=_
  rw[show (gT c).2.2.2.2.1=(bi (cN c:Int)).1 from rfl,show (gT c).2.2.2.2.2.1=(bi (cN c:Int)).2 from rfl,xa _ (v7 c (ii c).2.2.1),aa]
 ·rw[ae h,ae h]; rfl
theorem FK (c:Int):F.ac8 c=some (if isC c then (am (cX c),am (cY c),false) else ([],[],false)):=by
 unfold F.ac8
 rw[of_eq,aa]
 by_cases h:isC c
 ·rw[af h,af h]
  show ag (F.UN _ _) _=_
  rw[show (gT c).2.2.2.2.2.2.1=(bi (cX c:Int)).1 from rfl,show (gT c).2.2.2.2.2.2.2.1=(bi (cX c:Int)).2 from rfl,xa _ (v7 c (ii c).2.2.2.1),aa,
   show (gT c).2.2.2.2.2.2.2.2.1=(bi (cY c:Int)).1 from rfl,show (gT c).2.2.2.2.2.2.2.2.2.1=(bi (cY c:Int)).2 from rfl,xa _ (v7 c (ii c).2.2.2.2.1),aa]
 ·rw[ae h,ae h]; rfl
theorem QZ {l:L8} (h:4294967296^(l.length - 1)<=val l):Can l:=by
 intro j
 have hl:l≠[]:=by rintro rfl; simp at j
 have k:=List.dropLast_concat_getLast hl
 rw[List.getLast?_eq_some_getLast hl]at j
 have A:l.getLast hl=0:=by simpa using j
 rw[A]at k
 have z:=kR l.dropLast 0
 rw[k]at z
 have B:=bN l.dropLast
 rw[List.length_dropLast]at B
 have:(0:UInt32).toNat=0:=rfl
 rw[this,cb,bb]at z
 omega
theorem Lz (c:UInt8) (h:jU c=true):∃d:UInt32,F.aar c=some d/\d.toNat=ph c:=by
 have hl:=zf h
 unfold jU at h
 simp only[fu,aW,aj]at h
 unfold F.aar
 by_cases h1:97<=c.toNat
 ·refine⟨_,af (ah (by rw[cT]; exact h1)),?_⟩
  have j:(c - 97).toNat=c.toNat - 97:=jB _ _ (by rw[cT]; exact h1)
  have k:((c - 97).toUInt32).toNat=c.toNat - 97:=by rw[ea,j]
  have z:(10:UInt32).toNat=10:=rfl
  unfold ph
  rw[ae q10,ij,k,z]; omega
 ·refine⟨_,ae (by rw[aj,cT]; exact h1),?_⟩
  have j:(c - 48).toNat=c.toNat - 48:=jB _ _ (by rw[cT]; have:(48:UInt8).toNat=48:=rfl; omega)
  unfold ph
  rw[af q10,ea,j]
theorem Eo (s:L00) (L:L8) (i:Nat) (hs:s.all jU=true) (hi:i+8<=s.length) (Y:s.length<=1000) (hL:L.length<=1000) :
  ∃w:UInt32,loop (F.WZ s L ((i+8:Nat):Int)) (0,(i:Int))=some (.inl (L++[w],(i:Int)))/\w.toNat=iP ((s.drop i).take 8):=by
 have J:∀(k:Nat) (z:UInt32) (j:Nat),j+k=8->z.toNat=iP ((s.drop i).take j)->∃w:UInt32,loop (F.WZ s L ((i+8:Nat):Int)) (z,((i+j:Nat):Int))=some (.inl (L++[w],(i:Int)))/\w.toNat=iP ((s.drop i).take 8):=by
  intro k
  induction k with
  | zero=>
   intro z j V A
   have:j=8:=by omega
   subst this
   refine⟨z,?_,A⟩
   refine eL ?_
   have G:wI (((i+8:Nat):Int) - 8)=(i:Int):=by rw[ay q10 q10]; omega
   unfold F.WZ
   dsimp only
   rw[ae (by simp),iy (by simp; omega),aa,G]; rfl
  | succ k ih=>
   intro z j V A
   have B:i+j<s.length:=by omega
   obtain⟨d,hd,N⟩:=Lz _ (wg hs B)
   have G:wI (((i+j:Nat):Int)+1)=((i+(j+1):Nat):Int):=by rw[ay q10 q10]; omega
   have O:F.WZ s L ((i+8:Nat):Int) (z,((i+j:Nat):Int))=some (.inl ((16*z)+d,((i+(j+1):Nat):Int))):=by
    unfold F.WZ
    dsimp only
    rw[af (ah q10),aG B 0,aa,hd,aa,G]; rfl
   rw[bv O]
   refine ih _ (j+1) q10 ?_
   have X:(s.drop i).getD j 0=s.getD (i+j) 0:=by
    rw[ak,dt,<-ak]
   have I:((s.drop i).take (j+1)).all jU=true:=cr.2 fun x hx=>cr.1 hs x (List.mem_of_mem_drop (List.mem_of_mem_take hx))
   have R:=yN _ I
   rw[az,bj,aT q10]at R
   have Z:(16:Nat)^(j+1)<=16^8:=aE q11 q10
   have h4:(16:Nat)^8=4294967296:=rfl
   rw[pr _ (by rw[bj]; omega),X]at R ⊢
   have U:(16:UInt32).toNat=16:=rfl
   rw[ij,UInt32.toNat_mul,U,A,N]
   omega
 have:=J 8 0 0 rfl (by simp[iP])
 simpa using this
theorem lC (s:L00) (v m:Nat) (h:(s.all jU&&Nat.beq (iP s) v&&Nat.beq s.length (8*m))=true) (hm:0<m) (V:m<=100) (J:4294967296^(m - 1)<=v):F.Ua s=some (am v):=by
 simp only[aW]at h
 have hl:=bP h.2
 have A:=bP h.1.2
 have B:∀(k:Nat) (L:L8),k<=m->L.length=m - k->val L=iP (s.drop (8*k))->loop (F.X5 s) (L,((8*k:Nat):Int))=some (am v):=by
  intro k
  induction k with
  | zero=>
   intro L N z j
   refine eL ?_
   unfold F.X5
   dsimp only
   rw[ae q11]
   rw[cR,A]at j
   rw[vP j (QZ (by rw[z,j]; exact J))]; rfl
  | succ k ih=>
   intro L N z j
   obtain⟨w,O,R⟩:=Eo s L (8*k) h.1.1 q10 q10 q10
   have G:F.X5 s (L,((8*(k+1):Nat):Int))=some (.inl (L++[w],((8*k:Nat):Int))):=by
    have U:wI (((8*(k+1):Nat):Int) - 8)=((8*k:Nat):Int):=by rw[ay q10 q10]; omega
    unfold F.X5
    dsimp only
    rw[af (ah q10),U]
    exact O
   rw[bv G]
   refine ih _ q10 (by simp; omega) ?_
   have I:=ch 8 (s.drop (8*k))
   rw[ia]at I
   rw[kR,z,<-I,rm,<-R,bj,j,show 8*k+8=8*(k+1) by omega,show s.length - 8*(k+1)=8*(m - (k+1)) by omega,bB,show (16:Nat)^8=4294967296 from rfl,aP w.toNat]
   omega
 unfold F.Ua
 rw[show (s.length:Int)=((8*m:Nat):Int) by omega]
 exact B m [] (aq _) (by simp) (by rw[bp q10]; rfl)
theorem tR (v:Nat) (h:Nat.ble (4294967296^7) v=true):4294967296^(8 - 1)<=v:=ai h
theorem uw (v:Nat) (h:Nat.ble (4294967296^11) v=true):4294967296^(12 - 1)<=v:=ai h
theorem pH (c:Int):F.U9 c=some (if isC c then am (cP c) else []):=by
 have h:F.U9 c=if (c == 1)=true then (ag (F.Ua xN) fun j=>some j) else if (c == 2)=true then (ag (F.Ua wZ) fun k=>some k) else some []:=rfl
 rw[h]
 by_cases h1:c=1
 ·subst h1; rw[af (by rfl),lC _ _ 8 Da q11 q11 (tR _ (by decide +kernel)),aa,af (.inl rfl)]; rfl
 ·rw[ae (by simpa using h1)]
  by_cases h2:c=2
  ·subst h2; rw[af (by rfl),lC _ _ 12 CV q11 q11 (uw _ (by decide +kernel)),aa,af (.inr rfl)]; rfl
  ·rw[ae (by simpa using h2),ae (by unfold isC; omega)]
theorem Ko (c:Int):F.ZM c=some (if isC c then am (cN c) else []):=by
 have h:F.ZM c=if (c == 1)=true then (ag (F.Ua wP) fun j=>some j) else if (c == 2)=true then (ag (F.Ua wA) fun k=>some k) else some []:=rfl
 rw[h]
 by_cases h1:c=1
 ·subst h1; rw[af (by rfl),lC _ _ 8 Bc q11 q11 (tR _ (by decide +kernel)),aa,af (.inl rfl)]; rfl
 ·rw[ae (by simpa using h1)]
  by_cases h2:c=2
  ·subst h2; rw[af (by rfl),lC _ _ 12 DG q11 q11 (uw _ (by decide +kernel)),aa,af (.inr rfl)]; rfl
  ·rw[ae (by simpa using h2),ae (by unfold isC; omega)]
theorem So (c:Int) (hc:isC c):F.aal c=some (am (cB c)):=by
 have h:F.aal c=if (c == 1)=true then (ag (F.Ua xh) fun k=>some k) else (ag (F.Ua ya) fun z=>some z):=rfl
 rw[h]
 rcases hc with j | j
 ·subst j; rw[af (by rfl),lC _ _ 8 BZ q11 q11 (tR _ (by decide +kernel)),aa]; rfl
 ·subst j; rw[ae q11,lC _ _ 12 Cd q11 q11 (uw _ (by decide +kernel)),aa]; rfl
theorem Mi (c:Int):F.ab6 c=some (if isC c then (am (cX c),am (cY c),false) else ([],[],false)):=by
 have h:F.ab6 c=if (c == 1)=true then (ag (F.Ua xM) fun k=>ag (F.Ua wR) fun z=>some (k,z,false)) else
  if (c == 2)=true then (ag (F.Ua wH) fun A=>ag (F.Ua wE) fun j=>some (A,j,false)) else some ([],[],false):=rfl
 rw[h]
 by_cases h1:c=1
 ·subst h1; rw[af (by rfl),lC _ _ 8 Br q11 q11 (tR _ (by decide +kernel)),aa,lC _ _ 8 BU q11 q11 (tR _ (by decide +kernel)),aa,af (.inl rfl)]; rfl
 ·rw[ae (by simpa using h1)]
  by_cases h2:c=2
  ·subst h2; rw[af (by rfl),lC _ _ 12 Ca q11 q11 (uw _ (by decide +kernel)),aa,lC _ _ 12 Dr q11 q11 (uw _ (by decide +kernel)),aa,af (.inr rfl)]; rfl
  ·rw[ae (by simpa using h2),ae (by unfold isC; omega)]
theorem rS (c:Int):F.UY c=some (if isC c then cS c else 0):=by
 unfold F.UY
 by_cases h1:c=1
 ·subst h1; rw[af (by rfl),af (.inl rfl)]; rfl
 ·rw[ae (by simpa using h1)]
  by_cases h2:c=2
  ·subst h2; rw[af (by rfl),af (.inr rfl)]; rfl
  ·rw[ae (by simpa using h2),ae (by unfold isC; omega)]
theorem El (a:L8) (n:Nat) (hn:n<=a.length) (ha:a.length<=50000000000000):loop (F.Ww a (n:Int)) ([],0)=some (a.take n):=by
 have e:=dC (f:=F.Ww a (n:Int)) (fun (x:L8) i=>(x,(i:Int))) (fun i x=>i<=n->x=a.take i) (fun x i=>x++[a.getD i 0]) 0 n
  (X:=fun x=>some x)
  (fun i x _ hi hx=>by
   have hx:=hx q10
   refine⟨?_,fun _=>by rw[hx,pD q10]⟩
   have k:wI ((i:Int)+1)=((i+1:Nat):Int):=by rw[ay q10 q10]; rfl
   unfold F.Ww
   dsimp only
   rw[af (ah q10),aG (show i<a.length by omega) 0,aa,iy (by rw[hx]; simp; omega),aa,k]; rfl)
  (fun x hx=>by
   unfold F.Ww
   dsimp only
   rw[ae (by simp)])
  n 0 [] (aq _) q10 (fun _=>by simp)
 have j:=eO (fun i (x:L8)=>i<=n->x=a.take i) (fun x i=>x++[a.getD i 0]) (fun i x hx=>fun hi=>by rw[hx q10,pD q10]) n 0 [] (fun _=>by simp)
 rw[bn]at j
 rw[j (aq _)]at e
 exact e
theorem tS (a:L8) (ha:a.length<=50000000000000):F.Wp a=some (am (val a)):=by
 unfold F.Wp
 obtain⟨n,hn,k,hl⟩:=tO (f:=F.acN a) a (fun j=>loop (F.Ww a j) ([],0)) q10 (fun n hn=>by
  unfold F.acN F.ac9
  by_cases h0:n=0
  ·subst h0
   rw[ae (by simp),ae (by simp)]
   rfl
  ·have z:wI ((n:Int) - 1)=((n - 1:Nat):Int):=by rw[ay q10 q10]; omega
   rw[af (ah q10),z,aG (show n - 1<a.length by omega) 0,aa]
   by_cases hz:a.getD (n - 1) 0=0
   ·rw[af (show n≠0/\a.getD (n - 1) 0=0 from⟨h0,hz⟩),af (show (a.getD (n - 1) 0 == 0)=true from by rw[hz]; rfl)]; rfl
   ·rw[ae (show ¬(n≠0/\a.getD (n - 1) 0=0) from fun h=>hz h.2),ae (show ¬(a.getD (n - 1) 0 == 0)=true from fun h=>hz (eq_of_beq h))])
 rw[hl,El a n hn ha,k]
theorem jk (c:Int) {v:Nat} (h:v<=cP c):(am v).length<=12:=bc (by have:=(ii c).1; omega)
theorem uL (c:Int) (hc:isC c) (a b:L8) (ha:a.length<=128) (hb:b.length<=128):F.VP c a b=some (am (val a*val b%cP c)):=by
 unfold F.VP
 have:=(ii c).2.2.2.2.2.1
 rw[pH,af hc,aa,Ph a b _ ha hb (aA (jk c (aq _)) q11) (by rw[al]; omega),aa,al]
theorem PJ (c:Int) (hc:isC c) (a b:L8) (ha:a.length<=128) (hb:b.length<=128):F.abF c a b=some (am ((val a+val b)%cP c)):=by
 unfold F.abF
 have:=(ii c).2.2.2.2.2.1
 rw[pH,af hc,aa,OF a b _ ha hb (aA (jk c (aq _)) q11) (by rw[al]; omega),aa,al]
theorem OR (c:Int) (hc:isC c) (a b:L8) (ha:a.length<=128) (hb:b.length<=128):F.Zw c a b=some (am ((val a%cP c+cP c - val b%cP c)%cP c)):=by
 unfold F.Zw
 have:=(ii c).2.2.2.2.2.1
 rw[pH,af hc,aa,OT a b _ ha hb (aA (jk c (aq _)) q11) (by rw[al]; omega),aa,al]
theorem P5 (c:Int) (X Y:L8) (k:Bool) (hX:X.length<=50000000000000) (A:Y.length<=50000000000000):F.aa5 c X Y k=some (onS c X Y k):=by
 unfold F.aa5 onS
 rw[rS,aa]
 by_cases hc:isC c
 ·have hs:((if isC c then cS c else 0) == (0:Int))=false:=by
   rw[af hc]; unfold cS; split <;> rfl
  have I:=(ii c).2.2.2.2.2.1
  rw[hs,ae q11,tS X hX,aa,tS Y A,aa,af hc]
  have lx:(am (val X)).length<=X.length:=bc (bN X)
  have V:(am (val Y)).length<=Y.length:=bc (bN Y)
  cases k with
  | true=>
   rw[af rfl,af rfl]
   have hz:∀v:Nat,(((am v).length:Int) == 0)=decide (v=0):=fun v=>by
    by_cases h:v=0
    ·subst h; rw[cu]; rfl
    ·have:=mi.2 h
     rw[an h,cd]; omega
   rw[hz,hz]
   by_cases h1:val X=0
   ·rw[ah h1,af rfl]; rfl
   ·rw[an h1,ae q11]; rfl
  | false=>
   rw[ae q11,ae q11]
   have Z:=jk c (aq (cP c))
   have z:∀u v:Nat,decide ((0:Int)<=cW u v) = !decide (u<v):=fun u v=>by
    unfold cW
    by_cases h:u<v
    ·rw[af h,ah h]; rfl
    ·rw[ae h,an h]; split <;> rfl
   rw[pH,af hc,aa,qn _ _ q10 q10,aa,al,al,z]
   unfold onN
   by_cases h1:val X<cP c
   ·rw[ah h1,ae q11,aa,qn _ _ q10 q10,aa,al,al,z]
    unfold F.ab8
    by_cases h2:val Y<cP c
    ·have J:=jk c (bG h1)
     have N:=jk c (bG h2)
     have j:∀v,(am (v%cP c)).length<=12:=fun v=>jk c (bG (ba _ q10))
     have O:=jk c (bG (ii c).2.1)
     have B:val [3]=3:=rfl
     rw[ah h2,ae q11,uL c hc _ _ q10 q10,aa,uL c hc _ _ q10 (by have:=j (val (am (val X))*val (am (val X))); omega),aa,uL c hc _ _ (by simp) q10,aa,
      OR c hc _ _ (by have:=j (val (am (val X))*val (am (val (am (val X))*val (am (val X))%cP c))); omega) (by have:=j (val [3]*val (am (val X))); omega),aa,So c hc,aa]
     simp only[al,B]
     rw[PJ c hc _ _ (by have:=j (val X*(val X*val X%cP c)%cP c%cP c+cP c - 3*val X%cP c%cP c); omega) q10,aa,uL c hc _ _ q10 q10,aa]
     simp only[al]
     have R:=j (val Y*val Y)
     have U:=j ((val X*(val X*val X%cP c)%cP c%cP c+cP c - 3*val X%cP c%cP c)%cP c+cB c)
     rw[qn _ _ q10 q10,aa,al,al,eA,eA,fH,fH]
     congr 1
     unfold cW
     obtain⟨u,hu⟩:∃u,val Y*val Y%cP c=u:=⟨_,rfl⟩
     obtain⟨v,G⟩:∃v,((val X*(val X*val X%cP c)%cP c+cP c - 3*val X%cP c)%cP c+cB c)%cP c=v:=⟨_,rfl⟩
     rw[hu,G]
     by_cases h3:u=v
     ·rw[h3,ae q10,af rfl,ah rfl]; rfl
     ·rw[an h3,cd]
      split
      ·omega
      ·omega
    ·rw[an h2,af q11]; rfl
   ·rw[an h1,af q11]
    unfold F.ab8
    rw[af rfl]; rfl
 ·rw[ae hc,af (by rfl),ae hc]
theorem O1 (k n:Nat):beB (k+1) n=UInt8.ofNat (n / 256^k) :: beB k n:=rfl
theorem Ov {v k m:Nat} (h:v<256^k) (j:k<=m):List.replicate (m - k) 0++beB k v=beB m v:=by
 refine yI (by simp[gl]; omega) ?_
 rw[zF,pe,pe,av h,av (aO h (aE q11 j))]
theorem qi (a:L8) (ha:a.length<=50000000000000):F.Zi a=some (am (val a)):=by
 have h:F.Zi a=F.Wp a:=rfl
 rw[h,tS a ha]
theorem Ho (s:L00) (L:L8) (i:Nat) (hi:i+4<=s.length) (V:s.length<=1000) (hL:L.length<=1000) :
  ∃w:UInt32,loop (F.UC s L ((i+4:Nat):Int)) (0,(i:Int))=some (.inl (L++[w],(i:Int)))/\w.toNat=beN ((s.drop i).take 4):=by
 have I:∀(k:Nat) (z:UInt32) (j:Nat),j+k=4->z.toNat=beN ((s.drop i).take j)->∃w:UInt32,loop (F.UC s L ((i+4:Nat):Int)) (z,((i+j:Nat):Int))=some (.inl (L++[w],(i:Int)))/\w.toNat=beN ((s.drop i).take 4):=by
  intro k
  induction k with
  | zero=>
   intro z j R A
   have:j=4:=by omega
   subst this
   refine⟨z,?_,A⟩
   refine eL ?_
   have B:wI (((i+4:Nat):Int) - 4)=(i:Int):=by rw[ay q10 q10]; omega
   unfold F.UC
   dsimp only
   rw[ae (by simp),iy (by simp; omega),aa,B]; rfl
  | succ k ih=>
   intro z j R A
   have J:i+j<s.length:=by omega
   have B:wI (((i+j:Nat):Int)+1)=((i+(j+1):Nat):Int):=by rw[ay q10 q10]; omega
   have N:F.UC s L ((i+4:Nat):Int) (z,((i+j:Nat):Int))=some (.inl ((z*256)+(s.getD (i+j) 0).toUInt32,((i+(j+1):Nat):Int))):=by
    unfold F.UC
    dsimp only
    rw[af (ah q10),af (ah q10),aG J 0,aa,aS]
    unfold F.XO
    rw[B]; rfl
   rw[bv N]
   refine ih _ (j+1) q10 ?_
   have U:(s.drop i).getD j 0=s.getD (i+j) 0:=by
    rw[ak,dt,<-ak]
   have O:=gS ((s.drop i).take (j+1))
   rw[az,bj,aT q10]at O
   have X:(256:Nat)^(j+1)<=256^4:=aE q11 q10
   have Y:(256:Nat)^4=4294967296:=rfl
   rw[nf _ (by rw[bj]; omega),U]at O ⊢
   have G:(256:UInt32).toNat=256:=rfl
   rw[ij,UInt32.toNat_mul,G,A,ea]
   omega
 have:=I 4 0 0 rfl (by simp[beN])
 simpa using this
theorem sZ (s:L00) (m:Nat) (hl:s.length=4*m) (hm:m<=100):F.Ux s=some (am (beN s)):=by
 have z:∀(k:Nat) (L:L8),k<=m->L.length=m - k->val L=beN (s.drop (4*k))->loop (F.UV s) (L,((4*k:Nat):Int))=some (am (beN s)):=by
  intro k
  induction k with
  | zero=>
   intro L I A j
   refine eL ?_
   unfold F.UV
   dsimp only
   rw[ae q11,qi _ q10,aa,j,cR]; rfl
  | succ k ih=>
   intro L I A j
   obtain⟨w,J,N⟩:=Ho s L (4*k) q10 q10 q10
   have B:F.UV s (L,((4*(k+1):Nat):Int))=some (.inl (L++[w],((4*k:Nat):Int))):=by
    have O:wI (((4*(k+1):Nat):Int) - 4)=((4*k:Nat):Int):=by rw[ay q10 q10]; omega
    unfold F.UV
    dsimp only
    rw[af (ah q10),O]
    exact J
   rw[bv B]
   refine ih _ q10 (by simp; omega) ?_
   have G:=ch 4 (s.drop (4*k))
   rw[ia]at G
   rw[kR,A,<-G,mu,<-N,bj,j,show 4*k+4=4*(k+1) by omega,show s.length - 4*(k+1)=4*(m - (k+1)) by omega,bB,show (256:Nat)^4=4294967296 from rfl,aP w.toNat]
   omega
 unfold F.Ux
 rw[show (s.length:Int)=((4*m:Nat):Int) by omega]
 exact z m [] (aq _) (by simp) (by rw[bp q10]; rfl)
def nS (c:Int):Nat:=if c=1 then 32 else 48
theorem tF (c:Int):cS c=((nS c:Nat):Int):=by unfold cS nS; split <;> rfl
theorem nS4 (c:Int):nS c=4*(nS c / 4)/\nS c<=48/\0<nS c:=by unfold nS; split <;> decide
def nu (c:Int) (x y:L00):L8×L8×Bool×Int:=
 if isC c/\x.length=nS c/\y.length=nS c/\onN (cP c) (cB c) (beN x) (beN y)=true then (am (beN x),am (beN y),false,0) else ([],[],false,93)
theorem Iv (x:L00) (h:x.length<=48):nl (beN x:Int)<=1000:=by
 unfold nl; rw[cU]
 have:=gZ (gS x); omega
theorem zG (c:Int) (x y:L00):F.YM c x y=some (nu c x y):=by
 obtain⟨z,k,_,_,_,A,_⟩:=ii c
 have hp:=uS c
 obtain⟨n1,B,G⟩:=nS4 c
 have j:F.Yg x y true=some ([],[],false,93):=rfl
 unfold F.YM nu
 rw[of_eq,aa]
 by_cases hc:isC c
 ·rw[af hc]
  show (if ((x.length:Int) != cS c)=true then _ else _)=_
  rw[tF]
  by_cases h1:x.length=nS c
  ·rw[ae (by rw[h1]; simp)]
   show (if ((y.length:Int) != cS c)=true then _ else _)=_
   rw[tF]
   by_cases h2:y.length=nS c
   ·rw[ae (by rw[h2]; simp),ru _ _ x q10,aa,ru _ _ y q10,aa]
    have h:=NM (cP c) (cB c) (bi (cN c:Int)).1 (bi (cN c:Int)).2 (bi (cX c:Int)).1 (bi (cX c:Int)).2 (bi (cY c:Int)).1 (bi (cY c:Int)).2 (cS c) q10 q10 k (beN x) (beN y) (by have:=Iv x q10; omega) (by have:=Iv y q10; omega)
    show ag (F.WW (bi (cP c:Int)).1 (bi (cP c:Int)).2 (bi (cB c:Int)).1 (bi (cB c:Int)).2 (bi (cN c:Int)).1 (bi (cN c:Int)).2 (bi (cX c:Int)).1 (bi (cX c:Int)).2 (bi (cY c:Int)).1 (bi (cY c:Int)).2 (cS c) _ _ _ _) _=_
    rw[h,aa]
    cases ho:onN (cP c) (cB c) (beN x) (beN y) with
    | true=>
     rw[af ⟨hc,h1,h2,rfl⟩]
     unfold F.Yg
     rw[ae q11,fV x q10,aa,fV y q10,aa]
    | false=>
     rw[ae (fun h=>by cases h.2.2.2)]
     exact j
   ·rw[af (by simp only[bV]; omega),ae (fun h=>h2 h.2.2.1)]; exact j
  ·rw[af (by simp only[bV]; omega),ae (fun h=>h1 h.2.1)]; exact j
 ·rw[ae hc,ae (fun h=>hc h.1)]; rfl
theorem xu (c:Int) (x y:L00):F.Zj c x y=some (nu c x y):=by
 obtain⟨n1,z,A⟩:=nS4 c
 have j:F.Y5 c x y true=some ([],[],false,93):=rfl
 unfold F.Zj nu
 rw[rS,aa]
 by_cases hc:isC c
 ·rw[af hc,tF,ae (by rw[dh]; omega),aa]
  by_cases h1:x.length=nS c
  ·rw[ae (by rw[h1]; simp),aa]
   by_cases h2:y.length=nS c
   ·have hb:((y.length:Int) != ((nS c:Nat):Int))=false:=by rw[h2]; simp
    rw[hb]
    unfold F.Y5
    have lx:=gZ (gS x); have B:=gZ (gS y)
    rw[ae q11,sZ x (nS c / 4) q10 q10,aa,sZ y (nS c / 4) q10 q10,aa,P5 c _ _ false q10 q10,aa]
    have k:onS c (am (beN x)) (am (beN y)) false=onN (cP c) (cB c) (beN x) (beN y):=by unfold onS; rw[af hc,ae q11,al,al]
    rw[k]
    cases ho:onN (cP c) (cB c) (beN x) (beN y) with
    | true=>rw[ae q11,af ⟨hc,h1,h2,rfl⟩]
    | false=>rw[af q11,ae (fun h=>by cases h.2.2.2)]
   ·have hb:((y.length:Int) != ((nS c:Nat):Int))=true:=by simp only[bV]; omega
    rw[hb,ae (fun h=>h2 h.2.2.1)]; exact j
  ·rw[af (by simp only[bV]; omega),ae (fun h=>h1 h.2.1)]; exact j
 ·rw[ae hc,af (by rfl),ae (fun h=>hc h.1)]; exact j
theorem Il {p b x y:Nat} (h:onN p b x y=true):x<p/\y<p:=by
 unfold onN at h
 simp only[aW,aj]at h
 exact⟨h.1,h.2.1⟩
theorem M4 (s:L00) (L:L8) (t:Nat) (Y:t<=s.length) (hs:s.length<=140737488351232) (hL:L.length<=36000000000000) :
  ∃w:UInt32,loop (F.UC s L (t:Int)) (0,(t:Int) - 4)=some (.inl (L++[w],(t:Int) - 4))/\w.toNat=beN ((s.take t).drop (t - 4)):=by
 have J:∀(k:Nat) (j:UInt32),k<=4->j.toNat=beN ((s.take (t - k)).drop (t - 4)) ->
   ∃w:UInt32,loop (F.UC s L (t:Int)) (j,(t:Int) - (k:Int))=some (.inl (L++[w],(t:Int) - 4))/\w.toNat=beN ((s.take t).drop (t - 4)):=by
  intro k
  induction k with
  | zero=>
   intro j N z
   refine⟨j,?_,z⟩
   refine eL ?_
   have G:wI ((t:Int) - 4)=(t:Int) - 4:=ay q10 q10
   unfold F.UC
   dsimp only
   rw[ae (by rw[aj]; omega),iy (by simp; omega),aa,G]; rfl
  | succ k ih=>
   intro j N z
   have G:wI ((t:Int) - ((k+1:Nat):Int)+1)=(t:Int) - (k:Int):=by rw[ay q10 q10]; omega
   by_cases hj:k+1<=t
   ·have A:t - (k+1)<s.length:=by omega
    have B:F.UC s L (t:Int) (j,(t:Int) - ((k+1:Nat):Int))=some (.inl ((j*256)+(s.getD (t - (k+1)) 0).toUInt32,(t:Int) - (k:Int))):=by
     unfold F.UC
     dsimp only
     rw[af (ah q10),af (ah q10),show (t:Int) - ((k+1:Nat):Int)=((t - (k+1):Nat):Int) by omega,aG A 0,aa,aS]
     unfold F.XO
     rw[show ((t - (k+1):Nat):Int)=(t:Int) - ((k+1:Nat):Int) by omega,G]; rfl
    rw[bv B]
    refine ih _ q10 ?_
    have O:(s.take (t - k)).drop (t - 4)=(s.take (t - (k+1))).drop (t - 4)++[s.getD (t - (k+1)) 0]:=by
     rw[show t - k=t - (k+1)+1 by omega,gR,gW (by rw[az]; omega),aw A,ak,aw A]
     rfl
    have R:=gS ((s.take (t - (k+1))).drop (t - 4))
    rw[bj,az,aT q10]at R
    have Z:(256:Nat)^(t - (k+1) - (t - 4))<=256^3:=aE q11 q10
    have h4:(256:Nat)^3=16777216:=rfl
    have I:(256:UInt32).toNat=256:=rfl
    have h5:=(s.getD (t - (k+1)) 0).toNat_lt
    rw[O,mu,ij,UInt32.toNat_mul,I,z,ea]
    have U:beN [s.getD (t - (k+1)) 0]=(s.getD (t - (k+1)) 0).toNat:=by simp[beN]
    rw[U,gy,Nat.pow_one]
    omega
   ·have B:F.UC s L (t:Int) (j,(t:Int) - ((k+1:Nat):Int))=some (.inl (j*256,(t:Int) - (k:Int))):=by
     unfold F.UC
     dsimp only
     rw[af (ah q10),ae (by rw[aj]; omega)]
     unfold F.XO
     rw[G]; rfl
    rw[bv B]
    refine ih _ q10 ?_
    have z0:t - (k+1)=0:=by omega
    have V:t - k=0:=by omega
    rw[z0]at z
    rw[V]
    have X:j.toNat=0:=by rw[z]; simp[beN]
    rw[UInt32.toNat_mul,X]
    simp[beN]
 exact J 4 0 (aq _) (by
  have:(s.take (t - 4)).drop (t - 4)=[]:=bp (by rw[az]; omega)
  rw[this]; rfl)
theorem lT (s:L00) (hs:s.length<=140737488351232):F.Ux s=some (am (beN s)):=by
 have A:∀(n t:Nat) (L:L8),t<=n->t<=s.length->4*L.length=s.length - t->val L=beN (s.drop t)->loop (F.UV s) (L,(t:Int))=some (am (beN s)):=by
  intro n
  induction n with
  | zero=>
   intro t L hn k z j
   have:t=0:=by omega
   subst this
   refine eL ?_
   unfold F.UV
   dsimp only
   rw[ae q11,qi _ q10,aa,j,cR]; rfl
  | succ n ih=>
   intro t L hn k z j
   by_cases h0:t=0
   ·exact ih t L q10 k z j
   obtain⟨w,I,J⟩:=M4 s L t k hs q10
   have N:wI ((t:Int) - 4)=(t:Int) - 4:=ay q10 q10
   have B:F.UV s (L,(t:Int))=some (.inl (L++[w],(t:Int) - 4)):=by
    unfold F.UV
    dsimp only
    rw[af (ah q10),N]
    exact I
   rw[bv B]
   have O:s.drop (t - 4)=(s.take t).drop (t - 4)++s.drop t:=by
    have:=ch t s
    conv=>lhs; rw[<-this]
    rw[gW (by rw[az]; omega)]
   have G:val (L++[w])=beN (s.drop (t - 4)):=by
    rw[kR,O,mu,<-J,j,bj,<-z,bB,show (256:Nat)^4=4294967296 from rfl,aP w.toNat]
    omega
   by_cases h4:4<=t
   ·rw[show (t:Int) - 4=((t - 4:Nat):Int) by omega]
    exact ih (t - 4) _ q10 q10 (by simp; omega) G
   ·refine eL ?_
    unfold F.UV
    dsimp only
    rw[ae (by rw[aj]; omega),qi _ (by simp; omega),aa,G,show t - 4=0 by omega,cR]; rfl
 unfold F.Ux
 exact A s.length s.length [] (aq _) (aq _) (by simp) (by rw[bp (aq _)]; rfl)
def pw7 (x e M:Nat):Nat->Nat->Nat
 | 0,a=>a
 | i+1,a=>pw7 x e M i (if e / 2^i%2=1 then a*a%M*x%M else a*a%M)
theorem IM (x e M:Nat):∀(i a:Nat),a=x^(e / 2^i)%M->pw7 x e M i a=x^e%M
 | 0,a,h=>by
  unfold pw7
  rw[h,dg,iK]
 | i+1,a,h=>by
  unfold pw7
  refine IM x e M i _ ?_
  have j:e / 2^i=2*(e / 2^(i+1))+e / 2^i%2:=by
   have:e / 2^(i+1)=e / 2^i / 2:=by rw[aU,dq]
   omega
  have k:a*a%M=x^(2*(e / 2^(i+1)))%M:=by
   rw[h,<-cF,<-bu]
   congr 2
   omega
  generalize e / 2^i=c at *
  generalize e / 2^(i+1)=g at *
  by_cases hb:c%2=1
  ·rw[af hb,k,j,hb,aU,cF,eA,<-cF]
  ·have:c%2=0:=by omega
   rw[ae hb,k,j,this,bb]
theorem zL (m e x:L8) (hm:m.length<=128) (hx:x.length<=128) (k:val m≠0) (he:e.length<=1000):∀(i a:Nat),i<=1000000->a<val m ->
  loop (F.aaG m e x) (am a,(i:Int) - 1)=some (am (pw7 (val x) (val e) (val m) i a),0)
 | 0,a,_,_=>by
  refine bm ?_
  unfold F.aaG
  dsimp only
  rw[ae q11]; rfl
 | i+1,a,hi,ha=>by
  have G:(((i+1:Nat):Int)) - 1=(i:Int):=by omega
  have w:wI ((i:Int) - 1)=(i:Int) - 1:=ay q10 q10
  have j:∀n,n<val m->(am n).length<=128:=fun n hn=>aA (db (bG hn)) (km hm)
  have l1:=j a ha
  have z:0<val m:=by omega
  have A:a*a%val m<val m:=ba _ z
  have N:=j _ A
  have I:(am (a*a)).length<=256:=aA (kc a a) q10
  rw[G]
  show _=some (am (pw7 (val x) (val e) (val m) i (if val e / 2^i%2=1 then a*a%val m*val x%val m else a*a%val m)),0)
  have B:(if val e / 2^i%2=1 then a*a%val m*val x%val m else a*a%val m)<val m:=by
   split
   ·exact ba _ z
   ·exact A
  rw[<-zL m e x hm hx k he i _ q10 B]
  refine bv ?_
  unfold F.aaG
  dsimp only
  rw[af (ah q10),mC _ _ q10,aa,al,kL _ _ q10 q10 k,aa,al,mM _ _ q10,aa]
  by_cases h:val e / 2^i%2=1
  ·have J:(am (a*a%val m*val x)).length<=256:=aA (kc _ _) (by have:=km hx; omega)
   rw[af (ah h),af h,mC _ _ q10,aa,al,kL _ _ q10 q10 k,aa,al]
   unfold F.abm
   rw[w]; rfl
  ·rw[ae (by rw[aj]; exact h),ae h]
   unfold F.abm
   rw[w]; rfl
theorem Nj (a e m:L8) (ha:a.length<=128) (he:e.length<=128) (hm:m.length<=128) (j:1<val m):F.X6 a e m=some (am (val a^val e%val m),0):=by
 have k:val ([1]:L8)=1:=rfl
 have lt:=km he
 have lx:(am (val a%val m)).length<=128:=aA (db (Nat.mod_le _ _)) (km ha)
 have w:wI (wI (32*((am (val e)).length:Int)) - 1)=((32*(am (val e)).length:Nat):Int) - 1:=by
  rw[ay (x:=32*_) q10 q10,ay q10 q10]; omega
 unfold F.X6
 rw[pM m a e q10 q10 q10 (km ha) (km he) (km hm) j,aa,ae q11,fX _ q10,aa,kL _ _ q10 q10 q10,aa,
  show F.U4=some [1] from rfl,aa,kL _ _ (by simp) q10 q10,aa,k,w,aS,av j,
  zL m _ _ hm lx q10 q10 _ 1 q10 j,al,al,IM]
 ·congr 2
  congr 1
  rw[<-Nat.pow_mod]
 ·have hz:val e / 2^(32*(am (val e)).length)=0:=bE (by
   have:=bN (am (val e))
   rw[al]at this
   rwa [show (4294967296:Nat)=2^32 from rfl,<-bB]at this)
  rw[hz,dg,av j]
end Go.Gk.Bn
end
