import Derived.Test.YtkbacjmklhgpcaaGreatDoorGkS
import Derived.Test.YtkbacjmklhgpcaaGreatDoorGkFman
set_option linter.unusedVariables false
set_option linter.unusedSimpArgs false
set_option linter.unusedSectionVars false
section
namespace Go.Gk
theorem sB {x y:Nat} (k:Nat) (hx:x%2^k=0) (j:y<2^k):x ||| y=x+y:=by
 have z:x=(x / 2^k) <<< k:=by
  rw[Nat.shiftLeft_eq]
  have:=de x (2^k)
  rw[hx]at this
  rw[aM]; omega
 rw[z,<-Nat.shiftLeft_add_eq_or_of_lt j]
theorem uG (x k:Nat):x &&& (2^k - 1)=x%2^k:=fe x k
section
theorem kM (x:UInt64) (n:Nat):(c8 x n).toNat=x.toNat*2^(min n 64)%18446744073709551616:=by simp[c8,bS]
theorem i9 (x:UInt64) (n:Nat):(bb x n).toNat=x.toNat / 2^(min n 64):=by
 simp only[bb,bS]
 exact az (dw (dy _ _) x.toNat_lt)
theorem tN (x:UInt32) (n:Nat):(iP x n).toNat=x.toNat*2^(min n 32)%4294967296:=by simp[iP,dr]
theorem lI (x:UInt32) (n:Nat):(dD x n).toNat=x.toNat / 2^(min n 32):=by
 simp only[dD,dr]
 exact az (dw (dy _ _) x.toNat_lt)
theorem Ge (x:UInt8) (n:Nat):(oS x n).toNat=x.toNat / 2^(min n 8):=by
 simp only[oS,dZ]
 exact az (dw (dy _ _) x.toNat_lt)
end
theorem PC (n:Nat) (h:n<9223372036854775808):wI (n:Int)=n:=aC (by omega) (by omega)
theorem pJ {τ:Type} (a:τ) (l:List τ):aw (a :: l) (0:Int)=some a:=by simp[aw]
theorem bz {τ:Type} {l:List τ} {i:Nat} (h:i<l.length):aw l (i:Int)=some l[i]:=by rw[lj]; simp[h]
theorem im {τ:Type} {l m:List τ} {bytes:Nat} (h:(l.length+m.length)*bytes<=225000000000000):apO bytes l m=some (l++m):=ag h
theorem Nb {l m:L01} (h:l.length+m.length<=9223372036854775807):qe l m=some (l++m):=ag h
theorem iK {τ:Type} {bytes:Nat} {l c:Int} {t0:τ} (h:0<=l/\l<=c/\(bytes:Int)*c<=281474976710656/\c<=9223372036854775807):mkO bytes l c t0=some (List.replicate l.toNat t0):=ag h
theorem oN {τ:Type} {l:List τ} {k:Nat} (h:k<=l.length):drO l (k:Int)=some (l.drop k):=by
 unfold drO; rw[ag (by simp; omega)]; simp
theorem Bo {τ:Type} {l:List τ} {k:Nat} (h:k<=l.length):tkO l (k:Int)=some (l.take k):=by
 unfold tkO; rw[ag (by simp; omega)]; simp
theorem lP {τ:Type} {l:List τ} {lo hi:Nat} (h:lo<=hi) (j:hi<=l.length):slO l (lo:Int) (hi:Int)=some ((l.drop lo).take (hi - lo)):=by
 unfold slO; rw[ag (by simp; omega)]; simp
theorem aa {α ρ:Type} (a:α) (k:α->Option ρ):af (some a) k=k a:=rfl
theorem aD {α ρ:Type} (a:α) (k:α->Option ρ):bv a k=k a:=rfl
end Go.Gk
end
section
namespace Go.Gk
open Go
theorem cb {σ ρ:Type} {f:σ->Option (σ⊕ρ)} {s:σ} {X:Option ρ} (h:f s=bc X):loop f s=X:=by
 rw[nJ,h]
 cases X <;> rfl
theorem yD {f:Int->Option (Int⊕Bool)} {τ:Type} {X:Option Bool} (n:Nat) (c d:τ) (k A:τ->Bool) (hc:k c=false) (J:A d=false) (hn:n<=4611686018427387904)
  (hf:∀i,f i=if decide (i<((List.replicate n c++List.replicate 70 d).length:Int))=true then
   (if decide (i<((List.replicate n c).length:Int))=true then
    (af (aw (List.replicate n c) i) fun x=>
     if k x=true then (if true=true then bc (some false) else bM (wI (i+1)))
     else (af (aw (List.replicate n c++List.replicate 70 d) i) fun y=>
      if k y=true then (if true=true then bc (some false) else bM (wI (i+1)))
      else (if decide (((List.replicate n c).length:Int)<=i)=true then (af (aw (List.replicate n c++List.replicate 70 d) i) fun z=>if A z=true then bc (some false) else bM (wI (i+1)))
       else (if false=true then bc (some false) else bM (wI (i+1))))))
   else (if decide (((List.replicate n c).length:Int)<=i)=true then (af (aw (List.replicate n c++List.replicate 70 d) i) fun z=>if A z=true then bc (some false) else bM (wI (i+1)))
    else (if false=true then bc (some false) else bM (wI (i+1)))))
   else bc X):loop f 0=X:=by
 have N:∀(r i:Nat),i+r=n+70->loop f (i:Int)=X:=by
  intro r
  induction r with
  | zero=>
   intro i O
   have hd:decide ((i:Int)<((List.replicate n c++List.replicate 70 d).length:Int))=false:=au (by simp; omega)
   refine cb ?_
   rw[hf,hd]
   rfl
  | succ r ih=>
   intro i O
   have hd:decide ((i:Int)<((List.replicate n c++List.replicate 70 d).length:Int))=true:=ai (by simp; omega)
   have hw:wI ((i:Int)+1)=((i+1:Nat):Int):=by rw[aC (by omega) (by omega)]; rfl
   have hs:f (i:Int)=some (.inl (((i+1:Nat):Int))):=by
    rw[hf,hd,hw]
    have j:i<(List.replicate n c++List.replicate 70 d).length:=by simp; omega
    by_cases h:i<n
    ·have B:decide ((i:Int)<((List.replicate n c).length:Int))=true:=ai (by simp; omega)
     have G:decide (((List.replicate n c).length:Int)<=(i:Int))=false:=au (by simp; omega)
     have R:aw (List.replicate n c) (i:Int)=some c:=by rw[bz (by simpa using h)]; simp
     have I:aw (List.replicate n c++List.replicate 70 d) (i:Int)=some c:=by rw[bz j,List.getElem_append_left (by simpa using h),gF]
     rw[B,G,R,I]
     simp only[aa,al,hc,ah,aj]
     rfl
    ·have B:decide ((i:Int)<((List.replicate n c).length:Int))=false:=au (by simp; omega)
     have G:decide (((List.replicate n c).length:Int)<=(i:Int))=true:=ai (by simp; omega)
     have I:aw (List.replicate n c++List.replicate 70 d) (i:Int)=some d:=by rw[bz j,List.getElem_append_right (by simp; omega),gF]
     rw[B,G,I]
     simp only[aa,al,J,ah,aj]
     rfl
   rw[bn hs]
   exact ih (i+1) (by omega)
 exact N (n+70) 0 (by omega)
end Go.Gk
end
section
namespace Go.Gk.Sh
open Go Go.Gk
theorem jZ {σ α ρ:Type} {f:σ->Option (σ⊕ρ)} (st:α->Nat->σ) (I:α->Prop) (g:α->Nat->α) (lo n:Nat) {X:α->Option ρ}
  (j:∀i x,lo<=i->i<n->I x->f (st x i)=some (.inl (st (g x i) (i+1)))/\I (g x i)) (k:∀x,I x->f (st x n)=bc (X x)) :
  ∀(r i:Nat) (x:α),lo<=i->i+r=n->I x->loop f (st x i)=X ((List.range' i r).foldl g x)
 | 0,i,x,hl,h,hx=>by
  have:i=n:=by omega
  subst this
  simp only[List.range'_zero,List.foldl_nil]
  exact cb (k x hx)
 | r+1,i,x,hl,h,hx=>by
  obtain⟨y,z⟩:=j i x hl (by omega) hx
  rw[bn y,ig,ep]
  exact jZ st I g lo n j k r (i+1) _ (by omega) (by omega) z
theorem nM {α:Type} (I:α->Prop) (g:α->Nat->α) (h:∀i x,I x->I (g x i)):∀(r i:Nat) (x:α),I x->I ((List.range' i r).foldl g x)
 | 0,i,x,hx=>by simpa using hx
 | r+1,i,x,hx=>by
  rw[ig,ep]
  exact nM I g h r (i+1) _ (h i x hx)
theorem nj {α:Type} {g j:α->Nat->α}:∀(r i:Nat) (x:α),(∀k y,i<=k->k<i+r->g y k=j y k)->(List.range' i r).foldl g x=(List.range' i r).foldl j x
 | 0,i,x,_=>rfl
 | r+1,i,x,h=>by
  rw[ig,ep,ep,h i x (ax _) (by omega)]
  exact nj r (i+1) _ fun k y z A=>h k y (by omega) (by omega)
theorem bg {τ:Type} [Inhabited τ] {l:List τ} {i:Nat} (h:i<l.length) (d:τ):aw l (i:Int)=some (l.getD i d):=by
 rw[bz h,an,av h]; rfl
theorem Rm (e f g:UInt32):g ^^^ (e &&& (f ^^^ g))=(e &&& f) ^^^ (~~~e &&& g):=by
 apply UInt32.eq_of_toBitVec_eq
 simp only[UInt32.toBitVec_xor,UInt32.toBitVec_and,UInt32.toBitVec_not]
 ext i hi
 simp only[BitVec.getElem_xor,BitVec.getElem_and,BitVec.getElem_not]
 cases e.toBitVec[i] <;> cases f.toBitVec[i] <;> cases g.toBitVec[i] <;> rfl
theorem Q0 (a b c:UInt32):(a &&& b) ||| (c &&& (a ||| b))=((a &&& b) ^^^ (a &&& c)) ^^^ (b &&& c):=by
 apply UInt32.eq_of_toBitVec_eq
 simp only[UInt32.toBitVec_xor,UInt32.toBitVec_and,UInt32.toBitVec_or]
 ext i hi
 simp only[BitVec.getElem_xor,BitVec.getElem_and,BitVec.getElem_or]
 cases a.toBitVec[i] <;> cases b.toBitVec[i] <;> cases c.toBitVec[i] <;> rfl
theorem RM (e f g:UInt64):g ^^^ (e &&& (f ^^^ g))=(e &&& f) ^^^ (~~~e &&& g):=by
 apply UInt64.eq_of_toBitVec_eq
 simp only[UInt64.toBitVec_xor,UInt64.toBitVec_and,UInt64.toBitVec_not]
 ext i hi
 simp only[BitVec.getElem_xor,BitVec.getElem_and,BitVec.getElem_not]
 cases e.toBitVec[i] <;> cases f.toBitVec[i] <;> cases g.toBitVec[i] <;> rfl
theorem QQ (a b c:UInt64):(a &&& b) ||| (c &&& (a ||| b))=((a &&& b) ^^^ (a &&& c)) ^^^ (b &&& c):=by
 apply UInt64.eq_of_toBitVec_eq
 simp only[UInt64.toBitVec_xor,UInt64.toBitVec_and,UInt64.toBitVec_or]
 ext i hi
 simp only[BitVec.getElem_xor,BitVec.getElem_and,BitVec.getElem_or]
 cases a.toBitVec[i] <;> cases b.toBitVec[i] <;> cases c.toBitVec[i] <;> rfl
def ot (x:UInt32) (k:Nat):UInt32:=dD x k ||| iP x (32 - k)
def ol (x:UInt64) (k:Nat):UInt64:=bb x k ||| c8 x (64 - k)
theorem nW (x:UInt32) (k:Nat) (h:0<k) (A:k<32):F.S6 x (-(k:Int))=some (ot x k):=by
 unfold F.S6 ot
 have j:∀k:Fin 32,0<k.val->((UInt64.ofInt (-(k.val:Int))) &&& 31).toNat=32 - k.val/\((32:UInt64) - ((UInt64.ofInt (-(k.val:Int))) &&& 31)).toNat=k.val:=by decide
 obtain⟨y,z⟩:=j ⟨k,A⟩ h
 simp only at y z
 rw[y,z,UInt32.or_comm]
theorem nU (x:UInt64) (k:Nat) (h:0<k) (A:k<64):F.S8 x (-(k:Int))=some (ol x k):=by
 unfold F.S8 ol
 have j:∀k:Fin 64,0<k.val->((UInt64.ofInt (-(k.val:Int))) &&& 63).toNat=64 - k.val/\((64:UInt64) - ((UInt64.ofInt (-(k.val:Int))) &&& 63)).toNat=k.val:=by decide
 obtain⟨y,z⟩:=j ⟨k,A⟩ h
 simp only at y z
 rw[y,z,UInt64.or_comm]
theorem ML:F.VH=F.aaH:=rfl
theorem NG:F.Vj=F.aay:=rfl
abbrev V8 (W:Type):=W×W×W×W×W×W×W×W
def toL {W:Type} (v:V8 W):List W:=[v.1,v.2.1,v.2.2.1,v.2.2.2.1,v.2.2.2.2.1,v.2.2.2.2.2.1,v.2.2.2.2.2.2.1,v.2.2.2.2.2.2.2]
def ofL {W:Type} (d:W) (l:List W):V8 W:=(l.getD 0 d,l.getD 1 d,l.getD 2 d,l.getD 3 d,l.getD 4 d,l.getD 5 d,l.getD 6 d,l.getD 7 d)
def Cr (b:L01) (i:Nat):UInt32:=
 ((iP (b.getD (4*i) 0).toUInt32 24 ||| iP (b.getD (4*i+1) 0).toUInt32 16) ||| iP (b.getD (4*i+2) 0).toUInt32 8) ||| (b.getD (4*i+3) 0).toUInt32
def LU (w:L00) (i:Nat):UInt32:=
 ((w.getD (i - 16) 0+w.getD (i - 7) 0)+((ot (w.getD (i - 15) 0) 7 ^^^ ot (w.getD (i - 15) 0) 18) ^^^ dD (w.getD (i - 15) 0) 3)) +
  ((ot (w.getD (i - 2) 0) 17 ^^^ ot (w.getD (i - 2) 0) 19) ^^^ dD (w.getD (i - 2) 0) 10)
def kx (b:L01) (w:L00) (i:Nat):L00:=if i<16 then w.set i (Cr b i) else w.set i (LU w i)
def nO (b:L01):L00:=(List.range' 0 64).foldl (kx b) (List.replicate 64 0)
def OQ (v:V8 UInt32) (k w:UInt32):UInt32:=
 (((v.2.2.2.2.2.2.2+((ot v.2.2.2.2.1 6 ^^^ ot v.2.2.2.2.1 11) ^^^ ot v.2.2.2.2.1 25))+((v.2.2.2.2.1 &&& v.2.2.2.2.2.1) ^^^ (~~~v.2.2.2.2.1 &&& v.2.2.2.2.2.2.1)))+k)+w
def RZ (v:V8 UInt32):UInt32:=((ot v.1 2 ^^^ ot v.1 13) ^^^ ot v.1 22)+(((v.1 &&& v.2.1) ^^^ (v.1 &&& v.2.2.1)) ^^^ (v.2.1 &&& v.2.2.1))
def LN (ws:L00) (v:V8 UInt32) (i:Nat):V8 UInt32:=
 (OQ v (F.aaH.getD i 0) (ws.getD i 0)+RZ v,v.1,v.2.1,v.2.2.1,v.2.2.2.1+OQ v (F.aaH.getD i 0) (ws.getD i 0),v.2.2.2.2.1,v.2.2.2.2.2.1,v.2.2.2.2.2.2.1)
def uZ (v:L00) (h:L00) (i:Nat):L00:=h.set i (h.getD i 0+v.getD i 0)
def qm (h:L00) (b:L01):L00:=(List.range' 0 8).foldl (uZ (toL ((List.range' 0 64).foldl (LN (nO b)) (ofL 0 h)))) h
theorem pL (b:L01) (i:Nat) (w:L00) (hw:w.length=64):(kx b w i).length=64:=by
 unfold kx; split <;> simpa using hw
theorem HC (b:L01):(nO b).length=64:=nM (fun w:L00=>w.length=64) (kx b) (fun i x hx=>pL b i x hx) 64 0 _ (by simp)
theorem Av (v:L00) (i:Nat) (h:L00) (hh:h.length=8):(uZ v h i).length=8:=by unfold uZ; simpa using hh
theorem JI (h:L00) (b:L01) (hh:h.length=8):(qm h b).length=8:=nM (fun w:L00=>w.length=8) _ (fun i x hx=>Av _ i x hx) 8 0 _ hh
theorem Df (b:L01):nO b=(List.range' 16 48).foldl (kx b) ((List.range' 0 16).foldl (kx b) (List.replicate 64 0)):=by
 unfold nO
 rw[<-List.foldl_append]; rfl
theorem wI1 (i:Nat) (h:i<1000000):wI ((i:Int)+1)=((i+1:Nat):Int):=by rw[aC (by omega) (by omega)]; rfl
theorem wIs (i k:Nat) (h:k<=i) (j:i<1000000):wI ((i:Int) - (k:Int))=((i - k:Nat):Int):=by rw[aC (by omega) (by omega)]; omega
theorem Jl (i:Nat) (w:L00) (N:16<=i) (hi:i<64) (hw:w.length=64) {ρ:Type} (K:UInt32->UInt32->UInt32->UInt32->Option ρ) :
  (af (aw w (wI ((i:Int) - 15))) fun j=>af (aw w (wI ((i:Int) - 2))) fun y=>af (aw w (wI ((i:Int) - 16))) fun z=>af (aw w (wI ((i:Int) - 7))) fun A=>K j y z A) =
   K (w.getD (i - 15) 0) (w.getD (i - 2) 0) (w.getD (i - 16) 0) (w.getD (i - 7) 0):=by
 have m:∀k:Nat,k<=16->aw w (wI ((i:Int) - (k:Int)))=some (w.getD (i - k) 0):=fun k O=>by
  rw[wIs i k (by omega) (by omega),bg (by omega) 0]
 have B:=m 15 (by omega); have I:=m 2 (by omega); have G:=m 16 (by omega); have J:=m 7 (by omega)
 rw[show aw w (wI ((i:Int) - 15))=_ from B,aa,show aw w (wI ((i:Int) - 2))=_ from I,aa,show aw w (wI ((i:Int) - 16))=_ from G,aa,show aw w (wI ((i:Int) - 7))=_ from J,aa]
theorem Fb (a:Int) (h:L00) (l:List UInt64) (rest:L01) (n:UInt64) (hh:h.length=8) (hr:rest.length=128) :
  F.XF a h l rest n=some (a,qm h rest,l,rest,n):=by
 unfold F.XF
 -- the first sixteen words
 have J:=jZ (f:=F.aav rest h a l n) (fun w i=>((i:Int),w)) (fun w=>w.length=64) (kx rest) 0 16
  (X:=fun w=>loop (F.WF h a l rest n) (16,w))
  (fun i w _ hi hw=>by
   have j:decide ((i:Int)<16)=true:=ai (by omega)
   have N:wI (4*(i:Int))=((4*i:Nat):Int):=by rw[aC (by omega) (by omega)]; omega
   have d:∀k:Nat,k<4->aw (rest.drop (4*i)) (k:Int)=some (rest.getD (4*i+k) 0):=fun k O=>by
    rw[bg (by simp; omega) 0,an,dL,an]
   refine⟨?_,pL rest i w hw⟩
   simp only[F.aav,j,al,N,oN (show 4*i<=rest.length by omega),aa,aD]
   have z:=d 0 (by omega); have A:=d 1 (by omega); have B:=d 2 (by omega); have G:=d 3 (by omega)
   simp only[show ((0:Nat):Int)=0 from rfl,show ((1:Nat):Int)=1 from rfl,show ((2:Nat):Int)=2 from rfl,show ((3:Nat):Int)=3 from rfl,bm]at z A B G
   rw[z,aa,A,aa,B,aa,G,aa,bz (show i<w.length by omega),aa,wI1 i (by omega),am]
   simp only[kx,hi,al,Cr]
   rfl)
  (fun w hw=>rfl) 16 0 (List.replicate 64 0) (ax _) rfl (by simp)
 have R:=fun (w:L00) (hw:w.length=64)=>jZ (f:=F.WF h a l rest n) (fun w i=>((i:Int),w)) (fun w=>w.length=64) (kx rest) 16 64
  (X:=fun w=>loop (F.Zf h w a l rest n) (h.getD 0 0,h.getD 1 0,h.getD 2 0,h.getD 3 0,h.getD 4 0,h.getD 5 0,h.getD 6 0,h.getD 7 0,0))
  (fun i w I hi hw=>by
   have j:decide ((i:Int)<64)=true:=ai (by omega)
   refine⟨?_,pL rest i w hw⟩
   simp only[F.WF,j,al,Jl i w I hi hw]
   rw[show F.S6 (w.getD (i - 15) 0) (-7)=_ from nW _ 7 (by omega) (by omega),aa,show F.S6 (w.getD (i - 15) 0) (-18)=_ from nW _ 18 (by omega) (by omega),aa,
    show F.S6 (w.getD (i - 2) 0) (-17)=_ from nW _ 17 (by omega) (by omega),aa,show F.S6 (w.getD (i - 2) 0) (-19)=_ from nW _ 19 (by omega) (by omega),aa,
    bz (show i<w.length by omega),aa,aD,wI1 i (by omega),am]
   simp only[kx,show ¬i<16 by omega,aj,LU]
   rfl)
  (fun w hw=>by
   have g:∀k:Nat,k<8->aw h (k:Int)=some (h.getD k 0):=fun k O=>bg (by omega) 0
   have U:=g 0 (by omega); have V:=g 1 (by omega); have Y:=g 2 (by omega); have g3:=g 3 (by omega); have g4:=g 4 (by omega); have Z:=g 5 (by omega); have g6:=g 6 (by omega); have g7:=g 7 (by omega)
   simp only[F.WF,show decide (((64:Nat):Int)<64)=false from rfl,ah,aj]
   rw[show aw h (0:Int)=_ from U,aa,show aw h (1:Int)=_ from V,aa,show aw h (2:Int)=_ from Y,aa,show aw h (3:Int)=_ from g3,aa,show aw h (4:Int)=_ from g4,aa,show aw h (5:Int)=_ from Z,aa,show aw h (6:Int)=_ from g6,aa,show aw h (7:Int)=_ from g7,aa])
  48 16 w (ax _) rfl hw
 have e3:=fun (y:L00) (hw:y.length=64)=>jZ (f:=F.Zf h y a l rest n) (fun (v:V8 UInt32) i=>(v.1,v.2.1,v.2.2.1,v.2.2.2.1,v.2.2.2.2.1,v.2.2.2.2.2.1,v.2.2.2.2.2.2.1,v.2.2.2.2.2.2.2,(i:Int))) (fun _=>True) (LN y) 0 64
  (X:=fun v=>loop (F.X3 a l rest n v.1 v.2.1 v.2.2.1 v.2.2.2.1 v.2.2.2.2.1 v.2.2.2.2.2.1 v.2.2.2.2.2.2.1 v.2.2.2.2.2.2.2) (0,h))
  (fun i v _ hi _=>by
   have j:decide ((i:Int)<64)=true:=ai (by omega)
   refine⟨?_,trivial⟩
   simp only[F.Zf,j,al]
   rw[show F.S6 v.2.2.2.2.1 (-6)=_ from nW _ 6 (by omega) (by omega),aa,show F.S6 v.2.2.2.2.1 (-11)=_ from nW _ 11 (by omega) (by omega),aa,show F.S6 v.2.2.2.2.1 (-25)=_ from nW _ 25 (by omega) (by omega),aa,
    ML,bg (show i<F.aaH.length from hi) 0,aa,bg (show i<y.length by omega) 0,aa,aD,
    show F.S6 v.1 (-2)=_ from nW _ 2 (by omega) (by omega),aa,show F.S6 v.1 (-13)=_ from nW _ 13 (by omega) (by omega),aa,show F.S6 v.1 (-22)=_ from nW _ 22 (by omega) (by omega),aa,aD,Rm,Q0,wI1 i (by omega)]
   rfl)
  (fun v _=>rfl) 64 0 (ofL 0 h) (ax _) rfl trivial
 have e4:=fun (v:V8 UInt32)=>jZ (f:=F.X3 a l rest n v.1 v.2.1 v.2.2.1 v.2.2.2.1 v.2.2.2.2.1 v.2.2.2.2.2.1 v.2.2.2.2.2.2.1 v.2.2.2.2.2.2.2) (fun h i=>((i:Int),h)) (fun h=>h.length=8) (uZ (toL v)) 0 8
  (X:=fun h=>some (a,h,l,rest,n))
  (fun i h _ hi hh=>by
   have j:decide ((i:Int)<8)=true:=ai (by omega)
   refine⟨?_,Av _ i h hh⟩
   simp only[F.X3,j,al]
   rw[bg (l:=[v.1,v.2.1,v.2.2.1,v.2.2.2.1,v.2.2.2.2.1,v.2.2.2.2.2.1,v.2.2.2.2.2.2.1,v.2.2.2.2.2.2.2]) (show i<8 from hi) 0,aa,bg (show i<h.length by omega) 0,aa,aa,aD,wI1 i (by omega),am]
   rfl)
  (fun h hh=>rfl) 8 0 h (ax _) rfl hh
 refine J.trans ?_
 refine (R _ (nM (fun w:L00=>w.length=64) (kx rest) (fun i x hx=>pL rest i x hx) 16 0 _ (by simp))).trans ?_
 rw[<-Df]
 refine (e3 _ (HC rest)).trans ?_
 exact e4 _
theorem eN {σ α ρ:Type} {f:σ->Option (σ⊕ρ)} (st:α->Nat->σ) (I:Nat->α->Prop) (g:α->Nat->α) (lo n:Nat) {X:α->Option ρ}
  (j:∀i x,lo<=i->i<n->I i x->f (st x i)=some (.inl (st (g x i) (i+1)))/\I (i+1) (g x i)) (k:∀x,I n x->f (st x n)=bc (X x)) :
  ∀(r i:Nat) (x:α),lo<=i->i+r=n->I i x->loop f (st x i)=X ((List.range' i r).foldl g x)
 | 0,i,x,hl,h,hx=>by
  have:i=n:=by omega
  subst this
  simp only[List.range'_zero,List.foldl_nil]
  exact cb (k x hx)
 | r+1,i,x,hl,h,hx=>by
  obtain⟨y,z⟩:=j i x hl (by omega) hx
  rw[bn y,ig,ep]
  exact eN st I g lo n j k r (i+1) _ (by omega) (by omega) z
theorem fG {α:Type} (I:Nat->α->Prop) (g:α->Nat->α) (h:∀i x,I i x->I (i+1) (g x i)):∀(r i:Nat) (x:α),I i x->I (i+r) ((List.range' i r).foldl g x)
 | 0,i,x,hx=>by simpa using hx
 | r+1,i,x,hx=>by
  rw[ig,ep,show i+(r+1)=i+1+r by omega]
  exact fG I g h r (i+1) _ (h i x hx)
def BN (b:L01) (i:Nat) (x:UInt64) (k:Nat):UInt64:=c8 x 8 ||| (b.getD (8*i+k) 0).toUInt64
def vO (b:L01) (i:Nat):UInt64:=(List.range' 0 8).foldl (BN b i) 0
def LO (w:List UInt64) (i:Nat):UInt64:=
 ((w.getD (i - 16) 0+w.getD (i - 7) 0)+((ol (w.getD (i - 15) 0) 1 ^^^ ol (w.getD (i - 15) 0) 8) ^^^ bb (w.getD (i - 15) 0) 7)) +
  ((ol (w.getD (i - 2) 0) 19 ^^^ ol (w.getD (i - 2) 0) 61) ^^^ bb (w.getD (i - 2) 0) 6)
def kb (b:L01) (w:List UInt64) (i:Nat):List UInt64:=if i<16 then w.set i (vO b i) else w.set i (LO w i)
def ny (b:L01):List UInt64:=(List.range' 0 80).foldl (kb b) (List.replicate 80 0)
def O7 (v:V8 UInt64) (k w:UInt64):UInt64:=
 (((v.2.2.2.2.2.2.2+((ol v.2.2.2.2.1 14 ^^^ ol v.2.2.2.2.1 18) ^^^ ol v.2.2.2.2.1 41))+((v.2.2.2.2.1 &&& v.2.2.2.2.2.1) ^^^ (~~~v.2.2.2.2.1 &&& v.2.2.2.2.2.2.1)))+k)+w
def SE (v:V8 UInt64):UInt64:=((ol v.1 28 ^^^ ol v.1 34) ^^^ ol v.1 39)+(((v.1 &&& v.2.1) ^^^ (v.1 &&& v.2.2.1)) ^^^ (v.2.1 &&& v.2.2.1))
def LL (ws:List UInt64) (v:V8 UInt64) (i:Nat):V8 UInt64:=
 (O7 v (F.aay.getD i 0) (ws.getD i 0)+SE v,v.1,v.2.1,v.2.2.1,v.2.2.2.1+O7 v (F.aay.getD i 0) (ws.getD i 0),v.2.2.2.2.1,v.2.2.2.2.2.1,v.2.2.2.2.2.2.1)
def u5 (v:List UInt64) (h:List UInt64) (i:Nat):List UInt64:=h.set i (h.getD i 0+v.getD i 0)
def ql (h:List UInt64) (b:L01):List UInt64:=(List.range' 0 8).foldl (u5 (toL ((List.range' 0 80).foldl (LL (ny b)) (ofL 0 h)))) h
def oa (i:Nat) (w:List UInt64):Prop:=w.length=80/\∀k,i<=k->w.getD k 0=0
theorem so (b:L01) (i:Nat) (w:List UInt64) (hw:oa i w):oa (i+1) (kb b w i):=by
 unfold kb
 refine⟨by split <;> simpa using hw.1,fun k j=>?_⟩
 have:=hw.2 k (by omega)
 rw[an]at this ⊢
 split <;> (rw[gm]; rw[ae (by omega)]; exact this)
theorem wV:oa 0 (List.replicate 80 0):=⟨by simp,fun k _=>by
 rw[an,gt]; split <;> rfl⟩
theorem Hn (b:L01):oa 80 (ny b):=fG oa (kb b) (fun i x hx=>so b i x hx) 80 0 _ wV
theorem wo (v:List UInt64) (i:Nat) (h:List UInt64) (hh:h.length=8):(u5 v h i).length=8:=by unfold u5; simpa using hh
theorem FB (h:List UInt64) (b:L01) (hh:h.length=8):(ql h b).length=8:=nM (fun w:List UInt64=>w.length=8) _ (fun i x hx=>wo _ i x hx) 8 0 _ hh
theorem y8 (b:L01):ny b=(List.range' 16 64).foldl (kb b) ((List.range' 0 16).foldl (kb b) (List.replicate 80 0)):=by
 unfold ny
 rw[<-List.foldl_append]; rfl
theorem QL {w:List UInt64} {i:Nat} (h:i<w.length):w.set i (w.getD i 0)=w:=by
 apply iY
 intro k
 rw[gm]
 split
 ·rename_i e
  subst e
  rw[an,av h]; simp[h]
 ·rfl
theorem zX {w:List UInt64} {i:Nat} (h:i<w.length) (x:UInt64):aw (w.set i x) (i:Int)=some x:=by
 rw[lj,gm,ag rfl,ag h]
theorem EG (i:Nat) (w:List UInt64) (N:16<=i) (hi:i<80) (hw:w.length=80) {ρ:Type} (K:UInt64->UInt64->UInt64->UInt64->Option ρ) :
  (af (aw w (wI ((i:Int) - 15))) fun j=>af (aw w (wI ((i:Int) - 2))) fun y=>af (aw w (wI ((i:Int) - 16))) fun z=>af (aw w (wI ((i:Int) - 7))) fun A=>K j y z A) =
   K (w.getD (i - 15) 0) (w.getD (i - 2) 0) (w.getD (i - 16) 0) (w.getD (i - 7) 0):=by
 have m:∀k:Nat,k<=16->aw w (wI ((i:Int) - (k:Int)))=some (w.getD (i - k) 0):=fun k O=>by
  rw[wIs i k (by omega) (by omega),bg (by omega) 0]
 have B:=m 15 (by omega); have I:=m 2 (by omega); have G:=m 16 (by omega); have J:=m 7 (by omega)
 rw[show aw w (wI ((i:Int) - 15))=_ from B,aa,show aw w (wI ((i:Int) - 2))=_ from I,aa,show aw w (wI ((i:Int) - 16))=_ from G,aa,show aw w (wI ((i:Int) - 7))=_ from J,aa]
theorem Ex (a:Int) (h:List UInt64) (l:L00) (rest:L01) (n:UInt64) (hh:h.length=8) (hr:rest.length=128) :
  F.Y0 a l h rest n=some (a,l,ql h rest,rest,n):=by
 unfold F.Y0
 -- the first sixteen words
 have G:=fun (i:Nat) (w:List UInt64) (hi:i<16) (hw:oa i w)=>jZ (f:=F.X6 (i:Int) ((rest.drop (8*i)).take (8*i+8 - 8*i))) (fun x j=>((j:Int),w.set i x)) (fun _=>True) (BN rest i) 0 8
  (X:=fun x=>(some (.inl (((i+1:Nat):Int),w.set i x)):Option ((Int×List UInt64)⊕(Int×L00×List UInt64×L01×UInt64))))
  (fun j x _ hj _=>by
   have hl:((rest.drop (8*i)).take (8*i+8 - 8*i)).length=8:=by simp; omega
   have y:decide ((j:Int)<(((rest.drop (8*i)).take (8*i+8 - 8*i)).length:Int))=true:=ai (by omega)
   have g:aw ((rest.drop (8*i)).take (8*i+8 - 8*i)) (j:Int)=some (rest.getD (8*i+j) 0):=by
    rw[bg (by omega) 0,an,bR,ag (by omega),dL,an]
   have ap:=hw.1
   refine⟨?_,trivial⟩
   simp only[F.X6,y,al]
   rw[g,aa,zX (by omega),aa,aa,aD,wI1 j (by omega),am,List.set_set]
   rfl)
  (fun x _=>by
   have hl:((rest.drop (8*i)).take (8*i+8 - 8*i)).length=8:=by simp; omega
   have y:decide (((8:Nat):Int)<(((rest.drop (8*i)).take (8*i+8 - 8*i)).length:Int))=false:=au (by omega)
   simp only[F.X6,y,ah,aj,wI1 i (by omega)]
   rfl)
  8 0 0 (ax _) rfl trivial
 have I:=eN (f:=F.Z4 rest h a l n) (fun w i=>((i:Int),w)) oa (kb rest) 0 16
  (X:=fun w=>loop (F.Wh h a l rest n) (16,w))
  (fun i w _ hi hw=>by
   have y:decide ((i:Int)<16)=true:=ai (by omega)
   have J:wI (8*(i:Int))=((8*i:Nat):Int):=by rw[aC (by omega) (by omega)]; omega
   have N:wI (((8*i:Nat):Int)+8)=((8*i+8:Nat):Int):=by rw[aC (by omega) (by omega)]; omega
   refine⟨?_,so rest i w hw⟩
   simp only[F.Z4,y,al,J,N]
   rw[lP (by omega) (by omega),aa]
   have A:=G i w hi hw
   have hz:w.set i 0=w:=by
    have:=QL (w:=w) (i:=i) (by have:=hw.1; omega)
    rwa [hw.2 i (ax _)]at this
   rw[hz]at A
   refine A.trans ?_
   simp only[kb,hi,al,vO])
  (fun w hw=>rfl) 16 0 (List.replicate 80 0) (ax _) rfl wV
 have O:=fun (w:List UInt64) (hw:w.length=80)=>jZ (f:=F.Wh h a l rest n) (fun w i=>((i:Int),w)) (fun w=>w.length=80) (kb rest) 16 80
  (X:=fun w=>loop (F.ZC h w a l rest n) (h.getD 0 0,h.getD 1 0,h.getD 2 0,h.getD 3 0,h.getD 4 0,h.getD 5 0,h.getD 6 0,h.getD 7 0,0))
  (fun i w B hi hw=>by
   have y:decide ((i:Int)<80)=true:=ai (by omega)
   refine⟨?_,(by unfold kb; split <;> simpa using hw)⟩
   simp only[F.Wh,y,al,EG i w B hi hw]
   rw[show F.S8 (w.getD (i - 15) 0) (-1)=_ from nU _ 1 (by omega) (by omega),aa,show F.S8 (w.getD (i - 15) 0) (-8)=_ from nU _ 8 (by omega) (by omega),aa,
    show F.S8 (w.getD (i - 2) 0) (-19)=_ from nU _ 19 (by omega) (by omega),aa,show F.S8 (w.getD (i - 2) 0) (-61)=_ from nU _ 61 (by omega) (by omega),aa,
    bz (show i<w.length by omega),aa,aD,wI1 i (by omega),am]
   simp only[kb,show ¬i<16 by omega,aj,LO]
   rfl)
  (fun w hw=>by
   have g:∀k:Nat,k<8->aw h (k:Int)=some (h.getD k 0):=fun k hk=>bg (by omega) 0
   have R:=g 0 (by omega); have U:=g 1 (by omega); have V:=g 2 (by omega); have g3:=g 3 (by omega); have g4:=g 4 (by omega); have Y:=g 5 (by omega); have Z:=g 6 (by omega); have g7:=g 7 (by omega)
   simp only[F.Wh,show decide (((80:Nat):Int)<80)=false from rfl,ah,aj]
   rw[show aw h (0:Int)=_ from R,aa,show aw h (1:Int)=_ from U,aa,show aw h (2:Int)=_ from V,aa,show aw h (3:Int)=_ from g3,aa,show aw h (4:Int)=_ from g4,aa,show aw h (5:Int)=_ from Y,aa,show aw h (6:Int)=_ from Z,aa,show aw h (7:Int)=_ from g7,aa])
  64 16 w (ax _) rfl hw
 have e3:=fun (z:List UInt64) (hw:z.length=80)=>jZ (f:=F.ZC h z a l rest n) (fun (v:V8 UInt64) i=>(v.1,v.2.1,v.2.2.1,v.2.2.2.1,v.2.2.2.2.1,v.2.2.2.2.2.1,v.2.2.2.2.2.2.1,v.2.2.2.2.2.2.2,(i:Int))) (fun _=>True) (LL z) 0 80
  (X:=fun v=>loop (F.Zc a l rest n v.1 v.2.1 v.2.2.1 v.2.2.2.1 v.2.2.2.2.1 v.2.2.2.2.2.1 v.2.2.2.2.2.2.1 v.2.2.2.2.2.2.2) (0,h))
  (fun i v _ hi _=>by
   have y:decide ((i:Int)<80)=true:=ai (by omega)
   refine⟨?_,trivial⟩
   simp only[F.ZC,y,al]
   rw[show F.S8 v.2.2.2.2.1 (-14)=_ from nU _ 14 (by omega) (by omega),aa,show F.S8 v.2.2.2.2.1 (-18)=_ from nU _ 18 (by omega) (by omega),aa,show F.S8 v.2.2.2.2.1 (-41)=_ from nU _ 41 (by omega) (by omega),aa,
    NG,bg (show i<F.aay.length from hi) 0,aa,bg (show i<z.length by omega) 0,aa,aD,
    show F.S8 v.1 (-28)=_ from nU _ 28 (by omega) (by omega),aa,show F.S8 v.1 (-34)=_ from nU _ 34 (by omega) (by omega),aa,show F.S8 v.1 (-39)=_ from nU _ 39 (by omega) (by omega),aa,aD,RM,QQ,wI1 i (by omega)]
   rfl)
  (fun v _=>rfl) 80 0 (ofL 0 h) (ax _) rfl trivial
 have e4:=fun (v:V8 UInt64)=>jZ (f:=F.Zc a l rest n v.1 v.2.1 v.2.2.1 v.2.2.2.1 v.2.2.2.2.1 v.2.2.2.2.2.1 v.2.2.2.2.2.2.1 v.2.2.2.2.2.2.2) (fun h i=>((i:Int),h)) (fun h=>h.length=8) (u5 (toL v)) 0 8
  (X:=fun h=>some (a,l,h,rest,n))
  (fun i h _ hi hh=>by
   have y:decide ((i:Int)<8)=true:=ai (by omega)
   refine⟨?_,wo _ i h hh⟩
   simp only[F.Zc,y,al]
   rw[bg (l:=[v.1,v.2.1,v.2.2.1,v.2.2.2.1,v.2.2.2.2.1,v.2.2.2.2.2.1,v.2.2.2.2.2.2.1,v.2.2.2.2.2.2.2]) (show i<8 from hi) 0,aa,bg (show i<h.length by omega) 0,aa,aa,aD,wI1 i (by omega),am]
   rfl)
  (fun h hh=>rfl) 8 0 h (ax _) rfl hh
 refine I.trans ?_
 refine (O _ (fG oa (kb rest) (fun i x hx=>so rest i x hx) 16 0 _ wV).1).trans ?_
 rw[<-y8]
 refine (e3 _ ((Hn rest).1)).trans ?_
 exact e4 _
theorem KA (m:Nat) (h:m<18446744073709551616):(UInt64.ofInt (m:Int)).toNat=m:=by
 simp[UInt64.ofInt,bS]
 omega
theorem n8 {b:L01} {k n:Nat} (h:k<n):(b.take n).getD k 0=b.getD k 0:=by
 rw[an,bR,ag h,an]
theorem CF (h:L00) (b:L01):qm h (b.take 64)=qm h b:=by
 have:nO (b.take 64)=nO b:=by
  unfold nO
  refine nj 64 0 _ fun k y _ z=>?_
  unfold kx
  split
  ·rename_i j
   simp only[Cr]
   rw[n8 (by omega),n8 (by omega),n8 (by omega),n8 (by omega)]
  ·rfl
 unfold qm
 rw[this]
theorem CW (h:List UInt64) (b:L01):ql h (b.take 128)=ql h b:=by
 have:ny (b.take 128)=ny b:=by
  unfold ny
  refine nj 80 0 _ fun k y _ A=>?_
  unfold kb
  split
  ·rename_i z
   have:vO (b.take 128) k=vO b k:=nj 8 0 _ fun j x _ B=>by
    simp only[BN]
    rw[n8 (by omega)]
   rw[this]
  ·rfl
 unfold ql
 rw[this]
abbrev HS:=L00×List UInt64
def Bk (a:Int):Nat:=if a=1 then 64 else 128
def mix (a:Int) (H:HS) (b:L01):HS:=if a=1 then (qm H.1 b,H.2) else (H.1,ql H.2 b)
theorem ul (a:Int) (H:HS) (b:L01):mix a H (b.take (Bk a))=mix a H b:=by
 unfold mix Bk
 split
 ·rw[CF]
 ·rw[CW]
theorem MX (a:Int) (H:HS) (b:L01) (h:H.1.length=8/\H.2.length=8):(mix a H b).1.length=8/\(mix a H b).2.length=8:=by
 unfold mix
 split
 ·exact⟨JI _ _ h.1,h.2⟩
 ·exact⟨h.1,FB _ _ h.2⟩
def oq (a:Int) (H:HS) (D:L01) (k:Nat):HS:=(List.range' 0 k).foldl (fun H i=>mix a H (D.drop (Bk a*i))) H
theorem BD (a:Int) (H:HS) (D:L01) (k:Nat) (h:H.1.length=8/\H.2.length=8):(oq a H D k).1.length=8/\(oq a H D k).2.length=8:=
 nM (fun H:HS=>H.1.length=8/\H.2.length=8) _ (fun i x hx=>MX a x _ hx) k 0 _ h
theorem HR (a:Int) (H:HS) (D:L01) (k:Nat):oq a H D (k+1)=mix a (oq a H D k) (D.drop (Bk a*k)):=by
 unfold oq
 rw[List.range'_concat,List.foldl_append]
 simp
theorem Aw (a:Int) (H:HS) (D E:L01) (k:Nat) (h:Bk a*k<=D.length):oq a H (D++E) k=oq a H D k:=by
 unfold oq
 refine nj k 0 _ fun i x _ hi=>?_
 have j:Bk a*(i+1)<=Bk a*k:=bj _ (by omega)
 rw[aE,cE]at j
 rw[<-ul,<-ul a x (D.drop _),List.drop_append_of_le_length (by omega),List.take_append_of_le_length (by simp; omega)]
def Inv (a:Int) (H0:HS) (D:L01) (s:L00) (l:List UInt64) (rest:L01) (n:UInt64):Prop:=
 (s,l)=oq a H0 D (D.length / Bk a)/\rest.length=128/\rest.take (D.length%Bk a)=D.drop (Bk a*(D.length / Bk a))/\n=UInt64.ofNat D.length
theorem Ky (a:Int) (s:L00) (l:List UInt64) (rest:L01) (n:UInt64) (hs:s.length=8) (hl:l.length=8) (j:rest.length=128) :
  F.Wi a s l rest n=some (a,(mix a (s,l) rest).1,(mix a (s,l) rest).2,rest,n):=by
 unfold F.Wi mix
 by_cases h:a=1
 ·have e:(a == 1)=true:=by simpa using h
  rw[e,ag rfl,ag h,Fb a s l rest n hs j]; rfl
 ·have e:(a == 1)=false:=by simpa using h
  rw[e,ae (by simp),ae h,Ex a l s rest n hl j]; rfl
theorem FJ (a:Int) (H0:HS) (h0:H0.1.length=8/\H0.2.length=8):∀(m:Nat) (b D:L01) (s:L00) (l:List UInt64) (rest:L01) (n:UInt64),b.length=m->D.length+b.length<=1000000000000000->Inv a H0 D s l rest n ->
  ∃J N U n',loop (F.Vh ((Bk a:Nat):Int)) (b,a,s,l,rest,n)=some (a,J,N,U,n')/\Inv a H0 (D++b) J N U n':=by
 intro m
 induction m using Nat.strongRecOn with
 | ind m ih=>
  intro b D s l rest n hm hD hI
  obtain⟨Y,hr,Z,hn⟩:=hI
  have O:=BD a H0 D (D.length / Bk a) h0
  rw[<-Y]at O
  have hB:Bk a=64\/Bk a=128:=by unfold Bk; split <;> simp
  by_cases hb:b=[]
  ·subst hb
   refine⟨s,l,rest,n,bD rfl,?_⟩
   rw[bP]; exact⟨Y,hr,Z,hn⟩
  ·have d0:0<b.length:=fb.2 hb
   -- numbers
   obtain⟨B,j⟩:∃B,Bk a=B:=⟨_,rfl⟩
   rw[j]at hB Z Y
   have cm:D.length%B<B:=bH _ (by omega)
   have b4:=de D.length B
   obtain⟨q,hq⟩:∃q,D.length / B=q:=⟨_,rfl⟩
   obtain⟨t,ab⟩:∃t,D.length%B=t:=⟨_,rfl⟩
   rw[hq,ab]at b4
   rw[ab]at cm Z
   rw[hq]at Z Y
   have c0:(UInt64.ofInt ((B:Nat):Int)).toNat=B:=by rcases hB with rfl | rfl <;> rfl
   have c2:¬(UInt64.ofInt ((B:Nat):Int))=0:=by rcases hB with rfl | rfl <;> decide
   have hN:n.toNat=D.length:=by rw[hn,bS]; omega
   have b9:(n%UInt64.ofInt ((B:Nat):Int)).toNat=t:=by rw[dq,hN,c0,ab]
   obtain⟨k,hk⟩:∃k,min b.length (B - t)=k:=⟨_,rfl⟩
   have b5:0<k/\k<=b.length/\k<=B - t:=by omega
   have c5:cpL rest b t B=rest.take t++b.take k++rest.drop (t+k):=by
    unfold cpL
    rw[hk]
    congr 2
    by_cases h:b.length<=B - t
    ·rw[aA h,aA (by omega)]
    ·congr 1; omega
   have ac:(cpL rest b t B).length=128:=by rw[jC _ _ _ _ (by omega) (by omega),hr]
   have d1:D.length=B*q+t:=b4.symm
   have V:(D++b.take k).drop (B*q)=rest.take t++b.take k:=by
    rw[List.drop_append_of_le_length (by omega),Z]
   have ad:(cpL rest b t B).take (t+k)=rest.take t++b.take k:=by
    rw[c5,fE (by simp; omega)]
   have b6:n+UInt64.ofInt ((k:Nat):Int)=UInt64.ofNat (D++b.take k).length:=by
    apply cx.1
    rw[fQ,hN,bS,KA k (by omega)]
    simp; omega
   have R:∀J N:_,Inv a H0 (D++b.take k) J N (cpL rest b t B) (n+UInt64.ofInt ((k:Nat):Int))->∃A G X I,loop (F.Vh ((Bk a:Nat):Int)) (b.drop k,a,J,N,cpL rest b t B,n+UInt64.ofInt ((k:Nat):Int))=some (a,A,G,X,I)/\Inv a H0 (D++b) A G X I:=by
    intro J N c6
    obtain⟨A,G,r2,I,h1,h2⟩:=ih (b.drop k).length (by simp; omega) (b.drop k) (D++b.take k) J N _ _ rfl (by simp; omega) c6
    refine⟨A,G,r2,I,h1,?_⟩
    rwa [aN,cD]at h2
   rw[j]at R ⊢
   have c1:decide ((0:Int)<(b.length:Int))=true:=ai (by omega)
   have w1:wI ((t:Nat):Int)=((t:Nat):Int):=aC (by omega) (by omega)
   have y:F.Vh ((B:Nat):Int) (b,a,s,l,rest,n) =
     if (wI ((t:Int)+(k:Int)) == (B:Int))=true then (af (F.Wi a s l (cpL rest b t B) (n+UInt64.ofInt ((k:Nat):Int))) fun x=>bM (b.drop k,x.1,x.2.1,x.2.2.1,x.2.2.2.1,x.2.2.2.2))
     else bM (b.drop k,a,s,l,cpL rest b t B,n+UInt64.ofInt ((k:Nat):Int)):=by
    simp only[F.Vh,c1,al,grd_true _ c2,aD,b9,w1]
    rw[lP (by omega) (by omega),aa]
    simp only[am,hk]
    rw[oN (by omega),aa]
   have w2:wI ((t:Int)+(k:Int))=((t+k:Nat):Int):=by rw[aC (by omega) (by omega)]; simp
   rw[w2]at y
   by_cases hfull:t+k=B
   ·have e:(((t+k:Nat):Int) == (B:Int))=true:=by simp[hfull]
    rw[e,ag rfl,Ky a s l _ _ O.1 O.2 ac,aa]at y
    obtain⟨A,G,r2,I,h1,h2⟩:=R (mix a (s,l) (cpL rest b t B)).1 (mix a (s,l) (cpL rest b t B)).2 (by
     have z:(D++b.take k).length=B*(q+1):=by rw[aQ,aJ,bf b5.2.1,aE]; omega
     have hd:(D++b.take k).length / B=q+1:=by rw[z,Nat.mul_div_cancel_left _ (by omega)]
     have b3:(D++b.take k).length%B=0:=by rw[z,Nat.mul_mod_right]
     refine⟨?_,ac,?_,b6⟩
     ·rw[j,hd,HR,Aw a H0 D _ q (by rw[j]; omega),<-Y,j,V,<-ad,hfull,<-j,ul]
     ·rw[j,b3,hd,fX,bL (by rw[z]; exact ax _)])
    exact⟨A,G,r2,I,(bn y).trans h1,h2⟩
   ·have e:(((t+k:Nat):Int) == (B:Int))=false:=by simp; omega
    rw[e,ae (by simp)]at y
    obtain⟨A,G,r2,I,h1,h2⟩:=R s l (by
     have b7:t+k<B:=by omega
     have z:(D++b.take k).length=t+k+B*q:=by rw[aQ,aJ,bf b5.2.1]; omega
     have hd:(D++b.take k).length / B=q:=by rw[z,g9 _ _ (by omega),cA b7]; simp
     have b3:(D++b.take k).length%B=t+k:=by rw[z,g8,az b7]
     refine⟨?_,ac,?_,b6⟩
     ·rw[j,hd,Aw a H0 D _ q (by rw[j]; omega),<-Y]
     ·rw[j,b3,hd,ad,V])
    exact⟨A,G,r2,I,(bn y).trans h1,h2⟩
theorem uv (a:Int) (h:a=1\/a=2\/a=3):F.Uf a=some ((Bk a:Nat):Int):=by
 rcases h with rfl | rfl | rfl <;> rfl
theorem AF (a:Int) (ha:a=1\/a=2\/a=3) (H0:HS) (A:H0.1.length=8/\H0.2.length=8) (b D:L01) (s:L00) (l:List UInt64) (rest:L01) (n:UInt64) (B:D.length+b.length<=1000000000000000) (G:Inv a H0 D s l rest n) :
  ∃k y j z,F.U6 a s l rest n b=some (a,k,y,j,z)/\Inv a H0 (D++b) k y j z:=by
 unfold F.U6
 rw[uv a ha,aa]
 exact FJ a H0 A _ b D s l rest n rfl B G
def zc (B r:Nat):Nat:=(2*B - B / 8 - (r+1))%B
def ku (n:UInt64) (i:Nat):UInt8:=if i<8 then (bb (c8 n 3) (8*i)).toUInt8 else if i=8 then (bb n 61).toUInt8 else 0
def nB (B:Nat) (D:L01):L01:=([128]++List.replicate (zc B (D.length%B)) 0)++(List.range' 0 (B / 8)).map (fun i=>ku (UInt64.ofNat D.length) (B / 8 - 1 - i))
def q32 (v:UInt32):L01:=[(dD v 24).toUInt8,(dD v 16).toUInt8,(dD v 8).toUInt8,v.toUInt8]
def q64 (v:UInt64):L01:=(List.range' 0 8).map (fun j=>(bb v (56 - 8*j)).toUInt8)
def zv (s:L00):L01:=(List.range' 0 8).foldl (fun x i=>x++q32 (s.getD i 0)) []
def E4 (s:List UInt64):L01:=(List.range' 0 8).foldl (fun x i=>x++q64 (s.getD i 0)) []
def Sz (a:Int):Nat:=if a=1 then 32 else if a=2 then 48 else 64
def si (a:Int) (H:HS):L01:=if a=1 then zv H.1 else (E4 H.2).take (Sz a)
def H0 (a:Int):HS:=if a=1 then (F.abZ,List.replicate 8 0) else if a=2 then (List.replicate 8 0,F.ab0) else (List.replicate 8 0,F.abX)
theorem Ab (a:Int):(H0 a).1.length=8/\(H0 a).2.length=8:=by
 unfold H0
 split
 ·exact⟨rfl,rfl⟩
 ·split <;> exact⟨rfl,rfl⟩
def gk (a:Int) (D:L01):L01:=si a (oq a (H0 a) (D++nB (Bk a) D) ((D++nB (Bk a) D).length / Bk a))
theorem uE {β:Type} (f:Nat->List β):∀(r i:Nat) (x:List β),(List.range' i r).foldl (fun x i=>x++f i) x=x++(List.range' i r).flatMap f
 | 0,i,x=>by simp
 | r+1,i,x=>by
  rw[ig,ep,uE f r (i+1),dU,aN]
theorem DF (v:UInt64):(q64 v).length=8:=by simp[q64]
theorem ya (s:List UInt64):(E4 s).length=64:=by
 unfold E4
 have:=fG (fun i (x:L01)=>x.length=8*i) (fun x i=>x++q64 (s.getD i 0)) (fun i x hx=>by simp only[aQ,DF,hx]; omega) 8 0 [] rfl
 simpa using this
theorem JA (B:Nat) (D:L01):(nB B D).length=1+zc B (D.length%B)+B / 8:=by simp[nB]; omega
theorem Gq (a:Int) (D:L01):(D++nB (Bk a) D).length%Bk a=0/\(nB (Bk a) D).length<=300:=by
 rw[aQ,JA]
 have j:Bk a=64\/Bk a=128:=by unfold Bk; split <;> simp
 have k:=bH D.length (show 0<Bk a by omega)
 have hd:=de D.length (Bk a)
 rcases j with h | h <;> rw[h]at k hd ⊢ <;> unfold zc <;> omega
theorem Ox (a:Int) (ha:a=1\/a=2\/a=3) (s:L00) (l:List UInt64) (rest:L01) (n:UInt64) (x:L01) (hx:x.length<=1000) :
  loop (F.Vs a s l rest n) (x,(((Bk a / 8 - 1:Nat)):Int))=(af (F.U6 a s l rest n (x++(List.range' 0 (Bk a / 8)).map (fun i=>ku n (Bk a / 8 - 1 - i)))) fun k=>
   if (k.1 == 1)=true then loop (F.Xr a s l rest n k) ([],0) else loop (F.Vz a s l rest n k) ([],0)):=by
 have N:Bk a / 8=8\/Bk a / 8=16:=by unfold Bk; split <;> simp
 obtain⟨j,I⟩:∃q,Bk a / 8=q:=⟨_,rfl⟩
 rw[I]at N ⊢
 have:=eN (f:=F.Vs a s l rest n) (fun (y:L01) i=>(y,(j:Int) - 1 - (i:Int))) (fun i y=>y.length=x.length+i) (fun y i=>y++[ku n (j - 1 - i)]) 0 j
  (X:=fun y=>(af (F.U6 a s l rest n y) fun k=>if (k.1 == 1)=true then loop (F.Xr a s l rest n k) ([],0) else loop (F.Vz a s l rest n k) ([],0)))
  (fun i y _ hi J=>by
   have z:decide ((0:Int)<=((j - 1 - i:Nat):Int))=true:=ai (by omega)
   have O:(j:Int) - 1 - (i:Int)=((j - 1 - i:Nat):Int):=by omega
   have A:∀c:UInt8,F.WC y ((j - 1 - i:Nat):Int) c=some (.inl (y++[c],(j:Int) - 1 - ((i+1:Nat):Int))):=fun c=>by
    simp only[F.WC]
    rw[im (by simp; omega),aa,aC (by omega) (by omega),show ((j - 1 - i:Nat):Int) - 1=(j:Int) - 1 - ((i+1:Nat):Int) by omega]
    rfl
   refine⟨?_,by simp[J]; omega⟩
   simp only[F.Vs,O,z,al]
   by_cases h8:j - 1 - i<8
   ·have B:decide (((j - 1 - i:Nat):Int)<8)=true:=ai (by omega)
    have R:wI (8*((j - 1 - i:Nat):Int))=((8*(j - 1 - i):Nat):Int):=by rw[aC (by omega) (by omega)]; omega
    simp only[B,al,R]
    rw[grd_true _ (by omega),aD,am,A]
    simp only[ku,h8,al]
   ·have B:decide (((j - 1 - i:Nat):Int)<8)=false:=au (by omega)
    simp only[B,ah,aj]
    by_cases h9:j - 1 - i=8
    ·have G:(((j - 1 - i:Nat):Int) == 8)=true:=by rw[h9]; rfl
     have hb:ku n (j - 1 - i)=(bb n 61).toUInt8:=by unfold ku; rw[ae h8,ag h9]
     simp only[G,al,A,hb]
    ·have G:(((j - 1 - i:Nat):Int) == 8)=false:=by simp; omega
     have hb:ku n (j - 1 - i)=0:=by unfold ku; rw[ae h8,ae h9]
     simp only[G,ah,aj,A,hb])
  (fun y J=>by
   have z:decide ((0:Int)<=(j:Int) - 1 - ((j:Nat):Int))=false:=au (by omega)
   simp only[F.Vs,z,ah,aj])
  j 0 x (ax _) (by omega) rfl
 have e:(j:Int) - 1 - ((0:Nat):Int)=((j - 1:Nat):Int):=by omega
 rw[e]at this
 refine this.trans ?_
 have hf:=uE (fun i=>[ku n (j - 1 - i)]) j 0 x
 simp only[hf]
 have U:∀r:L02,r.flatMap (fun i=>[ku n (j - 1 - i)])=r.map (fun i=>ku n (j - 1 - i)):=fun r=>by
  induction r with
  | nil=>rfl
  | cons p r ih=>rw[dU,ih]; rfl
 rw[U]
theorem O9 (a:Int) (ha:a=1\/a=2\/a=3) (D:L01) (s:L00) (l:List UInt64) (rest:L01) (n:UInt64) (hD:D.length<=900000000000000) (hI:Inv a (H0 a) D s l rest n) :
  F.YT a s l rest n=some (gk a D,a,s,l,rest,n):=by
 unfold F.YT
 rw[uv a ha,aa]
 obtain⟨B,k⟩:∃B,Bk a=B:=⟨_,rfl⟩
 have O:B=64\/B=128:=by rw[<-k]; unfold Bk; split <;> simp
 have hn:=hI.2.2.2
 obtain⟨t,Z⟩:∃t,D.length%B=t:=⟨_,rfl⟩
 have c6:t<B:=by rw[<-Z]; exact bH _ (by omega)
 have bx:(UInt64.ofInt ((B:Nat):Int)).toNat=B:=by rcases O with rfl | rfl <;> rfl
 have U:¬(UInt64.ofInt ((B:Nat):Int))=0:=by rcases O with rfl | rfl <;> decide
 have I:¬((B:Nat):Int)=0:=by omega
 have hN:n.toNat=D.length:=by rw[hn,bS]; omega
 have ab:(n%UInt64.ofInt ((B:Nat):Int)).toNat=t:=by rw[dq,hN,bx,Z]
 have hq:Int.tdiv ((B:Nat):Int) 8=((B / 8:Nat):Int):=by rcases O with rfl | rfl <;> rfl
 have w8:wI ((B / 8:Nat):Int)=((B / 8:Nat):Int):=aC (by omega) (by omega)
 have w9:wI (((B:Nat):Int) - ((B / 8:Nat):Int))=((B - B / 8:Nat):Int):=by rw[aC (by omega) (by omega)]; omega
 have wt:wI ((t:Nat):Int)=((t:Nat):Int):=aC (by omega) (by omega)
 have J:∀j:Nat,j<=zc B t->(Int.tmod (wI (wI ((n%UInt64.ofInt ((B:Nat):Int)).toNat:Int)+((([128]++List.replicate j 0:L01)).length:Int))) ((B:Nat):Int) != wI (((B:Nat):Int) - wI (Int.tdiv ((B:Nat):Int) 8)))=decide (j≠zc B t):=by
  intro j hj
  have hz:zc B t<B:=bH _ (by omega)
  rw[ab,wt,hq,w8,w9]
  have hl:((([128]++List.replicate j 0:L01)).length:Int)=((1+j:Nat):Int):=by simp; omega
  rw[hl,aC (by omega) (by omega),show ((t:Nat):Int)+((1+j:Nat):Int)=((t+(1+j):Nat):Int) by omega]
  have hm:Int.tmod ((t+(1+j):Nat):Int) ((B:Nat):Int)=(((t+(1+j))%B:Nat):Int):=rfl
  rw[hm]
  have V:(t+(1+j))%B=B - B / 8↔j=zc B t:=by
   unfold zc at hj hz ⊢
   rcases O with rfl | rfl <;> omega
  by_cases h:j=zc B t
  ·have:=V.2 h
   rw[this]; simp[h]
  ·have:¬(t+(1+j))%B=B - B / 8:=fun h'=>h (V.1 h')
   simp only[h,ne_eq,iW,gp,dC]
   omega
 have dc:zc B t<B:=bH _ (by omega)
 have e1:=jZ (f:=F.YZ n ((B:Nat):Int) a s l rest) (fun (_:Unit) i=>([128]++List.replicate i 0:L01)) (fun _=>True) (fun _ _=>()) 0 (zc B t)
  (X:=fun _=>loop (F.Vs a s l rest n) ([128]++List.replicate (zc B t) 0,((B / 8 - 1:Nat):Int)))
  (fun i _ _ hi _=>by
   refine⟨?_,trivial⟩
   unfold F.YZ
   simp only
   rw[grd_true _ U,grd_true _ I,J i (by omega),ag (ai (by omega)),im (by simp; omega),aa]
   simp only[aN,List.replicate_succ']
   rfl)
  (fun _ _=>by
   unfold F.YZ
   simp only
   rw[grd_true _ U,grd_true _ I,J _ (ax _),ae (by simp),aD,hq,w8,aC (by omega) (by omega),show ((B / 8:Nat):Int) - 1=((B / 8 - 1:Nat):Int) by omega])
  (zc B t) 0 () (ax _) (by omega) trivial
 rw[k]
 refine e1.trans ?_
 have Y:=Ox a ha s l rest n ([128]++List.replicate (zc B t) 0) (by simp; omega)
 rw[k]at Y
 refine Y.trans ?_
 have ac:([128]++List.replicate (zc B t) 0)++(List.range' 0 (B / 8)).map (fun i=>ku n (B / 8 - 1 - i))=nB B D:=by
  unfold nB
  rw[Z,hn]
 have hpl:=(Gq a D).2
 rw[ac]
 rw[k]at hpl
 obtain⟨R,z,r',n',hw,b7⟩:=AF a ha (H0 a) (Ab a) (nB B D) D s l rest n (by omega) hI
 rw[hw,aa]
 have G:=b7.1
 rw[k]at G
 have A:=BD a (H0 a) (D++nB B D) ((D++nB B D).length / B) (Ab a)
 rw[<-G]at A
 by_cases h1:a=1
 ·have c1:(a == 1)=true:=by simpa using h1
  simp only[c1,al]
  have e3:=eN (f:=F.Xr a s l rest n (a,R,z,r',n')) (fun (x:L01) i=>(x,(i:Int))) (fun i x=>x.length=4*i) (fun x i=>x++q32 (R.getD i 0)) 0 8
   (X:=fun x=>some (x,a,s,l,rest,n))
   (fun i x _ hi hx=>by
    have N:decide ((i:Int)<8)=true:=ai (by omega)
    refine⟨?_,by simp[hx,q32]; omega⟩
    simp only[F.Xr,N,al]
    rw[bg (show i<R.length by have:=A.1; simp only at this; omega) 0,aa,im (by simp; omega),aa,wI1 i (by omega)]
    rfl)
   (fun x _=>rfl) 8 0 [] (ax _) rfl rfl
  refine e3.trans ?_
  unfold gk si
  rw[ag h1,k,<-G]
  rfl
 ·have c1:(a == 1)=false:=by simpa using h1
  simp only[c1,ah,aj]
  have e5:=fun (i:Nat) (x:L01) (v:UInt64) (hi:i<8) (hx:x.length=8*i)=>eN (f:=F.YB (i:Int) v) (fun (x:L01) j=>(x,(56:Int) - 8*(j:Int))) (fun j y=>y.length=8*i+j) (fun y j=>y++[(bb v (56 - 8*j)).toUInt8]) 0 8
   (X:=fun y=>(some (.inl (y,((i+1:Nat):Int))):Option ((L01×Int)⊕(L01×Int×L00×List UInt64×L01×UInt64))))
   (fun j y _ hj hy=>by
    have N:decide ((0:Int)<=56 - 8*(j:Int))=true:=ai (by omega)
    refine⟨?_,by simp[hy]; omega⟩
    simp only[F.YB,N,al]
    rw[grd_true _ (by omega),im (by simp; omega),aa,show ((56:Int) - 8*(j:Int)).toNat=56 - 8*j by omega,aC (by omega) (by omega),show (56:Int) - 8*(j:Int) - 8=56 - 8*((j+1:Nat):Int) by omega]
    rfl)
   (fun y _=>by
    simp only[F.YB,show decide ((0:Int)<=56 - 8*((8:Nat):Int))=false from rfl,ah,aj,wI1 i (by omega)]
    rfl) 8 0 x (ax _) rfl (by omega)
  have b8:F.Tr a=some ((Sz a:Nat):Int)/\Sz a<=64:=by
   rcases ha with rfl | rfl | rfl
   ·exact absurd rfl h1
   ·exact⟨rfl,by decide⟩
   ·exact⟨rfl,by decide⟩
  have e4:=eN (f:=F.Vz a s l rest n (a,R,z,r',n')) (fun (x:L01) i=>(x,(i:Int))) (fun i x=>x.length=8*i) (fun x i=>x++q64 (z.getD i 0)) 0 8
   (X:=fun x=>some (x.take (Sz a),a,s,l,rest,n))
   (fun i x _ hi hx=>by
    have N:decide ((i:Int)<8)=true:=ai (by omega)
    refine⟨?_,by simp only[aQ,DF,hx]; omega⟩
    simp only[F.Vz,N,al]
    rw[bg (show i<z.length by have:=A.2; simp only at this; omega) 0,aa]
    refine (e5 i x _ hi hx).trans ?_
    have hf:=uE (fun j=>[(bb (z.getD i 0) (56 - 8*j)).toUInt8]) 8 0 x
    simp only[hf]
    have:(List.range' 0 8).flatMap (fun j=>[(bb (z.getD i 0) (56 - 8*j)).toUInt8])=q64 (z.getD i 0):=rfl
    rw[this])
   (fun x hx=>by
    simp only[F.Vz,show decide (((8:Nat):Int)<8)=false from rfl,ah,aj]
    rw[b8.1,aa,aa,grd_true _ ⟨by omega,by rw[am]; omega,rfl⟩,am])
   8 0 [] (ax _) rfl rfl
  refine e4.trans ?_
  unfold gk si
  rw[ae h1,k,<-G]
  rfl
theorem O0 (a:Int) (ha:a=1\/a=2\/a=3):F.aaj a=some (some (a,(H0 a).1,(H0 a).2,List.replicate 128 0,0)):=by
 rcases ha with rfl | rfl | rfl <;> rfl
theorem RK (a:Int):Inv a (H0 a) [] (H0 a).1 (H0 a).2 (List.replicate 128 0) 0:=by
 refine⟨?_,by simp,by simp,rfl⟩
 simp[oq]
theorem li (a:Int) (ha:a=1\/a=2\/a=3) (j:List L01) (hl:j.length<=1000) (U:j.flatten.length<=900000000000000):F.Tq a j=some (gk a j.flatten):=by
 unfold F.Tq
 rw[O0 a ha,aa]
 show loop (F.U9 j) (0,a,(H0 a).1,(H0 a).2,List.replicate 128 0,0)=_
 have B:∀(r i:Nat) (s:L00) (l:List UInt64) (rest:L01) (n:UInt64),i+r=j.length->Inv a (H0 a) (j.take i).flatten s l rest n->loop (F.U9 j) ((i:Int),a,s,l,rest,n)=some (gk a j.flatten):=by
  intro r
  induction r with
  | zero=>
   intro i s l rest n hi A
   have hd:decide ((i:Int)<(j.length:Int))=false:=au (by omega)
   have G:Inv a (H0 a) j.flatten s l rest n:=by rwa [aA (by omega)]at A
   refine bD (r:=gk a j.flatten) ?_
   simp only[F.U9,hd,ah,aj]
   rw[O9 a ha _ s l rest n U G,aa]
   rfl
  | succ r ih=>
   intro i s l rest n hi A
   have hd:decide ((i:Int)<(j.length:Int))=true:=ai (by omega)
   have k:i<j.length:=by omega
   have y:(j.take (i+1)).flatten=(j.take i).flatten++j[i]:=by rw[dT k,List.flatten_append]; simp
   have I:(j.take (i+1)).flatten.length<=j.flatten.length:=by
    have:j.flatten=(j.take (i+1)).flatten++(j.drop (i+1)).flatten:=by rw[<-List.flatten_append,cD]
    rw[this,aQ]; omega
   rw[y,aQ]at I
   obtain⟨J,N,O,R,hw,z⟩:=AF a ha (H0 a) (Ab a) j[i] _ s l rest n (by omega) A
   rw[<-y]at z
   have hs:F.U9 j ((i:Int),a,s,l,rest,n)=some (.inl (((i+1:Nat):Int),a,J,N,O,R)):=by
    simp only[F.U9,hd,al]
    rw[bz k,aa,hw,aa,wI1 i (by omega)]
    rfl
   rw[bn hs]
   exact ih (i+1) J N O R (by omega) z
 exact B j.length 0 _ _ _ _ (by omega) (by simpa using RK a)
theorem Gw (x:UInt64):(x &&& 255).toUInt8=x.toUInt8:=by
 apply dz.1
 rw[ic,ic,jh]
 have:(255:UInt64).toNat=2^8 - 1:=rfl
 rw[this,fe]
 omega
def PZ (n:UInt64):L01:=(List.range' 0 8).map (fun i=>ku n (7 - i))
theorem M3 (v:UInt32):(q32 v).length=4:=by simp[q32]
theorem If (s:L00):(zv s).length=32:=by
 unfold zv
 have:=fG (fun i (x:L01)=>x.length=4*i) (fun x i=>x++q32 (s.getD i 0)) (fun i x hx=>by simp only[aQ,M3,hx]; omega) 8 0 [] rfl
 simpa using this
theorem uR (a:Int) (D:L01):(gk a D).length=Sz a:=by
 unfold gk si
 split
 ·rename_i h; rw[If]; unfold Sz; rw[ag h]
 ·rename_i h
  rw[aJ,ya]; unfold Sz; rw[ae h]; split <;> rfl
theorem EC (a:Int):Sz a<=64:=by unfold Sz; split; decide; split <;> decide
theorem E8 (a:Int):64<=Bk a/\Bk a<=128:=by unfold Bk; split <;> omega
def uM (a:Int) (key:L01):L01:=if Bk a<key.length then gk a key else key
def tn (a:Int) (key:L01) (w:UInt8):L01:=(List.range' 0 (Bk a)).map (fun i=>(uM a key).getD i 0 ^^^ w)
theorem xX (a:Int) (j:L01) (w:UInt8):(tn a j w).length=Bk a:=by simp[tn]
theorem KY (a:Int) (j:L01):(uM a j).length<=Bk a:=by
 unfold uM
 split
 ·rw[uR]; exact ba (EC a) (E8 a).1
 ·omega
theorem KO {f:Int×L01->Option ((Int×L01)⊕L01)} (w:UInt8) (B:Nat) (A:B<=1000)
  (hf:∀i x,f (i,x)=if decide (i<(B:Int))=true then (af (aw x i) fun a=>af (aw x i) fun b=>bv (x.set i.toNat (a ^^^ w)) fun y=>bM (wI (i+1),y)) else bc (some x))
  (l:L01) (hl:l.length=B):loop f (0,l)=some (l.map (· ^^^ w)):=by
 have j:∀(r i:Nat),i+r=B->loop f ((i:Int),(l.take i).map (· ^^^ w)++l.drop i)=some (l.map (· ^^^ w)):=by
  intro r
  induction r with
  | zero=>
   intro i h
   refine cb ?_
   rw[hf,au (by omega),aA (by omega),bL (by omega),bP]
   rfl
  | succ r ih=>
   intro i h
   have hi:i<l.length:=by omega
   have k:((l.take i).map (· ^^^ w)++l.drop i).length=B:=by simp; omega
   have hg:aw ((l.take i).map (· ^^^ w)++l.drop i) (i:Int)=some l[i]:=by
    rw[bz (by omega),List.getElem_append_right (by simp; omega)]
    congr 1
    simp; congr 1; omega
   have hs:f ((i:Int),(l.take i).map (· ^^^ w)++l.drop i)=some (.inl (((i+1:Nat):Int),(l.take (i+1)).map (· ^^^ w)++l.drop (i+1))):=by
    rw[hf,ai (by omega),hg]
    simp only[al,aa,aD,am]
    rw[aC (by omega) (by omega),dX _ _ (by simp; omega),aS hi,dT hi]
    have z:i - ((l.take i).map (· ^^^ w)).length=0:=by simp; omega
    rw[z,iJ,List.map_append,aN]
    rfl
   rw[bn hs]
   exact ih (i+1) (by omega)
 have:=j B 0 (by omega)
 simpa using this
theorem Dj (a:Int) (k:L01) (B:Nat) (w:UInt8) (y:k.length<=B):(cpL (List.replicate B 0) k 0 B).map (· ^^^ w)=(List.range' 0 B).map (fun i=>k.getD i 0 ^^^ w):=by
 have hl:(cpL (List.replicate B (0:UInt8)) k 0 B).length=B:=by rw[jC _ _ _ _ (by omega) (by simp)]; simp
 refine gC (by simp[hl]) fun i j z=>?_
 simp only[List.getElem_map,List.getElem_range',bk,cy]
 congr 1
 unfold cpL
 rw[an]
 simp only[fX,bN,f9,bk]
 have hi:i<B:=by simpa [hl] using j
 by_cases h:i<k.length
 ·rw[List.getElem_append_left (by simp; omega),List.getElem_take,av h]; rfl
 ·rw[List.getElem_append_right (by simp; omega),List.getElem_drop,gF,c9 (by omega)]; rfl
section
variable (a:Int) (ha:a=1\/a=2\/a=3)
include ha
theorem tY (j:L01) (w:UInt8) (B:j.length<=150000000000000):F.W3 a j w=some (tn a j w):=by
 unfold F.W3 tn
 have G:=E8 a
 have z:=KY a j
 have k:∀(f:Int×L01->Option ((Int×L01)⊕L01)),(∀i x,f (i,x)=if decide (i<(Bk a:Int))=true then (af (aw x i) fun a=>af (aw x i) fun b=>bv (x.set i.toNat (a ^^^ w)) fun y=>bM (wI (i+1),y)) else bc (some x)) ->
   loop f (0,cpL (List.replicate (Bk a) 0) (uM a j) 0 (Bk a))=some ((List.range' 0 (Bk a)).map (fun i=>(uM a j).getD i 0 ^^^ w)):=by
  intro f hf
  rw[KO w (Bk a) (by omega) hf _ (by rw[jC _ _ _ _ (by omega) (by simp)]; simp),Dj a _ _ w z]
 have A:mkO 1 ((Bk a:Nat):Int) ((Bk a:Nat):Int) (0:UInt8)=some (List.replicate (Bk a) 0):=by rw[iK (by omega)]; simp
 rw[uv a ha,aa]
 by_cases h:Bk a<j.length
 ·rw[ag (ai (by omega)),li a ha [j] (by simp) (by simp; omega),aa,aa,A,aa,aD,aa,bq]
  have:=k (F.abw w ((Bk a:Nat):Int)) (fun i x=>rfl)
  rw[show uM a j=gk a j from ag h]at this ⊢
  simpa using this
 ·rw[ae (by simp; omega),aa,A,aa,aD,aa,bq]
  have:=k (F.abq w ((Bk a:Nat):Int)) (fun i x=>rfl)
  rw[show uM a j=j from ae h]at this ⊢
  exact this
def qM (a:Int) (key data:L01):L01:=gk a (tn a key 92++gk a (tn a key 54++data))
theorem Dh (j k:L01) (y:j.length<=150000000000000) (hd:k.length<=150000000000000):F.ZF a j k=some (qM a j k):=by
 unfold F.ZF qM
 have B:=E8 a
 have hS:=EC a
 have z:F.Tr a=some ((Sz a:Nat):Int):=by rcases ha with rfl | rfl | rfl <;> rfl
 have A:(((Sz a:Nat):Int) == 0)=false:=by rcases ha with rfl | rfl | rfl <;> rfl
 rw[z,aa,A,ae (by simp),tY a ha j 92 y,aa,tY a ha j 54 y,aa,li a ha _ (by simp) (by simp[xX]; omega),aa,
  li a ha _ (by simp) (by simp[xX,uR]; omega),aa]
 simp
end
def zB (a:Int):Prop:=a=1\/a=2\/a=3
instance (a:Int):Decidable (zB a):=by unfold zB; infer_instance
theorem KZ (a b:UInt8):a ||| b=0↔a=0/\b=0:=by
 constructor
 ·intro h
  have j:=da UInt8.toNat h
  rw[UInt8.toNat_or]at j
  have k:a.toNat<=a.toNat ||| b.toNat:=Nat.left_le_or
  have y:b.toNat<=a.toNat ||| b.toNat:=Nat.right_le_or
  have z:(0:UInt8).toNat=0:=rfl
  exact⟨dz.1 (by omega),dz.1 (by omega)⟩
 ·rintro⟨rfl,rfl⟩; rfl
theorem Ib (a b:UInt8):a ^^^ b=0↔a=b:=by
 constructor
 ·intro h
  have j:(a ^^^ b) ^^^ b=0 ^^^ b:=by rw[h]
  rwa [UInt8.xor_assoc,UInt8.xor_self,UInt8.xor_zero,UInt8.zero_xor]at j
 ·rintro rfl; exact UInt8.xor_self
theorem Fh (x y:L01) (hl:x.length=y.length) (hx:x.length<=1000):∀(r i:Nat) (j:UInt8),i+r=x.length->loop (F.Xl x y) (j,(i:Int))=some (decide (j=0/\x.drop i=y.drop i)):=by
 intro r
 induction r with
 | zero=>
  intro i j h
  refine bD ?_
  unfold F.Xl
  dsimp only
  rw[ae (by simp; omega),bL (by omega),bL (by omega)]
  simp only[bc,bO,and_true]
  congr 2
 | succ r ih=>
  intro i j h
  have hi:i<x.length:=by omega
  have k:i<y.length:=by omega
  have hs:F.Xl x y (j,(i:Int))=some (.inl (j ||| (x[i] ^^^ y[i]),((i+1:Nat):Int))):=by
   unfold F.Xl
   dsimp only
   rw[ag (ai (by omega)),bz hi,aa,bz k,aa,aC (by omega) (by omega)]; rfl
  rw[bn hs,ih (i+1) _ (by omega)]
  congr 1
  rw[fV,KZ,Ib,aS hi,aS k,eQ,and_assoc]
theorem K9 (x y:L01) (hx:x.length<=1000):F.YW x y=some (decide (x=y)):=by
 unfold F.YW
 by_cases h:x.length=y.length
 ·rw[ae (by simp[h])]
  have:=Fh x y h hx x.length 0 0 (by omega)
  simpa using this
 ·rw[ag (by simpa using (fun j=>h (by omega))),au (fun j=>h (by rw[j]))]
theorem zo (a:Int) (ha:zB a) (s t g:L01) (hs:s.length<=150000000000000) (y:t.length<=150000000000000):F.YR a s t g=some (decide (qM a s t=g)):=by
 unfold F.YR
 have j:F.Tr a=some ((Sz a:Nat):Int):=by rcases ha with rfl | rfl | rfl <;> rfl
 have k:decide ((0:Int)<((Sz a:Nat):Int))=true:=by rcases ha with rfl | rfl | rfl <;> rfl
 have hl:(qM a s t).length<=1000:=by simp only[qM,uR]; exact ba (EC a) (by decide)
 rw[j,aa,k,ag rfl,Dh a ha s t hs y,aa,K9 _ _ hl,aa]
end Go.Gk.Sh
end
section
namespace Go.Gk
def SN:L01:=[65,66,67,68,69,70,71,72,73,74,75,76,77,78,79,80,81,82,83,84,85,86,87,88,89,90,97,98,99,100,101,102,103,104,105,106,107,108,109,110,111,112,113,114,115,116,117,118,119,120,121,122,48,49,50,51,52,53,54,55,56,57,45,95]
def Rn:L01:=[65,66,67,68,69,70,71,72,73,74,75,76,77,78,79,80,81,82,83,84,85,86,87,88,89,90,97,98,99,100,101,102,103,104,105,106,107,108,109,110,111,112,113,114,115,116,117,118,119,120,121,122,48,49,50,51,52,53,54,55,56,57,43,47]
def sg6 (sg:L01) (n:Nat):UInt8:=sg.getD n 0
theorem Ct (a b:Nat) (ha:a<9223372036854775808) (hb:b<9223372036854775808):rt (a:Int) (b:Int)=((a &&& b:Nat):Int):=by
 unfold rt
 rw[BitVec.ofInt_natCast,BitVec.ofInt_natCast,BitVec.toNat_and,BitVec.toNat_ofNat,BitVec.toNat_ofNat,az (by omega),az (by omega)]
 exact PC _ (dw Nat.and_le_left ha)
def num (sg:L01) (c:UInt8):Nat:=sg.findIdx (· == c)
structure SgOk (sg:L01):Prop where
 len:sg.length=64
 inv:∀n,n<64->num sg (sg6 sg n)=n
theorem uI (a n:Nat) (hn:n<=64):jw (a:Int) n=((a / 2^n:Nat):Int):=by
 unfold jw
 rw[bf hn]
 have:((2:Int)^n)=((2^n:Nat):Int):=by simp
 rw[this]
 rw[fT _ (dx _)]; rfl
section
variable {sg:L01} {std:Bool} (hs:SgOk sg) (hsg:(if std then Rn else SN)=sg) (l:L01) (hg:∀c∈l,c∈sg) (hl:l.length<=225000000000000)
include hs hsg hg hl
end
theorem mT {l:L01} {q:Nat} (h:q<l.length):l.getD q 0=l[q]:=by
 rw[an,av h]; rfl
section
variable (l:L01) (hl:l.length<=140737488355328) (q x:Nat)
include hl
end
section
variable (l:L01) (hl:l.length<=65536)
include hl
end
section
variable (a b c:L01) (ha:a.length<=140737488355328) (hb:b.length<=140737488355328) (hc:c.length<=140737488355328)
include ha hb hc
end
end Go.Gk
end
section
namespace Go.Gk.Bn
open Go Go.Gk
def val:L00->Nat
 | []=>0
 | x :: l=>x.toNat+4294967296*val l
theorem jy:val []=0:=rfl
theorem gD (x:UInt32) (l:L00):val (x :: l)=x.toNat+4294967296*val l:=rfl
theorem ej (x:UInt32):x.toNat<4294967296:=x.toNat_lt
theorem ni:∀(a b:L00),val (a++b)=val a+4294967296^a.length*val b
 | [],b=>by simp[val]
 | x :: a,b=>by
  rw[cW,gD,ni a b,gD,bY,bo,aE,<-dn]
  congr 1
  rw[<-aF,aM 4294967296 (4294967296^a.length)]
theorem cv:∀l:L00,val l<4294967296^l.length
 | []=>by simp[val]
 | x :: l=>by
  have j:=cv l
  have k:=ej x
  rw[gD,bY,bo]
  have:val l+1<=4294967296^l.length:=j
  have:=bj 4294967296 this
  omega
theorem gG (l:L00) (k:Nat) (h:k<=l.length):val l=val (l.take k)+4294967296^k*val (l.drop k):=by
 have:=ni (l.take k) (l.drop k)
 rw[cD,aJ,bf h]at this
 exact this
theorem gH:∀k:Nat,val (List.replicate k 0)=0
 | 0=>rfl
 | k+1=>by rw[List.replicate_succ,gD,gH k]; rfl
theorem mK (l:L00) (x:UInt32):val (l++[x])=val l+4294967296^l.length*x.toNat:=by
 rw[ni,gD,jy]; simp
theorem jv:∀(l:L00) (i:Nat) (x:UInt32),i<l.length->val (l.set i x)+4294967296^i*(l.getD i 0).toNat=val l+4294967296^i*x.toNat
 | [],i,x,h=>by simp at h
 | y :: l,0,x,h=>by simp[val]; omega
 | y :: l,i+1,x,h=>by
  have A:=jv l i x (by simpa using h)
  have j:(y :: l).getD (i+1) 0=l.getD i 0:=by simp
  rw[j,List.set_cons_succ,gD,gD,bo]
  have k:4294967296^i*4294967296*(l.getD i 0).toNat=4294967296*(4294967296^i*(l.getD i 0).toNat):=by rw[Nat.mul_right_comm,aM]
  have z:4294967296^i*4294967296*x.toNat=4294967296*(4294967296^i*x.toNat):=by rw[Nat.mul_right_comm,aM]
  rw[k,z]
  omega
def ar (n:Nat):L00:=if h:n=0 then [] else UInt32.ofNat n :: ar (n / 4294967296)
termination_by n
decreasing_by exact ju (eF h) (show 1<4294967296 by decide)
theorem cI:ar 0=[]:=by rw[ar]; simp
theorem kZ {n:Nat} (h:n≠0):ar n=UInt32.ofNat n :: ar (n / 4294967296):=by rw[ar]; simp[h]
theorem ay (n:Nat):val (ar n)=n:=by
 induction n using Nat.strongRecOn with
 | ind n ih=>
  by_cases h:n=0
  ·subst h; rw[cI]; rfl
  ·rw[kZ h,gD,ih _ (ju (eF h) (show 1<4294967296 by decide)),dr]
   omega
def Can (l:L00):Prop:=l.getLast?≠some 0
theorem xB:Can []:=by simp[Can]
theorem KJ {x:UInt32} {l:L00} (h:Can (x :: l)):Can l:=by
 unfold Can at h ⊢
 cases l with
 | nil=>simp
 | cons y l=>simpa using h
theorem nX:∀l:L00,Can l->ar (val l)=l
 | [],_=>cI
 | x :: l,h=>by
  have j:=nX l (KJ h)
  have hx:=ej x
  have k:val (x :: l)≠0:=by
   rw[gD]
   intro A
   have y:x.toNat=0:=by omega
   have z:val l=0:=by omega
   rw[z,cI]at j
   subst j
   have:x=0:=cM.1 y
   subst this
   simp[Can]at h
  rw[kZ k,gD]
  congr 1
  ·apply cM.1
   rw[dr]; omega
  ·rw[show (x.toNat+4294967296*val l) / 4294967296=val l by omega,j]
theorem yu (n:Nat):Can (ar n):=by
 induction n using Nat.strongRecOn with
 | ind n ih=>
  by_cases h:n=0
  ·subst h; rw[cI]; exact xB
  ·have j:=ih _ (ju (eF h) (show 1<4294967296 by decide))
   rw[kZ h]
   by_cases hd:n / 4294967296=0
   ·rw[hd,cI]
    unfold Can
    simp only[List.getLast?_singleton,ne_eq,dR]
    intro k
    have:=da UInt32.toNat k
    rw[dr]at this
    simp at this
    omega
   ·unfold Can at j ⊢
    rw[kZ hd]at j ⊢
    simpa using j
theorem OR {a b:L00} (ha:Can a) (hb:Can b) (h:val a=val b):a=b:=by
 rw[<-nX a ha,<-nX b hb,h]
theorem yj (l:L00) (k:Nat):val (l++List.replicate k 0)=val l:=by rw[ni,gH]; simp
theorem AI {l:L00} {n:Nat} (h:val l=n) (hc:Can l):l=ar n:=by rw[<-h,nX l hc]
theorem bu {n k:Nat} (h:n<4294967296^k):(ar n).length<=k:=by
 induction k generalizing n with
 | zero=>simp at h; subst h; rw[cI]; simp
 | succ k ih=>
  by_cases h0:n=0
  ·subst h0; rw[cI]; simp
  ·rw[kZ h0,bY]
   have:=ih (n:=n / 4294967296) (by rw[bo]at h; exact Nat.div_lt_of_lt_mul (by rwa [aM]at h))
   omega
theorem ss {n k:Nat} (h:4294967296^k<=n):k<(ar n).length:=by
 have:=cv (ar n)
 rw[ay]at this
 rcases bX k (ar n).length with j | j
 ·exact j
 ·have:=aZ (show 0<4294967296 by decide) j
  omega
theorem tt {a b:L00} (hb:Can b) (h:a.length<b.length):val a<val b:=by
 have z:=cv a
 have j:b≠[]:=by rintro rfl; simp at h
 have hd:b=b.dropLast++[b.getLast j]:=(List.dropLast_concat_getLast j).symm
 have hl:b.getLast j≠0:=fun k=>hb (by rw[List.getLast?_eq_some_getLast j,k])
 have y:1<=(b.getLast j).toNat:=by
  rcases bQ (b.getLast j).toNat with k | k
  ·exact absurd (cM.1 k) hl
  ·exact k
 rw[hd,mK,List.length_dropLast]
 have A:=aZ (show 0<4294967296 by decide) (show a.length<=b.length - 1 by omega)
 have B:=bj (4294967296^(b.length - 1)) y
 omega
end Go.Gk.Bn
end
section
namespace Go.Gk.Bn
theorem At {g r j k V' h y A K:Nat} (hh:h=g*j+r) (N:A<K)
  (z:4294967296<=g\/r*4294967296+y<g*k) (B:(h*4294967296+y)*K+A<4294967296*((j*4294967296+k)*K+V')) :
  (h*4294967296+y)*K+A<g*((j*4294967296+k)*K+V'):=by
 rcases z with z | z
 ·exact aW B (aT _ z)
 ·have G:h*4294967296+y+1<=g*(j*4294967296+k):=by
   subst hh
   have I:g*(j*4294967296+k)=g*j*4294967296+g*k:=by rw[aE,<-aF]
   rw[I,aU]
   omega
  have J:(h*4294967296+y+1)*K<=g*(j*4294967296+k)*K:=aT _ G
  rw[aU,cy]at J
  rw[aE,<-aF]
  omega
theorem Hw {g r j k V' h y z K:Nat} (hh:h=g*j+r) (G:V'<K) (I:1<=j)
  (hg:g<4294967296) (J:g*k<=r*4294967296+y) :
  g*((j*4294967296+k)*K+V')<(h*4294967296+y)*K+z+((j*4294967296+k)*K+V'):=by
 have A:g*(j*4294967296+k)<=h*4294967296+y:=by
  subst hh
  have B:g*(j*4294967296+k)=g*j*4294967296+g*k:=by rw[aE,<-aF]
  rw[B,aU]
  omega
 have N:g*(j*4294967296+k)*K<=(h*4294967296+y)*K:=aT _ A
 have O:g*V'<=4294967295*V':=aT _ (by omega)
 have R:4294967296*K<=(j*4294967296+k)*K:=aT _ (by omega)
 rw[aE,<-aF]
 omega
end Go.Gk.Bn
end
section
namespace Go.Gk.Bn
open Go Go.Gk
theorem jA (c:UInt64):c.toUInt32.toNat=c.toNat%4294967296:=UInt64.toNat_toUInt32 c
theorem qc (c:UInt64):(bb c 32).toNat=c.toNat / 4294967296:=by rw[i9]; rfl
theorem EJ (c:UInt64):(bb c 32).toUInt32.toNat=c.toNat / 4294967296:=by
 rw[jA,qc,az]
 have:=c.toNat_lt
 omega
theorem Kj (c:UInt64):(bb c 63).toNat=c.toNat / 9223372036854775808:=by rw[i9]; rfl
theorem di (x:UInt32):x.toUInt64.toNat=x.toNat:=UInt32.toNat_toUInt64 x
theorem oG (c:UInt64):c.toNat=c.toUInt32.toNat+4294967296*(bb c 32).toNat:=by rw[jA,qc]; omega
theorem lh (a b:UInt64) (h:a.toNat+b.toNat<18446744073709551616):(a+b).toNat=a.toNat+b.toNat:=by rw[fQ]; omega
theorem sW (a b:UInt64) (h:a.toNat*b.toNat<18446744073709551616):(a*b).toNat=a.toNat*b.toNat:=by rw[ja]; omega
theorem mT (x:UInt32):x.toNat<=4294967295:=by have:=ej x; omega
def pad (x:L00) (n:Nat):L00:=x++List.replicate (n - x.length) 0
theorem mf {x:L00} {n:Nat} (h:x.length<=n):(pad x n).length=n:=by simp[pad]; omega
theorem xj (n:Nat):pad [] n=List.replicate n 0:=by simp[pad]
theorem sV {x:L00} {n:Nat} (h:x.length<n) (v:UInt32):(pad x n).set x.length v=pad (x++[v]) n:=by
 unfold pad
 rw[dX _ _ (ax _),Nat.sub_self]
 obtain⟨k,j⟩:∃k,n - x.length=k+1:=⟨n - x.length - 1,by omega⟩
 rw[j,List.replicate_succ,iJ,aN]
 congr 2
 simp; omega
theorem qp (x:L00) (n:Nat):val (pad x n)=val x:=yj x _
theorem iO {a:L00} {i:Nat} (h:a.length<=i):a.getD i 0=0:=by
 rw[an,c9 h]; rfl
theorem tX {a:L00} {i:Nat} (h:i<a.length):a.take (i+1)=a.take i++[a.getD i 0]:=by
 rw[dT h]
 congr 2
 rw[an,av h]; rfl
theorem cK (a:L00) (i:Nat):val (a.take (i+1))=val (a.take i)+4294967296^i*(a.getD i 0).toNat:=by
 by_cases h:i<a.length
 ·rw[tX h,mK,aJ,bf (by omega)]
 ·rw[aA (by omega),aA (by omega),iO (by omega)]; simp
theorem pC {a:L00} {n:Nat} (hn:n<=a.length) (z:∀k,n<=k->a.getD k 0=0) (y:n=0\/a.getD (n - 1) 0≠0):a.take n=ar (val a):=by
 have hd:a.drop n=List.replicate (a.length - n) 0:=by
  refine gC (by simp) fun i j A=>?_
  have:=z (n+i) (by omega)
  rw[an,av (by simp at j; omega)]at this
  rw[List.getElem_drop,gF]
  exact this
 refine AI ?_ ?_
 ·conv=>rhs; rw[<-cD n a,hd,yj]
 ·unfold Can
  rcases y with rfl | y
  ·simp
  ·intro j
   by_cases h0:n=0
   ·subst h0; simp at j
   ·have hl:(a.take n).length=n:=by simp; omega
    rw[List.getLast?_eq_getElem?,hl,List.getElem?_take_of_lt (by omega)]at j
    rw[an,j]at y
    exact y rfl
theorem yd {ρ:Type} {f:Int->Option (Int⊕ρ)} (a:L00) (X:Int->Option ρ) (ha:a.length<=4611686018427387904)
  (hf:∀n:Nat,n<=a.length->f (n:Int)=if n≠0/\a.getD (n - 1) 0=0 then some (.inl ((n - 1:Nat):Int)) else bc (X (n:Int))) :
  ∃n,n<=a.length/\a.take n=ar (val a)/\loop f (a.length:Int)=X (n:Int):=by
 have y:∀n:Nat,n<=a.length->(∀k,n<=k->a.getD k 0=0)->∃m,m<=a.length/\a.take m=ar (val a)/\loop f (n:Int)=X (m:Int):=by
  intro n
  induction n with
  | zero=>
   intro hn hz
   refine⟨0,hn,pC hn hz (.inl rfl),?_⟩
   have:=hf 0 hn
   rw[ae (by simp)]at this
   rw[nJ,this]
   cases X ((0:Nat):Int) <;> rfl
  | succ n ih=>
   intro hn hz
   have h:=hf (n+1) hn
   rw[eG]at h
   by_cases h0:a.getD n 0=0
   ·rw[ag ⟨by omega,h0⟩]at h
    obtain⟨m,z,A,B⟩:=ih (by omega) fun k j=>by
     rcases Nat.eq_or_lt_of_le j with rfl | j
     ·exact h0
     ·exact hz k j
    exact⟨m,z,A,(bn h).trans B⟩
   ·rw[ae (fun hc=>h0 hc.2)]at h
    refine⟨n+1,hn,pC hn hz (.inr (by simpa using h0)),?_⟩
    rw[nJ,h]
    cases X ((n+1:Nat):Int) <;> rfl
 exact y a.length (ax _) fun k j=>iO j
end Go.Gk.Bn
end
section
namespace Go.Gk.Bn
open Go Go.Gk Go.Gk.Sh
theorem lH (a:L00) (ha:a.length<=4611686018427387904):F.Tb a=some (ar (val a)):=by
 unfold F.Tb
 obtain⟨n,hn,k,hl⟩:=yd (f:=F.Z5 a) a (fun j=>grd (0<=(j:Int)/\(j:Int).toNat<=a.length) <| some (a.take ((j:Int).toNat))) ha (fun n hn=>by
  unfold F.Z5 F.aa6
  by_cases h0:n=0
  ·subst h0
   rw[ae (by simp),ae (by simp)]
   rfl
  ·have y:wI ((n:Int) - 1)=((n - 1:Nat):Int):=by rw[aC (by omega) (by omega)]; omega
   rw[ag (ai (by omega)),y,bg (show n - 1<a.length by omega) 0,aa]
   by_cases hz:a.getD (n - 1) 0=0
   ·rw[ag (show n≠0/\a.getD (n - 1) 0=0 from⟨h0,hz⟩),ag (show (a.getD (n - 1) 0 == 0)=true from by rw[hz]; rfl)]; rfl
   ·rw[ae (show ¬(n≠0/\a.getD (n - 1) 0=0) from fun h=>hz h.2),ae (show ¬(a.getD (n - 1) 0 == 0)=true from fun h=>hz (eq_of_beq h))])
 rw[hl,grd_true _ ⟨by omega,by rw[am]; exact hn⟩,am,k]
theorem nG (x:UInt64):F.Uj x=some (ar x.toNat):=by
 unfold F.Uj
 rw[lH _ (by simp),aa,gD,gD,jy,cp,bm,EJ,<-qc,<-oG]
theorem qV {x:L00} {n i:Nat} (hx:x.length<=n) (h:i<n):∃u,aw (pad x n) (i:Int)=some u:=⟨_,bg (by rw[mf hx]; exact h) 0⟩
def nC (a b:L00) (x:L00×UInt64) (i:Nat):L00×UInt64:=
 (x.1++[(x.2+(a.getD i 0).toUInt64+(b.getD i 0).toUInt64).toUInt32],bb (x.2+(a.getD i 0).toUInt64+(b.getD i 0).toUInt64) 32)
theorem qK {a b:L00} {x:L00×UInt64} {i:Nat} (j:x.1.length=i) (y:val x.1+4294967296^i*x.2.toNat=val (a.take i)+val (b.take i)) (z:x.2.toNat<=1) :
  (nC a b x i).1.length=i+1/\val (nC a b x i).1+4294967296^(i+1)*(nC a b x i).2.toNat=val (a.take (i+1))+val (b.take (i+1))/\(nC a b x i).2.toNat<=1:=by
 have ha:=ej (a.getD i 0); have hb:=ej (b.getD i 0)
 obtain⟨s,hs⟩:∃s,x.2+(a.getD i 0).toUInt64+(b.getD i 0).toUInt64=s:=⟨_,rfl⟩
 have k:s.toNat=x.2.toNat+(a.getD i 0).toNat+(b.getD i 0).toNat:=by
  rw[<-hs,lh _ _ (by rw[lh _ _ (by rw[di]; omega),di,di]; omega),lh _ _ (by rw[di]; omega),di,di]
 unfold nC
 rw[hs]
 refine⟨by simp[j],?_,by simp only[qc]; omega⟩
 have e:=oG s
 simp only
 rw[mK,j,cK,cK,bo,aF]
 have:4294967296^i*s.toNat=4294967296^i*s.toUInt32.toNat+4294967296^i*(4294967296*(bb s 32).toNat):=by rw[<-aE,<-e]
 rw[k,aE,aE]at this
 omega
theorem Je (a b:L00) (A:b.length<=a.length) (ha:a.length<=70368744177663):loop (F.WK a b) (0,0,pad [] (a.length+1))=some (ar (val a+val b)):=by
 have e:=eN (f:=F.WK a b) (fun (x:L00×UInt64) i=>(x.2,(i:Int),pad x.1 (a.length+1)))
  (fun i x=>x.1.length=i/\val x.1+4294967296^i*x.2.toNat=val (a.take i)+val (b.take i)/\x.2.toNat<=1) (nC a b) 0 a.length
  (X:=fun x=>F.Tb ((pad x.1 (a.length+1)).set a.length x.2.toUInt32))
  (fun i x _ hi hx=>by
   obtain⟨j,k,z⟩:=hx
   refine⟨?_,qK j k z⟩
   have B:wI ((i:Int)+1)=((i+1:Nat):Int):=by rw[aC (by omega) (by omega)]; rfl
   obtain⟨u,hu⟩:=qV (x:=x.1) (n:=a.length+1) (i:=i) (by omega) (by omega)
   have hK:∀s:UInt64,s=x.2+(a.getD i 0).toUInt64+(b.getD i 0).toUInt64->F.X0 (i:Int) (pad x.1 (a.length+1)) s=some (.inl ((nC a b x i).2,((i+1:Nat):Int),pad (nC a b x i).1 (a.length+1))):=by
    rintro s rfl
    unfold F.X0
    dsimp only
    rw[hu,aa,aD,B,am]
    have:=sV (x:=x.1) (n:=a.length+1) (by omega) (x.2+(a.getD i 0).toUInt64+(b.getD i 0).toUInt64).toUInt32
    rw[j]at this
    rw[this]; rfl
   unfold F.WK
   dsimp only
   rw[ag (ai (by omega)),bg hi 0,aa]
   by_cases hb:i<b.length
   ·rw[ag (ai (by omega)),bg hb 0,aa,aD,hK _ rfl]
   ·rw[ae (by simp only[ak]; omega),hK _ (by rw[iO (a:=b) (i:=i) (by omega)]; exact (UInt64.add_zero _).symm)])
  (fun x hx=>by
   obtain⟨u,hu⟩:=qV (x:=x.1) (n:=a.length+1) (i:=a.length) (by omega) (by omega)
   unfold F.WK
   dsimp only
   rw[ae (by simp),hu,aa,aD,am]
   cases F.Tb ((pad x.1 (a.length+1)).set a.length x.2.toUInt32) <;> rfl)
  a.length 0 ([],0) (ax _) (by omega) ⟨rfl,by simp[val],by simp⟩
 refine e.trans ?_
 obtain⟨j,k,z⟩:=fG (fun i (x:L00×UInt64)=>x.1.length=i/\val x.1+4294967296^i*x.2.toNat=val (a.take i)+val (b.take i)/\x.2.toNat<=1) (nC a b)
  (fun i x hx=>qK hx.1 hx.2.1 hx.2.2) a.length 0 ([],0) ⟨rfl,by simp[val],by simp⟩
 obtain⟨y,G⟩:∃y,(List.range' 0 a.length).foldl (nC a b) ([],0)=y:=⟨_,rfl⟩
 rw[G]at j k z ⊢
 rw[bk]at j k
 rw[cZ,aA A]at k
 have hp:=sV (x:=y.1) (n:=a.length+1) (by omega) y.2.toUInt32
 rw[j]at hp
 rw[hp,lH _ (by rw[mf (by simp; omega)]; omega),qp,mK,j,jA,az (by omega),k]
theorem vC (a b:L00) (ha:a.length<=70368744177663) (hb:b.length<=70368744177663):F.VB a b=some (ar (val a+val b)):=by
 have hK:∀a b:L00,b.length<=a.length->a.length<=70368744177663->F.X8 (a,b)=some (ar (val a+val b)):=by
  intro a b j k
  unfold F.X8
  dsimp only
  rw[aC (by omega) (by omega),iK (by omega),aa]
  have:(((a.length:Int)+1).toNat)=a.length+1:=by omega
  rw[this,<-xj,Je a b j k]
 unfold F.VB
 by_cases h:a.length<b.length
 ·rw[ag (ai (by omega)),hK b a (by omega) hb,cw]
 ·rw[ae (by simp only[ak]; omega),hK a b (by omega) ha]
theorem I6 (u v:UInt32) (c:UInt64) (hc:c.toNat<=1):((u.toUInt64 - c) - v.toUInt64).toUInt32.toNat+c.toNat+v.toNat=u.toNat+4294967296*(bb ((u.toUInt64 - c) - v.toUInt64) 63).toNat/\(bb ((u.toUInt64 - c) - v.toUInt64) 63).toNat<=1:=by
 have hu:=ej u; have j:=ej v
 rw[jA,Kj,fj,fj,di,di]
 omega
def mQ (a b:L00) (x:L00×UInt64) (i:Nat):L00×UInt64:=
 (x.1++[((a.getD i 0).toUInt64 - x.2 - (b.getD i 0).toUInt64).toUInt32],bb ((a.getD i 0).toUInt64 - x.2 - (b.getD i 0).toUInt64) 63)
theorem A0 {a b:L00} {x:L00×UInt64} {i:Nat} (j:x.1.length=i) (A:val x.1+val (b.take i)=val (a.take i)+4294967296^i*x.2.toNat) (z:x.2.toNat<=1) :
  (mQ a b x i).1.length=i+1/\val (mQ a b x i).1+val (b.take (i+1))=val (a.take (i+1))+4294967296^(i+1)*(mQ a b x i).2.toNat/\(mQ a b x i).2.toNat<=1:=by
 obtain⟨k,y⟩:=I6 (a.getD i 0) (b.getD i 0) x.2 z
 unfold mQ
 obtain⟨s,hs⟩:∃s,(a.getD i 0).toUInt64 - x.2 - (b.getD i 0).toUInt64=s:=⟨_,rfl⟩
 rw[hs]at k y ⊢
 refine⟨by simp[j],?_,y⟩
 simp only
 rw[mK,j,cK,cK,bo,aF]
 have:4294967296^i*(s.toUInt32.toNat+x.2.toNat+(b.getD i 0).toNat)=4294967296^i*((a.getD i 0).toNat+4294967296*(bb s 63).toNat):=by rw[k]
 rw[aE,aE,aE]at this
 omega
theorem CA (a b:L00) (A:b.length<=a.length) (J:val b<=val a) (ha:a.length<=70368744177664):F.Vx a b=some (ar (val a - val b)):=by
 unfold F.Vx
 rw[iK (by omega),aa,am,<-xj]
 have e:=eN (f:=F.Zu a b) (fun (x:L00×UInt64) i=>(x.2,(i:Int),pad x.1 a.length))
  (fun i x=>x.1.length=i/\val x.1+val (b.take i)=val (a.take i)+4294967296^i*x.2.toNat/\x.2.toNat<=1) (mQ a b) 0 a.length
  (X:=fun x=>F.Tb (pad x.1 a.length))
  (fun i x _ hi hx=>by
   obtain⟨k,j,z⟩:=hx
   refine⟨?_,A0 k j z⟩
   have G:wI ((i:Int)+1)=((i+1:Nat):Int):=by rw[aC (by omega) (by omega)]; rfl
   obtain⟨u,hu⟩:=qV (x:=x.1) (n:=a.length) (i:=i) (by omega) (by omega)
   have hK:∀s:UInt64,s=(a.getD i 0).toUInt64 - x.2 - (b.getD i 0).toUInt64->F.XJ (i:Int) (pad x.1 a.length) s=some (.inl ((mQ a b x i).2,((i+1:Nat):Int),pad (mQ a b x i).1 a.length)):=by
    rintro s rfl
    unfold F.XJ
    dsimp only
    rw[hu,aa,aD,G,am]
    have:=sV (x:=x.1) (n:=a.length) (by omega) ((a.getD i 0).toUInt64 - x.2 - (b.getD i 0).toUInt64).toUInt32
    rw[k]at this
    rw[this]; rfl
   unfold F.Zu
   dsimp only
   rw[ag (ai (by omega)),bg hi 0,aa]
   by_cases hb:i<b.length
   ·rw[ag (ai (by omega)),bg hb 0,aa,aD,hK _ rfl]
   ·rw[ae (by simp only[ak]; omega),hK _ (by rw[iO (a:=b) (i:=i) (by omega)]; exact (UInt64.sub_zero _).symm)])
  (fun x hx=>by
   unfold F.Zu
   dsimp only
   rw[ae (by simp)]
   cases F.Tb (pad x.1 a.length) <;> rfl)
  a.length 0 ([],0) (ax _) (by omega) ⟨rfl,by simp[val],by simp⟩
 refine e.trans ?_
 obtain⟨k,j,z⟩:=fG (fun i (x:L00×UInt64)=>x.1.length=i/\val x.1+val (b.take i)=val (a.take i)+4294967296^i*x.2.toNat/\x.2.toNat<=1) (mQ a b)
  (fun i x hx=>A0 hx.1 hx.2.1 hx.2.2) a.length 0 ([],0) ⟨rfl,by simp[val],by simp⟩
 obtain⟨y,I⟩:∃y,(List.range' 0 a.length).foldl (mQ a b) ([],0)=y:=⟨_,rfl⟩
 rw[I]at k j z ⊢
 rw[bk]at k j
 rw[cZ,aA A]at j
 have B:=cv y.1
 rw[k]at B
 have hc:y.2.toNat=0:=by
  rcases bQ y.2.toNat with h | h
  ·exact h
  ·have:y.2.toNat=1:=by omega
   rw[this,cE]at j
   omega
 rw[hc,cp,bm]at j
 rw[lH _ (by rw[mf (by omega)]; omega),qp,show val y.1=val a - val b by omega]
theorem G5 (a b:UInt32):a.toNat*b.toNat<=4294967295*4294967295:=ef (mT a) (mT b)
theorem I3 (c:UInt64) (u v r:UInt32) (hc:c.toNat<=4294967295):(c+(u.toUInt64*v.toUInt64+r.toUInt64)).toNat=c.toNat+(u.toNat*v.toNat+r.toNat):=by
 have y:=G5 u v; have z:=mT r
 have j:(u.toUInt64*v.toUInt64).toNat=u.toNat*v.toNat:=by rw[sW _ _ (by rw[di,di]; omega),di,di]
 have k:(u.toUInt64*v.toUInt64+r.toUInt64).toNat=u.toNat*v.toNat+r.toNat:=by rw[lh _ _ (by rw[j,di]; omega),j,di]
 rw[lh _ _ (by rw[k]; omega),k]
theorem io {l:L00} {i k:Nat} {x:UInt32} (h:i≠k):(l.set i x).getD k 0=l.getD k 0:=by
 rw[an,List.getElem?_set_ne h,an]
def Bx (u:UInt32) (b:L00) (i:Nat) (x:UInt64×L00) (j:Nat):UInt64×L00:=
 (bb (x.1+(u.toUInt64*(b.getD j 0).toUInt64+(x.2.getD (i+j) 0).toUInt64)) 32,x.2.set (i+j) (x.1+(u.toUInt64*(b.getD j 0).toUInt64+(x.2.getD (i+j) 0).toUInt64)).toUInt32)
def zV (u:UInt32) (b:L00) (i N:Nat) (r0:L00) (j:Nat) (x:UInt64×L00):Prop:=
 x.2.length=N/\(∀k,i+b.length<=k->x.2.getD k 0=0)/\val x.2+4294967296^(i+j)*x.1.toNat=val r0+4294967296^i*(u.toNat*val (b.take j))/\x.1.toNat<=4294967295
theorem AH {u:UInt32} {b:L00} {i N:Nat} {y:L00} {j:Nat} {x:UInt64×L00} (R:i+b.length<N) (U:j<b.length) (h:zV u b i N y j x):zV u b i N y (j+1) (Bx u b i x j):=by
 obtain⟨A,B,V,G⟩:=h
 have e:=I3 x.1 u (b.getD j 0) (x.2.getD (i+j) 0) G
 unfold Bx
 obtain⟨s,hs⟩:∃s,x.1+(u.toUInt64*(b.getD j 0).toUInt64+(x.2.getD (i+j) 0).toUInt64)=s:=⟨_,rfl⟩
 rw[hs]at e ⊢
 have z:=oG s
 have hb:=G5 u (b.getD j 0); have X:=mT (x.2.getD (i+j) 0)
 refine⟨by simpa using A,fun k I=>?_,?_,by simp only[qc]; omega⟩
 ·simp only
  rw[io (by omega)]; exact B k I
 ·simp only
  have Y:=jv x.2 (i+j) s.toUInt32 (by omega)
  rw[cK,aE,aE]
  have J:4294967296^i*(u.toNat*(4294967296^j*(b.getD j 0).toNat))=4294967296^(i+j)*(u.toNat*(b.getD j 0).toNat):=by
   rw[bU,aF,dF u.toNat]
  have O:4294967296^(i+j)*s.toNat=4294967296^(i+j)*s.toUInt32.toNat+4294967296^(i+(j+1))*(bb s 32).toNat:=by
   rw[<-dn,bo,aF,<-aE,<-z]
  rw[e,aE,aE]at O
  rw[J]
  omega
theorem Hh (a b:L00) (i:Nat) (r:L00) (hi:i<a.length) (hl:r.length=a.length+b.length) (hz:∀k,i+b.length<=k->r.getD k 0=0) (hs:a.length+b.length<=70368744177664) :
  ∃z,loop (F.Wq a b (i:Int)) (0,0,r)=some (.inl (((i+1:Nat):Int),z))/\z.length=a.length+b.length/\(∀k,i+1+b.length<=k->z.getD k 0=0)/\val z=val r+4294967296^i*((a.getD i 0).toNat*val b):=by
 have R:zV (a.getD i 0) b i (a.length+b.length) r 0 (0,r):=⟨hl,hz,by simp[val],by simp⟩
 have e:=eN (f:=F.Wq a b (i:Int)) (fun (x:UInt64×L00) j=>(x.1,(j:Int),x.2)) (fun j x=>j<=b.length->zV (a.getD i 0) b i (a.length+b.length) r j x) (Bx (a.getD i 0) b i) 0 b.length
  (X:=fun x=>some (.inl (((i+1:Nat):Int),x.2.set (i+b.length) x.1.toUInt32)))
  (fun j x _ G hx=>by
   have hx:=hx (by omega)
   refine⟨?_,fun _=>AH (by omega) G hx⟩
   obtain⟨I,A,B,U⟩:=hx
   have J:wI ((i:Int)+(j:Int))=((i+j:Nat):Int):=by rw[aC (by omega) (by omega)]; rfl
   have w2:wI ((j:Int)+1)=((j+1:Nat):Int):=by rw[aC (by omega) (by omega)]; rfl
   unfold F.Wq
   dsimp only
   rw[ag (ai (by omega)),bg hi 0,aa,bg G 0,aa,J,bg (show i+j<x.2.length by omega) 0,aa,aD,aa,aD,am,w2]
   rfl)
  (fun x hx=>by
   obtain⟨I,A,B,U⟩:=hx (ax _)
   have J:wI ((i:Int)+(b.length:Int))=((i+b.length:Nat):Int):=by rw[aC (by omega) (by omega)]; rfl
   have w2:wI ((i:Int)+1)=((i+1:Nat):Int):=by rw[aC (by omega) (by omega)]; rfl
   unfold F.Wq
   dsimp only
   rw[ae (by simp),J,bg (show i+b.length<x.2.length by omega) 0,aa,aD,am,w2]
   rfl)
  b.length 0 (0,r) (ax _) (by omega) (fun _=>R)
 have N:=fG (fun j (x:UInt64×L00)=>j<=b.length->zV (a.getD i 0) b i (a.length+b.length) r j x) (Bx (a.getD i 0) b i) (fun j x hx=>fun G=>AH (by omega) (by omega) (hx (by omega))) b.length 0 (0,r) (fun _=>R)
 obtain⟨y,V⟩:∃y,(List.range' 0 b.length).foldl (Bx (a.getD i 0) b i) (0,r)=y:=⟨_,rfl⟩
 rw[V]at N e
 rw[bk]at N
 obtain⟨I,A,B,U⟩:=N (ax _)
 refine⟨_,e,by simpa using I,fun k Y=>?_,?_⟩
 ·rw[io (by omega)]; exact A k (by omega)
 ·have O:=jv y.2 (i+b.length) y.1.toUInt32 (by omega)
  rw[A _ (ax _)]at O
  have:(0:UInt32).toNat=0:=rfl
  rw[this,cp,bm]at O
  rw[cZ]at B
  rw[O,jA,az (by omega),B]
theorem Iv (a b:L00) (hs:a.length+b.length<=70368744177664):F.WR a b=some (ar (val a*val b)):=by
 unfold F.WR
 have j:F.WO a b true=some []:=by unfold F.WO; rw[ag rfl]
 by_cases ha:a.length=0
 ·rw[ag (by simp[ha]),j,bp ha,jy,fu,cI]
 ·rw[ae (by simpa using fun h=>ha (by rw[h]; rfl))]
  by_cases hb:b.length=0
  ·rw[show ((b.length:Int) == 0)=true by simp[hb],j,bp hb,jy,cp,cI]
  ·rw[show ((b.length:Int) == 0)=false by simpa using fun h=>hb (by rw[h]; rfl)]
   unfold F.WO
   rw[ae (by decide),aC (by omega) (by omega),iK (by omega),aa,show ((a.length:Int)+(b.length:Int)).toNat=a.length+b.length by omega]
   have z:∀(k i:Nat) (r:L00),i+k=a.length->r.length=a.length+b.length->(∀k,i+b.length<=k->r.getD k 0=0)->val r=val (a.take i)*val b->loop (F.Ws a b) ((i:Int),r)=some (ar (val a*val b)):=by
    intro k
    induction k with
    | zero=>
     intro i r h A B y
     have:i=a.length:=by omega
     subst this
     refine bD ?_
     unfold F.Ws
     dsimp only
     rw[ae (by simp),lH _ (by omega),aa,y,cZ]; rfl
    | succ k ih=>
     intro i r h A B y
     obtain⟨G,J,N,O,R⟩:=Hh a b i r (by omega) A B hs
     have I:F.Ws a b ((i:Int),r)=some (.inl (((i+1:Nat):Int),G)):=by
      unfold F.Ws
      dsimp only
      rw[ag (ai (by omega)),J]
     rw[bn I]
     refine ih (i+1) G (by omega) N (fun k U=>O k (by omega)) ?_
     rw[R,y,cK,aU,aF]
   exact z a.length 0 _ (by omega) (by simp) (fun k _=>by
    rw[an,gt]; split <;> rfl) (by rw[gH]; simp[val])
def eD (a b:Nat):Int:=if a<b then -1 else if a=b then 0 else 1
theorem rP (a:L00) (k:Nat) (h:k<a.length):val a=val (a.take k)+4294967296^k*((a.getD k 0).toNat+4294967296*val (a.drop (k+1))):=by
 rw[gG a k (by omega),aS h,gD]
 congr 4
 rw[an,av h]; rfl
theorem yb {a b:L00} {k:Nat} (ha:k<a.length) (hb:k<b.length) (hd:a.drop (k+1)=b.drop (k+1)) (z:(a.getD k 0).toNat<(b.getD k 0).toNat):val a<val b:=by
 rw[rP a k ha,rP b k hb,hd]
 have j:=cv (a.take k)
 rw[aJ,bf (by omega)]at j
 have y:4294967296^k*((a.getD k 0).toNat+4294967296*val (b.drop (k+1))+1)<=4294967296^k*((b.getD k 0).toNat+4294967296*val (b.drop (k+1))):=bj _ (by omega)
 rw[aE,cE]at y
 omega
theorem u6 (a b:L00) (ha:Can a) (hb:Can b) (hl:a.length<=4611686018427387904) (I:b.length<=4611686018427387904):F.Ve a b=some (eD (val a) (val b)):=by
 unfold F.Ve eD
 by_cases h:a.length=b.length
 ·rw[ae (by simp[h]),aD]
  have y:∀k,k<=a.length->a.drop k=b.drop k->loop (F.VP a b) ((k:Int) - 1)=some (if val a<val b then -1 else if val a=val b then 0 else 1):=by
   intro k
   induction k with
   | zero=>
    intro _ hd
    have:a=b:=by simpa using hd
    subst this
    rw[ae (by omega),ag rfl]
    exact bD rfl
   | succ k ih=>
    intro J hd
    have j:k<b.length:=by omega
    have A:(((k+1:Nat):Int)) - 1=(k:Int):=by omega
    have B:wI ((k:Int) - 1)=(k:Int) - 1:=aC (by omega) (by omega)
    rw[A]
    by_cases he:a.getD k 0=b.getD k 0
    ·have hs:F.VP a b (k:Int)=some (.inl ((k:Int) - 1)):=by
      unfold F.VP
      rw[ag (ai (by omega)),bg (show k<a.length by omega) 0,aa,bg j 0,aa,ae (by simp only[he,dh]; simp),B]; rfl
     rw[bn hs]
     refine ih (by omega) ?_
     rw[aS (show k<a.length by omega),aS j,hd]
     congr 1
     rw[an,an,av (show k<a.length by omega),av j]at he
     exact he
    ·have hs:F.VP a b (k:Int)=if decide (a.getD k 0<b.getD k 0)=true then some (.inr (-1)) else some (.inr 1):=by
      unfold F.VP
      rw[ag (ai (by omega)),bg (show k<a.length by omega) 0,aa,bg j 0,aa,ag (by simpa using he),aa,aa]
      split <;> rfl
     by_cases hlt:a.getD k 0<b.getD k 0
     ·rw[ag (ai hlt)]at hs
      rw[bD hs,ag (yb (by omega) j hd (dv.1 hlt))]
     ·rw[ae (by simpa using hlt)]at hs
      have z:(b.getD k 0).toNat<(a.getD k 0).toNat:=by
       have N:¬(a.getD k 0).toNat<(b.getD k 0).toNat:=fun h=>hlt (dv.2 h)
       have G:(a.getD k 0).toNat≠(b.getD k 0).toNat:=fun h=>he (cM.1 h)
       omega
      have:=yb j (show k<a.length by omega) hd.symm z
      rw[bD hs,ae (by omega),ae (by omega)]
  have w0:wI ((a.length:Int) - 1)=(a.length:Int) - 1:=aC (by omega) (by omega)
  rw[w0]
  exact y a.length (ax _) (by rw[eH,bL (by omega)])
 ·rw[ag (by simpa using fun G=>h (by omega))]
  by_cases hlt:a.length<b.length
  ·rw[ag (ai (by omega)),ag (tt hb hlt)]
  ·have:=tt ha (show b.length<a.length by omega)
   rw[ae (by simp only[ak]; omega),ae (by omega),ae (by omega)]
theorem BT (x:UInt64) (y:UInt32) (hx:x.toNat<=4294967295):((c8 x 32) ||| y.toUInt64).toNat=4294967296*x.toNat+y.toNat:=by
 have j:=ej y
 have k:(c8 x 32).toNat=x.toNat*4294967296:=by
  rw[kM,show min 32 64=32 from rfl,az (by omega)]
 rw[jr,k,di,sB 32 (by omega) j]
 omega
theorem vm (x:UInt32) (y:UInt32):(x.toUInt64 ||| (c8 y.toUInt64 32)).toNat=x.toNat+4294967296*y.toNat:=by
 have hx:=ej x; have j:=ej y
 rw[UInt64.or_comm,BT _ _ (by rw[di]; omega),di]; omega
theorem Bb (a:L00) (h:a.length<=2):∃x,F.Wb a=some x/\x.toNat=val a:=by
 unfold F.Wb
 match a,h with
 | [],_=>exact⟨0,rfl,rfl⟩
 | [u],_=>exact⟨u.toUInt64,rfl,by rw[di]; simp[val]⟩
 | [u,v],_=>exact⟨u.toUInt64 ||| (c8 v.toUInt64 32),rfl,by rw[vm]; simp[val]⟩
theorem JV (a:L00) (d:UInt32) (hd:d≠0) (hl:a.length<=70368744177664):∃r,F.Yq a d=some (ar (val a / d.toNat),r)/\r.toNat=val a%d.toNat:=by
 have j:0<d.toNat:=by
  rcases bQ d.toNat with h | h
  ·exact absurd (cM.1 h) hd
  ·exact h
 have ab:=ej d
 have z:¬d.toUInt64=0:=by
  intro h
  have:=da UInt64.toNat h
  rw[di]at this
  simp at this
  omega
 have G:∀(k:Nat) (q:L00) (r:UInt64),k<=a.length->q.length=a.length->r.toNat<d.toNat->val (a.drop k)=d.toNat*val (q.drop k)+r.toNat ->
   ∃I,loop (F.W9 a d) (r,(k:Int) - 1,q)=some (ar (val a / d.toNat),I)/\I.toNat=val a%d.toNat:=by
  intro k
  induction k with
  | zero=>
   intro q r _ J B y
   refine⟨r.toUInt32,bD ?_,?_⟩
   ·unfold F.W9
    dsimp only
    rw[ae (by decide),lH _ (by omega),aa]
    simp only[dQ]at y
    have:val q=val a / d.toNat:=by
     rw[y,cw,g9 _ _ j,cA B,bk]
    rw[this]; rfl
   ·simp only[dQ]at y
    rw[jA,az (by omega),y,Nat.mul_add_mod,az B]
  | succ k ih=>
   intro q r hk J B y
   have Y:(((k+1:Nat):Int)) - 1=(k:Int):=by omega
   have Z:wI ((k:Int) - 1)=(k:Int) - 1:=aC (by omega) (by omega)
   have N:r.toNat<=4294967295:=by omega
   obtain⟨x,hx⟩:∃x,(c8 r 32) ||| (a.getD k 0).toUInt64=x:=⟨_,rfl⟩
   have O:x.toNat=4294967296*r.toNat+(a.getD k 0).toNat:=by rw[<-hx,BT _ _ N]
   have R:(x / d.toUInt64).toNat=x.toNat / d.toNat:=by rw[fi,di]
   have A:(x%d.toUInt64).toNat=x.toNat%d.toNat:=by rw[dq,di]
   have ac:=ej (a.getD k 0)
   have U:x.toNat / d.toNat<4294967296:=by
    rw[fh j,O]
    have:=bj 4294967296 (show r.toNat+1<=d.toNat by omega)
    omega
   have hs:F.W9 a d (r,(k:Int),q)=some (.inl (x%d.toUInt64,(k:Int) - 1,q.set k (x / d.toUInt64).toUInt32)):=by
    unfold F.W9
    dsimp only
    rw[ag (ai (by omega)),bg (show k<a.length by omega) 0,aa,hx,aD,grd_true _ z,bg (show k<q.length by omega) 0,aa,aD,grd_true _ z,Z]; rfl
   rw[Y,bn hs]
   refine ih _ _ (by omega) (by simpa using J) (by rw[A]; exact bH _ j) ?_
   have V:a.drop k=a.getD k 0 :: a.drop (k+1):=by
    rw[aS (show k<a.length by omega)]
    congr 1
    rw[an,av (show k<a.length by omega)]; rfl
   have X:(q.set k (x / d.toUInt64).toUInt32).drop k=(x / d.toUInt64).toUInt32 :: q.drop (k+1):=by
    rw[aS (by simp; omega)]
    congr 1
    ·simp
    ·rw[List.drop_set_of_lt (by omega)]
   rw[V,X,gD,gD,y,jA,R,A,az U]
   have:=de x.toNat d.toNat
   rw[aE,aE,dF d.toNat 4294967296]
   omega
 unfold F.Yq
 have w0:wI ((a.length:Int) - 1)=(a.length:Int) - 1:=aC (by omega) (by omega)
 rw[iK (by omega),aa,aD,w0]
 refine G a.length _ 0 (ax _) (by simp) (by simpa using j) ?_
 rw[eH,bL (by simp)]
 simp[val]
def nb (n:Nat):Nat:=if h:n=0 then 0 else nb (n / 2)+1
termination_by n
decreasing_by exact ju (eF h) (show 1<2 by decide)
theorem kS:nb 0=0:=by rw[nb]; simp
theorem wh {n:Nat} (h:n≠0):nb n=nb (n / 2)+1:=by rw[nb]; simp[h]
theorem gv (n:Nat):n<2^nb n/\(n≠0->2^(nb n - 1)<=n/\1<=nb n):=by
 induction n using Nat.strongRecOn with
 | ind n ih=>
  by_cases h:n=0
  ·subst h; rw[kS]; simp
  ·obtain⟨k,j⟩:=ih (n / 2) (ju (eF h) (by decide))
   rw[wh h]
   refine⟨by rw[bo]; omega,fun _=>⟨?_,by omega⟩⟩
   rw[eG]
   by_cases h3:n / 2=0
   ·rw[h3,kS]; omega
   ·obtain⟨y,z⟩:=j h3
    have:2^nb (n / 2)=2^(nb (n / 2) - 1)*2:=by rw[<-bo]; congr 1; omega
    omega
theorem lK {n k:Nat} (h:n<2^k):nb n<=k:=by
 by_cases h0:n=0
 ·subst h0; rw[kS]; omega
 ·obtain⟨y,z⟩:=(gv n).2 h0
  rcases bX k (nb n) with j | j
  ·have:=aZ (show 0<2 by decide) (show k<=nb n - 1 by omega)
   omega
  ·exact j
theorem Jk (x:UInt32):nb x.toNat<=32:=lK (ej x)
theorem R2 (x:UInt32):(dD x 1).toNat=x.toNat / 2:=by rw[lI]; rfl
theorem C8 (a:L00) (z:a.length≠0) (ha:a.length<=1000000000000000):∀(m:Nat) (t:UInt32) (n:Nat),nb t.toNat=m->n+m<=32->loop (F.Wu a) ((n:Int),t)=some (((32*(a.length - 1)+n+m:Nat):Int)):=by
 intro m
 induction m with
 | zero=>
  intro t n h hn
  have j:t.toNat=0:=by
   rcases bQ t.toNat with j | j
   ·exact j
   ·rw[wh (by omega)]at h; omega
  have:t=0:=cM.1 j
  subst this
  refine bD ?_
  unfold F.Wu
  dsimp only
  rw[ae (by decide),aC (x:=(a.length:Int) - 1) (by omega) (by omega),aC (x:=((a.length:Int) - 1)*32) (by omega) (by omega),aC (by omega) (by omega)]
  show some _=_
  congr 2
  omega
 | succ m ih=>
  intro t n h hn
  have j:t.toNat≠0:=by intro j; rw[j,kS]at h; omega
  have k:t≠0:=fun y=>j (by rw[y]; rfl)
  rw[wh j]at h
  have hs:F.Wu a ((n:Int),t)=some (.inl (((n+1:Nat):Int),dD t 1)):=by
   unfold F.Wu
   dsimp only
   rw[ag (by simpa using k),aC (by omega) (by omega)]; rfl
  rw[bn hs,ih (dD t 1) (n+1) (by rw[R2]; omega) (by omega)]
  congr 2; omega
def nR (a:L00):Nat:=if a.length=0 then 0 else 32*(a.length - 1)+nb (a.getD (a.length - 1) 0).toNat
theorem length_eq (a:L00) (ha:a.length<=1000000000000000):F.VS a=some ((nR a:Nat):Int):=by
 unfold F.VS nR
 by_cases h0:a.length=0
 ·rw[ag (by simp[h0]),ag h0]; rfl
 ·have j:wI ((a.length:Int) - 1)=((a.length - 1:Nat):Int):=by rw[aC (by omega) (by omega)]; omega
  rw[ae (by simpa using fun h=>h0 (by rw[h]; rfl)),j,bg (show a.length - 1<a.length by omega) 0,aa]
  have:=C8 a h0 ha _ (a.getD (a.length - 1) 0) 0 rfl (by have:=Jk (a.getD (a.length - 1) 0); omega)
  rw[ae h0]
  rw[bm]at this
  exact this
theorem Jt (x:UInt32) (s:Nat) (hs:s<32):(c8 x.toUInt64 s).toNat=x.toNat*2^s:=by
 have hx:=ej x
 rw[kM,di,bf (by omega),az]
 have j:2^s<=2^31:=aZ (by decide) (by omega)
 have k:x.toNat*2^s<=4294967295*2^31:=ef (by omega) j
 have y:(2:Nat)^31=2147483648:=rfl
 omega
theorem Ol {p q:UInt32} (s:Nat) (j:q.toNat%2^s=0) (hp:p.toNat<2^s):(p ||| q).toNat=p.toNat+q.toNat:=by
 rw[UInt32.toNat_or,Nat.or_comm,sB s j hp,cw]
theorem nY {s:Nat} (hs:s<32):2^s*2^(32 - s)=4294967296:=by
 rw[<-bU,show s+(32 - s)=32 by omega]
def pF (a:L00) (s w:Nat) (r:L00) (i:Nat):L00:=
 (r.set (i+w) (r.getD (i+w) 0 ||| (c8 (a.getD i 0).toUInt64 s).toUInt32)).set (i+w+1) ((r.set (i+w) (r.getD (i+w) 0 ||| (c8 (a.getD i 0).toUInt64 s).toUInt32)).getD (i+w+1) 0 ||| (bb (c8 (a.getD i 0).toUInt64 s) 32).toUInt32)
theorem wJ (a:L00) (n:UInt64) (hn:n.toNat<=1000000000000) (ha:a.length+n.toNat / 32+1<=70368744177664):F.VT a n=some (ar (val a*2^n.toNat)):=by
 unfold F.VT
 by_cases h0:a.length=0
 ·rw[ag (by simp[h0]),bp h0,jy,fu,cI]
 ·obtain⟨w,hw⟩:∃w,n.toNat / 32=w:=⟨_,rfl⟩
  obtain⟨s,hs⟩:∃s,n.toNat%32=s:=⟨_,rfl⟩
  have A:s<32:=by omega
  have e1:(n / 32).toNat=w:=by rw[fi,<-hw]; rfl
  have e2:(n%32).toNat=s:=by rw[dq,<-hs]; rfl
  have Z:2^n.toNat=4294967296^w*2^s:=by
   rw[show (4294967296:Nat)=2^32 from rfl,<-cu,<-bU]
   congr 1; omega
  rw[ae (by simpa using fun h=>h0 (by rw[h]; rfl)),e1,aD,aC (x:=(w:Int)) (by omega) (by omega),aC (x:=(a.length:Int)+(w:Int)) (by omega) (by omega),aC (by omega) (by omega),iK (by omega),aa,
   show ((a.length:Int)+(w:Int)+1).toNat=a.length+w+1 by omega]
  have J:=nY A
  have ab:1<=2^s:=Nat.one_le_two_pow
  -- what holds behind i words
  have step:∀(i:Nat) (r:L00),i<a.length->(r.length=a.length+w+1/\(∀k,i+w<k->r.getD k 0=0)/\(r.getD (i+w) 0).toNat<2^s/\val r=4294967296^w*(val (a.take i)*2^s)) ->
    ((pF a s w r i).length=a.length+w+1/\(∀k,i+1+w<k->(pF a s w r i).getD k 0=0)/\((pF a s w r i).getD (i+1+w) 0).toNat<2^s/\val (pF a s w r i)=4294967296^w*(val (a.take (i+1))*2^s)):=by
   rintro i r hi ⟨N,h2,h3,O⟩
   unfold pF
   obtain⟨v,hv⟩:∃v,c8 (a.getD i 0).toUInt64 s=v:=⟨_,rfl⟩
   have B:v.toNat=(a.getD i 0).toNat*2^s:=by rw[<-hv,Jt _ _ A]
   have ap:=ej (a.getD i 0)
   rw[hv]
   have bx:=oG v
   -- the low part is a multiple of 2^s,the high part is below it
   have G:v.toUInt32.toNat%2^s=0:=by
    rw[jA,B,<-J]
    rw[Nat.mod_mul_right_mod,Nat.mul_mod_left]
   have b8:v.toUInt32.toNat+2^s<=4294967296:=by
    have R:=ej v.toUInt32
    obtain⟨c,hc⟩:=eY G
    rw[hc]at R ⊢
    rw[<-J]at R ⊢
    have:=Nat.lt_of_mul_lt_mul_left R
    have:=bj (2^s) (show c+1<=2^(32 - s) by omega)
    rw[aE,cE]at this
    exact this
   have b2:(bb v 32).toNat<2^s:=by
    rw[qc,B,fh (by decide),aM (2^s)]
    exact Nat.mul_lt_mul_of_pos_right ap (by omega)
   have b3:=Ol (p:=r.getD (i+w) 0) (q:=v.toUInt32) s G h3
   obtain⟨I,j⟩:∃I,r.set (i+w) (r.getD (i+w) 0 ||| v.toUInt32)=I:=⟨_,rfl⟩
   have U:I.length=a.length+w+1:=by rw[<-j]; simpa using N
   have hz:I.getD (i+w+1) 0=0:=by rw[<-j,io (by omega)]; exact h2 _ (by omega)
   rw[j,hz,UInt32.zero_or]
   have v1:=jv r (i+w) (r.getD (i+w) 0 ||| v.toUInt32) (by omega)
   rw[j,b3]at v1
   have V:=jv I (i+w+1) (bb v 32).toUInt32 (by omega)
   rw[hz]at V
   have z0:(0:UInt32).toNat=0:=rfl
   rw[z0,cp,bm,EJ,<-qc]at V
   refine⟨by simpa using U,fun k hk=>?_,?_,?_⟩
   ·rw[io (by omega),<-j,io (by omega)]; exact h2 k (by omega)
   ·rw[show i+1+w=i+w+1 by omega,an,c7 (by omega)]
    simp only[Option.getD_some,EJ,<-qc]
    exact b2
   ·rw[V,cK,aU,aE,<-O]
    have e3:4294967296^w*(4294967296^i*(a.getD i 0).toNat*2^s)=4294967296^(i+w)*v.toNat:=by
     rw[B,cw i w,bU,aF,aF]
    have e4:4294967296^(i+w)*v.toNat=4294967296^(i+w)*v.toUInt32.toNat+4294967296^(i+w+1)*(bb v 32).toNat:=by
     rw[bo,aF,<-aE,<-bx]
    rw[e3,e4]
    rw[aE]at v1
    omega
  have z:(List.replicate (a.length+w+1) (0:UInt32)).length=a.length+w+1/\(∀k,0+w<k->(List.replicate (a.length+w+1) (0:UInt32)).getD k 0=0)/\((List.replicate (a.length+w+1) (0:UInt32)).getD (0+w) 0).toNat<2^s /\
    val (List.replicate (a.length+w+1) 0)=4294967296^w*(val (a.take 0)*2^s):=by
   have hg:∀k,(List.replicate (a.length+w+1) (0:UInt32)).getD k 0=0:=fun k=>by
    rw[an,gt]; split <;> rfl
   exact⟨by simp,fun k _=>hg k,by rw[hg]; exact aW (show (0:UInt32).toNat<1 by decide) ab,by rw[gH]; simp[val]⟩
  have e:=eN (f:=F.XE a n (w:Int)) (fun (x:L00) i=>((i:Int),x))
   (fun i r=>i<=a.length->(r.length=a.length+w+1/\(∀k,i+w<k->r.getD k 0=0)/\(r.getD (i+w) 0).toNat<2^s/\val r=4294967296^w*(val (a.take i)*2^s))) (pF a s w) 0 a.length
   (X:=fun x=>F.Tb x)
   (fun i x _ hi hx=>by
    have hx:=hx (by omega)
    refine⟨?_,fun _=>step i x hi hx⟩
    obtain⟨N,_⟩:=hx
    have w1:wI ((i:Int)+(w:Int))=((i+w:Nat):Int):=by rw[aC (by omega) (by omega)]; rfl
    have w2:wI (((i+w:Nat):Int)+1)=((i+w+1:Nat):Int):=by rw[aC (by omega) (by omega)]; rfl
    have w3:wI ((i:Int)+1)=((i+1:Nat):Int):=by rw[aC (by omega) (by omega)]; rfl
    unfold F.XE
    dsimp only
    rw[ag (ai (by omega)),bg hi 0,aa,aD,w1,w2,w3,e2,bg (show i+w<x.length by omega) 0,aa,aa,aD,am,bg (show i+w+1<(x.set (i+w) (x.getD (i+w) 0 ||| (c8 (a.getD i 0).toUInt64 s).toUInt32)).length by simp; omega) 0,aa,aa,aD,am]
    rfl)
   (fun x hx=>by
    unfold F.XE
    dsimp only
    rw[ae (by simp)]
    cases F.Tb x <;> rfl)
   a.length 0 _ (ax _) (by omega) (fun _=>z)
  refine e.trans ?_
  have Y:=fG (fun i (r:L00)=>i<=a.length->(r.length=a.length+w+1/\(∀k,i+w<k->r.getD k 0=0)/\(r.getD (i+w) 0).toNat<2^s/\val r=4294967296^w*(val (a.take i)*2^s))) (pF a s w)
   (fun i x hx=>fun hi=>step i x (by omega) (hx (by omega))) a.length 0 _ (fun _=>z)
  obtain⟨y,hy⟩:∃y,(List.range' 0 a.length).foldl (pF a s w) (List.replicate (a.length+w+1) 0)=y:=⟨_,rfl⟩
  rw[hy]at Y ⊢
  rw[bk]at Y
  obtain⟨N,_,_,O⟩:=Y (ax _)
  rw[lH _ (by omega),O,cZ,Z,dF]
theorem eh (a:L00) (i:Nat):val (a.drop i)=(a.getD i 0).toNat+4294967296*val (a.drop (i+1)):=by
 by_cases h:i<a.length
 ·rw[aS h,gD]
  congr 2
  rw[an,av h]; rfl
 ·rw[bL (by omega),bL (by omega),iO (by omega)]; rfl
theorem ky (a:L00) (i:Nat):val a / 4294967296^i=val (a.drop i):=by
 by_cases h:i<=a.length
 ·have j:=cv (a.take i)
  rw[aJ,bf h]at j
  rw[gG a i h,cw,Nat.mul_add_div (ew (by decide)),cA j,bm]
 ·have j:=cv a
  have k:=aZ (show 0<4294967296 by decide) (show a.length<=i by omega)
  rw[bL (by omega),cA (by omega)]; rfl
theorem Jm (a:L00) (n:UInt64) (hn:n.toNat<32) (ha:a.length<=70368744177664):F.Zg a n=some (ar (val a / 2^n.toNat)):=by
 unfold F.Zg
 have J:(n / 32).toNat=0:=by rw[fi]; exact cA hn
 have A:(n%32).toNat=n.toNat:=by rw[dq]; exact az hn
 obtain⟨s,hs⟩:∃s,n.toNat=s:=⟨_,rfl⟩
 rw[hs]at A hn ⊢
 have w0:wI ((0:Nat):Int)=0:=rfl
 rw[J,aD,w0]
 by_cases h0:a.length=0
 ·rw[ag (ai (by omega)),bp h0,jy,Nat.zero_div,cI]
 ·rw[ae (by simp only[ak]; omega),Int.sub_zero,aC (by omega) (by omega),iK (by omega),aa,am,<-xj]
  have B:=nY hn
  have G:∀i,(val a / 2^s) / 4294967296^i%4294967296=((a.getD i 0).toNat+4294967296*(a.getD (i+1) 0).toNat) / 2^s%4294967296:=by
   intro i
   rw[dN,aM,<-dN,ky,eh,eh]
   have:(a.getD i 0).toNat+4294967296*((a.getD (i+1) 0).toNat+4294967296*val (a.drop (i+1+1)))=((a.getD i 0).toNat+4294967296*(a.getD (i+1) 0).toNat)+2^s*(4294967296*(2^(32 - s)*val (a.drop (i+1+1)))):=by
    have:2^s*(4294967296*(2^(32 - s)*val (a.drop (i+1+1))))=4294967296*(4294967296*val (a.drop (i+1+1))):=by
     rw[dF,<-aF (2^s),B]
    rw[this,aE]; omega
   rw[this,g9 _ _ (dA s),g8]
  have k:∀(i:Nat) (x:L00),(x.length=i/\val x=(val a / 2^s)%4294967296^i) ->
    ((x++[(bb ((a.getD i 0).toUInt64 ||| (c8 (a.getD (i+1) 0).toUInt64 32)) s).toUInt32]).length=i+1/\val (x++[(bb ((a.getD i 0).toUInt64 ||| (c8 (a.getD (i+1) 0).toUInt64 32)) s).toUInt32])=(val a / 2^s)%4294967296^(i+1)):=by
   rintro i x ⟨j,z⟩
   refine⟨by simp[j],?_⟩
   rw[mK,j,z,Nat.mod_pow_succ,G i,jA,i9,vm,bf (by omega)]
  have e:=eN (f:=F.XN a 0 n) (fun (x:L00) i=>((i:Int),pad x a.length)) (fun i x=>x.length=i/\val x=(val a / 2^s)%4294967296^i)
   (fun x i=>x++[(bb ((a.getD i 0).toUInt64 ||| (c8 (a.getD (i+1) 0).toUInt64 32)) s).toUInt32]) 0 a.length
   (X:=fun x=>F.Tb (pad x a.length))
   (fun i x _ hi hx=>by
    refine⟨?_,k i x hx⟩
    obtain⟨j,z⟩:=hx
    have I:wI ((i:Int)+1)=((i+1:Nat):Int):=by rw[aC (by omega) (by omega)]; rfl
    have w2:wI ((i:Int)+0)=(i:Int):=by rw[aC (by omega) (by omega)]; omega
    obtain⟨u,hu⟩:=qV (x:=x) (n:=a.length) (i:=i) (by omega) (by omega)
    have hK:∀v:UInt64,v=((a.getD i 0).toUInt64 ||| (c8 (a.getD (i+1) 0).toUInt64 32))->F.Yt n (i:Int) (pad x a.length) v=some (.inl (((i+1:Nat):Int),pad (x++[(bb ((a.getD i 0).toUInt64 ||| (c8 (a.getD (i+1) 0).toUInt64 32)) s).toUInt32]) a.length)):=by
     rintro v rfl
     unfold F.Yt
     dsimp only
     have:=sV (x:=x) (n:=a.length) (by omega) (bb ((a.getD i 0).toUInt64 ||| (c8 (a.getD (i+1) 0).toUInt64 32)) s).toUInt32
     rw[j]at this
     rw[hu,aa,aD,am,I,A,this]; rfl
    unfold F.XN
    dsimp only
    rw[ag (ai (by rw[mf (by omega)]; omega)),w2,bg hi 0,aa,I]
    by_cases hb:i+1<a.length
    ·rw[ag (ai (by omega)),bg hb 0,aa,aD,hK _ rfl]
    ·rw[ae (by simp only[ak]; omega),hK _ (by
      apply cx.1
      rw[vm,iO (a:=a) (i:=i+1) (by omega),di]; rfl)])
   (fun x hx=>by
    unfold F.XN
    dsimp only
    rw[ae (by rw[mf (by omega)]; simp)]
    cases F.Tb (pad x a.length) <;> rfl)
   a.length 0 [] (ax _) (by omega) ⟨rfl,by simp[val,Nat.mod_one]⟩
  refine e.trans ?_
  obtain⟨j,z⟩:=fG (fun i (x:L00)=>x.length=i/\val x=(val a / 2^s)%4294967296^i) (fun x i=>x++[(bb ((a.getD i 0).toUInt64 ||| (c8 (a.getD (i+1) 0).toUInt64 32)) s).toUInt32])
   (fun i x hx=>k i x hx) a.length 0 [] ⟨rfl,by simp[val,Nat.mod_one]⟩
  obtain⟨y,N⟩:∃y,(List.range' 0 a.length).foldl (fun x i=>x++[(bb ((a.getD i 0).toUInt64 ||| (c8 (a.getD (i+1) 0).toUInt64 32)) s).toUInt32]) []=y:=⟨_,rfl⟩
  rw[N]at j z ⊢
  rw[bk]at j z
  have O:=cv a
  have R:=dy (val a) (2^s)
  rw[lH _ (by rw[mf (by omega)]; omega),qp,z,az (by omega)]
theorem HK (u v:UInt32) (c:UInt64) (hc:c.toNat<=1):((u.toUInt64 - v.toUInt64) - c).toUInt32.toNat+c.toNat+v.toNat=u.toNat+4294967296*(bb ((u.toUInt64 - v.toUInt64) - c) 63).toNat/\(bb ((u.toUInt64 - v.toUInt64) - c) 63).toNat<=1:=by
 have hu:=ej u; have j:=ej v
 rw[jA,Kj,fj,fj,di,di]
 omega
theorem Ir (u:UInt32) (c d:UInt64) (hc:c.toNat<=4294967295) (hd:d.toNat<=1):((u.toUInt64 - c) - d).toUInt32.toNat+c.toNat+d.toNat=u.toNat+4294967296*(bb ((u.toUInt64 - c) - d) 63).toNat/\(bb ((u.toUInt64 - c) - d) 63).toNat<=1:=by
 have hu:=ej u
 rw[jA,Kj,fj,fj,di]
 omega
abbrev MS:=UInt64×UInt64×L00
def msS (g:UInt64) (v:L00) (j:Nat) (x:MS) (i:Nat):MS:=
 (bb (x.1+g*(v.getD i 0).toUInt64) 32,bb (((x.2.2.getD (j+i) 0).toUInt64 - (x.1+g*(v.getD i 0).toUInt64).toUInt32.toUInt64) - x.2.1) 63,
  x.2.2.set (j+i) (((x.2.2.getD (j+i) 0).toUInt64 - (x.1+g*(v.getD i 0).toUInt64).toUInt32.toUInt64) - x.2.1).toUInt32)
def MSI (g:UInt64) (v u:L00) (j i:Nat) (x:MS):Prop:=
 x.2.2.length=u.length/\(∀k,k<j\/j+i<=k->x.2.2.getD k 0=u.getD k 0)/\val x.2.2+4294967296^j*(g.toNat*val (v.take i))=val u+4294967296^(j+i)*(x.1.toNat+x.2.1.toNat)/\x.1.toNat<=4294967295/\x.2.1.toNat<=1
theorem D5 {g:UInt64} {v u:L00} {j i:Nat} {x:MS} (hg:g.toNat<=4294967295) (Z:j+i<u.length) (h:MSI g v u j i x):MSI g v u j (i+1) (msS g v j x i):=by
 obtain⟨I,J,N,h4,O⟩:=h
 unfold msS
 have z:=mT (v.getD i 0)
 have hp:g.toNat*(v.getD i 0).toNat<=4294967295*4294967295:=ef hg z
 have A:(x.1+g*(v.getD i 0).toUInt64).toNat=x.1.toNat+g.toNat*(v.getD i 0).toNat:=by
  have y:(g*(v.getD i 0).toUInt64).toNat=g.toNat*(v.getD i 0).toNat:=by rw[sW _ _ (by rw[di]; omega),di]
  rw[lh _ _ (by rw[y]; omega),y]
 obtain⟨C,R⟩:∃C,x.1+g*(v.getD i 0).toUInt64=C:=⟨_,rfl⟩
 rw[R]at A ⊢
 obtain⟨y,B⟩:=HK (x.2.2.getD (j+i) 0) C.toUInt32 x.2.1 O
 obtain⟨t,U⟩:∃t,((x.2.2.getD (j+i) 0).toUInt64 - C.toUInt32.toUInt64) - x.2.1=t:=⟨_,rfl⟩
 rw[U]at y B ⊢
 have G:=oG C
 refine⟨by simpa using I,fun k hk=>?_,?_,?_,B⟩
 ·simp only
  rw[io (by omega)]; exact J k (by omega)
 ·simp only
  have hv:=jv x.2.2 (j+i) t.toUInt32 (by omega)
  rw[cK,aE,aE]
  have V:4294967296^j*(g.toNat*(4294967296^i*(v.getD i 0).toNat))=4294967296^(j+i)*(g.toNat*(v.getD i 0).toNat):=by
   rw[bU,aF,dF g.toNat]
  have X:4294967296^(j+i)*(t.toUInt32.toNat+x.2.1.toNat+C.toUInt32.toNat)=4294967296^(j+i)*((x.2.2.getD (j+i) 0).toNat+4294967296*(bb t 63).toNat):=by rw[y]
  have Y:4294967296^(j+i)*(x.1.toNat+g.toNat*(v.getD i 0).toNat)=4294967296^(j+i)*(C.toUInt32.toNat+4294967296*(bb C 32).toNat):=by rw[<-A,<-G]
  rw[V,<-dn j i 1,bo,aF]
  rw[aE,aE,aE]at X
  rw[aE,aE]at Y
  rw[aE]at N
  rw[aE,aE]
  omega
 ·simp only[qc]; omega
theorem rU {a:L00} {m:Nat} (h:∀k,m<=k->a.getD k 0=0):val a<4294967296^m:=by
 by_cases hm:m<=a.length
 ·have hz:a.drop m=List.replicate (a.length - m) 0:=by
   refine gC (by simp) fun i y z=>?_
   have:=h (m+i) (by omega)
   rw[an,av (by simp at y; omega)]at this
   rw[List.getElem_drop,gF]
   exact this
  have j:=cv (a.take m)
  rw[aJ,bf hm]at j
  rw[gG a m hm,hz,gH]
  simpa using j
 ·exact aW (cv a) (aZ (by decide) (by omega))
theorem DM {a:L00} {m:Nat} (h:val a<4294967296^m) (k:Nat) (j:m<=k):a.getD k 0=0:=by
 have y:val a / 4294967296^k=0:=cA (aW h (aZ (by decide) j))
 rw[ky,eh]at y
 exact cM.1 (by show _=0; omega)
theorem lU {a:L00} {m:Nat} (h:val a<4294967296^m):val (a.drop m)=0:=by
 rw[<-ky,cA h]
def abS (v:L00) (j:Nat) (x:UInt64×L00) (i:Nat):UInt64×L00:=
 (bb (x.1+((x.2.getD (i+j) 0).toUInt64+(v.getD i 0).toUInt64)) 32,x.2.set (i+j) (x.1+((x.2.getD (i+j) 0).toUInt64+(v.getD i 0).toUInt64)).toUInt32)
def ABI (v u:L00) (j i:Nat) (x:UInt64×L00):Prop:=
 x.2.length=u.length/\(∀k,k<j\/j+i<=k->x.2.getD k 0=u.getD k 0)/\val x.2+4294967296^(j+i)*x.1.toNat=val u+4294967296^j*val (v.take i)/\x.1.toNat<=1
theorem DJ {v u:L00} {j i:Nat} {x:UInt64×L00} (N:j+i<u.length) (h:ABI v u j i x):ABI v u j (i+1) (abS v j x i):=by
 obtain⟨B,G,O,R⟩:=h
 unfold abS
 have ha:=mT (x.2.getD (i+j) 0); have hb:=mT (v.getD i 0)
 obtain⟨s,hs⟩:∃s,x.1+((x.2.getD (i+j) 0).toUInt64+(v.getD i 0).toUInt64)=s:=⟨_,rfl⟩
 have y:s.toNat=x.1.toNat+((x.2.getD (i+j) 0).toNat+(v.getD i 0).toNat):=by
  have z:((x.2.getD (i+j) 0).toUInt64+(v.getD i 0).toUInt64).toNat=(x.2.getD (i+j) 0).toNat+(v.getD i 0).toNat:=by rw[lh _ _ (by rw[di,di]; omega),di,di]
  rw[<-hs,lh _ _ (by rw[z]; omega),z]
 rw[hs]
 have A:=oG s
 refine⟨by simpa using B,fun k U=>?_,?_,by simp only[qc]; omega⟩
 ·simp only
  rw[io (by omega)]; exact G k (by omega)
 ·simp only
  have V:=jv x.2 (i+j) s.toUInt32 (by omega)
  have I:4294967296^(j+i)*s.toNat=4294967296^(j+i)*s.toUInt32.toNat+4294967296^(j+(i+1))*(bb s 32).toNat:=by
   rw[<-dn,bo,aF,<-aE,<-A]
  have J:4294967296^j*(4294967296^i*(v.getD i 0).toNat)=4294967296^(j+i)*(v.getD i 0).toNat:=by rw[bU,aF]
  rw[cK,aE,J]
  rw[y,aE,aE]at I
  rw[cw i j]at *
  omega
theorem NW (v u q:L00) (j:Nat) (g:UInt64) (hg:g.toNat<=4294967295) (hj:j+v.length<u.length) (hq:j<q.length) (hs:u.length<=70368744177664) (el:q.length<=70368744177664)
  (h1:val u<4294967296^j*((g.toNat+1)*val v)) (h2:4294967296^j*(g.toNat*val v)<=val u+4294967296^j*val v) (h3:val u<4294967296^(j+v.length+1)) :
  ∃(d:UInt64) (A:L00),loop (F.Wg v (j:Int) g q) (0,0,0,u)=some (.inl ((j:Int) - 1,A,q.set j d.toUInt32))/\A.length=u.length /\
   val A+4294967296^j*(d.toNat*val v)=val u/\val A<4294967296^j*val v/\d.toNat<=4294967295:=by
 have w2:wI ((j:Int)+(v.length:Int))=((j+v.length:Nat):Int):=by rw[aC (by omega) (by omega)]; rfl
 have wj:wI ((j:Int) - 1)=(j:Int) - 1:=aC (by omega) (by omega)
 have ab:∀(d:UInt64) (y:L00),F.VX (j:Int) q (d,y)=some (.inl ((j:Int) - 1,y,q.set j d.toUInt32)):=by
  intro d y
  unfold F.VX
  dsimp only
  rw[bg hq 0,aa,aD,am,wj]; rfl
 have df:=ew (n:=j) (show 0<4294967296 by decide)
 have h0:MSI g v u j 0 (0,0,u):=⟨rfl,fun _ _=>rfl,by simp[val],by simp,by simp⟩
 have hz:=fun k (R:j+v.length+1<=k)=>DM h3 k R
 -- behind the loop
 have b4:∀x:MS,MSI g v u j v.length x->∃(d:UInt64) (A:L00),
   (af (aw x.2.2 (wI ((j:Int)+(v.length:Int)):Int)) fun N=>bv ((N.toUInt64 - x.1) - x.2.1) fun B=>af (aw x.2.2 (wI ((j:Int)+(v.length:Int)):Int)) fun bx=>
    bv (x.2.2.set (wI ((j:Int)+(v.length:Int)):Int).toNat B.toUInt32) fun G=>if ((bb B 63) != 0)=true then loop (F.Vk v (j:Int) g q) (0,0,G) else F.VX (j:Int) q (g,G))
    = some (.inl ((j:Int) - 1,A,q.set j d.toUInt32))/\A.length=u.length/\val A+4294967296^j*(d.toNat*val v)=val u/\val A<4294967296^j*val v/\d.toNat<=4294967295:=by
  rintro x ⟨e1,e2,e3,e4,e5⟩
  rw[w2,bg (show j+v.length<x.2.2.length by omega) 0,aa,aD,aa,aD,am]
  obtain⟨f1,f2⟩:=Ir (x.2.2.getD (j+v.length) 0) x.1 x.2.1 e4 e5
  obtain⟨t,ht⟩:∃t,((x.2.2.getD (j+v.length) 0).toUInt64 - x.1) - x.2.1=t:=⟨_,rfl⟩
  rw[ht]at f1 f2 ⊢
  have hv:=jv x.2.2 (j+v.length) t.toUInt32 (by omega)
  obtain⟨z,U⟩:∃z,x.2.2.set (j+v.length) t.toUInt32=z:=⟨_,rfl⟩
  have b7:z.length=u.length:=by rw[<-U]; simpa using e1
  have ac:∀k,j+v.length+1<=k->z.getD k 0=0:=fun k R=>by
   rw[<-U,io (by omega),e2 k (by omega)]; exact hz k R
  have d6:=rU ac
  rw[U]at hv ⊢
  rw[cZ]at e3
  have J:val z+4294967296^j*(g.toNat*val v)=val u+4294967296^(j+v.length+1)*(bb t 63).toNat:=by
   have:=da (4294967296^(j+v.length)*·) f1
   simp only[aE]at this
   rw[aE]at e3
   rw[bo,aF]
   omega
  by_cases hb:(bb t 63).toNat=0
  ·have:bb t 63=0:=cx.1 hb
   rw[ae (by rw[this]; decide),ab]
   rw[hb,cp,bm]at J
   refine⟨g,z,rfl,b7,J,?_,hg⟩
   rw[aU,cy,aE]at h1
   omega
  ·have b8:(bb t 63).toNat=1:=by omega
   have b9:¬bb t 63=0:=fun h=>hb (by rw[h]; rfl)
   rw[ag (by simpa using b9)]
   rw[b8,cE]at J
   have ce:1<=g.toNat:=by
    rcases bQ g.toNat with h | h
    ·rw[h,fu,cp]at J; omega
    ·exact h
   have a0:ABI v z j 0 (0,z):=⟨rfl,fun _ _=>rfl,by simp[val],by simp⟩
   have e:=eN (f:=F.Vk v (j:Int) g q) (fun (y:UInt64×L00) i=>(y.1,(i:Int),y.2)) (fun i y=>i<=v.length->ABI v z j i y) (abS v j) 0 v.length
    (X:=fun y=>some (.inl ((j:Int) - 1,y.2.set (j+v.length) (y.2.getD (j+v.length) 0+y.1.toUInt32),q.set j (g - 1).toUInt32)))
    (fun i y _ hi I=>by
     have I:=I (by omega)
     refine⟨?_,fun _=>DJ (by omega) I⟩
     have cf:=I.1
     have w3:wI ((i:Int)+(j:Int))=((i+j:Nat):Int):=by rw[aC (by omega) (by omega)]; rfl
     have w4:wI ((i:Int)+1)=((i+1:Nat):Int):=by rw[aC (by omega) (by omega)]; rfl
     unfold F.Vk
     dsimp only
     rw[ag (ai (by omega)),w3,bg (show i+j<y.2.length by omega) 0,aa,bg hi 0,aa,aD,aa,aD,am,w4]
     rfl)
    (fun y I=>by
     have cf:=(I (ax _)).1
     unfold F.Vk
     dsimp only
     rw[ae (by simp),w2,bg (show j+v.length<y.2.length by omega) 0,aa,aa,aD,am,ab])
    v.length 0 (0,z) (ax _) (by omega) (fun _=>a0)
   have O:=fG (fun i (y:UInt64×L00)=>i<=v.length->ABI v z j i y) (abS v j) (fun i y I=>fun hi=>DJ (by omega) (I (by omega))) v.length 0 (0,z) (fun _=>a0)
   obtain⟨y,I⟩:∃y,(List.range' 0 v.length).foldl (abS v j) (0,z)=y:=⟨_,rfl⟩
   rw[I]at O e
   rw[bk]at O
   obtain⟨k1,k2,k3,k4⟩:=O (ax _)
   rw[cZ]at k3
   refine⟨g - 1,_,e,by rw[dJ]; omega,?_⟩
   have cm:(g - 1).toNat=g.toNat - 1:=by
    rw[eg _ _ (by rw[cL]; exact ce)]; rfl
   obtain⟨Z,ad⟩:∃Z,y.2.set (j+v.length) (y.2.getD (j+v.length) 0+y.1.toUInt32)=Z:=⟨_,rfl⟩
   have ct:=jv y.2 (j+v.length) (y.2.getD (j+v.length) 0+y.1.toUInt32) (by omega)
   rw[ad]at ct ⊢
   have c0:∀k,j+v.length+1<=k->Z.getD k 0=0:=fun k R=>by
    rw[<-ad,io (by omega),k2 k (by omega)]; exact ac k R
   have ec:=rU c0
   have hw:=ej (y.2.getD (j+v.length) 0)
   have V:(y.2.getD (j+v.length) 0+y.1.toUInt32).toNat+4294967296*(((y.2.getD (j+v.length) 0).toNat+y.1.toNat) / 4294967296)=(y.2.getD (j+v.length) 0).toNat+y.1.toNat:=by
    rw[UInt32.toNat_add,jA,az (a:=y.1.toNat) (by omega)]; omega
   obtain⟨b',c1⟩:∃b',((y.2.getD (j+v.length) 0).toNat+y.1.toNat) / 4294967296=b':=⟨_,rfl⟩
   rw[c1]at V
   have en:b'<=1:=by omega
   have Y:val Z+4294967296^(j+v.length+1)*b'=val z+4294967296^j*val v:=by
    have:=da (4294967296^(j+v.length)*·) V
    simp only[aE]at this
    rw[bo,aF]
    omega
   obtain⟨g',ap⟩:∃g',g.toNat=g'+1:=⟨g.toNat - 1,by omega⟩
   rw[cm,ap,eG]
   rw[ap,aU,cy,aE]at J h2
   have c3:b'=1:=by
    rcases bQ b' with h | h
    ·rw[h,cp]at Y; omega
    ·omega
   rw[c3,cE]at Y
   exact⟨by omega,by omega,by omega⟩
 have e:=eN (f:=F.Wg v (j:Int) g q) (fun (x:MS) i=>(x.1,x.2.1,(i:Int),x.2.2)) (fun i x=>i<=v.length->MSI g v u j i x) (msS g v j) 0 v.length
  (X:=fun x=>(af (aw x.2.2 (wI ((j:Int)+(v.length:Int)):Int)) fun N=>bv ((N.toUInt64 - x.1) - x.2.1) fun B=>af (aw x.2.2 (wI ((j:Int)+(v.length:Int)):Int)) fun bx=>
    bv (x.2.2.set (wI ((j:Int)+(v.length:Int)):Int).toNat B.toUInt32) fun G=>if ((bb B 63) != 0)=true then loop (F.Vk v (j:Int) g q) (0,0,G) else F.VX (j:Int) q (g,G)))
  (fun i x _ hi hx=>by
   have hx:=hx (by omega)
   refine⟨?_,fun _=>D5 hg (by omega) hx⟩
   have er:=hx.1
   have w3:wI ((i:Int)+(j:Int))=((j+i:Nat):Int):=by rw[aC (by omega) (by omega)]; omega
   have w4:wI ((i:Int)+1)=((i+1:Nat):Int):=by rw[aC (by omega) (by omega)]; rfl
   unfold F.Wg
   dsimp only
   rw[ag (ai (by omega)),bg hi 0,aa,aD,w3,bg (show j+i<x.2.2.length by omega) 0,aa,aD,aa,aD,am,w4]
   rfl)
  (fun x hx=>by
   unfold F.Wg
   dsimp only
   rw[ae (by simp)])
  v.length 0 (0,0,u) (ax _) (by omega) (fun _=>h0)
 have O:=fG (fun i (x:MS)=>i<=v.length->MSI g v u j i x) (msS g v j) (fun i x hx=>fun hi=>D5 hg (by omega) (hx (by omega))) v.length 0 (0,0,u) (fun _=>h0)
 rw[bk]at O
 obtain⟨d,A,r1,r2⟩:=b4 _ (O (ax _))
 exact⟨d,A,e.trans r1,r2⟩
theorem zS (x y:UInt32):((c8 x.toUInt64 32) ||| y.toUInt64).toNat=4294967296*x.toNat+y.toNat:=by
 have:=ej x
 rw[BT _ _ (by rw[di]; omega),di]
theorem JY (v u q:L00) (j:Nat) (y z A:UInt32) (h K G V':Nat) (hn:2<=v.length) (hj:j+v.length<u.length) (hs:u.length<=70368744177664)
  (ad:u.getD (j+v.length - 2) 0=A) (R:val v=(y.toNat*4294967296+z.toNat)*K+V') (ap:G<K) (V:V'<K) (X:1<=y.toNat)
  (bx:(h*4294967296+A.toNat)*K+G<4294967296*val v) (hh:h<=y.toNat*4294967296+4294967295) :
  ∀(m:Nat) (g r:UInt64),g.toNat=m->h=g.toNat*y.toNat+r.toNat->r.toNat<=4294967295->(h*4294967296+A.toNat)*K+G<(g.toNat+1)*val v ->
   ∃B:UInt64,loop (F.Xg v z (j:Int) u y q) (g,r)=F.WB u v (j:Int) q B/\B.toNat<=4294967295/\(h*4294967296+A.toNat)*K+G<(B.toNat+1)*val v /\
    B.toNat*val v<(h*4294967296+A.toNat)*K+G+val v:=by
 have x1:=ej y; have x2:=ej z; have x3:=ej A
 have w0:wI ((wI ((j:Int)+(v.length:Int))) - 2)=((j+v.length - 2:Nat):Int):=by
  rw[aC (x:=(j:Int)+(v.length:Int)) (by omega) (by omega),aC (by omega) (by omega)]; omega
 intro m
 induction m using Nat.strongRecOn with
 | ind m ih=>
  intro g r hm I hr b2
  -- too great
  have J:F.Xg v z (j:Int) u y q (g,r)=F.VL y g r u v (j:Int) q true->(4294967296<=g.toNat\/r.toNat*4294967296+A.toNat<g.toNat*z.toNat) ->
    ∃B:UInt64,loop (F.Xg v z (j:Int) u y q) (g,r)=F.WB u v (j:Int) q B/\B.toNat<=4294967295/\(h*4294967296+A.toNat)*K+G<(B.toNat+1)*val v /\
    B.toNat*val v<(h*4294967296+A.toNat)*K+G+val v:=by
   intro hL U
   have b3:1<=g.toNat:=by
    rcases bQ g.toNat with Z | Z
    ·rw[Z]at U; omega
    ·exact Z
   have Y:(g - 1).toNat=g.toNat - 1:=by
    rw[eg _ _ (by rw[cL]; exact b3)]; rfl
   have b4:(r+y.toUInt64).toNat=r.toNat+y.toNat:=by rw[lh _ _ (by rw[di]; omega),di]
   have hd:=At (K:=K) (V':=V') I ap U (by rw[<-R]; exact bx)
   rw[<-R]at hd
   obtain⟨k,hk⟩:∃k,g.toNat=k+1:=⟨g.toNat - 1,by omega⟩
   have N:h=(g - 1).toNat*y.toNat+(r+y.toUInt64).toNat:=by
    rw[Y,b4,I,hk,eG,aU]; omega
   have O:(h*4294967296+A.toNat)*K+G<((g - 1).toNat+1)*val v:=by
    rw[Y,hk,eG,<-hk]; exact hd
   unfold F.VL at hL
   rw[ag rfl]at hL
   by_cases hb:4294967295<(r+y.toUInt64).toNat
   ·rw[ag (ai (by rw[bh]; exact hb))]at hL
    have b5:(g - 1).toNat<4294967296:=by
     have:(g - 1).toNat*y.toNat<4294967296*y.toNat:=by omega
     exact Nat.lt_of_mul_lt_mul_right this
    refine⟨g - 1,cb hL,by omega,O,?_⟩
    rw[R]
    refine Hw N V X b5 ?_
    have:=ef (show (g - 1).toNat<=4294967295 by omega) (show z.toNat<=4294967295 by omega)
    omega
   ·rw[ae (by simp only[ak,bh]; exact hb)]at hL
    obtain⟨B,q1,q2⟩:=ih (g - 1).toNat (by omega) (g - 1) (r+y.toUInt64) rfl N (by omega) O
    exact⟨B,(bn hL).trans q1,q2⟩
  have hL:F.Xg v z (j:Int) u y q (g,r)=if (decide ((4294967295:UInt64)<g))=true then F.VL y g r u v (j:Int) q true else
    af (aw u (wI ((wI ((j:Int)+(v.length:Int))) - 2):Int)) fun ac=>F.VL y g r u v (j:Int) q (decide (((c8 r 32) ||| ac.toUInt64)<(g*z.toUInt64))):=rfl
  by_cases hg:4294967295<g.toNat
  ·rw[ag (ai (by rw[bh]; exact hg))]at hL
   exact J hL (.inl (by omega))
  ·rw[ae (by simp only[ak,bh]; exact hg),w0,bg (show j+v.length - 2<u.length by omega) 0,aa,ad]at hL
   have e1:((c8 r 32) ||| A.toUInt64).toNat=4294967296*r.toNat+A.toNat:=BT _ _ hr
   have hp:=ef (show g.toNat<=4294967295 by omega) (show z.toNat<=4294967295 by omega)
   have e2:(g*z.toUInt64).toNat=g.toNat*z.toNat:=by rw[sW _ _ (by rw[di]; omega),di]
   by_cases U:r.toNat*4294967296+A.toNat<g.toNat*z.toNat
   ·rw[show decide (((c8 r 32) ||| A.toUInt64)<(g*z.toUInt64))=true from ai (by rw[bh,e1,e2]; omega)]at hL
    exact J hL (.inr U)
   ·rw[show decide (((c8 r 32) ||| A.toUInt64)<(g*z.toUInt64))=false from au (by rw[bh,e1,e2]; omega)]at hL
    unfold F.VL at hL
    rw[ae (by decide)]at hL
    refine⟨g,cb hL,by omega,b2,?_⟩
    rw[R]
    exact Hw I V X (by omega) (by omega)
theorem Iz (s:UInt64) (v u q:L00) (j:Nat) (hn:2<=v.length) (b2:2147483648<=(v.getD (v.length - 1) 0).toNat) (hj:j+v.length<u.length) (hq:j<q.length) (hs:u.length<=70368744177664) (b7:q.length<=70368744177664)
  (hu:val u<4294967296^(j+1)*val v) :
  ∃(d:UInt64) (G:L00),F.WQ s v (v.getD (v.length - 1) 0) (v.getD (v.length - 2) 0) ((j:Int),u,q)=some (.inl ((j:Int) - 1,G,q.set j d.toUInt32))/\G.length=u.length /\
   val G+4294967296^j*(d.toNat*val v)=val u/\val G<4294967296^j*val v/\d.toNat<=4294967295:=by
 obtain⟨k,J⟩:∃k,v.getD (v.length - 1) 0=k:=⟨_,rfl⟩
 obtain⟨A,U⟩:∃A,v.getD (v.length - 2) 0=A:=⟨_,rfl⟩
 obtain⟨y,V⟩:∃y,u.getD (j+v.length) 0=y:=⟨_,rfl⟩
 obtain⟨B,X⟩:∃B,u.getD (j+v.length - 1) 0=B:=⟨_,rfl⟩
 obtain⟨z,Y⟩:∃z,u.getD (j+v.length - 2) 0=z:=⟨_,rfl⟩
 rw[J]at b2
 have x1:=ej k; have x2:=ej A; have y0:=ej y; have y1:=ej B; have y2:=ej z
 -- the divisor's parts
 have eV:val v=(k.toNat*4294967296+A.toNat)*4294967296^(v.length - 2)+val (v.take (v.length - 2)):=by
  have:=gG v (v.length - 2) (by omega)
  rw[eh,show v.length - 2+1=v.length - 1 by omega,eh,show v.length - 1+1=v.length by omega,eH,jy,J,U]at this
  rw[this,cp,bm,aM (4294967296^_),cw A.toNat,aM 4294967296 k.toNat]
  omega
 have N:val (v.take (v.length - 2))<4294967296^(v.length - 2):=by
  have:=cv (v.take (v.length - 2))
  rwa [aJ,bf (by omega)]at this
 have b8:=cv v
 have Z:val u<4294967296^(j+v.length+1):=by
  have:=eO b8 (ew (n:=j+1) (show 0<4294967296 by decide))
  rw[<-bU,show j+1+v.length=j+v.length+1 by omega]at this
  omega
 -- the dividend's parts
 obtain⟨K,hK⟩:∃K,4294967296^(v.length - 2)=K:=⟨_,rfl⟩
 obtain⟨I,ab⟩:∃I,val ((u.drop j).take (v.length - 2))=I:=⟨_,rfl⟩
 have b4:I<K:=by
  have:=cv ((u.drop j).take (v.length - 2))
  rw[aJ,ca,bf (by omega)]at this
  rw[<-ab,<-hK]; exact this
 obtain⟨h,hh⟩:∃h,y.toNat*4294967296+B.toNat=h:=⟨_,rfl⟩
 have eU:val u / 4294967296^j=(h*4294967296+z.toNat)*K+I:=by
  have O:=gG (u.drop j) (v.length - 2) (by rw[ca]; omega)
  rw[fS,show j+(v.length - 2)=j+v.length - 2 by omega,eh u (j+v.length - 2),show j+v.length - 2+1=j+v.length - 1 by omega,eh u (j+v.length - 1),show j+v.length - 1+1=j+v.length by omega,eh u (j+v.length),lU Z,ab,hK,V,X,Y]at O
  rw[ky,O,<-hh,cp,bm,aM K]
  have:z.toNat+4294967296*(B.toNat+4294967296*y.toNat)=(y.toNat*4294967296+B.toNat)*4294967296+z.toNat:=by omega
  rw[this]; omega
 rw[hK]at eV N
 have R:=ew (n:=j) (show 0<4294967296 by decide)
 have b6:(h*4294967296+z.toNat)*K+I<4294967296*val v:=by
  rw[<-eU,fh R,aM]
  rw[bo,aF]at hu
  exact hu
 -- the first word is no greater than the divisor's
 have cf:y.toNat<=k.toNat:=by
  rcases bX k.toNat y.toNat with O | O
  ·exfalso
   have a1:(k.toNat*4294967296+A.toNat+1)*K<=(y.toNat*4294967296)*K:=aT _ (by omega)
   have a2:val v<(k.toNat*4294967296+A.toNat+1)*K:=by rw[eV,aU (k.toNat*4294967296+A.toNat) 1 K,cy]; exact Nat.add_lt_add_left N _
   have a4:=aT K (show 4294967296*(y.toNat*4294967296)<=h*4294967296+z.toNat by omega)
   rw[aF 4294967296]at a4
   omega
  ·exact O
 have ac:¬k.toUInt64=0:=by
  intro h0
  have:=da UInt64.toNat h0
  rw[di]at this
  simp at this
  omega
 obtain⟨H,hH⟩:∃H,(c8 y.toUInt64 32) ||| B.toUInt64=H:=⟨_,rfl⟩
 have ad:H.toNat=h:=by rw[<-hH,zS,<-hh]; omega
 have ap:(H / k.toUInt64).toNat=h / k.toNat:=by rw[fi,di,ad]
 have bx:(H%k.toUInt64).toNat=h%k.toNat:=by rw[dq,di,ad]
 have c4:=de h k.toNat
 have c5:=bH h (show 0<k.toNat by omega)
 obtain⟨g,hg,g1,g2,g3⟩:=JY v u q j k A z h K I (val (v.take (v.length - 2))) hn hj hs Y eV b4 N (by omega) b6 (by omega) _ (H / k.toUInt64) (H%k.toUInt64) rfl
  (by rw[ap,bx,aM]; omega) (by rw[bx]; omega) (by
   rw[ap]
   have a1:h+1<=(h / k.toNat+1)*k.toNat:=by rw[aU,aM (h / k.toNat)]; omega
   have a2:(h+1)*(4294967296*K)<=(h / k.toNat+1)*k.toNat*(4294967296*K):=aT _ a1
   have a3:(h / k.toNat+1)*(k.toNat*(4294967296*K))<=(h / k.toNat+1)*val v:=by
    refine bj _ ?_
    rw[eV,aU,aF]; omega
   have a4:(h*4294967296+z.toNat+1)*K<=(h+1)*(4294967296*K):=by
    rw[<-aF]; exact aT _ (by omega)
   rw[aU (h*4294967296+z.toNat) 1 K,cy]at a4
   rw[aF]at a2
   omega)
 have c0:=Nat.div_mul_le_self (val u) (4294967296^j)
 have c6:=Nat.lt_div_mul_add R (a:=val u)
 obtain⟨d,G,r1,r2⟩:=NW v u q j g g1 hj hq hs b7
  (by
   have:=bj (4294967296^j) (show val u / 4294967296^j+1<=(g.toNat+1)*val v by rw[eU]; omega)
   rw[aE,cE,aM _ (val u / _)]at this
   omega)
  (by
   have:=bj (4294967296^j) (show g.toNat*val v<=val u / 4294967296^j+val v by rw[eU]; omega)
   rw[aE _ (val u / _),aM _ (val u / _)]at this
   omega) Z
 refine⟨d,G,?_,r2⟩
 have w2:wI ((j:Int)+(v.length:Int))=((j+v.length:Nat):Int):=by rw[aC (by omega) (by omega)]; rfl
 have w3:wI ((((j+v.length:Nat):Int)) - 1)=((j+v.length - 1:Nat):Int):=by rw[aC (by omega) (by omega)]; omega
 rw[J,U]
 unfold F.WQ
 dsimp only
 rw[ag (ai (by omega)),w2,w3,bg hj 0,aa,bg (show j+v.length - 1<u.length by omega) 0,aa,aD,V,X,hH,grd_true _ ac,grd_true _ ac,hg]
 unfold F.WB
 exact r1
theorem I7 (s:UInt64) (v:L00) (A:Nat) (hn:2<=v.length) (z:2147483648<=(v.getD (v.length - 1) 0).toNat) (J:s.toNat<32) :
  ∀(k:Nat) (u q:L00),k+v.length<=u.length->k<=q.length->u.length<=70368744177664->q.length<=70368744177664->(∀i,i<k->q.getD i 0=0)->val q*val v+val u=A->val u<4294967296^k*val v ->
   loop (F.WQ s v (v.getD (v.length - 1) 0) (v.getD (v.length - 2) 0)) ((k:Int) - 1,u,q)=some (ar (A / val v),ar (A%val v / 2^s.toNat)):=by
 have N:0<val v:=by
  rw[rP v (v.length - 1) (by omega)]
  have:=Nat.mul_pos (ew (n:=v.length - 1) (show 0<4294967296 by decide)) (show 0<(v.getD (v.length - 1) 0).toNat+4294967296*val (v.drop (v.length - 1+1)) by omega)
  omega
 intro k
 induction k with
 | zero=>
  intro u q R U O B G y j
  rw[gB,cy]at j
  have eq:A / val v=val q:=by rw[<-y,cw,Nat.add_mul_div_right _ _ N,cA j,bk]
  have V:A%val v=val u:=by rw[<-y,cw,gS,az j]
  refine bD ?_
  unfold F.WQ
  dsimp only
  have ac:(ar (val u)).length<=u.length:=bu (cv u)
  rw[ae (by decide),lH _ (by omega),aa,lH _ (by omega),aa,Jm _ _ J (by omega),aa,ay,eq,V]; rfl
 | succ k ih=>
  intro u q R U O B G y j
  have X:(((k+1:Nat):Int)) - 1=(k:Int):=by omega
  obtain⟨d,Y,Z,r2,r3,r4,r5⟩:=Iz s v u q k hn z (by omega) (by omega) O B j
  rw[X,bn Z]
  refine ih Y _ (by omega) (by simp; omega) (by omega) (by simpa using B) (fun i hi=>by rw[io (by omega)]; exact G i (by omega)) ?_ r4
  have I:=jv q k d.toUInt32 (by omega)
  rw[G k (by omega)]at I
  have z0:(0:UInt32).toNat=0:=rfl
  rw[z0,cp,bm]at I
  rw[I,jA,az (by omega),aU,aF,<-y]
  omega
theorem P8 (a b:L00) (ha:Can a) (hb:Can b) (h0:b≠[]) (dc:a.length<=70368744177660) (dd:b.length<=70000000000) :
  F.Vg a b=some (ar (val a / val b),ar (val a%val b)):=by
 have O:b.length≠0:=fun h=>h0 (bp h)
 have df:0<val b:=by
  rcases bQ (val b) with h | h
  ·exact absurd (OR hb xB h) h0
  ·exact h
 unfold F.Vg
 rw[ae (by simpa using fun h=>O (by rw[h]; rfl)),u6 a b ha hb (by omega) (by omega),aa]
 unfold eD
 by_cases h1:val a<val b
 ·rw[ag h1,ag (by decide)]
  have dk:a.length<=b.length:=by
   rcases bX b.length a.length with h | h
   ·have:=tt ha h; omega
   ·exact h
  unfold F.U4
  have b2:apO 4 [] a=some a:=by unfold apO; rw[ag (by simp; omega)]; simp
  rw[b2,aa,aa,cA h1,az h1,cI,nX a ha]
 ·rw[ae h1,ae (by split <;> decide)]
  have d0:b.length<=a.length:=by
   rcases bX a.length b.length with h | h
   ·exact absurd (tt hb h) h1
   ·exact h
  by_cases h2:a.length<=2
  ·rw[ag (ai (by omega))]
   obtain⟨x,hx,ex⟩:=Bb a h2
   obtain⟨y,hy,Y⟩:=Bb b (by omega)
   have R:¬y=0:=fun h=>by rw[h]at Y; simp at Y; omega
   rw[hx,aa,hy,aa,grd_true _ R,nG,aa,grd_true _ R,nG,aa,fi,dq,ex,Y]
  ·rw[ae (by simp only[ak]; omega)]
   by_cases h3:b.length=1
   ·rw[ag (by simp[h3]),show (0:Int)=((0:Nat):Int) from rfl,bg (show 0<b.length by omega) 0,aa]
    have G:val b=(b.getD 0 0).toNat:=by
     match b,h3 with
     | [x],_=>simp[val]
    have hd:b.getD 0 0≠0:=fun h=>by rw[h]at G; simp at G; omega
    obtain⟨r,hr,er⟩:=JV a (b.getD 0 0) hd (by omega)
    rw[hr,aa,lH _ (by simp),aa,<-G]
    rw[<-G]at er
    simp only[gD,jy,cp,bm,er]
   ·rw[ae (by simpa using fun h=>h3 (by omega)),length_eq b (by omega),aa]
    have B:nR b=32*(b.length - 1)+nb (b.getD (b.length - 1) 0).toNat:=by unfold nR; rw[ae O]
    obtain⟨j,I⟩:∃j,b.getD (b.length - 1) 0=j:=⟨_,rfl⟩
    rw[I]at B
    have Z:j≠0:=by
     intro h
     refine hb ?_
     rw[List.getLast?_eq_getElem?]
     rw[<-I,an,av (show b.length - 1<b.length by omega)]at h
     rw[av (show b.length - 1<b.length by omega),<-h]; rfl
    have b4:j.toNat≠0:=fun h=>Z (cM.1 h)
    obtain⟨n1,n2⟩:=gv j.toNat
    obtain⟨n3,n4⟩:=n2 b4
    have n5:=Jk j
    obtain⟨z,hz⟩:∃z,nb j.toNat=z:=⟨_,rfl⟩
    rw[hz]at n1 n3 n4 n5 B
    -- the shift
    have es:UInt64.ofInt (wI ((wI (32 - (Int.tmod (wI ((nR b:Int) - 1)) 32))) - 1))=UInt64.ofNat (32 - z):=by
     rw[aC (x:=(nR b:Int) - 1) (by omega) (by omega)]
     have:Int.tmod ((nR b:Int) - 1) 32=(z:Int) - 1:=by
      rw[B]
      have:((32*(b.length - 1)+z:Nat):Int) - 1=((32*(b.length - 1)+(z - 1):Nat):Int):=by omega
      rw[this,cn (by omega)]
      omega
     rw[this,aC (x:=32 - ((z:Int) - 1)) (by omega) (by omega),aC (x:=32 - ((z:Int) - 1) - 1) (by omega) (by omega),show (32 - ((z:Int) - 1)) - 1=((32 - z:Nat):Int) by omega]
     apply cx.1
     rw[UInt64.ofInt,bS,bS]; omega
    rw[es,aD]
    obtain⟨s,hs⟩:∃s,UInt64.ofNat (32 - z)=s:=⟨_,rfl⟩
    have U:s.toNat=32 - z:=by rw[<-hs,bS]; omega
    have b6:s.toNat<32:=by omega
    rw[hs,wJ b s (by omega) (by omega),aa]
    -- the divisor shifted
    have b7:2^z*2^(32 - z)=4294967296:=by rw[<-bU,show z+(32 - z)=32 by omega]
    have ab:2^(z - 1)*2^(32 - z)=2147483648:=by rw[<-bU,show z - 1+(32 - z)=31 by omega]
    have ev:val b=val (b.take (b.length - 1))+4294967296^(b.length - 1)*j.toNat:=by
     have:=cK b (b.length - 1)
     rwa [show b.length - 1+1=b.length by omega,cZ,I]at this
    have d1:val (b.take (b.length - 1))<4294967296^(b.length - 1):=by
     have:=cv (b.take (b.length - 1))
     rwa [aJ,bf (by omega)]at this
    have b8:val b*2^s.toNat<4294967296^b.length:=by
     have a1:val b<4294967296^(b.length - 1)*2^z:=by
      have:4294967296^(b.length - 1)*(j.toNat+1)<=4294967296^(b.length - 1)*2^z:=bj _ n1
      rw[aE]at this
      omega
     have a2:=Nat.mul_lt_mul_of_pos_right a1 (dA (32 - z))
     rw[aF,b7,<-bo,Nat.succ_eq_add_one,show b.length - 1+1=b.length by omega]at a2
     rw[U]; exact a2
    have J:4294967296^(b.length - 1)*2147483648<=val b*2^s.toNat:=by
     rw[U,<-ab,<-aF]
     refine aT _ ?_
     have:4294967296^(b.length - 1)*2^(z - 1)<=4294967296^(b.length - 1)*j.toNat:=bj _ n3
     omega
    obtain⟨v,hv⟩:∃v,ar (val b*2^s.toNat)=v:=⟨_,rfl⟩
    have V:val v=val b*2^s.toNat:=by rw[<-hv,ay]
    have X:v.length=b.length:=by
     have a1:=bu b8
     have a2:=ss (n:=val b*2^s.toNat) (k:=b.length - 1) (by
      refine ba ?_ J
      exact eJ _ (by decide))
     rw[hv]at a1 a2
     omega
    have ad:2147483648<=(v.getD (v.length - 1) 0).toNat:=by
     have a1:=cK v (v.length - 1)
     rw[show v.length - 1+1=v.length by omega,cZ]at a1
     have a2:=cv (v.take (v.length - 1))
     rw[aJ,bf (by omega)]at a2
     rw[X]at a1 a2 ⊢
     rcases bX (v.getD (b.length - 1) 0).toNat 2147483648 with h | h
     ·have:4294967296^(b.length - 1)*((v.getD (b.length - 1) 0).toNat+1)<=4294967296^(b.length - 1)*2147483648:=bj _ h
      rw[aE]at this
      omega
     ·exact h
    rw[hv]
    -- the dividend shifted
    have w2:wI ((a.length:Int)+2)=((a.length+2:Nat):Int):=by rw[aC (by omega) (by omega)]; rfl
    rw[w2,iK (by omega),aa,am,wJ a s (by omega) (by omega),aa]
    have ap:2^s.toNat<=4294967296:=by
     have:=aZ (show 0<2 by decide) (show s.toNat<=32 by omega)
     have e:(2:Nat)^32=4294967296:=rfl
     omega
    have N:val a*2^s.toNat<4294967296^(a.length+1):=by
     have a1:=cv a
     have a2:=ef (show val a+1<=4294967296^a.length from a1) ap
     rw[<-bo,aU]at a2
     have:=dA s.toNat
     omega
    obtain⟨A,hA⟩:∃A,val a*2^s.toNat=A:=⟨_,rfl⟩
    rw[hA]at N ⊢
    have d2:=bu N
    have b9:cpL (List.replicate (a.length+2) (0:UInt32)) (ar A) 0 (List.replicate (a.length+2) (0:UInt32)).length=pad (ar A) (a.length+2):=by
     unfold cpL pad
     simp only[bq,f9,fX,bN,bk]
     rw[aA (by omega),bf (by omega),List.drop_replicate]
    rw[b9,aD,mf (by omega)]
    have w5:wI ((wI (((a.length+2:Nat):Int) - (v.length:Int))) - 1)=((a.length+1 - b.length:Nat):Int):=by
     rw[X,aC (x:=((a.length+2:Nat):Int) - (b.length:Int)) (by omega) (by omega),aC (by omega) (by omega)]; omega
    have w6:wI (((a.length+1 - b.length:Nat):Int)+1)=((a.length+2 - b.length:Nat):Int):=by rw[aC (by omega) (by omega)]; omega
    have w7:wI ((v.length:Int) - 1)=((v.length - 1:Nat):Int):=by rw[aC (by omega) (by omega)]; omega
    have w8:wI ((v.length:Int) - 2)=((v.length - 2:Nat):Int):=by rw[aC (by omega) (by omega)]; omega
    rw[w5,aD,w6,iK (by omega),aa,am,w7,bg (show v.length - 1<v.length by omega) 0,aa,w8,bg (show v.length - 2<v.length by omega) 0,aa]
    have ce:∀i,(List.replicate (a.length+2 - b.length) (0:UInt32)).getD i 0=0:=fun i=>by
     rw[an,gt]; split <;> rfl
    have hL:=I7 s v A (by omega) ad b6 (a.length+2 - b.length) (pad (ar A) (a.length+2)) (List.replicate (a.length+2 - b.length) 0)
     (by rw[mf (by omega)]; omega) (by simp) (by rw[mf (by omega)]; omega) (by simp; omega) (fun i _=>ce i) (by rw[gH,qp,ay]; omega) (by
      rw[qp,ay]
      refine aW N ?_
      have a1:=bj (4294967296^(a.length+2 - b.length)) (ba (eJ (4294967296^(b.length - 1)) (show 0<2147483648 by decide)) J)
      rw[<-V,<-bU,show a.length+2 - b.length+(b.length - 1)=a.length+1 by omega]at a1
      exact a1)
    rw[show (((a.length+2 - b.length:Nat):Int)) - 1=((a.length+1 - b.length:Nat):Int) by omega]at hL
    rw[hL,V,<-hA,Nat.mul_div_mul_right _ _ (dA _),Nat.mul_mod_mul_right,Nat.mul_div_cancel _ (dA _)]
def bi (z:Int):Bool×L00:=(decide (z<0),ar z.natAbs)
def nl (z:Int):Nat:=(ar z.natAbs).length
theorem GO (n:Nat):bi (n:Int)=(false,ar n):=by
 unfold bi
 rw[au (by omega),cG]
theorem bi1 {z:Int} (h:0<=z):(bi z).1=false:=au (by omega)
theorem bi2 (z:Int):(bi z).2=ar z.natAbs:=rfl
theorem bis (z:Int):(bi z).1=decide (z<0):=rfl
theorem qD (z:Int):Can (bi z).2:=yu _
theorem qH (z:Int):val (bi z).2=z.natAbs:=ay _
theorem mH {n:Nat}:ar n=[]↔n=0:=⟨fun h=>by have:=ay n; rw[h]at this; simpa [val] using this.symm,fun h=>by rw[h,cI]⟩
theorem mG {n:Nat}:0<(ar n).length↔n≠0:=by
 rw[fb,Ne,mH]
theorem gz {a b:Nat} (h:a<=b):(ar a).length<=(ar b).length:=
 bu (dw h (by have:=cv (ar b); rwa [ay]at this))
theorem Lt {x y:Int} (h:x.natAbs<=y.natAbs):(bi x).2.length<=(bi y).2.length:=gz h
theorem lS (a b:Nat):(ar (a+b)).length<=max (ar a).length (ar b).length+1:=by
 refine bu ?_
 have j:=cv (ar a); have k:=cv (ar b)
 rw[ay]at j k
 have y:=aZ (show 0<4294967296 by decide) (Nat.le_max_left (ar a).length (ar b).length)
 have z:=aZ (show 0<4294967296 by decide) (Nat.le_max_right (ar a).length (ar b).length)
 rw[bo]
 omega
theorem pz (a b:Nat):(ar (a*b)).length<=(ar a).length+(ar b).length:=by
 by_cases hb:b=0
 ·subst hb; simp[cI]
 refine bu ?_
 have j:=cv (ar a); have k:=cv (ar b)
 rw[ay]at j k
 rw[bU]
 exact Nat.mul_lt_mul_of_lt_of_le j (cz k) (eF (by have:=ew (n:=(ar b).length) (show 0<4294967296 by decide); omega))
theorem Bp (x y:Int):nl (x*y)<=nl x+nl y:=by
 unfold nl; rw[Int.natAbs_mul]; exact pz _ _
theorem Bh (x y:Int):nl (x+y)<=max (nl x) (nl y)+1:=by
 unfold nl
 exact ba (gz (Int.natAbs_add_le x y)) (lS _ _)
theorem Gf (x:Int):nl (-x)=nl x:=by unfold nl; rw[Int.natAbs_neg]
theorem GN (x y:Int):nl (x - y)<=max (nl x) (nl y)+1:=by
 rw[Int.sub_eq_add_neg,<-Gf y]; exact Bh x (-y)
theorem kR {x y:Int} (h:x.natAbs<=y.natAbs):nl x<=nl y:=gz h
theorem zM {z:Int} {k:Nat} (h:z.natAbs<4294967296^k):nl z<=k:=bu h
theorem rS (x:Int) {m:Int} (h:0<m):nl (x%m)<=nl m:=kR (by
 have:=iF x (show m≠0 by omega); have:=Int.emod_lt_of_pos x h; omega)
theorem xr (n0:Bool) (j:L00) (b:Bool) (a:L00):F.Tc n0 j b a=some (b&&decide (a≠[]),a):=by
 unfold F.Tc F.ZQ
 cases b with
 | false=>rfl
 | true=>
  simp only[al,dP]
  congr 2
  cases a <;> simp
theorem kW (n0:Bool) (k:L00) (b:Bool) (z:Int) (h:z≠0->(b=true↔z<0)):F.Tc n0 k b (ar z.natAbs)=some (bi z):=by
 rw[xr]
 congr 1
 unfold bi
 congr 1
 by_cases h0:z=0
 ·subst h0
  rw[show ar (Int.natAbs 0)=[] from cI]
  simp
 ·have j:ar z.natAbs≠[]:=by rw[Ne,mH]; omega
  simp only[ne_eq,j,iW,gp,Bool.and_true]
  have:=h h0
  cases b with
  | true=>exact (ai (this.1 rfl)).symm
  | false=>exact (au (fun hz=>by have:=this.2 hz; cases this)).symm
theorem CB (x y:Int) (hx:nl x<=70000000000000) (B:nl y<=70000000000000):∃b,F.T8 (bi x).1 (bi x).2 (bi y).1 (bi y).2=some (b,ar (x+y).natAbs)/\(x+y≠0->(b=true↔x+y<0)):=by
 unfold F.T8
 have G:(bi x).2.length<=70000000000000:=hx
 have I:(bi y).2.length<=70000000000000:=B
 have j:val (bi x).2=x.natAbs:=ay _
 have k:val (bi y).2=y.natAbs:=ay _
 have z:(bi x).1=decide (x<0):=rfl
 have A:(bi y).1=decide (y<0):=rfl
 by_cases hs:(decide (x<0))=(decide (y<0))
 ·rw[z,A,ag (by rw[hs]; exact d8 _),vC _ _ (by omega) (by omega),aa,j,k]
  have:(x<0)↔(y<0):=by simpa using hs
  refine⟨_,by rw[show (x+y).natAbs=x.natAbs+y.natAbs by omega],fun _=>?_⟩
  rw[ak]; omega
 ·have:¬((x<0)↔(y<0)):=by simpa using hs
  rw[z,A,ae (by simpa using hs),u6 _ _ (qD _) (qD _) (by omega) (by omega),aa,j,k]
  unfold eD
  by_cases h1:x.natAbs<y.natAbs
  ·rw[ag h1,ae (by decide),CA _ _ (Lt (by omega)) (by rw[j,k]; omega) (by omega),aa,j,k]
   refine⟨_,by rw[show (x+y).natAbs=y.natAbs - x.natAbs by omega],fun _=>?_⟩
   rw[ak]; omega
  ·rw[ae h1,ag (by split <;> decide),CA _ _ (Lt (by omega)) (by rw[j,k]; omega) (by omega),aa,j,k]
   refine⟨_,by rw[show (x+y).natAbs=x.natAbs - y.natAbs by omega],fun _=>?_⟩
   rw[ak]; omega
theorem Oo (n0:Bool) (j:L00) (x y:Int) (hx:nl x<=70000000000000) (k:nl y<=70000000000000):F.WI n0 j (bi x).1 (bi x).2 (bi y).1 (bi y).2=some (bi (x+y)):=by
 unfold F.WI
 obtain⟨b,z,A⟩:=CB x y hx k
 rw[z,aa,kW _ _ _ _ A,aa]
theorem vk (x y:Int) (hx:nl x<=70000000000000) (j:nl y<=70000000000000):F.UC (bi x).1 (bi x).2 (bi y).1 (bi y).2=some (bi (x+y)):=by
 unfold F.UC
 obtain⟨b,k,z⟩:=CB x y hx j
 rw[k,aa,kW _ _ _ _ z,aa]
theorem xy (x y:Int) (hx:nl x<=70000000000000) (z:nl y<=70000000000000):∃b,F.T8 (bi x).1 (bi x).2 (!(bi y).1) (bi y).2=some (b,ar (x - y).natAbs)/\(x - y≠0->(b=true↔x - y<0)):=by
 by_cases h0:y=0
 ·
  subst h0
  unfold F.T8
  have J:(bi x).2.length<=70000000000000:=hx
  have A:(bi 0).2=[]:=cI
  have es:(bi 0).1=false:=rfl
  have k:val (bi x).2=x.natAbs:=ay _
  rw[A,es]
  have j:(bi x).1=decide (x<0):=rfl
  by_cases hs:x<0
  ·rw[j,ag (by rw[ai hs]; rfl),vC _ _ (by omega) (by simp),aa,k,jy]
   refine⟨_,by rw[show (x - 0).natAbs=x.natAbs+0 by omega],fun _=>by rw[ak]; omega⟩
  ·rw[j,ae (by rw[au hs]; decide),u6 _ _ (qD _) xB (by omega) (by simp),aa,k,jy]
   have B:eD x.natAbs 0=if x.natAbs=0 then 0 else 1:=by unfold eD; rw[ae (by omega)]
   rw[B,ag (by split <;> decide),CA _ _ (by simp) (by rw[jy]; omega) (by omega),aa,k,jy]
   refine⟨_,by rw[show (x - 0).natAbs=x.natAbs - 0 by omega],fun _=>by rw[ak]; omega⟩
 ·have G:(!(bi y).1)=(bi (-y)).1:=by
   unfold bi
   by_cases h:y<0
   ·rw[ai h,au (by omega)]; rfl
   ·rw[au h,ai (by omega)]; rfl
  have I:(bi y).2=(bi (-y)).2:=by rw[bi2,bi2,Int.natAbs_neg]
  rw[G,I,Int.sub_eq_add_neg]
  exact CB x (-y) hx (by rw[Gf]; exact z)
theorem HY (n0:Bool) (j:L00) (x y:Int) (hx:nl x<=70000000000000) (k:nl y<=70000000000000):F.Wd n0 j (bi x).1 (bi x).2 (bi y).1 (bi y).2=some (bi (x - y)):=by
 unfold F.Wd
 obtain⟨b,z,A⟩:=xy x y hx k
 rw[z,aa,kW _ _ _ _ A,aa]
theorem EN (x y:Int) (hx:nl x<=70000000000000) (j:nl y<=70000000000000):F.UR (bi x).1 (bi x).2 (bi y).1 (bi y).2=some (bi (x - y)):=by
 unfold F.UR
 obtain⟨b,k,z⟩:=xy x y hx j
 rw[k,aa,kW _ _ _ _ z,aa]
theorem EA (x y:Int) (hx:nl x<=70000000000000) (j:nl y<=70000000000000):F.XM (bi y).1 (bi y).2 (bi x).1 (bi x).2=some (bi (x - y)):=by
 unfold F.XM
 obtain⟨b,k,z⟩:=xy x y hx j
 rw[k,aa,kW _ _ _ _ z,aa]
theorem NF (x y:Int) (h:x*y≠0):((decide (x<0) != decide (y<0))=true↔x*y<0):=by
 have hx:x≠0:=fun j=>h (by rw[j,Int.zero_mul])
 have k:y≠0:=fun j=>h (by rw[j,Int.mul_zero])
 by_cases h1:x<0 <;> by_cases h2:y<0
 ·have:=Int.mul_pos_of_neg_of_neg h1 h2
  simp[h1,h2]; omega
 ·have:=Int.mul_neg_of_neg_of_pos h1 (show 0<y by omega)
  simp[h1,h2,this]
 ·have:=Int.mul_neg_of_pos_of_neg (show 0<x by omega) h2
  simp[h1,h2,this]
 ·have:=Int.mul_pos (show 0<x by omega) (show 0<y by omega)
  simp[h1,h2]; omega
theorem A4 (n0:Bool) (j:L00) (x y:Int) (h:nl x+nl y<=70368744177664):F.Vn n0 j (bi x).1 (bi x).2 (bi y).1 (bi y).2=some (bi (x*y)):=by
 unfold F.Vn
 have k:(bi x).2.length+(bi y).2.length<=70368744177664:=h
 rw[Iv _ _ (by omega),aa,qH,qH,<-Int.natAbs_mul,bis,bis,kW _ _ _ _ (NF x y),aa]
theorem C0 (n0:Bool) (k:L00) (x:Int) (z:-9223372036854775808<=x) (A:x<=9223372036854775807):F.VO n0 k x=some (bi x):=by
 have j:∀u:UInt64,u.toNat=x.natAbs->F.Zh n0 k x u=some (bi x):=by
  intro u hu
  unfold F.Zh
  dsimp only
  rw[nG,aa,hu,kW _ _ _ _ (fun _=>by rw[ak]),aa]
 unfold F.VO
 have y:(UInt64.ofInt x).toNat=(x%18446744073709551616).toNat:=by
  rw[UInt64.ofInt,bS]
  have:=iF x (show (18446744073709551616:Int)≠0 by decide)
  have:=Int.emod_lt_of_pos x (show (0:Int)<18446744073709551616 by decide)
  omega
 by_cases h:x<0
 ·rw[ag (ai h)]
  refine j _ ?_
  rw[fj,y]
  have:(0:UInt64).toNat=0:=rfl
  omega
 ·rw[ae (by simpa using h)]
  refine j _ ?_
  rw[y]; omega
theorem mZ (x:Int) (j:-9223372036854775808<=x) (k:x<=9223372036854775807):F.TG x=some (bi x):=by
 unfold F.TG
 rw[C0 _ _ x j k,aa]
theorem DU (a:L00) (h:a.length<=50000000000000):F.U4 a=some a:=by
 unfold F.U4
 have j:apO 4 [] a=some a:=by unfold apO; rw[ag (by simp; omega)]; simp
 rw[j,aa]
theorem B4 (n0:Bool) (j:L00) (x:Int) (h:nl x<=50000000000000):F.UH n0 j (bi x).1 (bi x).2=some (bi x):=by
 unfold F.UH
 rw[DU (bi x).2 h,aa,bi2,bis,kW _ _ _ _ (fun _=>by rw[ak]),aa]
theorem AD (x y:Int):(Int.tdiv x y).natAbs=x.natAbs / y.natAbs:=Int.natAbs_tdiv x y
theorem qU (x y:Int):(Int.tmod x y).natAbs=x.natAbs%y.natAbs:=Int.natAbs_tmod x y
theorem rV (n0 k:Bool) (z A:L00) (x y:Int) (J:y≠0) (B:nl x<=70368744177660) (G:nl y<=70000000000) :
  F.V6 n0 z (bi x).1 (bi x).2 (bi y).1 (bi y).2 k A=some ((bi (Int.tdiv x y)).1,(bi (Int.tdiv x y)).2,(bi (Int.tmod x y)).1,(bi (Int.tmod x y)).2):=by
 unfold F.V6
 rw[P8 _ _ (qD _) (qD _) (by rw[bi2,Ne,mH]; omega) B G,aa,qH,qH]
 dsimp only
 rw[bis,bis,<-AD,<-qU,kW _ _ _ _ (fun h=>?_),aa,kW _ _ _ _ (fun h=>?_),aa]
 ·show decide (x<0)=true↔_
  rw[ak]
  rcases Int.lt_trichotomy x 0 with j | j | j
  ·have:=Int.tmod_nonneg y (show 0<=-x by omega)
   rw[Int.neg_tmod]at this
   omega
  ·subst j; simp at h
  ·have:=Int.tmod_nonneg y (show 0<=x by omega)
   omega
 ·have hp:Int.tdiv x y≠0:=h
  show (decide (x<0) != decide (y<0))=true↔_
  by_cases hx:x<0 <;> by_cases hyn:y<0
  ·have:=Int.tdiv_nonneg_of_nonpos_of_nonpos (show x<=0 by omega) (show y<=0 by omega)
   simp[hx,hyn]; omega
  ·simp only[hx,hyn,gp,dg]
   have I:Int.tdiv x y<=0:=by
    have:=Int.tdiv_nonneg (a:=-x) (b:=y) (by omega) (by omega)
    rw[Int.neg_tdiv]at this; omega
   simp; omega
  ·have I:Int.tdiv x y<=0:=by
    have:=Int.tdiv_nonneg (a:=x) (b:=-y) (by omega) (by omega)
    rw[Int.tdiv_neg]at this; omega
   simp[hx,hyn]; omega
  ·have:=Int.tdiv_nonneg (a:=x) (b:=y) (by omega) (by omega)
   simp[hx,hyn]; omega
theorem HF {x y:Int} (j:0<y) (h:Int.tmod x y<0):Int.tdiv x y - 1=x / y/\Int.tmod x y+y=x%y:=by
 have k:=Int.mul_tdiv_add_tmod x y
 have z:(Int.tmod x y).natAbs<y.natAbs:=by rw[qU]; exact bH _ (by omega)
 have A:y*Int.tdiv x y=y*(Int.tdiv x y - 1)+y:=by rw[Int.mul_sub,Int.mul_one]; omega
 have:=(Int.ediv_emod_unique (a:=x) (b:=y) (q:=Int.tdiv x y - 1) (r:=Int.tmod x y+y) j).2 ⟨by omega,by omega,by omega⟩
 exact⟨this.1.symm,this.2.symm⟩
theorem FW {x y:Int} (j:0<y) (h:¬Int.tmod x y<0):Int.tdiv x y=x / y/\Int.tmod x y=x%y:=by
 have k:=Int.mul_tdiv_add_tmod x y
 have z:(Int.tmod x y).natAbs<y.natAbs:=by rw[qU]; exact bH _ (by omega)
 have:=(Int.ediv_emod_unique (a:=x) (b:=y) (q:=Int.tdiv x y) (r:=Int.tmod x y) j).2 ⟨by omega,by omega,by omega⟩
 exact⟨this.1.symm,this.2.symm⟩
theorem Mb (x y:Int):nl (Int.tdiv x y)<=nl x:=kR (by rw[AD]; exact dy _ _)
theorem NJ (x y:Int):nl (Int.tmod x y)<=nl x:=kR (by rw[qU]; exact Nat.mod_le _ _)
theorem Bz:nl 1<=1:=zM (by decide)
theorem yO (n0 B:Bool) (G I:L00) (x y:Int) (z:0<y) (J:nl x<=70368744177660) (N:nl y<=70000000000) (A:x<0->nl x<=70000000000000) :
  F.Wc n0 G (bi x).1 (bi x).2 (bi y).1 (bi y).2 B I=some ((bi (x / y)).1,(bi (x / y)).2,(bi (x%y)).1,(bi (x%y)).2):=by
 have O:=Mb x y; have R:=NJ x y; have U:=Bz
 unfold F.Wc
 rw[B4 _ _ _ (by omega),aa,rV _ _ _ _ _ _ (by omega) J N,aa]
 dsimp only
 by_cases h:Int.tmod x y<0
 ·obtain⟨j,k⟩:=HF z h
  have A:=A (by rcases Int.lt_or_le x 0 with hx | hx; exact hx; have:=Int.tmod_nonneg y hx; omega)
  rw[ag (show (bi (Int.tmod x y)).1=true from ai h),ae (by rw[bi1 (by omega)]; decide),mZ 1 (by decide) (by decide),aa,EN _ _ (by omega) (by omega),aa,vk _ _ (by omega) (by omega),aa,j,k]
  rfl
 ·obtain⟨j,k⟩:=FW z h
  rw[ae (by rw[show (bi (Int.tmod x y)).1=false from au h]; decide),j,k]
  rfl
theorem zr (n0 j y:Bool) (z k A:L00):F.ZO n0 z y A j k=F.Wc n0 z j k y A j k:=rfl
theorem Ie (n0:Bool) (j:L00) (x y:Int) (k:0<y) (z:nl x<=70368744177660) (A:nl y<=70000000000) (B:x<0->nl x<=70000000000000):F.Xv n0 j (bi x).1 (bi x).2 (bi y).1 (bi y).2=some (bi (x%y)):=by
 unfold F.Xv
 rw[yO _ _ _ _ x y k z A B,aa]
theorem Wq7 (x y:Int) (j:0<y) (k:nl x<=70368744177660) (z:nl y<=70000000000) (A:x<0->nl x<=70000000000000):F.Zi (bi x).1 (bi x).2 (bi y).1 (bi y).2=some (bi (x%y)):=by
 unfold F.Zi
 rw[zr,yO _ _ _ _ x y j k z A,aa]
def As (x y:Int):Int:=if x<y then -1 else if x=y then 0 else 1
theorem vd (x y:Int) (hx:nl x<=70368744177664) (z:nl y<=70368744177664):F.UM (bi x).1 (bi x).2 (bi y).1 (bi y).2=some (As x y):=by
 have G:(bi x).2.length<=70368744177664:=hx
 have I:(bi y).2.length<=70368744177664:=z
 unfold F.UM As
 rw[u6 _ _ (qD x) (qD y) (by omega) (by omega),qH,qH]
 unfold eD
 have j:(bi x).1=decide (x<0):=rfl
 have k:(bi y).1=decide (y<0):=rfl
 obtain⟨J,A⟩:∃q,(bi x).1=q:=⟨_,rfl⟩
 obtain⟨N,B⟩:∃q,(bi y).1=q:=⟨_,rfl⟩
 rw[A]at j ⊢; rw[B]at k ⊢
 by_cases h1:x<0 <;> by_cases h2:y<0
 ·rw[ai h1]at j; rw[ai h2]at k; subst j; subst k
  rw[ae (by decide),aa,ag rfl]
  rcases Int.lt_trichotomy x y with h | h | h
  ·rw[ag h,ae (by omega),ae (by omega)]; rfl
  ·rw[ae (by omega),ag (by omega),ae (by omega),ag h]; rfl
  ·rw[ag (by omega),ae (by omega),ae (by omega)]; rfl
 ·rw[ai h1]at j; rw[au h2]at k; subst j; subst k
  rw[ag (by decide),ag rfl,ag (by omega)]
 ·rw[au h1]at j; rw[ai h2]at k; subst j; subst k
  rw[ag (by decide),ae (by decide),ae (by omega),ae (by omega)]
 ·rw[au h1]at j; rw[au h2]at k; subst j; subst k
  rw[ae (by decide),aa,ae (by decide)]
  rcases Int.lt_trichotomy x y with h | h | h
  ·rw[ag (by omega),ag h]
  ·rw[ae (by omega),ag (by omega),ae (by omega),ag h]
  ·rw[ae (by omega),ae (by omega),ae (by omega),ae (by omega)]
theorem wU (x:Int):F.TM (bi x).1 (bi x).2=some (if x=0 then 0 else if x<0 then -1 else 1):=by
 unfold F.TM
 by_cases h:x=0
 ·subst h; rw[ag rfl]; exact ag (by rw[bi2,show Int.natAbs 0=0 from rfl,cI]; rfl)
 ·have:(bi x).2.length≠0:=fun j=>h (by have:=bp j; rw[bi2,mH]at this; omega)
  rw[ae (by simpa using fun j=>this (by rw[j]; rfl)),ae h,bis]
  by_cases h1:x<0
  ·rw[ag (by simp[h1]),ag h1]
  ·rw[ae (by simp[h1]),ae h1]
def beN:L01->Nat
 | []=>0
 | x :: l=>x.toNat*256^l.length+beN l
def beB:Nat->Nat->L01
 | 0,_=>[]
 | k+1,n=>UInt8.ofNat (n / 256^k) :: beB k n
theorem mb:∀k n,(beB k n).length=k
 | 0,_=>rfl
 | k+1,n=>by simp[beB,mb k n]
theorem lF:∀l:L01,beN l<256^l.length
 | []=>by simp[beN]
 | x :: l=>by
  have j:=lF l; have k:=x.toNat_lt
  have:(x.toNat+1)*256^l.length<=256*256^l.length:=aT _ (by omega)
  rw[aU]at this
  rw[beN,bY,bo,aM (256^_) 256]
  omega
theorem wD:∀k n,beN (beB k n)=n%256^k
 | 0,n=>by simp[beB,beN,Nat.mod_one]
 | k+1,n=>by
  rw[beB,beN,mb,wD k n,dZ,show (2:Nat)^8=256 from rfl,Nat.mod_pow_succ,aM (256^k),cw]
theorem rh:∀a b:L01,beN (a++b)=beN a*256^b.length+beN b
 | [],b=>by simp[beN]
 | x :: a,b=>by
  rw[cW,beN,beN,rh a b,aQ,aU,bU,aF]; omega
theorem mI (l:L01) {i:Nat} (h:i<l.length):beN (l.take (i+1))=256*beN (l.take i)+(l.getD i 0).toNat:=by
 rw[List.take_add_one,an,av h,rh]
 simp[beN]; omega
theorem BZ:∀(k n i:Nat),i<k->(beB k n).getD i 0=UInt8.ofNat (n / 256^(k - 1 - i))
 | 0,_,_,h=>by omega
 | k+1,n,0,_=>by simp[beB]
 | k+1,n,i+1,h=>by
  rw[beB,List.getD_cons_succ,BZ k n i (by omega),show k+1 - 1 - (i+1)=k - 1 - i by omega]
theorem nk {n k:Nat} (h:n<256^k):(ar n).length<=(k+3) / 4:=by
 refine bu (aW h ?_)
 rw[show (4294967296:Nat)=256^4 from rfl,<-cu]
 exact aZ (by decide) (by omega)
theorem pR (n0:Bool) (k:L00) (b:L01) (hb:b.length<=140737488351232):F.Vi n0 k b=some (bi (beN b:Nat)):=by
 unfold F.Vi
 have e:=eN (f:=F.Yg n0 k b) (fun (x:Nat) i=>(ar x,(i:Int))) (fun i x=>i<=b.length->x=beN (b.take i)) (fun x i=>256*x+(b.getD i 0).toNat) 0 b.length
  (X:=fun x=>some (bi (x:Nat)))
  (fun i x _ hi hx=>by
   have hx:=hx (by omega)
   refine⟨?_,fun _=>by rw[hx,mI b hi]⟩
   have w4:wI ((i:Int)+1)=((i+1:Nat):Int):=by rw[aC (by omega) (by omega)]; rfl
   have hl:(ar x).length<=(i+3) / 4:=by
    rw[hx]
    have:=lF (b.take i)
    rw[aJ,bf (by omega)]at this
    exact nk this
   have y:(8:UInt64).toNat=8:=rfl
   unfold F.Yg
   dsimp only
   rw[ag (ai (by omega)),wJ _ 8 (by rw[y]; omega) (by omega),aa,bg hi 0,aa,nG,aa,ay,y]
   have z:(ar (x*2^8)).length<=(i+3) / 4+1:=by
    have:=pz x (2^8)
    have B:(ar (2^8)).length<=1:=bu (by decide)
    omega
   have A:(ar (b.getD i 0).toUInt64.toNat).length<=2:=bu (by have:=(b.getD i 0).toUInt64.toNat_lt; omega)
   rw[vC _ _ (by omega) (by omega),aa,ay,ay,w4]
   have:(b.getD i 0).toUInt64.toNat=(b.getD i 0).toNat:=UInt8.toNat_toUInt64 _
   rw[this,show x*2^8=256*x by omega]; rfl)
  (fun x hx=>by
   unfold F.Yg
   dsimp only
   rw[ae (by simp),xr,aa,GO]; rfl)
  b.length 0 0 (ax _) (by omega) (fun _=>by simp[beN])
 have j:=fG (fun i (x:Nat)=>i<=b.length->x=beN (b.take i)) (fun x i=>256*x+(b.getD i 0).toNat) (fun i x hx=>fun hi=>by rw[hx (by omega),mI b (by omega)]) b.length 0 0 (fun _=>by simp[beN])
 rw[bk]at j
 have j:=j (ax _)
 rw[j,cZ]at e
 rw[cI]at e
 exact e
theorem rM {n k:Nat} (j:n<2^k) (y:2^(k - 1)<=n) (z:1<=k):nb n=k:=by
 have a1:=lK j
 rcases bX (nb n) k with h | h
 ·have a2:=(gv n).1
  have a3:=aZ (show 0<2 by decide) (show nb n<=k - 1 by omega)
  omega
 ·omega
theorem pS (n:Nat):nR (ar n)=nb n:=by
 unfold nR
 by_cases h0:n=0
 ·subst h0; rw[cI,ag (show ([]:L00).length=0 from rfl),kS]
 ·obtain⟨l,hl⟩:∃l,ar n=l:=⟨_,rfl⟩
  have j:l.length≠0:=by have:=mG.2 h0; rw[hl]at this; omega
  have A:val l=n:=by rw[<-hl,ay]
  have hc:Can l:=by rw[<-hl]; exact yu n
  rw[hl,ae j]
  have k:=cK l (l.length - 1)
  rw[show l.length - 1+1=l.length by omega,cZ,A]at k
  have B:=cv (l.take (l.length - 1))
  rw[aJ,bf (by omega)]at B
  obtain⟨t,y⟩:∃t,l.getD (l.length - 1) 0=t:=⟨_,rfl⟩
  rw[y]at k ⊢
  have z:t.toNat≠0:=by
   intro h
   have h:t=0:=cM.1 h
   refine hc ?_
   rw[List.getLast?_eq_getElem?]
   rw[<-y,an,av (show l.length - 1<l.length by omega)]at h
   rw[av (show l.length - 1<l.length by omega),<-h]; rfl
  obtain⟨n1,G⟩:=gv t.toNat
  obtain⟨I,J⟩:=G z
  have hp:(4294967296:Nat)^(l.length - 1)=2^(32*(l.length - 1)):=by rw[cu]
  symm
  refine rM ?_ ?_ (by omega)
  ·rw[bU,<-hp]
   have:4294967296^(l.length - 1)*(t.toNat+1)<=4294967296^(l.length - 1)*2^nb t.toNat:=bj _ n1
   rw[aE]at this
   omega
  ·rw[show 32*(l.length - 1)+nb t.toNat - 1=32*(l.length - 1)+(nb t.toNat - 1) by omega,bU,<-hp]
   have:4294967296^(l.length - 1)*2^(nb t.toNat - 1)<=4294967296^(l.length - 1)*t.toNat:=bj _ I
   omega
def nby (n:Nat):Nat:=(nb n+7) / 8
theorem K2 (k:Nat):(256:Nat)^k=2^(8*k):=by rw[cu]
theorem vV (n:Nat):n<256^nby n:=by
 rw[K2]
 exact aW (gv n).1 (aZ (by decide) (by unfold nby; omega))
theorem GT {n i:Nat} (h:i<nby n):256^i<=n:=by
 rw[K2]
 have hn:n≠0:=by rintro rfl; unfold nby at h; rw[kS]at h; omega
 obtain⟨j,k⟩:=(gv n).2 hn
 exact ba (aZ (by decide) (by unfold nby at h; omega)) j
theorem GZ {n k:Nat} (h:n<256^k):nby n<=k:=by
 rcases bX k (nby n) with j | j
 ·have:=GT j; omega
 ·exact j
theorem mz (n:Nat):nb n<=32*(ar n).length:=by
 refine lK ?_
 have:=cv (ar n)
 rw[ay]at this
 rw[cu]; exact this
theorem ye (l:L00) (i:Nat):(dD (l.getD (i / 4) 0) (8*(i%4))).toUInt8=UInt8.ofNat (val l / 256^i):=by
 apply dz.1
 rw[UInt32.toNat_toUInt8,lI,dZ]
 have e8:(2:Nat)^8=256:=rfl
 rw[e8]
 have j:(256:Nat)^i=4294967296^(i / 4)*256^(i%4):=by
  rw[show (4294967296:Nat)=256^4 from rfl,<-cu,<-bU]; congr 1; omega
 rw[j,<-dN,ky,eh]
 obtain⟨w,hw⟩:∃w,(l.getD (i / 4) 0).toNat=w:=⟨_,rfl⟩
 obtain⟨R,k⟩:∃R,val (l.drop (i / 4+1))=R:=⟨_,rfl⟩
 rw[hw,k]
 have:i%4=0\/i%4=1\/i%4=2\/i%4=3:=by omega
 rcases this with h | h | h | h <;> rw[h] <;> simp <;> omega
theorem Ki (x:Int) (hx:nl x<=1000000000):F.X7 (bi x).1 (bi x).2=some (beB (nby x.natAbs) x.natAbs):=by
 obtain⟨n,hn⟩:∃n,x.natAbs=n:=⟨_,rfl⟩
 have hl:(ar n).length<=1000000000:=by rw[<-hn]; exact hx
 have hb:=mz n
 obtain⟨m,A⟩:∃m,nby n=m:=⟨_,rfl⟩
 have Y:m<=4*(ar n).length:=by rw[<-A]; unfold nby; omega
 unfold F.X7
 rw[bi2,hn,length_eq _ (by omega),aa,pS]
 have I:wI (Int.tdiv (wI ((nb n:Int)+7)) 8)=(m:Int):=by
  rw[aC (x:=(nb n:Int)+7) (by omega) (by omega),bJ (by omega),aC (by omega) (by omega),<-A]; unfold nby; omega
 rw[I,aD,iK (by omega),aa,am,A]
 have e:=eN (f:=F.ZJ (ar n) (m:Int)) (fun (y:L01) i=>((i:Int),y)) (fun i y=>i<=m->y=List.replicate (m - i) 0++beB i n) (fun y i=>y.set (m - 1 - i) (UInt8.ofNat (n / 256^i))) 0 m
  (X:=fun y=>some y)
  (fun i y _ hi j=>by
   have j:=j (by omega)
   have B:y.set (m - 1 - i) (UInt8.ofNat (n / 256^i))=List.replicate (m - (i+1)) 0++beB (i+1) n:=by
    rw[j,show m - i=m - (i+1)+1 by omega,List.replicate_succ',aN,show m - 1 - i=m - (i+1) by omega,dX _ _ (by simp)]
    simp[beB]
   refine⟨?_,fun _=>B⟩
   have G:i / 4<(ar n).length:=by
    refine ss (k:=i / 4) ?_
    refine ba ?_ (GT (show i<nby n by omega))
    rw[show (4294967296:Nat)=256^4 from rfl,<-cu]
    exact aZ (by decide) (by omega)
   have Z:y.length=m:=by rw[j]; simp[mb]; omega
   have w4:wI ((i:Int)+1)=((i+1:Nat):Int):=by rw[aC (by omega) (by omega)]; rfl
   have J:wI (Int.tdiv (i:Int) 4)=((i / 4:Nat):Int):=by rw[bJ (by omega),aC (by omega) (by omega)]; omega
   have N:wI ((wI ((m:Int) - 1)) - (i:Int))=((m - 1 - i:Nat):Int):=by rw[aC (x:=(m:Int) - 1) (by omega) (by omega),aC (by omega) (by omega)]; omega
   have O:(8*((UInt64.ofInt (i:Int))%4)).toNat=8*(i%4):=by
    have R:(UInt64.ofInt (i:Int)).toNat=i:=by
     rw[UInt64.ofInt,bS]
     omega
    have U:(4:UInt64).toNat=4:=rfl
    have V:(8:UInt64).toNat=8:=rfl
    rw[ja,dq,R,U,V]; omega
   unfold F.ZJ
   dsimp only
   rw[ag (ai (by omega)),J,bg G 0,aa,N,bg (show m - 1 - i<y.length by omega) 0,aa,aD,am,O,ye,ay,w4]
   rfl)
  (fun y j=>by
   unfold F.ZJ
   dsimp only
   rw[ae (by simp)])
  m 0 (List.replicate m 0) (ax _) (by omega) (fun _=>by simp[beB])
 have z:=fG (fun i (y:L01)=>i<=m->y=List.replicate (m - i) 0++beB i n) (fun y i=>y.set (m - 1 - i) (UInt8.ofNat (n / 256^i)))
  (fun i y j=>fun hi=>by
   rw[j (by omega),show m - i=m - (i+1)+1 by omega,List.replicate_succ',aN,show m - 1 - i=m - (i+1) by omega,dX _ _ (by simp)]
   simp[beB]) m 0 (List.replicate m 0) (fun _=>by simp[beB])
 rw[bk]at z
 have z:=z (ax _)
 rw[z,Nat.sub_self,List.replicate_zero,bN]at e
 exact e
def pN (c:UInt8):Nat:=if c.toNat<=57 then c.toNat - 48 else c.toNat - 87
def ko (c:UInt8):Bool:=(48<=c.toNat&&c.toNat<=57) || (97<=c.toNat&&c.toNat<=102)
def i8:L01->Nat
 | []=>0
 | x :: l=>pN x*16^l.length+i8 l
theorem Ef {c:UInt8} (h:ko c=true):pN c<16:=by
 unfold ko at h; unfold pN
 simp only[fD,aK,ak]at h
 split <;> omega
theorem tJ:∀a b:L01,i8 (a++b)=i8 a*16^b.length+i8 b
 | [],b=>by simp[i8]
 | x :: a,b=>by
  rw[cW,i8,i8,tJ a b,aQ,aU,bU,aF]; omega
theorem DZ:∀l:L01,l.all ko=true->i8 l<16^l.length
 | [],_=>by simp[i8]
 | x :: l,h=>by
  rw[List.all_cons,aK]at h
  have j:=DZ l h.2; have k:=Ef h.1
  have:(pN x+1)*16^l.length<=16*16^l.length:=aT _ (by omega)
  rw[aU]at this
  rw[i8,bY,bo,aM (16^_) 16]
  omega
theorem qt (l:L01) {i:Nat} (h:i<l.length):i8 (l.take (i+1))=16*i8 (l.take i)+pN (l.getD i 0):=by
 rw[List.take_add_one,an,av h,tJ]
 simp[i8]; omega
theorem BM {l:L01} {p:UInt8->Bool} (h:l.all p=true) {i:Nat} (hi:i<l.length):p (l.getD i 0)=true:=by
 rw[an,av hi]
 exact ci.1 h _ (cV hi)
theorem Ke {l:L01} {p:UInt8->Bool} (h:l.all p=true) (i:Nat):(l.take i).all p=true:=
 ci.2 fun x hx=>ci.1 h x (List.mem_of_mem_take hx)
theorem Kp (n0:Bool) (G:L00) (sg:Bool) (s:L01) (n i:Nat) (hs:s.all ko=true) (hi:i<s.length) (I:s.length<=1000000000) (hn:(ar n).length<=1000000000) :
  F.Wv n0 G sg s 16 (ar n,(i:Int))=some (.inl (ar (16*n+pN (s.getD i 0)),((i+1:Nat):Int))):=by
 have hc:=BM hs hi
 obtain⟨c,y⟩:∃c,s.getD i 0=c:=⟨_,rfl⟩
 rw[y]at hc ⊢
 have hd:=Ef hc
 have w4:wI ((i:Int)+1)=((i+1:Nat):Int):=by rw[aC (by omega) (by omega)]; rfl
 have z:∀d:Nat,d<16->F.Vm 16 (ar n) (i:Int) (d:Int)=some (.inl (ar (16*n+d),((i+1:Nat):Int))):=by
  intro d hd
  unfold F.Vm
  have A:(UInt64.ofInt 16).toNat=16:=rfl
  have B:(UInt64.ofInt (d:Int)).toNat=d:=by rw[UInt64.ofInt,bS]; omega
  have j:(ar 16).length<=1:=bu (by decide)
  have k:(ar d).length<=1:=bu (by omega)
  have J:=pz n 16
  rw[ae (by simp only[ak]; omega),nG,aa,A,Iv _ _ (by omega),aa,nG,aa,B,ay,ay,vC _ _ (by omega) (by omega),aa,ay,ay,w4,aM n 16]
  rfl
 unfold F.Wv
 dsimp only
 rw[ag (ai (by omega)),bg hi 0,aa,y]
 unfold ko at hc
 simp only[fD,aK,ak]at hc
 rw[ag (ai (by rw[dW]; have:(48:UInt8).toNat=48:=rfl; omega))]
 unfold F.aah
 by_cases h:c.toNat<=57
 ·have j:(c - 48).toNat=c.toNat - 48:=UInt8.toNat_sub_of_le _ _ (by rw[dW]; have:(48:UInt8).toNat=48:=rfl; omega)
  have k:pN c=c.toNat - 48:=ag h
  rw[ag (ai (by rw[dW]; exact h)),aD,j,k]
  exact z _ (by omega)
 ·have j:(c - 97).toNat=c.toNat - 97:=UInt8.toNat_sub_of_le _ _ (by rw[dW]; have:(97:UInt8).toNat=97:=rfl; omega)
  have k:pN c=c.toNat - 87:=ae h
  rw[ae (by rw[ak,dW]; exact h),ag (ai (by rw[dW]; have:(97:UInt8).toNat=97:=rfl; omega))]
  unfold F.aaa
  rw[ag (ai (by rw[dW]; have:(122:UInt8).toNat=122:=rfl; omega)),aD,j,aC (by omega) (by omega),k,show ((c.toNat - 97:Nat):Int)+10=((c.toNat - 87:Nat):Int) by omega]
  exact z _ (by omega)
theorem Ah (n0:Bool) (z:L00) (s:L01) (hs:s.all ko=true) (A:s≠[]) (B:s.length<=1000000000):F.XX n0 z s 16=some (true,false,ar (i8 s)):=by
 have hl:0<s.length:=fb.2 A
 have hc:=BM hs hl
 unfold ko at hc
 simp only[fD,aK,ak]at hc
 have y:∀d:UInt8,d.toNat<48->(s.getD 0 0 == d)=false:=fun d hd=>by
  rw[cR]; intro h; rw[h]at hc; omega
 unfold F.XX
 rw[ag (ai (by omega)),show (0:Int)=((0:Nat):Int) from rfl,bg hl 0,aa,ae (by rw[y 45 (by decide)]; decide),aa,y 43 (by decide)]
 unfold F.Zn F.aau
 rw[ae (by decide)]
 dsimp only
 rw[ae (by decide)]
 unfold F.Ww
 dsimp only
 rw[ae (by simpa using A),ae (by decide)]
 unfold F.XD
 rw[ae (by decide)]
 have I:∀i,i<=s.length->(ar (i8 (s.take i))).length<=1000000000:=fun i hi=>by
  have G:=DZ (s.take i) (Ke hs i)
  rw[aJ,bf hi]at G
  have J:=nk (k:=i) (aW G (Nat.pow_le_pow_left (by decide) i))
  omega
 have e:=eN (f:=F.Wv n0 z false s 16) (fun (x:Nat) i=>(ar x,(i:Int))) (fun i x=>i<=s.length->x=i8 (s.take i)) (fun x i=>16*x+pN (s.getD i 0)) 0 s.length
  (X:=fun x=>some (true,false,ar x))
  (fun i x _ hi hx=>by
   have hx:=hx (by omega)
   exact⟨Kp n0 z false s x i hs hi B (by rw[hx]; exact I i (by omega)),fun _=>by rw[hx,qt s hi]⟩)
  (fun x hx=>by
   unfold F.Wv
   dsimp only
   rw[ae (by simp),xr,aa]; rfl)
  s.length 0 0 (ax _) (by omega) (fun _=>by simp[i8])
 have j:=fG (fun i (x:Nat)=>i<=s.length->x=i8 (s.take i)) (fun x i=>16*x+pN (s.getD i 0)) (fun i x hx=>fun hi=>by rw[hx (by omega),qt s (by omega)]) s.length 0 0 (fun _=>by simp[i8])
 rw[bk]at j
 have j:=j (ax _)
 rw[j,cZ,cI]at e
 exact e
theorem tT (a:L00) (ha:a.length<=4611686018427387904):∀k,k<=a.length->(∀j,k<=j->a.getD j 0=0)->∃m,loop (F.Xp a) k=some m/\m<=a.length/\a.take m=ar (val a)
 | 0,_,hz=>by
  refine⟨0,?_,by omega,pC (by omega) hz (.inl rfl)⟩
  have h:F.Xp a 0=bc (grd (0<=(((a.take 0).length:Int):Int)/\(((a.take 0).length:Int):Int).toNat<=(a.take 0).length/\(((a.take 0).length:Int):Int)=((a.take 0).length:Int)) <| some ((((a.take 0).length:Int):Int).toNat)):=rfl
  rw[cb h,grd_true _ (by simp)]; rfl
 | k+1,hk,hz=>by
  have hl:(a.take (k+1)).length=k+1:=by rw[aJ]; omega
  have w:wI (((k+1:Nat):Int) - 1)=(k:Int):=by rw[aC (by omega) (by omega)]; omega
  have hg:aw (a.take (k+1)) (k:Int)=some (a.getD k 0):=by
   rw[bg (show k<(a.take (k+1)).length by omega) 0]
   congr 1
   rw[an,bR,ag (by omega),<-an]
  have hL:F.Xp a (k+1)=if (decide ((0:Int)<((a.take (k+1)).length:Int)))=true then af (aw (a.take (k+1)) (wI (((a.take (k+1)).length:Int) - 1):Int)) fun y=>F.UO a (k+1) (y == 0) else F.UO a (k+1) false:=rfl
  rw[hl,ag (ai (by omega)),w,hg,aa]at hL
  by_cases h0:a.getD k 0=0
  ·obtain⟨m,z,A⟩:=tT a ha k (by omega) (fun j B=>by
    rcases bX k j with h | h
    ·exact hz j (by omega)
    ·rw[show j=k by omega]; exact h0)
   refine⟨m,?_,A⟩
   rw[<-z]
   refine bn ?_
   rw[hL,h0]
   unfold F.UO
   rw[ag (by rfl),hl,w,grd_true _ (by omega)]; rfl
  ·refine⟨k+1,?_,hk,pC hk hz (.inr (by simpa using h0))⟩
   have hn:(a.getD k 0 == 0)=false:=by rw[cR]; exact h0
   rw[hn]at hL
   unfold F.UO at hL
   rw[ae (by decide),hl]at hL
   rw[cb hL,grd_true _ (by omega)]; rfl
theorem jJ (a:L00) (ha:a.length<=4611686018427387904):∃m,F.TL a=some m/\m<=a.length/\a.take m=ar (val a):=
 tT a ha a.length (ax _) fun j k=>iO k
theorem iw (a:L00) (ha:a.length<=4611686018427387904):∃m,F.Tk a=some m/\m<=a.length/\a.take m=ar (val a):=by
 obtain⟨m,j,k⟩:=jJ a ha
 exact⟨m,by unfold F.Tk; rw[j,aa],k⟩
theorem Aj {n k:Nat} (h:2^k<=n):nb n=nb (n / 2^k)+k:=by
 have hp:=dA k
 have j:n / 2^k≠0:=by
  have:=Nat.div_le_div_right (c:=2^k) h
  rw[Nat.div_self hp]at this; omega
 obtain⟨y,z⟩:=gv (n / 2^k)
 obtain⟨A,B⟩:=z j
 refine rM ?_ ?_ (by omega)
 ·rw[bU]; exact (fh hp).1 y
 ·rw[show nb (n / 2^k)+k - 1=nb (n / 2^k) - 1+k by omega,bU]
  exact (Nat.le_div_iff_mul_le hp).1 A
def xh:L01:=[0,1,2,2,3,3,3,3,4,4,4,4,4,4,4,4,5,5,5,5,5,5,5,5,5,5,5,5,5,5,5,5,6,6,6,6,6,6,6,6,6,6,6,6,6,6,6,6,6,6,6,6,6,6,6,6,6,6,6,6,6,6,6,6,7,7,7,7,7,7,7,7,7,7,7,7,7,7,7,7,7,7,7,7,7,7,7,7,7,7,7,7,7,7,7,7,7,7,7,7,7,7,7,7,7,7,7,7,7,7,7,7,7,7,7,7,7,7,7,7,7,7,7,7,7,7,7,7,8,8,8,8,8,8,8,8,8,8,8,8,8,8,8,8,8,8,8,8,8,8,8,8,8,8,8,8,8,8,8,8,8,8,8,8,8,8,8,8,8,8,8,8,8,8,8,8,8,8,8,8,8,8,8,8,8,8,8,8,8,8,8,8,8,8,8,8,8,8,8,8,8,8,8,8,8,8,8,8,8,8,8,8,8,8,8,8,8,8,8,8,8,8,8,8,8,8,8,8,8,8,8,8,8,8,8,8,8,8,8,8,8,8,8,8,8,8,8,8,8,8,8,8,8,8,8,8]
def ck (i:Nat) (t:Nat):Bool:=Nat.blt i (2^t)&&(Nat.beq i 0&&Nat.beq t 0 || Nat.ble (2^(t - 1)) i&&Nat.ble 1 t)
def ckA:L01->Nat->Bool
 | [],_=>true
 | x :: l,i=>ck i x.toNat&&ckA l (i+1)
theorem Hu:∀(l:L01) (i j:Nat),ckA l i=true->j<l.length->ck (i+j) (l.getD j 0).toNat=true
 | [],_,_,_,h=>by simp at h
 | x :: l,i,0,h,_=>by
  rw[ckA,aK]at h
  exact h.1
 | x :: l,i,j+1,h,hj=>by
  rw[ckA,aK]at h
  have:=Hu l (i+1) j h.2 (by simpa using hj)
  rw[List.getD_cons_succ,show i+(j+1)=i+1+j by omega]
  exact this
theorem Ml:ckA xh 0=true:=by decide +kernel
theorem JG:Nat.beq xh.length 256=true:=by decide +kernel
theorem PZ (b:Nat) (hb:b<256):∃t:UInt8,aw xh (b:Int)=some t/\t.toNat=nb b:=by
 have hl:=bK JG
 have h:=Hu xh 0 b Ml (by omega)
 rw[bk]at h
 unfold ck at h
 rw[aK,fD,aK,aK]at h
 obtain⟨y,j⟩:=h
 rw[fN]at y
 refine⟨xh.getD b 0,bg (by omega) 0,?_⟩
 rcases j with⟨j,k⟩ | ⟨j,k⟩
 ·rw[bK j,kS]
  rw[bK j]at k
  exact bK k
 ·exact (rM y (ao j) (ao k)).symm
theorem CJ (y:UInt32) (k:Int):F.Yv (y,k)=af (aw xh (y.toUInt8.toNat:Int)) fun z=>bv (wI (k+(z.toNat:Int))) fun j=>some j:=rfl
theorem Ak (x:UInt32):F.Xu x=some (nb x.toNat:Int):=by
 have hx:=ej x
 have A:∀(y:UInt32) (k:Nat),y.toNat<256->k<=24->F.Yv (y,(k:Int))=some ((nb y.toNat+k:Nat):Int):=by
  intro y k z G
  have j:y.toUInt8.toNat=y.toNat:=by rw[UInt32.toNat_toUInt8]; omega
  obtain⟨t,I,J⟩:=PZ y.toNat z
  have N:=lK (n:=y.toNat) (k:=8) z
  rw[CJ,j,I,aa,aD,J,aC (by omega) (by omega)]
  congr 1; omega
 have B:∀(y:UInt32) (k:Nat),y.toNat<65536->k<=16->F.Yz (y,(k:Int))=some ((nb y.toNat+k:Nat):Int):=by
  intro y k z G
  unfold F.Yz
  dsimp only
  by_cases h:256<=y.toNat
  ·have j:(dD y 8).toNat=y.toNat / 2^8:=by rw[lI]; rfl
   rw[ag (ai (by rw[fa]; exact h)),aC (by omega) (by omega),show (k:Int)+8=((k+8:Nat):Int) by omega,A _ _ (by rw[j]; omega) (by omega),j,Aj (n:=y.toNat) (k:=8) (by omega)]
   congr 1; omega
  ·rw[ae (by rw[ak,fa]; exact h)]
   exact A y k (by omega) (by omega)
 unfold F.Xu
 by_cases h:65536<=x.toNat
 ·have j:(dD x 16).toNat=x.toNat / 2^16:=by rw[lI]; rfl
  rw[ag (ai (by rw[fa]; exact h)),show (16:Int)=((16:Nat):Int) from rfl,B _ _ (by rw[j]; omega) (by omega),j,Aj (n:=x.toNat) (k:=16) (by omega)]
 ·rw[ae (by rw[ak,fa]; exact h),show (0:Int)=((0:Nat):Int) from rfl,B _ _ (by omega) (by omega),bm]
theorem jO (a:L00) (ha:a.length<=100000000000000):F.Tz a=some (nb (val a):Int):=by
 obtain⟨m,j,z,k⟩:=iw a (by omega)
 have hl:(ar (val a)).length<=a.length:=bu (cv a)
 unfold F.Tz
 rw[j,aa,k,<-pS]
 unfold nR
 by_cases h0:(ar (val a)).length=0
 ·rw[ag (by rw[h0]; rfl),ag h0]; rfl
 ·have y:wI (((ar (val a)).length:Int) - 1)=(((ar (val a)).length - 1:Nat):Int):=by rw[aC (by omega) (by omega)]; omega
  have A:=Jk ((ar (val a)).getD ((ar (val a)).length - 1) 0)
  rw[ae (by simpa using fun h=>h0 (by rw[h]; rfl)),ae h0,y,bg (by omega) 0,aa,Ak,aa,aC (x:=32*_) (by omega) (by omega),aC (by omega) (by omega)]
  congr 1
theorem El (o:L01) (a:L00) (Y:o.length<=1000000000000000) (ha:a.length<=100000000000000):F.Wt o a=some (beB o.length (val a)):=by
 unfold F.Wt
 have e:=eN (f:=F.ZB o a) (fun (y:L01) i=>((i:Int),y)) (fun i y=>i<=o.length->y.length=o.length/\∀k,k<i->y.getD k 0=UInt8.ofNat (val a / 256^(o.length - 1 - k))) (fun y i=>y.set i (UInt8.ofNat (val a / 256^(o.length - 1 - i)))) 0 o.length
  (X:=fun y=>some y)
  (fun i y _ hi A=>by
   obtain⟨hl,A⟩:=A (by omega)
   refine⟨?_,fun _=>⟨by simpa using hl,fun k G=>?_⟩⟩
   ·have w4:wI ((i:Int)+1)=((i+1:Nat):Int):=by rw[aC (by omega) (by omega)]; rfl
    obtain⟨j,B⟩:∃t,o.length - 1 - i=t:=⟨_,rfl⟩
    have N:wI ((wI ((y.length:Int) - 1)) - (i:Int))=(j:Int):=by rw[hl,aC (x:=(o.length:Int) - 1) (by omega) (by omega),aC (by omega) (by omega)]; omega
    have O:wI (Int.tdiv (j:Int) 4)=((j / 4:Nat):Int):=by rw[bJ (by omega),aC (by omega) (by omega)]; omega
    have R:wI (8*(Int.tmod (j:Int) 4))=((8*(j%4):Nat):Int):=by rw[cn (by omega),aC (by omega) (by omega)]; omega
    unfold F.ZB
    dsimp only
    rw[ag (ai (by omega)),N,aD,bg (show i<y.length by omega) 0,aa,aD,O,am]
    by_cases h:j / 4<a.length
    ·rw[ag (ai (by omega)),bg h 0,aa,R,grd_true _ (by omega),bg (show i<(y.set i 0).length by simp; omega) 0,aa,aD,am,ye,B]
     unfold F.Zs
     rw[w4,List.set_set]; rfl
    ·rw[ae (by simp only[ak]; omega)]
     unfold F.Zs
     have hz:val a / 256^j=0:=by
      refine cA (aW (cv a) ?_)
      rw[show (4294967296:Nat)=256^4 from rfl,<-cu]
      exact aZ (by decide) (by omega)
     rw[w4,B,hz]; rfl
   ·rw[an,gm]
    by_cases z:i=k
    ·subst z; rw[ag rfl,ag (by omega)]; rfl
    ·rw[ae z,<-an]; exact A k (by omega))
  (fun y A=>by
   unfold F.ZB
   dsimp only
   rw[ae (by simp)])
  o.length 0 o (ax _) (by omega) (fun _=>⟨rfl,fun k G=>by omega⟩)
 have I:=fG (fun i (y:L01)=>i<=o.length->y.length=o.length/\∀k,k<i->y.getD k 0=UInt8.ofNat (val a / 256^(o.length - 1 - k))) (fun y i=>y.set i (UInt8.ofNat (val a / 256^(o.length - 1 - i))))
  (fun i y A=>fun hi=>by
   obtain⟨hl,A⟩:=A (by omega)
   refine⟨by simpa using hl,fun k G=>?_⟩
   rw[an,gm]
   by_cases z:i=k
   ·subst z; rw[ag rfl,ag (by omega)]; rfl
   ·rw[ae z,<-an]; exact A k (by omega)) o.length 0 o (fun _=>⟨rfl,fun k G=>by omega⟩)
 rw[bk]at I
 obtain⟨y,A⟩:∃y,(List.range' 0 o.length).foldl (fun y i=>y.set i (UInt8.ofNat (val a / 256^(o.length - 1 - i)))) o=y:=⟨_,rfl⟩
 rw[A]at I e
 obtain⟨U,V⟩:=I (ax _)
 refine e.trans ?_
 congr 1
 refine gC (by rw[U,mb]) fun k J z=>?_
 have a1:=V k (by omega)
 have a2:=BZ o.length (val a) k (by omega)
 rw[an,av J]at a1
 rw[an,av z]at a2
 exact a1.trans a2.symm
theorem In (a:L00) (ha:a.length<=35184372087808):F.Yy a=some (beB (nby (val a)) (val a)):=by
 obtain⟨m,j,z,k⟩:=iw a (by omega)
 have hl:(ar (val a)).length<=a.length:=bu (cv a)
 have hb:=mz (val a)
 have y:wI (Int.tdiv (wI ((nb (val a):Int)+7)) 8)=(nby (val a):Int):=by
  rw[aC (x:=(nb (val a):Int)+7) (by omega) (by omega),bJ (by omega),aC (by omega) (by omega)]; unfold nby; omega
 have hn:nby (val a)<=4*(ar (val a)).length:=by unfold nby; omega
 unfold F.Yy
 rw[jO a (by omega),aa,y,aD,iK (by omega),aa,j,aa,k,El _ _ (by simp; omega) (by omega),aa,am,bq,ay]
theorem Nl (x y:UInt32) (t:Nat) (j:y.toNat<256) (k:t<4) (hx:x.toNat%256^(t+1)=0):(x ||| iP y (8*t)).toNat=x.toNat+y.toNat*256^t:=by
 have hs:(iP y (8*t)).toNat=y.toNat*256^t:=by
  rw[tN,bf (by omega),cu,show (2:Nat)^8=256 from rfl,az]
  have:t=0\/t=1\/t=2\/t=3:=by omega
  rcases this with h | h | h | h <;> subst h <;> simp <;> omega
 rw[UInt32.toNat_or,hs]
 refine sB (8*(t+1)) (by rw[cu]; exact hx) ?_
 rw[cu,bo,aM]
 exact eO j (ew (by decide))
theorem K7 {l:L00} {q t:Nat} (y:t<=4) (h:val l%256^(4*q+t)=0):(l.getD q 0).toNat%256^t=0:=by
 have k:val l / 256^(4*q)%256^t=0:=by
  rw[bU]at h
  have:=Nat.mod_mul_right_div_self (val l) (256^(4*q)) (256^t)
  rw[h,Nat.zero_div]at this
  exact this.symm
 rw[cu,show (256:Nat)^4=4294967296 from rfl,ky,eh]at k
 have:t=0\/t=1\/t=2\/t=3\/t=4:=by omega
 rcases this with j | j | j | j | j <;> subst j <;> simp at k ⊢ <;> omega
theorem fx (b:L01) (hb:b.length<=140737488351232):F.Tm b=some (ar (beN b)):=by
 obtain⟨n,hn⟩:∃n,(b.length+3) / 4=n:=⟨_,rfl⟩
 have w0:wI (Int.tdiv (wI ((b.length:Int)+3)) 4)=(n:Int):=by
  rw[aC (x:=(b.length:Int)+3) (by omega) (by omega),bJ (by omega),aC (by omega) (by omega)]; omega
 unfold F.Tm
 rw[w0,iK (by omega),aa,am]
 have z:∀(i:Nat) (y:L00),i<b.length->(y.length=n/\val y=beN (b.take i)*256^(b.length - i)) ->
   ((y.set ((b.length - 1 - i) / 4) (y.getD ((b.length - 1 - i) / 4) 0 ||| iP (b.getD i 0).toUInt32 (8*((b.length - 1 - i)%4)))).length=n /\
    val (y.set ((b.length - 1 - i) / 4) (y.getD ((b.length - 1 - i) / 4) 0 ||| iP (b.getD i 0).toUInt32 (8*((b.length - 1 - i)%4))))=beN (b.take (i+1))*256^(b.length - (i+1))):=by
  rintro i y hi ⟨B,J⟩
  obtain⟨t,G⟩:∃t,b.length - 1 - i=t:=⟨_,rfl⟩
  rw[G]
  have A:(b.getD i 0).toUInt32.toNat=(b.getD i 0).toNat:=UInt8.toNat_toUInt32 _
  have Y:=(b.getD i 0).toNat_lt
  have N:=jv y (t / 4) (y.getD (t / 4) 0 ||| iP (b.getD i 0).toUInt32 (8*(t%4))) (by omega)
  have O:(y.getD (t / 4) 0).toNat%256^(t%4+1)=0:=by
   refine K7 (by omega) ?_
   rw[show 4*(t / 4)+(t%4+1)=b.length - i by omega,J,Nat.mul_mod_left]
  rw[Nl _ _ _ (by rw[A]; omega) (by omega) O,A,aE]at N
  refine⟨by simpa using B,?_⟩
  have hp:4294967296^(t / 4)*((b.getD i 0).toNat*256^(t%4))=(b.getD i 0).toNat*256^t:=by
   rw[show (4294967296:Nat)=256^4 from rfl,<-cu,dF,<-bU]; congr 2; omega
  rw[hp]at N
  rw[mI b hi,show b.length - (i+1)=t by omega,aU]
  have I:256*beN (b.take i)*256^t=beN (b.take i)*256^(b.length - i):=by
   rw[show b.length - i=t+1 by omega,bo,aM 256,aF,aM 256]
  rw[I]
  omega
 have e:=eN (f:=F.XR b) (fun (y:L00) i=>((i:Int),y)) (fun i y=>i<=b.length->y.length=n/\val y=beN (b.take i)*256^(b.length - i))
  (fun y i=>y.set ((b.length - 1 - i) / 4) (y.getD ((b.length - 1 - i) / 4) 0 ||| iP (b.getD i 0).toUInt32 (8*((b.length - 1 - i)%4)))) 0 b.length
  (X:=fun y=>some (ar (val y)))
  (fun i y _ hi j=>by
   have j:=j (by omega)
   refine⟨?_,fun _=>z i y hi j⟩
   obtain⟨t,G⟩:∃t,b.length - 1 - i=t:=⟨_,rfl⟩
   rw[G]
   have Z:=j.1
   have w4:wI ((i:Int)+1)=((i+1:Nat):Int):=by rw[aC (by omega) (by omega)]; rfl
   have R:wI ((wI ((b.length:Int) - 1)) - (i:Int))=(t:Int):=by rw[aC (x:=(b.length:Int) - 1) (by omega) (by omega),aC (by omega) (by omega)]; omega
   have U:wI (Int.tdiv (t:Int) 4)=((t / 4:Nat):Int):=by rw[bJ (by omega),aC (by omega) (by omega)]; omega
   have V:wI (8*(Int.tmod (t:Int) 4))=((8*(t%4):Nat):Int):=by rw[cn (by omega),aC (by omega) (by omega)]; omega
   unfold F.XR
   dsimp only
   rw[ag (ai (by omega)),bg hi 0,aa,R,aD,U,bg (show t / 4<y.length by omega) 0,aa,V,grd_true _ (by omega),aa,aD,am,am,w4]
   rfl)
  (fun y j=>by
   obtain⟨m,B,J,I⟩:=jJ y (by have:=(j (ax _)).1; omega)
   unfold F.XR
   dsimp only
   rw[ae (by simp),B,aa,I])
  b.length 0 (List.replicate n 0) (ax _) (by omega) (fun _=>⟨by simp,by rw[gH]; simp[beN]⟩)
 have k:=fG (fun i (y:L00)=>i<=b.length->y.length=n/\val y=beN (b.take i)*256^(b.length - i)) (fun y i=>y.set ((b.length - 1 - i) / 4) (y.getD ((b.length - 1 - i) / 4) 0 ||| iP (b.getD i 0).toUInt32 (8*((b.length - 1 - i)%4))))
  (fun i y j=>fun hi=>z i y (by omega) (j (by omega))) b.length 0 (List.replicate n 0) (fun _=>⟨by simp,by rw[gH]; simp[beN]⟩)
 rw[bk]at k
 have k:=(k (ax _)).2
 rw[k,Nat.sub_self,gB,cE,cZ]at e
 exact e
theorem tv (a:L00) (i:Nat):F.Ui a (i:Int)=some (a.getD i 0).toUInt64:=by
 unfold F.Ui
 by_cases h:a.length<=i
 ·rw[ag (ai (by omega)),iO h]; rfl
 ·rw[ae (by simp only[ak]; omega),bg (show i<a.length by omega) 0,aa]
theorem Gb (x y:UInt32):x.toUInt64<y.toUInt64↔x.toNat<y.toNat:=by rw[bh,di,di]
theorem BF (a:L00) (ha:a.length<=50000000000000):F.aap a=some (ar (val a)):=by
 unfold F.aap
 obtain⟨n,hn,A,hl⟩:=yd (f:=F.abr a) a (fun k=>af (tkO a (k:Int)) fun y=>af (apO 4 [] y) fun j=>some j) (by omega) (fun n hn=>by
  unfold F.abr F.abu
  by_cases h0:n=0
  ·subst h0
   rw[ae (by simp),ae (by simp)]
   rfl
  ·have B:wI ((n:Int) - 1)=((n - 1:Nat):Int):=by rw[aC (by omega) (by omega)]; omega
   rw[ag (ai (by omega)),B,bg (show n - 1<a.length by omega) 0,aa]
   by_cases hz:a.getD (n - 1) 0=0
   ·rw[ag (show n≠0/\a.getD (n - 1) 0=0 from⟨h0,hz⟩),ag (show (a.getD (n - 1) 0 == 0)=true from by rw[hz]; rfl)]; rfl
   ·rw[ae (show ¬(n≠0/\a.getD (n - 1) 0=0) from fun h=>hz h.2),ae (show ¬(a.getD (n - 1) 0 == 0)=true from fun h=>hz (eq_of_beq h))])
 have z:apO 4 [] (a.take n)=some (a.take n):=by unfold apO; rw[ag (by simp; omega)]; simp
 rw[hl,Bo hn,aa,z,aa,A]
theorem oJ (a b:L00) (k:Nat) (h:val (a.drop (k+1))=val (b.drop (k+1))) (z:(a.getD k 0).toNat<(b.getD k 0).toNat):val a<val b:=by
 have A:=eh a k; have B:=eh b k
 have y:val (a.drop k)<val (b.drop k):=by omega
 rw[<-ky,<-ky]at y
 exact Nat.lt_of_not_le fun j=>by have:=Nat.div_le_div_right (c:=4294967296^k) j; omega
theorem M6 (a b:L00) (ha:a.length<=4611686018427387904) (hb:b.length<=4611686018427387904):F.aba a b=some (eD (val a) (val b)):=by
 unfold F.aba
 obtain⟨m,z⟩:∃m,max a.length b.length=m:=⟨_,rfl⟩
 have w0:wI ((max (a.length:Int) (b.length:Int)) - 1)=(m:Int) - 1:=by rw[aC (by omega) (by omega)]; omega
 rw[w0,aD]
 have j:∀k,k<=m->val (a.drop k)=val (b.drop k)->loop (F.XW a b) ((k:Int) - 1)=some (eD (val a) (val b)):=by
  intro k
  induction k with
  | zero=>
   intro _ h
   rw[dQ,dQ]at h
   refine bD ?_
   unfold F.XW eD
   rw[ae (by decide),h,ae (by omega),ag rfl]; rfl
  | succ k ih=>
   intro A h
   have y:(((k+1:Nat):Int)) - 1=(k:Int):=by omega
   rw[y]
   have hL:F.XW a b (k:Int)=if (a.getD k 0).toNat<(b.getD k 0).toNat then some (.inr (-1)) else if (b.getD k 0).toNat<(a.getD k 0).toNat then some (.inr 1) else some (.inl ((k:Int) - 1)):=by
    unfold F.XW
    rw[ag (ai (by omega)),tv,aa,tv,aa]
    by_cases h1:(a.getD k 0).toNat<(b.getD k 0).toNat
    ·rw[ag (ai ((Gb _ _).2 h1)),ag h1]; rfl
    ·rw[ae (by rw[ak,Gb]; exact h1),ae h1,aa,aa]
     by_cases h2:(b.getD k 0).toNat<(a.getD k 0).toNat
     ·rw[ag (ai ((Gb _ _).2 h2)),ag h2]; rfl
     ·rw[ae (by rw[ak,Gb]; exact h2),ae h2,aC (by omega) (by omega)]; rfl
   by_cases h1:(a.getD k 0).toNat<(b.getD k 0).toNat
   ·rw[ag h1]at hL
    have:=oJ a b k h h1
    rw[bD hL]; unfold eD; rw[ag this]
   ·rw[ae h1]at hL
    by_cases h2:(b.getD k 0).toNat<(a.getD k 0).toNat
    ·rw[ag h2]at hL
     have:=oJ b a k h.symm h2
     rw[bD hL]; unfold eD; rw[ae (by omega),ae (by omega)]
    ·rw[ae h2]at hL
     rw[bn hL]
     refine ih (by omega) ?_
     rw[eh a k,eh b k,h]; omega
 exact j m (ax _) (by rw[bL (by omega),bL (by omega)])
theorem Lz (s:UInt64):(s &&& 4294967295).toUInt32=s.toUInt32:=by
 apply cM.1
 rw[jA,jA,jh]
 have:(4294967295:UInt64).toNat=2^32 - 1:=rfl
 rw[this,fe]
 omega
theorem NA (a b:L00) (ha:a.length<=40000000000000) (hb:b.length<=40000000000000):F.aa2 a b=some (ar (val a+val b)):=by
 obtain⟨m,O⟩:∃m,max a.length b.length=m:=⟨_,rfl⟩
 have z:max (a.length:Int) (b.length:Int)=(m:Int):=by omega
 unfold F.aa2
 have k:∀(x:L00×UInt64) (i:Nat),x.2.toNat<=1->((a.getD i 0).toUInt64+(b.getD i 0).toUInt64)+x.2=x.2+(a.getD i 0).toUInt64+(b.getD i 0).toUInt64:=fun x i _=>by
  rw[UInt64.add_comm _ x.2,UInt64.add_assoc]
 have e:=eN (f:=F.ZL a b) (fun (x:L00×UInt64) i=>(x.1,x.2,(i:Int)))
  (fun i x=>x.1.length=i/\val x.1+4294967296^i*x.2.toNat=val (a.take i)+val (b.take i)/\x.2.toNat<=1) (nC a b) 0 (m+1)
  (X:=fun x=>some (ar (val x.1)))
  (fun i x _ hi hx=>by
   obtain⟨A,j,y⟩:=hx
   refine⟨?_,qK A j y⟩
   have G:wI ((i:Int)+1)=((i+1:Nat):Int):=by rw[aC (by omega) (by omega)]; rfl
   unfold F.ZL
   dsimp only
   rw[z,ag (ai (by omega)),tv,aa,tv,aa,k x i y,Lz,im (by simp; omega),aa,aD,G]
   rfl)
  (fun x hx=>by
   obtain⟨A,j,y⟩:=hx
   unfold F.ZL
   dsimp only
   rw[z,ae (by simp only[ak]; omega),BF _ (by omega),aa])
  (m+1) 0 ([],0) (ax _) (by omega) ⟨rfl,by simp[val],by decide⟩
 have B:=fG (fun i (x:L00×UInt64)=>x.1.length=i/\val x.1+4294967296^i*x.2.toNat=val (a.take i)+val (b.take i)/\x.2.toNat<=1) (nC a b) (fun i x hx=>qK hx.1 hx.2.1 hx.2.2) (m+1) 0 ([],0) ⟨rfl,by simp[val],by decide⟩
 obtain⟨x,hx⟩:∃x,(List.range' 0 (m+1)).foldl (nC a b) ([],0)=x:=⟨_,rfl⟩
 rw[hx]at B e
 obtain⟨A,j,y⟩:=B
 rw[bk,aA (by omega),aA (by omega)]at j
 refine e.trans ?_
 -- no carry is left
 have J:val a<4294967296^m:=aW (cv a) (aZ (by decide) (by omega))
 have N:val b<4294967296^m:=aW (cv b) (aZ (by decide) (by omega))
 have hp:=ew (n:=m) (show 0<4294967296 by decide)
 have I:x.2.toNat=0:=by
  rcases bQ x.2.toNat with h | h
  ·exact h
  ·have:4294967296^(m+1)*1<=4294967296^(m+1)*x.2.toNat:=bj _ h
   rw[bo]at this j
   omega
 rw[I,cp,bm]at j
 rw[j]
theorem brw (u v:UInt32) (c:UInt64) (hc:c.toNat<=1) :
  (u.toUInt64<v.toUInt64+c↔u.toNat<v.toNat+c.toNat)/\(u.toNat<v.toNat+c.toNat->((u.toUInt64+4294967296) - (v.toUInt64+c)).toUInt32.toNat+v.toNat+c.toNat=u.toNat+4294967296) /\
   (¬u.toNat<v.toNat+c.toNat->(u.toUInt64 - (v.toUInt64+c)).toUInt32.toNat+v.toNat+c.toNat=u.toNat):=by
 have hu:=ej u; have z:=ej v
 have j:(v.toUInt64+c).toNat=v.toNat+c.toNat:=by rw[lh _ _ (by rw[di]; omega),di]
 have k:(4294967296:UInt64).toNat=4294967296:=rfl
 have y:(u.toUInt64+4294967296).toNat=u.toNat+4294967296:=by rw[lh _ _ (by rw[di,k]; omega),di,k]
 refine⟨by rw[bh,j,di],fun h=>?_,fun h=>?_⟩
 ·rw[jA,eg _ _ (by rw[cL,j,y]; omega),j,y]; omega
 ·rw[jA,eg _ _ (by rw[cL,j,di]; omega),j,di]; omega
def mnW (u v:UInt32) (c:UInt64):UInt32:=if u.toUInt64<v.toUInt64+c then ((u.toUInt64+4294967296) - (v.toUInt64+c)).toUInt32 else (u.toUInt64 - (v.toUInt64+c)).toUInt32
def mnC (u v:UInt32) (c:UInt64):UInt64:=if u.toUInt64<v.toUInt64+c then 1 else 0
theorem PG (u v:UInt32) (c:UInt64) (hc:c.toNat<=1):(mnW u v c).toNat+v.toNat+c.toNat=u.toNat+4294967296*(mnC u v c).toNat/\(mnC u v c).toNat<=1:=by
 obtain⟨j,k,y⟩:=brw u v c hc
 unfold mnW mnC
 by_cases h:u.toNat<v.toNat+c.toNat
 ·rw[ag (j.2 h),ag (j.2 h)]
  have:(1:UInt64).toNat=1:=rfl
  rw[this]; exact⟨by have:=k h; omega,by omega⟩
 ·rw[ae (fun hh=>h (j.1 hh)),ae (fun hh=>h (j.1 hh))]
  have:(0:UInt64).toNat=0:=rfl
  rw[this]; exact⟨by have:=y h; omega,by omega⟩
def mnS (a b:L00) (x:L00×UInt64) (i:Nat):L00×UInt64:=(x.1++[mnW (a.getD i 0) (b.getD i 0) x.2],mnC (a.getD i 0) (b.getD i 0) x.2)
theorem D0 {a b:L00} {x:L00×UInt64} {i:Nat} (j:x.1.length=i) (A:val x.1+val (b.take i)=val (a.take i)+4294967296^i*x.2.toNat) (k:x.2.toNat<=1) :
  (mnS a b x i).1.length=i+1/\val (mnS a b x i).1+val (b.take (i+1))=val (a.take (i+1))+4294967296^(i+1)*(mnS a b x i).2.toNat/\(mnS a b x i).2.toNat<=1:=by
 obtain⟨y,z⟩:=PG (a.getD i 0) (b.getD i 0) x.2 k
 unfold mnS
 refine⟨by simp[j],?_,z⟩
 simp only
 rw[mK,j,cK,cK]
 have:=da (4294967296^i*·) y
 simp only[aE]at this
 rw[bo,aF]
 omega
theorem J8 (a b:L00) (ha:a.length<=50000000000000) (I:val b<=val a):F.abi a b=some (ar (val a - val b)):=by
 unfold F.abi
 have e:=eN (f:=F.aal a b) (fun (x:L00×UInt64) i=>(x.1,x.2,(i:Int)))
  (fun i x=>x.1.length=i/\val x.1+val (b.take i)=val (a.take i)+4294967296^i*x.2.toNat/\x.2.toNat<=1) (mnS a b) 0 a.length
  (X:=fun x=>some (ar (val x.1)))
  (fun i x _ hi hx=>by
   obtain⟨k,j,z⟩:=hx
   refine⟨?_,D0 k j z⟩
   have A:wI ((i:Int)+1)=((i+1:Nat):Int):=by rw[aC (by omega) (by omega)]; rfl
   unfold F.aal
   dsimp only
   rw[ag (ai (by omega)),tv,aa,tv,aa]
   unfold mnS mnW mnC
   by_cases h:(a.getD i 0).toUInt64<(b.getD i 0).toUInt64+x.2
   ·rw[ag (ai h),ag h,ag h]
    unfold F.Z6
    dsimp only
    rw[im (by simp; omega),aa,A]; rfl
   ·rw[ae (by simpa using h),ae h,ae h]
    unfold F.Z6
    dsimp only
    rw[im (by simp; omega),aa,A]; rfl)
  (fun x hx=>by
   unfold F.aal
   dsimp only
   rw[ae (by simp),BF _ (by omega),aa])
  a.length 0 ([],0) (ax _) (by omega) ⟨rfl,by simp[val],by simp⟩
 refine e.trans ?_
 obtain⟨k,j,z⟩:=fG (fun i (x:L00×UInt64)=>x.1.length=i/\val x.1+val (b.take i)=val (a.take i)+4294967296^i*x.2.toNat/\x.2.toNat<=1) (mnS a b)
  (fun i x hx=>D0 hx.1 hx.2.1 hx.2.2) a.length 0 ([],0) ⟨rfl,by simp[val],by simp⟩
 obtain⟨y,J⟩:∃y,(List.range' 0 a.length).foldl (mnS a b) ([],0)=y:=⟨_,rfl⟩
 rw[J]at k j z ⊢
 rw[bk]at k j
 have hb:val (b.take a.length)=val b:=by
  by_cases hl:a.length<=b.length
  ·have B:=gG b a.length hl
   rw[lU (dw I (cv a)),cp,bm]at B
   exact B.symm
  ·rw[aA (by omega)]
 rw[cZ,hb]at j
 have G:=cv y.1
 rw[k]at G
 have hc:y.2.toNat=0:=by
  rcases bQ y.2.toNat with h | h
  ·exact h
  ·have:y.2.toNat=1:=by omega
   rw[this,cE]at j
   omega
 rw[hc,cp,bm]at j
 rw[show val y.1=val a - val b by omega]
theorem uP (l:L00) (i:Nat):(l.getD (i / 32) 0).toNat / 2^(i%32)%2=val l / 2^i%2:=by
 have j:(2:Nat)^i=4294967296^(i / 32)*2^(i%32):=by
  rw[show (4294967296:Nat)=2^32 from rfl,<-cu,<-bU]; congr 1; omega
 rw[j,<-dN,ky,eh]
 obtain⟨R,k⟩:∃R,val (l.drop (i / 32+1))=R:=⟨_,rfl⟩
 obtain⟨w,hw⟩:∃w,(l.getD (i / 32) 0).toNat=w:=⟨_,rfl⟩
 obtain⟨s,hs⟩:∃s,i%32=s:=⟨_,rfl⟩
 rw[k,hw,hs]
 have hp:=nY (s:=s) (by omega)
 rw[<-hp,aF,g9 _ _ (dA s)]
 have y:(2:Nat)^(32 - s)=2*2^(32 - s - 1):=by rw[aM,<-bo]; congr 1; omega
 rw[y,aF]
 omega
def zP:L01:=[102,102,102,102,102,102,102,102,48,48,48,48,48,48,48,49,48,48,48,48,48,48,48,48,48,48,48,48,48,48,48,48,48,48,48,48,48,48,48,48,102,102,102,102,102,102,102,102,102,102,102,102,102,102,102,102,102,102,102,102,102,102,102,102]
def Lh:Nat:=0xffffffff00000001000000000000000000000000ffffffffffffffffffffffff
theorem Kt:(zP.all ko&&Nat.beq (i8 zP) Lh&&Nat.beq zP.length 64)=true:=by decide +kernel
def zI:L01:=[53,97,99,54,51,53,100,56,97,97,51,97,57,51,101,55,98,51,101,98,98,100,53,53,55,54,57,56,56,54,98,99,54,53,49,100,48,54,98,48,99,99,53,51,98,48,102,54,51,98,99,101,51,99,51,101,50,55,100,50,54,48,52,98]
def Ld:Nat:=0x5ac635d8aa3a93e7b3ebbd55769886bc651d06b0cc53b0f63bce3c3e27d2604b
theorem Jr:(zI.all ko&&Nat.beq (i8 zI) Ld&&Nat.beq zI.length 64)=true:=by decide +kernel
def zC:L01:=[102,102,102,102,102,102,102,102,48,48,48,48,48,48,48,48,102,102,102,102,102,102,102,102,102,102,102,102,102,102,102,102,98,99,101,54,102,97,97,100,97,55,49,55,57,101,56,52,102,51,98,57,99,97,99,50,102,99,54,51,50,53,53,49]
def Lp:Nat:=0xffffffff00000000ffffffffffffffffbce6faada7179e84f3b9cac2fc632551
theorem ID:(zC.all ko&&Nat.beq (i8 zC) Lp&&Nat.beq zC.length 64)=true:=by decide +kernel
def zO:L01:=[54,98,49,55,100,49,102,50,101,49,50,99,52,50,52,55,102,56,98,99,101,54,101,53,54,51,97,52,52,48,102,50,55,55,48,51,55,100,56,49,50,100,101,98,51,51,97,48,102,52,97,49,51,57,52,53,100,56,57,56,99,50,57,54]
def LP:Nat:=0x6b17d1f2e12c4247f8bce6e563a440f277037d812deb33a0f4a13945d898c296
theorem IW:(zO.all ko&&Nat.beq (i8 zO) LP&&Nat.beq zO.length 64)=true:=by decide +kernel
def zD:L01:=[52,102,101,51,52,50,101,50,102,101,49,97,55,102,57,98,56,101,101,55,101,98,52,97,55,99,48,102,57,101,49,54,50,98,99,101,51,51,53,55,54,98,51,49,53,101,99,101,99,98,98,54,52,48,54,56,51,55,98,102,53,49,102,53]
def Ly:Nat:=0x4fe342e2fe1a7f9b8ee7eb4a7c0f9e162bce33576b315ececbb6406837bf51f5
theorem Jq:(zD.all ko&&Nat.beq (i8 zD) Ly&&Nat.beq zD.length 64)=true:=by decide +kernel
def zG:L01:=[102,102,102,102,102,102,102,102,102,102,102,102,102,102,102,102,102,102,102,102,102,102,102,102,102,102,102,102,102,102,102,102,102,102,102,102,102,102,102,102,102,102,102,102,102,102,102,102,102,102,102,102,102,102,102,102,102,102,102,102,102,102,102,101,102,102,102,102,102,102,102,102,48,48,48,48,48,48,48,48,48,48,48,48,48,48,48,48,102,102,102,102,102,102,102,102]
def Lm:Nat:=0xfffffffffffffffffffffffffffffffffffffffffffffffffffffffffffffffeffffffff0000000000000000ffffffff
theorem Kf:(zG.all ko&&Nat.beq (i8 zG) Lm&&Nat.beq zG.length 96)=true:=by decide +kernel
def zR:L01:=[98,51,51,49,50,102,97,55,101,50,51,101,101,55,101,52,57,56,56,101,48,53,54,98,101,51,102,56,50,100,49,57,49,56,49,100,57,99,54,101,102,101,56,49,52,49,49,50,48,51,49,52,48,56,56,102,53,48,49,51,56,55,53,97,99,54,53,54,51,57,56,100,56,97,50,101,100,49,57,100,50,97,56,53,99,56,101,100,100,51,101,99,50,97,101,102]
def Lw:Nat:=0xb3312fa7e23ee7e4988e056be3f82d19181d9c6efe8141120314088f5013875ac656398d8a2ed19d2a85c8edd3ec2aef
theorem JC:(zR.all ko&&Nat.beq (i8 zR) Lw&&Nat.beq zR.length 96)=true:=by decide +kernel
def zw:L01:=[102,102,102,102,102,102,102,102,102,102,102,102,102,102,102,102,102,102,102,102,102,102,102,102,102,102,102,102,102,102,102,102,102,102,102,102,102,102,102,102,102,102,102,102,102,102,102,102,99,55,54,51,52,100,56,49,102,52,51,55,50,100,100,102,53,56,49,97,48,100,98,50,52,56,98,48,97,55,55,97,101,99,101,99,49,57,54,97,99,99,99,53,50,57,55,51]
def Li:Nat:=0xffffffffffffffffffffffffffffffffffffffffffffffffc7634d81f4372ddf581a0db248b0a77aecec196accc52973
theorem K1:(zw.all ko&&Nat.beq (i8 zw) Li&&Nat.beq zw.length 96)=true:=by decide +kernel
def zA:L01:=[97,97,56,55,99,97,50,50,98,101,56,98,48,53,51,55,56,101,98,49,99,55,49,101,102,51,50,48,97,100,55,52,54,101,49,100,51,98,54,50,56,98,97,55,57,98,57,56,53,57,102,55,52,49,101,48,56,50,53,52,50,97,51,56,53,53,48,50,102,50,53,100,98,102,53,53,50,57,54,99,51,97,53,52,53,101,51,56,55,50,55,54,48,97,98,55]
def Lv:Nat:=0xaa87ca22be8b05378eb1c71ef320ad746e1d3b628ba79b9859f741e082542a385502f25dbf55296c3a545e3872760ab7
theorem Jz:(zA.all ko&&Nat.beq (i8 zA) Lv&&Nat.beq zA.length 96)=true:=by decide +kernel
def zy:L01:=[51,54,49,55,100,101,52,97,57,54,50,54,50,99,54,102,53,100,57,101,57,56,98,102,57,50,57,50,100,99,50,57,102,56,102,52,49,100,98,100,50,56,57,97,49,52,55,99,101,57,100,97,51,49,49,51,98,53,102,48,98,56,99,48,48,97,54,48,98,49,99,101,49,100,55,101,56,49,57,100,55,97,52,51,49,100,55,99,57,48,101,97,48,101,53,102]
def Ls:Nat:=0x3617de4a96262c6f5d9e98bf9292dc29f8f41dbd289a147ce9da3113b5f0b8c00a60b1ce1d7e819d7a431d7c90ea0e5f
theorem KL:(zy.all ko&&Nat.beq (i8 zy) Ls&&Nat.beq zy.length 96)=true:=by decide +kernel
def cP (c:Int):Nat:=if c=1 then Lh else Lm
def cB (c:Int):Nat:=if c=1 then Ld else Lw
def cN (c:Int):Nat:=if c=1 then Lp else Li
def cX (c:Int):Nat:=if c=1 then LP else Lv
def cY (c:Int):Nat:=if c=1 then Ly else Ls
def cS (c:Int):Int:=if c=1 then 32 else 48
theorem kC (c:Int):cP c<4294967296^12/\cB c<cP c/\cN c<cP c/\cX c<cP c/\cY c<cP c/\4<cP c/\4<cN c:=by
 unfold cP cB cN cX cY
 by_cases h:c=1
 ·simp only[ag h]; decide +kernel
 ·simp only[ae h]; decide +kernel
theorem tj (c:Int):nl (cP c:Int)<=12:=zM (by have:=(kC c).1; omega)
theorem j0 (s:L01) (v m:Nat) (h:(s.all ko&&Nat.beq (i8 s) v&&Nat.beq s.length m)=true) (y:0<m) (k:m<=1000):F.S7 s=some ((bi (v:Int)).1,(bi (v:Int)).2):=by
 simp only[aK]at h
 have hl:=bK h.2
 unfold F.S7
 rw[Ah _ _ s h.1.1 (by intro j; rw[j]at hl; simp at hl; omega) (by omega),aa,bK h.1.2,GO]
def gT (c:Int):Bool×L00×Bool×L00×Bool×L00×Bool×L00×Bool×L00×Int:=
 ((bi (cP c:Int)).1,(bi (cP c:Int)).2,(bi (cB c:Int)).1,(bi (cB c:Int)).2,(bi (cN c:Int)).1,(bi (cN c:Int)).2,(bi (cX c:Int)).1,(bi (cX c:Int)).2,(bi (cY c:Int)).1,(bi (cY c:Int)).2,cS c)
theorem MC:F.XT=some (gT 1):=by
 have h:F.XT=af (F.S7 zP) fun z=>af (F.S7 zI) fun A=>af (F.S7 zC) fun j=>af (F.S7 zO) fun k=>af (F.S7 zD) fun y=>
   some (z.1,z.2,A.1,A.2,j.1,j.2,k.1,k.2,y.1,y.2,32):=rfl
 rw[h,j0 _ _ _ Kt (by decide) (by decide),aa,j0 _ _ _ Jr (by decide) (by decide),aa,j0 _ _ _ ID (by decide) (by decide),aa,j0 _ _ _ IW (by decide) (by decide),aa,j0 _ _ _ Jq (by decide) (by decide),aa]
 rfl
theorem Mr:F.Zw=some (gT 2):=by
 have h:F.Zw=af (F.S7 zG) fun z=>af (F.S7 zR) fun A=>af (F.S7 zw) fun j=>af (F.S7 zA) fun k=>af (F.S7 zy) fun y=>
   some (z.1,z.2,A.1,A.2,j.1,j.2,k.1,k.2,y.1,y.2,48):=rfl
 rw[h,j0 _ _ _ Kf (by decide) (by decide),aa,j0 _ _ _ JC (by decide) (by decide),aa,j0 _ _ _ K1 (by decide) (by decide),aa,j0 _ _ _ Jz (by decide) (by decide),aa,j0 _ _ _ KL (by decide) (by decide),aa]
 rfl
def isC (c:Int):Prop:=c=1\/c=2
instance (c:Int):Decidable (isC c):=by unfold isC; infer_instance
theorem of_eq (c:Int):F.UX c=some (if isC c then some (gT c) else none):=by
 unfold F.UX
 by_cases h1:c=1
 ·subst h1; rw[ag (by rfl),MC,aa,ag (.inl rfl)]
 ·rw[ae (by simpa using h1)]
  by_cases h2:c=2
  ·subst h2; rw[ag (by rfl),Mr,aa,ag (.inr rfl)]
  ·rw[ae (by simpa using h2),ae (by unfold isC; omega)]
section
variable (p:Nat) (b0:Bool) (b1:L00) (n0:Bool) (n1:L00) (x0:Bool) (x1:L00) (y0:Bool) (y1:L00) (s:Int)
theorem ti (hp:0<p) (hpl:nl (p:Int)<=1000) (z:Int) (hz:nl z<=70368744177660) (j:z<0->nl z<=70000000000000) :
  F.Uk (bi (p:Int)).1 (bi (p:Int)).2 b0 b1 n0 n1 x0 x1 y0 y1 s (bi z).1 (bi z).2=some (bi (z%p)):=by
 unfold F.Uk
 rw[Wq7 z p (by omega) hz (by omega) j,aa]
theorem qf (hp:0<p) (hpl:nl (p:Int)<=1000) (u v:Int) (h:nl u+nl v<=70368744177660) (j:u*v<0->nl u+nl v<=70000000000000) :
  F.S0 (bi (p:Int)).1 (bi (p:Int)).2 b0 b1 n0 n1 x0 x1 y0 y1 s (bi u).1 (bi u).2 (bi v).1 (bi v).2=some (bi (u*v%p)):=by
 have y:=Bp u v
 unfold F.S0
 rw[A4 _ _ u v (by omega),aa,ti p b0 b1 n0 n1 x0 x1 y0 y1 s hp hpl _ (by omega) (fun k=>by have:=j k; omega),aa]
theorem Ea (hp:0<p) (hpl:nl (p:Int)<=1000) (u v:Int) (hu:nl u<=60000000000000) (j:nl v<=60000000000000) :
  F.Tx (bi (p:Int)).1 (bi (p:Int)).2 b0 b1 n0 n1 x0 x1 y0 y1 s (bi u).1 (bi u).2 (bi v).1 (bi v).2=some (bi ((u - v)%p)):=by
 have k:=GN u v
 unfold F.Tx
 rw[HY _ _ u v (by omega) (by omega),aa,ti p b0 b1 n0 n1 x0 x1 y0 y1 s hp hpl _ (by omega) (fun _=>by omega),aa]
theorem xV (hp:0<p) (hpl:nl (p:Int)<=1000) (k v:Int) (j:0<=k) (z:k<=1000) (y:0<=v) (h:nl v<=70368744177600) :
  F.TQ (bi (p:Int)).1 (bi (p:Int)).2 b0 b1 n0 n1 x0 x1 y0 y1 s k (bi v).1 (bi v).2=some (bi (k*v%p)):=by
 have A:nl k<=1:=zM (by omega)
 unfold F.TQ
 rw[mZ k (by omega) (by omega),aa,qf p b0 b1 n0 n1 x0 x1 y0 y1 s hp hpl k v (by omega) (fun B=>by have:=fR j y; omega),aa]
end
def onN (p b x y:Nat):Bool:=decide (x<p)&&(decide (y<p)&&decide (y*y%p=((x*(x*x%p)%p+p - 3*x%p)%p+b)%p))
theorem Cd (p A B:Nat) (hA:A<p) (j:B<p):((A:Int) - (B:Int))%(p:Int)=(((A+p - B)%p:Nat):Int):=by
 rw[ch,show (((A+p - B:Nat):Int))=(A:Int) - B+p by omega,Int.add_emod_right]
theorem LS (p b:Nat) (n0:Bool) (n1:L00) (x0:Bool) (x1:L00) (y0:Bool) (y1:L00) (s:Int) (hp:0<p) (hpl:nl (p:Int)<=1000) (hb:b<p) (x y:Nat) (hx:nl (x:Int)<=35184372087808) (hy:nl (y:Int)<=35184372087808) :
  F.VU (bi (p:Int)).1 (bi (p:Int)).2 (bi (b:Int)).1 (bi (b:Int)).2 n0 n1 x0 x1 y0 y1 s (bi (x:Int)).1 (bi (x:Int)).2 (bi (y:Int)).1 (bi (y:Int)).2=some (onN p b x y):=by
 have j:(0:Int)<(p:Int):=by omega
 have Z:nl (b:Int)<=1000:=ba (kR (by omega)) hpl
 have m1:=rS ((x:Int)*x) j
 have q1:=fR (dx x) (dx x)
 have N:=iF ((x:Int)*x) (show (p:Int)≠0 by omega)
 have q3:=fR (dx x) N
 unfold F.VU
 rw[qf p _ _ n0 n1 x0 x1 y0 y1 s hp hpl _ _ (by omega) (fun h=>by omega),aa,qf p _ _ n0 n1 x0 x1 y0 y1 s hp hpl _ _ (by omega) (fun h=>by omega),aa,
  xV p _ _ n0 n1 x0 x1 y0 y1 s hp hpl 3 _ (by decide) (by decide) (dx x) (by omega),aa]
 have O:=rS ((x:Int)*((x:Int)*x%p)) j
 have R:=rS (3*(x:Int)) j
 have U:(x:Int)*((x:Int)*x%p)%p=((x*(x*x%p)%p:Nat):Int):=by rw[ch,dp,ch,dp]
 have V:3*(x:Int)%p=((3*x%p:Nat):Int):=by rw[ch,dp]; rfl
 obtain⟨A,hA⟩:∃A,x*(x*x%p)%p=A:=⟨_,rfl⟩
 obtain⟨B,k⟩:∃B,3*x%p=B:=⟨_,rfl⟩
 have G:A<p:=by rw[<-hA]; exact bH _ hp
 have I:B<p:=by rw[<-k]; exact bH _ hp
 rw[U,hA]at O ⊢
 rw[V,k]at R ⊢
 rw[Ea p _ _ n0 n1 x0 x1 y0 y1 s hp hpl _ _ (by omega) (by omega),aa,Cd p A B G I]
 obtain⟨D,z⟩:∃D,(A+p - B)%p=D:=⟨_,rfl⟩
 have ab:D<p:=by rw[<-z]; exact bH _ hp
 have m4:nl (D:Int)<=1000:=ba (kR (by omega)) hpl
 have m5:=Bh (D:Int) (b:Int)
 rw[z,vk _ _ (by omega) (by omega),aa,ti p _ _ n0 n1 x0 x1 y0 y1 s hp hpl _ (by omega) (fun _=>by omega),aa,vd _ _ (by omega) (by omega),aa]
 unfold onN
 rw[hA,k,z]
 have J:∀u v:Nat,decide (As (u:Int) (v:Int)<0)=decide (u<v):=fun u v=>by
  unfold As
  by_cases h:u<v
  ·rw[ag (by omega),ai h]; rfl
  ·rw[ae (by omega),au h]; split <;> rfl
 rw[J]
 by_cases h1:x<p
 ·rw[ai h1,ag rfl,vd _ _ (by omega) (by omega),aa,J]
  by_cases h2:y<p
  ·have ac:nl (y:Int)<=1000:=ba (kR (by omega)) hpl
   have q4:=fR (dx y) (dx y)
   have m6:=rS ((y:Int)*y) j
   have m7:=rS ((D:Int)+b) j
   rw[ai h2,ag rfl,qf p _ _ n0 n1 x0 x1 y0 y1 s hp hpl _ _ (by omega) (fun h=>by omega),aa,vd _ _ (by omega) (by omega),aa]
   have X:(y:Int)*y%p=((y*y%p:Nat):Int):=by rw[ch,dp]
   have Y:((D:Int)+b)%p=(((D+b)%p:Nat):Int):=by rw[ch,iI]
   rw[X,Y]
   unfold As
   congr 1
   by_cases h3:y*y%p=(D+b)%p
   ·rw[h3,ae (by omega),ag rfl]; simp
   ·rw[dP,dP,au h3,cR]
    split
    ·omega
    ·rw[ae (by omega)]; omega
  ·rw[au h2,ae (by decide)]; rfl
 ·rw[au h1,ae (by decide)]; rfl
theorem Ft (a:L00) (ha:a.length<=35184372087808):F.Vo a=some (bi (val a:Int)):=by
 have j:=mz (val a)
 have k:(ar (val a)).length<=a.length:=bu (cv a)
 have y:nby (val a)<=4*a.length:=by unfold nby; omega
 unfold F.Vo
 rw[In a ha,aa,pR _ _ _ (by rw[mb]; omega),aa,wD,az (vV _)]
theorem Hf (n:Nat) (hn:nl (n:Int)<=1000000000):F.Ut (bi (n:Int)).1 (bi (n:Int)).2=some (ar n):=by
 have j:=mz n
 have k:(ar n).length<=1000000000:=by have:=hn; unfold nl at this; rwa [cG]at this
 have y:nby n<=4*(ar n).length:=by unfold nby; omega
 unfold F.Ut
 rw[Ki _ hn,aa,cG,fx _ (by rw[mb]; omega),aa,wD,az (vV _)]
theorem Gg (a:L00):nl (val a:Int)<=a.length:=by unfold nl; rw[cG]; exact bu (cv a)
def onS (c:Int) (X Y:L00) (inf:Bool):Bool:=if isC c then (if inf then decide (val X=0)&&decide (val Y=0) else onN (cP c) (cB c) (val X) (val Y)) else false
def rdT (X Y:L00) (inf:Bool):Bool×L00×Bool×L00×Bool×L00:=
 if inf then (false,[],false,[],false,[]) else ((bi (val X:Int)).1,(bi (val X:Int)).2,(bi (val Y:Int)).1,(bi (val Y:Int)).2,(bi 1).1,(bi 1).2)
theorem NM (c:Int) (hc:isC c) (X Y:L00) (j:Bool) (hX:X.length<=35184372087808) (k:Y.length<=35184372087808) :
  F.WP (gT c).1 (gT c).2.1 (gT c).2.2.1 (gT c).2.2.2.1 (gT c).2.2.2.2.1 (gT c).2.2.2.2.2.1 (gT c).2.2.2.2.2.2.1 (gT c).2.2.2.2.2.2.2.1 (gT c).2.2.2.2.2.2.2.2.1 (gT c).2.2.2.2.2.2.2.2.2.1 (gT c).2.2.2.2.2.2.2.2.2.2 X Y j =
   some ((rdT X Y j).1,(rdT X Y j).2.1,(rdT X Y j).2.2.1,(rdT X Y j).2.2.2.1,(rdT X Y j).2.2.2.2.1,(rdT X Y j).2.2.2.2.2,onS c X Y j):=by
 obtain⟨A,z,_,_,_,B,_⟩:=kC c
 have hp:=tj c
 unfold F.WP
 rw[Ft X hX,aa,Ft Y k,aa]
 unfold onS rdT
 rw[ag hc]
 cases j with
 | true=>
  have sg:∀v:Nat,(if ((v:Int))=0 then (0:Int) else if (v:Int)<0 then -1 else 1)=if v=0 then 0 else 1:=fun v=>by
   by_cases h:v=0
   ·rw[ag (by omega),ag h]
   ·rw[ae (by omega),ae (by omega),ae h]
  have y:∀v:Nat,((if v=0 then (0:Int) else 1) == 0)=decide (v=0):=fun v=>by
   by_cases h:v=0
   ·rw[ag h,ai h]; rfl
   ·rw[ae h,au h]; rfl
  rw[ag rfl]
  unfold F.Ud
  rw[aa,wU,aa,sg]
  show _=some (false,[],false,[],false,[],decide (val X=0)&&decide (val Y=0))
  by_cases h1:val X=0
  ·rw[ag h1,ag (by rfl),wU,aa,sg,y,ai h1,dP]
  ·rw[ae h1,ae (by decide),au h1,ee]
 | false=>
  rw[ae (by decide),mZ 1 (by decide) (by decide),aa]
  have h:=LS (cP c) (cB c) (bi (cN c:Int)).1 (bi (cN c:Int)).2 (bi (cX c:Int)).1 (bi (cX c:Int)).2 (bi (cY c:Int)).1 (bi (cY c:Int)).2 (cS c) (by omega) (by omega) z (val X) (val Y) (ba (Gg X) hX) (ba (Gg Y) k)
  unfold gT
  dsimp only
  rw[h,aa]
  simp
theorem Jh (c:Int) (X Y:L00) (j:Bool) (hX:X.length<=35184372087808) (k:Y.length<=35184372087808) :
  F.Y6 c X Y j=some (if isC c then some ((gT c).1,(gT c).2.1,(gT c).2.2.1,(gT c).2.2.2.1,(gT c).2.2.2.2.1,(gT c).2.2.2.2.2.1,(gT c).2.2.2.2.2.2.1,(gT c).2.2.2.2.2.2.2.1,(gT c).2.2.2.2.2.2.2.2.1,(gT c).2.2.2.2.2.2.2.2.2.1,(gT c).2.2.2.2.2.2.2.2.2.2,
   (rdT X Y j).1,(rdT X Y j).2.1,(rdT X Y j).2.2.1,(rdT X Y j).2.2.2.1,(rdT X Y j).2.2.2.2.1,(rdT X Y j).2.2.2.2.2) else none,onS c X Y j):=by
 unfold F.Y6
 rw[of_eq,aa]
 by_cases h:isC c
 ·rw[ag h,ag h]
  show af (F.WP _ _ _ _ _ _ _ _ _ _ _ _ _ _) _=_
  rw[NM c h X Y j hX k,aa]
 ·rw[ae h,ae h]
  unfold onS
  rw[ae h]; rfl
theorem Dr (c:Int):F.Wp c=some (if isC c then cS c else 0):=by
 unfold F.Wp
 rw[of_eq,aa]
 by_cases h:isC c
 ·rw[ag h,ag h]; rfl
 ·rw[ae h,ae h]; rfl
theorem J5 (c:Int) {v:Nat} (h:v<cP c):nl (v:Int)<=1000000000:=by
 have:=ba (kR (show ((v:Int)).natAbs<=((cP c:Int)).natAbs by omega)) (tj c)
 omega
theorem Ja (c:Int):F.Zo c=some (if isC c then ar (cN c) else []):=by
 unfold F.Zo
 rw[of_eq,aa]
 by_cases h:isC c
 ·rw[ag h,ag h]
  show af (F.Ut _ _) _=_
  rw[show (gT c).2.2.2.2.1=(bi (cN c:Int)).1 from rfl,show (gT c).2.2.2.2.2.1=(bi (cN c:Int)).2 from rfl,Hf _ (J5 c (kC c).2.2.1),aa]
 ·rw[ae h,ae h]; rfl
theorem tl (c:Int) {v:Nat} (h:v<=cP c):(ar v).length<=12:=bu (by have:=(kC c).1; omega)
def nS (c:Int):Nat:=if c=1 then 32 else 48
theorem EM (c:Int):cS c=((nS c:Nat):Int):=by unfold cS nS; split <;> rfl
theorem nS4 (c:Int):nS c=4*(nS c / 4)/\nS c<=48/\0<nS c:=by unfold nS; split <;> decide
def oh (c:Int) (x y:L01):L00×L00×Bool×Int:=
 if isC c/\x.length=nS c/\y.length=nS c/\onN (cP c) (cB c) (beN x) (beN y)=true then (ar (beN x),ar (beN y),false,0) else ([],[],false,93)
theorem GK (x:L01) (h:x.length<=48):nl (beN x:Int)<=1000:=by
 unfold nl; rw[cG]
 have:=nk (lF x); omega
theorem xN (c:Int) (x y:L01):F.Xi c x y=some (oh c x y):=by
 obtain⟨z,k,_,_,_,A,_⟩:=kC c
 have hp:=tj c
 obtain⟨n1,B,G⟩:=nS4 c
 have j:F.WS x y true=some ([],[],false,93):=rfl
 unfold F.Xi oh
 rw[of_eq,aa]
 by_cases hc:isC c
 ·rw[ag hc]
  show (if ((x.length:Int) != cS c)=true then _ else _)=_
  rw[EM]
  by_cases h1:x.length=nS c
  ·rw[ae (by rw[h1]; simp)]
   show (if ((y.length:Int) != cS c)=true then _ else _)=_
   rw[EM]
   by_cases h2:y.length=nS c
   ·rw[ae (by rw[h2]; simp),pR _ _ x (by omega),aa,pR _ _ y (by omega),aa]
    have h:=LS (cP c) (cB c) (bi (cN c:Int)).1 (bi (cN c:Int)).2 (bi (cX c:Int)).1 (bi (cX c:Int)).2 (bi (cY c:Int)).1 (bi (cY c:Int)).2 (cS c) (by omega) (by omega) k (beN x) (beN y) (by have:=GK x (by omega); omega) (by have:=GK y (by omega); omega)
    show af (F.VU (bi (cP c:Int)).1 (bi (cP c:Int)).2 (bi (cB c:Int)).1 (bi (cB c:Int)).2 (bi (cN c:Int)).1 (bi (cN c:Int)).2 (bi (cX c:Int)).1 (bi (cX c:Int)).2 (bi (cY c:Int)).1 (bi (cY c:Int)).2 (cS c) _ _ _ _) _=_
    rw[h,aa]
    cases ho:onN (cP c) (cB c) (beN x) (beN y) with
    | true=>
     rw[ag ⟨hc,h1,h2,rfl⟩]
     unfold F.WS
     rw[ae (by decide),fx x (by omega),aa,fx y (by omega),aa]
    | false=>
     rw[ae (fun h=>by cases h.2.2.2)]
     exact j
   ·rw[ag (by simp only[dC]; omega),ae (fun h=>h2 h.2.2.1)]; exact j
  ·rw[ag (by simp only[dC]; omega),ae (fun h=>h1 h.2.1)]; exact j
 ·rw[ae hc,ae (fun h=>hc h.1)]; rfl
theorem Gz {p b x y:Nat} (h:onN p b x y=true):x<p/\y<p:=by
 unfold onN at h
 simp only[aK,ak]at h
 exact⟨h.1,h.2.1⟩
end Go.Gk.Bn
end
