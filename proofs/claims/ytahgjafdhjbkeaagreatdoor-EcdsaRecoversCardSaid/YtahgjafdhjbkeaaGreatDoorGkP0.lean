import Derived.Test.YtahgjafdhjbkeaaGreatDoorGkS
import Derived.Test.YtahgjafdhjbkeaaGreatDoorGkFman
set_option linter.unusedVariables false
set_option linter.unusedSimpArgs false
set_option linter.unusedSectionVars false

section
namespace Go.Gk
theorem nD {x y:Nat} (k:Nat) (f:x%2^k=0) (g:y<2^k):x ||| y=x+y:=by
 have h:x=(x / 2^k) <<< k:=by
  rw[Nat.shiftLeft_eq]
  have:=Nat.div_add_mod x (2^k)
  rw[f]at this
  rw[Nat.mul_comm]; omega
 rw[h,<-Nat.shiftLeft_add_eq_or_of_lt g]
section
theorem jg (x:UInt64) (n:Nat):(bH x n).toNat=x.toNat*2^(min n 64)%18446744073709551616:=by simp[bH,UInt64.toNat_ofNat']
theorem ea (x:UInt64) (n:Nat):(aO x n).toNat=x.toNat / 2^(min n 64):=by
 simp only[aO,UInt64.toNat_ofNat']
 exact Nat.mod_eq_of_lt (Nat.lt_of_le_of_lt (Nat.div_le_self _ _) x.toNat_lt)
theorem i9 (x:UInt32) (n:Nat):(bP x n).toNat=x.toNat*2^(min n 32)%4294967296:=by simp[bP,UInt32.toNat_ofNat']
theorem fH (x:UInt32) (n:Nat):(bA x n).toNat=x.toNat / 2^(min n 32):=by
 simp only[bA,UInt32.toNat_ofNat']
 exact Nat.mod_eq_of_lt (Nat.lt_of_le_of_lt (Nat.div_le_self _ _) x.toNat_lt)
end
theorem yn {τ:Type} (a:τ) (l:List τ):aA (a :: l) (0:Int)=some a:=by simp[aA]
theorem yD {τ:Type} (a b:τ) (l:List τ):aA (a :: b :: l) (1:Int)=some b:=by simp[aA]
theorem ig {τ:Type} {l:List τ} {i:Nat} (h:i<l.length):aA l (i:Int)=some l[i]:=by rw[oV]; simp[h]
theorem ef {τ:Type} {l m:List τ} {bytes:Nat} (h:(l.length+m.length)*bytes<=225000000000000):apO bytes l m=some (l++m):=if_pos h
theorem dK {τ:Type} {bytes:Nat} {l c:Int} {f:τ} (h:0<=l/\l<=c/\(bytes:Int)*c<=281474976710656/\c<=9223372036854775807):mkO bytes l c f=some (List.replicate l.toNat f):=if_pos h
theorem mU {τ:Type} {l:List τ} {k:Nat} (h:k<=l.length):drO l (k:Int)=some (l.drop k):=by
 unfold drO; rw[if_pos (by simp; omega)]; simp
theorem Ct {τ:Type} {l:List τ} {k:Nat} (h:k<=l.length):tkO l (k:Int)=some (l.take k):=by
 unfold tkO; rw[if_pos (by simp; omega)]; simp
theorem pE {τ:Type} {l:List τ} {lo hi:Nat} (h:lo<=hi) (f:hi<=l.length):slO l (lo:Int) (hi:Int)=some ((l.drop lo).take (hi - lo)):=by
 unfold slO; rw[if_pos (by simp; omega)]; simp
theorem AN {ρ:Type} {f:Int->Option (Int⊕ρ)} {n:Nat} {r:ρ} (g:∀i:Nat,i<n->f (i:Int)=some (.inl ((i:Int)+1))) (j:f (n:Int)=some (.inr r)) :
  ∀i:Nat,i<=n->loop f (i:Int)=some r:=by
 intro i hi
 induction h:n - i generalizing i with
 | zero=>
  have:i=n:=by omega
  subst this
  exact cQ j
 | succ k ih=>
  rw[bJ (g i (by omega))]
  have:=ih (i+1) (by omega) (by omega)
  simpa using this
theorem ae {α ρ:Type} (a:α) (k:α->Option ρ):ah (some a) k=k a:=rfl
theorem aS {α ρ:Type} (a:α) (k:α->Option ρ):bq a k=k a:=rfl
end Go.Gk
end

section
namespace Go.Gk
open Go
theorem bL {σ ρ:Type} {f:σ->Option (σ⊕ρ)} {s:σ} {X:Option ρ} (h:f s=bn X):loop f s=X:=by
 rw[lh,h]
 cases X <;> rfl
end Go.Gk
end

section
namespace Go.Gk.Sh
open Go Go.Gk
theorem c8 {σ α ρ:Type} {f:σ->Option (σ⊕ρ)} (st:α->Nat->σ) (I:α->Prop) (g:α->Nat->α) (lo n:Nat) {X:α->Option ρ}
  (j:∀i x,lo<=i->i<n->I x->f (st x i)=some (.inl (st (g x i) (i+1)))/\I (g x i)) (k:∀x,I x->f (st x n)=bn (X x)) :
  ∀(r i:Nat) (x:α),lo<=i->i+r=n->I x->loop f (st x i)=X ((List.range' i r).foldl g x)
 | 0,i,x,hl,h,hx=>by
  have:i=n:=by omega
  subst this
  simp only[List.range'_zero,List.foldl_nil]
  exact bL (k x hx)
 | r+1,i,x,hl,h,hx=>by
  obtain⟨m,o⟩:=j i x hl (by omega) hx
  rw[bJ m,List.range'_succ,List.foldl_cons]
  exact c8 st I g lo n j k r (i+1) _ (by omega) (by omega) o
theorem hU {α:Type} (I:α->Prop) (g:α->Nat->α) (h:∀i x,I x->I (g x i)):∀(r i:Nat) (x:α),I x->I ((List.range' i r).foldl g x)
 | 0,i,x,hx=>by simpa using hx
 | r+1,i,x,hx=>by
  rw[List.range'_succ,List.foldl_cons]
  exact hU I g h r (i+1) _ (h i x hx)
theorem iF {α:Type} {g f:α->Nat->α}:∀(r i:Nat) (x:α),(∀k y,i<=k->k<i+r->g y k=f y k)->(List.range' i r).foldl g x=(List.range' i r).foldl f x
 | 0,i,x,_=>rfl
 | r+1,i,x,h=>by
  rw[List.range'_succ,List.foldl_cons,List.foldl_cons,h i x (Nat.le_refl _) (by omega)]
  exact iF r (i+1) _ fun k y j m=>h k y (by omega) (by omega)
theorem aP {τ:Type} [Inhabited τ] {l:List τ} {i:Nat} (h:i<l.length) (d:τ):aA l (i:Int)=some (l.getD i d):=by
 rw[ig h,List.getD_eq_getElem?_getD,List.getElem?_eq_getElem h]; rfl
theorem Df (e f g:UInt32):g ^^^ (e &&& (f ^^^ g))=(e &&& f) ^^^ (~~~e &&& g):=by
 apply UInt32.eq_of_toBitVec_eq
 simp only[UInt32.toBitVec_xor,UInt32.toBitVec_and,UInt32.toBitVec_not]
 ext i hi
 simp only[BitVec.getElem_xor,BitVec.getElem_and,BitVec.getElem_not]
 cases e.toBitVec[i] <;> cases f.toBitVec[i] <;> cases g.toBitVec[i] <;> rfl
theorem C7 (a b c:UInt32):(a &&& b) ||| (c &&& (a ||| b))=((a &&& b) ^^^ (a &&& c)) ^^^ (b &&& c):=by
 apply UInt32.eq_of_toBitVec_eq
 simp only[UInt32.toBitVec_xor,UInt32.toBitVec_and,UInt32.toBitVec_or]
 ext i hi
 simp only[BitVec.getElem_xor,BitVec.getElem_and,BitVec.getElem_or]
 cases a.toBitVec[i] <;> cases b.toBitVec[i] <;> cases c.toBitVec[i] <;> rfl
theorem Dj (e f g:UInt64):g ^^^ (e &&& (f ^^^ g))=(e &&& f) ^^^ (~~~e &&& g):=by
 apply UInt64.eq_of_toBitVec_eq
 simp only[UInt64.toBitVec_xor,UInt64.toBitVec_and,UInt64.toBitVec_not]
 ext i hi
 simp only[BitVec.getElem_xor,BitVec.getElem_and,BitVec.getElem_not]
 cases e.toBitVec[i] <;> cases f.toBitVec[i] <;> cases g.toBitVec[i] <;> rfl
theorem C2 (a b c:UInt64):(a &&& b) ||| (c &&& (a ||| b))=((a &&& b) ^^^ (a &&& c)) ^^^ (b &&& c):=by
 apply UInt64.eq_of_toBitVec_eq
 simp only[UInt64.toBitVec_xor,UInt64.toBitVec_and,UInt64.toBitVec_or]
 ext i hi
 simp only[BitVec.getElem_xor,BitVec.getElem_and,BitVec.getElem_or]
 cases a.toBitVec[i] <;> cases b.toBitVec[i] <;> cases c.toBitVec[i] <;> rfl
def iH (x:UInt32) (k:Nat):UInt32:=bA x k ||| bP x (32 - k)
def iD (x:UInt64) (k:Nat):UInt64:=aO x k ||| bH x (64 - k)
theorem jf (x:UInt32) (k:Nat) (h:0<k) (j:k<32):F.Du x (-(k:Int))=some (iH x k):=by
 unfold F.Du iH
 have f:∀k:Fin 32,0<k.val->((UInt64.ofInt (-(k.val:Int))) &&& 31).toNat=32 - k.val/\((32:UInt64) - ((UInt64.ofInt (-(k.val:Int))) &&& 31)).toNat=k.val:=by decide
 obtain⟨g,i⟩:=f ⟨k,j⟩ h
 simp only at g i
 rw[g,i,UInt32.or_comm]
theorem jc (x:UInt64) (k:Nat) (h:0<k) (j:k<64):F.Dx x (-(k:Int))=some (iD x k):=by
 unfold F.Dx iD
 have f:∀k:Fin 64,0<k.val->((UInt64.ofInt (-(k.val:Int))) &&& 63).toNat=64 - k.val/\((64:UInt64) - ((UInt64.ofInt (-(k.val:Int))) &&& 63)).toNat=k.val:=by decide
 obtain⟨g,i⟩:=f ⟨k,j⟩ h
 simp only at g i
 rw[g,i,UInt64.or_comm]
theorem gM (x:UInt32) (k:Nat) (i:k<32):F.Dt x (k:Int)=some (iH x k):=by
 unfold F.Dt iH
 have f:∀k:Fin 32,(UInt64.ofInt (k.val:Int)).toNat=k.val/\(UInt64.ofInt (wI (32 - (k.val:Int)))).toNat=32 - k.val:=by decide
 obtain⟨g,h⟩:=f ⟨k,i⟩
 simp only at g h
 rw[g,h]
theorem gN (x:UInt64) (k:Nat) (i:k<64):F.Dy x (k:Int)=some (iD x k):=by
 unfold F.Dy iD
 have f:∀k:Fin 64,(UInt64.ofInt (k.val:Int)).toNat=k.val/\(UInt64.ofInt (wI (64 - (k.val:Int)))).toNat=64 - k.val:=by decide
 obtain⟨g,h⟩:=f ⟨k,i⟩
 simp only at g h
 rw[g,h]
theorem A9:F.EQ=F.DV:=rfl
theorem BE:F.Ex=F.DU:=rfl
end Go.Gk.Sh
end

section
namespace Go.Gk.Sh
open Go Go.Gk
abbrev V8 (W:Type):=W×W×W×W×W×W×W×W
def toL {W:Type} (v:V8 W):List W:=[v.1,v.2.1,v.2.2.1,v.2.2.2.1,v.2.2.2.2.1,v.2.2.2.2.2.1,v.2.2.2.2.2.2.1,v.2.2.2.2.2.2.2]
def ofL {W:Type} (d:W) (l:List W):V8 W:=(l.getD 0 d,l.getD 1 d,l.getD 2 d,l.getD 3 d,l.getD 4 d,l.getD 5 d,l.getD 6 d,l.getD 7 d)
def qi (b:L1) (i:Nat):UInt32:=
 ((bP (b.getD (4*i) 0).toUInt32 24 ||| bP (b.getD (4*i+1) 0).toUInt32 16) ||| bP (b.getD (4*i+2) 0).toUInt32 8) ||| (b.getD (4*i+3) 0).toUInt32
def wW (w:L0) (i:Nat):UInt32:=
 ((w.getD (i - 16) 0+w.getD (i - 7) 0)+((iH (w.getD (i - 15) 0) 7 ^^^ iH (w.getD (i - 15) 0) 18) ^^^ bA (w.getD (i - 15) 0) 3)) +
  ((iH (w.getD (i - 2) 0) 17 ^^^ iH (w.getD (i - 2) 0) 19) ^^^ bA (w.getD (i - 2) 0) 10)
def eF (b:L1) (w:L0) (i:Nat):L0:=if i<16 then w.set i (qi b i) else w.set i (wW w i)
def iu (b:L1):L0:=(List.range' 0 64).foldl (eF b) (List.replicate 64 0)
def Cc (v:V8 UInt32) (k w:UInt32):UInt32:=
 (((v.2.2.2.2.2.2.2+((iH v.2.2.2.2.1 6 ^^^ iH v.2.2.2.2.1 11) ^^^ iH v.2.2.2.2.1 25))+((v.2.2.2.2.1 &&& v.2.2.2.2.2.1) ^^^ (~~~v.2.2.2.2.1 &&& v.2.2.2.2.2.2.1)))+k)+w
def Dl (v:V8 UInt32):UInt32:=((iH v.1 2 ^^^ iH v.1 13) ^^^ iH v.1 22)+(((v.1 &&& v.2.1) ^^^ (v.1 &&& v.2.2.1)) ^^^ (v.2.1 &&& v.2.2.1))
def wQ (ws:L0) (v:V8 UInt32) (i:Nat):V8 UInt32:=
 (Cc v (F.DV.getD i 0) (ws.getD i 0)+Dl v,v.1,v.2.1,v.2.2.1,v.2.2.2.1+Cc v (F.DV.getD i 0) (ws.getD i 0),v.2.2.2.2.1,v.2.2.2.2.2.1,v.2.2.2.2.2.2.1)
def mK (v:L0) (h:L0) (i:Nat):L0:=h.set i (h.getD i 0+v.getD i 0)
def gH (h:L0) (b:L1):L0:=(List.range' 0 8).foldl (mK (toL ((List.range' 0 64).foldl (wQ (iu b)) (ofL 0 h)))) h
theorem jr (b:L1) (i:Nat) (w:L0) (f:w.length=64):(eF b w i).length=64:=by
 unfold eF; split <;> simpa using f
theorem rz (b:L1):(iu b).length=64:=hU (fun w:L0=>w.length=64) (eF b) (fun i x f=>jr b i x f) 64 0 _ (by simp)
theorem oS (v:L0) (i:Nat) (h:L0) (f:h.length=8):(mK v h i).length=8:=by unfold mK; simpa using f
theorem s9 (h:L0) (b:L1) (f:h.length=8):(gH h b).length=8:=hU (fun w:L0=>w.length=8) _ (fun i x g=>oS _ i x g) 8 0 _ f
theorem uR (b:L1):iu b=(List.range' 16 48).foldl (eF b) ((List.range' 0 16).foldl (eF b) (List.replicate 64 0)):=by
 unfold iu
 rw[<-List.foldl_append]; rfl
theorem wI1 (i:Nat) (h:i<1000000):wI ((i:Int)+1)=((i+1:Nat):Int):=by rw[aJ (by omega) (by omega)]; rfl
theorem wIs (i k:Nat) (h:k<=i) (f:i<1000000):wI ((i:Int) - (k:Int))=((i - k:Nat):Int):=by rw[aJ (by omega) (by omega)]; omega
theorem zh (i:Nat) (w:L0) (y:16<=i) (hi:i<64) (z:w.length=64) {ρ:Type} (K:UInt32->UInt32->UInt32->UInt32->Option ρ) :
  (ah (aA w (wI ((i:Int) - 15))) fun f=>ah (aA w (wI ((i:Int) - 2))) fun g=>ah (aA w (wI ((i:Int) - 16))) fun h=>ah (aA w (wI ((i:Int) - 7))) fun j=>K f g h j) =
   K (w.getD (i - 15) 0) (w.getD (i - 2) 0) (w.getD (i - 16) 0) (w.getD (i - 7) 0):=by
 have m:∀k:Nat,k<=16->aA w (wI ((i:Int) - (k:Int)))=some (w.getD (i - k) 0):=fun k A=>by
  rw[wIs i k (by omega) (by omega),aP (by omega) 0]
 have o:=m 15 (by omega); have t:=m 2 (by omega); have q:=m 16 (by omega); have x:=m 7 (by omega)
 rw[show aA w (wI ((i:Int) - 15))=_ from o,ae,show aA w (wI ((i:Int) - 2))=_ from t,ae,show aA w (wI ((i:Int) - 16))=_ from q,ae,show aA w (wI ((i:Int) - 7))=_ from x,ae]
theorem wr (a:Int) (h:L0) (l:List UInt64) (rest:L1) (n:UInt64) (o:h.length=8) (hr:rest.length=128) :
  F.HX a h l rest n=some (a,gH h rest,l,rest,n):=by
 unfold F.HX
 -- the first sixteen words
 have G:=c8 (f:=F.IS rest h a l n) (fun w i=>((i:Int),w)) (fun w=>w.length=64) (eF rest) 0 16
  (X:=fun w=>loop (F.Ft h a l rest n) (16,w))
  (fun i w _ hi j=>by
   have m:decide ((i:Int)<16)=true:=decide_eq_true (by omega)
   have I:wI (4*(i:Int))=((4*i:Nat):Int):=by rw[aJ (by omega) (by omega)]; omega
   have d:∀k:Nat,k<4->aA (rest.drop (4*i)) (k:Int)=some (rest.getD (4*i+k) 0):=fun k J=>by
    rw[aP (by simp; omega) 0,List.getD_eq_getElem?_getD,List.getElem?_drop,List.getD_eq_getElem?_getD]
   refine⟨?_,jr rest i w j⟩
   simp only[F.IS,m,if_true,I,mU (show 4*i<=rest.length by omega),ae,aS]
   have t:=d 0 (by omega); have y:=d 1 (by omega); have z:=d 2 (by omega); have A:=d 3 (by omega)
   simp only[show ((0:Nat):Int)=0 from rfl,show ((1:Nat):Int)=1 from rfl,show ((2:Nat):Int)=2 from rfl,show ((3:Nat):Int)=3 from rfl,Nat.add_zero]at t y z A
   rw[t,ae,y,ae,z,ae,A,ae,ig (show i<w.length by omega),ae,wI1 i (by omega),Int.toNat_natCast]
   simp only[eF,hi,if_true,qi]
   rfl)
  (fun w j=>rfl) 16 0 (List.replicate 64 0) (Nat.le_refl _) rfl (by simp)
 have K:=fun (w:L0) (j:w.length=64)=>c8 (f:=F.Ft h a l rest n) (fun w i=>((i:Int),w)) (fun w=>w.length=64) (eF rest) 16 64
  (X:=fun w=>loop (F.Hu h w a l rest n) (h.getD 0 0,h.getD 1 0,h.getD 2 0,h.getD 3 0,h.getD 4 0,h.getD 5 0,h.getD 6 0,h.getD 7 0,0))
  (fun i w B hi j=>by
   have m:decide ((i:Int)<64)=true:=decide_eq_true (by omega)
   refine⟨?_,jr rest i w j⟩
   simp only[F.Ft,m,if_true,zh i w B hi j]
   rw[show F.Du (w.getD (i - 15) 0) (-7)=_ from jf _ 7 (by omega) (by omega),ae,show F.Du (w.getD (i - 15) 0) (-18)=_ from jf _ 18 (by omega) (by omega),ae,
    show F.Du (w.getD (i - 2) 0) (-17)=_ from jf _ 17 (by omega) (by omega),ae,show F.Du (w.getD (i - 2) 0) (-19)=_ from jf _ 19 (by omega) (by omega),ae,
    ig (show i<w.length by omega),ae,aS,wI1 i (by omega),Int.toNat_natCast]
   simp only[eF,show ¬i<16 by omega,if_false,wW]
   rfl)
  (fun w j=>by
   have g:∀k:Nat,k<8->aA h (k:Int)=some (h.getD k 0):=fun k J=>aP (by omega) 0
   have M:=g 0 (by omega); have N:=g 1 (by omega); have O:=g 2 (by omega); have R:=g 3 (by omega); have U:=g 4 (by omega); have V:=g 5 (by omega); have Y:=g 6 (by omega); have Z:=g 7 (by omega)
   simp only[F.Ft,show decide (((64:Nat):Int)<64)=false from rfl,Bool.false_eq_true,if_false]
   rw[show aA h (0:Int)=_ from M,ae,show aA h (1:Int)=_ from N,ae,show aA h (2:Int)=_ from O,ae,show aA h (3:Int)=_ from R,ae,show aA h (4:Int)=_ from U,ae,show aA h (5:Int)=_ from V,ae,show aA h (6:Int)=_ from Y,ae,show aA h (7:Int)=_ from Z,ae])
  48 16 w (Nat.le_refl _) rfl j
 have e3:=fun (q:L0) (j:q.length=64)=>c8 (f:=F.Hu h q a l rest n) (fun (v:V8 UInt32) i=>(v.1,v.2.1,v.2.2.1,v.2.2.2.1,v.2.2.2.2.1,v.2.2.2.2.2.1,v.2.2.2.2.2.2.1,v.2.2.2.2.2.2.2,(i:Int))) (fun _=>True) (wQ q) 0 64
  (X:=fun v=>loop (F.GJ a l rest n v.1 v.2.1 v.2.2.1 v.2.2.2.1 v.2.2.2.2.1 v.2.2.2.2.2.1 v.2.2.2.2.2.2.1 v.2.2.2.2.2.2.2) (0,h))
  (fun i v _ hi _=>by
   have m:decide ((i:Int)<64)=true:=decide_eq_true (by omega)
   refine⟨?_,trivial⟩
   simp only[F.Hu,m,if_true]
   rw[show F.Du v.2.2.2.2.1 (-6)=_ from jf _ 6 (by omega) (by omega),ae,show F.Du v.2.2.2.2.1 (-11)=_ from jf _ 11 (by omega) (by omega),ae,show F.Du v.2.2.2.2.1 (-25)=_ from jf _ 25 (by omega) (by omega),ae,
    A9,aP (show i<F.DV.length from hi) 0,ae,aP (show i<q.length by omega) 0,ae,aS,
    show F.Du v.1 (-2)=_ from jf _ 2 (by omega) (by omega),ae,show F.Du v.1 (-13)=_ from jf _ 13 (by omega) (by omega),ae,show F.Du v.1 (-22)=_ from jf _ 22 (by omega) (by omega),ae,aS,Df,C7,wI1 i (by omega)]
   rfl)
  (fun v _=>rfl) 64 0 (ofL 0 h) (Nat.le_refl _) rfl trivial
 have e4:=fun (v:V8 UInt32)=>c8 (f:=F.GJ a l rest n v.1 v.2.1 v.2.2.1 v.2.2.2.1 v.2.2.2.2.1 v.2.2.2.2.2.1 v.2.2.2.2.2.2.1 v.2.2.2.2.2.2.2) (fun h i=>((i:Int),h)) (fun h=>h.length=8) (mK (toL v)) 0 8
  (X:=fun h=>some (a,h,l,rest,n))
  (fun i h _ hi o=>by
   have m:decide ((i:Int)<8)=true:=decide_eq_true (by omega)
   refine⟨?_,oS _ i h o⟩
   simp only[F.GJ,m,if_true]
   rw[aP (l:=[v.1,v.2.1,v.2.2.1,v.2.2.2.1,v.2.2.2.2.1,v.2.2.2.2.2.1,v.2.2.2.2.2.2.1,v.2.2.2.2.2.2.2]) (show i<8 from hi) 0,ae,aP (show i<h.length by omega) 0,ae,ae,aS,wI1 i (by omega),Int.toNat_natCast]
   rfl)
  (fun h o=>rfl) 8 0 h (Nat.le_refl _) rfl o
 refine G.trans ?_
 refine (K _ (hU (fun w:L0=>w.length=64) (eF rest) (fun i x hx=>jr rest i x hx) 16 0 _ (by simp))).trans ?_
 rw[<-uR]
 refine (e3 _ (rz rest)).trans ?_
 exact e4 _
end Go.Gk.Sh
end

section
namespace Go.Gk.Sh
open Go Go.Gk
theorem Bp {v:V8 UInt32}:aA (toL v) (0:Int)=some v.1/\aA (toL v) (1:Int)=some v.2.1/\aA (toL v) (2:Int)=some v.2.2.1/\aA (toL v) (3:Int)=some v.2.2.2.1 /\
  aA (toL v) (4:Int)=some v.2.2.2.2.1/\aA (toL v) (5:Int)=some v.2.2.2.2.2.1/\aA (toL v) (6:Int)=some v.2.2.2.2.2.2.1/\aA (toL v) (7:Int)=some v.2.2.2.2.2.2.2:=⟨rfl,rfl,rfl,rfl,rfl,rfl,rfl,rfl⟩
theorem AP {h:L0} (j:h.length=8):toL (ofL 0 h)=h:=by
 match h,j with
 | [a,b,c,d,e,f,g,i],_=>rfl
theorem rO (all:L1) (g:Nat) (h:L0) (o:h.length=8) (hl:g+64<=all.length) (hb:all.length<=1000000000000000) :
  loop (F.FH all (g:Int) h) (0,List.replicate 64 0)=some (.inl (((g+64:Nat):Int),gH h (all.drop g))):=by
 have G:=c8 (f:=F.FH all (g:Int) h) (fun w i=>((i:Int),w)) (fun w=>w.length=64) (eF (all.drop g)) 0 64
  (X:=fun w=>loop (F.HQ h w (g:Int)) (0,h))
  (fun i w _ hi x=>by
   have j:decide ((i:Int)<64)=true:=decide_eq_true (by omega)
   refine⟨?_,jr _ i w x⟩
   by_cases h16:i<16
   ·have y:decide ((i:Int)<16)=true:=decide_eq_true (by omega)
    have I:wI ((g:Int)+wI (4*(i:Int)))=((g+4*i:Nat):Int):=by rw[aJ (show -9223372036854775808<=4*(i:Int) by omega) (by omega),aJ (by omega) (by omega)]; omega
    have d:∀k:Nat,k<4->aA all (wI (((g+4*i:Nat):Int)+(k:Int)))=some ((all.drop g).getD (4*i+k) 0):=fun k J=>by
     rw[aJ (by omega) (by omega),show (((g+4*i:Nat):Int)+(k:Int))=((g+4*i+k:Nat):Int) by omega,aP (by omega) 0,List.getD_eq_getElem?_getD,List.getD_eq_getElem?_getD,List.getElem?_drop,Nat.add_assoc]
    have z:=d 0 (by omega); have K:=d 1 (by omega); have M:=d 2 (by omega); have N:=d 3 (by omega)
    rw[show ((0:Nat):Int)=0 from rfl,Int.add_zero,aJ (by omega) (by omega)]at z
    simp only[F.FH,j,y,if_true,I,aS]
    rw[z,ae,show aA all (wI (((g+4*i:Nat):Int)+1))=_ from K,ae,show aA all (wI (((g+4*i:Nat):Int)+2))=_ from M,ae,show aA all (wI (((g+4*i:Nat):Int)+3))=_ from N,ae,
     ig (show i<w.length by omega),ae,Int.toNat_natCast]
    simp only[F.Gp,wI1 i (by omega),eF,h16,if_true,qi]
    rfl
   ·have y:decide ((i:Int)<16)=false:=decide_eq_false (by omega)
    have m:∀k:Nat,k<=16->aA w (wI ((i:Int) - (k:Int)))=some (w.getD (i - k) 0):=fun k J=>by
     rw[wIs i k (by omega) (by omega),aP (by omega) 0]
    have A:=m 15 (by omega); have O:=m 2 (by omega); have B:=m 16 (by omega); have R:=m 7 (by omega)
    simp only[F.FH,j,y,if_true,Bool.false_eq_true,if_false]
    rw[show aA w (wI ((i:Int) - 15))=_ from A,ae,show aA w (wI ((i:Int) - 2))=_ from O,ae,show aA w (wI ((i:Int) - 16))=_ from B,ae,
     show F.Dt (w.getD (i - 15) 0) 7=_ from gM _ 7 (by omega),ae,show F.Dt (w.getD (i - 15) 0) 18=_ from gM _ 18 (by omega),ae,
     show aA w (wI ((i:Int) - 7))=_ from R,ae,
     show F.Dt (w.getD (i - 2) 0) 17=_ from gM _ 17 (by omega),ae,show F.Dt (w.getD (i - 2) 0) 19=_ from gM _ 19 (by omega),ae,
     ig (show i<w.length by omega),ae,aS,Int.toNat_natCast]
    simp only[F.Gp,wI1 i (by omega),eF,h16,if_false,wW]
    have e:∀a b c d:UInt32,((a+b)+c)+d=((a+c)+b)+d:=fun a b c d=>by rw[UInt32.add_assoc a b c,UInt32.add_comm b c,<-UInt32.add_assoc]
    rw[e]
    rfl)
  (fun w x=>rfl) 64 0 (List.replicate 64 0) (Nat.le_refl _) rfl (by simp)
 have U:=fun (q:L0) (x:q.length=64)=>c8 (f:=F.HQ h q (g:Int)) (fun (v:V8 UInt32) i=>((i:Int),toL v)) (fun _=>True) (wQ q) 0 64
  (X:=fun v=>loop (F.Fs (g:Int) (toL v)) (0,h))
  (fun i v _ hi _=>by
   have j:decide ((i:Int)<64)=true:=decide_eq_true (by omega)
   obtain⟨V,Y,Z,t3,t4,t5,t6,t7⟩:=Bp (v:=v)
   refine⟨?_,trivial⟩
   simp only[F.HQ,j,if_true]
   rw[V,ae,t4,ae,t7,ae,show F.Dt v.2.2.2.2.1 6=_ from gM _ 6 (by omega),ae,show F.Dt v.2.2.2.2.1 11=_ from gM _ 11 (by omega),ae,show F.Dt v.2.2.2.2.1 25=_ from gM _ 25 (by omega),ae,
    t5,ae,t6,ae,aP (show i<F.DV.length from hi) 0,ae,aP (show i<q.length by omega) 0,ae,aS,
    show F.Dt v.1 2=_ from gM _ 2 (by omega),ae,show F.Dt v.1 13=_ from gM _ 13 (by omega),ae,show F.Dt v.1 22=_ from gM _ 22 (by omega),ae,
    Y,ae,Z,ae,ae,ae,aS,ae,ae,t3,ae,ae,ae,wI1 i (by omega)]
   rfl)
  (fun v _=>rfl) 64 0 (ofL 0 h) (Nat.le_refl _) rfl trivial
 have e4:=fun (v:V8 UInt32)=>c8 (f:=F.Fs (g:Int) (toL v)) (fun h i=>((i:Int),h)) (fun h=>h.length=8) (mK (toL v)) 0 8
  (X:=fun h=>some (.inl (((g+64:Nat):Int),h)))
  (fun i h _ hi o=>by
   have j:decide ((i:Int)<8)=true:=decide_eq_true (by omega)
   refine⟨?_,oS _ i h o⟩
   simp only[F.Fs,j,if_true]
   rw[aP (show i<h.length by omega) 0,ae,aP (l:=toL v) (show i<8 from hi) 0,ae,ae,aS,wI1 i (by omega),Int.toNat_natCast]
   rfl)
  (fun h o=>by
   simp only[F.Fs,show decide (((8:Nat):Int)<8)=false from rfl,Bool.false_eq_true,if_false]
   rw[aJ (by omega) (by omega)]
   rfl) 8 0 h (Nat.le_refl _) rfl o
 refine G.trans ?_
 have t:=U (iu (all.drop g)) (rz _)
 rw[AP o]at t
 refine t.trans ?_
 exact e4 _
end Go.Gk.Sh
end

section
namespace Go.Gk.Sh
open Go Go.Gk
theorem ca {σ α ρ:Type} {f:σ->Option (σ⊕ρ)} (st:α->Nat->σ) (I:Nat->α->Prop) (g:α->Nat->α) (lo n:Nat) {X:α->Option ρ}
  (j:∀i x,lo<=i->i<n->I i x->f (st x i)=some (.inl (st (g x i) (i+1)))/\I (i+1) (g x i)) (k:∀x,I n x->f (st x n)=bn (X x)) :
  ∀(r i:Nat) (x:α),lo<=i->i+r=n->I i x->loop f (st x i)=X ((List.range' i r).foldl g x)
 | 0,i,x,hl,h,hx=>by
  have:i=n:=by omega
  subst this
  simp only[List.range'_zero,List.foldl_nil]
  exact bL (k x hx)
 | r+1,i,x,hl,h,hx=>by
  obtain⟨m,o⟩:=j i x hl (by omega) hx
  rw[bJ m,List.range'_succ,List.foldl_cons]
  exact ca st I g lo n j k r (i+1) _ (by omega) (by omega) o
theorem cG {α:Type} (I:Nat->α->Prop) (g:α->Nat->α) (h:∀i x,I i x->I (i+1) (g x i)):∀(r i:Nat) (x:α),I i x->I (i+r) ((List.range' i r).foldl g x)
 | 0,i,x,hx=>by simpa using hx
 | r+1,i,x,hx=>by
  rw[List.range'_succ,List.foldl_cons,show i+(r+1)=i+1+r by omega]
  exact cG I g h r (i+1) _ (h i x hx)
def p9 (b:L1) (i:Nat) (x:UInt64) (k:Nat):UInt64:=bH x 8 ||| (b.getD (8*i+k) 0).toUInt64
def nG (b:L1) (i:Nat):UInt64:=(List.range' 0 8).foldl (p9 b i) 0
def wS (w:List UInt64) (i:Nat):UInt64:=
 ((w.getD (i - 16) 0+w.getD (i - 7) 0)+((iD (w.getD (i - 15) 0) 1 ^^^ iD (w.getD (i - 15) 0) 8) ^^^ aO (w.getD (i - 15) 0) 7)) +
  ((iD (w.getD (i - 2) 0) 19 ^^^ iD (w.getD (i - 2) 0) 61) ^^^ aO (w.getD (i - 2) 0) 6)
def et (b:L1) (w:List UInt64) (i:Nat):List UInt64:=if i<16 then w.set i (nG b i) else w.set i (wS w i)
def ib (b:L1):List UInt64:=(List.range' 0 80).foldl (et b) (List.replicate 80 0)
def Ci (v:V8 UInt64) (k w:UInt64):UInt64:=
 (((v.2.2.2.2.2.2.2+((iD v.2.2.2.2.1 14 ^^^ iD v.2.2.2.2.1 18) ^^^ iD v.2.2.2.2.1 41))+((v.2.2.2.2.1 &&& v.2.2.2.2.2.1) ^^^ (~~~v.2.2.2.2.1 &&& v.2.2.2.2.2.2.1)))+k)+w
def Dq (v:V8 UInt64):UInt64:=((iD v.1 28 ^^^ iD v.1 34) ^^^ iD v.1 39)+(((v.1 &&& v.2.1) ^^^ (v.1 &&& v.2.2.1)) ^^^ (v.2.1 &&& v.2.2.1))
def wK (ws:List UInt64) (v:V8 UInt64) (i:Nat):V8 UInt64:=
 (Ci v (F.DU.getD i 0) (ws.getD i 0)+Dq v,v.1,v.2.1,v.2.2.1,v.2.2.2.1+Ci v (F.DU.getD i 0) (ws.getD i 0),v.2.2.2.2.1,v.2.2.2.2.2.1,v.2.2.2.2.2.2.1)
def mR (v:List UInt64) (h:List UInt64) (i:Nat):List UInt64:=h.set i (h.getD i 0+v.getD i 0)
def fh (h:List UInt64) (b:L1):List UInt64:=(List.range' 0 8).foldl (mR (toL ((List.range' 0 80).foldl (wK (ib b)) (ofL 0 h)))) h
def iK (i:Nat) (w:List UInt64):Prop:=w.length=80/\∀k,i<=k->w.getD k 0=0
theorem kB (b:L1) (i:Nat) (w:List UInt64) (f:iK i w):iK (i+1) (et b w i):=by
 unfold et
 refine⟨by split <;> simpa using f.1,fun k g=>?_⟩
 have:=f.2 k (by omega)
 rw[List.getD_eq_getElem?_getD]at this ⊢
 split <;> (rw[List.getElem?_set]; rw[if_neg (by omega)]; exact this)
theorem nZ:iK 0 (List.replicate 80 0):=⟨by simp,fun k _=>by
 rw[List.getD_eq_getElem?_getD,List.getElem?_replicate]; split <;> rfl⟩
theorem rt (b:L1):iK 80 (ib b):=cG iK (et b) (fun i x f=>kB b i x f) 80 0 _ nZ
theorem mp (v:List UInt64) (i:Nat) (h:List UInt64) (f:h.length=8):(mR v h i).length=8:=by unfold mR; simpa using f
theorem mf (h:List UInt64) (b:L1) (f:h.length=8):(fh h b).length=8:=hU (fun w:List UInt64=>w.length=8) _ (fun i x g=>mp _ i x g) 8 0 _ f
theorem rQ (b:L1):ib b=(List.range' 16 64).foldl (et b) ((List.range' 0 16).foldl (et b) (List.replicate 80 0)):=by
 unfold ib
 rw[<-List.foldl_append]; rfl
theorem Av {w:List UInt64} {i:Nat} (h:i<w.length):w.set i (w.getD i 0)=w:=by
 apply List.ext_getElem?
 intro k
 rw[List.getElem?_set]
 split
 ·rename_i e
  subst e
  rw[List.getD_eq_getElem?_getD,List.getElem?_eq_getElem h]; simp[h]
 ·rfl
theorem oL {w:List UInt64} {i:Nat} (h:i<w.length) (x:UInt64):aA (w.set i x) (i:Int)=some x:=by
 rw[oV,List.getElem?_set,if_pos rfl,if_pos h]
theorem vT (i:Nat) (w:List UInt64) (y:16<=i) (hi:i<80) (z:w.length=80) {ρ:Type} (K:UInt64->UInt64->UInt64->UInt64->Option ρ) :
  (ah (aA w (wI ((i:Int) - 15))) fun f=>ah (aA w (wI ((i:Int) - 2))) fun g=>ah (aA w (wI ((i:Int) - 16))) fun h=>ah (aA w (wI ((i:Int) - 7))) fun j=>K f g h j) =
   K (w.getD (i - 15) 0) (w.getD (i - 2) 0) (w.getD (i - 16) 0) (w.getD (i - 7) 0):=by
 have m:∀k:Nat,k<=16->aA w (wI ((i:Int) - (k:Int)))=some (w.getD (i - k) 0):=fun k A=>by
  rw[wIs i k (by omega) (by omega),aP (by omega) 0]
 have o:=m 15 (by omega); have t:=m 2 (by omega); have q:=m 16 (by omega); have x:=m 7 (by omega)
 rw[show aA w (wI ((i:Int) - 15))=_ from o,ae,show aA w (wI ((i:Int) - 2))=_ from t,ae,show aA w (wI ((i:Int) - 16))=_ from q,ae,show aA w (wI ((i:Int) - 7))=_ from x,ae]
theorem vQ (a:Int) (h:List UInt64) (l:L0) (rest:L1) (n:UInt64) (q:h.length=8) (hr:rest.length=128) :
  F.IU a l h rest n=some (a,l,fh h rest,rest,n):=by
 unfold F.IU
 -- the first sixteen words
 have A:=fun (i:Nat) (w:List UInt64) (hi:i<16) (m:iK i w)=>c8 (f:=F.GM (i:Int) ((rest.drop (8*i)).take (8*i+8 - 8*i))) (fun x j=>((j:Int),w.set i x)) (fun _=>True) (p9 rest i) 0 8
  (X:=fun x=>(some (.inl (((i+1:Nat):Int),w.set i x)):Option ((Int×List UInt64)⊕(Int×L0×List UInt64×L1×UInt64))))
  (fun j x _ hj _=>by
   have B:((rest.drop (8*i)).take (8*i+8 - 8*i)).length=8:=by simp; omega
   have o:decide ((j:Int)<(((rest.drop (8*i)).take (8*i+8 - 8*i)).length:Int))=true:=decide_eq_true (by omega)
   have g:aA ((rest.drop (8*i)).take (8*i+8 - 8*i)) (j:Int)=some (rest.getD (8*i+j) 0):=by
    rw[aP (by omega) 0,List.getD_eq_getElem?_getD,List.getElem?_take,if_pos (by omega),List.getElem?_drop,List.getD_eq_getElem?_getD]
   have a0:=m.1
   refine⟨?_,trivial⟩
   simp only[F.GM,o,if_true]
   rw[g,ae,oL (by omega),ae,ae,aS,wI1 j (by omega),Int.toNat_natCast,List.set_set]
   rfl)
  (fun x _=>by
   have B:((rest.drop (8*i)).take (8*i+8 - 8*i)).length=8:=by simp; omega
   have o:decide (((8:Nat):Int)<(((rest.drop (8*i)).take (8*i+8 - 8*i)).length:Int))=false:=decide_eq_false (by omega)
   simp only[F.GM,o,Bool.false_eq_true,if_false,wI1 i (by omega)]
   rfl)
  8 0 0 (Nat.le_refl _) rfl trivial
 have G:=ca (f:=F.Ii rest h a l n) (fun w i=>((i:Int),w)) iK (et rest) 0 16
  (X:=fun w=>loop (F.Fa h a l rest n) (16,w))
  (fun i w _ hi m=>by
   have o:decide ((i:Int)<16)=true:=decide_eq_true (by omega)
   have I:wI (8*(i:Int))=((8*i:Nat):Int):=by rw[aJ (by omega) (by omega)]; omega
   have J:wI (((8*i:Nat):Int)+8)=((8*i+8:Nat):Int):=by rw[aJ (by omega) (by omega)]; omega
   refine⟨?_,kB rest i w m⟩
   simp only[F.Ii,o,if_true,I,J]
   rw[pE (by omega) (by omega),ae]
   have y:=A i w hi m
   have K:w.set i 0=w:=by
    have:=Av (w:=w) (i:=i) (by have:=m.1; omega)
    rwa [m.2 i (Nat.le_refl _)]at this
   rw[K]at y
   refine y.trans ?_
   simp only[et,hi,if_true,nG])
  (fun w m=>rfl) 16 0 (List.replicate 80 0) (Nat.le_refl _) rfl nZ
 have M:=fun (w:List UInt64) (m:w.length=80)=>c8 (f:=F.Fa h a l rest n) (fun w i=>((i:Int),w)) (fun w=>w.length=80) (et rest) 16 80
  (X:=fun w=>loop (F.HM h w a l rest n) (h.getD 0 0,h.getD 1 0,h.getD 2 0,h.getD 3 0,h.getD 4 0,h.getD 5 0,h.getD 6 0,h.getD 7 0,0))
  (fun i w z hi m=>by
   have o:decide ((i:Int)<80)=true:=decide_eq_true (by omega)
   refine⟨?_,(by unfold et; split <;> simpa using m)⟩
   simp only[F.Fa,o,if_true,vT i w z hi m]
   rw[show F.Dx (w.getD (i - 15) 0) (-1)=_ from jc _ 1 (by omega) (by omega),ae,show F.Dx (w.getD (i - 15) 0) (-8)=_ from jc _ 8 (by omega) (by omega),ae,
    show F.Dx (w.getD (i - 2) 0) (-19)=_ from jc _ 19 (by omega) (by omega),ae,show F.Dx (w.getD (i - 2) 0) (-61)=_ from jc _ 61 (by omega) (by omega),ae,
    ig (show i<w.length by omega),ae,aS,wI1 i (by omega),Int.toNat_natCast]
   simp only[et,show ¬i<16 by omega,if_false,wS]
   rfl)
  (fun w m=>by
   have g:∀k:Nat,k<8->aA h (k:Int)=some (h.getD k 0):=fun k hk=>aP (by omega) 0
   have N:=g 0 (by omega); have O:=g 1 (by omega); have R:=g 2 (by omega); have U:=g 3 (by omega); have V:=g 4 (by omega); have Y:=g 5 (by omega); have Z:=g 6 (by omega); have g7:=g 7 (by omega)
   simp only[F.Fa,show decide (((80:Nat):Int)<80)=false from rfl,Bool.false_eq_true,if_false]
   rw[show aA h (0:Int)=_ from N,ae,show aA h (1:Int)=_ from O,ae,show aA h (2:Int)=_ from R,ae,show aA h (3:Int)=_ from U,ae,show aA h (4:Int)=_ from V,ae,show aA h (5:Int)=_ from Y,ae,show aA h (6:Int)=_ from Z,ae,show aA h (7:Int)=_ from g7,ae])
  64 16 w (Nat.le_refl _) rfl m
 have e3:=fun (t:List UInt64) (m:t.length=80)=>c8 (f:=F.HM h t a l rest n) (fun (v:V8 UInt64) i=>(v.1,v.2.1,v.2.2.1,v.2.2.2.1,v.2.2.2.2.1,v.2.2.2.2.2.1,v.2.2.2.2.2.2.1,v.2.2.2.2.2.2.2,(i:Int))) (fun _=>True) (wK t) 0 80
  (X:=fun v=>loop (F.Hs a l rest n v.1 v.2.1 v.2.2.1 v.2.2.2.1 v.2.2.2.2.1 v.2.2.2.2.2.1 v.2.2.2.2.2.2.1 v.2.2.2.2.2.2.2) (0,h))
  (fun i v _ hi _=>by
   have o:decide ((i:Int)<80)=true:=decide_eq_true (by omega)
   refine⟨?_,trivial⟩
   simp only[F.HM,o,if_true]
   rw[show F.Dx v.2.2.2.2.1 (-14)=_ from jc _ 14 (by omega) (by omega),ae,show F.Dx v.2.2.2.2.1 (-18)=_ from jc _ 18 (by omega) (by omega),ae,show F.Dx v.2.2.2.2.1 (-41)=_ from jc _ 41 (by omega) (by omega),ae,
    BE,aP (show i<F.DU.length from hi) 0,ae,aP (show i<t.length by omega) 0,ae,aS,
    show F.Dx v.1 (-28)=_ from jc _ 28 (by omega) (by omega),ae,show F.Dx v.1 (-34)=_ from jc _ 34 (by omega) (by omega),ae,show F.Dx v.1 (-39)=_ from jc _ 39 (by omega) (by omega),ae,aS,Dj,C2,wI1 i (by omega)]
   rfl)
  (fun v _=>rfl) 80 0 (ofL 0 h) (Nat.le_refl _) rfl trivial
 have e4:=fun (v:V8 UInt64)=>c8 (f:=F.Hs a l rest n v.1 v.2.1 v.2.2.1 v.2.2.2.1 v.2.2.2.2.1 v.2.2.2.2.2.1 v.2.2.2.2.2.2.1 v.2.2.2.2.2.2.2) (fun h i=>((i:Int),h)) (fun h=>h.length=8) (mR (toL v)) 0 8
  (X:=fun h=>some (a,l,h,rest,n))
  (fun i h _ hi q=>by
   have o:decide ((i:Int)<8)=true:=decide_eq_true (by omega)
   refine⟨?_,mp _ i h q⟩
   simp only[F.Hs,o,if_true]
   rw[aP (l:=[v.1,v.2.1,v.2.2.1,v.2.2.2.1,v.2.2.2.2.1,v.2.2.2.2.2.1,v.2.2.2.2.2.2.1,v.2.2.2.2.2.2.2]) (show i<8 from hi) 0,ae,aP (show i<h.length by omega) 0,ae,ae,aS,wI1 i (by omega),Int.toNat_natCast]
   rfl)
  (fun h q=>rfl) 8 0 h (Nat.le_refl _) rfl q
 refine G.trans ?_
 refine (M _ (cG iK (et rest) (fun i x hx=>kB rest i x hx) 16 0 _ nZ).1).trans ?_
 rw[<-rQ]
 refine (e3 _ ((rt rest).1)).trans ?_
 exact e4 _
end Go.Gk.Sh
end
