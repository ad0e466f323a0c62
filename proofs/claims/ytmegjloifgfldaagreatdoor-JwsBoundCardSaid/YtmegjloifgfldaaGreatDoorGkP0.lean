import Derived.Test.YtmegjloifgfldaaGreatDoorGkS
import Derived.Test.YtmegjloifgfldaaGreatDoorGkFman
set_option linter.unusedVariables false
set_option linter.unusedSimpArgs false
set_option linter.unusedSectionVars false

section
namespace Go.Gk
theorem gC {x y:Nat} (k:Nat) (hx:x%2^k=0) (hy:y<2^k):x ||| y=x+y:=by
 have f:x=(x / 2^k) <<< k:=by
  rw[Nat.shiftLeft_eq]
  have:=Nat.div_add_mod x (2^k)
  rw[hx]at this
  rw[Nat.mul_comm]; omega
 rw[f,<-Nat.shiftLeft_add_eq_or_of_lt hy]
theorem kF (x k:Nat):x &&& (2^k - 1)=x%2^k:=Nat.and_two_pow_sub_one_eq_mod x k
section
theorem dZ (x:UInt64) (n:Nat):(aH x n).toNat=x.toNat*2^(min n 64)%18446744073709551616:=by simp[aH,UInt64.toNat_ofNat']
theorem dL (x:UInt64) (n:Nat):(aP x n).toNat=x.toNat / 2^(min n 64):=by
 simp only[aP,UInt64.toNat_ofNat']
 exact Nat.mod_eq_of_lt (Nat.lt_of_le_of_lt (Nat.div_le_self _ _) x.toNat_lt)
theorem pq (x:UInt32) (n:Nat):(cv x n).toNat=x.toNat*2^(min n 32)%4294967296:=by simp[cv,UInt32.toNat_ofNat']
theorem gu (x:UInt32) (n:Nat):(bu x n).toNat=x.toNat / 2^(min n 32):=by
 simp only[bu,UInt32.toNat_ofNat']
 exact Nat.mod_eq_of_lt (Nat.lt_of_le_of_lt (Nat.div_le_self _ _) x.toNat_lt)
theorem qH (x:UInt8) (n:Nat):(mz x n).toNat=x.toNat*2^(min n 8)%256:=by simp[mz,UInt8.toNat_ofNat']
theorem rD (x:UInt8) (n:Nat):(jt x n).toNat=x.toNat / 2^(min n 8):=by
 simp only[jt,UInt8.toNat_ofNat']
 exact Nat.mod_eq_of_lt (Nat.lt_of_le_of_lt (Nat.div_le_self _ _) x.toNat_lt)
end
theorem q5 (n:Nat) (h:n<9223372036854775808):wI (n:Int)=n:=aJ (by omega) (by omega)
theorem iP {τ:Type} (a:τ) (l:List τ):aC (a :: l) (0:Int)=some a:=by simp[aC]
theorem jR {τ:Type} (a b:τ) (l:List τ):aC (a :: b :: l) (1:Int)=some b:=by simp[aC]
theorem oA {τ:Type} (a b c:τ) (l:List τ):aC (a :: b :: c :: l) (2:Int)=some c:=by simp[aC]
theorem A1 {τ:Type} (a b c d:τ) (l:List τ):aC (a :: b :: c :: d :: l) (3:Int)=some d:=by simp[aC]
theorem fS {τ:Type} {l:List τ} {i:Nat} (h:i<l.length):aC l (i:Int)=some l[i]:=by rw[jn]; simp[h]
theorem rA {τ:Type} {l m:List τ} {bytes:Nat} (h:(l.length+m.length)*bytes<=225000000000000):apO bytes l m=some (l++m):=if_pos h
theorem jr {τ:Type} {l m:List τ} (h:l.length+m.length<=225000000000000):apO 1 l m=some (l++m):=if_pos (by omega)
theorem oU {l m:Q1} (h:l.length+m.length<=9223372036854775807):oE l m=some (l++m):=if_pos h
theorem dy {τ:Type} {bytes:Nat} {l c:Int} {f:τ} (h:0<=l/\l<=c/\(bytes:Int)*c<=281474976710656/\c<=9223372036854775807):mkO bytes l c f=some (List.replicate l.toNat f):=if_pos h
theorem ib {τ:Type} {l:List τ} {k:Nat} (h:k<=l.length):drO l (k:Int)=some (l.drop k):=by
 unfold drO; rw[if_pos (by simp; omega)]; simp
theorem vc {τ:Type} {l:List τ} {k:Nat} (h:k<=l.length):tkO l (k:Int)=some (l.take k):=by
 unfold tkO; rw[if_pos (by simp; omega)]; simp
theorem qF {τ:Type} {l:List τ} {lo hi:Nat} (h:lo<=hi) (f:hi<=l.length):slO l (lo:Int) (hi:Int)=some ((l.drop lo).take (hi - lo)):=by
 unfold slO; rw[if_pos (by simp; omega)]; simp
theorem ae {α ρ:Type} (a:α) (k:α->Option ρ):ah (some a) k=k a:=rfl
theorem aV {α ρ:Type} (a:α) (k:α->Option ρ):bp a k=k a:=rfl
end Go.Gk
end

section
namespace Go.Gk
open Go
theorem bv {σ ρ:Type} {f:σ->Option (σ⊕ρ)} {s:σ} {X:Option ρ} (h:f s=bA X):loop f s=X:=by
 rw[mm,h]
 cases X <;> rfl
end Go.Gk
end

section
namespace Go.Gk.Sh
open Go Go.Gk
theorem eN {σ α ρ:Type} {f:σ->Option (σ⊕ρ)} (st:α->Nat->σ) (I:α->Prop) (g:α->Nat->α) (lo n:Nat) {X:α->Option ρ}
  (j:∀i x,lo<=i->i<n->I x->f (st x i)=some (.inl (st (g x i) (i+1)))/\I (g x i)) (k:∀x,I x->f (st x n)=bA (X x)) :
  ∀(r i:Nat) (x:α),lo<=i->i+r=n->I x->loop f (st x i)=X ((List.range' i r).foldl g x)
 | 0,i,x,hl,h,hx=>by
  have:i=n:=by omega
  subst this
  simp only[List.range'_zero,List.foldl_nil]
  exact bv (k x hx)
 | r+1,i,x,hl,h,hx=>by
  obtain⟨o,t⟩:=j i x hl (by omega) hx
  rw[bB o,List.range'_succ,List.foldl_cons]
  exact eN st I g lo n j k r (i+1) _ (by omega) (by omega) t
theorem jy {α:Type} (I:α->Prop) (g:α->Nat->α) (h:∀i x,I x->I (g x i)):∀(r i:Nat) (x:α),I x->I ((List.range' i r).foldl g x)
 | 0,i,x,hx=>by simpa using hx
 | r+1,i,x,hx=>by
  rw[List.range'_succ,List.foldl_cons]
  exact jy I g h r (i+1) _ (h i x hx)
theorem iY {α:Type} {g f:α->Nat->α}:∀(r i:Nat) (x:α),(∀k y,i<=k->k<i+r->g y k=f y k)->(List.range' i r).foldl g x=(List.range' i r).foldl f x
 | 0,i,x,_=>rfl
 | r+1,i,x,h=>by
  rw[List.range'_succ,List.foldl_cons,List.foldl_cons,h i x (Nat.le_refl _) (by omega)]
  exact iY r (i+1) _ fun k y j o=>h k y (by omega) (by omega)
theorem aU {τ:Type} [Inhabited τ] {l:List τ} {i:Nat} (h:i<l.length) (d:τ):aC l (i:Int)=some (l.getD i d):=by
 rw[fS h,List.getD_eq_getElem?_getD,List.getElem?_eq_getElem h]; rfl
theorem Gg (e f g:UInt32):g ^^^ (e &&& (f ^^^ g))=(e &&& f) ^^^ (~~~e &&& g):=by
 apply UInt32.eq_of_toBitVec_eq
 simp only[UInt32.toBitVec_xor,UInt32.toBitVec_and,UInt32.toBitVec_not]
 ext i hi
 simp only[BitVec.getElem_xor,BitVec.getElem_and,BitVec.getElem_not]
 cases e.toBitVec[i] <;> cases f.toBitVec[i] <;> cases g.toBitVec[i] <;> rfl
theorem F8 (a b c:UInt32):(a &&& b) ||| (c &&& (a ||| b))=((a &&& b) ^^^ (a &&& c)) ^^^ (b &&& c):=by
 apply UInt32.eq_of_toBitVec_eq
 simp only[UInt32.toBitVec_xor,UInt32.toBitVec_and,UInt32.toBitVec_or]
 ext i hi
 simp only[BitVec.getElem_xor,BitVec.getElem_and,BitVec.getElem_or]
 cases a.toBitVec[i] <;> cases b.toBitVec[i] <;> cases c.toBitVec[i] <;> rfl
theorem Gm (e f g:UInt64):g ^^^ (e &&& (f ^^^ g))=(e &&& f) ^^^ (~~~e &&& g):=by
 apply UInt64.eq_of_toBitVec_eq
 simp only[UInt64.toBitVec_xor,UInt64.toBitVec_and,UInt64.toBitVec_not]
 ext i hi
 simp only[BitVec.getElem_xor,BitVec.getElem_and,BitVec.getElem_not]
 cases e.toBitVec[i] <;> cases f.toBitVec[i] <;> cases g.toBitVec[i] <;> rfl
theorem F2 (a b c:UInt64):(a &&& b) ||| (c &&& (a ||| b))=((a &&& b) ^^^ (a &&& c)) ^^^ (b &&& c):=by
 apply UInt64.eq_of_toBitVec_eq
 simp only[UInt64.toBitVec_xor,UInt64.toBitVec_and,UInt64.toBitVec_or]
 ext i hi
 simp only[BitVec.getElem_xor,BitVec.getElem_and,BitVec.getElem_or]
 cases a.toBitVec[i] <;> cases b.toBitVec[i] <;> cases c.toBitVec[i] <;> rfl
def j1 (x:UInt32) (k:Nat):UInt32:=bu x k ||| cv x (32 - k)
def jX (x:UInt64) (k:Nat):UInt64:=aP x k ||| aH x (64 - k)
theorem jE (x:UInt32) (k:Nat) (h:0<k) (j:k<32):F.GF x (-(k:Int))=some (j1 x k):=by
 unfold F.GF j1
 have f:∀k:Fin 32,0<k.val->((UInt64.ofInt (-(k.val:Int))) &&& 31).toNat=32 - k.val/\((32:UInt64) - ((UInt64.ofInt (-(k.val:Int))) &&& 31)).toNat=k.val:=by decide
 obtain⟨g,i⟩:=f ⟨k,j⟩ h
 simp only at g i
 rw[g,i,UInt32.or_comm]
theorem jD (x:UInt64) (k:Nat) (h:0<k) (j:k<64):F.GH x (-(k:Int))=some (jX x k):=by
 unfold F.GH jX
 have f:∀k:Fin 64,0<k.val->((UInt64.ofInt (-(k.val:Int))) &&& 63).toNat=64 - k.val/\((64:UInt64) - ((UInt64.ofInt (-(k.val:Int))) &&& 63)).toNat=k.val:=by decide
 obtain⟨g,i⟩:=f ⟨k,j⟩ h
 simp only at g i
 rw[g,i,UInt64.or_comm]
theorem DW:F.H3=F.Mn:=rfl
theorem Er:F.HK=F.Mh:=rfl
end Go.Gk.Sh
end

section
namespace Go.Gk.Sh
open Go Go.Gk
abbrev V8 (W:Type):=W×W×W×W×W×W×W×W
def toL {W:Type} (v:V8 W):List W:=[v.1,v.2.1,v.2.2.1,v.2.2.2.1,v.2.2.2.2.1,v.2.2.2.2.2.1,v.2.2.2.2.2.2.1,v.2.2.2.2.2.2.2]
def ofL {W:Type} (d:W) (l:List W):V8 W:=(l.getD 0 d,l.getD 1 d,l.getD 2 d,l.getD 3 d,l.getD 4 d,l.getD 5 d,l.getD 6 d,l.getD 7 d)
def v7 (b:Q1) (i:Nat):UInt32:=
 ((cv (b.getD (4*i) 0).toUInt32 24 ||| cv (b.getD (4*i+1) 0).toUInt32 16) ||| cv (b.getD (4*i+2) 0).toUInt32 8) ||| (b.getD (4*i+3) 0).toUInt32
def Dt (w:Q0) (i:Nat):UInt32:=
 ((w.getD (i - 16) 0+w.getD (i - 7) 0)+((j1 (w.getD (i - 15) 0) 7 ^^^ j1 (w.getD (i - 15) 0) 18) ^^^ bu (w.getD (i - 15) 0) 3)) +
  ((j1 (w.getD (i - 2) 0) 17 ^^^ j1 (w.getD (i - 2) 0) 19) ^^^ bu (w.getD (i - 2) 0) 10)
def fu (b:Q1) (w:Q0) (i:Nat):Q0:=if i<16 then w.set i (v7 b i) else w.set i (Dt w i)
def jz (b:Q1):Q0:=(List.range' 0 64).foldl (fu b) (List.replicate 64 0)
def E0 (v:V8 UInt32) (k w:UInt32):UInt32:=
 (((v.2.2.2.2.2.2.2+((j1 v.2.2.2.2.1 6 ^^^ j1 v.2.2.2.2.1 11) ^^^ j1 v.2.2.2.2.1 25))+((v.2.2.2.2.1 &&& v.2.2.2.2.2.1) ^^^ (~~~v.2.2.2.2.1 &&& v.2.2.2.2.2.2.1)))+k)+w
def Gq (v:V8 UInt32):UInt32:=((j1 v.1 2 ^^^ j1 v.1 13) ^^^ j1 v.1 22)+(((v.1 &&& v.2.1) ^^^ (v.1 &&& v.2.2.1)) ^^^ (v.2.1 &&& v.2.2.1))
def Dp (ws:Q0) (v:V8 UInt32) (i:Nat):V8 UInt32:=
 (E0 v (F.Mn.getD i 0) (ws.getD i 0)+Gq v,v.1,v.2.1,v.2.2.1,v.2.2.2.1+E0 v (F.Mn.getD i 0) (ws.getD i 0),v.2.2.2.2.1,v.2.2.2.2.2.1,v.2.2.2.2.2.2.1)
def qr (v:Q0) (h:Q0) (i:Nat):Q0:=h.set i (h.getD i 0+v.getD i 0)
def l7 (h:Q0) (b:Q1):Q0:=(List.range' 0 8).foldl (qr (toL ((List.range' 0 64).foldl (Dp (jz b)) (ofL 0 h)))) h
theorem lD (b:Q1) (i:Nat) (w:Q0) (f:w.length=64):(fu b w i).length=64:=by
 unfold fu; split <;> simpa using f
theorem AA (b:Q1):(jz b).length=64:=jy (fun w:Q0=>w.length=64) (fu b) (fun i x hx=>lD b i x hx) 64 0 _ (by simp)
theorem up (v:Q0) (i:Nat) (h:Q0) (f:h.length=8):(qr v h i).length=8:=by unfold qr; simpa using f
theorem B4 (h:Q0) (b:Q1) (f:h.length=8):(l7 h b).length=8:=jy (fun w:Q0=>w.length=8) _ (fun i x hx=>up _ i x hx) 8 0 _ f
theorem wS (b:Q1):jz b=(List.range' 16 48).foldl (fu b) ((List.range' 0 16).foldl (fu b) (List.replicate 64 0)):=by
 unfold jz
 rw[<-List.foldl_append]; rfl
theorem wI1 (i:Nat) (h:i<1000000):wI ((i:Int)+1)=((i+1:Nat):Int):=by rw[aJ (by omega) (by omega)]; rfl
theorem wIs (i k:Nat) (h:k<=i) (f:i<1000000):wI ((i:Int) - (k:Int))=((i - k:Nat):Int):=by rw[aJ (by omega) (by omega)]; omega
theorem BJ (i:Nat) (w:Q0) (B:16<=i) (hi:i<64) (F:w.length=64) {ρ:Type} (K:UInt32->UInt32->UInt32->UInt32->Option ρ) :
  (ah (aC w (wI ((i:Int) - 15))) fun f=>ah (aC w (wI ((i:Int) - 2))) fun g=>ah (aC w (wI ((i:Int) - 16))) fun h=>ah (aC w (wI ((i:Int) - 7))) fun j=>K f g h j) =
   K (w.getD (i - 15) 0) (w.getD (i - 2) 0) (w.getD (i - 16) 0) (w.getD (i - 7) 0):=by
 have m:∀k:Nat,k<=16->aC w (wI ((i:Int) - (k:Int)))=some (w.getD (i - k) 0):=fun k G=>by
  rw[wIs i k (by omega) (by omega),aU (by omega) 0]
 have o:=m 15 (by omega); have z:=m 2 (by omega); have t:=m 16 (by omega); have A:=m 7 (by omega)
 rw[show aC w (wI ((i:Int) - 15))=_ from o,ae,show aC w (wI ((i:Int) - 2))=_ from z,ae,show aC w (wI ((i:Int) - 16))=_ from t,ae,show aC w (wI ((i:Int) - 7))=_ from A,ae]
theorem yD (a:Int) (h:Q0) (l:List UInt64) (rest:Q1) (n:UInt64) (t:h.length=8) (hr:rest.length=128) :
  F.KS a h l rest n=some (a,l7 h rest,l,rest,n):=by
 unfold F.KS
 -- the first sixteen words
 have K:=eN (f:=F.LF rest h a l n) (fun w i=>((i:Int),w)) (fun w=>w.length=64) (fu rest) 0 16
  (X:=fun w=>loop (F.IB h a l rest n) (16,w))
  (fun i w _ hi j=>by
   have o:decide ((i:Int)<16)=true:=decide_eq_true (by omega)
   have M:wI (4*(i:Int))=((4*i:Nat):Int):=by rw[aJ (by omega) (by omega)]; omega
   have d:∀k:Nat,k<4->aC (rest.drop (4*i)) (k:Int)=some (rest.getD (4*i+k) 0):=fun k N=>by
    rw[aU (by simp; omega) 0,List.getD_eq_getElem?_getD,List.getElem?_drop,List.getD_eq_getElem?_getD]
   refine⟨?_,lD rest i w j⟩
   simp only[F.LF,o,if_true,M,ib (show 4*i<=rest.length by omega),ae,aV]
   have A:=d 0 (by omega); have B:=d 1 (by omega); have G:=d 2 (by omega); have I:=d 3 (by omega)
   simp only[show ((0:Nat):Int)=0 from rfl,show ((1:Nat):Int)=1 from rfl,show ((2:Nat):Int)=2 from rfl,show ((3:Nat):Int)=3 from rfl,Nat.add_zero]at A B G I
   rw[A,ae,B,ae,G,ae,I,ae,fS (show i<w.length by omega),ae,wI1 i (by omega),Int.toNat_natCast]
   simp only[fu,hi,if_true,v7]
   rfl)
  (fun w j=>rfl) 16 0 (List.replicate 64 0) (Nat.le_refl _) rfl (by simp)
 have O:=fun (w:Q0) (j:w.length=64)=>eN (f:=F.IB h a l rest n) (fun w i=>((i:Int),w)) (fun w=>w.length=64) (fu rest) 16 64
  (X:=fun w=>loop (F.Kr h w a l rest n) (h.getD 0 0,h.getD 1 0,h.getD 2 0,h.getD 3 0,h.getD 4 0,h.getD 5 0,h.getD 6 0,h.getD 7 0,0))
  (fun i w J hi j=>by
   have o:decide ((i:Int)<64)=true:=decide_eq_true (by omega)
   refine⟨?_,lD rest i w j⟩
   simp only[F.IB,o,if_true,BJ i w J hi j]
   rw[show F.GF (w.getD (i - 15) 0) (-7)=_ from jE _ 7 (by omega) (by omega),ae,show F.GF (w.getD (i - 15) 0) (-18)=_ from jE _ 18 (by omega) (by omega),ae,
    show F.GF (w.getD (i - 2) 0) (-17)=_ from jE _ 17 (by omega) (by omega),ae,show F.GF (w.getD (i - 2) 0) (-19)=_ from jE _ 19 (by omega) (by omega),ae,
    fS (show i<w.length by omega),ae,aV,wI1 i (by omega),Int.toNat_natCast]
   simp only[fu,show ¬i<16 by omega,if_false,Dt]
   rfl)
  (fun w j=>by
   have g:∀k:Nat,k<8->aC h (k:Int)=some (h.getD k 0):=fun k N=>aU (by omega) 0
   have R:=g 0 (by omega); have U:=g 1 (by omega); have V:=g 2 (by omega); have Y:=g 3 (by omega); have Z:=g 4 (by omega); have g5:=g 5 (by omega); have g6:=g 6 (by omega); have g7:=g 7 (by omega)
   simp only[F.IB,show decide (((64:Nat):Int)<64)=false from rfl,Bool.false_eq_true,if_false]
   rw[show aC h (0:Int)=_ from R,ae,show aC h (1:Int)=_ from U,ae,show aC h (2:Int)=_ from V,ae,show aC h (3:Int)=_ from Y,ae,show aC h (4:Int)=_ from Z,ae,show aC h (5:Int)=_ from g5,ae,show aC h (6:Int)=_ from g6,ae,show aC h (7:Int)=_ from g7,ae])
  48 16 w (Nat.le_refl _) rfl j
 have e3:=fun (z:Q0) (j:z.length=64)=>eN (f:=F.Kr h z a l rest n) (fun (v:V8 UInt32) i=>(v.1,v.2.1,v.2.2.1,v.2.2.2.1,v.2.2.2.2.1,v.2.2.2.2.2.1,v.2.2.2.2.2.2.1,v.2.2.2.2.2.2.2,(i:Int))) (fun _=>True) (Dp z) 0 64
  (X:=fun v=>loop (F.JI a l rest n v.1 v.2.1 v.2.2.1 v.2.2.2.1 v.2.2.2.2.1 v.2.2.2.2.2.1 v.2.2.2.2.2.2.1 v.2.2.2.2.2.2.2) (0,h))
  (fun i v _ hi _=>by
   have o:decide ((i:Int)<64)=true:=decide_eq_true (by omega)
   refine⟨?_,trivial⟩
   simp only[F.Kr,o,if_true]
   rw[show F.GF v.2.2.2.2.1 (-6)=_ from jE _ 6 (by omega) (by omega),ae,show F.GF v.2.2.2.2.1 (-11)=_ from jE _ 11 (by omega) (by omega),ae,show F.GF v.2.2.2.2.1 (-25)=_ from jE _ 25 (by omega) (by omega),ae,
    DW,aU (show i<F.Mn.length from hi) 0,ae,aU (show i<z.length by omega) 0,ae,aV,
    show F.GF v.1 (-2)=_ from jE _ 2 (by omega) (by omega),ae,show F.GF v.1 (-13)=_ from jE _ 13 (by omega) (by omega),ae,show F.GF v.1 (-22)=_ from jE _ 22 (by omega) (by omega),ae,aV,Gg,F8,wI1 i (by omega)]
   rfl)
  (fun v _=>rfl) 64 0 (ofL 0 h) (Nat.le_refl _) rfl trivial
 have e4:=fun (v:V8 UInt32)=>eN (f:=F.JI a l rest n v.1 v.2.1 v.2.2.1 v.2.2.2.1 v.2.2.2.2.1 v.2.2.2.2.2.1 v.2.2.2.2.2.2.1 v.2.2.2.2.2.2.2) (fun h i=>((i:Int),h)) (fun h=>h.length=8) (qr (toL v)) 0 8
  (X:=fun h=>some (a,h,l,rest,n))
  (fun i h _ hi t=>by
   have o:decide ((i:Int)<8)=true:=decide_eq_true (by omega)
   refine⟨?_,up _ i h t⟩
   simp only[F.JI,o,if_true]
   rw[aU (l:=[v.1,v.2.1,v.2.2.1,v.2.2.2.1,v.2.2.2.2.1,v.2.2.2.2.2.1,v.2.2.2.2.2.2.1,v.2.2.2.2.2.2.2]) (show i<8 from hi) 0,ae,aU (show i<h.length by omega) 0,ae,ae,aV,wI1 i (by omega),Int.toNat_natCast]
   rfl)
  (fun h t=>rfl) 8 0 h (Nat.le_refl _) rfl t
 refine K.trans ?_
 refine (O _ (jy (fun w:Q0=>w.length=64) (fu rest) (fun i x hx=>lD rest i x hx) 16 0 _ (by simp))).trans ?_
 rw[<-wS]
 refine (e3 _ (AA rest)).trans ?_
 exact e4 _
end Go.Gk.Sh
end

section
namespace Go.Gk.Sh
open Go Go.Gk
end Go.Gk.Sh
end

section
namespace Go.Gk.Sh
open Go Go.Gk
theorem cC {σ α ρ:Type} {f:σ->Option (σ⊕ρ)} (st:α->Nat->σ) (I:Nat->α->Prop) (g:α->Nat->α) (lo n:Nat) {X:α->Option ρ}
  (j:∀i x,lo<=i->i<n->I i x->f (st x i)=some (.inl (st (g x i) (i+1)))/\I (i+1) (g x i)) (k:∀x,I n x->f (st x n)=bA (X x)) :
  ∀(r i:Nat) (x:α),lo<=i->i+r=n->I i x->loop f (st x i)=X ((List.range' i r).foldl g x)
 | 0,i,x,hl,h,hx=>by
  have:i=n:=by omega
  subst this
  simp only[List.range'_zero,List.foldl_nil]
  exact bv (k x hx)
 | r+1,i,x,hl,h,hx=>by
  obtain⟨o,t⟩:=j i x hl (by omega) hx
  rw[bB o,List.range'_succ,List.foldl_cons]
  exact cC st I g lo n j k r (i+1) _ (by omega) (by omega) t
theorem cR {α:Type} (I:Nat->α->Prop) (g:α->Nat->α) (h:∀i x,I i x->I (i+1) (g x i)):∀(r i:Nat) (x:α),I i x->I (i+r) ((List.range' i r).foldl g x)
 | 0,i,x,hx=>by simpa using hx
 | r+1,i,x,hx=>by
  rw[List.range'_succ,List.foldl_cons,show i+(r+1)=i+1+r by omega]
  exact cR I g h r (i+1) _ (h i x hx)
def vw (b:Q1) (i:Nat) (x:UInt64) (k:Nat):UInt64:=aH x 8 ||| (b.getD (8*i+k) 0).toUInt64
def q8 (b:Q1) (i:Nat):UInt64:=(List.range' 0 8).foldl (vw b i) 0
def Dq (w:List UInt64) (i:Nat):UInt64:=
 ((w.getD (i - 16) 0+w.getD (i - 7) 0)+((jX (w.getD (i - 15) 0) 1 ^^^ jX (w.getD (i - 15) 0) 8) ^^^ aP (w.getD (i - 15) 0) 7)) +
  ((jX (w.getD (i - 2) 0) 19 ^^^ jX (w.getD (i - 2) 0) 61) ^^^ aP (w.getD (i - 2) 0) 6)
def eQ (b:Q1) (w:List UInt64) (i:Nat):List UInt64:=if i<16 then w.set i (q8 b i) else w.set i (Dq w i)
def jb (b:Q1):List UInt64:=(List.range' 0 80).foldl (eQ b) (List.replicate 80 0)
def Fb (v:V8 UInt64) (k w:UInt64):UInt64:=
 (((v.2.2.2.2.2.2.2+((jX v.2.2.2.2.1 14 ^^^ jX v.2.2.2.2.1 18) ^^^ jX v.2.2.2.2.1 41))+((v.2.2.2.2.1 &&& v.2.2.2.2.2.1) ^^^ (~~~v.2.2.2.2.1 &&& v.2.2.2.2.2.2.1)))+k)+w
def GB (v:V8 UInt64):UInt64:=((jX v.1 28 ^^^ jX v.1 34) ^^^ jX v.1 39)+(((v.1 &&& v.2.1) ^^^ (v.1 &&& v.2.2.1)) ^^^ (v.2.1 &&& v.2.2.1))
def Dn (ws:List UInt64) (v:V8 UInt64) (i:Nat):V8 UInt64:=
 (Fb v (F.Mh.getD i 0) (ws.getD i 0)+GB v,v.1,v.2.1,v.2.2.1,v.2.2.2.1+Fb v (F.Mh.getD i 0) (ws.getD i 0),v.2.2.2.2.1,v.2.2.2.2.2.1,v.2.2.2.2.2.2.1)
def qt (v:List UInt64) (h:List UInt64) (i:Nat):List UInt64:=h.set i (h.getD i 0+v.getD i 0)
def lW (h:List UInt64) (b:Q1):List UInt64:=(List.range' 0 8).foldl (qt (toL ((List.range' 0 80).foldl (Dn (jb b)) (ofL 0 h)))) h
def jO (i:Nat) (w:List UInt64):Prop:=w.length=80/\∀k,i<=k->w.getD k 0=0
theorem oa (b:Q1) (i:Nat) (w:List UInt64) (f:jO i w):jO (i+1) (eQ b w i):=by
 unfold eQ
 refine⟨by split <;> simpa using f.1,fun k g=>?_⟩
 have:=f.2 k (by omega)
 rw[List.getD_eq_getElem?_getD]at this ⊢
 split <;> (rw[List.getElem?_set]; rw[if_neg (by omega)]; exact this)
theorem rW:jO 0 (List.replicate 80 0):=⟨by simp,fun k _=>by
 rw[List.getD_eq_getElem?_getD,List.getElem?_replicate]; split <;> rfl⟩
theorem Aq (b:Q1):jO 80 (jb b):=cR jO (eQ b) (fun i x hx=>oa b i x hx) 80 0 _ rW
theorem rz (v:List UInt64) (i:Nat) (h:List UInt64) (f:h.length=8):(qt v h i).length=8:=by unfold qt; simpa using f
theorem yY (h:List UInt64) (b:Q1) (f:h.length=8):(lW h b).length=8:=jy (fun w:List UInt64=>w.length=8) _ (fun i x hx=>rz _ i x hx) 8 0 _ f
theorem tt (b:Q1):jb b=(List.range' 16 64).foldl (eQ b) ((List.range' 0 16).foldl (eQ b) (List.replicate 80 0)):=by
 unfold jb
 rw[<-List.foldl_append]; rfl
theorem FZ {w:List UInt64} {i:Nat} (h:i<w.length):w.set i (w.getD i 0)=w:=by
 apply List.ext_getElem?
 intro k
 rw[List.getElem?_set]
 split
 ·rename_i e
  subst e
  rw[List.getD_eq_getElem?_getD,List.getElem?_eq_getElem h]; simp[h]
 ·rfl
theorem tX {w:List UInt64} {i:Nat} (h:i<w.length) (x:UInt64):aC (w.set i x) (i:Int)=some x:=by
 rw[jn,List.getElem?_set,if_pos rfl,if_pos h]
theorem ye (i:Nat) (w:List UInt64) (B:16<=i) (hi:i<80) (F:w.length=80) {ρ:Type} (K:UInt64->UInt64->UInt64->UInt64->Option ρ) :
  (ah (aC w (wI ((i:Int) - 15))) fun f=>ah (aC w (wI ((i:Int) - 2))) fun g=>ah (aC w (wI ((i:Int) - 16))) fun h=>ah (aC w (wI ((i:Int) - 7))) fun j=>K f g h j) =
   K (w.getD (i - 15) 0) (w.getD (i - 2) 0) (w.getD (i - 16) 0) (w.getD (i - 7) 0):=by
 have m:∀k:Nat,k<=16->aC w (wI ((i:Int) - (k:Int)))=some (w.getD (i - k) 0):=fun k G=>by
  rw[wIs i k (by omega) (by omega),aU (by omega) 0]
 have o:=m 15 (by omega); have z:=m 2 (by omega); have t:=m 16 (by omega); have A:=m 7 (by omega)
 rw[show aC w (wI ((i:Int) - 15))=_ from o,ae,show aC w (wI ((i:Int) - 2))=_ from z,ae,show aC w (wI ((i:Int) - 16))=_ from t,ae,show aC w (wI ((i:Int) - 7))=_ from A,ae]
theorem yb (a:Int) (h:List UInt64) (l:Q0) (rest:Q1) (n:UInt64) (z:h.length=8) (hr:rest.length=128) :
  F.LG a l h rest n=some (a,l,lW h rest,rest,n):=by
 unfold F.LG
 -- the first sixteen words
 have I:=fun (i:Nat) (w:List UInt64) (hi:i<16) (o:jO i w)=>eN (f:=F.JJ (i:Int) ((rest.drop (8*i)).take (8*i+8 - 8*i))) (fun x j=>((j:Int),w.set i x)) (fun _=>True) (vw rest i) 0 8
  (X:=fun x=>(some (.inl (((i+1:Nat):Int),w.set i x)):Option ((Int×List UInt64)⊕(Int×Q0×List UInt64×Q1×UInt64))))
  (fun j x _ hj _=>by
   have hl:((rest.drop (8*i)).take (8*i+8 - 8*i)).length=8:=by simp; omega
   have t:decide ((j:Int)<(((rest.drop (8*i)).take (8*i+8 - 8*i)).length:Int))=true:=decide_eq_true (by omega)
   have g:aC ((rest.drop (8*i)).take (8*i+8 - 8*i)) (j:Int)=some (rest.getD (8*i+j) 0):=by
    rw[aU (by omega) 0,List.getD_eq_getElem?_getD,List.getElem?_take,if_pos (by omega),List.getElem?_drop,List.getD_eq_getElem?_getD]
   have a1:=o.1
   refine⟨?_,trivial⟩
   simp only[F.JJ,t,if_true]
   rw[g,ae,tX (by omega),ae,ae,aV,wI1 j (by omega),Int.toNat_natCast,List.set_set]
   rfl)
  (fun x _=>by
   have hl:((rest.drop (8*i)).take (8*i+8 - 8*i)).length=8:=by simp; omega
   have t:decide (((8:Nat):Int)<(((rest.drop (8*i)).take (8*i+8 - 8*i)).length:Int))=false:=decide_eq_false (by omega)
   simp only[F.JJ,t,Bool.false_eq_true,if_false,wI1 i (by omega)]
   rfl)
  8 0 0 (Nat.le_refl _) rfl trivial
 have J:=cC (f:=F.K9 rest h a l n) (fun w i=>((i:Int),w)) jO (eQ rest) 0 16
  (X:=fun w=>loop (F.Ij h a l rest n) (16,w))
  (fun i w _ hi o=>by
   have t:decide ((i:Int)<16)=true:=decide_eq_true (by omega)
   have K:wI (8*(i:Int))=((8*i:Nat):Int):=by rw[aJ (by omega) (by omega)]; omega
   have M:wI (((8*i:Nat):Int)+8)=((8*i+8:Nat):Int):=by rw[aJ (by omega) (by omega)]; omega
   refine⟨?_,oa rest i w o⟩
   simp only[F.K9,t,if_true,K,M]
   rw[qF (by omega) (by omega),ae]
   have B:=I i w hi o
   have N:w.set i 0=w:=by
    have:=FZ (w:=w) (i:=i) (by have:=o.1; omega)
    rwa [o.2 i (Nat.le_refl _)]at this
   rw[N]at B
   refine B.trans ?_
   simp only[eQ,hi,if_true,q8])
  (fun w o=>rfl) 16 0 (List.replicate 80 0) (Nat.le_refl _) rfl rW
 have O:=fun (w:List UInt64) (o:w.length=80)=>eN (f:=F.Ij h a l rest n) (fun w i=>((i:Int),w)) (fun w=>w.length=80) (eQ rest) 16 80
  (X:=fun w=>loop (F.KL h w a l rest n) (h.getD 0 0,h.getD 1 0,h.getD 2 0,h.getD 3 0,h.getD 4 0,h.getD 5 0,h.getD 6 0,h.getD 7 0,0))
  (fun i w G hi o=>by
   have t:decide ((i:Int)<80)=true:=decide_eq_true (by omega)
   refine⟨?_,(by unfold eQ; split <;> simpa using o)⟩
   simp only[F.Ij,t,if_true,ye i w G hi o]
   rw[show F.GH (w.getD (i - 15) 0) (-1)=_ from jD _ 1 (by omega) (by omega),ae,show F.GH (w.getD (i - 15) 0) (-8)=_ from jD _ 8 (by omega) (by omega),ae,
    show F.GH (w.getD (i - 2) 0) (-19)=_ from jD _ 19 (by omega) (by omega),ae,show F.GH (w.getD (i - 2) 0) (-61)=_ from jD _ 61 (by omega) (by omega),ae,
    fS (show i<w.length by omega),ae,aV,wI1 i (by omega),Int.toNat_natCast]
   simp only[eQ,show ¬i<16 by omega,if_false,Dq]
   rfl)
  (fun w o=>by
   have g:∀k:Nat,k<8->aC h (k:Int)=some (h.getD k 0):=fun k hk=>aU (by omega) 0
   have R:=g 0 (by omega); have U:=g 1 (by omega); have V:=g 2 (by omega); have Y:=g 3 (by omega); have Z:=g 4 (by omega); have g5:=g 5 (by omega); have g6:=g 6 (by omega); have g7:=g 7 (by omega)
   simp only[F.Ij,show decide (((80:Nat):Int)<80)=false from rfl,Bool.false_eq_true,if_false]
   rw[show aC h (0:Int)=_ from R,ae,show aC h (1:Int)=_ from U,ae,show aC h (2:Int)=_ from V,ae,show aC h (3:Int)=_ from Y,ae,show aC h (4:Int)=_ from Z,ae,show aC h (5:Int)=_ from g5,ae,show aC h (6:Int)=_ from g6,ae,show aC h (7:Int)=_ from g7,ae])
  64 16 w (Nat.le_refl _) rfl o
 have e3:=fun (A:List UInt64) (o:A.length=80)=>eN (f:=F.KL h A a l rest n) (fun (v:V8 UInt64) i=>(v.1,v.2.1,v.2.2.1,v.2.2.2.1,v.2.2.2.2.1,v.2.2.2.2.2.1,v.2.2.2.2.2.2.1,v.2.2.2.2.2.2.2,(i:Int))) (fun _=>True) (Dn A) 0 80
  (X:=fun v=>loop (F.Kp a l rest n v.1 v.2.1 v.2.2.1 v.2.2.2.1 v.2.2.2.2.1 v.2.2.2.2.2.1 v.2.2.2.2.2.2.1 v.2.2.2.2.2.2.2) (0,h))
  (fun i v _ hi _=>by
   have t:decide ((i:Int)<80)=true:=decide_eq_true (by omega)
   refine⟨?_,trivial⟩
   simp only[F.KL,t,if_true]
   rw[show F.GH v.2.2.2.2.1 (-14)=_ from jD _ 14 (by omega) (by omega),ae,show F.GH v.2.2.2.2.1 (-18)=_ from jD _ 18 (by omega) (by omega),ae,show F.GH v.2.2.2.2.1 (-41)=_ from jD _ 41 (by omega) (by omega),ae,
    Er,aU (show i<F.Mh.length from hi) 0,ae,aU (show i<A.length by omega) 0,ae,aV,
    show F.GH v.1 (-28)=_ from jD _ 28 (by omega) (by omega),ae,show F.GH v.1 (-34)=_ from jD _ 34 (by omega) (by omega),ae,show F.GH v.1 (-39)=_ from jD _ 39 (by omega) (by omega),ae,aV,Gm,F2,wI1 i (by omega)]
   rfl)
  (fun v _=>rfl) 80 0 (ofL 0 h) (Nat.le_refl _) rfl trivial
 have e4:=fun (v:V8 UInt64)=>eN (f:=F.Kp a l rest n v.1 v.2.1 v.2.2.1 v.2.2.2.1 v.2.2.2.2.1 v.2.2.2.2.2.1 v.2.2.2.2.2.2.1 v.2.2.2.2.2.2.2) (fun h i=>((i:Int),h)) (fun h=>h.length=8) (qt (toL v)) 0 8
  (X:=fun h=>some (a,l,h,rest,n))
  (fun i h _ hi z=>by
   have t:decide ((i:Int)<8)=true:=decide_eq_true (by omega)
   refine⟨?_,rz _ i h z⟩
   simp only[F.Kp,t,if_true]
   rw[aU (l:=[v.1,v.2.1,v.2.2.1,v.2.2.2.1,v.2.2.2.2.1,v.2.2.2.2.2.1,v.2.2.2.2.2.2.1,v.2.2.2.2.2.2.2]) (show i<8 from hi) 0,ae,aU (show i<h.length by omega) 0,ae,ae,aV,wI1 i (by omega),Int.toNat_natCast]
   rfl)
  (fun h z=>rfl) 8 0 h (Nat.le_refl _) rfl z
 refine J.trans ?_
 refine (O _ (cR jO (eQ rest) (fun i x hx=>oa rest i x hx) 16 0 _ rW).1).trans ?_
 rw[<-tt]
 refine (e3 _ ((Aq rest).1)).trans ?_
 exact e4 _
end Go.Gk.Sh
end
