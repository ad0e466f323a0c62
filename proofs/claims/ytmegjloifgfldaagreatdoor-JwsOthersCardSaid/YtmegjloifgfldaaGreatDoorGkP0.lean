import Derived.Test.YtmegjloifgfldaaGreatDoorGkS
import Derived.Test.YtmegjloifgfldaaGreatDoorGkFman
set_option linter.unusedVariables false
set_option linter.unusedSimpArgs false
set_option linter.unusedSectionVars false

section
namespace Go.Gk
theorem gA {x y:Nat} (k:Nat) (hx:x%2^k=0) (hy:y<2^k):x ||| y=x+y:=by
 have f:x=(x / 2^k) <<< k:=by
  rw[Nat.shiftLeft_eq]
  have:=Nat.div_add_mod x (2^k)
  rw[hx]at this
  rw[Nat.mul_comm]; omega
 rw[f,<-Nat.shiftLeft_add_eq_or_of_lt hy]
theorem kC (x k:Nat):x &&& (2^k - 1)=x%2^k:=Nat.and_two_pow_sub_one_eq_mod x k
section
theorem dX (x:UInt64) (n:Nat):(aF x n).toNat=x.toNat*2^(min n 64)%18446744073709551616:=by simp[aF,UInt64.toNat_ofNat']
theorem dI (x:UInt64) (n:Nat):(aP x n).toNat=x.toNat / 2^(min n 64):=by
 simp only[aP,UInt64.toNat_ofNat']
 exact Nat.mod_eq_of_lt (Nat.lt_of_le_of_lt (Nat.div_le_self _ _) x.toNat_lt)
theorem pm (x:UInt32) (n:Nat):(cu x n).toNat=x.toNat*2^(min n 32)%4294967296:=by simp[cu,UInt32.toNat_ofNat']
theorem gq (x:UInt32) (n:Nat):(bv x n).toNat=x.toNat / 2^(min n 32):=by
 simp only[bv,UInt32.toNat_ofNat']
 exact Nat.mod_eq_of_lt (Nat.lt_of_le_of_lt (Nat.div_le_self _ _) x.toNat_lt)
theorem qD (x:UInt8) (n:Nat):(mu x n).toNat=x.toNat*2^(min n 8)%256:=by simp[mu,UInt8.toNat_ofNat']
theorem rx (x:UInt8) (n:Nat):(jo x n).toNat=x.toNat / 2^(min n 8):=by
 simp only[jo,UInt8.toNat_ofNat']
 exact Nat.mod_eq_of_lt (Nat.lt_of_le_of_lt (Nat.div_le_self _ _) x.toNat_lt)
end
theorem qU (n:Nat) (h:n<9223372036854775808):wI (n:Int)=n:=aI (by omega) (by omega)
theorem iL {τ:Type} (a:τ) (l:List τ):aC (a :: l) (0:Int)=some a:=by simp[aC]
theorem jM {τ:Type} (a b:τ) (l:List τ):aC (a :: b :: l) (1:Int)=some b:=by simp[aC]
theorem ov {τ:Type} (a b c:τ) (l:List τ):aC (a :: b :: c :: l) (2:Int)=some c:=by simp[aC]
theorem AU {τ:Type} (a b c d:τ) (l:List τ):aC (a :: b :: c :: d :: l) (3:Int)=some d:=by simp[aC]
theorem fO {τ:Type} {l:List τ} {i:Nat} (h:i<l.length):aC l (i:Int)=some l[i]:=by rw[jj]; simp[h]
theorem rt {τ:Type} {l m:List τ} {bytes:Nat} (h:(l.length+m.length)*bytes<=225000000000000):apO bytes l m=some (l++m):=if_pos h
theorem jm {τ:Type} {l m:List τ} (h:l.length+m.length<=225000000000000):apO 1 l m=some (l++m):=if_pos (by omega)
theorem oQ {l m:Q1} (h:l.length+m.length<=9223372036854775807):oz l m=some (l++m):=if_pos h
theorem dv {τ:Type} {bytes:Nat} {l c:Int} {f:τ} (h:0<=l/\l<=c/\(bytes:Int)*c<=281474976710656/\c<=9223372036854775807):mkO bytes l c f=some (List.replicate l.toNat f):=if_pos h
theorem g9 {τ:Type} {l:List τ} {k:Nat} (h:k<=l.length):drO l (k:Int)=some (l.drop k):=by
 unfold drO; rw[if_pos (by simp; omega)]; simp
theorem uZ {τ:Type} {l:List τ} {k:Nat} (h:k<=l.length):tkO l (k:Int)=some (l.take k):=by
 unfold tkO; rw[if_pos (by simp; omega)]; simp
theorem qB {τ:Type} {l:List τ} {lo hi:Nat} (h:lo<=hi) (f:hi<=l.length):slO l (lo:Int) (hi:Int)=some ((l.drop lo).take (hi - lo)):=by
 unfold slO; rw[if_pos (by simp; omega)]; simp
theorem ae {α ρ:Type} (a:α) (k:α->Option ρ):ah (some a) k=k a:=rfl
theorem aV {α ρ:Type} (a:α) (k:α->Option ρ):bq a k=k a:=rfl
end Go.Gk
end

section
namespace Go.Gk
open Go
theorem bu {σ ρ:Type} {f:σ->Option (σ⊕ρ)} {s:σ} {X:Option ρ} (h:f s=bz X):loop f s=X:=by
 rw[mf,h]
 cases X <;> rfl
end Go.Gk
end

section
namespace Go.Gk.Sh
open Go Go.Gk
theorem eL {σ α ρ:Type} {f:σ->Option (σ⊕ρ)} (st:α->Nat->σ) (I:α->Prop) (g:α->Nat->α) (lo n:Nat) {X:α->Option ρ}
  (j:∀i x,lo<=i->i<n->I x->f (st x i)=some (.inl (st (g x i) (i+1)))/\I (g x i)) (k:∀x,I x->f (st x n)=bz (X x)) :
  ∀(r i:Nat) (x:α),lo<=i->i+r=n->I x->loop f (st x i)=X ((List.range' i r).foldl g x)
 | 0,i,x,hl,h,hx=>by
  have:i=n:=by omega
  subst this
  simp only[List.range'_zero,List.foldl_nil]
  exact bu (k x hx)
 | r+1,i,x,hl,h,hx=>by
  obtain⟨o,t⟩:=j i x hl (by omega) hx
  rw[bB o,List.range'_succ,List.foldl_cons]
  exact eL st I g lo n j k r (i+1) _ (by omega) (by omega) t
theorem ju {α:Type} (I:α->Prop) (g:α->Nat->α) (h:∀i x,I x->I (g x i)):∀(r i:Nat) (x:α),I x->I ((List.range' i r).foldl g x)
 | 0,i,x,hx=>by simpa using hx
 | r+1,i,x,hx=>by
  rw[List.range'_succ,List.foldl_cons]
  exact ju I g h r (i+1) _ (h i x hx)
theorem iT {α:Type} {g f:α->Nat->α}:∀(r i:Nat) (x:α),(∀k y,i<=k->k<i+r->g y k=f y k)->(List.range' i r).foldl g x=(List.range' i r).foldl f x
 | 0,i,x,_=>rfl
 | r+1,i,x,h=>by
  rw[List.range'_succ,List.foldl_cons,List.foldl_cons,h i x (Nat.le_refl _) (by omega)]
  exact iT r (i+1) _ fun k y j o=>h k y (by omega) (by omega)
theorem aT {τ:Type} [Inhabited τ] {l:List τ} {i:Nat} (h:i<l.length) (d:τ):aC l (i:Int)=some (l.getD i d):=by
 rw[fO h,List.getD_eq_getElem?_getD,List.getElem?_eq_getElem h]; rfl
theorem F9 (e f g:UInt32):g ^^^ (e &&& (f ^^^ g))=(e &&& f) ^^^ (~~~e &&& g):=by
 apply UInt32.eq_of_toBitVec_eq
 simp only[UInt32.toBitVec_xor,UInt32.toBitVec_and,UInt32.toBitVec_not]
 ext i hi
 simp only[BitVec.getElem_xor,BitVec.getElem_and,BitVec.getElem_not]
 cases e.toBitVec[i] <;> cases f.toBitVec[i] <;> cases g.toBitVec[i] <;> rfl
theorem F1 (a b c:UInt32):(a &&& b) ||| (c &&& (a ||| b))=((a &&& b) ^^^ (a &&& c)) ^^^ (b &&& c):=by
 apply UInt32.eq_of_toBitVec_eq
 simp only[UInt32.toBitVec_xor,UInt32.toBitVec_and,UInt32.toBitVec_or]
 ext i hi
 simp only[BitVec.getElem_xor,BitVec.getElem_and,BitVec.getElem_or]
 cases a.toBitVec[i] <;> cases b.toBitVec[i] <;> cases c.toBitVec[i] <;> rfl
theorem Gg (e f g:UInt64):g ^^^ (e &&& (f ^^^ g))=(e &&& f) ^^^ (~~~e &&& g):=by
 apply UInt64.eq_of_toBitVec_eq
 simp only[UInt64.toBitVec_xor,UInt64.toBitVec_and,UInt64.toBitVec_not]
 ext i hi
 simp only[BitVec.getElem_xor,BitVec.getElem_and,BitVec.getElem_not]
 cases e.toBitVec[i] <;> cases f.toBitVec[i] <;> cases g.toBitVec[i] <;> rfl
theorem FV (a b c:UInt64):(a &&& b) ||| (c &&& (a ||| b))=((a &&& b) ^^^ (a &&& c)) ^^^ (b &&& c):=by
 apply UInt64.eq_of_toBitVec_eq
 simp only[UInt64.toBitVec_xor,UInt64.toBitVec_and,UInt64.toBitVec_or]
 ext i hi
 simp only[BitVec.getElem_xor,BitVec.getElem_and,BitVec.getElem_or]
 cases a.toBitVec[i] <;> cases b.toBitVec[i] <;> cases c.toBitVec[i] <;> rfl
def jX (x:UInt32) (k:Nat):UInt32:=bv x k ||| cu x (32 - k)
def jS (x:UInt64) (k:Nat):UInt64:=aP x k ||| aF x (64 - k)
theorem jB (x:UInt32) (k:Nat) (h:0<k) (j:k<32):F.GB x (-(k:Int))=some (jX x k):=by
 unfold F.GB jX
 have f:∀k:Fin 32,0<k.val->((UInt64.ofInt (-(k.val:Int))) &&& 31).toNat=32 - k.val/\((32:UInt64) - ((UInt64.ofInt (-(k.val:Int))) &&& 31)).toNat=k.val:=by decide
 obtain⟨g,i⟩:=f ⟨k,j⟩ h
 simp only at g i
 rw[g,i,UInt32.or_comm]
theorem jA (x:UInt64) (k:Nat) (h:0<k) (j:k<64):F.GD x (-(k:Int))=some (jS x k):=by
 unfold F.GD jS
 have f:∀k:Fin 64,0<k.val->((UInt64.ofInt (-(k.val:Int))) &&& 63).toNat=64 - k.val/\((64:UInt64) - ((UInt64.ofInt (-(k.val:Int))) &&& 63)).toNat=k.val:=by decide
 obtain⟨g,i⟩:=f ⟨k,j⟩ h
 simp only at g i
 rw[g,i,UInt64.or_comm]
theorem DO:F.HX=F.Me:=rfl
theorem Ej:F.HG=F.L9:=rfl
end Go.Gk.Sh
end

section
namespace Go.Gk.Sh
open Go Go.Gk
abbrev V8 (W:Type):=W×W×W×W×W×W×W×W
def toL {W:Type} (v:V8 W):List W:=[v.1,v.2.1,v.2.2.1,v.2.2.2.1,v.2.2.2.2.1,v.2.2.2.2.2.1,v.2.2.2.2.2.2.1,v.2.2.2.2.2.2.2]
def ofL {W:Type} (d:W) (l:List W):V8 W:=(l.getD 0 d,l.getD 1 d,l.getD 2 d,l.getD 3 d,l.getD 4 d,l.getD 5 d,l.getD 6 d,l.getD 7 d)
def vV (b:Q1) (i:Nat):UInt32:=
 ((cu (b.getD (4*i) 0).toUInt32 24 ||| cu (b.getD (4*i+1) 0).toUInt32 16) ||| cu (b.getD (4*i+2) 0).toUInt32 8) ||| (b.getD (4*i+3) 0).toUInt32
def Dm (w:Q0) (i:Nat):UInt32:=
 ((w.getD (i - 16) 0+w.getD (i - 7) 0)+((jX (w.getD (i - 15) 0) 7 ^^^ jX (w.getD (i - 15) 0) 18) ^^^ bv (w.getD (i - 15) 0) 3)) +
  ((jX (w.getD (i - 2) 0) 17 ^^^ jX (w.getD (i - 2) 0) 19) ^^^ bv (w.getD (i - 2) 0) 10)
def fq (b:Q1) (w:Q0) (i:Nat):Q0:=if i<16 then w.set i (vV b i) else w.set i (Dm w i)
def jv (b:Q1):Q0:=(List.range' 0 64).foldl (fq b) (List.replicate 64 0)
def ET (v:V8 UInt32) (k w:UInt32):UInt32:=
 (((v.2.2.2.2.2.2.2+((jX v.2.2.2.2.1 6 ^^^ jX v.2.2.2.2.1 11) ^^^ jX v.2.2.2.2.1 25))+((v.2.2.2.2.1 &&& v.2.2.2.2.2.1) ^^^ (~~~v.2.2.2.2.1 &&& v.2.2.2.2.2.2.1)))+k)+w
def Gj (v:V8 UInt32):UInt32:=((jX v.1 2 ^^^ jX v.1 13) ^^^ jX v.1 22)+(((v.1 &&& v.2.1) ^^^ (v.1 &&& v.2.2.1)) ^^^ (v.2.1 &&& v.2.2.1))
def Di (ws:Q0) (v:V8 UInt32) (i:Nat):V8 UInt32:=
 (ET v (F.Me.getD i 0) (ws.getD i 0)+Gj v,v.1,v.2.1,v.2.2.1,v.2.2.2.1+ET v (F.Me.getD i 0) (ws.getD i 0),v.2.2.2.2.1,v.2.2.2.2.2.1,v.2.2.2.2.2.2.1)
def qn (v:Q0) (h:Q0) (i:Nat):Q0:=h.set i (h.getD i 0+v.getD i 0)
def lU (h:Q0) (b:Q1):Q0:=(List.range' 0 8).foldl (qn (toL ((List.range' 0 64).foldl (Di (jv b)) (ofL 0 h)))) h
theorem lj (b:Q1) (i:Nat) (w:Q0) (f:w.length=64):(fq b w i).length=64:=by
 unfold fq; split <;> simpa using f
theorem Au (b:Q1):(jv b).length=64:=ju (fun w:Q0=>w.length=64) (fq b) (fun i x hx=>lj b i x hx) 64 0 _ (by simp)
theorem ul (v:Q0) (i:Nat) (h:Q0) (f:h.length=8):(qn v h i).length=8:=by unfold qn; simpa using f
theorem BW (h:Q0) (b:Q1) (f:h.length=8):(lU h b).length=8:=ju (fun w:Q0=>w.length=8) _ (fun i x hx=>ul _ i x hx) 8 0 _ f
theorem wM (b:Q1):jv b=(List.range' 16 48).foldl (fq b) ((List.range' 0 16).foldl (fq b) (List.replicate 64 0)):=by
 unfold jv
 rw[<-List.foldl_append]; rfl
theorem wI1 (i:Nat) (h:i<1000000):wI ((i:Int)+1)=((i+1:Nat):Int):=by rw[aI (by omega) (by omega)]; rfl
theorem wIs (i k:Nat) (h:k<=i) (f:i<1000000):wI ((i:Int) - (k:Int))=((i - k:Nat):Int):=by rw[aI (by omega) (by omega)]; omega
theorem BC (i:Nat) (w:Q0) (B:16<=i) (hi:i<64) (F:w.length=64) {ρ:Type} (K:UInt32->UInt32->UInt32->UInt32->Option ρ) :
  (ah (aC w (wI ((i:Int) - 15))) fun f=>ah (aC w (wI ((i:Int) - 2))) fun g=>ah (aC w (wI ((i:Int) - 16))) fun h=>ah (aC w (wI ((i:Int) - 7))) fun j=>K f g h j) =
   K (w.getD (i - 15) 0) (w.getD (i - 2) 0) (w.getD (i - 16) 0) (w.getD (i - 7) 0):=by
 have m:∀k:Nat,k<=16->aC w (wI ((i:Int) - (k:Int)))=some (w.getD (i - k) 0):=fun k G=>by
  rw[wIs i k (by omega) (by omega),aT (by omega) 0]
 have o:=m 15 (by omega); have z:=m 2 (by omega); have t:=m 16 (by omega); have A:=m 7 (by omega)
 rw[show aC w (wI ((i:Int) - 15))=_ from o,ae,show aC w (wI ((i:Int) - 2))=_ from z,ae,show aC w (wI ((i:Int) - 16))=_ from t,ae,show aC w (wI ((i:Int) - 7))=_ from A,ae]
theorem yu (a:Int) (h:Q0) (l:List UInt64) (rest:Q1) (n:UInt64) (t:h.length=8) (hr:rest.length=128) :
  F.KG a h l rest n=some (a,lU h rest,l,rest,n):=by
 unfold F.KG
 -- the first sixteen words
 have K:=eL (f:=F.Lu rest h a l n) (fun w i=>((i:Int),w)) (fun w=>w.length=64) (fq rest) 0 16
  (X:=fun w=>loop (F.Iw h a l rest n) (16,w))
  (fun i w _ hi j=>by
   have o:decide ((i:Int)<16)=true:=decide_eq_true (by omega)
   have M:wI (4*(i:Int))=((4*i:Nat):Int):=by rw[aI (by omega) (by omega)]; omega
   have d:∀k:Nat,k<4->aC (rest.drop (4*i)) (k:Int)=some (rest.getD (4*i+k) 0):=fun k N=>by
    rw[aT (by simp; omega) 0,List.getD_eq_getElem?_getD,List.getElem?_drop,List.getD_eq_getElem?_getD]
   refine⟨?_,lj rest i w j⟩
   simp only[F.Lu,o,if_true,M,g9 (show 4*i<=rest.length by omega),ae,aV]
   have A:=d 0 (by omega); have B:=d 1 (by omega); have G:=d 2 (by omega); have I:=d 3 (by omega)
   simp only[show ((0:Nat):Int)=0 from rfl,show ((1:Nat):Int)=1 from rfl,show ((2:Nat):Int)=2 from rfl,show ((3:Nat):Int)=3 from rfl,Nat.add_zero]at A B G I
   rw[A,ae,B,ae,G,ae,I,ae,fO (show i<w.length by omega),ae,wI1 i (by omega),Int.toNat_natCast]
   simp only[fq,hi,if_true,vV]
   rfl)
  (fun w j=>rfl) 16 0 (List.replicate 64 0) (Nat.le_refl _) rfl (by simp)
 have O:=fun (w:Q0) (j:w.length=64)=>eL (f:=F.Iw h a l rest n) (fun w i=>((i:Int),w)) (fun w=>w.length=64) (fq rest) 16 64
  (X:=fun w=>loop (F.Kf h w a l rest n) (h.getD 0 0,h.getD 1 0,h.getD 2 0,h.getD 3 0,h.getD 4 0,h.getD 5 0,h.getD 6 0,h.getD 7 0,0))
  (fun i w J hi j=>by
   have o:decide ((i:Int)<64)=true:=decide_eq_true (by omega)
   refine⟨?_,lj rest i w j⟩
   simp only[F.Iw,o,if_true,BC i w J hi j]
   rw[show F.GB (w.getD (i - 15) 0) (-7)=_ from jB _ 7 (by omega) (by omega),ae,show F.GB (w.getD (i - 15) 0) (-18)=_ from jB _ 18 (by omega) (by omega),ae,
    show F.GB (w.getD (i - 2) 0) (-17)=_ from jB _ 17 (by omega) (by omega),ae,show F.GB (w.getD (i - 2) 0) (-19)=_ from jB _ 19 (by omega) (by omega),ae,
    fO (show i<w.length by omega),ae,aV,wI1 i (by omega),Int.toNat_natCast]
   simp only[fq,show ¬i<16 by omega,if_false,Dm]
   rfl)
  (fun w j=>by
   have g:∀k:Nat,k<8->aC h (k:Int)=some (h.getD k 0):=fun k N=>aT (by omega) 0
   have R:=g 0 (by omega); have U:=g 1 (by omega); have V:=g 2 (by omega); have Y:=g 3 (by omega); have Z:=g 4 (by omega); have g5:=g 5 (by omega); have g6:=g 6 (by omega); have g7:=g 7 (by omega)
   simp only[F.Iw,show decide (((64:Nat):Int)<64)=false from rfl,Bool.false_eq_true,if_false]
   rw[show aC h (0:Int)=_ from R,ae,show aC h (1:Int)=_ from U,ae,show aC h (2:Int)=_ from V,ae,show aC h (3:Int)=_ from Y,ae,show aC h (4:Int)=_ from Z,ae,show aC h (5:Int)=_ from g5,ae,show aC h (6:Int)=_ from g6,ae,show aC h (7:Int)=_ from g7,ae])
  48 16 w (Nat.le_refl _) rfl j
 have e3:=fun (z:Q0) (j:z.length=64)=>eL (f:=F.Kf h z a l rest n) (fun (v:V8 UInt32) i=>(v.1,v.2.1,v.2.2.1,v.2.2.2.1,v.2.2.2.2.1,v.2.2.2.2.2.1,v.2.2.2.2.2.2.1,v.2.2.2.2.2.2.2,(i:Int))) (fun _=>True) (Di z) 0 64
  (X:=fun v=>loop (F.Jy a l rest n v.1 v.2.1 v.2.2.1 v.2.2.2.1 v.2.2.2.2.1 v.2.2.2.2.2.1 v.2.2.2.2.2.2.1 v.2.2.2.2.2.2.2) (0,h))
  (fun i v _ hi _=>by
   have o:decide ((i:Int)<64)=true:=decide_eq_true (by omega)
   refine⟨?_,trivial⟩
   simp only[F.Kf,o,if_true]
   rw[show F.GB v.2.2.2.2.1 (-6)=_ from jB _ 6 (by omega) (by omega),ae,show F.GB v.2.2.2.2.1 (-11)=_ from jB _ 11 (by omega) (by omega),ae,show F.GB v.2.2.2.2.1 (-25)=_ from jB _ 25 (by omega) (by omega),ae,
    DO,aT (show i<F.Me.length from hi) 0,ae,aT (show i<z.length by omega) 0,ae,aV,
    show F.GB v.1 (-2)=_ from jB _ 2 (by omega) (by omega),ae,show F.GB v.1 (-13)=_ from jB _ 13 (by omega) (by omega),ae,show F.GB v.1 (-22)=_ from jB _ 22 (by omega) (by omega),ae,aV,F9,F1,wI1 i (by omega)]
   rfl)
  (fun v _=>rfl) 64 0 (ofL 0 h) (Nat.le_refl _) rfl trivial
 have e4:=fun (v:V8 UInt32)=>eL (f:=F.Jy a l rest n v.1 v.2.1 v.2.2.1 v.2.2.2.1 v.2.2.2.2.1 v.2.2.2.2.2.1 v.2.2.2.2.2.2.1 v.2.2.2.2.2.2.2) (fun h i=>((i:Int),h)) (fun h=>h.length=8) (qn (toL v)) 0 8
  (X:=fun h=>some (a,h,l,rest,n))
  (fun i h _ hi t=>by
   have o:decide ((i:Int)<8)=true:=decide_eq_true (by omega)
   refine⟨?_,ul _ i h t⟩
   simp only[F.Jy,o,if_true]
   rw[aT (l:=[v.1,v.2.1,v.2.2.1,v.2.2.2.1,v.2.2.2.2.1,v.2.2.2.2.2.1,v.2.2.2.2.2.2.1,v.2.2.2.2.2.2.2]) (show i<8 from hi) 0,ae,aT (show i<h.length by omega) 0,ae,ae,aV,wI1 i (by omega),Int.toNat_natCast]
   rfl)
  (fun h t=>rfl) 8 0 h (Nat.le_refl _) rfl t
 refine K.trans ?_
 refine (O _ (ju (fun w:Q0=>w.length=64) (fq rest) (fun i x hx=>lj rest i x hx) 16 0 _ (by simp))).trans ?_
 rw[<-wM]
 refine (e3 _ (Au rest)).trans ?_
 exact e4 _
end Go.Gk.Sh
end

section
namespace Go.Gk.Sh
open Go Go.Gk
end Go.Gk.Sh
end

section
namespace Go.Gk.Sh
open Go Go.Gk
theorem cA {σ α ρ:Type} {f:σ->Option (σ⊕ρ)} (st:α->Nat->σ) (I:Nat->α->Prop) (g:α->Nat->α) (lo n:Nat) {X:α->Option ρ}
  (j:∀i x,lo<=i->i<n->I i x->f (st x i)=some (.inl (st (g x i) (i+1)))/\I (i+1) (g x i)) (k:∀x,I n x->f (st x n)=bz (X x)) :
  ∀(r i:Nat) (x:α),lo<=i->i+r=n->I i x->loop f (st x i)=X ((List.range' i r).foldl g x)
 | 0,i,x,hl,h,hx=>by
  have:i=n:=by omega
  subst this
  simp only[List.range'_zero,List.foldl_nil]
  exact bu (k x hx)
 | r+1,i,x,hl,h,hx=>by
  obtain⟨o,t⟩:=j i x hl (by omega) hx
  rw[bB o,List.range'_succ,List.foldl_cons]
  exact cA st I g lo n j k r (i+1) _ (by omega) (by omega) t
theorem cQ {α:Type} (I:Nat->α->Prop) (g:α->Nat->α) (h:∀i x,I i x->I (i+1) (g x i)):∀(r i:Nat) (x:α),I i x->I (i+r) ((List.range' i r).foldl g x)
 | 0,i,x,hx=>by simpa using hx
 | r+1,i,x,hx=>by
  rw[List.range'_succ,List.foldl_cons,show i+(r+1)=i+1+r by omega]
  exact cQ I g h r (i+1) _ (h i x hx)
def vn (b:Q1) (i:Nat) (x:UInt64) (k:Nat):UInt64:=aF x 8 ||| (b.getD (8*i+k) 0).toUInt64
def qX (b:Q1) (i:Nat):UInt64:=(List.range' 0 8).foldl (vn b i) 0
def Dj (w:List UInt64) (i:Nat):UInt64:=
 ((w.getD (i - 16) 0+w.getD (i - 7) 0)+((jS (w.getD (i - 15) 0) 1 ^^^ jS (w.getD (i - 15) 0) 8) ^^^ aP (w.getD (i - 15) 0) 7)) +
  ((jS (w.getD (i - 2) 0) 19 ^^^ jS (w.getD (i - 2) 0) 61) ^^^ aP (w.getD (i - 2) 0) 6)
def eO (b:Q1) (w:List UInt64) (i:Nat):List UInt64:=if i<16 then w.set i (qX b i) else w.set i (Dj w i)
def i8 (b:Q1):List UInt64:=(List.range' 0 80).foldl (eO b) (List.replicate 80 0)
def E4 (v:V8 UInt64) (k w:UInt64):UInt64:=
 (((v.2.2.2.2.2.2.2+((jS v.2.2.2.2.1 14 ^^^ jS v.2.2.2.2.1 18) ^^^ jS v.2.2.2.2.1 41))+((v.2.2.2.2.1 &&& v.2.2.2.2.2.1) ^^^ (~~~v.2.2.2.2.1 &&& v.2.2.2.2.2.2.1)))+k)+w
def Gw (v:V8 UInt64):UInt64:=((jS v.1 28 ^^^ jS v.1 34) ^^^ jS v.1 39)+(((v.1 &&& v.2.1) ^^^ (v.1 &&& v.2.2.1)) ^^^ (v.2.1 &&& v.2.2.1))
def Dg (ws:List UInt64) (v:V8 UInt64) (i:Nat):V8 UInt64:=
 (E4 v (F.L9.getD i 0) (ws.getD i 0)+Gw v,v.1,v.2.1,v.2.2.1,v.2.2.2.1+E4 v (F.L9.getD i 0) (ws.getD i 0),v.2.2.2.2.1,v.2.2.2.2.2.1,v.2.2.2.2.2.2.1)
def qp (v:List UInt64) (h:List UInt64) (i:Nat):List UInt64:=h.set i (h.getD i 0+v.getD i 0)
def lR (h:List UInt64) (b:Q1):List UInt64:=(List.range' 0 8).foldl (qp (toL ((List.range' 0 80).foldl (Dg (i8 b)) (ofL 0 h)))) h
def jK (i:Nat) (w:List UInt64):Prop:=w.length=80/\∀k,i<=k->w.getD k 0=0
theorem n6 (b:Q1) (i:Nat) (w:List UInt64) (f:jK i w):jK (i+1) (eO b w i):=by
 unfold eO
 refine⟨by split <;> simpa using f.1,fun k g=>?_⟩
 have:=f.2 k (by omega)
 rw[List.getD_eq_getElem?_getD]at this ⊢
 split <;> (rw[List.getElem?_set]; rw[if_neg (by omega)]; exact this)
theorem rQ:jK 0 (List.replicate 80 0):=⟨by simp,fun k _=>by
 rw[List.getD_eq_getElem?_getD,List.getElem?_replicate]; split <;> rfl⟩
theorem Ak (b:Q1):jK 80 (i8 b):=cQ jK (eO b) (fun i x hx=>n6 b i x hx) 80 0 _ rQ
theorem rq (v:List UInt64) (i:Nat) (h:List UInt64) (f:h.length=8):(qp v h i).length=8:=by unfold qp; simpa using f
theorem yQ (h:List UInt64) (b:Q1) (f:h.length=8):(lR h b).length=8:=ju (fun w:List UInt64=>w.length=8) _ (fun i x hx=>rq _ i x hx) 8 0 _ f
theorem tl (b:Q1):i8 b=(List.range' 16 64).foldl (eO b) ((List.range' 0 16).foldl (eO b) (List.replicate 80 0)):=by
 unfold i8
 rw[<-List.foldl_append]; rfl
theorem FS {w:List UInt64} {i:Nat} (h:i<w.length):w.set i (w.getD i 0)=w:=by
 apply List.ext_getElem?
 intro k
 rw[List.getElem?_set]
 split
 ·rename_i e
  subst e
  rw[List.getD_eq_getElem?_getD,List.getElem?_eq_getElem h]; simp[h]
 ·rfl
theorem tS {w:List UInt64} {i:Nat} (h:i<w.length) (x:UInt64):aC (w.set i x) (i:Int)=some x:=by
 rw[jj,List.getElem?_set,if_pos rfl,if_pos h]
theorem x7 (i:Nat) (w:List UInt64) (B:16<=i) (hi:i<80) (F:w.length=80) {ρ:Type} (K:UInt64->UInt64->UInt64->UInt64->Option ρ) :
  (ah (aC w (wI ((i:Int) - 15))) fun f=>ah (aC w (wI ((i:Int) - 2))) fun g=>ah (aC w (wI ((i:Int) - 16))) fun h=>ah (aC w (wI ((i:Int) - 7))) fun j=>K f g h j) =
   K (w.getD (i - 15) 0) (w.getD (i - 2) 0) (w.getD (i - 16) 0) (w.getD (i - 7) 0):=by
 have m:∀k:Nat,k<=16->aC w (wI ((i:Int) - (k:Int)))=some (w.getD (i - k) 0):=fun k G=>by
  rw[wIs i k (by omega) (by omega),aT (by omega) 0]
 have o:=m 15 (by omega); have z:=m 2 (by omega); have t:=m 16 (by omega); have A:=m 7 (by omega)
 rw[show aC w (wI ((i:Int) - 15))=_ from o,ae,show aC w (wI ((i:Int) - 2))=_ from z,ae,show aC w (wI ((i:Int) - 16))=_ from t,ae,show aC w (wI ((i:Int) - 7))=_ from A,ae]
theorem xZ (a:Int) (h:List UInt64) (l:Q0) (rest:Q1) (n:UInt64) (z:h.length=8) (hr:rest.length=128) :
  F.Lv a l h rest n=some (a,l,lR h rest,rest,n):=by
 unfold F.Lv
 -- the first sixteen words
 have I:=fun (i:Nat) (w:List UInt64) (hi:i<16) (o:jK i w)=>eL (f:=F.Jz (i:Int) ((rest.drop (8*i)).take (8*i+8 - 8*i))) (fun x j=>((j:Int),w.set i x)) (fun _=>True) (vn rest i) 0 8
  (X:=fun x=>(some (.inl (((i+1:Nat):Int),w.set i x)):Option ((Int×List UInt64)⊕(Int×Q0×List UInt64×Q1×UInt64))))
  (fun j x _ hj _=>by
   have hl:((rest.drop (8*i)).take (8*i+8 - 8*i)).length=8:=by simp; omega
   have t:decide ((j:Int)<(((rest.drop (8*i)).take (8*i+8 - 8*i)).length:Int))=true:=decide_eq_true (by omega)
   have g:aC ((rest.drop (8*i)).take (8*i+8 - 8*i)) (j:Int)=some (rest.getD (8*i+j) 0):=by
    rw[aT (by omega) 0,List.getD_eq_getElem?_getD,List.getElem?_take,if_pos (by omega),List.getElem?_drop,List.getD_eq_getElem?_getD]
   have a1:=o.1
   refine⟨?_,trivial⟩
   simp only[F.Jz,t,if_true]
   rw[g,ae,tS (by omega),ae,ae,aV,wI1 j (by omega),Int.toNat_natCast,List.set_set]
   rfl)
  (fun x _=>by
   have hl:((rest.drop (8*i)).take (8*i+8 - 8*i)).length=8:=by simp; omega
   have t:decide (((8:Nat):Int)<(((rest.drop (8*i)).take (8*i+8 - 8*i)).length:Int))=false:=decide_eq_false (by omega)
   simp only[F.Jz,t,Bool.false_eq_true,if_false,wI1 i (by omega)]
   rfl)
  8 0 0 (Nat.le_refl _) rfl trivial
 have J:=cA (f:=F.KY rest h a l n) (fun w i=>((i:Int),w)) jK (eO rest) 0 16
  (X:=fun w=>loop (F.Id h a l rest n) (16,w))
  (fun i w _ hi o=>by
   have t:decide ((i:Int)<16)=true:=decide_eq_true (by omega)
   have K:wI (8*(i:Int))=((8*i:Nat):Int):=by rw[aI (by omega) (by omega)]; omega
   have M:wI (((8*i:Nat):Int)+8)=((8*i+8:Nat):Int):=by rw[aI (by omega) (by omega)]; omega
   refine⟨?_,n6 rest i w o⟩
   simp only[F.KY,t,if_true,K,M]
   rw[qB (by omega) (by omega),ae]
   have B:=I i w hi o
   have N:w.set i 0=w:=by
    have:=FS (w:=w) (i:=i) (by have:=o.1; omega)
    rwa [o.2 i (Nat.le_refl _)]at this
   rw[N]at B
   refine B.trans ?_
   simp only[eO,hi,if_true,qX])
  (fun w o=>rfl) 16 0 (List.replicate 80 0) (Nat.le_refl _) rfl rQ
 have O:=fun (w:List UInt64) (o:w.length=80)=>eL (f:=F.Id h a l rest n) (fun w i=>((i:Int),w)) (fun w=>w.length=80) (eO rest) 16 80
  (X:=fun w=>loop (F.Kz h w a l rest n) (h.getD 0 0,h.getD 1 0,h.getD 2 0,h.getD 3 0,h.getD 4 0,h.getD 5 0,h.getD 6 0,h.getD 7 0,0))
  (fun i w G hi o=>by
   have t:decide ((i:Int)<80)=true:=decide_eq_true (by omega)
   refine⟨?_,(by unfold eO; split <;> simpa using o)⟩
   simp only[F.Id,t,if_true,x7 i w G hi o]
   rw[show F.GD (w.getD (i - 15) 0) (-1)=_ from jA _ 1 (by omega) (by omega),ae,show F.GD (w.getD (i - 15) 0) (-8)=_ from jA _ 8 (by omega) (by omega),ae,
    show F.GD (w.getD (i - 2) 0) (-19)=_ from jA _ 19 (by omega) (by omega),ae,show F.GD (w.getD (i - 2) 0) (-61)=_ from jA _ 61 (by omega) (by omega),ae,
    fO (show i<w.length by omega),ae,aV,wI1 i (by omega),Int.toNat_natCast]
   simp only[eO,show ¬i<16 by omega,if_false,Dj]
   rfl)
  (fun w o=>by
   have g:∀k:Nat,k<8->aC h (k:Int)=some (h.getD k 0):=fun k hk=>aT (by omega) 0
   have R:=g 0 (by omega); have U:=g 1 (by omega); have V:=g 2 (by omega); have Y:=g 3 (by omega); have Z:=g 4 (by omega); have g5:=g 5 (by omega); have g6:=g 6 (by omega); have g7:=g 7 (by omega)
   simp only[F.Id,show decide (((80:Nat):Int)<80)=false from rfl,Bool.false_eq_true,if_false]
   rw[show aC h (0:Int)=_ from R,ae,show aC h (1:Int)=_ from U,ae,show aC h (2:Int)=_ from V,ae,show aC h (3:Int)=_ from Y,ae,show aC h (4:Int)=_ from Z,ae,show aC h (5:Int)=_ from g5,ae,show aC h (6:Int)=_ from g6,ae,show aC h (7:Int)=_ from g7,ae])
  64 16 w (Nat.le_refl _) rfl o
 have e3:=fun (A:List UInt64) (o:A.length=80)=>eL (f:=F.Kz h A a l rest n) (fun (v:V8 UInt64) i=>(v.1,v.2.1,v.2.2.1,v.2.2.2.1,v.2.2.2.2.1,v.2.2.2.2.2.1,v.2.2.2.2.2.2.1,v.2.2.2.2.2.2.2,(i:Int))) (fun _=>True) (Dg A) 0 80
  (X:=fun v=>loop (F.Kd a l rest n v.1 v.2.1 v.2.2.1 v.2.2.2.1 v.2.2.2.2.1 v.2.2.2.2.2.1 v.2.2.2.2.2.2.1 v.2.2.2.2.2.2.2) (0,h))
  (fun i v _ hi _=>by
   have t:decide ((i:Int)<80)=true:=decide_eq_true (by omega)
   refine⟨?_,trivial⟩
   simp only[F.Kz,t,if_true]
   rw[show F.GD v.2.2.2.2.1 (-14)=_ from jA _ 14 (by omega) (by omega),ae,show F.GD v.2.2.2.2.1 (-18)=_ from jA _ 18 (by omega) (by omega),ae,show F.GD v.2.2.2.2.1 (-41)=_ from jA _ 41 (by omega) (by omega),ae,
    Ej,aT (show i<F.L9.length from hi) 0,ae,aT (show i<A.length by omega) 0,ae,aV,
    show F.GD v.1 (-28)=_ from jA _ 28 (by omega) (by omega),ae,show F.GD v.1 (-34)=_ from jA _ 34 (by omega) (by omega),ae,show F.GD v.1 (-39)=_ from jA _ 39 (by omega) (by omega),ae,aV,Gg,FV,wI1 i (by omega)]
   rfl)
  (fun v _=>rfl) 80 0 (ofL 0 h) (Nat.le_refl _) rfl trivial
 have e4:=fun (v:V8 UInt64)=>eL (f:=F.Kd a l rest n v.1 v.2.1 v.2.2.1 v.2.2.2.1 v.2.2.2.2.1 v.2.2.2.2.2.1 v.2.2.2.2.2.2.1 v.2.2.2.2.2.2.2) (fun h i=>((i:Int),h)) (fun h=>h.length=8) (qp (toL v)) 0 8
  (X:=fun h=>some (a,l,h,rest,n))
  (fun i h _ hi z=>by
   have t:decide ((i:Int)<8)=true:=decide_eq_true (by omega)
   refine⟨?_,rq _ i h z⟩
   simp only[F.Kd,t,if_true]
   rw[aT (l:=[v.1,v.2.1,v.2.2.1,v.2.2.2.1,v.2.2.2.2.1,v.2.2.2.2.2.1,v.2.2.2.2.2.2.1,v.2.2.2.2.2.2.2]) (show i<8 from hi) 0,ae,aT (show i<h.length by omega) 0,ae,ae,aV,wI1 i (by omega),Int.toNat_natCast]
   rfl)
  (fun h z=>rfl) 8 0 h (Nat.le_refl _) rfl z
 refine J.trans ?_
 refine (O _ (cQ jK (eO rest) (fun i x hx=>n6 rest i x hx) 16 0 _ rQ).1).trans ?_
 rw[<-tl]
 refine (e3 _ ((Ak rest).1)).trans ?_
 exact e4 _
end Go.Gk.Sh
end
