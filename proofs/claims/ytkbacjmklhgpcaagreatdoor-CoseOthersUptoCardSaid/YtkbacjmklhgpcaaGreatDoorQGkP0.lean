import Derived.Test.YtkbacjmklhgpcaaGreatDoorQGkS
import Derived.Test.YtkbacjmklhgpcaaGreatDoorQGkFman
set_option linter.unusedVariables false
set_option linter.unusedSimpArgs false
set_option linter.unusedSectionVars false
section
namespace Go.Gk
theorem sq {x y:Nat} (k:Nat) (hx:x%2^k=0) (hy:y<2^k):x ||| y=x+y:=by
 have j:x=(x / 2^k) <<< k:=by
  rw[Nat.shiftLeft_eq]
  have:=c7 x (2^k)
  rw[hx]at this
  rw[aP]; omega
 rw[j,<-Nat.shiftLeft_add_eq_or_of_lt hy]
theorem uA (x k:Nat):x &&& (2^k - 1)=x%2^k:=fi x k
section
theorem kM (x:UInt64) (n:Nat):(cV x n).toNat=x.toNat*2^(min n 64)%18446744073709551616:=by simp[cV,bQ]
theorem i6 (x:UInt64) (n:Nat):(bb x n).toNat=x.toNat / 2^(min n 64):=by
 simp only[bb,bQ]
 exact az (du (dw _ _) x.toNat_lt)
theorem tG (x:UInt32) (n:Nat):(iK x n).toNat=x.toNat*2^(min n 32)%4294967296:=by simp[iK,di]
theorem lJ (x:UInt32) (n:Nat):(dB x n).toNat=x.toNat / 2^(min n 32):=by
 simp only[dB,di]
 exact az (du (dw _ _) x.toNat_lt)
theorem Gc (x:UInt8) (n:Nat):(oP x n).toNat=x.toNat / 2^(min n 8):=by
 simp only[oP,dY]
 exact az (du (dw _ _) x.toNat_lt)
end
theorem PG (n:Nat) (h:n<9223372036854775808):wI (n:Int)=n:=aD (by omega) (by omega)
theorem pF {τ:Type} (a:τ) (l:List τ):ax (a :: l) (0:Int)=some a:=by simp[ax]
theorem bX {τ:Type} {l:List τ} {i:Nat} (h:i<l.length):ax l (i:Int)=some l[i]:=by rw[lA]; simp[h]
theorem g8 {τ:Type} {l m:List τ} {bytes:Nat} (h:(l.length+m.length)*bytes<=225000000000000):apO bytes l m=some (l++m):=ag h
theorem Nc {l m:L01} (h:l.length+m.length<=9223372036854775807):qa l m=some (l++m):=ag h
theorem iG {τ:Type} {bytes:Nat} {l c:Int} {t0:τ} (h:0<=l/\l<=c/\(bytes:Int)*c<=281474976710656/\c<=9223372036854775807):mkO bytes l c t0=some (List.replicate l.toNat t0):=ag h
theorem oJ {τ:Type} {l:List τ} {k:Nat} (h:k<=l.length):drO l (k:Int)=some (l.drop k):=by
 unfold drO; rw[ag (by simp; omega)]; simp
theorem Bj {τ:Type} {l:List τ} {k:Nat} (h:k<=l.length):tkO l (k:Int)=some (l.take k):=by
 unfold tkO; rw[ag (by simp; omega)]; simp
theorem lP {τ:Type} {l:List τ} {lo hi:Nat} (h:lo<=hi) (j:hi<=l.length):slO l (lo:Int) (hi:Int)=some ((l.drop lo).take (hi - lo)):=by
 unfold slO; rw[ag (by simp; omega)]; simp
theorem aa {α ρ:Type} (a:α) (k:α->Option ρ):af (some a) k=k a:=rfl
theorem aG {α ρ:Type} (a:α) (k:α->Option ρ):bz a k=k a:=rfl
end Go.Gk
end
section
namespace Go.Gk
open Go
theorem cd {σ ρ:Type} {f:σ->Option (σ⊕ρ)} {s:σ} {X:Option ρ} (h:f s=bk X):loop f s=X:=by
 rw[nD,h]
 cases X <;> rfl
end Go.Gk
end
section
namespace Go.Gk.Sh
open Go Go.Gk
theorem jZ {σ α ρ:Type} {f:σ->Option (σ⊕ρ)} (st:α->Nat->σ) (I:α->Prop) (g:α->Nat->α) (lo n:Nat) {X:α->Option ρ}
  (j:∀i x,lo<=i->i<n->I x->f (st x i)=some (.inl (st (g x i) (i+1)))/\I (g x i)) (A:∀x,I x->f (st x n)=bk (X x)) :
  ∀(r i:Nat) (x:α),lo<=i->i+r=n->I x->loop f (st x i)=X ((List.range' i r).foldl g x)
 | 0,i,x,hl,h,hx=>by
  have:i=n:=by omega
  subst this
  simp only[List.range'_zero,List.foldl_nil]
  exact cd (A x hx)
 | r+1,i,x,hl,h,hx=>by
  obtain⟨B,G⟩:=j i x hl (by omega) hx
  rw[bp B,g9,eo]
  exact jZ st I g lo n j A r (i+1) _ (by omega) (by omega) G
theorem nH {α:Type} (I:α->Prop) (g:α->Nat->α) (h:∀i x,I x->I (g x i)):∀(r i:Nat) (x:α),I x->I ((List.range' i r).foldl g x)
 | 0,i,x,hx=>by simpa using hx
 | r+1,i,x,hx=>by
  rw[g9,eo]
  exact nH I g h r (i+1) _ (h i x hx)
theorem na {α:Type} {g j:α->Nat->α}:∀(r i:Nat) (x:α),(∀k y,i<=k->k<i+r->g y k=j y k)->(List.range' i r).foldl g x=(List.range' i r).foldl j x
 | 0,i,x,_=>rfl
 | r+1,i,x,h=>by
  rw[g9,eo,eo,h i x (aw _) (by omega)]
  exact na r (i+1) _ fun k y A B=>h k y (by omega) (by omega)
theorem bh {τ:Type} [Inhabited τ] {l:List τ} {i:Nat} (h:i<l.length) (d:τ):ax l (i:Int)=some (l.getD i d):=by
 rw[bX h,an,aA h]; rfl
theorem Ro (e f g:UInt32):g ^^^ (e &&& (f ^^^ g))=(e &&& f) ^^^ (~~~e &&& g):=by
 apply UInt32.eq_of_toBitVec_eq
 simp only[UInt32.toBitVec_xor,UInt32.toBitVec_and,UInt32.toBitVec_not]
 ext i hi
 simp only[BitVec.getElem_xor,BitVec.getElem_and,BitVec.getElem_not]
 cases e.toBitVec[i] <;> cases f.toBitVec[i] <;> cases g.toBitVec[i] <;> rfl
theorem Q2 (a b c:UInt32):(a &&& b) ||| (c &&& (a ||| b))=((a &&& b) ^^^ (a &&& c)) ^^^ (b &&& c):=by
 apply UInt32.eq_of_toBitVec_eq
 simp only[UInt32.toBitVec_xor,UInt32.toBitVec_and,UInt32.toBitVec_or]
 ext i hi
 simp only[BitVec.getElem_xor,BitVec.getElem_and,BitVec.getElem_or]
 cases a.toBitVec[i] <;> cases b.toBitVec[i] <;> cases c.toBitVec[i] <;> rfl
theorem RQ (e f g:UInt64):g ^^^ (e &&& (f ^^^ g))=(e &&& f) ^^^ (~~~e &&& g):=by
 apply UInt64.eq_of_toBitVec_eq
 simp only[UInt64.toBitVec_xor,UInt64.toBitVec_and,UInt64.toBitVec_not]
 ext i hi
 simp only[BitVec.getElem_xor,BitVec.getElem_and,BitVec.getElem_not]
 cases e.toBitVec[i] <;> cases f.toBitVec[i] <;> cases g.toBitVec[i] <;> rfl
theorem QS (a b c:UInt64):(a &&& b) ||| (c &&& (a ||| b))=((a &&& b) ^^^ (a &&& c)) ^^^ (b &&& c):=by
 apply UInt64.eq_of_toBitVec_eq
 simp only[UInt64.toBitVec_xor,UInt64.toBitVec_and,UInt64.toBitVec_or]
 ext i hi
 simp only[BitVec.getElem_xor,BitVec.getElem_and,BitVec.getElem_or]
 cases a.toBitVec[i] <;> cases b.toBitVec[i] <;> cases c.toBitVec[i] <;> rfl
def oh (x:UInt32) (k:Nat):UInt32:=dB x k ||| iK x (32 - k)
def oa (x:UInt64) (k:Nat):UInt64:=bb x k ||| cV x (64 - k)
theorem nQ (x:UInt32) (k:Nat) (h:0<k) (G:k<32):F.S4 x (-(k:Int))=some (oh x k):=by
 unfold F.S4 oh
 have j:∀k:Fin 32,0<k.val->((UInt64.ofInt (-(k.val:Int))) &&& 31).toNat=32 - k.val/\((32:UInt64) - ((UInt64.ofInt (-(k.val:Int))) &&& 31)).toNat=k.val:=by decide
 obtain⟨A,B⟩:=j ⟨k,G⟩ h
 simp only at A B
 rw[A,B,UInt32.or_comm]
theorem nO (x:UInt64) (k:Nat) (h:0<k) (G:k<64):F.S6 x (-(k:Int))=some (oa x k):=by
 unfold F.S6 oa
 have j:∀k:Fin 64,0<k.val->((UInt64.ofInt (-(k.val:Int))) &&& 63).toNat=64 - k.val/\((64:UInt64) - ((UInt64.ofInt (-(k.val:Int))) &&& 63)).toNat=k.val:=by decide
 obtain⟨A,B⟩:=j ⟨k,G⟩ h
 simp only at A B
 rw[A,B,UInt64.or_comm]
theorem MK:F.VF=F.aaB:=rfl
theorem NG:F.Vg=F.aat:=rfl
abbrev V8 (W:Type):=W×W×W×W×W×W×W×W
def toL {W:Type} (v:V8 W):List W:=[v.1,v.2.1,v.2.2.1,v.2.2.2.1,v.2.2.2.2.1,v.2.2.2.2.2.1,v.2.2.2.2.2.2.1,v.2.2.2.2.2.2.2]
def ofL {W:Type} (d:W) (l:List W):V8 W:=(l.getD 0 d,l.getD 1 d,l.getD 2 d,l.getD 3 d,l.getD 4 d,l.getD 5 d,l.getD 6 d,l.getD 7 d)
def Cq (b:L01) (i:Nat):UInt32:=
 ((iK (b.getD (4*i) 0).toUInt32 24 ||| iK (b.getD (4*i+1) 0).toUInt32 16) ||| iK (b.getD (4*i+2) 0).toUInt32 8) ||| (b.getD (4*i+3) 0).toUInt32
def LU (w:L00) (i:Nat):UInt32:=
 ((w.getD (i - 16) 0+w.getD (i - 7) 0)+((oh (w.getD (i - 15) 0) 7 ^^^ oh (w.getD (i - 15) 0) 18) ^^^ dB (w.getD (i - 15) 0) 3)) +
  ((oh (w.getD (i - 2) 0) 17 ^^^ oh (w.getD (i - 2) 0) 19) ^^^ dB (w.getD (i - 2) 0) 10)
def ky (b:L01) (w:L00) (i:Nat):L00:=if i<16 then w.set i (Cq b i) else w.set i (LU w i)
def nI (b:L01):L00:=(List.range' 0 64).foldl (ky b) (List.replicate 64 0)
def OP (v:V8 UInt32) (k w:UInt32):UInt32:=
 (((v.2.2.2.2.2.2.2+((oh v.2.2.2.2.1 6 ^^^ oh v.2.2.2.2.1 11) ^^^ oh v.2.2.2.2.1 25))+((v.2.2.2.2.1 &&& v.2.2.2.2.2.1) ^^^ (~~~v.2.2.2.2.1 &&& v.2.2.2.2.2.2.1)))+k)+w
def RZ (v:V8 UInt32):UInt32:=((oh v.1 2 ^^^ oh v.1 13) ^^^ oh v.1 22)+(((v.1 &&& v.2.1) ^^^ (v.1 &&& v.2.2.1)) ^^^ (v.2.1 &&& v.2.2.1))
def LN (ws:L00) (v:V8 UInt32) (i:Nat):V8 UInt32:=
 (OP v (F.aaB.getD i 0) (ws.getD i 0)+RZ v,v.1,v.2.1,v.2.2.1,v.2.2.2.1+OP v (F.aaB.getD i 0) (ws.getD i 0),v.2.2.2.2.1,v.2.2.2.2.2.1,v.2.2.2.2.2.2.1)
def uT (v:L00) (h:L00) (i:Nat):L00:=h.set i (h.getD i 0+v.getD i 0)
def qj (h:L00) (b:L01):L00:=(List.range' 0 8).foldl (uT (toL ((List.range' 0 64).foldl (LN (nI b)) (ofL 0 h)))) h
theorem pH (b:L01) (i:Nat) (w:L00) (hw:w.length=64):(ky b w i).length=64:=by
 unfold ky; split <;> simpa using hw
theorem HB (b:L01):(nI b).length=64:=nH (fun w:L00=>w.length=64) (ky b) (fun i x hx=>pH b i x hx) 64 0 _ (by simp)
theorem Au (v:L00) (i:Nat) (h:L00) (hh:h.length=8):(uT v h i).length=8:=by unfold uT; simpa using hh
theorem JE (h:L00) (b:L01) (hh:h.length=8):(qj h b).length=8:=nH (fun w:L00=>w.length=8) _ (fun i x hx=>Au _ i x hx) 8 0 _ hh
theorem Dg (b:L01):nI b=(List.range' 16 48).foldl (ky b) ((List.range' 0 16).foldl (ky b) (List.replicate 64 0)):=by
 unfold nI
 rw[<-List.foldl_append]; rfl
theorem wI1 (i:Nat) (h:i<1000000):wI ((i:Int)+1)=((i+1:Nat):Int):=by rw[aD (by omega) (by omega)]; rfl
theorem wIs (i k:Nat) (h:k<=i) (j:i<1000000):wI ((i:Int) - (k:Int))=((i - k:Nat):Int):=by rw[aD (by omega) (by omega)]; omega
theorem Jh (i:Nat) (w:L00) (R:16<=i) (hi:i<64) (hw:w.length=64) {ρ:Type} (K:UInt32->UInt32->UInt32->UInt32->Option ρ) :
  (af (ax w (wI ((i:Int) - 15))) fun j=>af (ax w (wI ((i:Int) - 2))) fun A=>af (ax w (wI ((i:Int) - 16))) fun B=>af (ax w (wI ((i:Int) - 7))) fun G=>K j A B G) =
   K (w.getD (i - 15) 0) (w.getD (i - 2) 0) (w.getD (i - 16) 0) (w.getD (i - 7) 0):=by
 have m:∀k:Nat,k<=16->ax w (wI ((i:Int) - (k:Int)))=some (w.getD (i - k) 0):=fun k U=>by
  rw[wIs i k (by omega) (by omega),bh (by omega) 0]
 have I:=m 15 (by omega); have N:=m 2 (by omega); have J:=m 16 (by omega); have O:=m 7 (by omega)
 rw[show ax w (wI ((i:Int) - 15))=_ from I,aa,show ax w (wI ((i:Int) - 2))=_ from N,aa,show ax w (wI ((i:Int) - 16))=_ from J,aa,show ax w (wI ((i:Int) - 7))=_ from O,aa]
theorem E9 (a:Int) (h:L00) (l:List UInt64) (rest:L01) (n:UInt64) (hh:h.length=8) (hr:rest.length=128) :
  F.XE a h l rest n=some (a,qj h rest,l,rest,n):=by
 unfold F.XE
 -- the first sixteen words
 have O:=jZ (f:=F.aap rest h a l n) (fun w i=>((i:Int),w)) (fun w=>w.length=64) (ky rest) 0 16
  (X:=fun w=>loop (F.WF h a l rest n) (16,w))
  (fun i w _ hi hw=>by
   have j:decide ((i:Int)<16)=true:=ai (by omega)
   have R:wI (4*(i:Int))=((4*i:Nat):Int):=by rw[aD (by omega) (by omega)]; omega
   have d:∀k:Nat,k<4->ax (rest.drop (4*i)) (k:Int)=some (rest.getD (4*i+k) 0):=fun k U=>by
    rw[bh (by simp; omega) 0,an,dX,an]
   refine⟨?_,pH rest i w hw⟩
   simp only[F.aap,j,am,R,oJ (show 4*i<=rest.length by omega),aa,aG]
   have B:=d 0 (by omega); have G:=d 1 (by omega); have I:=d 2 (by omega); have J:=d 3 (by omega)
   simp only[show ((0:Nat):Int)=0 from rfl,show ((1:Nat):Int)=1 from rfl,show ((2:Nat):Int)=2 from rfl,show ((3:Nat):Int)=3 from rfl,br]at B G I J
   rw[B,aa,G,aa,I,aa,J,aa,bX (show i<w.length by omega),aa,wI1 i (by omega),aq]
   simp only[ky,hi,am,Cq]
   rfl)
  (fun w hw=>rfl) 16 0 (List.replicate 64 0) (aw _) rfl (by simp)
 have V:=fun (w:L00) (hw:w.length=64)=>jZ (f:=F.WF h a l rest n) (fun w i=>((i:Int),w)) (fun w=>w.length=64) (ky rest) 16 64
  (X:=fun w=>loop (F.Zb h w a l rest n) (h.getD 0 0,h.getD 1 0,h.getD 2 0,h.getD 3 0,h.getD 4 0,h.getD 5 0,h.getD 6 0,h.getD 7 0,0))
  (fun i w N hi hw=>by
   have j:decide ((i:Int)<64)=true:=ai (by omega)
   refine⟨?_,pH rest i w hw⟩
   simp only[F.WF,j,am,Jh i w N hi hw]
   rw[show F.S4 (w.getD (i - 15) 0) (-7)=_ from nQ _ 7 (by omega) (by omega),aa,show F.S4 (w.getD (i - 15) 0) (-18)=_ from nQ _ 18 (by omega) (by omega),aa,
    show F.S4 (w.getD (i - 2) 0) (-17)=_ from nQ _ 17 (by omega) (by omega),aa,show F.S4 (w.getD (i - 2) 0) (-19)=_ from nQ _ 19 (by omega) (by omega),aa,
    bX (show i<w.length by omega),aa,aG,wI1 i (by omega),aq]
   simp only[ky,show ¬i<16 by omega,aj,LU]
   rfl)
  (fun w hw=>by
   have g:∀k:Nat,k<8->ax h (k:Int)=some (h.getD k 0):=fun k U=>bh (by omega) 0
   have Y:=g 0 (by omega); have Z:=g 1 (by omega); have g2:=g 2 (by omega); have g3:=g 3 (by omega); have g4:=g 4 (by omega); have g5:=g 5 (by omega); have g6:=g 6 (by omega); have g7:=g 7 (by omega)
   simp only[F.WF,show decide (((64:Nat):Int)<64)=false from rfl,ah,aj]
   rw[show ax h (0:Int)=_ from Y,aa,show ax h (1:Int)=_ from Z,aa,show ax h (2:Int)=_ from g2,aa,show ax h (3:Int)=_ from g3,aa,show ax h (4:Int)=_ from g4,aa,show ax h (5:Int)=_ from g5,aa,show ax h (6:Int)=_ from g6,aa,show ax h (7:Int)=_ from g7,aa])
  48 16 w (aw _) rfl hw
 have e3:=fun (A:L00) (hw:A.length=64)=>jZ (f:=F.Zb h A a l rest n) (fun (v:V8 UInt32) i=>(v.1,v.2.1,v.2.2.1,v.2.2.2.1,v.2.2.2.2.1,v.2.2.2.2.2.1,v.2.2.2.2.2.2.1,v.2.2.2.2.2.2.2,(i:Int))) (fun _=>True) (LN A) 0 64
  (X:=fun v=>loop (F.X0 a l rest n v.1 v.2.1 v.2.2.1 v.2.2.2.1 v.2.2.2.2.1 v.2.2.2.2.2.1 v.2.2.2.2.2.2.1 v.2.2.2.2.2.2.2) (0,h))
  (fun i v _ hi _=>by
   have j:decide ((i:Int)<64)=true:=ai (by omega)
   refine⟨?_,trivial⟩
   simp only[F.Zb,j,am]
   rw[show F.S4 v.2.2.2.2.1 (-6)=_ from nQ _ 6 (by omega) (by omega),aa,show F.S4 v.2.2.2.2.1 (-11)=_ from nQ _ 11 (by omega) (by omega),aa,show F.S4 v.2.2.2.2.1 (-25)=_ from nQ _ 25 (by omega) (by omega),aa,
    MK,bh (show i<F.aaB.length from hi) 0,aa,bh (show i<A.length by omega) 0,aa,aG,
    show F.S4 v.1 (-2)=_ from nQ _ 2 (by omega) (by omega),aa,show F.S4 v.1 (-13)=_ from nQ _ 13 (by omega) (by omega),aa,show F.S4 v.1 (-22)=_ from nQ _ 22 (by omega) (by omega),aa,aG,Ro,Q2,wI1 i (by omega)]
   rfl)
  (fun v _=>rfl) 64 0 (ofL 0 h) (aw _) rfl trivial
 have e4:=fun (v:V8 UInt32)=>jZ (f:=F.X0 a l rest n v.1 v.2.1 v.2.2.1 v.2.2.2.1 v.2.2.2.2.1 v.2.2.2.2.2.1 v.2.2.2.2.2.2.1 v.2.2.2.2.2.2.2) (fun h i=>((i:Int),h)) (fun h=>h.length=8) (uT (toL v)) 0 8
  (X:=fun h=>some (a,h,l,rest,n))
  (fun i h _ hi hh=>by
   have j:decide ((i:Int)<8)=true:=ai (by omega)
   refine⟨?_,Au _ i h hh⟩
   simp only[F.X0,j,am]
   rw[bh (l:=[v.1,v.2.1,v.2.2.1,v.2.2.2.1,v.2.2.2.2.1,v.2.2.2.2.2.1,v.2.2.2.2.2.2.1,v.2.2.2.2.2.2.2]) (show i<8 from hi) 0,aa,bh (show i<h.length by omega) 0,aa,aa,aG,wI1 i (by omega),aq]
   rfl)
  (fun h hh=>rfl) 8 0 h (aw _) rfl hh
 refine O.trans ?_
 refine (V _ (nH (fun w:L00=>w.length=64) (ky rest) (fun i x hx=>pH rest i x hx) 16 0 _ (by simp))).trans ?_
 rw[<-Dg]
 refine (e3 _ (HB rest)).trans ?_
 exact e4 _
theorem eY {σ α ρ:Type} {f:σ->Option (σ⊕ρ)} (st:α->Nat->σ) (I:Nat->α->Prop) (g:α->Nat->α) (lo n:Nat) {X:α->Option ρ}
  (j:∀i x,lo<=i->i<n->I i x->f (st x i)=some (.inl (st (g x i) (i+1)))/\I (i+1) (g x i)) (A:∀x,I n x->f (st x n)=bk (X x)) :
  ∀(r i:Nat) (x:α),lo<=i->i+r=n->I i x->loop f (st x i)=X ((List.range' i r).foldl g x)
 | 0,i,x,hl,h,hx=>by
  have:i=n:=by omega
  subst this
  simp only[List.range'_zero,List.foldl_nil]
  exact cd (A x hx)
 | r+1,i,x,hl,h,hx=>by
  obtain⟨B,G⟩:=j i x hl (by omega) hx
  rw[bp B,g9,eo]
  exact eY st I g lo n j A r (i+1) _ (by omega) (by omega) G
theorem fH {α:Type} (I:Nat->α->Prop) (g:α->Nat->α) (h:∀i x,I i x->I (i+1) (g x i)):∀(r i:Nat) (x:α),I i x->I (i+r) ((List.range' i r).foldl g x)
 | 0,i,x,hx=>by simpa using hx
 | r+1,i,x,hx=>by
  rw[g9,eo,show i+(r+1)=i+1+r by omega]
  exact fH I g h r (i+1) _ (h i x hx)
def BL (b:L01) (i:Nat) (x:UInt64) (k:Nat):UInt64:=cV x 8 ||| (b.getD (8*i+k) 0).toUInt64
def vG (b:L01) (i:Nat):UInt64:=(List.range' 0 8).foldl (BL b i) 0
def LO (w:List UInt64) (i:Nat):UInt64:=
 ((w.getD (i - 16) 0+w.getD (i - 7) 0)+((oa (w.getD (i - 15) 0) 1 ^^^ oa (w.getD (i - 15) 0) 8) ^^^ bb (w.getD (i - 15) 0) 7)) +
  ((oa (w.getD (i - 2) 0) 19 ^^^ oa (w.getD (i - 2) 0) 61) ^^^ bb (w.getD (i - 2) 0) 6)
def kb (b:L01) (w:List UInt64) (i:Nat):List UInt64:=if i<16 then w.set i (vG b i) else w.set i (LO w i)
def np (b:L01):List UInt64:=(List.range' 0 80).foldl (kb b) (List.replicate 80 0)
def O7 (v:V8 UInt64) (k w:UInt64):UInt64:=
 (((v.2.2.2.2.2.2.2+((oa v.2.2.2.2.1 14 ^^^ oa v.2.2.2.2.1 18) ^^^ oa v.2.2.2.2.1 41))+((v.2.2.2.2.1 &&& v.2.2.2.2.2.1) ^^^ (~~~v.2.2.2.2.1 &&& v.2.2.2.2.2.2.1)))+k)+w
def SD (v:V8 UInt64):UInt64:=((oa v.1 28 ^^^ oa v.1 34) ^^^ oa v.1 39)+(((v.1 &&& v.2.1) ^^^ (v.1 &&& v.2.2.1)) ^^^ (v.2.1 &&& v.2.2.1))
def LL (ws:List UInt64) (v:V8 UInt64) (i:Nat):V8 UInt64:=
 (O7 v (F.aat.getD i 0) (ws.getD i 0)+SD v,v.1,v.2.1,v.2.2.1,v.2.2.2.1+O7 v (F.aat.getD i 0) (ws.getD i 0),v.2.2.2.2.1,v.2.2.2.2.2.1,v.2.2.2.2.2.2.1)
def uU (v:List UInt64) (h:List UInt64) (i:Nat):List UInt64:=h.set i (h.getD i 0+v.getD i 0)
def qi (h:List UInt64) (b:L01):List UInt64:=(List.range' 0 8).foldl (uU (toL ((List.range' 0 80).foldl (LL (np b)) (ofL 0 h)))) h
def nY (i:Nat) (w:List UInt64):Prop:=w.length=80/\∀k,i<=k->w.getD k 0=0
theorem sj (b:L01) (i:Nat) (w:List UInt64) (hw:nY i w):nY (i+1) (kb b w i):=by
 unfold kb
 refine⟨by split <;> simpa using hw.1,fun k j=>?_⟩
 have:=hw.2 k (by omega)
 rw[an]at this ⊢
 split <;> (rw[gg]; rw[ae (by omega)]; exact this)
theorem wO:nY 0 (List.replicate 80 0):=⟨by simp,fun k _=>by
 rw[an,gm]; split <;> rfl⟩
theorem Hk (b:L01):nY 80 (np b):=fH nY (kb b) (fun i x hx=>sj b i x hx) 80 0 _ wO
theorem wa (v:List UInt64) (i:Nat) (h:List UInt64) (hh:h.length=8):(uU v h i).length=8:=by unfold uU; simpa using hh
theorem FA (h:List UInt64) (b:L01) (hh:h.length=8):(qi h b).length=8:=nH (fun w:List UInt64=>w.length=8) _ (fun i x hx=>wa _ i x hx) 8 0 _ hh
theorem yQ (b:L01):np b=(List.range' 16 64).foldl (kb b) ((List.range' 0 16).foldl (kb b) (List.replicate 80 0)):=by
 unfold np
 rw[<-List.foldl_append]; rfl
theorem QN {w:List UInt64} {i:Nat} (h:i<w.length):w.set i (w.getD i 0)=w:=by
 apply List.ext_getElem?
 intro k
 rw[gg]
 split
 ·rename_i e
  subst e
  rw[an,aA h]; simp[h]
 ·rfl
theorem zT {w:List UInt64} {i:Nat} (h:i<w.length) (x:UInt64):ax (w.set i x) (i:Int)=some x:=by
 rw[lA,gg,ag rfl,ag h]
theorem ED (i:Nat) (w:List UInt64) (R:16<=i) (hi:i<80) (hw:w.length=80) {ρ:Type} (K:UInt64->UInt64->UInt64->UInt64->Option ρ) :
  (af (ax w (wI ((i:Int) - 15))) fun j=>af (ax w (wI ((i:Int) - 2))) fun A=>af (ax w (wI ((i:Int) - 16))) fun B=>af (ax w (wI ((i:Int) - 7))) fun G=>K j A B G) =
   K (w.getD (i - 15) 0) (w.getD (i - 2) 0) (w.getD (i - 16) 0) (w.getD (i - 7) 0):=by
 have m:∀k:Nat,k<=16->ax w (wI ((i:Int) - (k:Int)))=some (w.getD (i - k) 0):=fun k U=>by
  rw[wIs i k (by omega) (by omega),bh (by omega) 0]
 have I:=m 15 (by omega); have N:=m 2 (by omega); have J:=m 16 (by omega); have O:=m 7 (by omega)
 rw[show ax w (wI ((i:Int) - 15))=_ from I,aa,show ax w (wI ((i:Int) - 2))=_ from N,aa,show ax w (wI ((i:Int) - 16))=_ from J,aa,show ax w (wI ((i:Int) - 7))=_ from O,aa]
theorem Eu (a:Int) (h:List UInt64) (l:L00) (rest:L01) (n:UInt64) (hh:h.length=8) (hr:rest.length=128) :
  F.YX a l h rest n=some (a,l,qi h rest,rest,n):=by
 unfold F.YX
 -- the first sixteen words
 have J:=fun (i:Nat) (w:List UInt64) (hi:i<16) (hw:nY i w)=>jZ (f:=F.X5 (i:Int) ((rest.drop (8*i)).take (8*i+8 - 8*i))) (fun x j=>((j:Int),w.set i x)) (fun _=>True) (BL rest i) 0 8
  (X:=fun x=>(some (.inl (((i+1:Nat):Int),w.set i x)):Option ((Int×List UInt64)⊕(Int×L00×List UInt64×L01×UInt64))))
  (fun j x _ hj _=>by
   have hl:((rest.drop (8*i)).take (8*i+8 - 8*i)).length=8:=by simp; omega
   have A:decide ((j:Int)<(((rest.drop (8*i)).take (8*i+8 - 8*i)).length:Int))=true:=ai (by omega)
   have g:ax ((rest.drop (8*i)).take (8*i+8 - 8*i)) (j:Int)=some (rest.getD (8*i+j) 0):=by
    rw[bh (by omega) 0,an,bP,ag (by omega),dX,an]
   have bx:=hw.1
   refine⟨?_,trivial⟩
   simp only[F.X5,A,am]
   rw[g,aa,zT (by omega),aa,aa,aG,wI1 j (by omega),aq,List.set_set]
   rfl)
  (fun x _=>by
   have hl:((rest.drop (8*i)).take (8*i+8 - 8*i)).length=8:=by simp; omega
   have A:decide (((8:Nat):Int)<(((rest.drop (8*i)).take (8*i+8 - 8*i)).length:Int))=false:=av (by omega)
   simp only[F.X5,A,ah,aj,wI1 i (by omega)]
   rfl)
  8 0 0 (aw _) rfl trivial
 have N:=eY (f:=F.ZV rest h a l n) (fun w i=>((i:Int),w)) nY (kb rest) 0 16
  (X:=fun w=>loop (F.We h a l rest n) (16,w))
  (fun i w _ hi hw=>by
   have A:decide ((i:Int)<16)=true:=ai (by omega)
   have O:wI (8*(i:Int))=((8*i:Nat):Int):=by rw[aD (by omega) (by omega)]; omega
   have R:wI (((8*i:Nat):Int)+8)=((8*i+8:Nat):Int):=by rw[aD (by omega) (by omega)]; omega
   refine⟨?_,sj rest i w hw⟩
   simp only[F.ZV,A,am,O,R]
   rw[lP (by omega) (by omega),aa]
   have G:=J i w hi hw
   have hz:w.set i 0=w:=by
    have:=QN (w:=w) (i:=i) (by have:=hw.1; omega)
    rwa [hw.2 i (aw _)]at this
   rw[hz]at G
   refine G.trans ?_
   simp only[kb,hi,am,vG])
  (fun w hw=>rfl) 16 0 (List.replicate 80 0) (aw _) rfl wO
 have U:=fun (w:List UInt64) (hw:w.length=80)=>jZ (f:=F.We h a l rest n) (fun w i=>((i:Int),w)) (fun w=>w.length=80) (kb rest) 16 80
  (X:=fun w=>loop (F.Zx h w a l rest n) (h.getD 0 0,h.getD 1 0,h.getD 2 0,h.getD 3 0,h.getD 4 0,h.getD 5 0,h.getD 6 0,h.getD 7 0,0))
  (fun i w I hi hw=>by
   have A:decide ((i:Int)<80)=true:=ai (by omega)
   refine⟨?_,(by unfold kb; split <;> simpa using hw)⟩
   simp only[F.We,A,am,ED i w I hi hw]
   rw[show F.S6 (w.getD (i - 15) 0) (-1)=_ from nO _ 1 (by omega) (by omega),aa,show F.S6 (w.getD (i - 15) 0) (-8)=_ from nO _ 8 (by omega) (by omega),aa,
    show F.S6 (w.getD (i - 2) 0) (-19)=_ from nO _ 19 (by omega) (by omega),aa,show F.S6 (w.getD (i - 2) 0) (-61)=_ from nO _ 61 (by omega) (by omega),aa,
    bX (show i<w.length by omega),aa,aG,wI1 i (by omega),aq]
   simp only[kb,show ¬i<16 by omega,aj,LO]
   rfl)
  (fun w hw=>by
   have g:∀k:Nat,k<8->ax h (k:Int)=some (h.getD k 0):=fun k hk=>bh (by omega) 0
   have V:=g 0 (by omega); have Y:=g 1 (by omega); have Z:=g 2 (by omega); have g3:=g 3 (by omega); have g4:=g 4 (by omega); have g5:=g 5 (by omega); have g6:=g 6 (by omega); have g7:=g 7 (by omega)
   simp only[F.We,show decide (((80:Nat):Int)<80)=false from rfl,ah,aj]
   rw[show ax h (0:Int)=_ from V,aa,show ax h (1:Int)=_ from Y,aa,show ax h (2:Int)=_ from Z,aa,show ax h (3:Int)=_ from g3,aa,show ax h (4:Int)=_ from g4,aa,show ax h (5:Int)=_ from g5,aa,show ax h (6:Int)=_ from g6,aa,show ax h (7:Int)=_ from g7,aa])
  64 16 w (aw _) rfl hw
 have e3:=fun (B:List UInt64) (hw:B.length=80)=>jZ (f:=F.Zx h B a l rest n) (fun (v:V8 UInt64) i=>(v.1,v.2.1,v.2.2.1,v.2.2.2.1,v.2.2.2.2.1,v.2.2.2.2.2.1,v.2.2.2.2.2.2.1,v.2.2.2.2.2.2.2,(i:Int))) (fun _=>True) (LL B) 0 80
  (X:=fun v=>loop (F.Y8 a l rest n v.1 v.2.1 v.2.2.1 v.2.2.2.1 v.2.2.2.2.1 v.2.2.2.2.2.1 v.2.2.2.2.2.2.1 v.2.2.2.2.2.2.2) (0,h))
  (fun i v _ hi _=>by
   have A:decide ((i:Int)<80)=true:=ai (by omega)
   refine⟨?_,trivial⟩
   simp only[F.Zx,A,am]
   rw[show F.S6 v.2.2.2.2.1 (-14)=_ from nO _ 14 (by omega) (by omega),aa,show F.S6 v.2.2.2.2.1 (-18)=_ from nO _ 18 (by omega) (by omega),aa,show F.S6 v.2.2.2.2.1 (-41)=_ from nO _ 41 (by omega) (by omega),aa,
    NG,bh (show i<F.aat.length from hi) 0,aa,bh (show i<B.length by omega) 0,aa,aG,
    show F.S6 v.1 (-28)=_ from nO _ 28 (by omega) (by omega),aa,show F.S6 v.1 (-34)=_ from nO _ 34 (by omega) (by omega),aa,show F.S6 v.1 (-39)=_ from nO _ 39 (by omega) (by omega),aa,aG,RQ,QS,wI1 i (by omega)]
   rfl)
  (fun v _=>rfl) 80 0 (ofL 0 h) (aw _) rfl trivial
 have e4:=fun (v:V8 UInt64)=>jZ (f:=F.Y8 a l rest n v.1 v.2.1 v.2.2.1 v.2.2.2.1 v.2.2.2.2.1 v.2.2.2.2.2.1 v.2.2.2.2.2.2.1 v.2.2.2.2.2.2.2) (fun h i=>((i:Int),h)) (fun h=>h.length=8) (uU (toL v)) 0 8
  (X:=fun h=>some (a,l,h,rest,n))
  (fun i h _ hi hh=>by
   have A:decide ((i:Int)<8)=true:=ai (by omega)
   refine⟨?_,wa _ i h hh⟩
   simp only[F.Y8,A,am]
   rw[bh (l:=[v.1,v.2.1,v.2.2.1,v.2.2.2.1,v.2.2.2.2.1,v.2.2.2.2.2.1,v.2.2.2.2.2.2.1,v.2.2.2.2.2.2.2]) (show i<8 from hi) 0,aa,bh (show i<h.length by omega) 0,aa,aa,aG,wI1 i (by omega),aq]
   rfl)
  (fun h hh=>rfl) 8 0 h (aw _) rfl hh
 refine N.trans ?_
 refine (U _ (fH nY (kb rest) (fun i x hx=>sj rest i x hx) 16 0 _ wO).1).trans ?_
 rw[<-yQ]
 refine (e3 _ ((Hk rest).1)).trans ?_
 exact e4 _
theorem Kx (m:Nat) (h:m<18446744073709551616):(UInt64.ofInt (m:Int)).toNat=m:=by
 simp[UInt64.ofInt,bQ]
 omega
theorem nW {b:L01} {k n:Nat} (h:k<n):(b.take n).getD k 0=b.getD k 0:=by
 rw[an,bP,ag h,an]
theorem CE (h:L00) (b:L01):qj h (b.take 64)=qj h b:=by
 have:nI (b.take 64)=nI b:=by
  unfold nI
  refine na 64 0 _ fun k y _ A=>?_
  unfold ky
  split
  ·rename_i j
   simp only[Cq]
   rw[nW (by omega),nW (by omega),nW (by omega),nW (by omega)]
  ·rfl
 unfold qj
 rw[this]
theorem CW (h:List UInt64) (b:L01):qi h (b.take 128)=qi h b:=by
 have:np (b.take 128)=np b:=by
  unfold np
  refine na 80 0 _ fun k y _ B=>?_
  unfold kb
  split
  ·rename_i A
   have:vG (b.take 128) k=vG b k:=na 8 0 _ fun j x _ G=>by
    simp only[BL]
    rw[nW (by omega)]
   rw[this]
  ·rfl
 unfold qi
 rw[this]
abbrev HS:=L00×List UInt64
def Bk (a:Int):Nat:=if a=1 then 64 else 128
def mix (a:Int) (H:HS) (b:L01):HS:=if a=1 then (qj H.1 b,H.2) else (H.1,qi H.2 b)
theorem ub (a:Int) (H:HS) (b:L01):mix a H (b.take (Bk a))=mix a H b:=by
 unfold mix Bk
 split
 ·rw[CE]
 ·rw[CW]
theorem MW (a:Int) (H:HS) (b:L01) (h:H.1.length=8/\H.2.length=8):(mix a H b).1.length=8/\(mix a H b).2.length=8:=by
 unfold mix
 split
 ·exact⟨JE _ _ h.1,h.2⟩
 ·exact⟨h.1,FA _ _ h.2⟩
def og (a:Int) (H:HS) (D:L01) (k:Nat):HS:=(List.range' 0 k).foldl (fun H i=>mix a H (D.drop (Bk a*i))) H
theorem BB (a:Int) (H:HS) (D:L01) (k:Nat) (h:H.1.length=8/\H.2.length=8):(og a H D k).1.length=8/\(og a H D k).2.length=8:=
 nH (fun H:HS=>H.1.length=8/\H.2.length=8) _ (fun i x hx=>MW a x _ hx) k 0 _ h
theorem HT (a:Int) (H:HS) (D:L01) (k:Nat):og a H D (k+1)=mix a (og a H D k) (D.drop (Bk a*k)):=by
 unfold og
 rw[List.range'_concat,List.foldl_append]
 simp
theorem Av (a:Int) (H:HS) (D E:L01) (k:Nat) (h:Bk a*k<=D.length):og a H (D++E) k=og a H D k:=by
 unfold og
 refine na k 0 _ fun i x _ hi=>?_
 have j:Bk a*(i+1)<=Bk a*k:=bj _ (by omega)
 rw[aJ,cE]at j
 rw[<-ub,<-ub a x (D.drop _),List.drop_append_of_le_length (by omega),List.take_append_of_le_length (by simp; omega)]
def Inv (a:Int) (H0:HS) (D:L01) (s:L00) (l:List UInt64) (rest:L01) (n:UInt64):Prop:=
 (s,l)=og a H0 D (D.length / Bk a)/\rest.length=128/\rest.take (D.length%Bk a)=D.drop (Bk a*(D.length / Bk a))/\n=UInt64.ofNat D.length
theorem Kv (a:Int) (s:L00) (l:List UInt64) (rest:L01) (n:UInt64) (hs:s.length=8) (hl:l.length=8) (j:rest.length=128) :
  F.Wf a s l rest n=some (a,(mix a (s,l) rest).1,(mix a (s,l) rest).2,rest,n):=by
 unfold F.Wf mix
 by_cases h:a=1
 ·have e:(a == 1)=true:=by simpa using h
  rw[e,ag rfl,ag h,E9 a s l rest n hs j]; rfl
 ·have e:(a == 1)=false:=by simpa using h
  rw[e,ae (by simp),ae h,Eu a l s rest n hl j]; rfl
theorem FI (a:Int) (H0:HS) (h0:H0.1.length=8/\H0.2.length=8):∀(m:Nat) (b D:L01) (s:L00) (l:List UInt64) (rest:L01) (n:UInt64),b.length=m->D.length+b.length<=1000000000000000->Inv a H0 D s l rest n ->
  ∃O l' V n',loop (F.Ve ((Bk a:Nat):Int)) (b,a,s,l,rest,n)=some (a,O,l',V,n')/\Inv a H0 (D++b) O l' V n':=by
 intro m
 induction m using Nat.strongRecOn with
 | ind m ih=>
  intro b D s l rest n hm hD hI
  obtain⟨Z,hr,ht,hn⟩:=hI
  have R:=BB a H0 D (D.length / Bk a) h0
  rw[<-Z]at R
  have hB:Bk a=64\/Bk a=128:=by unfold Bk; split <;> simp
  by_cases hb:b=[]
  ·subst hb
   refine⟨s,l,rest,n,bI rfl,?_⟩
   rw[bM]; exact⟨Z,hr,ht,hn⟩
  ·have d0:0<b.length:=fg.2 hb
   -- numbers
   obtain⟨B,j⟩:∃B,Bk a=B:=⟨_,rfl⟩
   rw[j]at hB ht Z
   have cm:D.length%B<B:=bG _ (by omega)
   have b4:=c7 D.length B
   obtain⟨q,hq⟩:∃q,D.length / B=q:=⟨_,rfl⟩
   obtain⟨t,ac⟩:∃t,D.length%B=t:=⟨_,rfl⟩
   rw[hq,ac]at b4
   rw[ac]at cm ht
   rw[hq]at ht Z
   have c0:(UInt64.ofInt ((B:Nat):Int)).toNat=B:=by rcases hB with rfl | rfl <;> rfl
   have c2:¬(UInt64.ofInt ((B:Nat):Int))=0:=by rcases hB with rfl | rfl <;> decide
   have hN:n.toNat=D.length:=by rw[hn,bQ]; omega
   have b9:(n%UInt64.ofInt ((B:Nat):Int)).toNat=t:=by rw[dh,hN,c0,ac]
   obtain⟨k,hk⟩:∃k,min b.length (B - t)=k:=⟨_,rfl⟩
   have b5:0<k/\k<=b.length/\k<=B - t:=by omega
   have c5:cpL rest b t B=rest.take t++b.take k++rest.drop (t+k):=by
    unfold cpL
    rw[hk]
    congr 2
    by_cases h:b.length<=B - t
    ·rw[aC h,aC (by omega)]
    ·congr 1; omega
   have ad:(cpL rest b t B).length=128:=by rw[jD _ _ _ _ (by omega) (by omega),hr]
   have d1:D.length=B*q+t:=b4.symm
   have X:(D++b.take k).drop (B*q)=rest.take t++b.take k:=by
    rw[List.drop_append_of_le_length (by omega),ht]
   have al:(cpL rest b t B).take (t+k)=rest.take t++b.take k:=by
    rw[c5,fE (by simp; omega)]
   have b6:n+UInt64.ofInt ((k:Nat):Int)=UInt64.ofNat (D++b.take k).length:=by
    apply cx.1
    rw[fN,hN,bQ,Kx k (by omega)]
    simp; omega
   have U:∀O l':_,Inv a H0 (D++b.take k) O l' (cpL rest b t B) (n+UInt64.ofInt ((k:Nat):Int))->∃I J Y N,loop (F.Ve ((Bk a:Nat):Int)) (b.drop k,a,O,l',cpL rest b t B,n+UInt64.ofInt ((k:Nat):Int))=some (a,I,J,Y,N)/\Inv a H0 (D++b) I J Y N:=by
    intro O l' c6
    obtain⟨I,J,r2,N,h1,h2⟩:=ih (b.drop k).length (by simp; omega) (b.drop k) (D++b.take k) O l' _ _ rfl (by simp; omega) c6
    refine⟨I,J,r2,N,h1,?_⟩
    rwa [aS,cD]at h2
   rw[j]at U ⊢
   have c1:decide ((0:Int)<(b.length:Int))=true:=ai (by omega)
   have w1:wI ((t:Nat):Int)=((t:Nat):Int):=aD (by omega) (by omega)
   have A:F.Ve ((B:Nat):Int) (b,a,s,l,rest,n) =
     if (wI ((t:Int)+(k:Int)) == (B:Int))=true then (af (F.Wf a s l (cpL rest b t B) (n+UInt64.ofInt ((k:Nat):Int))) fun x=>bU (b.drop k,x.1,x.2.1,x.2.2.1,x.2.2.2.1,x.2.2.2.2))
     else bU (b.drop k,a,s,l,cpL rest b t B,n+UInt64.ofInt ((k:Nat):Int)):=by
    simp only[F.Ve,c1,am,grd_true _ c2,aG,b9,w1]
    rw[lP (by omega) (by omega),aa]
    simp only[aq,hk]
    rw[oJ (by omega),aa]
   have w2:wI ((t:Int)+(k:Int))=((t+k:Nat):Int):=by rw[aD (by omega) (by omega)]; simp
   rw[w2]at A
   by_cases hfull:t+k=B
   ·have e:(((t+k:Nat):Int) == (B:Int))=true:=by simp[hfull]
    rw[e,ag rfl,Kv a s l _ _ R.1 R.2 ad,aa]at A
    obtain⟨I,J,r2,N,h1,h2⟩:=U (mix a (s,l) (cpL rest b t B)).1 (mix a (s,l) (cpL rest b t B)).2 (by
     have G:(D++b.take k).length=B*(q+1):=by rw[aE,aN,bg b5.2.1,aJ]; omega
     have hd:(D++b.take k).length / B=q+1:=by rw[G,Nat.mul_div_cancel_left _ (by omega)]
     have b3:(D++b.take k).length%B=0:=by rw[G,Nat.mul_mod_right]
     refine⟨?_,ad,?_,b6⟩
     ·rw[j,hd,HT,Av a H0 D _ q (by rw[j]; omega),<-Z,j,X,<-al,hfull,<-j,ub]
     ·rw[j,b3,hd,gq,bK (by rw[G]; exact aw _)])
    exact⟨I,J,r2,N,(bp A).trans h1,h2⟩
   ·have e:(((t+k:Nat):Int) == (B:Int))=false:=by simp; omega
    rw[e,ae (by simp)]at A
    obtain⟨I,J,r2,N,h1,h2⟩:=U s l (by
     have b7:t+k<B:=by omega
     have G:(D++b.take k).length=t+k+B*q:=by rw[aE,aN,bg b5.2.1]; omega
     have hd:(D++b.take k).length / B=q:=by rw[G,gV _ _ (by omega),cT b7]; simp
     have b3:(D++b.take k).length%B=t+k:=by rw[G,gU,az b7]
     refine⟨?_,ad,?_,b6⟩
     ·rw[j,hd,Av a H0 D _ q (by rw[j]; omega),<-Z]
     ·rw[j,b3,hd,al,X])
    exact⟨I,J,r2,N,(bp A).trans h1,h2⟩
theorem uk (a:Int) (h:a=1\/a=2\/a=3):F.Ub a=some ((Bk a:Nat):Int):=by
 rcases h with rfl | rfl | rfl <;> rfl
theorem AG (a:Int) (ha:a=1\/a=2\/a=3) (H0:HS) (G:H0.1.length=8/\H0.2.length=8) (b D:L01) (s:L00) (l:List UInt64) (rest:L01) (n:UInt64) (I:D.length+b.length<=1000000000000000) (J:Inv a H0 D s l rest n) :
  ∃A l' j B,F.U2 a s l rest n b=some (a,A,l',j,B)/\Inv a H0 (D++b) A l' j B:=by
 unfold F.U2
 rw[uk a ha,aa]
 exact FI a H0 G _ b D s l rest n rfl I J
def zc (B r:Nat):Nat:=(2*B - B / 8 - (r+1))%B
def kv (n:UInt64) (i:Nat):UInt8:=if i<8 then (bb (cV n 3) (8*i)).toUInt8 else if i=8 then (bb n 61).toUInt8 else 0
def nt (B:Nat) (D:L01):L01:=([128]++List.replicate (zc B (D.length%B)) 0)++(List.range' 0 (B / 8)).map (fun i=>kv (UInt64.ofNat D.length) (B / 8 - 1 - i))
def q32 (v:UInt32):L01:=[(dB v 24).toUInt8,(dB v 16).toUInt8,(dB v 8).toUInt8,v.toUInt8]
def q64 (v:UInt64):L01:=(List.range' 0 8).map (fun j=>(bb v (56 - 8*j)).toUInt8)
def zn (s:L00):L01:=(List.range' 0 8).foldl (fun x i=>x++q32 (s.getD i 0)) []
def E1 (s:List UInt64):L01:=(List.range' 0 8).foldl (fun x i=>x++q64 (s.getD i 0)) []
def Sz (a:Int):Nat:=if a=1 then 32 else if a=2 then 48 else 64
def sa (a:Int) (H:HS):L01:=if a=1 then zn H.1 else (E1 H.2).take (Sz a)
def H0 (a:Int):HS:=if a=1 then (F.abQ,List.replicate 8 0) else if a=2 then (List.replicate 8 0,F.abR) else (List.replicate 8 0,F.abO)
theorem z8 (a:Int):(H0 a).1.length=8/\(H0 a).2.length=8:=by
 unfold H0
 split
 ·exact⟨rfl,rfl⟩
 ·split <;> exact⟨rfl,rfl⟩
def ge (a:Int) (D:L01):L01:=sa a (og a (H0 a) (D++nt (Bk a) D) ((D++nt (Bk a) D).length / Bk a))
theorem uv {β:Type} (f:Nat->List β):∀(r i:Nat) (x:List β),(List.range' i r).foldl (fun x i=>x++f i) x=x++(List.range' i r).flatMap f
 | 0,i,x=>by simp
 | r+1,i,x=>by
  rw[g9,eo,uv f r (i+1),dS,aS]
theorem DD (v:UInt64):(q64 v).length=8:=by simp[q64]
theorem xW (s:List UInt64):(E1 s).length=64:=by
 unfold E1
 have:=fH (fun i (x:L01)=>x.length=8*i) (fun x i=>x++q64 (s.getD i 0)) (fun i x hx=>by simp only[aE,DD,hx]; omega) 8 0 [] rfl
 simpa using this
theorem Jw (B:Nat) (D:L01):(nt B D).length=1+zc B (D.length%B)+B / 8:=by simp[nt]; omega
theorem Gq (a:Int) (D:L01):(D++nt (Bk a) D).length%Bk a=0/\(nt (Bk a) D).length<=300:=by
 rw[aE,Jw]
 have j:Bk a=64\/Bk a=128:=by unfold Bk; split <;> simp
 have A:=bG D.length (show 0<Bk a by omega)
 have hd:=c7 D.length (Bk a)
 rcases j with h | h <;> rw[h]at A hd ⊢ <;> unfold zc <;> omega
theorem Ov (a:Int) (ha:a=1\/a=2\/a=3) (s:L00) (l:List UInt64) (rest:L01) (n:UInt64) (x:L01) (hx:x.length<=1000) :
  loop (F.Vp a s l rest n) (x,(((Bk a / 8 - 1:Nat)):Int))=(af (F.U2 a s l rest n (x++(List.range' 0 (Bk a / 8)).map (fun i=>kv n (Bk a / 8 - 1 - i)))) fun A=>
   if (A.1 == 1)=true then loop (F.Xq a s l rest n A) ([],0) else loop (F.Vx a s l rest n A) ([],0)):=by
 have O:Bk a / 8=8\/Bk a / 8=16:=by unfold Bk; split <;> simp
 obtain⟨j,N⟩:∃q,Bk a / 8=q:=⟨_,rfl⟩
 rw[N]at O ⊢
 have:=eY (f:=F.Vp a s l rest n) (fun (y:L01) i=>(y,(j:Int) - 1 - (i:Int))) (fun i y=>y.length=x.length+i) (fun y i=>y++[kv n (j - 1 - i)]) 0 j
  (X:=fun y=>(af (F.U2 a s l rest n y) fun A=>if (A.1 == 1)=true then loop (F.Xq a s l rest n A) ([],0) else loop (F.Vx a s l rest n A) ([],0)))
  (fun i y _ hi hy=>by
   have B:decide ((0:Int)<=((j - 1 - i:Nat):Int))=true:=ai (by omega)
   have R:(j:Int) - 1 - (i:Int)=((j - 1 - i:Nat):Int):=by omega
   have G:∀c:UInt8,F.WC y ((j - 1 - i:Nat):Int) c=some (.inl (y++[c],(j:Int) - 1 - ((i+1:Nat):Int))):=fun c=>by
    simp only[F.WC]
    rw[g8 (by simp; omega),aa,aD (by omega) (by omega),show ((j - 1 - i:Nat):Int) - 1=(j:Int) - 1 - ((i+1:Nat):Int) by omega]
    rfl
   refine⟨?_,by simp[hy]; omega⟩
   simp only[F.Vp,R,B,am]
   by_cases h8:j - 1 - i<8
   ·have I:decide (((j - 1 - i:Nat):Int)<8)=true:=ai (by omega)
    have U:wI (8*((j - 1 - i:Nat):Int))=((8*(j - 1 - i):Nat):Int):=by rw[aD (by omega) (by omega)]; omega
    simp only[I,am,U]
    rw[grd_true _ (by omega),aG,aq,G]
    simp only[kv,h8,am]
   ·have I:decide (((j - 1 - i:Nat):Int)<8)=false:=av (by omega)
    simp only[I,ah,aj]
    by_cases h9:j - 1 - i=8
    ·have J:(((j - 1 - i:Nat):Int) == 8)=true:=by rw[h9]; rfl
     have hb:kv n (j - 1 - i)=(bb n 61).toUInt8:=by unfold kv; rw[ae h8,ag h9]
     simp only[J,am,G,hb]
    ·have J:(((j - 1 - i:Nat):Int) == 8)=false:=by simp; omega
     have hb:kv n (j - 1 - i)=0:=by unfold kv; rw[ae h8,ae h9]
     simp only[J,ah,aj,G,hb])
  (fun y hy=>by
   have B:decide ((0:Int)<=(j:Int) - 1 - ((j:Nat):Int))=false:=av (by omega)
   simp only[F.Vp,B,ah,aj])
  j 0 x (aw _) (by omega) rfl
 have e:(j:Int) - 1 - ((0:Nat):Int)=((j - 1:Nat):Int):=by omega
 rw[e]at this
 refine this.trans ?_
 have hf:=uv (fun i=>[kv n (j - 1 - i)]) j 0 x
 simp only[hf]
 have hm:∀r:L02,r.flatMap (fun i=>[kv n (j - 1 - i)])=r.map (fun i=>kv n (j - 1 - i)):=fun r=>by
  induction r with
  | nil=>rfl
  | cons p r ih=>rw[dS,ih]; rfl
 rw[hm]
theorem O9 (a:Int) (ha:a=1\/a=2\/a=3) (D:L01) (s:L00) (l:List UInt64) (rest:L01) (n:UInt64) (hD:D.length<=900000000000000) (hI:Inv a (H0 a) D s l rest n) :
  F.YQ a s l rest n=some (ge a D,a,s,l,rest,n):=by
 unfold F.YQ
 rw[uk a ha,aa]
 obtain⟨B,A⟩:∃B,Bk a=B:=⟨_,rfl⟩
 have R:B=64\/B=128:=by rw[<-A]; unfold Bk; split <;> simp
 have hn:=hI.2.2.2
 obtain⟨t,ht⟩:∃t,D.length%B=t:=⟨_,rfl⟩
 have c4:t<B:=by rw[<-ht]; exact bG _ (by omega)
 have bx:(UInt64.ofInt ((B:Nat):Int)).toNat=B:=by rcases R with rfl | rfl <;> rfl
 have V:¬(UInt64.ofInt ((B:Nat):Int))=0:=by rcases R with rfl | rfl <;> decide
 have J:¬((B:Nat):Int)=0:=by omega
 have hN:n.toNat=D.length:=by rw[hn,bQ]; omega
 have ac:(n%UInt64.ofInt ((B:Nat):Int)).toNat=t:=by rw[dh,hN,bx,ht]
 have hq:Int.tdiv ((B:Nat):Int) 8=((B / 8:Nat):Int):=by rcases R with rfl | rfl <;> rfl
 have w8:wI ((B / 8:Nat):Int)=((B / 8:Nat):Int):=aD (by omega) (by omega)
 have w9:wI (((B:Nat):Int) - ((B / 8:Nat):Int))=((B - B / 8:Nat):Int):=by rw[aD (by omega) (by omega)]; omega
 have wt:wI ((t:Nat):Int)=((t:Nat):Int):=aD (by omega) (by omega)
 have N:∀j:Nat,j<=zc B t->(Int.tmod (wI (wI ((n%UInt64.ofInt ((B:Nat):Int)).toNat:Int)+((([128]++List.replicate j 0:L01)).length:Int))) ((B:Nat):Int) != wI (((B:Nat):Int) - wI (Int.tdiv ((B:Nat):Int) 8)))=decide (j≠zc B t):=by
  intro j hj
  have hz:zc B t<B:=bG _ (by omega)
  rw[ac,wt,hq,w8,w9]
  have hl:((([128]++List.replicate j 0:L01)).length:Int)=((1+j:Nat):Int):=by simp; omega
  rw[hl,aD (by omega) (by omega),show ((t:Nat):Int)+((1+j:Nat):Int)=((t+(1+j):Nat):Int) by omega]
  have hm:Int.tmod ((t+(1+j):Nat):Int) ((B:Nat):Int)=(((t+(1+j))%B:Nat):Int):=rfl
  rw[hm]
  have Y:(t+(1+j))%B=B - B / 8↔j=zc B t:=by
   unfold zc at hj hz ⊢
   rcases R with rfl | rfl <;> omega
  by_cases h:j=zc B t
  ·have:=Y.2 h
   rw[this]; simp[h]
  ·have:¬(t+(1+j))%B=B - B / 8:=fun h'=>h (Y.1 h')
   simp only[h,ne_eq,iS,ir,dz]
   omega
 have c5:zc B t<B:=bG _ (by omega)
 have e1:=jZ (f:=F.YW n ((B:Nat):Int) a s l rest) (fun (_:Unit) i=>([128]++List.replicate i 0:L01)) (fun _=>True) (fun _ _=>()) 0 (zc B t)
  (X:=fun _=>loop (F.Vp a s l rest n) ([128]++List.replicate (zc B t) 0,((B / 8 - 1:Nat):Int)))
  (fun i _ _ hi _=>by
   refine⟨?_,trivial⟩
   unfold F.YW
   simp only
   rw[grd_true _ V,grd_true _ J,N i (by omega),ag (ai (by omega)),g8 (by simp; omega),aa]
   simp only[aS,List.replicate_succ']
   rfl)
  (fun _ _=>by
   unfold F.YW
   simp only
   rw[grd_true _ V,grd_true _ J,N _ (aw _),ae (by simp),aG,hq,w8,aD (by omega) (by omega),show ((B / 8:Nat):Int) - 1=((B / 8 - 1:Nat):Int) by omega])
  (zc B t) 0 () (aw _) (by omega) trivial
 rw[A]
 refine e1.trans ?_
 have Z:=Ov a ha s l rest n ([128]++List.replicate (zc B t) 0) (by simp; omega)
 rw[A]at Z
 refine Z.trans ?_
 have ad:([128]++List.replicate (zc B t) 0)++(List.range' 0 (B / 8)).map (fun i=>kv n (B / 8 - 1 - i))=nt B D:=by
  unfold nt
  rw[ht,hn]
 have hpl:=(Gq a D).2
 rw[ad]
 rw[A]at hpl
 obtain⟨U,l',r',n',hw,b7⟩:=AG a ha (H0 a) (z8 a) (nt B D) D s l rest n (by omega) hI
 rw[hw,aa]
 have I:=b7.1
 rw[A]at I
 have G:=BB a (H0 a) (D++nt B D) ((D++nt B D).length / B) (z8 a)
 rw[<-I]at G
 by_cases h1:a=1
 ·have c1:(a == 1)=true:=by simpa using h1
  simp only[c1,am]
  have e3:=eY (f:=F.Xq a s l rest n (a,U,l',r',n')) (fun (x:L01) i=>(x,(i:Int))) (fun i x=>x.length=4*i) (fun x i=>x++q32 (U.getD i 0)) 0 8
   (X:=fun x=>some (x,a,s,l,rest,n))
   (fun i x _ hi hx=>by
    have O:decide ((i:Int)<8)=true:=ai (by omega)
    refine⟨?_,by simp[hx,q32]; omega⟩
    simp only[F.Xq,O,am]
    rw[bh (show i<U.length by have:=G.1; simp only at this; omega) 0,aa,g8 (by simp; omega),aa,wI1 i (by omega)]
    rfl)
   (fun x _=>rfl) 8 0 [] (aw _) rfl rfl
  refine e3.trans ?_
  unfold ge sa
  rw[ag h1,A,<-I]
  rfl
 ·have c1:(a == 1)=false:=by simpa using h1
  simp only[c1,ah,aj]
  have e5:=fun (i:Nat) (x:L01) (v:UInt64) (hi:i<8) (hx:x.length=8*i)=>eY (f:=F.Yz (i:Int) v) (fun (x:L01) j=>(x,(56:Int) - 8*(j:Int))) (fun j y=>y.length=8*i+j) (fun y j=>y++[(bb v (56 - 8*j)).toUInt8]) 0 8
   (X:=fun y=>(some (.inl (y,((i+1:Nat):Int))):Option ((L01×Int)⊕(L01×Int×L00×List UInt64×L01×UInt64))))
   (fun j y _ hj hy=>by
    have O:decide ((0:Int)<=56 - 8*(j:Int))=true:=ai (by omega)
    refine⟨?_,by simp[hy]; omega⟩
    simp only[F.Yz,O,am]
    rw[grd_true _ (by omega),g8 (by simp; omega),aa,show ((56:Int) - 8*(j:Int)).toNat=56 - 8*j by omega,aD (by omega) (by omega),show (56:Int) - 8*(j:Int) - 8=56 - 8*((j+1:Nat):Int) by omega]
    rfl)
   (fun y _=>by
    simp only[F.Yz,show decide ((0:Int)<=56 - 8*((8:Nat):Int))=false from rfl,ah,aj,wI1 i (by omega)]
    rfl) 8 0 x (aw _) rfl (by omega)
  have b8:F.Tp a=some ((Sz a:Nat):Int)/\Sz a<=64:=by
   rcases ha with rfl | rfl | rfl
   ·exact absurd rfl h1
   ·exact⟨rfl,by decide⟩
   ·exact⟨rfl,by decide⟩
  have e4:=eY (f:=F.Vx a s l rest n (a,U,l',r',n')) (fun (x:L01) i=>(x,(i:Int))) (fun i x=>x.length=8*i) (fun x i=>x++q64 (l'.getD i 0)) 0 8
   (X:=fun x=>some (x.take (Sz a),a,s,l,rest,n))
   (fun i x _ hi hx=>by
    have O:decide ((i:Int)<8)=true:=ai (by omega)
    refine⟨?_,by simp only[aE,DD,hx]; omega⟩
    simp only[F.Vx,O,am]
    rw[bh (show i<l'.length by have:=G.2; simp only at this; omega) 0,aa]
    refine (e5 i x _ hi hx).trans ?_
    have hf:=uv (fun j=>[(bb (l'.getD i 0) (56 - 8*j)).toUInt8]) 8 0 x
    simp only[hf]
    have:(List.range' 0 8).flatMap (fun j=>[(bb (l'.getD i 0) (56 - 8*j)).toUInt8])=q64 (l'.getD i 0):=rfl
    rw[this])
   (fun x hx=>by
    simp only[F.Vx,show decide (((8:Nat):Int)<8)=false from rfl,ah,aj]
    rw[b8.1,aa,aa,grd_true _ ⟨by omega,by rw[aq]; omega,rfl⟩,aq])
   8 0 [] (aw _) rfl rfl
  refine e4.trans ?_
  unfold ge sa
  rw[ae h1,A,<-I]
  rfl
theorem OZ (a:Int) (ha:a=1\/a=2\/a=3):F.aad a=some (some (a,(H0 a).1,(H0 a).2,List.replicate 128 0,0)):=by
 rcases ha with rfl | rfl | rfl <;> rfl
theorem RM (a:Int):Inv a (H0 a) [] (H0 a).1 (H0 a).2 (List.replicate 128 0) 0:=by
 refine⟨?_,by simp,by simp,rfl⟩
 simp[og]
theorem lj (a:Int) (ha:a=1\/a=2\/a=3) (j:List L01) (hl:j.length<=1000) (X:j.flatten.length<=900000000000000):F.To a j=some (ge a j.flatten):=by
 unfold F.To
 rw[OZ a ha,aa]
 show loop (F.U5 j) (0,a,(H0 a).1,(H0 a).2,List.replicate 128 0,0)=_
 have J:∀(r i:Nat) (s:L00) (l:List UInt64) (rest:L01) (n:UInt64),i+r=j.length->Inv a (H0 a) (j.take i).flatten s l rest n->loop (F.U5 j) ((i:Int),a,s,l,rest,n)=some (ge a j.flatten):=by
  intro r
  induction r with
  | zero=>
   intro i s l rest n hi I
   have hd:decide ((i:Int)<(j.length:Int))=false:=av (by omega)
   have N:Inv a (H0 a) j.flatten s l rest n:=by rwa [aC (by omega)]at I
   refine bI (r:=ge a j.flatten) ?_
   simp only[F.U5,hd,ah,aj]
   rw[O9 a ha _ s l rest n X N,aa]
   rfl
  | succ r ih=>
   intro i s l rest n hi I
   have hd:decide ((i:Int)<(j.length:Int))=true:=ai (by omega)
   have A:i<j.length:=by omega
   have B:(j.take (i+1)).flatten=(j.take i).flatten++j[i]:=by rw[dR A,List.flatten_append]; simp
   have O:(j.take (i+1)).flatten.length<=j.flatten.length:=by
    have:j.flatten=(j.take (i+1)).flatten++(j.drop (i+1)).flatten:=by rw[<-List.flatten_append,cD]
    rw[this,aE]; omega
   rw[B,aE]at O
   obtain⟨R,l',U,V,hw,G⟩:=AG a ha (H0 a) (z8 a) j[i] _ s l rest n (by omega) I
   rw[<-B]at G
   have hs:F.U5 j ((i:Int),a,s,l,rest,n)=some (.inl (((i+1:Nat):Int),a,R,l',U,V)):=by
    simp only[F.U5,hd,am]
    rw[bX A,aa,hw,aa,wI1 i (by omega)]
    rfl
   rw[bp hs]
   exact ih (i+1) R l' U V (by omega) G
 exact J j.length 0 _ _ _ _ (by omega) (by simpa using RM a)
theorem Gu (x:UInt64):(x &&& 255).toUInt8=x.toUInt8:=by
 apply et.1
 rw[gZ,gZ,jg]
 have:(255:UInt64).toNat=2^8 - 1:=rfl
 rw[this,fi]
 omega
def P3 (n:UInt64):L01:=(List.range' 0 8).map (fun i=>kv n (7 - i))
theorem M2 (v:UInt32):(q32 v).length=4:=by simp[q32]
theorem Ih (s:L00):(zn s).length=32:=by
 unfold zn
 have:=fH (fun i (x:L01)=>x.length=4*i) (fun x i=>x++q32 (s.getD i 0)) (fun i x hx=>by simp only[aE,M2,hx]; omega) 8 0 [] rfl
 simpa using this
theorem uL (a:Int) (D:L01):(ge a D).length=Sz a:=by
 unfold ge sa
 split
 ·rename_i h; rw[Ih]; unfold Sz; rw[ag h]
 ·rename_i h
  rw[aN,xW]; unfold Sz; rw[ae h]; split <;> rfl
theorem Ez (a:Int):Sz a<=64:=by unfold Sz; split; decide; split <;> decide
theorem E5 (a:Int):64<=Bk a/\Bk a<=128:=by unfold Bk; split <;> omega
def uH (a:Int) (key:L01):L01:=if Bk a<key.length then ge a key else key
def tf (a:Int) (key:L01) (w:UInt8):L01:=(List.range' 0 (Bk a)).map (fun i=>(uH a key).getD i 0 ^^^ w)
theorem xO (a:Int) (j:L01) (w:UInt8):(tf a j w).length=Bk a:=by simp[tf]
theorem KV (a:Int) (j:L01):(uH a j).length<=Bk a:=by
 unfold uH
 split
 ·rw[uL]; exact aZ (Ez a) (E5 a).1
 ·omega
theorem KM {f:Int×L01->Option ((Int×L01)⊕L01)} (w:UInt8) (B:Nat) (I:B<=1000)
  (hf:∀i x,f (i,x)=if decide (i<(B:Int))=true then (af (ax x i) fun a=>af (ax x i) fun b=>bz (x.set i.toNat (a ^^^ w)) fun y=>bU (wI (i+1),y)) else bk (some x))
  (l:L01) (hl:l.length=B):loop f (0,l)=some (l.map (· ^^^ w)):=by
 have j:∀(r i:Nat),i+r=B->loop f ((i:Int),(l.take i).map (· ^^^ w)++l.drop i)=some (l.map (· ^^^ w)):=by
  intro r
  induction r with
  | zero=>
   intro i h
   refine cd ?_
   rw[hf,av (by omega),aC (by omega),bK (by omega),bM]
   rfl
  | succ r ih=>
   intro i h
   have hi:i<l.length:=by omega
   have A:((l.take i).map (· ^^^ w)++l.drop i).length=B:=by simp; omega
   have hg:ax ((l.take i).map (· ^^^ w)++l.drop i) (i:Int)=some l[i]:=by
    rw[bX (by omega),List.getElem_append_right (by simp; omega)]
    congr 1
    simp; congr 1; omega
   have hs:f ((i:Int),(l.take i).map (· ^^^ w)++l.drop i)=some (.inl (((i+1:Nat):Int),(l.take (i+1)).map (· ^^^ w)++l.drop (i+1))):=by
    rw[hf,ai (by omega),hg]
    simp only[am,aa,aG,aq]
    rw[aD (by omega) (by omega),dV _ _ (by simp; omega),bc hi,dR hi]
    have G:i - ((l.take i).map (· ^^^ w)).length=0:=by simp; omega
    rw[G,iF,List.map_append,aS]
    rfl
   rw[bp hs]
   exact ih (i+1) (by omega)
 have:=j B 0 (by omega)
 simpa using this
theorem Dk (a:Int) (k:L01) (B:Nat) (w:UInt8) (A:k.length<=B):(cpL (List.replicate B 0) k 0 B).map (· ^^^ w)=(List.range' 0 B).map (fun i=>k.getD i 0 ^^^ w):=by
 have hl:(cpL (List.replicate B (0:UInt8)) k 0 B).length=B:=by rw[jD _ _ _ _ (by omega) (by simp)]; simp
 refine gx (by simp[hl]) fun i j G=>?_
 simp only[List.getElem_map,List.getElem_range',bm,cy]
 congr 1
 unfold cpL
 rw[an]
 simp only[gq,bT,fX,bm]
 have hi:i<B:=by simpa [hl] using j
 by_cases h:i<k.length
 ·rw[List.getElem_append_left (by simp; omega),List.getElem_take,aA h]; rfl
 ·rw[List.getElem_append_right (by simp; omega),List.getElem_drop,List.getElem_replicate,dC (by omega)]; rfl
section
variable (a:Int) (ha:a=1\/a=2\/a=3)
include ha
theorem tP (j:L01) (w:UInt8) (G:j.length<=150000000000000):F.W2 a j w=some (tf a j w):=by
 unfold F.W2 tf
 have I:=E5 a
 have B:=KV a j
 have A:∀(f:Int×L01->Option ((Int×L01)⊕L01)),(∀i x,f (i,x)=if decide (i<(Bk a:Int))=true then (af (ax x i) fun a=>af (ax x i) fun b=>bz (x.set i.toNat (a ^^^ w)) fun y=>bU (wI (i+1),y)) else bk (some x)) ->
   loop f (0,cpL (List.replicate (Bk a) 0) (uH a j) 0 (Bk a))=some ((List.range' 0 (Bk a)).map (fun i=>(uH a j).getD i 0 ^^^ w)):=by
  intro f hf
  rw[KM w (Bk a) (by omega) hf _ (by rw[jD _ _ _ _ (by omega) (by simp)]; simp),Dk a _ _ w B]
 have hm:mkO 1 ((Bk a:Nat):Int) ((Bk a:Nat):Int) (0:UInt8)=some (List.replicate (Bk a) 0):=by rw[iG (by omega)]; simp
 rw[uk a ha,aa]
 by_cases h:Bk a<j.length
 ·rw[ag (ai (by omega)),lj a ha [j] (by simp) (by simp; omega),aa,aa,hm,aa,aG,aa,bq]
  have:=A (F.abr w ((Bk a:Nat):Int)) (fun i x=>rfl)
  rw[show uH a j=ge a j from ag h]at this ⊢
  simpa using this
 ·rw[ae (by simp; omega),aa,hm,aa,aG,aa,bq]
  have:=A (F.abm w ((Bk a:Nat):Int)) (fun i x=>rfl)
  rw[show uH a j=j from ae h]at this ⊢
  exact this
def qF (a:Int) (key data:L01):L01:=ge a (tf a key 92++ge a (tf a key 54++data))
theorem Di (j A:L01) (B:j.length<=150000000000000) (hd:A.length<=150000000000000):F.ZA a j A=some (qF a j A):=by
 unfold F.ZA qF
 have J:=E5 a
 have hS:=Ez a
 have G:F.Tp a=some ((Sz a:Nat):Int):=by rcases ha with rfl | rfl | rfl <;> rfl
 have I:(((Sz a:Nat):Int) == 0)=false:=by rcases ha with rfl | rfl | rfl <;> rfl
 rw[G,aa,I,ae (by simp),tP a ha j 92 B,aa,tP a ha j 54 B,aa,lj a ha _ (by simp) (by simp[xO]; omega),aa,
  lj a ha _ (by simp) (by simp[xO,uL]; omega),aa]
 simp
end
def zr (a:Int):Prop:=a=1\/a=2\/a=3
instance (a:Int):Decidable (zr a):=by unfold zr; infer_instance
theorem KW (a b:UInt8):a ||| b=0↔a=0/\b=0:=by
 constructor
 ·intro h
  have j:=da UInt8.toNat h
  rw[UInt8.toNat_or]at j
  have A:a.toNat<=a.toNat ||| b.toNat:=Nat.left_le_or
  have B:b.toNat<=a.toNat ||| b.toNat:=Nat.right_le_or
  have G:(0:UInt8).toNat=0:=rfl
  exact⟨et.1 (by omega),et.1 (by omega)⟩
 ·rintro⟨rfl,rfl⟩; rfl
theorem Ie (a b:UInt8):a ^^^ b=0↔a=b:=by
 constructor
 ·intro h
  have j:(a ^^^ b) ^^^ b=0 ^^^ b:=by rw[h]
  rwa [UInt8.xor_assoc,UInt8.xor_self,UInt8.xor_zero,UInt8.zero_xor]at j
 ·rintro rfl; exact UInt8.xor_self
theorem Ff (x y:L01) (hl:x.length=y.length) (hx:x.length<=1000):∀(r i:Nat) (j:UInt8),i+r=x.length->loop (F.Xk x y) (j,(i:Int))=some (decide (j=0/\x.drop i=y.drop i)):=by
 intro r
 induction r with
 | zero=>
  intro i j h
  refine bI ?_
  unfold F.Xk
  dsimp only
  rw[ae (by simp; omega),bK (by omega),bK (by omega)]
  simp only[bk,bL,and_true]
  congr 2
 | succ r ih=>
  intro i j h
  have hi:i<x.length:=by omega
  have A:i<y.length:=by omega
  have hs:F.Xk x y (j,(i:Int))=some (.inl (j ||| (x[i] ^^^ y[i]),((i+1:Nat):Int))):=by
   unfold F.Xk
   dsimp only
   rw[ag (ai (by omega)),bX hi,aa,bX A,aa,aD (by omega) (by omega)]; rfl
  rw[bp hs,ih (i+1) _ (by omega)]
  congr 1
  rw[fS,KW,Ie,bc hi,bc A,f9,and_assoc]
theorem K7 (x y:L01) (hx:x.length<=1000):F.YT x y=some (decide (x=y)):=by
 unfold F.YT
 by_cases h:x.length=y.length
 ·rw[ae (by simp[h])]
  have:=Ff x y h hx x.length 0 0 (by omega)
  simpa using this
 ·rw[ag (by simpa using (fun j=>h (by omega))),av (fun j=>h (by rw[j]))]
theorem zf (a:Int) (ha:zr a) (s t g:L01) (hs:s.length<=150000000000000) (B:t.length<=150000000000000):F.YO a s t g=some (decide (qF a s t=g)):=by
 unfold F.YO
 have j:F.Tp a=some ((Sz a:Nat):Int):=by rcases ha with rfl | rfl | rfl <;> rfl
 have A:decide ((0:Int)<((Sz a:Nat):Int))=true:=by rcases ha with rfl | rfl | rfl <;> rfl
 have hl:(qF a s t).length<=1000:=by simp only[qF,uL]; exact aZ (Ez a) (by decide)
 rw[j,aa,A,ag rfl,Di a ha s t hs B,aa,K7 _ _ hl,aa]
end Go.Gk.Sh
end
section
namespace Go.Gk
def SM:L01:=[65,66,67,68,69,70,71,72,73,74,75,76,77,78,79,80,81,82,83,84,85,86,87,88,89,90,97,98,99,100,101,102,103,104,105,106,107,108,109,110,111,112,113,114,115,116,117,118,119,120,121,122,48,49,50,51,52,53,54,55,56,57,45,95]
def Rp:L01:=[65,66,67,68,69,70,71,72,73,74,75,76,77,78,79,80,81,82,83,84,85,86,87,88,89,90,97,98,99,100,101,102,103,104,105,106,107,108,109,110,111,112,113,114,115,116,117,118,119,120,121,122,48,49,50,51,52,53,54,55,56,57,43,47]
def sg6 (sg:L01) (n:Nat):UInt8:=sg.getD n 0
theorem Cs (a b:Nat) (ha:a<9223372036854775808) (hb:b<9223372036854775808):rh (a:Int) (b:Int)=((a &&& b:Nat):Int):=by
 unfold rh
 rw[BitVec.ofInt_natCast,BitVec.ofInt_natCast,BitVec.toNat_and,BitVec.toNat_ofNat,BitVec.toNat_ofNat,az (by omega),az (by omega)]
 exact PG _ (du Nat.and_le_left ha)
def num (sg:L01) (c:UInt8):Nat:=sg.findIdx (· == c)
structure SgOk (sg:L01):Prop where
 len:sg.length=64
 inv:∀n,n<64->num sg (sg6 sg n)=n
theorem uC (a n:Nat) (hn:n<=64):jx (a:Int) n=((a / 2^n:Nat):Int):=by
 unfold jx
 rw[bg hn]
 have:((2:Int)^n)=((2^n:Nat):Int):=by simp
 rw[this]
 rw[fQ _ (dv _)]; rfl
section
variable {sg:L01} {std:Bool} (hs:SgOk sg) (hsg:(if std then Rp else SM)=sg) (l:L01) (hg:∀c∈l,c∈sg) (hl:l.length<=225000000000000)
include hs hsg hg hl
end
theorem mO {l:L01} {q:Nat} (h:q<l.length):l.getD q 0=l[q]:=by
 rw[an,aA h]; rfl
section
variable (l:L01) (hl:l.length<=140737488355328) (q x:Nat)
include hl
end
section
variable (l:L01) (hl:l.length<=65536)
include hl
end
section
variable (a b c:L01) (ha:a.length<=140737488355328) (hb:b.length<=140737488355328) (hc:c.length<=140737488355328)
include ha hb hc
end
end Go.Gk
end
section
namespace Go.Gk.Bn
open Go Go.Gk
def val:L00->Nat
 | []=>0
 | x :: l=>x.toNat+4294967296*val l
theorem jz:val []=0:=rfl
theorem gy (x:UInt32) (l:L00):val (x :: l)=x.toNat+4294967296*val l:=rfl
theorem eg (x:UInt32):x.toNat<4294967296:=x.toNat_lt
theorem m0:∀(a b:L00),val (a++b)=val a+4294967296^a.length*val b
 | [],b=>by simp[val]
 | x :: a,b=>by
  rw[dA,gy,m0 a b,gy,ca,bo,aJ,<-d9]
  congr 1
  rw[<-aK,aP 4294967296 (4294967296^a.length)]
theorem cv:∀l:L00,val l<4294967296^l.length
 | []=>by simp[val]
 | x :: l=>by
  have j:=cv l
  have A:=eg x
  rw[gy,ca,bo]
  have:val l+1<=4294967296^l.length:=j
  have:=bj 4294967296 this
  omega
theorem gB (l:L00) (k:Nat) (h:k<=l.length):val l=val (l.take k)+4294967296^k*val (l.drop k):=by
 have:=m0 (l.take k) (l.drop k)
 rw[cD,aN,bg h]at this
 exact this
theorem gC:∀k:Nat,val (List.replicate k 0)=0
 | 0=>rfl
 | k+1=>by rw[List.replicate_succ,gy,gC k]; rfl
theorem mG (l:L00) (x:UInt32):val (l++[x])=val l+4294967296^l.length*x.toNat:=by
 rw[m0,gy,jz]; simp
theorem jw:∀(l:L00) (i:Nat) (x:UInt32),i<l.length->val (l.set i x)+4294967296^i*(l.getD i 0).toNat=val l+4294967296^i*x.toNat
 | [],i,x,h=>by simp at h
 | y :: l,0,x,h=>by simp[val]; omega
 | y :: l,i+1,x,h=>by
  have G:=jw l i x (by simpa using h)
  have j:(y :: l).getD (i+1) 0=l.getD i 0:=by simp
  rw[j,List.set_cons_succ,gy,gy,bo]
  have A:4294967296^i*4294967296*(l.getD i 0).toNat=4294967296*(4294967296^i*(l.getD i 0).toNat):=by rw[Nat.mul_right_comm,aP]
  have B:4294967296^i*4294967296*x.toNat=4294967296*(4294967296^i*x.toNat):=by rw[Nat.mul_right_comm,aP]
  rw[A,B]
  omega
def au (n:Nat):L00:=if h:n=0 then [] else UInt32.ofNat n :: au (n / 4294967296)
termination_by n
decreasing_by exact jv (eF h) (show 1<4294967296 by decide)
theorem cH:au 0=[]:=by rw[au]; simp
theorem ld {n:Nat} (h:n≠0):au n=UInt32.ofNat n :: au (n / 4294967296):=by rw[au]; simp[h]
theorem ay (n:Nat):val (au n)=n:=by
 induction n using Nat.strongRecOn with
 | ind n ih=>
  by_cases h:n=0
  ·subst h; rw[cH]; rfl
  ·rw[ld h,gy,ih _ (jv (eF h) (show 1<4294967296 by decide)),di]
   omega
def Can (l:L00):Prop:=l.getLast?≠some 0
theorem xu:Can []:=by simp[Can]
theorem KG {x:UInt32} {l:L00} (h:Can (x :: l)):Can l:=by
 unfold Can at h ⊢
 cases l with
 | nil=>simp
 | cons y l=>simpa using h
theorem nR:∀l:L00,Can l->au (val l)=l
 | [],_=>cH
 | x :: l,h=>by
  have j:=nR l (KG h)
  have hx:=eg x
  have A:val (x :: l)≠0:=by
   rw[gy]
   intro I
   have B:x.toNat=0:=by omega
   have G:val l=0:=by omega
   rw[G,cH]at j
   subst j
   have:x=0:=cL.1 B
   subst this
   simp[Can]at h
  rw[ld A,gy]
  congr 1
  ·apply cL.1
   rw[di]; omega
  ·rw[show (x.toNat+4294967296*val l) / 4294967296=val l by omega,j]
theorem ym (n:Nat):Can (au n):=by
 induction n using Nat.strongRecOn with
 | ind n ih=>
  by_cases h:n=0
  ·subst h; rw[cH]; exact xu
  ·have j:=ih _ (jv (eF h) (show 1<4294967296 by decide))
   rw[ld h]
   by_cases hd:n / 4294967296=0
   ·rw[hd,cH]
    unfold Can
    simp only[List.getLast?_singleton,ne_eq,eh]
    intro A
    have:=da UInt32.toNat A
    rw[di]at this
    simp at this
    omega
   ·unfold Can at j ⊢
    rw[ld hd]at j ⊢
    simpa using j
theorem OQ {a b:L00} (ha:Can a) (hb:Can b) (h:val a=val b):a=b:=by
 rw[<-nR a ha,<-nR b hb,h]
theorem yc (l:L00) (k:Nat):val (l++List.replicate k 0)=val l:=by rw[m0,gC]; simp
theorem AK {l:L00} {n:Nat} (h:val l=n) (hc:Can l):l=au n:=by rw[<-h,nR l hc]
theorem bv {n k:Nat} (h:n<4294967296^k):(au n).length<=k:=by
 induction k generalizing n with
 | zero=>simp at h; subst h; rw[cH]; simp
 | succ k ih=>
  by_cases h0:n=0
  ·subst h0; rw[cH]; simp
  ·rw[ld h0,ca]
   have:=ih (n:=n / 4294967296) (by rw[bo]at h; exact Nat.div_lt_of_lt_mul (by rwa [aP]at h))
   omega
theorem sn {n k:Nat} (h:4294967296^k<=n):k<(au n).length:=by
 have:=cv (au n)
 rw[ay]at this
 rcases bY k (au n).length with j | j
 ·exact j
 ·have:=ba (show 0<4294967296 by decide) j
  omega
theorem th {a b:L00} (hb:Can b) (h:a.length<b.length):val a<val b:=by
 have G:=cv a
 have j:b≠[]:=by rintro rfl; simp at h
 have hd:b=b.dropLast++[b.getLast j]:=(List.dropLast_concat_getLast j).symm
 have hl:b.getLast j≠0:=fun A=>hb (by rw[List.getLast?_eq_some_getLast j,A])
 have B:1<=(b.getLast j).toNat:=by
  rcases bO (b.getLast j).toNat with A | A
  ·exact absurd (cL.1 A) hl
  ·exact A
 rw[hd,mG,List.length_dropLast]
 have I:=ba (show 0<4294967296 by decide) (show a.length<=b.length - 1 by omega)
 have J:=bj (4294967296^(b.length - 1)) B
 omega
end Go.Gk.Bn
end
section
namespace Go.Gk.Bn
theorem As {g r j A V' h B I K:Nat} (hh:h=g*j+r) (U:I<K)
  (G:4294967296<=g\/r*4294967296+B<g*A) (J:(h*4294967296+B)*K+I<4294967296*((j*4294967296+A)*K+V')) :
  (h*4294967296+B)*K+I<g*((j*4294967296+A)*K+V'):=by
 rcases G with G | G
 ·exact aU J (aT _ G)
 ·have N:h*4294967296+B+1<=g*(j*4294967296+A):=by
   subst hh
   have O:g*(j*4294967296+A)=g*j*4294967296+g*A:=by rw[aJ,<-aK]
   rw[O,aW]
   omega
  have R:(h*4294967296+B+1)*K<=g*(j*4294967296+A)*K:=aT _ N
  rw[aW,cy]at R
  rw[aJ,<-aK]
  omega
theorem Hv {g r j A V' h B G K:Nat} (hh:h=g*j+r) (N:V'<K) (O:1<=j)
  (hg:g<4294967296) (R:g*A<=r*4294967296+B) :
  g*((j*4294967296+A)*K+V')<(h*4294967296+B)*K+G+((j*4294967296+A)*K+V'):=by
 have I:g*(j*4294967296+A)<=h*4294967296+B:=by
  subst hh
  have J:g*(j*4294967296+A)=g*j*4294967296+g*A:=by rw[aJ,<-aK]
  rw[J,aW]
  omega
 have U:g*(j*4294967296+A)*K<=(h*4294967296+B)*K:=aT _ I
 have V:g*V'<=4294967295*V':=aT _ (by omega)
 have X:4294967296*K<=(j*4294967296+A)*K:=aT _ (by omega)
 rw[aJ,<-aK]
 omega
end Go.Gk.Bn
end
section
namespace Go.Gk.Bn
open Go Go.Gk
theorem jB (c:UInt64):c.toUInt32.toNat=c.toNat%4294967296:=UInt64.toNat_toUInt32 c
theorem p8 (c:UInt64):(bb c 32).toNat=c.toNat / 4294967296:=by rw[i6]; rfl
theorem EG (c:UInt64):(bb c 32).toUInt32.toNat=c.toNat / 4294967296:=by
 rw[jB,p8,az]
 have:=c.toNat_lt
 omega
theorem Kf (c:UInt64):(bb c 63).toNat=c.toNat / 9223372036854775808:=by rw[i6]; rfl
theorem c9 (x:UInt32):x.toUInt64.toNat=x.toNat:=UInt32.toNat_toUInt64 x
theorem oB (c:UInt64):c.toNat=c.toUInt32.toNat+4294967296*(bb c 32).toNat:=by rw[jB,p8]; omega
theorem li (a b:UInt64) (h:a.toNat+b.toNat<18446744073709551616):(a+b).toNat=a.toNat+b.toNat:=by rw[fN]; omega
theorem sQ (a b:UInt64) (h:a.toNat*b.toNat<18446744073709551616):(a*b).toNat=a.toNat*b.toNat:=by rw[i7]; omega
theorem mO (x:UInt32):x.toNat<=4294967295:=by have:=eg x; omega
def pad (x:L00) (n:Nat):L00:=x++List.replicate (n - x.length) 0
theorem me {x:L00} {n:Nat} (h:x.length<=n):(pad x n).length=n:=by simp[pad]; omega
theorem xa (n:Nat):pad [] n=List.replicate n 0:=by simp[pad]
theorem sP {x:L00} {n:Nat} (h:x.length<n) (v:UInt32):(pad x n).set x.length v=pad (x++[v]) n:=by
 unfold pad
 rw[dV _ _ (aw _),Nat.sub_self]
 obtain⟨k,j⟩:∃k,n - x.length=k+1:=⟨n - x.length - 1,by omega⟩
 rw[j,List.replicate_succ,iF,aS]
 congr 2
 simp; omega
theorem qm (x:L00) (n:Nat):val (pad x n)=val x:=yc x _
theorem iJ {a:L00} {i:Nat} (h:a.length<=i):a.getD i 0=0:=by
 rw[an,dC h]; rfl
theorem tO {a:L00} {i:Nat} (h:i<a.length):a.take (i+1)=a.take i++[a.getD i 0]:=by
 rw[dR h]
 congr 2
 rw[an,aA h]; rfl
theorem cJ (a:L00) (i:Nat):val (a.take (i+1))=val (a.take i)+4294967296^i*(a.getD i 0).toNat:=by
 by_cases h:i<a.length
 ·rw[tO h,mG,aN,bg (by omega)]
 ·rw[aC (by omega),aC (by omega),iJ (by omega)]; simp
theorem pv {a:L00} {n:Nat} (hn:n<=a.length) (B:∀k,n<=k->a.getD k 0=0) (A:n=0\/a.getD (n - 1) 0≠0):a.take n=au (val a):=by
 have hd:a.drop n=List.replicate (a.length - n) 0:=by
  refine gx (by simp) fun i j G=>?_
  have:=B (n+i) (by omega)
  rw[an,aA (by simp at j; omega)]at this
  rw[List.getElem_drop,List.getElem_replicate]
  exact this
 refine AK ?_ ?_
 ·conv=>rhs; rw[<-cD n a,hd,yc]
 ·unfold Can
  rcases A with rfl | A
  ·simp
  ·intro j
   by_cases h0:n=0
   ·subst h0; simp at j
   ·have hl:(a.take n).length=n:=by simp; omega
    rw[List.getLast?_eq_getElem?,hl,List.getElem?_take_of_lt (by omega)]at j
    rw[an,j]at A
    exact A rfl
theorem xZ {ρ:Type} {f:Int->Option (Int⊕ρ)} (a:L00) (X:Int->Option ρ) (ha:a.length<=4611686018427387904)
  (hf:∀n:Nat,n<=a.length->f (n:Int)=if n≠0/\a.getD (n - 1) 0=0 then some (.inl ((n - 1:Nat):Int)) else bk (X (n:Int))) :
  ∃n,n<=a.length/\a.take n=au (val a)/\loop f (a.length:Int)=X (n:Int):=by
 have A:∀n:Nat,n<=a.length->(∀k,n<=k->a.getD k 0=0)->∃m,m<=a.length/\a.take m=au (val a)/\loop f (n:Int)=X (m:Int):=by
  intro n
  induction n with
  | zero=>
   intro hn hz
   refine⟨0,hn,pv hn hz (.inl rfl),?_⟩
   have:=hf 0 hn
   rw[ae (by simp)]at this
   rw[nD,this]
   cases X ((0:Nat):Int) <;> rfl
  | succ n ih=>
   intro hn hz
   have h:=hf (n+1) hn
   rw[eG]at h
   by_cases h0:a.getD n 0=0
   ·rw[ag ⟨by omega,h0⟩]at h
    obtain⟨m,B,G,I⟩:=ih (by omega) fun k j=>by
     rcases Nat.eq_or_lt_of_le j with rfl | j
     ·exact h0
     ·exact hz k j
    exact⟨m,B,G,(bp h).trans I⟩
   ·rw[ae (fun hc=>h0 hc.2)]at h
    refine⟨n+1,hn,pv hn hz (.inr (by simpa using h0)),?_⟩
    rw[nD,h]
    cases X ((n+1:Nat):Int) <;> rfl
 exact A a.length (aw _) fun k j=>iJ j
end Go.Gk.Bn
end
section
namespace Go.Gk.Bn
open Go Go.Gk Go.Gk.Sh
theorem lI (a:L00) (ha:a.length<=4611686018427387904):F.S8 a=some (au (val a)):=by
 unfold F.S8
 obtain⟨n,hn,A,hl⟩:=xZ (f:=F.ZX a) a (fun j=>grd (0<=(j:Int)/\(j:Int).toNat<=a.length) <| some (a.take ((j:Int).toNat))) ha (fun n hn=>by
  unfold F.ZX F.aa0
  by_cases h0:n=0
  ·subst h0
   rw[ae (by simp),ae (by simp)]
   rfl
  ·have B:wI ((n:Int) - 1)=((n - 1:Nat):Int):=by rw[aD (by omega) (by omega)]; omega
   rw[ag (ai (by omega)),B,bh (show n - 1<a.length by omega) 0,aa]
   by_cases hz:a.getD (n - 1) 0=0
   ·rw[ag (show n≠0/\a.getD (n - 1) 0=0 from⟨h0,hz⟩),ag (show (a.getD (n - 1) 0 == 0)=true from by rw[hz]; rfl)]; rfl
   ·rw[ae (show ¬(n≠0/\a.getD (n - 1) 0=0) from fun h=>hz h.2),ae (show ¬(a.getD (n - 1) 0 == 0)=true from fun h=>hz (eq_of_beq h))])
 rw[hl,grd_true _ ⟨by omega,by rw[aq]; exact hn⟩,aq,A]
theorem nA (x:UInt64):F.Ug x=some (au x.toNat):=by
 unfold F.Ug
 rw[lI _ (by simp),aa,gy,gy,jz,cp,br,EG,<-p8,<-oB]
theorem qN {x:L00} {n i:Nat} (hx:x.length<=n) (h:i<n):∃u,ax (pad x n) (i:Int)=some u:=⟨_,bh (by rw[me hx]; exact h) 0⟩
def nu (a b:L00) (x:L00×UInt64) (i:Nat):L00×UInt64:=
 (x.1++[(x.2+(a.getD i 0).toUInt64+(b.getD i 0).toUInt64).toUInt32],bb (x.2+(a.getD i 0).toUInt64+(b.getD i 0).toUInt64) 32)
theorem qE {a b:L00} {x:L00×UInt64} {i:Nat} (j:x.1.length=i) (B:val x.1+4294967296^i*x.2.toNat=val (a.take i)+val (b.take i)) (G:x.2.toNat<=1) :
  (nu a b x i).1.length=i+1/\val (nu a b x i).1+4294967296^(i+1)*(nu a b x i).2.toNat=val (a.take (i+1))+val (b.take (i+1))/\(nu a b x i).2.toNat<=1:=by
 have ha:=eg (a.getD i 0); have hb:=eg (b.getD i 0)
 obtain⟨s,hs⟩:∃s,x.2+(a.getD i 0).toUInt64+(b.getD i 0).toUInt64=s:=⟨_,rfl⟩
 have A:s.toNat=x.2.toNat+(a.getD i 0).toNat+(b.getD i 0).toNat:=by
  rw[<-hs,li _ _ (by rw[li _ _ (by rw[c9]; omega),c9,c9]; omega),li _ _ (by rw[c9]; omega),c9,c9]
 unfold nu
 rw[hs]
 refine⟨by simp[j],?_,by simp only[p8]; omega⟩
 have e:=oB s
 simp only
 rw[mG,j,cJ,cJ,bo,aK]
 have:4294967296^i*s.toNat=4294967296^i*s.toUInt32.toNat+4294967296^i*(4294967296*(bb s 32).toNat):=by rw[<-aJ,<-e]
 rw[A,aJ,aJ]at this
 omega
theorem Ja (a b:L00) (G:b.length<=a.length) (ha:a.length<=70368744177663):loop (F.WK a b) (0,0,pad [] (a.length+1))=some (au (val a+val b)):=by
 have e:=eY (f:=F.WK a b) (fun (x:L00×UInt64) i=>(x.2,(i:Int),pad x.1 (a.length+1)))
  (fun i x=>x.1.length=i/\val x.1+4294967296^i*x.2.toNat=val (a.take i)+val (b.take i)/\x.2.toNat<=1) (nu a b) 0 a.length
  (X:=fun x=>F.S8 ((pad x.1 (a.length+1)).set a.length x.2.toUInt32))
  (fun i x _ hi hx=>by
   obtain⟨j,A,B⟩:=hx
   refine⟨?_,qE j A B⟩
   have I:wI ((i:Int)+1)=((i+1:Nat):Int):=by rw[aD (by omega) (by omega)]; rfl
   obtain⟨u,hu⟩:=qN (x:=x.1) (n:=a.length+1) (i:=i) (by omega) (by omega)
   have hK:∀s:UInt64,s=x.2+(a.getD i 0).toUInt64+(b.getD i 0).toUInt64->F.XZ (i:Int) (pad x.1 (a.length+1)) s=some (.inl ((nu a b x i).2,((i+1:Nat):Int),pad (nu a b x i).1 (a.length+1))):=by
    rintro s rfl
    unfold F.XZ
    dsimp only
    rw[hu,aa,aG,I,aq]
    have:=sP (x:=x.1) (n:=a.length+1) (by omega) (x.2+(a.getD i 0).toUInt64+(b.getD i 0).toUInt64).toUInt32
    rw[j]at this
    rw[this]; rfl
   unfold F.WK
   dsimp only
   rw[ag (ai (by omega)),bh hi 0,aa]
   by_cases hb:i<b.length
   ·rw[ag (ai (by omega)),bh hb 0,aa,aG,hK _ rfl]
   ·rw[ae (by simp only[ak]; omega),hK _ (by rw[iJ (a:=b) (i:=i) (by omega)]; exact (UInt64.add_zero _).symm)])
  (fun x hx=>by
   obtain⟨u,hu⟩:=qN (x:=x.1) (n:=a.length+1) (i:=a.length) (by omega) (by omega)
   unfold F.WK
   dsimp only
   rw[ae (by simp),hu,aa,aG,aq]
   cases F.S8 ((pad x.1 (a.length+1)).set a.length x.2.toUInt32) <;> rfl)
  a.length 0 ([],0) (aw _) (by omega) ⟨rfl,by simp[val],by simp⟩
 refine e.trans ?_
 obtain⟨j,A,B⟩:=fH (fun i (x:L00×UInt64)=>x.1.length=i/\val x.1+4294967296^i*x.2.toNat=val (a.take i)+val (b.take i)/\x.2.toNat<=1) (nu a b)
  (fun i x hx=>qE hx.1 hx.2.1 hx.2.2) a.length 0 ([],0) ⟨rfl,by simp[val],by simp⟩
 obtain⟨y,hy⟩:∃y,(List.range' 0 a.length).foldl (nu a b) ([],0)=y:=⟨_,rfl⟩
 rw[hy]at j A B ⊢
 rw[bm]at j A
 rw[cO,aC G]at A
 have hp:=sP (x:=y.1) (n:=a.length+1) (by omega) y.2.toUInt32
 rw[j]at hp
 rw[hp,lI _ (by rw[me (by simp; omega)]; omega),qm,mG,j,jB,az (by omega),A]
theorem vt (a b:L00) (ha:a.length<=70368744177663) (hb:b.length<=70368744177663):F.Vz a b=some (au (val a+val b)):=by
 have hK:∀a b:L00,b.length<=a.length->a.length<=70368744177663->F.X7 (a,b)=some (au (val a+val b)):=by
  intro a b j A
  unfold F.X7
  dsimp only
  rw[aD (by omega) (by omega),iG (by omega),aa]
  have:(((a.length:Int)+1).toNat)=a.length+1:=by omega
  rw[this,<-xa,Ja a b j A]
 unfold F.Vz
 by_cases h:a.length<b.length
 ·rw[ag (ai (by omega)),hK b a (by omega) hb,cw]
 ·rw[ae (by simp only[ak]; omega),hK a b (by omega) ha]
theorem I2 (u v:UInt32) (c:UInt64) (hc:c.toNat<=1):((u.toUInt64 - c) - v.toUInt64).toUInt32.toNat+c.toNat+v.toNat=u.toNat+4294967296*(bb ((u.toUInt64 - c) - v.toUInt64) 63).toNat/\(bb ((u.toUInt64 - c) - v.toUInt64) 63).toNat<=1:=by
 have hu:=eg u; have j:=eg v
 rw[jB,Kf,ft,ft,c9,c9]
 omega
def mM (a b:L00) (x:L00×UInt64) (i:Nat):L00×UInt64:=
 (x.1++[((a.getD i 0).toUInt64 - x.2 - (b.getD i 0).toUInt64).toUInt32],bb ((a.getD i 0).toUInt64 - x.2 - (b.getD i 0).toUInt64) 63)
theorem A0 {a b:L00} {x:L00×UInt64} {i:Nat} (j:x.1.length=i) (I:val x.1+val (b.take i)=val (a.take i)+4294967296^i*x.2.toNat) (G:x.2.toNat<=1) :
  (mM a b x i).1.length=i+1/\val (mM a b x i).1+val (b.take (i+1))=val (a.take (i+1))+4294967296^(i+1)*(mM a b x i).2.toNat/\(mM a b x i).2.toNat<=1:=by
 obtain⟨A,B⟩:=I2 (a.getD i 0) (b.getD i 0) x.2 G
 unfold mM
 obtain⟨s,hs⟩:∃s,(a.getD i 0).toUInt64 - x.2 - (b.getD i 0).toUInt64=s:=⟨_,rfl⟩
 rw[hs]at A B ⊢
 refine⟨by simp[j],?_,B⟩
 simp only
 rw[mG,j,cJ,cJ,bo,aK]
 have:4294967296^i*(s.toUInt32.toNat+x.2.toNat+(b.getD i 0).toNat)=4294967296^i*((a.getD i 0).toNat+4294967296*(bb s 63).toNat):=by rw[A]
 rw[aJ,aJ,aJ]at this
 omega
theorem Cz (a b:L00) (G:b.length<=a.length) (N:val b<=val a) (ha:a.length<=70368744177664):F.Vv a b=some (au (val a - val b)):=by
 unfold F.Vv
 rw[iG (by omega),aa,aq,<-xa]
 have e:=eY (f:=F.Zp a b) (fun (x:L00×UInt64) i=>(x.2,(i:Int),pad x.1 a.length))
  (fun i x=>x.1.length=i/\val x.1+val (b.take i)=val (a.take i)+4294967296^i*x.2.toNat/\x.2.toNat<=1) (mM a b) 0 a.length
  (X:=fun x=>F.S8 (pad x.1 a.length))
  (fun i x _ hi hx=>by
   obtain⟨A,j,B⟩:=hx
   refine⟨?_,A0 A j B⟩
   have J:wI ((i:Int)+1)=((i+1:Nat):Int):=by rw[aD (by omega) (by omega)]; rfl
   obtain⟨u,hu⟩:=qN (x:=x.1) (n:=a.length) (i:=i) (by omega) (by omega)
   have hK:∀s:UInt64,s=(a.getD i 0).toUInt64 - x.2 - (b.getD i 0).toUInt64->F.XH (i:Int) (pad x.1 a.length) s=some (.inl ((mM a b x i).2,((i+1:Nat):Int),pad (mM a b x i).1 a.length)):=by
    rintro s rfl
    unfold F.XH
    dsimp only
    rw[hu,aa,aG,J,aq]
    have:=sP (x:=x.1) (n:=a.length) (by omega) ((a.getD i 0).toUInt64 - x.2 - (b.getD i 0).toUInt64).toUInt32
    rw[A]at this
    rw[this]; rfl
   unfold F.Zp
   dsimp only
   rw[ag (ai (by omega)),bh hi 0,aa]
   by_cases hb:i<b.length
   ·rw[ag (ai (by omega)),bh hb 0,aa,aG,hK _ rfl]
   ·rw[ae (by simp only[ak]; omega),hK _ (by rw[iJ (a:=b) (i:=i) (by omega)]; exact (UInt64.sub_zero _).symm)])
  (fun x hx=>by
   unfold F.Zp
   dsimp only
   rw[ae (by simp)]
   cases F.S8 (pad x.1 a.length) <;> rfl)
  a.length 0 ([],0) (aw _) (by omega) ⟨rfl,by simp[val],by simp⟩
 refine e.trans ?_
 obtain⟨A,j,B⟩:=fH (fun i (x:L00×UInt64)=>x.1.length=i/\val x.1+val (b.take i)=val (a.take i)+4294967296^i*x.2.toNat/\x.2.toNat<=1) (mM a b)
  (fun i x hx=>A0 hx.1 hx.2.1 hx.2.2) a.length 0 ([],0) ⟨rfl,by simp[val],by simp⟩
 obtain⟨y,hy⟩:∃y,(List.range' 0 a.length).foldl (mM a b) ([],0)=y:=⟨_,rfl⟩
 rw[hy]at A j B ⊢
 rw[bm]at A j
 rw[cO,aC G]at j
 have I:=cv y.1
 rw[A]at I
 have hc:y.2.toNat=0:=by
  rcases bO y.2.toNat with h | h
  ·exact h
  ·have:y.2.toNat=1:=by omega
   rw[this,cE]at j
   omega
 rw[hc,cp,br]at j
 rw[lI _ (by rw[me (by omega)]; omega),qm,show val y.1=val a - val b by omega]
theorem G3 (a b:UInt32):a.toNat*b.toNat<=4294967295*4294967295:=eb (mO a) (mO b)
theorem IZ (c:UInt64) (u v r:UInt32) (hc:c.toNat<=4294967295):(c+(u.toUInt64*v.toUInt64+r.toUInt64)).toNat=c.toNat+(u.toNat*v.toNat+r.toNat):=by
 have B:=G3 u v; have G:=mO r
 have j:(u.toUInt64*v.toUInt64).toNat=u.toNat*v.toNat:=by rw[sQ _ _ (by rw[c9,c9]; omega),c9,c9]
 have A:(u.toUInt64*v.toUInt64+r.toUInt64).toNat=u.toNat*v.toNat+r.toNat:=by rw[li _ _ (by rw[j,c9]; omega),j,c9]
 rw[li _ _ (by rw[A]; omega),A]
theorem ij {l:L00} {i k:Nat} {x:UInt32} (h:i≠k):(l.set i x).getD k 0=l.getD k 0:=by
 rw[an,List.getElem?_set_ne h,an]
def Bx (u:UInt32) (b:L00) (i:Nat) (x:UInt64×L00) (j:Nat):UInt64×L00:=
 (bb (x.1+(u.toUInt64*(b.getD j 0).toUInt64+(x.2.getD (i+j) 0).toUInt64)) 32,x.2.set (i+j) (x.1+(u.toUInt64*(b.getD j 0).toUInt64+(x.2.getD (i+j) 0).toUInt64)).toUInt32)
def zQ (u:UInt32) (b:L00) (i N:Nat) (r0:L00) (j:Nat) (x:UInt64×L00):Prop:=
 x.2.length=N/\(∀k,i+b.length<=k->x.2.getD k 0=0)/\val x.2+4294967296^(i+j)*x.1.toNat=val r0+4294967296^i*(u.toNat*val (b.take j))/\x.1.toNat<=4294967295
theorem AI {u:UInt32} {b:L00} {i N:Nat} {A:L00} {j:Nat} {x:UInt64×L00} (V:i+b.length<N) (X:j<b.length) (h:zQ u b i N A j x):zQ u b i N A (j+1) (Bx u b i x j):=by
 obtain⟨G,I,Y,J⟩:=h
 have e:=IZ x.1 u (b.getD j 0) (x.2.getD (i+j) 0) J
 unfold Bx
 obtain⟨s,hs⟩:∃s,x.1+(u.toUInt64*(b.getD j 0).toUInt64+(x.2.getD (i+j) 0).toUInt64)=s:=⟨_,rfl⟩
 rw[hs]at e ⊢
 have B:=oB s
 have hb:=G3 u (b.getD j 0); have Z:=mO (x.2.getD (i+j) 0)
 refine⟨by simpa using G,fun k O=>?_,?_,by simp only[p8]; omega⟩
 ·simp only
  rw[ij (by omega)]; exact I k O
 ·simp only
  have hv:=jw x.2 (i+j) s.toUInt32 (by omega)
  rw[cJ,aJ,aJ]
  have R:4294967296^i*(u.toNat*(4294967296^j*(b.getD j 0).toNat))=4294967296^(i+j)*(u.toNat*(b.getD j 0).toNat):=by
   rw[bS,aK,dD u.toNat]
  have U:4294967296^(i+j)*s.toNat=4294967296^(i+j)*s.toUInt32.toNat+4294967296^(i+(j+1))*(bb s 32).toNat:=by
   rw[<-d9,bo,aK,<-aJ,<-B]
  rw[e,aJ,aJ]at U
  rw[R]
  omega
theorem Hf (a b:L00) (i:Nat) (r:L00) (hi:i<a.length) (hl:r.length=a.length+b.length) (hz:∀k,i+b.length<=k->r.getD k 0=0) (hs:a.length+b.length<=70368744177664) :
  ∃A,loop (F.Wo a b (i:Int)) (0,0,r)=some (.inl (((i+1:Nat):Int),A))/\A.length=a.length+b.length/\(∀k,i+1+b.length<=k->A.getD k 0=0)/\val A=val r+4294967296^i*((a.getD i 0).toNat*val b):=by
 have U:zQ (a.getD i 0) b i (a.length+b.length) r 0 (0,r):=⟨hl,hz,by simp[val],by simp⟩
 have e:=eY (f:=F.Wo a b (i:Int)) (fun (x:UInt64×L00) j=>(x.1,(j:Int),x.2)) (fun j x=>j<=b.length->zQ (a.getD i 0) b i (a.length+b.length) r j x) (Bx (a.getD i 0) b i) 0 b.length
  (X:=fun x=>some (.inl (((i+1:Nat):Int),x.2.set (i+b.length) x.1.toUInt32)))
  (fun j x _ I hx=>by
   have hx:=hx (by omega)
   refine⟨?_,fun _=>AI (by omega) I hx⟩
   obtain⟨J,B,G,V⟩:=hx
   have N:wI ((i:Int)+(j:Int))=((i+j:Nat):Int):=by rw[aD (by omega) (by omega)]; rfl
   have w2:wI ((j:Int)+1)=((j+1:Nat):Int):=by rw[aD (by omega) (by omega)]; rfl
   unfold F.Wo
   dsimp only
   rw[ag (ai (by omega)),bh hi 0,aa,bh I 0,aa,N,bh (show i+j<x.2.length by omega) 0,aa,aG,aa,aG,aq,w2]
   rfl)
  (fun x hx=>by
   obtain⟨J,B,G,V⟩:=hx (aw _)
   have N:wI ((i:Int)+(b.length:Int))=((i+b.length:Nat):Int):=by rw[aD (by omega) (by omega)]; rfl
   have w2:wI ((i:Int)+1)=((i+1:Nat):Int):=by rw[aD (by omega) (by omega)]; rfl
   unfold F.Wo
   dsimp only
   rw[ae (by simp),N,bh (show i+b.length<x.2.length by omega) 0,aa,aG,aq,w2]
   rfl)
  b.length 0 (0,r) (aw _) (by omega) (fun _=>U)
 have O:=fH (fun j (x:UInt64×L00)=>j<=b.length->zQ (a.getD i 0) b i (a.length+b.length) r j x) (Bx (a.getD i 0) b i) (fun j x hx=>fun I=>AI (by omega) (by omega) (hx (by omega))) b.length 0 (0,r) (fun _=>U)
 obtain⟨y,hy⟩:∃y,(List.range' 0 b.length).foldl (Bx (a.getD i 0) b i) (0,r)=y:=⟨_,rfl⟩
 rw[hy]at O e
 rw[bm]at O
 obtain⟨J,B,G,V⟩:=O (aw _)
 refine⟨_,e,by simpa using J,fun k Y=>?_,?_⟩
 ·rw[ij (by omega)]; exact B k (by omega)
 ·have R:=jw y.2 (i+b.length) y.1.toUInt32 (by omega)
  rw[B _ (aw _)]at R
  have:(0:UInt32).toNat=0:=rfl
  rw[this,cp,br]at R
  rw[cO]at G
  rw[R,jB,az (by omega),G]
theorem Ix (a b:L00) (hs:a.length+b.length<=70368744177664):F.WQ a b=some (au (val a*val b)):=by
 unfold F.WQ
 have j:F.WN a b true=some []:=by unfold F.WN; rw[ag rfl]
 by_cases ha:a.length=0
 ·rw[ag (by simp[ha]),j,bn ha,jz,fv,cH]
 ·rw[ae (by simpa using fun h=>ha (by rw[h]; rfl))]
  by_cases hb:b.length=0
  ·rw[show ((b.length:Int) == 0)=true by simp[hb],j,bn hb,jz,cp,cH]
  ·rw[show ((b.length:Int) == 0)=false by simpa using fun h=>hb (by rw[h]; rfl)]
   unfold F.WN
   rw[ae (by decide),aD (by omega) (by omega),iG (by omega),aa,show ((a.length:Int)+(b.length:Int)).toNat=a.length+b.length by omega]
   have B:∀(k i:Nat) (r:L00),i+k=a.length->r.length=a.length+b.length->(∀k,i+b.length<=k->r.getD k 0=0)->val r=val (a.take i)*val b->loop (F.Wp a b) ((i:Int),r)=some (au (val a*val b)):=by
    intro k
    induction k with
    | zero=>
     intro i r h G I A
     have:i=a.length:=by omega
     subst this
     refine bI ?_
     unfold F.Wp
     dsimp only
     rw[ae (by simp),lI _ (by omega),aa,A,cO]; rfl
    | succ k ih=>
     intro i r h G I A
     obtain⟨J,O,R,U,V⟩:=Hf a b i r (by omega) G I hs
     have N:F.Wp a b ((i:Int),r)=some (.inl (((i+1:Nat):Int),J)):=by
      unfold F.Wp
      dsimp only
      rw[ag (ai (by omega)),O]
     rw[bp N]
     refine ih (i+1) J (by omega) R (fun k X=>U k (by omega)) ?_
     rw[V,A,cJ,aW,aK]
   exact B a.length 0 _ (by omega) (by simp) (fun k _=>by
    rw[an,gm]; split <;> rfl) (by rw[gC]; simp[val])
def eA (a b:Nat):Int:=if a<b then -1 else if a=b then 0 else 1
theorem rI (a:L00) (k:Nat) (h:k<a.length):val a=val (a.take k)+4294967296^k*((a.getD k 0).toNat+4294967296*val (a.drop (k+1))):=by
 rw[gB a k (by omega),bc h,gy]
 congr 4
 rw[an,aA h]; rfl
theorem xX {a b:L00} {k:Nat} (ha:k<a.length) (hb:k<b.length) (hd:a.drop (k+1)=b.drop (k+1)) (B:(a.getD k 0).toNat<(b.getD k 0).toNat):val a<val b:=by
 rw[rI a k ha,rI b k hb,hd]
 have j:=cv (a.take k)
 rw[aN,bg (by omega)]at j
 have A:4294967296^k*((a.getD k 0).toNat+4294967296*val (b.drop (k+1))+1)<=4294967296^k*((b.getD k 0).toNat+4294967296*val (b.drop (k+1))):=bj _ (by omega)
 rw[aJ,cE]at A
 omega
theorem uV (a b:L00) (ha:Can a) (hb:Can b) (hl:a.length<=4611686018427387904) (N:b.length<=4611686018427387904):F.Va a b=some (eA (val a) (val b)):=by
 unfold F.Va eA
 by_cases h:a.length=b.length
 ·rw[ae (by simp[h]),aG]
  have A:∀k,k<=a.length->a.drop k=b.drop k->loop (F.VO a b) ((k:Int) - 1)=some (if val a<val b then -1 else if val a=val b then 0 else 1):=by
   intro k
   induction k with
   | zero=>
    intro _ hd
    have:a=b:=by simpa using hd
    subst this
    rw[ae (by omega),ag rfl]
    exact bI rfl
   | succ k ih=>
    intro O hd
    have j:k<b.length:=by omega
    have G:(((k+1:Nat):Int)) - 1=(k:Int):=by omega
    have I:wI ((k:Int) - 1)=(k:Int) - 1:=aD (by omega) (by omega)
    rw[G]
    by_cases he:a.getD k 0=b.getD k 0
    ·have hs:F.VO a b (k:Int)=some (.inl ((k:Int) - 1)):=by
      unfold F.VO
      rw[ag (ai (by omega)),bh (show k<a.length by omega) 0,aa,bh j 0,aa,ae (by simp only[he,dn]; simp),I]; rfl
     rw[bp hs]
     refine ih (by omega) ?_
     rw[bc (show k<a.length by omega),bc j,hd]
     congr 1
     rw[an,an,aA (show k<a.length by omega),aA j]at he
     exact he
    ·have hs:F.VO a b (k:Int)=if decide (a.getD k 0<b.getD k 0)=true then some (.inr (-1)) else some (.inr 1):=by
      unfold F.VO
      rw[ag (ai (by omega)),bh (show k<a.length by omega) 0,aa,bh j 0,aa,ag (by simpa using he),aa,aa]
      split <;> rfl
     by_cases hlt:a.getD k 0<b.getD k 0
     ·rw[ag (ai hlt)]at hs
      rw[bI hs,ag (xX (by omega) j hd (dt.1 hlt))]
     ·rw[ae (by simpa using hlt)]at hs
      have B:(b.getD k 0).toNat<(a.getD k 0).toNat:=by
       have R:¬(a.getD k 0).toNat<(b.getD k 0).toNat:=fun h=>hlt (dt.2 h)
       have J:(a.getD k 0).toNat≠(b.getD k 0).toNat:=fun h=>he (cL.1 h)
       omega
      have:=xX j (show k<a.length by omega) hd.symm B
      rw[bI hs,ae (by omega),ae (by omega)]
  have w0:wI ((a.length:Int) - 1)=(a.length:Int) - 1:=aD (by omega) (by omega)
  rw[w0]
  exact A a.length (aw _) (by rw[eJ,bK (by omega)])
 ·rw[ag (by simpa using fun J=>h (by omega))]
  by_cases hlt:a.length<b.length
  ·rw[ag (ai (by omega)),ag (th hb hlt)]
  ·have:=th ha (show b.length<a.length by omega)
   rw[ae (by simp only[ak]; omega),ae (by omega),ae (by omega)]
theorem BQ (x:UInt64) (y:UInt32) (hx:x.toNat<=4294967295):((cV x 32) ||| y.toUInt64).toNat=4294967296*x.toNat+y.toNat:=by
 have hy:=eg y
 have j:(cV x 32).toNat=x.toNat*4294967296:=by
  rw[kM,show min 32 64=32 from rfl,az (by omega)]
 rw[jt,j,c9,sq 32 (by omega) hy]
 omega
theorem vg (x:UInt32) (y:UInt32):(x.toUInt64 ||| (cV y.toUInt64 32)).toNat=x.toNat+4294967296*y.toNat:=by
 have hx:=eg x; have hy:=eg y
 rw[UInt64.or_comm,BQ _ _ (by rw[c9]; omega),c9]; omega
theorem Ba (a:L00) (h:a.length<=2):∃x,F.V9 a=some x/\x.toNat=val a:=by
 unfold F.V9
 match a,h with
 | [],_=>exact⟨0,rfl,rfl⟩
 | [u],_=>exact⟨u.toUInt64,rfl,by rw[c9]; simp[val]⟩
 | [u,v],_=>exact⟨u.toUInt64 ||| (cV v.toUInt64 32),rfl,by rw[vg]; simp[val]⟩
theorem JR (a:L00) (d:UInt32) (hd:d≠0) (hl:a.length<=70368744177664):∃r,F.Yo a d=some (au (val a / d.toNat),r)/\r.toNat=val a%d.toNat:=by
 have j:0<d.toNat:=by
  rcases bO d.toNat with h | h
  ·exact absurd (cL.1 h) hd
  ·exact h
 have ad:=eg d
 have B:¬d.toUInt64=0:=by
  intro h
  have:=da UInt64.toNat h
  rw[c9]at this
  simp at this
  omega
 have J:∀(k:Nat) (q:L00) (r:UInt64),k<=a.length->q.length=a.length->r.toNat<d.toNat->val (a.drop k)=d.toNat*val (q.drop k)+r.toNat ->
   ∃N,loop (F.W8 a d) (r,(k:Int) - 1,q)=some (au (val a / d.toNat),N)/\N.toNat=val a%d.toNat:=by
  intro k
  induction k with
  | zero=>
   intro q r _ O I A
   refine⟨r.toUInt32,bI ?_,?_⟩
   ·unfold F.W8
    dsimp only
    rw[ae (by decide),lI _ (by omega),aa]
    simp only[dP]at A
    have:val q=val a / d.toNat:=by
     rw[A,cw,gV _ _ j,cT I,bm]
    rw[this]; rfl
   ·simp only[dP]at A
    rw[jB,az (by omega),A,Nat.mul_add_mod,az I]
  | succ k ih=>
   intro q r hk O I A
   have e1:(((k+1:Nat):Int)) - 1=(k:Int):=by omega
   have w1:wI ((k:Int) - 1)=(k:Int) - 1:=aD (by omega) (by omega)
   have R:r.toNat<=4294967295:=by omega
   obtain⟨x,hx⟩:∃x,(cV r 32) ||| (a.getD k 0).toUInt64=x:=⟨_,rfl⟩
   have U:x.toNat=4294967296*r.toNat+(a.getD k 0).toNat:=by rw[<-hx,BQ _ _ R]
   have V:(x / d.toUInt64).toNat=x.toNat / d.toNat:=by rw[fp,c9]
   have G:(x%d.toUInt64).toNat=x.toNat%d.toNat:=by rw[dh,c9]
   have al:=eg (a.getD k 0)
   have X:x.toNat / d.toNat<4294967296:=by
    rw[fo j,U]
    have:=bj 4294967296 (show r.toNat+1<=d.toNat by omega)
    omega
   have hs:F.W8 a d (r,(k:Int),q)=some (.inl (x%d.toUInt64,(k:Int) - 1,q.set k (x / d.toUInt64).toUInt32)):=by
    unfold F.W8
    dsimp only
    rw[ag (ai (by omega)),bh (show k<a.length by omega) 0,aa,hx,aG,grd_true _ B,bh (show k<q.length by omega) 0,aa,aG,grd_true _ B,w1]; rfl
   rw[e1,bp hs]
   refine ih _ _ (by omega) (by simpa using O) (by rw[G]; exact bG _ j) ?_
   have Y:a.drop k=a.getD k 0 :: a.drop (k+1):=by
    rw[bc (show k<a.length by omega)]
    congr 1
    rw[an,aA (show k<a.length by omega)]; rfl
   have Z:(q.set k (x / d.toUInt64).toUInt32).drop k=(x / d.toUInt64).toUInt32 :: q.drop (k+1):=by
    rw[bc (by simp; omega)]
    congr 1
    ·simp
    ·rw[List.drop_set_of_lt (by omega)]
   rw[Y,Z,gy,gy,A,jB,V,G,az X]
   have:=c7 x.toNat d.toNat
   rw[aJ,aJ,dD d.toNat 4294967296]
   omega
 unfold F.Yo
 have w0:wI ((a.length:Int) - 1)=(a.length:Int) - 1:=aD (by omega) (by omega)
 rw[iG (by omega),aa,aG,w0]
 refine J a.length _ 0 (aw _) (by simp) (by simpa using j) ?_
 rw[eJ,bK (by simp)]
 simp[val]
def nb (n:Nat):Nat:=if h:n=0 then 0 else nb (n / 2)+1
termination_by n
decreasing_by exact jv (eF h) (show 1<2 by decide)
theorem kU:nb 0=0:=by rw[nb]; simp
theorem vW {n:Nat} (h:n≠0):nb n=nb (n / 2)+1:=by rw[nb]; simp[h]
theorem gp (n:Nat):n<2^nb n/\(n≠0->2^(nb n - 1)<=n/\1<=nb n):=by
 induction n using Nat.strongRecOn with
 | ind n ih=>
  by_cases h:n=0
  ·subst h; rw[kU]; simp
  ·obtain⟨A,j⟩:=ih (n / 2) (jv (eF h) (by decide))
   rw[vW h]
   refine⟨by rw[bo]; omega,fun _=>⟨?_,by omega⟩⟩
   rw[eG]
   by_cases h3:n / 2=0
   ·rw[h3,kU]; omega
   ·obtain⟨B,G⟩:=j h3
    have:2^nb (n / 2)=2^(nb (n / 2) - 1)*2:=by rw[<-bo]; congr 1; omega
    omega
theorem lL {n k:Nat} (h:n<2^k):nb n<=k:=by
 by_cases h0:n=0
 ·subst h0; rw[kU]; omega
 ·obtain⟨A,B⟩:=(gp n).2 h0
  rcases bY k (nb n) with j | j
  ·have:=ba (show 0<2 by decide) (show k<=nb n - 1 by omega)
   omega
  ·exact j
theorem Jg (x:UInt32):nb x.toNat<=32:=lL (eg x)
theorem R2 (x:UInt32):(dB x 1).toNat=x.toNat / 2:=by rw[lJ]; rfl
theorem C9 (a:L00) (G:a.length≠0) (ha:a.length<=1000000000000000):∀(m:Nat) (t:UInt32) (n:Nat),nb t.toNat=m->n+m<=32->loop (F.Wt a) ((n:Int),t)=some (((32*(a.length - 1)+n+m:Nat):Int)):=by
 intro m
 induction m with
 | zero=>
  intro t n h hn
  have j:t.toNat=0:=by
   rcases bO t.toNat with j | j
   ·exact j
   ·rw[vW (by omega)]at h; omega
  have:t=0:=cL.1 j
  subst this
  refine bI ?_
  unfold F.Wt
  dsimp only
  rw[ae (by decide),aD (x:=(a.length:Int) - 1) (by omega) (by omega),aD (x:=((a.length:Int) - 1)*32) (by omega) (by omega),aD (by omega) (by omega)]
  show some _=_
  congr 2
  omega
 | succ m ih=>
  intro t n h hn
  have j:t.toNat≠0:=by intro j; rw[j,kU]at h; omega
  have A:t≠0:=fun B=>j (by rw[B]; rfl)
  rw[vW j]at h
  have hs:F.Wt a ((n:Int),t)=some (.inl (((n+1:Nat):Int),dB t 1)):=by
   unfold F.Wt
   dsimp only
   rw[ag (by simpa using A),aD (by omega) (by omega)]; rfl
  rw[bp hs,ih (dB t 1) (n+1) (by rw[R2]; omega) (by omega)]
  congr 2; omega
def nK (a:L00):Nat:=if a.length=0 then 0 else 32*(a.length - 1)+nb (a.getD (a.length - 1) 0).toNat
theorem length_eq (a:L00) (ha:a.length<=1000000000000000):F.VR a=some ((nK a:Nat):Int):=by
 unfold F.VR nK
 by_cases h0:a.length=0
 ·rw[ag (by simp[h0]),ag h0]; rfl
 ·have j:wI ((a.length:Int) - 1)=((a.length - 1:Nat):Int):=by rw[aD (by omega) (by omega)]; omega
  rw[ae (by simpa using fun h=>h0 (by rw[h]; rfl)),j,bh (show a.length - 1<a.length by omega) 0,aa]
  have:=C9 a h0 ha _ (a.getD (a.length - 1) 0) 0 rfl (by have:=Jg (a.getD (a.length - 1) 0); omega)
  rw[ae h0]
  rw[br]at this
  exact this
theorem Jp (x:UInt32) (s:Nat) (hs:s<32):(cV x.toUInt64 s).toNat=x.toNat*2^s:=by
 have hx:=eg x
 rw[kM,c9,bg (by omega),az]
 have j:2^s<=2^31:=ba (by decide) (by omega)
 have A:x.toNat*2^s<=4294967295*2^31:=eb (by omega) j
 have B:(2:Nat)^31=2147483648:=rfl
 omega
theorem Ok {p q:UInt32} (s:Nat) (j:q.toNat%2^s=0) (hp:p.toNat<2^s):(p ||| q).toNat=p.toNat+q.toNat:=by
 rw[UInt32.toNat_or,Nat.or_comm,sq s j hp,cw]
theorem nU {s:Nat} (hs:s<32):2^s*2^(32 - s)=4294967296:=by
 rw[<-bS,show s+(32 - s)=32 by omega]
def pz (a:L00) (s w:Nat) (r:L00) (i:Nat):L00:=
 (r.set (i+w) (r.getD (i+w) 0 ||| (cV (a.getD i 0).toUInt64 s).toUInt32)).set (i+w+1) ((r.set (i+w) (r.getD (i+w) 0 ||| (cV (a.getD i 0).toUInt64 s).toUInt32)).getD (i+w+1) 0 ||| (bb (cV (a.getD i 0).toUInt64 s) 32).toUInt32)
theorem wB (a:L00) (n:UInt64) (hn:n.toNat<=1000000000000) (ha:a.length+n.toNat / 32+1<=70368744177664):F.VS a n=some (au (val a*2^n.toNat)):=by
 unfold F.VS
 by_cases h0:a.length=0
 ·rw[ag (by simp[h0]),bn h0,jz,fv,cH]
 ·obtain⟨w,hw⟩:∃w,n.toNat / 32=w:=⟨_,rfl⟩
  obtain⟨s,hs⟩:∃s,n.toNat%32=s:=⟨_,rfl⟩
  have B:s<32:=by omega
  have e1:(n / 32).toNat=w:=by rw[fp,<-hw]; rfl
  have e2:(n%32).toNat=s:=by rw[dh,<-hs]; rfl
  have ab:2^n.toNat=4294967296^w*2^s:=by
   rw[show (4294967296:Nat)=2^32 from rfl,<-cr,<-bS]
   congr 1; omega
  rw[ae (by simpa using fun h=>h0 (by rw[h]; rfl)),e1,aG,aD (x:=(w:Int)) (by omega) (by omega),aD (x:=(a.length:Int)+(w:Int)) (by omega) (by omega),aD (by omega) (by omega),iG (by omega),aa,
   show ((a.length:Int)+(w:Int)+1).toNat=a.length+w+1 by omega]
  have N:=nU B
  have ac:1<=2^s:=Nat.one_le_two_pow
  -- what holds behind i words
  have step:∀(i:Nat) (r:L00),i<a.length->(r.length=a.length+w+1/\(∀k,i+w<k->r.getD k 0=0)/\(r.getD (i+w) 0).toNat<2^s/\val r=4294967296^w*(val (a.take i)*2^s)) ->
    ((pz a s w r i).length=a.length+w+1/\(∀k,i+1+w<k->(pz a s w r i).getD k 0=0)/\((pz a s w r i).getD (i+1+w) 0).toNat<2^s/\val (pz a s w r i)=4294967296^w*(val (a.take (i+1))*2^s)):=by
   rintro i r hi ⟨O,h2,h3,R⟩
   unfold pz
   obtain⟨v,hv⟩:∃v,cV (a.getD i 0).toUInt64 s=v:=⟨_,rfl⟩
   have G:v.toNat=(a.getD i 0).toNat*2^s:=by rw[<-hv,Jp _ _ B]
   have ap:=eg (a.getD i 0)
   rw[hv]
   have bx:=oB v
   -- the low part is a multiple of 2^s,the high part is below it
   have I:v.toUInt32.toNat%2^s=0:=by
    rw[jB,G,<-N]
    rw[Nat.mod_mul_right_mod,Nat.mul_mod_left]
   have b8:v.toUInt32.toNat+2^s<=4294967296:=by
    have U:=eg v.toUInt32
    obtain⟨c,hc⟩:=fe I
    rw[hc]at U ⊢
    rw[<-N]at U ⊢
    have:=Nat.lt_of_mul_lt_mul_left U
    have:=bj (2^s) (show c+1<=2^(32 - s) by omega)
    rw[aJ,cE]at this
    exact this
   have b2:(bb v 32).toNat<2^s:=by
    rw[p8,G,fo (by decide),aP (2^s)]
    exact Nat.mul_lt_mul_of_pos_right ap (by omega)
   have b3:=Ok (p:=r.getD (i+w) 0) (q:=v.toUInt32) s I h3
   obtain⟨J,j⟩:∃J,r.set (i+w) (r.getD (i+w) 0 ||| v.toUInt32)=J:=⟨_,rfl⟩
   have V:J.length=a.length+w+1:=by rw[<-j]; simpa using O
   have hz:J.getD (i+w+1) 0=0:=by rw[<-j,ij (by omega)]; exact h2 _ (by omega)
   rw[j,hz,UInt32.zero_or]
   have v1:=jw r (i+w) (r.getD (i+w) 0 ||| v.toUInt32) (by omega)
   rw[j,b3]at v1
   have Y:=jw J (i+w+1) (bb v 32).toUInt32 (by omega)
   rw[hz]at Y
   have z0:(0:UInt32).toNat=0:=rfl
   rw[z0,cp,br,EG,<-p8]at Y
   refine⟨by simpa using V,fun k hk=>?_,?_,?_⟩
   ·rw[ij (by omega),<-j,ij (by omega)]; exact h2 k (by omega)
   ·rw[show i+1+w=i+w+1 by omega,an,cU (by omega)]
    simp only[Option.getD_some,EG,<-p8]
    exact b2
   ·rw[Y,cJ,aW,aJ,<-R]
    have e3:4294967296^w*(4294967296^i*(a.getD i 0).toNat*2^s)=4294967296^(i+w)*v.toNat:=by
     rw[G,cw i w,bS,aK,aK]
    have e4:4294967296^(i+w)*v.toNat=4294967296^(i+w)*v.toUInt32.toNat+4294967296^(i+w+1)*(bb v 32).toNat:=by
     rw[bo,aK,<-aJ,<-bx]
    rw[e3,e4]
    rw[aJ]at v1
    omega
  have A:(List.replicate (a.length+w+1) (0:UInt32)).length=a.length+w+1/\(∀k,0+w<k->(List.replicate (a.length+w+1) (0:UInt32)).getD k 0=0)/\((List.replicate (a.length+w+1) (0:UInt32)).getD (0+w) 0).toNat<2^s /\
    val (List.replicate (a.length+w+1) 0)=4294967296^w*(val (a.take 0)*2^s):=by
   have hg:∀k,(List.replicate (a.length+w+1) (0:UInt32)).getD k 0=0:=fun k=>by
    rw[an,gm]; split <;> rfl
   exact⟨by simp,fun k _=>hg k,by rw[hg]; exact aU (show (0:UInt32).toNat<1 by decide) ac,by rw[gC]; simp[val]⟩
  have e:=eY (f:=F.XD a n (w:Int)) (fun (x:L00) i=>((i:Int),x))
   (fun i r=>i<=a.length->(r.length=a.length+w+1/\(∀k,i+w<k->r.getD k 0=0)/\(r.getD (i+w) 0).toNat<2^s/\val r=4294967296^w*(val (a.take i)*2^s))) (pz a s w) 0 a.length
   (X:=fun x=>F.S8 x)
   (fun i x _ hi hx=>by
    have hx:=hx (by omega)
    refine⟨?_,fun _=>step i x hi hx⟩
    obtain⟨O,_⟩:=hx
    have w1:wI ((i:Int)+(w:Int))=((i+w:Nat):Int):=by rw[aD (by omega) (by omega)]; rfl
    have w2:wI (((i+w:Nat):Int)+1)=((i+w+1:Nat):Int):=by rw[aD (by omega) (by omega)]; rfl
    have w3:wI ((i:Int)+1)=((i+1:Nat):Int):=by rw[aD (by omega) (by omega)]; rfl
    unfold F.XD
    dsimp only
    rw[ag (ai (by omega)),bh hi 0,aa,aG,w1,w2,w3,e2,bh (show i+w<x.length by omega) 0,aa,aa,aG,aq,bh (show i+w+1<(x.set (i+w) (x.getD (i+w) 0 ||| (cV (a.getD i 0).toUInt64 s).toUInt32)).length by simp; omega) 0,aa,aa,aG,aq]
    rfl)
   (fun x hx=>by
    unfold F.XD
    dsimp only
    rw[ae (by simp)]
    cases F.S8 x <;> rfl)
   a.length 0 _ (aw _) (by omega) (fun _=>A)
  refine e.trans ?_
  have Z:=fH (fun i (r:L00)=>i<=a.length->(r.length=a.length+w+1/\(∀k,i+w<k->r.getD k 0=0)/\(r.getD (i+w) 0).toNat<2^s/\val r=4294967296^w*(val (a.take i)*2^s))) (pz a s w)
   (fun i x hx=>fun hi=>step i x (by omega) (hx (by omega))) a.length 0 _ (fun _=>A)
  obtain⟨y,hy⟩:∃y,(List.range' 0 a.length).foldl (pz a s w) (List.replicate (a.length+w+1) 0)=y:=⟨_,rfl⟩
  rw[hy]at Z ⊢
  rw[bm]at Z
  obtain⟨O,_,_,R⟩:=Z (aw _)
  rw[lI _ (by omega),R,cO,ab,dD]
theorem ef (a:L00) (i:Nat):val (a.drop i)=(a.getD i 0).toNat+4294967296*val (a.drop (i+1)):=by
 by_cases h:i<a.length
 ·rw[bc h,gy]
  congr 2
  rw[an,aA h]; rfl
 ·rw[bK (by omega),bK (by omega),iJ (by omega)]; rfl
theorem kB (a:L00) (i:Nat):val a / 4294967296^i=val (a.drop i):=by
 by_cases h:i<=a.length
 ·have j:=cv (a.take i)
  rw[aN,bg h]at j
  rw[gB a i h,cw,Nat.mul_add_div (eX (by decide)),cT j,br]
 ·have j:=cv a
  have A:=ba (show 0<4294967296 by decide) (show a.length<=i by omega)
  rw[bK (by omega),cT (by omega)]; rfl
theorem Ji (a:L00) (n:UInt64) (hn:n.toNat<32) (ha:a.length<=70368744177664):F.Zc a n=some (au (val a / 2^n.toNat)):=by
 unfold F.Zc
 have O:(n / 32).toNat=0:=by rw[fp]; exact cT hn
 have G:(n%32).toNat=n.toNat:=by rw[dh]; exact az hn
 obtain⟨s,hs⟩:∃s,n.toNat=s:=⟨_,rfl⟩
 rw[hs]at G hn ⊢
 have w0:wI ((0:Nat):Int)=0:=rfl
 rw[O,aG,w0]
 by_cases h0:a.length=0
 ·rw[ag (ai (by omega)),bn h0,jz,Nat.zero_div,cH]
 ·rw[ae (by simp only[ak]; omega),Int.sub_zero,aD (by omega) (by omega),iG (by omega),aa,aq,<-xa]
  have I:=nU hn
  have J:∀i,(val a / 2^s) / 4294967296^i%4294967296=((a.getD i 0).toNat+4294967296*(a.getD (i+1) 0).toNat) / 2^s%4294967296:=by
   intro i
   rw[dM,aP,<-dM,kB,ef,ef]
   have:(a.getD i 0).toNat+4294967296*((a.getD (i+1) 0).toNat+4294967296*val (a.drop (i+1+1)))=((a.getD i 0).toNat+4294967296*(a.getD (i+1) 0).toNat)+2^s*(4294967296*(2^(32 - s)*val (a.drop (i+1+1)))):=by
    have:2^s*(4294967296*(2^(32 - s)*val (a.drop (i+1+1))))=4294967296*(4294967296*val (a.drop (i+1+1))):=by
     rw[dD,<-aK (2^s),I]
    rw[this,aJ]; omega
   rw[this,gV _ _ (dx s),gU]
  have A:∀(i:Nat) (x:L00),(x.length=i/\val x=(val a / 2^s)%4294967296^i) ->
    ((x++[(bb ((a.getD i 0).toUInt64 ||| (cV (a.getD (i+1) 0).toUInt64 32)) s).toUInt32]).length=i+1/\val (x++[(bb ((a.getD i 0).toUInt64 ||| (cV (a.getD (i+1) 0).toUInt64 32)) s).toUInt32])=(val a / 2^s)%4294967296^(i+1)):=by
   rintro i x ⟨j,B⟩
   refine⟨by simp[j],?_⟩
   rw[mG,j,B,Nat.mod_pow_succ,J i,jB,i6,vg,bg (by omega)]
  have e:=eY (f:=F.XM a 0 n) (fun (x:L00) i=>((i:Int),pad x a.length)) (fun i x=>x.length=i/\val x=(val a / 2^s)%4294967296^i)
   (fun x i=>x++[(bb ((a.getD i 0).toUInt64 ||| (cV (a.getD (i+1) 0).toUInt64 32)) s).toUInt32]) 0 a.length
   (X:=fun x=>F.S8 (pad x a.length))
   (fun i x _ hi hx=>by
    refine⟨?_,A i x hx⟩
    obtain⟨j,B⟩:=hx
    have N:wI ((i:Int)+1)=((i+1:Nat):Int):=by rw[aD (by omega) (by omega)]; rfl
    have w2:wI ((i:Int)+0)=(i:Int):=by rw[aD (by omega) (by omega)]; omega
    obtain⟨u,hu⟩:=qN (x:=x) (n:=a.length) (i:=i) (by omega) (by omega)
    have hK:∀v:UInt64,v=((a.getD i 0).toUInt64 ||| (cV (a.getD (i+1) 0).toUInt64 32))->F.Yr n (i:Int) (pad x a.length) v=some (.inl (((i+1:Nat):Int),pad (x++[(bb ((a.getD i 0).toUInt64 ||| (cV (a.getD (i+1) 0).toUInt64 32)) s).toUInt32]) a.length)):=by
     rintro v rfl
     unfold F.Yr
     dsimp only
     have:=sP (x:=x) (n:=a.length) (by omega) (bb ((a.getD i 0).toUInt64 ||| (cV (a.getD (i+1) 0).toUInt64 32)) s).toUInt32
     rw[j]at this
     rw[hu,aa,aG,aq,N,G,this]; rfl
    unfold F.XM
    dsimp only
    rw[ag (ai (by rw[me (by omega)]; omega)),w2,bh hi 0,aa,N]
    by_cases hb:i+1<a.length
    ·rw[ag (ai (by omega)),bh hb 0,aa,aG,hK _ rfl]
    ·rw[ae (by simp only[ak]; omega),hK _ (by
      apply cx.1
      rw[vg,iJ (a:=a) (i:=i+1) (by omega),c9]; rfl)])
   (fun x hx=>by
    unfold F.XM
    dsimp only
    rw[ae (by rw[me (by omega)]; simp)]
    cases F.S8 (pad x a.length) <;> rfl)
   a.length 0 [] (aw _) (by omega) ⟨rfl,by simp[val,Nat.mod_one]⟩
  refine e.trans ?_
  obtain⟨j,B⟩:=fH (fun i (x:L00)=>x.length=i/\val x=(val a / 2^s)%4294967296^i) (fun x i=>x++[(bb ((a.getD i 0).toUInt64 ||| (cV (a.getD (i+1) 0).toUInt64 32)) s).toUInt32])
   (fun i x hx=>A i x hx) a.length 0 [] ⟨rfl,by simp[val,Nat.mod_one]⟩
  obtain⟨y,hy⟩:∃y,(List.range' 0 a.length).foldl (fun x i=>x++[(bb ((a.getD i 0).toUInt64 ||| (cV (a.getD (i+1) 0).toUInt64 32)) s).toUInt32]) []=y:=⟨_,rfl⟩
  rw[hy]at j B ⊢
  rw[bm]at j B
  have R:=cv a
  have U:=dw (val a) (2^s)
  rw[lI _ (by rw[me (by omega)]; omega),qm,B,az (by omega)]
theorem HK (u v:UInt32) (c:UInt64) (hc:c.toNat<=1):((u.toUInt64 - v.toUInt64) - c).toUInt32.toNat+c.toNat+v.toNat=u.toNat+4294967296*(bb ((u.toUInt64 - v.toUInt64) - c) 63).toNat/\(bb ((u.toUInt64 - v.toUInt64) - c) 63).toNat<=1:=by
 have hu:=eg u; have j:=eg v
 rw[jB,Kf,ft,ft,c9,c9]
 omega
theorem Iu (u:UInt32) (c d:UInt64) (hc:c.toNat<=4294967295) (hd:d.toNat<=1):((u.toUInt64 - c) - d).toUInt32.toNat+c.toNat+d.toNat=u.toNat+4294967296*(bb ((u.toUInt64 - c) - d) 63).toNat/\(bb ((u.toUInt64 - c) - d) 63).toNat<=1:=by
 have hu:=eg u
 rw[jB,Kf,ft,ft,c9]
 omega
abbrev MS:=UInt64×UInt64×L00
def msS (g:UInt64) (v:L00) (j:Nat) (x:MS) (i:Nat):MS:=
 (bb (x.1+g*(v.getD i 0).toUInt64) 32,bb (((x.2.2.getD (j+i) 0).toUInt64 - (x.1+g*(v.getD i 0).toUInt64).toUInt32.toUInt64) - x.2.1) 63,
  x.2.2.set (j+i) (((x.2.2.getD (j+i) 0).toUInt64 - (x.1+g*(v.getD i 0).toUInt64).toUInt32.toUInt64) - x.2.1).toUInt32)
def MSI (g:UInt64) (v u:L00) (j i:Nat) (x:MS):Prop:=
 x.2.2.length=u.length/\(∀k,k<j\/j+i<=k->x.2.2.getD k 0=u.getD k 0)/\val x.2.2+4294967296^j*(g.toNat*val (v.take i))=val u+4294967296^(j+i)*(x.1.toNat+x.2.1.toNat)/\x.1.toNat<=4294967295/\x.2.1.toNat<=1
theorem D3 {g:UInt64} {v u:L00} {j i:Nat} {x:MS} (hg:g.toNat<=4294967295) (hj:j+i<u.length) (h:MSI g v u j i x):MSI g v u j (i+1) (msS g v j x i):=by
 obtain⟨N,O,R,h4,U⟩:=h
 unfold msS
 have B:=mO (v.getD i 0)
 have hp:g.toNat*(v.getD i 0).toNat<=4294967295*4294967295:=eb hg B
 have G:(x.1+g*(v.getD i 0).toUInt64).toNat=x.1.toNat+g.toNat*(v.getD i 0).toNat:=by
  have A:(g*(v.getD i 0).toUInt64).toNat=g.toNat*(v.getD i 0).toNat:=by rw[sQ _ _ (by rw[c9]; omega),c9]
  rw[li _ _ (by rw[A]; omega),A]
 obtain⟨C,V⟩:∃C,x.1+g*(v.getD i 0).toUInt64=C:=⟨_,rfl⟩
 rw[V]at G ⊢
 obtain⟨A,I⟩:=HK (x.2.2.getD (j+i) 0) C.toUInt32 x.2.1 U
 obtain⟨t,X⟩:∃t,((x.2.2.getD (j+i) 0).toUInt64 - C.toUInt32.toUInt64) - x.2.1=t:=⟨_,rfl⟩
 rw[X]at A I ⊢
 have J:=oB C
 refine⟨by simpa using N,fun k hk=>?_,?_,?_,I⟩
 ·simp only
  rw[ij (by omega)]; exact O k (by omega)
 ·simp only
  have hv:=jw x.2.2 (j+i) t.toUInt32 (by omega)
  rw[cJ,aJ,aJ]
  have Y:4294967296^j*(g.toNat*(4294967296^i*(v.getD i 0).toNat))=4294967296^(j+i)*(g.toNat*(v.getD i 0).toNat):=by
   rw[bS,aK,dD g.toNat]
  have Z:4294967296^(j+i)*(t.toUInt32.toNat+x.2.1.toNat+C.toUInt32.toNat)=4294967296^(j+i)*((x.2.2.getD (j+i) 0).toNat+4294967296*(bb t 63).toNat):=by rw[A]
  have e5:4294967296^(j+i)*(x.1.toNat+g.toNat*(v.getD i 0).toNat)=4294967296^(j+i)*(C.toUInt32.toNat+4294967296*(bb C 32).toNat):=by rw[<-G,<-J]
  rw[Y,<-d9 j i 1,bo,aK]
  rw[aJ,aJ,aJ]at Z
  rw[aJ,aJ]at e5
  rw[aJ]at R
  rw[aJ,aJ]
  omega
 ·simp only[p8]; omega
theorem rO {a:L00} {m:Nat} (h:∀k,m<=k->a.getD k 0=0):val a<4294967296^m:=by
 by_cases hm:m<=a.length
 ·have hz:a.drop m=List.replicate (a.length - m) 0:=by
   refine gx (by simp) fun i A B=>?_
   have:=h (m+i) (by omega)
   rw[an,aA (by simp at A; omega)]at this
   rw[List.getElem_drop,List.getElem_replicate]
   exact this
  have j:=cv (a.take m)
  rw[aN,bg hm]at j
  rw[gB a m hm,hz,gC]
  simpa using j
 ·exact aU (cv a) (ba (by decide) (by omega))
theorem DL {a:L00} {m:Nat} (h:val a<4294967296^m) (k:Nat) (j:m<=k):a.getD k 0=0:=by
 have A:val a / 4294967296^k=0:=cT (aU h (ba (by decide) j))
 rw[kB,ef]at A
 exact cL.1 (by show _=0; omega)
theorem lT {a:L00} {m:Nat} (h:val a<4294967296^m):val (a.drop m)=0:=by
 rw[<-kB,cT h]
def abS (v:L00) (j:Nat) (x:UInt64×L00) (i:Nat):UInt64×L00:=
 (bb (x.1+((x.2.getD (i+j) 0).toUInt64+(v.getD i 0).toUInt64)) 32,x.2.set (i+j) (x.1+((x.2.getD (i+j) 0).toUInt64+(v.getD i 0).toUInt64)).toUInt32)
def ABI (v u:L00) (j i:Nat) (x:UInt64×L00):Prop:=
 x.2.length=u.length/\(∀k,k<j\/j+i<=k->x.2.getD k 0=u.getD k 0)/\val x.2+4294967296^(j+i)*x.1.toNat=val u+4294967296^j*val (v.take i)/\x.1.toNat<=1
theorem DI {v u:L00} {j i:Nat} {x:UInt64×L00} (R:j+i<u.length) (h:ABI v u j i x):ABI v u j (i+1) (abS v j x i):=by
 obtain⟨I,J,U,V⟩:=h
 unfold abS
 have ha:=mO (x.2.getD (i+j) 0); have hb:=mO (v.getD i 0)
 obtain⟨s,hs⟩:∃s,x.1+((x.2.getD (i+j) 0).toUInt64+(v.getD i 0).toUInt64)=s:=⟨_,rfl⟩
 have A:s.toNat=x.1.toNat+((x.2.getD (i+j) 0).toNat+(v.getD i 0).toNat):=by
  have B:((x.2.getD (i+j) 0).toUInt64+(v.getD i 0).toUInt64).toNat=(x.2.getD (i+j) 0).toNat+(v.getD i 0).toNat:=by rw[li _ _ (by rw[c9,c9]; omega),c9,c9]
  rw[<-hs,li _ _ (by rw[B]; omega),B]
 rw[hs]
 have G:=oB s
 refine⟨by simpa using I,fun k X=>?_,?_,by simp only[p8]; omega⟩
 ·simp only
  rw[ij (by omega)]; exact J k (by omega)
 ·simp only
  have Y:=jw x.2 (i+j) s.toUInt32 (by omega)
  have N:4294967296^(j+i)*s.toNat=4294967296^(j+i)*s.toUInt32.toNat+4294967296^(j+(i+1))*(bb s 32).toNat:=by
   rw[<-d9,bo,aK,<-aJ,<-G]
  have O:4294967296^j*(4294967296^i*(v.getD i 0).toNat)=4294967296^(j+i)*(v.getD i 0).toNat:=by rw[bS,aK]
  rw[cJ,aJ,O]
  rw[A,aJ,aJ]at N
  rw[cw i j]at *
  omega
theorem NX (v u q:L00) (j:Nat) (g:UInt64) (hg:g.toNat<=4294967295) (hj:j+v.length<u.length) (hq:j<q.length) (hs:u.length<=70368744177664) (el:q.length<=70368744177664)
  (h1:val u<4294967296^j*((g.toNat+1)*val v)) (h2:4294967296^j*(g.toNat*val v)<=val u+4294967296^j*val v) (h3:val u<4294967296^(j+v.length+1)) :
  ∃(d:UInt64) (B:L00),loop (F.Wd v (j:Int) g q) (0,0,0,u)=some (.inl ((j:Int) - 1,B,q.set j d.toUInt32))/\B.length=u.length /\
   val B+4294967296^j*(d.toNat*val v)=val u/\val B<4294967296^j*val v/\d.toNat<=4294967295:=by
 have w2:wI ((j:Int)+(v.length:Int))=((j+v.length:Nat):Int):=by rw[aD (by omega) (by omega)]; rfl
 have wj:wI ((j:Int) - 1)=(j:Int) - 1:=aD (by omega) (by omega)
 have ab:∀(d:UInt64) (y:L00),F.VW (j:Int) q (d,y)=some (.inl ((j:Int) - 1,y,q.set j d.toUInt32)):=by
  intro d y
  unfold F.VW
  dsimp only
  rw[bh hq 0,aa,aG,aq,wj]; rfl
 have dd:=eX (n:=j) (show 0<4294967296 by decide)
 have h0:MSI g v u j 0 (0,0,u):=⟨rfl,fun _ _=>rfl,by simp[val],by simp,by simp⟩
 have hz:=fun k (R:j+v.length+1<=k)=>DL h3 k R
 -- behind the loop
 have b3:∀x:MS,MSI g v u j v.length x->∃(d:UInt64) (B:L00),
   (af (ax x.2.2 (wI ((j:Int)+(v.length:Int)):Int)) fun N=>bz ((N.toUInt64 - x.1) - x.2.1) fun G=>af (ax x.2.2 (wI ((j:Int)+(v.length:Int)):Int)) fun ap=>
    bz (x.2.2.set (wI ((j:Int)+(v.length:Int)):Int).toNat G.toUInt32) fun I=>if ((bb G 63) != 0)=true then loop (F.Vh v (j:Int) g q) (0,0,I) else F.VW (j:Int) q (g,I))
    = some (.inl ((j:Int) - 1,B,q.set j d.toUInt32))/\B.length=u.length/\val B+4294967296^j*(d.toNat*val v)=val u/\val B<4294967296^j*val v/\d.toNat<=4294967295:=by
  rintro x ⟨e1,e2,e3,e4,e5⟩
  rw[w2,bh (show j+v.length<x.2.2.length by omega) 0,aa,aG,aa,aG,aq]
  obtain⟨f1,f2⟩:=Iu (x.2.2.getD (j+v.length) 0) x.1 x.2.1 e4 e5
  obtain⟨t,ht⟩:∃t,((x.2.2.getD (j+v.length) 0).toUInt64 - x.1) - x.2.1=t:=⟨_,rfl⟩
  rw[ht]at f1 f2 ⊢
  have hv:=jw x.2.2 (j+v.length) t.toUInt32 (by omega)
  obtain⟨A,U⟩:∃A,x.2.2.set (j+v.length) t.toUInt32=A:=⟨_,rfl⟩
  have b6:A.length=u.length:=by rw[<-U]; simpa using e1
  have ac:∀k,j+v.length+1<=k->A.getD k 0=0:=fun k R=>by
   rw[<-U,ij (by omega),e2 k (by omega)]; exact hz k R
  have d5:=rO ac
  rw[U]at hv ⊢
  rw[cO]at e3
  have J:val A+4294967296^j*(g.toNat*val v)=val u+4294967296^(j+v.length+1)*(bb t 63).toNat:=by
   have:=da (4294967296^(j+v.length)*·) f1
   simp only[aJ]at this
   rw[aJ]at e3
   rw[bo,aK]
   omega
  by_cases hb:(bb t 63).toNat=0
  ·have:bb t 63=0:=cx.1 hb
   rw[ae (by rw[this]; decide),ab]
   rw[hb,cp,br]at J
   refine⟨g,A,rfl,b6,J,?_,hg⟩
   rw[aW,cy,aJ]at h1
   omega
  ·have b7:(bb t 63).toNat=1:=by omega
   have b8:¬bb t 63=0:=fun h=>hb (by rw[h]; rfl)
   rw[ag (by simpa using b8)]
   rw[b7,cE]at J
   have b9:1<=g.toNat:=by
    rcases bO g.toNat with h | h
    ·rw[h,fv,cp]at J; omega
    ·exact h
   have a0:ABI v A j 0 (0,A):=⟨rfl,fun _ _=>rfl,by simp[val],by simp⟩
   have e:=eY (f:=F.Vh v (j:Int) g q) (fun (y:UInt64×L00) i=>(y.1,(i:Int),y.2)) (fun i y=>i<=v.length->ABI v A j i y) (abS v j) 0 v.length
    (X:=fun y=>some (.inl ((j:Int) - 1,y.2.set (j+v.length) (y.2.getD (j+v.length) 0+y.1.toUInt32),q.set j (g - 1).toUInt32)))
    (fun i y _ hi hy=>by
     have hy:=hy (by omega)
     refine⟨?_,fun _=>DI (by omega) hy⟩
     have ce:=hy.1
     have w3:wI ((i:Int)+(j:Int))=((i+j:Nat):Int):=by rw[aD (by omega) (by omega)]; rfl
     have w4:wI ((i:Int)+1)=((i+1:Nat):Int):=by rw[aD (by omega) (by omega)]; rfl
     unfold F.Vh
     dsimp only
     rw[ag (ai (by omega)),w3,bh (show i+j<y.2.length by omega) 0,aa,bh hi 0,aa,aG,aa,aG,aq,w4]
     rfl)
    (fun y hy=>by
     have ce:=(hy (aw _)).1
     unfold F.Vh
     dsimp only
     rw[ae (by simp),w2,bh (show j+v.length<y.2.length by omega) 0,aa,aa,aG,aq,ab])
    v.length 0 (0,A) (aw _) (by omega) (fun _=>a0)
   have O:=fH (fun i (y:UInt64×L00)=>i<=v.length->ABI v A j i y) (abS v j) (fun i y hy=>fun hi=>DI (by omega) (hy (by omega))) v.length 0 (0,A) (fun _=>a0)
   obtain⟨y,hy⟩:∃y,(List.range' 0 v.length).foldl (abS v j) (0,A)=y:=⟨_,rfl⟩
   rw[hy]at O e
   rw[bm]at O
   obtain⟨k1,k2,k3,k4⟩:=O (aw _)
   rw[cO]at k3
   refine⟨g - 1,_,e,by rw[dI]; omega,?_⟩
   have cf:(g - 1).toNat=g.toNat - 1:=by
    rw[ee _ _ (by rw[cK]; exact b9)]; rfl
   obtain⟨Z,ad⟩:∃Z,y.2.set (j+v.length) (y.2.getD (j+v.length) 0+y.1.toUInt32)=Z:=⟨_,rfl⟩
   have cm:=jw y.2 (j+v.length) (y.2.getD (j+v.length) 0+y.1.toUInt32) (by omega)
   rw[ad]at cm ⊢
   have ct:∀k,j+v.length+1<=k->Z.getD k 0=0:=fun k R=>by
    rw[<-ad,ij (by omega),k2 k (by omega)]; exact ac k R
   have ec:=rO ct
   have hw:=eg (y.2.getD (j+v.length) 0)
   have V:(y.2.getD (j+v.length) 0+y.1.toUInt32).toNat+4294967296*(((y.2.getD (j+v.length) 0).toNat+y.1.toNat) / 4294967296)=(y.2.getD (j+v.length) 0).toNat+y.1.toNat:=by
    rw[UInt32.toNat_add,jB,az (a:=y.1.toNat) (by omega)]; omega
   obtain⟨b',c0⟩:∃b',((y.2.getD (j+v.length) 0).toNat+y.1.toNat) / 4294967296=b':=⟨_,rfl⟩
   rw[c0]at V
   have en:b'<=1:=by omega
   have Y:val Z+4294967296^(j+v.length+1)*b'=val A+4294967296^j*val v:=by
    have:=da (4294967296^(j+v.length)*·) V
    simp only[aJ]at this
    rw[bo,aK]
    omega
   obtain⟨g',al⟩:∃g',g.toNat=g'+1:=⟨g.toNat - 1,by omega⟩
   rw[cf,al,eG]
   rw[al,aW,cy,aJ]at J h2
   have c2:b'=1:=by
    rcases bO b' with h | h
    ·rw[h,cp]at Y; omega
    ·omega
   rw[c2,cE]at Y
   exact⟨by omega,by omega,by omega⟩
 have e:=eY (f:=F.Wd v (j:Int) g q) (fun (x:MS) i=>(x.1,x.2.1,(i:Int),x.2.2)) (fun i x=>i<=v.length->MSI g v u j i x) (msS g v j) 0 v.length
  (X:=fun x=>(af (ax x.2.2 (wI ((j:Int)+(v.length:Int)):Int)) fun N=>bz ((N.toUInt64 - x.1) - x.2.1) fun G=>af (ax x.2.2 (wI ((j:Int)+(v.length:Int)):Int)) fun ap=>
    bz (x.2.2.set (wI ((j:Int)+(v.length:Int)):Int).toNat G.toUInt32) fun I=>if ((bb G 63) != 0)=true then loop (F.Vh v (j:Int) g q) (0,0,I) else F.VW (j:Int) q (g,I)))
  (fun i x _ hi hx=>by
   have hx:=hx (by omega)
   refine⟨?_,fun _=>D3 hg (by omega) hx⟩
   have er:=hx.1
   have w3:wI ((i:Int)+(j:Int))=((j+i:Nat):Int):=by rw[aD (by omega) (by omega)]; omega
   have w4:wI ((i:Int)+1)=((i+1:Nat):Int):=by rw[aD (by omega) (by omega)]; rfl
   unfold F.Wd
   dsimp only
   rw[ag (ai (by omega)),bh hi 0,aa,aG,w3,bh (show j+i<x.2.2.length by omega) 0,aa,aG,aa,aG,aq,w4]
   rfl)
  (fun x hx=>by
   unfold F.Wd
   dsimp only
   rw[ae (by simp)])
  v.length 0 (0,0,u) (aw _) (by omega) (fun _=>h0)
 have O:=fH (fun i (x:MS)=>i<=v.length->MSI g v u j i x) (msS g v j) (fun i x hx=>fun hi=>D3 hg (by omega) (hx (by omega))) v.length 0 (0,0,u) (fun _=>h0)
 rw[bm]at O
 obtain⟨d,B,r1,r2⟩:=b3 _ (O (aw _))
 exact⟨d,B,e.trans r1,r2⟩
theorem zL (x y:UInt32):((cV x.toUInt64 32) ||| y.toUInt64).toNat=4294967296*x.toNat+y.toNat:=by
 have:=eg x
 rw[BQ _ _ (by rw[c9]; omega),c9]
theorem JU (v u q:L00) (j:Nat) (A B G:UInt32) (h K J V':Nat) (hn:2<=v.length) (hj:j+v.length<u.length) (hs:u.length<=70368744177664)
  (ap:u.getD (j+v.length - 2) 0=G) (V:val v=(A.toNat*4294967296+B.toNat)*K+V') (bx:J<K) (Y:V'<K) (Z:1<=A.toNat)
  (b2:(h*4294967296+G.toNat)*K+J<4294967296*val v) (hh:h<=A.toNat*4294967296+4294967295) :
  ∀(m:Nat) (g r:UInt64),g.toNat=m->h=g.toNat*A.toNat+r.toNat->r.toNat<=4294967295->(h*4294967296+G.toNat)*K+J<(g.toNat+1)*val v ->
   ∃I:UInt64,loop (F.Xf v B (j:Int) u A q) (g,r)=F.WB u v (j:Int) q I/\I.toNat<=4294967295/\(h*4294967296+G.toNat)*K+J<(I.toNat+1)*val v /\
    I.toNat*val v<(h*4294967296+G.toNat)*K+J+val v:=by
 have x1:=eg A; have x2:=eg B; have x3:=eg G
 have w0:wI ((wI ((j:Int)+(v.length:Int))) - 2)=((j+v.length - 2:Nat):Int):=by
  rw[aD (x:=(j:Int)+(v.length:Int)) (by omega) (by omega),aD (by omega) (by omega)]; omega
 intro m
 induction m using Nat.strongRecOn with
 | ind m ih=>
  intro g r hm N hr b3
  -- too great
  have O:F.Xf v B (j:Int) u A q (g,r)=F.VJ A g r u v (j:Int) q true->(4294967296<=g.toNat\/r.toNat*4294967296+G.toNat<g.toNat*B.toNat) ->
    ∃I:UInt64,loop (F.Xf v B (j:Int) u A q) (g,r)=F.WB u v (j:Int) q I/\I.toNat<=4294967295/\(h*4294967296+G.toNat)*K+J<(I.toNat+1)*val v /\
    I.toNat*val v<(h*4294967296+G.toNat)*K+J+val v:=by
   intro hL X
   have b4:1<=g.toNat:=by
    rcases bO g.toNat with h0 | h0
    ·rw[h0]at X; omega
    ·exact h0
   have ab:(g - 1).toNat=g.toNat - 1:=by
    rw[ee _ _ (by rw[cK]; exact b4)]; rfl
   have b5:(r+A.toUInt64).toNat=r.toNat+A.toNat:=by rw[li _ _ (by rw[c9]; omega),c9]
   have hd:=As (K:=K) (V':=V') N bx X (by rw[<-V]; exact b2)
   rw[<-V]at hd
   obtain⟨k,hk⟩:∃k,g.toNat=k+1:=⟨g.toNat - 1,by omega⟩
   have R:h=(g - 1).toNat*A.toNat+(r+A.toUInt64).toNat:=by
    rw[ab,b5,N,hk,eG,aW]; omega
   have U:(h*4294967296+G.toNat)*K+J<((g - 1).toNat+1)*val v:=by
    rw[ab,hk,eG,<-hk]; exact hd
   unfold F.VJ at hL
   rw[ag rfl]at hL
   by_cases hb:4294967295<(r+A.toUInt64).toNat
   ·rw[ag (ai (by rw[bd]; exact hb))]at hL
    have b6:(g - 1).toNat<4294967296:=by
     have:(g - 1).toNat*A.toNat<4294967296*A.toNat:=by omega
     exact Nat.lt_of_mul_lt_mul_right this
    refine⟨g - 1,cd hL,by omega,U,?_⟩
    rw[V]
    refine Hv R Y Z b6 ?_
    have:=eb (show (g - 1).toNat<=4294967295 by omega) (show B.toNat<=4294967295 by omega)
    omega
   ·rw[ae (by simp only[ak,bd]; exact hb)]at hL
    obtain⟨I,q1,q2⟩:=ih (g - 1).toNat (by omega) (g - 1) (r+A.toUInt64) rfl R (by omega) U
    exact⟨I,(bp hL).trans q1,q2⟩
  have hL:F.Xf v B (j:Int) u A q (g,r)=if (decide ((4294967295:UInt64)<g))=true then F.VJ A g r u v (j:Int) q true else
    af (ax u (wI ((wI ((j:Int)+(v.length:Int))) - 2):Int)) fun al=>F.VJ A g r u v (j:Int) q (decide (((cV r 32) ||| al.toUInt64)<(g*B.toUInt64))):=rfl
  by_cases hg:4294967295<g.toNat
  ·rw[ag (ai (by rw[bd]; exact hg))]at hL
   exact O hL (.inl (by omega))
  ·rw[ae (by simp only[ak,bd]; exact hg),w0,bh (show j+v.length - 2<u.length by omega) 0,aa,ap]at hL
   have e1:((cV r 32) ||| G.toUInt64).toNat=4294967296*r.toNat+G.toNat:=BQ _ _ hr
   have hp:=eb (show g.toNat<=4294967295 by omega) (show B.toNat<=4294967295 by omega)
   have e2:(g*B.toUInt64).toNat=g.toNat*B.toNat:=by rw[sQ _ _ (by rw[c9]; omega),c9]
   by_cases X:r.toNat*4294967296+G.toNat<g.toNat*B.toNat
   ·rw[show decide (((cV r 32) ||| G.toUInt64)<(g*B.toUInt64))=true from ai (by rw[bd,e1,e2]; omega)]at hL
    exact O hL (.inr X)
   ·rw[show decide (((cV r 32) ||| G.toUInt64)<(g*B.toUInt64))=false from av (by rw[bd,e1,e2]; omega)]at hL
    unfold F.VJ at hL
    rw[ae (by decide)]at hL
    refine⟨g,cd hL,by omega,b3,?_⟩
    rw[V]
    exact Hv N Y Z (by omega) (by omega)
theorem IB (s:UInt64) (v u q:L00) (j:Nat) (hn:2<=v.length) (b4:2147483648<=(v.getD (v.length - 1) 0).toNat) (hj:j+v.length<u.length) (hq:j<q.length) (hs:u.length<=70368744177664) (b9:q.length<=70368744177664)
  (hu:val u<4294967296^(j+1)*val v) :
  ∃(d:UInt64) (N:L00),F.WP s v (v.getD (v.length - 1) 0) (v.getD (v.length - 2) 0) ((j:Int),u,q)=some (.inl ((j:Int) - 1,N,q.set j d.toUInt32))/\N.length=u.length /\
   val N+4294967296^j*(d.toNat*val v)=val u/\val N<4294967296^j*val v/\d.toNat<=4294967295:=by
 obtain⟨A,R⟩:∃A,v.getD (v.length - 1) 0=A:=⟨_,rfl⟩
 obtain⟨I,Y⟩:∃I,v.getD (v.length - 2) 0=I:=⟨_,rfl⟩
 obtain⟨B,Z⟩:∃B,u.getD (j+v.length) 0=B:=⟨_,rfl⟩
 obtain⟨J,ab⟩:∃J,u.getD (j+v.length - 1) 0=J:=⟨_,rfl⟩
 obtain⟨G,ac⟩:∃G,u.getD (j+v.length - 2) 0=G:=⟨_,rfl⟩
 rw[R]at b4
 have x1:=eg A; have x2:=eg I; have y0:=eg B; have y1:=eg J; have y2:=eg G
 -- the divisor's parts
 have eV:val v=(A.toNat*4294967296+I.toNat)*4294967296^(v.length - 2)+val (v.take (v.length - 2)):=by
  have:=gB v (v.length - 2) (by omega)
  rw[ef,show v.length - 2+1=v.length - 1 by omega,ef,show v.length - 1+1=v.length by omega,eJ,jz,R,Y]at this
  rw[this,cp,br,aP (4294967296^_),cw I.toNat,aP 4294967296 A.toNat]
  omega
 have U:val (v.take (v.length - 2))<4294967296^(v.length - 2):=by
  have:=cv (v.take (v.length - 2))
  rwa [aN,bg (by omega)]at this
 have ce:=cv v
 have ad:val u<4294967296^(j+v.length+1):=by
  have:=fa ce (eX (n:=j+1) (show 0<4294967296 by decide))
  rw[<-bS,show j+1+v.length=j+v.length+1 by omega]at this
  omega
 -- the dividend's parts
 obtain⟨K,hK⟩:∃K,4294967296^(v.length - 2)=K:=⟨_,rfl⟩
 obtain⟨O,al⟩:∃O,val ((u.drop j).take (v.length - 2))=O:=⟨_,rfl⟩
 have b6:O<K:=by
  have:=cv ((u.drop j).take (v.length - 2))
  rw[aN,bZ,bg (by omega)]at this
  rw[<-al,<-hK]; exact this
 obtain⟨h,hh⟩:∃h,B.toNat*4294967296+J.toNat=h:=⟨_,rfl⟩
 have eU:val u / 4294967296^j=(h*4294967296+G.toNat)*K+O:=by
  have V:=gB (u.drop j) (v.length - 2) (by rw[bZ]; omega)
  rw[gk,show j+(v.length - 2)=j+v.length - 2 by omega,ef u (j+v.length - 2),show j+v.length - 2+1=j+v.length - 1 by omega,ef u (j+v.length - 1),show j+v.length - 1+1=j+v.length by omega,ef u (j+v.length),lT ad,al,hK,Z,ab,ac]at V
  rw[kB,V,<-hh,cp,br,aP K]
  have:G.toNat+4294967296*(J.toNat+4294967296*B.toNat)=(B.toNat*4294967296+J.toNat)*4294967296+G.toNat:=by omega
  rw[this]; omega
 rw[hK]at eV U
 have X:=eX (n:=j) (show 0<4294967296 by decide)
 have b8:(h*4294967296+G.toNat)*K+O<4294967296*val v:=by
  rw[<-eU,fo X,aP]
  rw[bo,aK]at hu
  exact hu
 -- the first word is no greater than the divisor's
 have ct:B.toNat<=A.toNat:=by
  rcases bY A.toNat B.toNat with V | V
  ·exfalso
   have a1:(A.toNat*4294967296+I.toNat+1)*K<=(B.toNat*4294967296)*K:=aT _ (by omega)
   have a2:val v<(A.toNat*4294967296+I.toNat+1)*K:=by rw[eV,aW (A.toNat*4294967296+I.toNat) 1 K,cy]; exact Nat.add_lt_add_left U _
   have a4:=aT K (show 4294967296*(B.toNat*4294967296)<=h*4294967296+G.toNat by omega)
   rw[aK 4294967296]at a4
   omega
  ·exact V
 have ap:¬A.toUInt64=0:=by
  intro h0
  have:=da UInt64.toNat h0
  rw[c9]at this
  simp at this
  omega
 obtain⟨H,hH⟩:∃H,(cV B.toUInt64 32) ||| J.toUInt64=H:=⟨_,rfl⟩
 have bx:H.toNat=h:=by rw[<-hH,zL,<-hh]; omega
 have b2:(H / A.toUInt64).toNat=h / A.toNat:=by rw[fp,c9,bx]
 have b3:(H%A.toUInt64).toNat=h%A.toNat:=by rw[dh,c9,bx]
 have c6:=c7 h A.toNat
 have dc:=bG h (show 0<A.toNat by omega)
 obtain⟨g,hg,g1,g2,g3⟩:=JU v u q j A I G h K O (val (v.take (v.length - 2))) hn hj hs ac eV b6 U (by omega) b8 (by omega) _ (H / A.toUInt64) (H%A.toUInt64) rfl
  (by rw[b2,b3,aP]; omega) (by rw[b3]; omega) (by
   rw[b2]
   have a1:h+1<=(h / A.toNat+1)*A.toNat:=by rw[aW,aP (h / A.toNat)]; omega
   have a2:(h+1)*(4294967296*K)<=(h / A.toNat+1)*A.toNat*(4294967296*K):=aT _ a1
   have a3:(h / A.toNat+1)*(A.toNat*(4294967296*K))<=(h / A.toNat+1)*val v:=by
    refine bj _ ?_
    rw[eV,aW,aK]; omega
   have a4:(h*4294967296+G.toNat+1)*K<=(h+1)*(4294967296*K):=by
    rw[<-aK]; exact aT _ (by omega)
   rw[aW (h*4294967296+G.toNat) 1 K,cy]at a4
   rw[aK]at a2
   omega)
 have c2:=Nat.div_mul_le_self (val u) (4294967296^j)
 have dd:=Nat.lt_div_mul_add X (a:=val u)
 obtain⟨d,N,r1,r2⟩:=NX v u q j g g1 hj hq hs b9
  (by
   have:=bj (4294967296^j) (show val u / 4294967296^j+1<=(g.toNat+1)*val v by rw[eU]; omega)
   rw[aJ,cE,aP _ (val u / _)]at this
   omega)
  (by
   have:=bj (4294967296^j) (show g.toNat*val v<=val u / 4294967296^j+val v by rw[eU]; omega)
   rw[aJ _ (val u / _),aP _ (val u / _)]at this
   omega) ad
 refine⟨d,N,?_,r2⟩
 have w2:wI ((j:Int)+(v.length:Int))=((j+v.length:Nat):Int):=by rw[aD (by omega) (by omega)]; rfl
 have w3:wI ((((j+v.length:Nat):Int)) - 1)=((j+v.length - 1:Nat):Int):=by rw[aD (by omega) (by omega)]; omega
 rw[R,Y]
 unfold F.WP
 dsimp only
 rw[ag (ai (by omega)),w2,w3,bh hj 0,aa,bh (show j+v.length - 1<u.length by omega) 0,aa,aG,Z,ab,hH,grd_true _ ap,grd_true _ ap,hg]
 unfold F.WB
 exact r1
theorem I3 (s:UInt64) (v:L00) (A:Nat) (hn:2<=v.length) (G:2147483648<=(v.getD (v.length - 1) 0).toNat) (O:s.toNat<32) :
  ∀(k:Nat) (u q:L00),k+v.length<=u.length->k<=q.length->u.length<=70368744177664->q.length<=70368744177664->(∀i,i<k->q.getD i 0=0)->val q*val v+val u=A->val u<4294967296^k*val v ->
   loop (F.WP s v (v.getD (v.length - 1) 0) (v.getD (v.length - 2) 0)) ((k:Int) - 1,u,q)=some (au (A / val v),au (A%val v / 2^s.toNat)):=by
 have R:0<val v:=by
  rw[rI v (v.length - 1) (by omega)]
  have:=Nat.mul_pos (eX (n:=v.length - 1) (show 0<4294967296 by decide)) (show 0<(v.getD (v.length - 1) 0).toNat+4294967296*val (v.drop (v.length - 1+1)) by omega)
  omega
 intro k
 induction k with
 | zero=>
  intro u q V X U I J B j
  rw[gw,cy]at j
  have eq:A / val v=val q:=by rw[<-B,cw,Nat.add_mul_div_right _ _ R,cT j,bm]
  have Y:A%val v=val u:=by rw[<-B,cw,gK,az j]
  refine bI ?_
  unfold F.WP
  dsimp only
  have al:(au (val u)).length<=u.length:=bv (cv u)
  rw[ae (by decide),lI _ (by omega),aa,lI _ (by omega),aa,Ji _ _ O (by omega),aa,ay,eq,Y]; rfl
 | succ k ih=>
  intro u q V X U I J B j
  have Z:(((k+1:Nat):Int)) - 1=(k:Int):=by omega
  obtain⟨d,u',r1,r2,r3,r4,r5⟩:=IB s v u q k hn G (by omega) (by omega) U I j
  rw[Z,bp r1]
  refine ih u' _ (by omega) (by simp; omega) (by omega) (by simpa using I) (fun i hi=>by rw[ij (by omega)]; exact J i (by omega)) ?_ r4
  have N:=jw q k d.toUInt32 (by omega)
  rw[J k (by omega)]at N
  have z0:(0:UInt32).toNat=0:=rfl
  rw[z0,cp,br]at N
  rw[N,jB,az (by omega),aW,aK,<-B]
  omega
theorem Qb (a b:L00) (ha:Can a) (hb:Can b) (h0:b≠[]) (c5:a.length<=70368744177660) (c6:b.length<=70000000000) :
  F.Vd a b=some (au (val a / val b),au (val a%val b)):=by
 have O:b.length≠0:=fun h=>h0 (bn h)
 have dc:0<val b:=by
  rcases bO (val b) with h | h
  ·exact absurd (OQ hb xu h) h0
  ·exact h
 unfold F.Vd
 rw[ae (by simpa using fun h=>O (by rw[h]; rfl)),uV a b ha hb (by omega) (by omega),aa]
 unfold eA
 by_cases h1:val a<val b
 ·rw[ag h1,ag (by decide)]
  have dd:a.length<=b.length:=by
   rcases bY b.length a.length with h | h
   ·have:=th ha h; omega
   ·exact h
  unfold F.U0
  have bx:apO 4 [] a=some a:=by unfold apO; rw[ag (by simp; omega)]; simp
  rw[bx,aa,aa,cT h1,az h1,cH,nR a ha]
 ·rw[ae h1,ae (by split <;> decide)]
  have df:b.length<=a.length:=by
   rcases bY a.length b.length with h | h
   ·exact absurd (th hb h) h1
   ·exact h
  by_cases h2:a.length<=2
  ·rw[ag (ai (by omega))]
   obtain⟨x,hx,ex⟩:=Ba a h2
   obtain⟨y,hy,Y⟩:=Ba b (by omega)
   have R:¬y=0:=fun h=>by rw[h]at Y; simp at Y; omega
   rw[hx,aa,hy,aa,grd_true _ R,nA,aa,grd_true _ R,nA,aa,fp,dh,ex,Y]
  ·rw[ae (by simp only[ak]; omega)]
   by_cases h3:b.length=1
   ·rw[ag (by simp[h3]),show (0:Int)=((0:Nat):Int) from rfl,bh (show 0<b.length by omega) 0,aa]
    have G:val b=(b.getD 0 0).toNat:=by
     match b,h3 with
     | [x],_=>simp[val]
    have hd:b.getD 0 0≠0:=fun h=>by rw[h]at G; simp at G; omega
    obtain⟨r,hr,er⟩:=JR a (b.getD 0 0) hd (by omega)
    rw[hr,aa,lI _ (by simp),aa,<-G]
    rw[<-G]at er
    simp only[gy,jz,cp,br,er]
   ·rw[ae (by simpa using fun h=>h3 (by omega)),length_eq b (by omega),aa]
    have B:nK b=32*(b.length - 1)+nb (b.getD (b.length - 1) 0).toNat:=by unfold nK; rw[ae O]
    obtain⟨j,I⟩:∃j,b.getD (b.length - 1) 0=j:=⟨_,rfl⟩
    rw[I]at B
    have Z:j≠0:=by
     intro h
     refine hb ?_
     rw[List.getLast?_eq_getElem?]
     rw[<-I,an,aA (show b.length - 1<b.length by omega)]at h
     rw[aA (show b.length - 1<b.length by omega),<-h]; rfl
    have b3:j.toNat≠0:=fun h=>Z (cL.1 h)
    obtain⟨n1,n2⟩:=gp j.toNat
    obtain⟨n3,n4⟩:=n2 b3
    have n5:=Jg j
    obtain⟨z,hz⟩:∃z,nb j.toNat=z:=⟨_,rfl⟩
    rw[hz]at n1 n3 n4 n5 B
    -- the shift
    have es:UInt64.ofInt (wI ((wI (32 - (Int.tmod (wI ((nK b:Int) - 1)) 32))) - 1))=UInt64.ofNat (32 - z):=by
     rw[aD (x:=(nK b:Int) - 1) (by omega) (by omega)]
     have:Int.tmod ((nK b:Int) - 1) 32=(z:Int) - 1:=by
      rw[B]
      have:((32*(b.length - 1)+z:Nat):Int) - 1=((32*(b.length - 1)+(z - 1):Nat):Int):=by omega
      rw[this,cn (by omega)]
      omega
     rw[this,aD (x:=32 - ((z:Int) - 1)) (by omega) (by omega),aD (x:=32 - ((z:Int) - 1) - 1) (by omega) (by omega),show (32 - ((z:Int) - 1)) - 1=((32 - z:Nat):Int) by omega]
     apply cx.1
     rw[UInt64.ofInt,bQ,bQ]; omega
    rw[es,aG]
    obtain⟨s,hs⟩:∃s,UInt64.ofNat (32 - z)=s:=⟨_,rfl⟩
    have U:s.toNat=32 - z:=by rw[<-hs,bQ]; omega
    have b5:s.toNat<32:=by omega
    rw[hs,wB b s (by omega) (by omega),aa]
    -- the divisor shifted
    have b6:2^z*2^(32 - z)=4294967296:=by rw[<-bS,show z+(32 - z)=32 by omega]
    have ab:2^(z - 1)*2^(32 - z)=2147483648:=by rw[<-bS,show z - 1+(32 - z)=31 by omega]
    have ev:val b=val (b.take (b.length - 1))+4294967296^(b.length - 1)*j.toNat:=by
     have:=cJ b (b.length - 1)
     rwa [show b.length - 1+1=b.length by omega,cO,I]at this
    have dk:val (b.take (b.length - 1))<4294967296^(b.length - 1):=by
     have:=cv (b.take (b.length - 1))
     rwa [aN,bg (by omega)]at this
    have b7:val b*2^s.toNat<4294967296^b.length:=by
     have a1:val b<4294967296^(b.length - 1)*2^z:=by
      have:4294967296^(b.length - 1)*(j.toNat+1)<=4294967296^(b.length - 1)*2^z:=bj _ n1
      rw[aJ]at this
      omega
     have a2:=Nat.mul_lt_mul_of_pos_right a1 (dx (32 - z))
     rw[aK,b6,<-bo,Nat.succ_eq_add_one,show b.length - 1+1=b.length by omega]at a2
     rw[U]; exact a2
    have J:4294967296^(b.length - 1)*2147483648<=val b*2^s.toNat:=by
     rw[U,<-ab,<-aK]
     refine aT _ ?_
     have:4294967296^(b.length - 1)*2^(z - 1)<=4294967296^(b.length - 1)*j.toNat:=bj _ n3
     omega
    obtain⟨v,hv⟩:∃v,au (val b*2^s.toNat)=v:=⟨_,rfl⟩
    have V:val v=val b*2^s.toNat:=by rw[<-hv,ay]
    have X:v.length=b.length:=by
     have a1:=bv b7
     have a2:=sn (n:=val b*2^s.toNat) (k:=b.length - 1) (by
      refine aZ ?_ J
      exact eK _ (by decide))
     rw[hv]at a1 a2
     omega
    have ad:2147483648<=(v.getD (v.length - 1) 0).toNat:=by
     have a1:=cJ v (v.length - 1)
     rw[show v.length - 1+1=v.length by omega,cO]at a1
     have a2:=cv (v.take (v.length - 1))
     rw[aN,bg (by omega)]at a2
     rw[X]at a1 a2 ⊢
     rcases bY (v.getD (b.length - 1) 0).toNat 2147483648 with h | h
     ·have:4294967296^(b.length - 1)*((v.getD (b.length - 1) 0).toNat+1)<=4294967296^(b.length - 1)*2147483648:=bj _ h
      rw[aJ]at this
      omega
     ·exact h
    rw[hv]
    -- the dividend shifted
    have w2:wI ((a.length:Int)+2)=((a.length+2:Nat):Int):=by rw[aD (by omega) (by omega)]; rfl
    rw[w2,iG (by omega),aa,aq,wB a s (by omega) (by omega),aa]
    have al:2^s.toNat<=4294967296:=by
     have:=ba (show 0<2 by decide) (show s.toNat<=32 by omega)
     have e:(2:Nat)^32=4294967296:=rfl
     omega
    have N:val a*2^s.toNat<4294967296^(a.length+1):=by
     have a1:=cv a
     have a2:=eb (show val a+1<=4294967296^a.length from a1) al
     rw[<-bo,aW]at a2
     have:=dx s.toNat
     omega
    obtain⟨A,hA⟩:∃A,val a*2^s.toNat=A:=⟨_,rfl⟩
    rw[hA]at N ⊢
    have d0:=bv N
    have b8:cpL (List.replicate (a.length+2) (0:UInt32)) (au A) 0 (List.replicate (a.length+2) (0:UInt32)).length=pad (au A) (a.length+2):=by
     unfold cpL pad
     simp only[bq,fX,gq,bT,bm]
     rw[aC (by omega),bg (by omega),List.drop_replicate]
    rw[b8,aG,me (by omega)]
    have w5:wI ((wI (((a.length+2:Nat):Int) - (v.length:Int))) - 1)=((a.length+1 - b.length:Nat):Int):=by
     rw[X,aD (x:=((a.length+2:Nat):Int) - (b.length:Int)) (by omega) (by omega),aD (by omega) (by omega)]; omega
    have w6:wI (((a.length+1 - b.length:Nat):Int)+1)=((a.length+2 - b.length:Nat):Int):=by rw[aD (by omega) (by omega)]; omega
    have w7:wI ((v.length:Int) - 1)=((v.length - 1:Nat):Int):=by rw[aD (by omega) (by omega)]; omega
    have w8:wI ((v.length:Int) - 2)=((v.length - 2:Nat):Int):=by rw[aD (by omega) (by omega)]; omega
    rw[w5,aG,w6,iG (by omega),aa,aq,w7,bh (show v.length - 1<v.length by omega) 0,aa,w8,bh (show v.length - 2<v.length by omega) 0,aa]
    have b9:∀i,(List.replicate (a.length+2 - b.length) (0:UInt32)).getD i 0=0:=fun i=>by
     rw[an,gm]; split <;> rfl
    have hL:=I3 s v A (by omega) ad b5 (a.length+2 - b.length) (pad (au A) (a.length+2)) (List.replicate (a.length+2 - b.length) 0)
     (by rw[me (by omega)]; omega) (by simp) (by rw[me (by omega)]; omega) (by simp; omega) (fun i _=>b9 i) (by rw[gC,qm,ay]; omega) (by
      rw[qm,ay]
      refine aU N ?_
      have a1:=bj (4294967296^(a.length+2 - b.length)) (aZ (eK (4294967296^(b.length - 1)) (show 0<2147483648 by decide)) J)
      rw[<-V,<-bS,show a.length+2 - b.length+(b.length - 1)=a.length+1 by omega]at a1
      exact a1)
    rw[show (((a.length+2 - b.length:Nat):Int)) - 1=((a.length+1 - b.length:Nat):Int) by omega]at hL
    rw[hL,V,<-hA,Nat.mul_div_mul_right _ _ (dx _),Nat.mul_mod_mul_right,Nat.mul_div_cancel _ (dx _)]
def bi (z:Int):Bool×L00:=(decide (z<0),au z.natAbs)
def nl (z:Int):Nat:=(au z.natAbs).length
theorem GM (n:Nat):bi (n:Int)=(false,au n):=by
 unfold bi
 rw[av (by omega),cF]
theorem bi1 {z:Int} (h:0<=z):(bi z).1=false:=av (by omega)
theorem bi2 (z:Int):(bi z).2=au z.natAbs:=rfl
theorem bis (z:Int):(bi z).1=decide (z<0):=rfl
theorem qy (z:Int):Can (bi z).2:=ym _
theorem qC (z:Int):val (bi z).2=z.natAbs:=ay _
theorem mC {n:Nat}:au n=[]↔n=0:=⟨fun h=>by have:=ay n; rw[h]at this; simpa [val] using this.symm,fun h=>by rw[h,cH]⟩
theorem mB {n:Nat}:0<(au n).length↔n≠0:=by
 rw[fg,Ne,mC]
theorem gv {a b:Nat} (h:a<=b):(au a).length<=(au b).length:=
 bv (du h (by have:=cv (au b); rwa [ay]at this))
theorem Lt {x y:Int} (h:x.natAbs<=y.natAbs):(bi x).2.length<=(bi y).2.length:=gv h
theorem lR (a b:Nat):(au (a+b)).length<=max (au a).length (au b).length+1:=by
 refine bv ?_
 have j:=cv (au a); have A:=cv (au b)
 rw[ay]at j A
 have B:=ba (show 0<4294967296 by decide) (Nat.le_max_left (au a).length (au b).length)
 have G:=ba (show 0<4294967296 by decide) (Nat.le_max_right (au a).length (au b).length)
 rw[bo]
 omega
theorem pt (a b:Nat):(au (a*b)).length<=(au a).length+(au b).length:=by
 by_cases hb:b=0
 ·subst hb; simp[cH]
 refine bv ?_
 have j:=cv (au a); have A:=cv (au b)
 rw[ay]at j A
 rw[bS]
 exact Nat.mul_lt_mul_of_lt_of_le j (cA A) (eF (by have:=eX (n:=(au b).length) (show 0<4294967296 by decide); omega))
theorem Bl (x y:Int):nl (x*y)<=nl x+nl y:=by
 unfold nl; rw[Int.natAbs_mul]; exact pt _ _
theorem Bg (x y:Int):nl (x+y)<=max (nl x) (nl y)+1:=by
 unfold nl
 exact aZ (gv (Int.natAbs_add_le x y)) (lR _ _)
theorem Ge (x:Int):nl (-x)=nl x:=by unfold nl; rw[Int.natAbs_neg]
theorem GL (x y:Int):nl (x - y)<=max (nl x) (nl y)+1:=by
 rw[Int.sub_eq_add_neg,<-Ge y]; exact Bg x (-y)
theorem kS {x y:Int} (h:x.natAbs<=y.natAbs):nl x<=nl y:=gv h
theorem zG {z:Int} {k:Nat} (h:z.natAbs<4294967296^k):nl z<=k:=bv h
theorem rL (x:Int) {m:Int} (h:0<m):nl (x%m)<=nl m:=kS (by
 have:=iz x (show m≠0 by omega); have:=Int.emod_lt_of_pos x h; omega)
theorem xj (n0:Bool) (j:L00) (b:Bool) (a:L00):F.S9 n0 j b a=some (b&&decide (a≠[]),a):=by
 unfold F.S9 F.ZL
 cases b with
 | false=>rfl
 | true=>
  simp only[am,eE]
  congr 2
  cases a <;> simp
theorem kW (n0:Bool) (A:L00) (b:Bool) (z:Int) (h:z≠0->(b=true↔z<0)):F.S9 n0 A b (au z.natAbs)=some (bi z):=by
 rw[xj]
 congr 1
 unfold bi
 congr 1
 by_cases h0:z=0
 ·subst h0
  rw[show au (Int.natAbs 0)=[] from cH]
  simp
 ·have j:au z.natAbs≠[]:=by rw[Ne,mC]; omega
  simp only[ne_eq,j,iS,ir,Bool.and_true]
  have:=h h0
  cases b with
  | true=>exact (ai (this.1 rfl)).symm
  | false=>exact (av (fun hz=>by have:=this.2 hz; cases this)).symm
theorem CA (x y:Int) (hx:nl x<=70000000000000) (hy:nl y<=70000000000000):∃b,F.T4 (bi x).1 (bi x).2 (bi y).1 (bi y).2=some (b,au (x+y).natAbs)/\(x+y≠0->(b=true↔x+y<0)):=by
 unfold F.T4
 have I:(bi x).2.length<=70000000000000:=hx
 have J:(bi y).2.length<=70000000000000:=hy
 have j:val (bi x).2=x.natAbs:=ay _
 have A:val (bi y).2=y.natAbs:=ay _
 have B:(bi x).1=decide (x<0):=rfl
 have G:(bi y).1=decide (y<0):=rfl
 by_cases hs:(decide (x<0))=(decide (y<0))
 ·rw[B,G,ag (by rw[hs]; exact dL _),vt _ _ (by omega) (by omega),aa,j,A]
  have:(x<0)↔(y<0):=by simpa using hs
  refine⟨_,by rw[show (x+y).natAbs=x.natAbs+y.natAbs by omega],fun _=>?_⟩
  rw[ak]; omega
 ·have:¬((x<0)↔(y<0)):=by simpa using hs
  rw[B,G,ae (by simpa using hs),uV _ _ (qy _) (qy _) (by omega) (by omega),aa,j,A]
  unfold eA
  by_cases h1:x.natAbs<y.natAbs
  ·rw[ag h1,ae (by decide),Cz _ _ (Lt (by omega)) (by rw[j,A]; omega) (by omega),aa,j,A]
   refine⟨_,by rw[show (x+y).natAbs=y.natAbs - x.natAbs by omega],fun _=>?_⟩
   rw[ak]; omega
  ·rw[ae h1,ag (by split <;> decide),Cz _ _ (Lt (by omega)) (by rw[j,A]; omega) (by omega),aa,j,A]
   refine⟨_,by rw[show (x+y).natAbs=x.natAbs - y.natAbs by omega],fun _=>?_⟩
   rw[ak]; omega
theorem Ol (n0:Bool) (j:L00) (x y:Int) (hx:nl x<=70000000000000) (hy:nl y<=70000000000000):F.WI n0 j (bi x).1 (bi x).2 (bi y).1 (bi y).2=some (bi (x+y)):=by
 unfold F.WI
 obtain⟨b,A,B⟩:=CA x y hx hy
 rw[A,aa,kW _ _ _ _ B,aa]
theorem ve (x y:Int) (hx:nl x<=70000000000000) (hy:nl y<=70000000000000):F.Uy (bi x).1 (bi x).2 (bi y).1 (bi y).2=some (bi (x+y)):=by
 unfold F.Uy
 obtain⟨b,j,A⟩:=CA x y hx hy
 rw[j,aa,kW _ _ _ _ A,aa]
theorem xq (x y:Int) (hx:nl x<=70000000000000) (hy:nl y<=70000000000000):∃b,F.T4 (bi x).1 (bi x).2 (!(bi y).1) (bi y).2=some (b,au (x - y).natAbs)/\(x - y≠0->(b=true↔x - y<0)):=by
 by_cases h0:y=0
 ·
  subst h0
  unfold F.T4
  have N:(bi x).2.length<=70000000000000:=hx
  have B:(bi 0).2=[]:=cH
  have es:(bi 0).1=false:=rfl
  have A:val (bi x).2=x.natAbs:=ay _
  rw[B,es]
  have j:(bi x).1=decide (x<0):=rfl
  by_cases hs:x<0
  ·rw[j,ag (by rw[ai hs]; rfl),vt _ _ (by omega) (by simp),aa,A,jz]
   refine⟨_,by rw[show (x - 0).natAbs=x.natAbs+0 by omega],fun _=>by rw[ak]; omega⟩
  ·rw[j,ae (by rw[av hs]; decide),uV _ _ (qy _) xu (by omega) (by simp),aa,A,jz]
   have G:eA x.natAbs 0=if x.natAbs=0 then 0 else 1:=by unfold eA; rw[ae (by omega)]
   rw[G,ag (by split <;> decide),Cz _ _ (by simp) (by rw[jz]; omega) (by omega),aa,A,jz]
   refine⟨_,by rw[show (x - 0).natAbs=x.natAbs - 0 by omega],fun _=>by rw[ak]; omega⟩
 ·have I:(!(bi y).1)=(bi (-y)).1:=by
   unfold bi
   by_cases h:y<0
   ·rw[ai h,av (by omega)]; rfl
   ·rw[av h,ai (by omega)]; rfl
  have J:(bi y).2=(bi (-y)).2:=by rw[bi2,bi2,Int.natAbs_neg]
  rw[I,J,Int.sub_eq_add_neg]
  exact CA x (-y) hx (by rw[Ge]; exact hy)
theorem HZ (n0:Bool) (j:L00) (x y:Int) (hx:nl x<=70000000000000) (hy:nl y<=70000000000000):F.Wb n0 j (bi x).1 (bi x).2 (bi y).1 (bi y).2=some (bi (x - y)):=by
 unfold F.Wb
 obtain⟨b,A,B⟩:=xq x y hx hy
 rw[A,aa,kW _ _ _ _ B,aa]
theorem EK (x y:Int) (hx:nl x<=70000000000000) (hy:nl y<=70000000000000):F.UP (bi x).1 (bi x).2 (bi y).1 (bi y).2=some (bi (x - y)):=by
 unfold F.UP
 obtain⟨b,j,A⟩:=xq x y hx hy
 rw[j,aa,kW _ _ _ _ A,aa]
theorem Ex (x y:Int) (hx:nl x<=70000000000000) (hy:nl y<=70000000000000):F.XL (bi y).1 (bi y).2 (bi x).1 (bi x).2=some (bi (x - y)):=by
 unfold F.XL
 obtain⟨b,j,A⟩:=xq x y hx hy
 rw[j,aa,kW _ _ _ _ A,aa]
theorem NF (x y:Int) (h:x*y≠0):((decide (x<0) != decide (y<0))=true↔x*y<0):=by
 have hx:x≠0:=fun j=>h (by rw[j,Int.zero_mul])
 have hy:y≠0:=fun j=>h (by rw[j,Int.mul_zero])
 by_cases h1:x<0 <;> by_cases h2:y<0
 ·have:=Int.mul_pos_of_neg_of_neg h1 h2
  simp[h1,h2]; omega
 ·have:=Int.mul_neg_of_neg_of_pos h1 (show 0<y by omega)
  simp[h1,h2,this]
 ·have:=Int.mul_neg_of_pos_of_neg (show 0<x by omega) h2
  simp[h1,h2,this]
 ·have:=Int.mul_pos (show 0<x by omega) (show 0<y by omega)
  simp[h1,h2]; omega
theorem A4 (n0:Bool) (j:L00) (x y:Int) (h:nl x+nl y<=70368744177664):F.Vk n0 j (bi x).1 (bi x).2 (bi y).1 (bi y).2=some (bi (x*y)):=by
 unfold F.Vk
 have A:(bi x).2.length+(bi y).2.length<=70368744177664:=h
 rw[Ix _ _ (by omega),aa,qC,qC,<-Int.natAbs_mul,bis,bis,kW _ _ _ _ (NF x y),aa]
theorem C0 (n0:Bool) (A:L00) (x:Int) (G:-9223372036854775808<=x) (I:x<=9223372036854775807):F.VN n0 A x=some (bi x):=by
 have j:∀u:UInt64,u.toNat=x.natAbs->F.Zd n0 A x u=some (bi x):=by
  intro u hu
  unfold F.Zd
  dsimp only
  rw[nA,aa,hu,kW _ _ _ _ (fun _=>by rw[ak]),aa]
 unfold F.VN
 have B:(UInt64.ofInt x).toNat=(x%18446744073709551616).toNat:=by
  rw[UInt64.ofInt,bQ]
  have:=iz x (show (18446744073709551616:Int)≠0 by decide)
  have:=Int.emod_lt_of_pos x (show (0:Int)<18446744073709551616 by decide)
  omega
 by_cases h:x<0
 ·rw[ag (ai h)]
  refine j _ ?_
  rw[ft,B]
  have:(0:UInt64).toNat=0:=rfl
  omega
 ·rw[ae (by simpa using h)]
  refine j _ ?_
  rw[B]; omega
theorem mT (x:Int) (j:-9223372036854775808<=x) (A:x<=9223372036854775807):F.TD x=some (bi x):=by
 unfold F.TD
 rw[C0 _ _ x j A,aa]
theorem DT (a:L00) (h:a.length<=50000000000000):F.U0 a=some a:=by
 unfold F.U0
 have j:apO 4 [] a=some a:=by unfold apO; rw[ag (by simp; omega)]; simp
 rw[j,aa]
theorem B0 (n0:Bool) (j:L00) (x:Int) (h:nl x<=50000000000000):F.UF n0 j (bi x).1 (bi x).2=some (bi x):=by
 unfold F.UF
 rw[DT (bi x).2 h,aa,bi2,bis,kW _ _ _ _ (fun _=>by rw[ak]),aa]
theorem AE (x y:Int):(Int.tdiv x y).natAbs=x.natAbs / y.natAbs:=Int.natAbs_tdiv x y
theorem qM (x y:Int):(Int.tmod x y).natAbs=x.natAbs%y.natAbs:=Int.natAbs_tmod x y
theorem rQ (n0 A:Bool) (B G:L00) (x y:Int) (hy:y≠0) (I:nl x<=70368744177660) (J:nl y<=70000000000) :
  F.VZ n0 B (bi x).1 (bi x).2 (bi y).1 (bi y).2 A G=some ((bi (Int.tdiv x y)).1,(bi (Int.tdiv x y)).2,(bi (Int.tmod x y)).1,(bi (Int.tmod x y)).2):=by
 unfold F.VZ
 rw[Qb _ _ (qy _) (qy _) (by rw[bi2,Ne,mC]; omega) I J,aa,qC,qC]
 dsimp only
 rw[bis,bis,<-AE,<-qM,kW _ _ _ _ (fun h=>?_),aa,kW _ _ _ _ (fun h=>?_),aa]
 ·show decide (x<0)=true↔_
  rw[ak]
  rcases Int.lt_trichotomy x 0 with j | j | j
  ·have:=Int.tmod_nonneg y (show 0<=-x by omega)
   rw[Int.neg_tmod]at this
   omega
  ·subst j; simp at h
  ·have:=Int.tmod_nonneg y (show 0<=x by omega)
   omega
 ·have hp:Int.tdiv x y≠0:=h
  show (decide (x<0) != decide (y<0))=true↔_
  by_cases hx:x<0 <;> by_cases hyn:y<0
  ·have:=Int.tdiv_nonneg_of_nonpos_of_nonpos (show x<=0 by omega) (show y<=0 by omega)
   simp[hx,hyn]; omega
  ·simp only[hx,hyn,ir,dr]
   have N:Int.tdiv x y<=0:=by
    have:=Int.tdiv_nonneg (a:=-x) (b:=y) (by omega) (by omega)
    rw[Int.neg_tdiv]at this; omega
   simp; omega
  ·have N:Int.tdiv x y<=0:=by
    have:=Int.tdiv_nonneg (a:=x) (b:=-y) (by omega) (by omega)
    rw[Int.tdiv_neg]at this; omega
   simp[hx,hyn]; omega
  ·have:=Int.tdiv_nonneg (a:=x) (b:=y) (by omega) (by omega)
   simp[hx,hyn]; omega
theorem HE {x y:Int} (hy:0<y) (h:Int.tmod x y<0):Int.tdiv x y - 1=x / y/\Int.tmod x y+y=x%y:=by
 have j:=Int.mul_tdiv_add_tmod x y
 have A:(Int.tmod x y).natAbs<y.natAbs:=by rw[qM]; exact bG _ (by omega)
 have B:y*Int.tdiv x y=y*(Int.tdiv x y - 1)+y:=by rw[Int.mul_sub,Int.mul_one]; omega
 have:=(Int.ediv_emod_unique (a:=x) (b:=y) (q:=Int.tdiv x y - 1) (r:=Int.tmod x y+y) hy).2 ⟨by omega,by omega,by omega⟩
 exact⟨this.1.symm,this.2.symm⟩
theorem FW {x y:Int} (hy:0<y) (h:¬Int.tmod x y<0):Int.tdiv x y=x / y/\Int.tmod x y=x%y:=by
 have j:=Int.mul_tdiv_add_tmod x y
 have A:(Int.tmod x y).natAbs<y.natAbs:=by rw[qM]; exact bG _ (by omega)
 have:=(Int.ediv_emod_unique (a:=x) (b:=y) (q:=Int.tdiv x y) (r:=Int.tmod x y) hy).2 ⟨by omega,by omega,by omega⟩
 exact⟨this.1.symm,this.2.symm⟩
theorem Mb (x y:Int):nl (Int.tdiv x y)<=nl x:=kS (by rw[AE]; exact dw _ _)
theorem NJ (x y:Int):nl (Int.tmod x y)<=nl x:=kS (by rw[qM]; exact Nat.mod_le _ _)
theorem Bz:nl 1<=1:=zG (by decide)
theorem yF (n0 G:Bool) (I J:L00) (x y:Int) (hy:0<y) (N:nl x<=70368744177660) (O:nl y<=70000000000) (B:x<0->nl x<=70000000000000) :
  F.Wa n0 I (bi x).1 (bi x).2 (bi y).1 (bi y).2 G J=some ((bi (x / y)).1,(bi (x / y)).2,(bi (x%y)).1,(bi (x%y)).2):=by
 have R:=Mb x y; have U:=NJ x y; have V:=Bz
 unfold F.Wa
 rw[B0 _ _ _ (by omega),aa,rQ _ _ _ _ _ _ (by omega) N O,aa]
 dsimp only
 by_cases h:Int.tmod x y<0
 ·obtain⟨j,A⟩:=HE hy h
  have B:=B (by rcases Int.lt_or_le x 0 with hx | hx; exact hx; have:=Int.tmod_nonneg y hx; omega)
  rw[ag (show (bi (Int.tmod x y)).1=true from ai h),ae (by rw[bi1 (by omega)]; decide),mT 1 (by decide) (by decide),aa,EK _ _ (by omega) (by omega),aa,ve _ _ (by omega) (by omega),aa,j,A]
  rfl
 ·obtain⟨j,A⟩:=FW hy h
  rw[ae (by rw[show (bi (Int.tmod x y)).1=false from av h]; decide),j,A]
  rfl
theorem zj (n0 j B:Bool) (G A I:L00):F.ZJ n0 G B I j A=F.Wa n0 G j A B I j A:=rfl
theorem Ig (n0:Bool) (j:L00) (x y:Int) (hy:0<y) (A:nl x<=70368744177660) (B:nl y<=70000000000) (G:x<0->nl x<=70000000000000):F.Xu n0 j (bi x).1 (bi x).2 (bi y).1 (bi y).2=some (bi (x%y)):=by
 unfold F.Xu
 rw[yF _ _ _ _ x y hy A B G,aa]
theorem Wq7 (x y:Int) (hy:0<y) (j:nl x<=70368744177660) (A:nl y<=70000000000) (B:x<0->nl x<=70000000000000):F.Ze (bi x).1 (bi x).2 (bi y).1 (bi y).2=some (bi (x%y)):=by
 unfold F.Ze
 rw[zj,yF _ _ _ _ x y hy j A B,aa]
def Ar (x y:Int):Int:=if x<y then -1 else if x=y then 0 else 1
theorem uZ (x y:Int) (hx:nl x<=70368744177664) (hy:nl y<=70368744177664):F.UK (bi x).1 (bi x).2 (bi y).1 (bi y).2=some (Ar x y):=by
 have I:(bi x).2.length<=70368744177664:=hx
 have J:(bi y).2.length<=70368744177664:=hy
 unfold F.UK Ar
 rw[uV _ _ (qy x) (qy y) (by omega) (by omega),qC,qC]
 unfold eA
 have j:(bi x).1=decide (x<0):=rfl
 have A:(bi y).1=decide (y<0):=rfl
 obtain⟨N,B⟩:∃q,(bi x).1=q:=⟨_,rfl⟩
 obtain⟨O,G⟩:∃q,(bi y).1=q:=⟨_,rfl⟩
 rw[B]at j ⊢; rw[G]at A ⊢
 by_cases h1:x<0 <;> by_cases h2:y<0
 ·rw[ai h1]at j; rw[ai h2]at A; subst j; subst A
  rw[ae (by decide),aa,ag rfl]
  rcases Int.lt_trichotomy x y with h | h | h
  ·rw[ag h,ae (by omega),ae (by omega)]; rfl
  ·rw[ae (by omega),ag (by omega),ae (by omega),ag h]; rfl
  ·rw[ag (by omega),ae (by omega),ae (by omega)]; rfl
 ·rw[ai h1]at j; rw[av h2]at A; subst j; subst A
  rw[ag (by decide),ag rfl,ag (by omega)]
 ·rw[av h1]at j; rw[ai h2]at A; subst j; subst A
  rw[ag (by decide),ae (by decide),ae (by omega),ae (by omega)]
 ·rw[av h1]at j; rw[av h2]at A; subst j; subst A
  rw[ae (by decide),aa,ae (by decide)]
  rcases Int.lt_trichotomy x y with h | h | h
  ·rw[ag (by omega),ag h]
  ·rw[ae (by omega),ag (by omega),ae (by omega),ag h]
  ·rw[ae (by omega),ae (by omega),ae (by omega),ae (by omega)]
theorem wN (x:Int):F.TK (bi x).1 (bi x).2=some (if x=0 then 0 else if x<0 then -1 else 1):=by
 unfold F.TK
 by_cases h:x=0
 ·subst h; rw[ag rfl]; exact ag (by rw[bi2,show Int.natAbs 0=0 from rfl,cH]; rfl)
 ·have:(bi x).2.length≠0:=fun j=>h (by have:=bn j; rw[bi2,mC]at this; omega)
  rw[ae (by simpa using fun j=>this (by rw[j]; rfl)),ae h,bis]
  by_cases h1:x<0
  ·rw[ag (by simp[h1]),ag h1]
  ·rw[ae (by simp[h1]),ae h1]
def beN:L01->Nat
 | []=>0
 | x :: l=>x.toNat*256^l.length+beN l
def beB:Nat->Nat->L01
 | 0,_=>[]
 | k+1,n=>UInt8.ofNat (n / 256^k) :: beB k n
theorem mb:∀k n,(beB k n).length=k
 | 0,_=>rfl
 | k+1,n=>by simp[beB,mb k n]
theorem lG:∀l:L01,beN l<256^l.length
 | []=>by simp[beN]
 | x :: l=>by
  have j:=lG l; have A:=x.toNat_lt
  have:(x.toNat+1)*256^l.length<=256*256^l.length:=aT _ (by omega)
  rw[aW]at this
  rw[beN,ca,bo,aP (256^_) 256]
  omega
theorem wv:∀k n,beN (beB k n)=n%256^k
 | 0,n=>by simp[beB,beN,Nat.mod_one]
 | k+1,n=>by
  rw[beB,beN,mb,wv k n,dY,show (2:Nat)^8=256 from rfl,Nat.mod_pow_succ,aP (256^k),cw]
theorem qZ:∀a b:L01,beN (a++b)=beN a*256^b.length+beN b
 | [],b=>by simp[beN]
 | x :: a,b=>by
  rw[dA,beN,beN,qZ a b,aE,aW,bS,aK]; omega
theorem mE (l:L01) {i:Nat} (h:i<l.length):beN (l.take (i+1))=256*beN (l.take i)+(l.getD i 0).toNat:=by
 rw[List.take_add_one,an,aA h,qZ]
 simp[beN]; omega
theorem BW:∀(k n i:Nat),i<k->(beB k n).getD i 0=UInt8.ofNat (n / 256^(k - 1 - i))
 | 0,_,_,h=>by omega
 | k+1,n,0,_=>by simp[beB]
 | k+1,n,i+1,h=>by
  rw[beB,List.getD_cons_succ,BW k n i (by omega),show k+1 - 1 - (i+1)=k - 1 - i by omega]
theorem nc {n k:Nat} (h:n<256^k):(au n).length<=(k+3) / 4:=by
 refine bv (aU h ?_)
 rw[show (4294967296:Nat)=256^4 from rfl,<-cr]
 exact ba (by decide) (by omega)
theorem pO (n0:Bool) (A:L00) (b:L01) (hb:b.length<=140737488351232):F.Vf n0 A b=some (bi (beN b:Nat)):=by
 unfold F.Vf
 have e:=eY (f:=F.Ye n0 A b) (fun (x:Nat) i=>(au x,(i:Int))) (fun i x=>i<=b.length->x=beN (b.take i)) (fun x i=>256*x+(b.getD i 0).toNat) 0 b.length
  (X:=fun x=>some (bi (x:Nat)))
  (fun i x _ hi hx=>by
   have hx:=hx (by omega)
   refine⟨?_,fun _=>by rw[hx,mE b hi]⟩
   have w4:wI ((i:Int)+1)=((i+1:Nat):Int):=by rw[aD (by omega) (by omega)]; rfl
   have hl:(au x).length<=(i+3) / 4:=by
    rw[hx]
    have:=lG (b.take i)
    rw[aN,bg (by omega)]at this
    exact nc this
   have B:(8:UInt64).toNat=8:=rfl
   unfold F.Ye
   dsimp only
   rw[ag (ai (by omega)),wB _ 8 (by rw[B]; omega) (by omega),aa,bh hi 0,aa,nA,aa,ay,B]
   have G:(au (x*2^8)).length<=(i+3) / 4+1:=by
    have:=pt x (2^8)
    have J:(au (2^8)).length<=1:=bv (by decide)
    omega
   have I:(au (b.getD i 0).toUInt64.toNat).length<=2:=bv (by have:=(b.getD i 0).toUInt64.toNat_lt; omega)
   rw[vt _ _ (by omega) (by omega),aa,ay,ay,w4]
   have:(b.getD i 0).toUInt64.toNat=(b.getD i 0).toNat:=UInt8.toNat_toUInt64 _
   rw[this,show x*2^8=256*x by omega]; rfl)
  (fun x hx=>by
   unfold F.Ye
   dsimp only
   rw[ae (by simp),xj,aa,GM]; rfl)
  b.length 0 0 (aw _) (by omega) (fun _=>by simp[beN])
 have j:=fH (fun i (x:Nat)=>i<=b.length->x=beN (b.take i)) (fun x i=>256*x+(b.getD i 0).toNat) (fun i x hx=>fun hi=>by rw[hx (by omega),mE b (by omega)]) b.length 0 0 (fun _=>by simp[beN])
 rw[bm]at j
 have j:=j (aw _)
 rw[j,cO]at e
 rw[cH]at e
 exact e
theorem rF {n k:Nat} (j:n<2^k) (A:2^(k - 1)<=n) (B:1<=k):nb n=k:=by
 have a1:=lL j
 rcases bY (nb n) k with h | h
 ·have a2:=(gp n).1
  have a3:=ba (show 0<2 by decide) (show nb n<=k - 1 by omega)
  omega
 ·omega
theorem pQ (n:Nat):nK (au n)=nb n:=by
 unfold nK
 by_cases h0:n=0
 ·subst h0; rw[cH,ag (show ([]:L00).length=0 from rfl),kU]
 ·obtain⟨l,hl⟩:∃l,au n=l:=⟨_,rfl⟩
  have j:l.length≠0:=by have:=mB.2 h0; rw[hl]at this; omega
  have I:val l=n:=by rw[<-hl,ay]
  have hc:Can l:=by rw[<-hl]; exact ym n
  rw[hl,ae j]
  have A:=cJ l (l.length - 1)
  rw[show l.length - 1+1=l.length by omega,cO,I]at A
  have J:=cv (l.take (l.length - 1))
  rw[aN,bg (by omega)]at J
  obtain⟨t,B⟩:∃t,l.getD (l.length - 1) 0=t:=⟨_,rfl⟩
  rw[B]at A ⊢
  have G:t.toNat≠0:=by
   intro h
   have h:t=0:=cL.1 h
   refine hc ?_
   rw[List.getLast?_eq_getElem?]
   rw[<-B,an,aA (show l.length - 1<l.length by omega)]at h
   rw[aA (show l.length - 1<l.length by omega),<-h]; rfl
  obtain⟨n1,N⟩:=gp t.toNat
  obtain⟨O,R⟩:=N G
  have hp:(4294967296:Nat)^(l.length - 1)=2^(32*(l.length - 1)):=by rw[cr]
  symm
  refine rF ?_ ?_ (by omega)
  ·rw[bS,<-hp]
   have:4294967296^(l.length - 1)*(t.toNat+1)<=4294967296^(l.length - 1)*2^nb t.toNat:=bj _ n1
   rw[aJ]at this
   omega
  ·rw[show 32*(l.length - 1)+nb t.toNat - 1=32*(l.length - 1)+(nb t.toNat - 1) by omega,bS,<-hp]
   have:4294967296^(l.length - 1)*2^(nb t.toNat - 1)<=4294967296^(l.length - 1)*t.toNat:=bj _ O
   omega
def nby (n:Nat):Nat:=(nb n+7) / 8
theorem KZ (k:Nat):(256:Nat)^k=2^(8*k):=by rw[cr]
theorem vN (n:Nat):n<256^nby n:=by
 rw[KZ]
 exact aU (gp n).1 (ba (by decide) (by unfold nby; omega))
theorem GR {n i:Nat} (h:i<nby n):256^i<=n:=by
 rw[KZ]
 have hn:n≠0:=by rintro rfl; unfold nby at h; rw[kU]at h; omega
 obtain⟨j,A⟩:=(gp n).2 hn
 exact aZ (ba (by decide) (by unfold nby at h; omega)) j
theorem GX {n k:Nat} (h:n<256^k):nby n<=k:=by
 rcases bY k (nby n) with j | j
 ·have:=GR j; omega
 ·exact j
theorem mu (n:Nat):nb n<=32*(au n).length:=by
 refine lL ?_
 have:=cv (au n)
 rw[ay]at this
 rw[cr]; exact this
theorem x8 (l:L00) (i:Nat):(dB (l.getD (i / 4) 0) (8*(i%4))).toUInt8=UInt8.ofNat (val l / 256^i):=by
 apply et.1
 rw[UInt32.toNat_toUInt8,lJ,dY]
 have e8:(2:Nat)^8=256:=rfl
 rw[e8]
 have j:(256:Nat)^i=4294967296^(i / 4)*256^(i%4):=by
  rw[show (4294967296:Nat)=256^4 from rfl,<-cr,<-bS]; congr 1; omega
 rw[j,<-dM,kB,ef]
 obtain⟨w,hw⟩:∃w,(l.getD (i / 4) 0).toNat=w:=⟨_,rfl⟩
 obtain⟨R,A⟩:∃R,val (l.drop (i / 4+1))=R:=⟨_,rfl⟩
 rw[hw,A]
 have:i%4=0\/i%4=1\/i%4=2\/i%4=3:=by omega
 rcases this with h | h | h | h <;> rw[h] <;> simp <;> omega
theorem Kc (x:Int) (hx:nl x<=1000000000):F.X6 (bi x).1 (bi x).2=some (beB (nby x.natAbs) x.natAbs):=by
 obtain⟨n,hn⟩:∃n,x.natAbs=n:=⟨_,rfl⟩
 have hl:(au n).length<=1000000000:=by rw[<-hn]; exact hx
 have hb:=mu n
 obtain⟨m,hm⟩:∃m,nby n=m:=⟨_,rfl⟩
 have V:m<=4*(au n).length:=by rw[<-hm]; unfold nby; omega
 unfold F.X6
 rw[bi2,hn,length_eq _ (by omega),aa,pQ]
 have G:wI (Int.tdiv (wI ((nb n:Int)+7)) 8)=(m:Int):=by
  rw[aD (x:=(nb n:Int)+7) (by omega) (by omega),bN (by omega),aD (by omega) (by omega),<-hm]; unfold nby; omega
 rw[G,aG,iG (by omega),aa,aq,hm]
 have e:=eY (f:=F.ZE (au n) (m:Int)) (fun (y:L01) i=>((i:Int),y)) (fun i y=>i<=m->y=List.replicate (m - i) 0++beB i n) (fun y i=>y.set (m - 1 - i) (UInt8.ofNat (n / 256^i))) 0 m
  (X:=fun y=>some y)
  (fun i y _ hi hy=>by
   have hy:=hy (by omega)
   have A:y.set (m - 1 - i) (UInt8.ofNat (n / 256^i))=List.replicate (m - (i+1)) 0++beB (i+1) n:=by
    rw[hy,show m - i=m - (i+1)+1 by omega,List.replicate_succ',aS,show m - 1 - i=m - (i+1) by omega,dV _ _ (by simp)]
    simp[beB]
   refine⟨?_,fun _=>A⟩
   have B:i / 4<(au n).length:=by
    refine sn (k:=i / 4) ?_
    refine aZ ?_ (GR (show i<nby n by omega))
    rw[show (4294967296:Nat)=256^4 from rfl,<-cr]
    exact ba (by decide) (by omega)
   have Y:y.length=m:=by rw[hy]; simp[mb]; omega
   have w4:wI ((i:Int)+1)=((i+1:Nat):Int):=by rw[aD (by omega) (by omega)]; rfl
   have I:wI (Int.tdiv (i:Int) 4)=((i / 4:Nat):Int):=by rw[bN (by omega),aD (by omega) (by omega)]; omega
   have J:wI ((wI ((m:Int) - 1)) - (i:Int))=((m - 1 - i:Nat):Int):=by rw[aD (x:=(m:Int) - 1) (by omega) (by omega),aD (by omega) (by omega)]; omega
   have N:(8*((UInt64.ofInt (i:Int))%4)).toNat=8*(i%4):=by
    have O:(UInt64.ofInt (i:Int)).toNat=i:=by
     rw[UInt64.ofInt,bQ]
     omega
    have R:(4:UInt64).toNat=4:=rfl
    have U:(8:UInt64).toNat=8:=rfl
    rw[i7,dh,O,R,U]; omega
   unfold F.ZE
   dsimp only
   rw[ag (ai (by omega)),I,bh B 0,aa,J,bh (show m - 1 - i<y.length by omega) 0,aa,aG,aq,N,x8,ay,w4]
   rfl)
  (fun y hy=>by
   unfold F.ZE
   dsimp only
   rw[ae (by simp)])
  m 0 (List.replicate m 0) (aw _) (by omega) (fun _=>by simp[beB])
 have j:=fH (fun i (y:L01)=>i<=m->y=List.replicate (m - i) 0++beB i n) (fun y i=>y.set (m - 1 - i) (UInt8.ofNat (n / 256^i)))
  (fun i y hy=>fun hi=>by
   rw[hy (by omega),show m - i=m - (i+1)+1 by omega,List.replicate_succ',aS,show m - 1 - i=m - (i+1) by omega,dV _ _ (by simp)]
   simp[beB]) m 0 (List.replicate m 0) (fun _=>by simp[beB])
 rw[bm]at j
 have j:=j (aw _)
 rw[j,Nat.sub_self,List.replicate_zero,bT]at e
 exact e
def pK (c:UInt8):Nat:=if c.toNat<=57 then c.toNat - 48 else c.toNat - 87
def kq (c:UInt8):Bool:=(48<=c.toNat&&c.toNat<=57) || (97<=c.toNat&&c.toNat<=102)
def i0:L01->Nat
 | []=>0
 | x :: l=>pK x*16^l.length+i0 l
theorem Ed {c:UInt8} (h:kq c=true):pK c<16:=by
 unfold kq at h; unfold pK
 simp only[fD,aO,ak]at h
 split <;> omega
theorem tC:∀a b:L01,i0 (a++b)=i0 a*16^b.length+i0 b
 | [],b=>by simp[i0]
 | x :: a,b=>by
  rw[dA,i0,i0,tC a b,aE,aW,bS,aK]; omega
theorem DX:∀l:L01,l.all kq=true->i0 l<16^l.length
 | [],_=>by simp[i0]
 | x :: l,h=>by
  rw[List.all_cons,aO]at h
  have j:=DX l h.2; have A:=Ed h.1
  have:(pK x+1)*16^l.length<=16*16^l.length:=aT _ (by omega)
  rw[aW]at this
  rw[i0,ca,bo,aP (16^_) 16]
  omega
theorem qq (l:L01) {i:Nat} (h:i<l.length):i0 (l.take (i+1))=16*i0 (l.take i)+pK (l.getD i 0):=by
 rw[List.take_add_one,an,aA h,tC]
 simp[i0]; omega
theorem BK {l:L01} {p:UInt8->Bool} (h:l.all p=true) {i:Nat} (hi:i<l.length):p (l.getD i 0)=true:=by
 rw[an,aA hi]
 exact ci.1 h _ (cM hi)
theorem J8 {l:L01} {p:UInt8->Bool} (h:l.all p=true) (i:Nat):(l.take i).all p=true:=
 ci.2 fun x hx=>ci.1 h x (List.mem_of_mem_take hx)
theorem Km (n0:Bool) (N:L00) (sg:Bool) (s:L01) (n i:Nat) (hs:s.all kq=true) (hi:i<s.length) (O:s.length<=1000000000) (hn:(au n).length<=1000000000) :
  F.Wu n0 N sg s 16 (au n,(i:Int))=some (.inl (au (16*n+pK (s.getD i 0)),((i+1:Nat):Int))):=by
 have hc:=BK hs hi
 obtain⟨c,B⟩:∃c,s.getD i 0=c:=⟨_,rfl⟩
 rw[B]at hc ⊢
 have hd:=Ed hc
 have w4:wI ((i:Int)+1)=((i+1:Nat):Int):=by rw[aD (by omega) (by omega)]; rfl
 have G:∀d:Nat,d<16->F.Vj 16 (au n) (i:Int) (d:Int)=some (.inl (au (16*n+d),((i+1:Nat):Int))):=by
  intro d hd
  unfold F.Vj
  have I:(UInt64.ofInt 16).toNat=16:=rfl
  have J:(UInt64.ofInt (d:Int)).toNat=d:=by rw[UInt64.ofInt,bQ]; omega
  have j:(au 16).length<=1:=bv (by decide)
  have A:(au d).length<=1:=bv (by omega)
  have R:=pt n 16
  rw[ae (by simp only[ak]; omega),nA,aa,I,Ix _ _ (by omega),aa,nA,aa,J,ay,ay,vt _ _ (by omega) (by omega),aa,ay,ay,w4,aP n 16]
  rfl
 unfold F.Wu
 dsimp only
 rw[ag (ai (by omega)),bh hi 0,aa,B]
 unfold kq at hc
 simp only[fD,aO,ak]at hc
 rw[ag (ai (by rw[dU]; have:(48:UInt8).toNat=48:=rfl; omega))]
 unfold F.aab
 by_cases h:c.toNat<=57
 ·have j:(c - 48).toNat=c.toNat - 48:=UInt8.toNat_sub_of_le _ _ (by rw[dU]; have:(48:UInt8).toNat=48:=rfl; omega)
  have A:pK c=c.toNat - 48:=ag h
  rw[ag (ai (by rw[dU]; exact h)),aG,j,A]
  exact G _ (by omega)
 ·have j:(c - 97).toNat=c.toNat - 97:=UInt8.toNat_sub_of_le _ _ (by rw[dU]; have:(97:UInt8).toNat=97:=rfl; omega)
  have A:pK c=c.toNat - 87:=ae h
  rw[ae (by rw[ak,dU]; exact h),ag (ai (by rw[dU]; have:(97:UInt8).toNat=97:=rfl; omega))]
  unfold F.Z4
  rw[ag (ai (by rw[dU]; have:(122:UInt8).toNat=122:=rfl; omega)),aG,j,aD (by omega) (by omega),A,show ((c.toNat - 97:Nat):Int)+10=((c.toNat - 87:Nat):Int) by omega]
  exact G _ (by omega)
theorem Ag (n0:Bool) (B:L00) (s:L01) (hs:s.all kq=true) (G:s≠[]) (I:s.length<=1000000000):F.XW n0 B s 16=some (true,false,au (i0 s)):=by
 have hl:0<s.length:=fg.2 G
 have hc:=BK hs hl
 unfold kq at hc
 simp only[fD,aO,ak]at hc
 have A:∀d:UInt8,d.toNat<48->(s.getD 0 0 == d)=false:=fun d hd=>by
  rw[c8]; intro h; rw[h]at hc; omega
 unfold F.XW
 rw[ag (ai (by omega)),show (0:Int)=((0:Nat):Int) from rfl,bh hl 0,aa,ae (by rw[A 45 (by decide)]; decide),aa,A 43 (by decide)]
 unfold F.Zi F.aao
 rw[ae (by decide)]
 dsimp only
 rw[ae (by decide)]
 unfold F.Ww
 dsimp only
 rw[ae (by simpa using G),ae (by decide)]
 unfold F.XC
 rw[ae (by decide)]
 have N:∀i,i<=s.length->(au (i0 (s.take i))).length<=1000000000:=fun i hi=>by
  have J:=DX (s.take i) (J8 hs i)
  rw[aN,bg hi]at J
  have O:=nc (k:=i) (aU J (Nat.pow_le_pow_left (by decide) i))
  omega
 have e:=eY (f:=F.Wu n0 B false s 16) (fun (x:Nat) i=>(au x,(i:Int))) (fun i x=>i<=s.length->x=i0 (s.take i)) (fun x i=>16*x+pK (s.getD i 0)) 0 s.length
  (X:=fun x=>some (true,false,au x))
  (fun i x _ hi hx=>by
   have hx:=hx (by omega)
   exact⟨Km n0 B false s x i hs hi I (by rw[hx]; exact N i (by omega)),fun _=>by rw[hx,qq s hi]⟩)
  (fun x hx=>by
   unfold F.Wu
   dsimp only
   rw[ae (by simp),xj,aa]; rfl)
  s.length 0 0 (aw _) (by omega) (fun _=>by simp[i0])
 have j:=fH (fun i (x:Nat)=>i<=s.length->x=i0 (s.take i)) (fun x i=>16*x+pK (s.getD i 0)) (fun i x hx=>fun hi=>by rw[hx (by omega),qq s (by omega)]) s.length 0 0 (fun _=>by simp[i0])
 rw[bm]at j
 have j:=j (aw _)
 rw[j,cO,cH]at e
 exact e
theorem tK (a:L00) (ha:a.length<=4611686018427387904):∀k,k<=a.length->(∀j,k<=j->a.getD j 0=0)->∃m,loop (F.Xo a) k=some m/\m<=a.length/\a.take m=au (val a)
 | 0,_,hz=>by
  refine⟨0,?_,by omega,pv (by omega) hz (.inl rfl)⟩
  have h:F.Xo a 0=bk (grd (0<=(((a.take 0).length:Int):Int)/\(((a.take 0).length:Int):Int).toNat<=(a.take 0).length/\(((a.take 0).length:Int):Int)=((a.take 0).length:Int)) <| some ((((a.take 0).length:Int):Int).toNat)):=rfl
  rw[cd h,grd_true _ (by simp)]; rfl
 | k+1,hk,hz=>by
  have hl:(a.take (k+1)).length=k+1:=by rw[aN]; omega
  have w:wI (((k+1:Nat):Int) - 1)=(k:Int):=by rw[aD (by omega) (by omega)]; omega
  have hg:ax (a.take (k+1)) (k:Int)=some (a.getD k 0):=by
   rw[bh (show k<(a.take (k+1)).length by omega) 0]
   congr 1
   rw[an,bP,ag (by omega),<-an]
  have hL:F.Xo a (k+1)=if (decide ((0:Int)<((a.take (k+1)).length:Int)))=true then af (ax (a.take (k+1)) (wI (((a.take (k+1)).length:Int) - 1):Int)) fun A=>F.UM a (k+1) (A == 0) else F.UM a (k+1) false:=rfl
  rw[hl,ag (ai (by omega)),w,hg,aa]at hL
  by_cases h0:a.getD k 0=0
  ·obtain⟨m,B,G⟩:=tK a ha k (by omega) (fun j I=>by
    rcases bY k j with h | h
    ·exact hz j (by omega)
    ·rw[show j=k by omega]; exact h0)
   refine⟨m,?_,G⟩
   rw[<-B]
   refine bp ?_
   rw[hL,h0]
   unfold F.UM
   rw[ag (by rfl),hl,w,grd_true _ (by omega)]; rfl
  ·refine⟨k+1,?_,hk,pv hk hz (.inr (by simpa using h0))⟩
   have hn:(a.getD k 0 == 0)=false:=by rw[c8]; exact h0
   rw[hn]at hL
   unfold F.UM at hL
   rw[ae (by decide),hl]at hL
   rw[cd hL,grd_true _ (by omega)]; rfl
theorem jJ (a:L00) (ha:a.length<=4611686018427387904):∃m,F.TJ a=some m/\m<=a.length/\a.take m=au (val a):=
 tK a ha a.length (aw _) fun j A=>iJ A
theorem im (a:L00) (ha:a.length<=4611686018427387904):∃m,F.Ti a=some m/\m<=a.length/\a.take m=au (val a):=by
 obtain⟨m,j,A⟩:=jJ a ha
 exact⟨m,by unfold F.Ti; rw[j,aa],A⟩
theorem Ai {n k:Nat} (h:2^k<=n):nb n=nb (n / 2^k)+k:=by
 have hp:=dx k
 have j:n / 2^k≠0:=by
  have:=Nat.div_le_div_right (c:=2^k) h
  rw[Nat.div_self hp]at this; omega
 obtain⟨A,B⟩:=gp (n / 2^k)
 obtain⟨G,I⟩:=B j
 refine rF ?_ ?_ (by omega)
 ·rw[bS]; exact (fo hp).1 A
 ·rw[show nb (n / 2^k)+k - 1=nb (n / 2^k) - 1+k by omega,bS]
  exact (Nat.le_div_iff_mul_le hp).1 G
def wZ:L01:=[0,1,2,2,3,3,3,3,4,4,4,4,4,4,4,4,5,5,5,5,5,5,5,5,5,5,5,5,5,5,5,5,6,6,6,6,6,6,6,6,6,6,6,6,6,6,6,6,6,6,6,6,6,6,6,6,6,6,6,6,6,6,6,6,7,7,7,7,7,7,7,7,7,7,7,7,7,7,7,7,7,7,7,7,7,7,7,7,7,7,7,7,7,7,7,7,7,7,7,7,7,7,7,7,7,7,7,7,7,7,7,7,7,7,7,7,7,7,7,7,7,7,7,7,7,7,7,7,8,8,8,8,8,8,8,8,8,8,8,8,8,8,8,8,8,8,8,8,8,8,8,8,8,8,8,8,8,8,8,8,8,8,8,8,8,8,8,8,8,8,8,8,8,8,8,8,8,8,8,8,8,8,8,8,8,8,8,8,8,8,8,8,8,8,8,8,8,8,8,8,8,8,8,8,8,8,8,8,8,8,8,8,8,8,8,8,8,8,8,8,8,8,8,8,8,8,8,8,8,8,8,8,8,8,8,8,8,8,8,8,8,8,8,8,8,8,8,8,8,8,8,8,8,8,8,8]
def ck (i:Nat) (t:Nat):Bool:=Nat.blt i (2^t)&&(Nat.beq i 0&&Nat.beq t 0 || Nat.ble (2^(t - 1)) i&&Nat.ble 1 t)
def ckA:L01->Nat->Bool
 | [],_=>true
 | x :: l,i=>ck i x.toNat&&ckA l (i+1)
theorem Ht:∀(l:L01) (i j:Nat),ckA l i=true->j<l.length->ck (i+j) (l.getD j 0).toNat=true
 | [],_,_,_,h=>by simp at h
 | x :: l,i,0,h,_=>by
  rw[ckA,aO]at h
  exact h.1
 | x :: l,i,j+1,h,hj=>by
  rw[ckA,aO]at h
  have:=Ht l (i+1) j h.2 (by simpa using hj)
  rw[List.getD_cons_succ,show i+(j+1)=i+1+j by omega]
  exact this
theorem Mk:ckA wZ 0=true:=by decide +kernel
theorem JC:Nat.beq wZ.length 256=true:=by decide +kernel
theorem P3 (b:Nat) (hb:b<256):∃t:UInt8,ax wZ (b:Int)=some t/\t.toNat=nb b:=by
 have hl:=bJ JC
 have h:=Ht wZ 0 b Mk (by omega)
 rw[bm]at h
 unfold ck at h
 rw[aO,fD,aO,aO]at h
 obtain⟨B,j⟩:=h
 rw[fM]at B
 refine⟨wZ.getD b 0,bh (by omega) 0,?_⟩
 rcases j with⟨j,A⟩ | ⟨j,A⟩
 ·rw[bJ j,kU]
  rw[bJ j]at A
  exact bJ A
 ·exact (rF B (ao j) (ao A)).symm
theorem CH (y:UInt32) (k:Int):F.Yt (y,k)=af (ax wZ (y.toUInt8.toNat:Int)) fun A=>bz (wI (k+(A.toNat:Int))) fun j=>some j:=rfl
theorem Aj (x:UInt32):F.Xt x=some (nb x.toNat:Int):=by
 have hx:=eg x
 have A:∀(y:UInt32) (k:Nat),y.toNat<256->k<=24->F.Yt (y,(k:Int))=some ((nb y.toNat+k:Nat):Int):=by
  intro y k hy G
  have j:y.toUInt8.toNat=y.toNat:=by rw[UInt32.toNat_toUInt8]; omega
  obtain⟨t,I,J⟩:=P3 y.toNat hy
  have N:=lL (n:=y.toNat) (k:=8) hy
  rw[CH,j,I,aa,aG,J,aD (by omega) (by omega)]
  congr 1; omega
 have B:∀(y:UInt32) (k:Nat),y.toNat<65536->k<=16->F.Yx (y,(k:Int))=some ((nb y.toNat+k:Nat):Int):=by
  intro y k hy G
  unfold F.Yx
  dsimp only
  by_cases h:256<=y.toNat
  ·have j:(dB y 8).toNat=y.toNat / 2^8:=by rw[lJ]; rfl
   rw[ag (ai (by rw[ff]; exact h)),aD (by omega) (by omega),show (k:Int)+8=((k+8:Nat):Int) by omega,A _ _ (by rw[j]; omega) (by omega),j,Ai (n:=y.toNat) (k:=8) (by omega)]
   congr 1; omega
  ·rw[ae (by rw[ak,ff]; exact h)]
   exact A y k (by omega) (by omega)
 unfold F.Xt
 by_cases h:65536<=x.toNat
 ·have j:(dB x 16).toNat=x.toNat / 2^16:=by rw[lJ]; rfl
  rw[ag (ai (by rw[ff]; exact h)),show (16:Int)=((16:Nat):Int) from rfl,B _ _ (by rw[j]; omega) (by omega),j,Ai (n:=x.toNat) (k:=16) (by omega)]
 ·rw[ae (by rw[ak,ff]; exact h),show (0:Int)=((0:Nat):Int) from rfl,B _ _ (by omega) (by omega),br]
theorem jO (a:L00) (ha:a.length<=100000000000000):F.Tu a=some (nb (val a):Int):=by
 obtain⟨m,j,G,A⟩:=im a (by omega)
 have hl:(au (val a)).length<=a.length:=bv (cv a)
 unfold F.Tu
 rw[j,aa,A,<-pQ]
 unfold nK
 by_cases h0:(au (val a)).length=0
 ·rw[ag (by rw[h0]; rfl),ag h0]; rfl
 ·have B:wI (((au (val a)).length:Int) - 1)=(((au (val a)).length - 1:Nat):Int):=by rw[aD (by omega) (by omega)]; omega
  have I:=Jg ((au (val a)).getD ((au (val a)).length - 1) 0)
  rw[ae (by simpa using fun h=>h0 (by rw[h]; rfl)),ae h0,B,bh (by omega) 0,aa,Aj,aa,aD (x:=32*_) (by omega) (by omega),aD (by omega) (by omega)]
  congr 1
theorem Ek (o:L01) (a:L00) (Y:o.length<=1000000000000000) (ha:a.length<=100000000000000):F.Wq o a=some (beB o.length (val a)):=by
 unfold F.Wq
 have e:=eY (f:=F.Zw o a) (fun (y:L01) i=>((i:Int),y)) (fun i y=>i<=o.length->y.length=o.length/\∀k,k<i->y.getD k 0=UInt8.ofNat (val a / 256^(o.length - 1 - k))) (fun y i=>y.set i (UInt8.ofNat (val a / 256^(o.length - 1 - i)))) 0 o.length
  (X:=fun y=>some y)
  (fun i y _ hi hy=>by
   obtain⟨hl,hy⟩:=hy (by omega)
   refine⟨?_,fun _=>⟨by simpa using hl,fun k G=>?_⟩⟩
   ·have w4:wI ((i:Int)+1)=((i+1:Nat):Int):=by rw[aD (by omega) (by omega)]; rfl
    obtain⟨j,B⟩:∃t,o.length - 1 - i=t:=⟨_,rfl⟩
    have N:wI ((wI ((y.length:Int) - 1)) - (i:Int))=(j:Int):=by rw[hl,aD (x:=(o.length:Int) - 1) (by omega) (by omega),aD (by omega) (by omega)]; omega
    have O:wI (Int.tdiv (j:Int) 4)=((j / 4:Nat):Int):=by rw[bN (by omega),aD (by omega) (by omega)]; omega
    have R:wI (8*(Int.tmod (j:Int) 4))=((8*(j%4):Nat):Int):=by rw[cn (by omega),aD (by omega) (by omega)]; omega
    unfold F.Zw
    dsimp only
    rw[ag (ai (by omega)),N,aG,bh (show i<y.length by omega) 0,aa,aG,O,aq]
    by_cases h:j / 4<a.length
    ·rw[ag (ai (by omega)),bh h 0,aa,R,grd_true _ (by omega),bh (show i<(y.set i 0).length by simp; omega) 0,aa,aG,aq,x8,B]
     unfold F.Zn
     rw[w4,List.set_set]; rfl
    ·rw[ae (by simp only[ak]; omega)]
     unfold F.Zn
     have hz:val a / 256^j=0:=by
      refine cT (aU (cv a) ?_)
      rw[show (4294967296:Nat)=256^4 from rfl,<-cr]
      exact ba (by decide) (by omega)
     rw[w4,B,hz]; rfl
   ·rw[an,gg]
    by_cases A:i=k
    ·subst A; rw[ag rfl,ag (by omega)]; rfl
    ·rw[ae A,<-an]; exact hy k (by omega))
  (fun y hy=>by
   unfold F.Zw
   dsimp only
   rw[ae (by simp)])
  o.length 0 o (aw _) (by omega) (fun _=>⟨rfl,fun k G=>by omega⟩)
 have I:=fH (fun i (y:L01)=>i<=o.length->y.length=o.length/\∀k,k<i->y.getD k 0=UInt8.ofNat (val a / 256^(o.length - 1 - k))) (fun y i=>y.set i (UInt8.ofNat (val a / 256^(o.length - 1 - i))))
  (fun i y hy=>fun hi=>by
   obtain⟨hl,hy⟩:=hy (by omega)
   refine⟨by simpa using hl,fun k G=>?_⟩
   rw[an,gg]
   by_cases A:i=k
   ·subst A; rw[ag rfl,ag (by omega)]; rfl
   ·rw[ae A,<-an]; exact hy k (by omega)) o.length 0 o (fun _=>⟨rfl,fun k G=>by omega⟩)
 rw[bm]at I
 obtain⟨y,hy⟩:∃y,(List.range' 0 o.length).foldl (fun y i=>y.set i (UInt8.ofNat (val a / 256^(o.length - 1 - i)))) o=y:=⟨_,rfl⟩
 rw[hy]at I e
 obtain⟨U,V⟩:=I (aw _)
 refine e.trans ?_
 congr 1
 refine gx (by rw[U,mb]) fun k J A=>?_
 have a1:=V k (by omega)
 have a2:=BW o.length (val a) k (by omega)
 rw[an,aA J]at a1
 rw[an,aA A]at a2
 exact a1.trans a2.symm
theorem Ip (a:L00) (ha:a.length<=35184372087808):F.Yw a=some (beB (nby (val a)) (val a)):=by
 obtain⟨m,j,G,A⟩:=im a (by omega)
 have hl:(au (val a)).length<=a.length:=bv (cv a)
 have hb:=mu (val a)
 have B:wI (Int.tdiv (wI ((nb (val a):Int)+7)) 8)=(nby (val a):Int):=by
  rw[aD (x:=(nb (val a):Int)+7) (by omega) (by omega),bN (by omega),aD (by omega) (by omega)]; unfold nby; omega
 have hn:nby (val a)<=4*(au (val a)).length:=by unfold nby; omega
 unfold F.Yw
 rw[jO a (by omega),aa,B,aG,iG (by omega),aa,j,aa,A,Ek _ _ (by simp; omega) (by omega),aa,aq,bq,ay]
theorem Nm (x y:UInt32) (t:Nat) (hy:y.toNat<256) (j:t<4) (hx:x.toNat%256^(t+1)=0):(x ||| iK y (8*t)).toNat=x.toNat+y.toNat*256^t:=by
 have hs:(iK y (8*t)).toNat=y.toNat*256^t:=by
  rw[tG,bg (by omega),cr,show (2:Nat)^8=256 from rfl,az]
  have:t=0\/t=1\/t=2\/t=3:=by omega
  rcases this with h | h | h | h <;> subst h <;> simp <;> omega
 rw[UInt32.toNat_or,hs]
 refine sq (8*(t+1)) (by rw[cr]; exact hx) ?_
 rw[cr,bo,aP]
 exact fa hy (eX (by decide))
theorem K5 {l:L00} {q t:Nat} (B:t<=4) (h:val l%256^(4*q+t)=0):(l.getD q 0).toNat%256^t=0:=by
 have A:val l / 256^(4*q)%256^t=0:=by
  rw[bS]at h
  have:=Nat.mod_mul_right_div_self (val l) (256^(4*q)) (256^t)
  rw[h,Nat.zero_div]at this
  exact this.symm
 rw[cr,show (256:Nat)^4=4294967296 from rfl,kB,ef]at A
 have:t=0\/t=1\/t=2\/t=3\/t=4:=by omega
 rcases this with j | j | j | j | j <;> subst j <;> simp at A ⊢ <;> omega
theorem fy (b:L01) (hb:b.length<=140737488351232):F.Tj b=some (au (beN b)):=by
 obtain⟨n,hn⟩:∃n,(b.length+3) / 4=n:=⟨_,rfl⟩
 have w0:wI (Int.tdiv (wI ((b.length:Int)+3)) 4)=(n:Int):=by
  rw[aD (x:=(b.length:Int)+3) (by omega) (by omega),bN (by omega),aD (by omega) (by omega)]; omega
 unfold F.Tj
 rw[w0,iG (by omega),aa,aq]
 have A:∀(i:Nat) (y:L00),i<b.length->(y.length=n/\val y=beN (b.take i)*256^(b.length - i)) ->
   ((y.set ((b.length - 1 - i) / 4) (y.getD ((b.length - 1 - i) / 4) 0 ||| iK (b.getD i 0).toUInt32 (8*((b.length - 1 - i)%4)))).length=n /\
    val (y.set ((b.length - 1 - i) / 4) (y.getD ((b.length - 1 - i) / 4) 0 ||| iK (b.getD i 0).toUInt32 (8*((b.length - 1 - i)%4))))=beN (b.take (i+1))*256^(b.length - (i+1))):=by
  rintro i y hi ⟨G,N⟩
  obtain⟨t,I⟩:∃t,b.length - 1 - i=t:=⟨_,rfl⟩
  rw[I]
  have B:(b.getD i 0).toUInt32.toNat=(b.getD i 0).toNat:=UInt8.toNat_toUInt32 _
  have Y:=(b.getD i 0).toNat_lt
  have O:=jw y (t / 4) (y.getD (t / 4) 0 ||| iK (b.getD i 0).toUInt32 (8*(t%4))) (by omega)
  have hm:(y.getD (t / 4) 0).toNat%256^(t%4+1)=0:=by
   refine K5 (by omega) ?_
   rw[show 4*(t / 4)+(t%4+1)=b.length - i by omega,N,Nat.mul_mod_left]
  rw[Nm _ _ _ (by rw[B]; omega) (by omega) hm,B,aJ]at O
  refine⟨by simpa using G,?_⟩
  have hp:4294967296^(t / 4)*((b.getD i 0).toNat*256^(t%4))=(b.getD i 0).toNat*256^t:=by
   rw[show (4294967296:Nat)=256^4 from rfl,<-cr,dD,<-bS]; congr 2; omega
  rw[hp]at O
  rw[mE b hi,show b.length - (i+1)=t by omega,aW]
  have J:256*beN (b.take i)*256^t=beN (b.take i)*256^(b.length - i):=by
   rw[show b.length - i=t+1 by omega,bo,aP 256,aK,aP 256]
  rw[J]
  omega
 have e:=eY (f:=F.XQ b) (fun (y:L00) i=>((i:Int),y)) (fun i y=>i<=b.length->y.length=n/\val y=beN (b.take i)*256^(b.length - i))
  (fun y i=>y.set ((b.length - 1 - i) / 4) (y.getD ((b.length - 1 - i) / 4) 0 ||| iK (b.getD i 0).toUInt32 (8*((b.length - 1 - i)%4)))) 0 b.length
  (X:=fun y=>some (au (val y)))
  (fun i y _ hi hy=>by
   have hy:=hy (by omega)
   refine⟨?_,fun _=>A i y hi hy⟩
   obtain⟨t,I⟩:∃t,b.length - 1 - i=t:=⟨_,rfl⟩
   rw[I]
   have Z:=hy.1
   have w4:wI ((i:Int)+1)=((i+1:Nat):Int):=by rw[aD (by omega) (by omega)]; rfl
   have R:wI ((wI ((b.length:Int) - 1)) - (i:Int))=(t:Int):=by rw[aD (x:=(b.length:Int) - 1) (by omega) (by omega),aD (by omega) (by omega)]; omega
   have U:wI (Int.tdiv (t:Int) 4)=((t / 4:Nat):Int):=by rw[bN (by omega),aD (by omega) (by omega)]; omega
   have V:wI (8*(Int.tmod (t:Int) 4))=((8*(t%4):Nat):Int):=by rw[cn (by omega),aD (by omega) (by omega)]; omega
   unfold F.XQ
   dsimp only
   rw[ag (ai (by omega)),bh hi 0,aa,R,aG,U,bh (show t / 4<y.length by omega) 0,aa,V,grd_true _ (by omega),aa,aG,aq,aq,w4]
   rfl)
  (fun y hy=>by
   obtain⟨m,G,N,J⟩:=jJ y (by have:=(hy (aw _)).1; omega)
   unfold F.XQ
   dsimp only
   rw[ae (by simp),G,aa,J])
  b.length 0 (List.replicate n 0) (aw _) (by omega) (fun _=>⟨by simp,by rw[gC]; simp[beN]⟩)
 have j:=fH (fun i (y:L00)=>i<=b.length->y.length=n/\val y=beN (b.take i)*256^(b.length - i)) (fun y i=>y.set ((b.length - 1 - i) / 4) (y.getD ((b.length - 1 - i) / 4) 0 ||| iK (b.getD i 0).toUInt32 (8*((b.length - 1 - i)%4))))
  (fun i y hy=>fun hi=>A i y (by omega) (hy (by omega))) b.length 0 (List.replicate n 0) (fun _=>⟨by simp,by rw[gC]; simp[beN]⟩)
 rw[bm]at j
 have j:=(j (aw _)).2
 rw[j,Nat.sub_self,gw,cE,cO]at e
 exact e
theorem tj (a:L00) (i:Nat):F.Uf a (i:Int)=some (a.getD i 0).toUInt64:=by
 unfold F.Uf
 by_cases h:a.length<=i
 ·rw[ag (ai (by omega)),iJ h]; rfl
 ·rw[ae (by simp only[ak]; omega),bh (show i<a.length by omega) 0,aa]
theorem F9 (x y:UInt32):x.toUInt64<y.toUInt64↔x.toNat<y.toNat:=by rw[bd,c9,c9]
theorem BD (a:L00) (ha:a.length<=50000000000000):F.aaj a=some (au (val a)):=by
 unfold F.aaj
 obtain⟨n,hn,I,hl⟩:=xZ (f:=F.abo a) a (fun A=>af (tkO a (A:Int)) fun B=>af (apO 4 [] B) fun j=>some j) (by omega) (fun n hn=>by
  unfold F.abo F.abp
  by_cases h0:n=0
  ·subst h0
   rw[ae (by simp),ae (by simp)]
   rfl
  ·have J:wI ((n:Int) - 1)=((n - 1:Nat):Int):=by rw[aD (by omega) (by omega)]; omega
   rw[ag (ai (by omega)),J,bh (show n - 1<a.length by omega) 0,aa]
   by_cases hz:a.getD (n - 1) 0=0
   ·rw[ag (show n≠0/\a.getD (n - 1) 0=0 from⟨h0,hz⟩),ag (show (a.getD (n - 1) 0 == 0)=true from by rw[hz]; rfl)]; rfl
   ·rw[ae (show ¬(n≠0/\a.getD (n - 1) 0=0) from fun h=>hz h.2),ae (show ¬(a.getD (n - 1) 0 == 0)=true from fun h=>hz (eq_of_beq h))])
 have G:apO 4 [] (a.take n)=some (a.take n):=by unfold apO; rw[ag (by simp; omega)]; simp
 rw[hl,Bj hn,aa,G,aa,I]
theorem oE (a b:L00) (k:Nat) (h:val (a.drop (k+1))=val (b.drop (k+1))) (B:(a.getD k 0).toNat<(b.getD k 0).toNat):val a<val b:=by
 have G:=ef a k; have I:=ef b k
 have A:val (a.drop k)<val (b.drop k):=by omega
 rw[<-kB,<-kB]at A
 exact Nat.lt_of_not_le fun j=>by have:=Nat.div_le_div_right (c:=4294967296^k) j; omega
theorem M5 (a b:L00) (ha:a.length<=4611686018427387904) (hb:b.length<=4611686018427387904):F.aa4 a b=some (eA (val a) (val b)):=by
 unfold F.aa4
 obtain⟨m,hm⟩:∃m,max a.length b.length=m:=⟨_,rfl⟩
 have w0:wI ((max (a.length:Int) (b.length:Int)) - 1)=(m:Int) - 1:=by rw[aD (by omega) (by omega)]; omega
 rw[w0,aG]
 have j:∀k,k<=m->val (a.drop k)=val (b.drop k)->loop (F.XV a b) ((k:Int) - 1)=some (eA (val a) (val b)):=by
  intro k
  induction k with
  | zero=>
   intro _ h
   rw[dP,dP]at h
   refine bI ?_
   unfold F.XV eA
   rw[ae (by decide),h,ae (by omega),ag rfl]; rfl
  | succ k ih=>
   intro B h
   have A:(((k+1:Nat):Int)) - 1=(k:Int):=by omega
   rw[A]
   have hL:F.XV a b (k:Int)=if (a.getD k 0).toNat<(b.getD k 0).toNat then some (.inr (-1)) else if (b.getD k 0).toNat<(a.getD k 0).toNat then some (.inr 1) else some (.inl ((k:Int) - 1)):=by
    unfold F.XV
    rw[ag (ai (by omega)),tj,aa,tj,aa]
    by_cases h1:(a.getD k 0).toNat<(b.getD k 0).toNat
    ·rw[ag (ai ((F9 _ _).2 h1)),ag h1]; rfl
    ·rw[ae (by rw[ak,F9]; exact h1),ae h1,aa,aa]
     by_cases h2:(b.getD k 0).toNat<(a.getD k 0).toNat
     ·rw[ag (ai ((F9 _ _).2 h2)),ag h2]; rfl
     ·rw[ae (by rw[ak,F9]; exact h2),ae h2,aD (by omega) (by omega)]; rfl
   by_cases h1:(a.getD k 0).toNat<(b.getD k 0).toNat
   ·rw[ag h1]at hL
    have:=oE a b k h h1
    rw[bI hL]; unfold eA; rw[ag this]
   ·rw[ae h1]at hL
    by_cases h2:(b.getD k 0).toNat<(a.getD k 0).toNat
    ·rw[ag h2]at hL
     have:=oE b a k h.symm h2
     rw[bI hL]; unfold eA; rw[ae (by omega),ae (by omega)]
    ·rw[ae h2]at hL
     rw[bp hL]
     refine ih (by omega) ?_
     rw[ef a k,ef b k,h]; omega
 exact j m (aw _) (by rw[bK (by omega),bK (by omega)])
theorem Lz (s:UInt64):(s &&& 4294967295).toUInt32=s.toUInt32:=by
 apply cL.1
 rw[jB,jB,jg]
 have:(4294967295:UInt64).toNat=2^32 - 1:=rfl
 rw[this,fi]
 omega
theorem NA (a b:L00) (ha:a.length<=40000000000000) (hb:b.length<=40000000000000):F.aaW a b=some (au (val a+val b)):=by
 obtain⟨m,hm⟩:∃m,max a.length b.length=m:=⟨_,rfl⟩
 have G:max (a.length:Int) (b.length:Int)=(m:Int):=by omega
 unfold F.aaW
 have A:∀(x:L00×UInt64) (i:Nat),x.2.toNat<=1->((a.getD i 0).toUInt64+(b.getD i 0).toUInt64)+x.2=x.2+(a.getD i 0).toUInt64+(b.getD i 0).toUInt64:=fun x i _=>by
  rw[UInt64.add_comm _ x.2,UInt64.add_assoc]
 have e:=eY (f:=F.ZG a b) (fun (x:L00×UInt64) i=>(x.1,x.2,(i:Int)))
  (fun i x=>x.1.length=i/\val x.1+4294967296^i*x.2.toNat=val (a.take i)+val (b.take i)/\x.2.toNat<=1) (nu a b) 0 (m+1)
  (X:=fun x=>some (au (val x.1)))
  (fun i x _ hi hx=>by
   obtain⟨I,j,B⟩:=hx
   refine⟨?_,qE I j B⟩
   have N:wI ((i:Int)+1)=((i+1:Nat):Int):=by rw[aD (by omega) (by omega)]; rfl
   unfold F.ZG
   dsimp only
   rw[G,ag (ai (by omega)),tj,aa,tj,aa,A x i B,Lz,g8 (by simp; omega),aa,aG,N]
   rfl)
  (fun x hx=>by
   obtain⟨I,j,B⟩:=hx
   unfold F.ZG
   dsimp only
   rw[G,ae (by simp only[ak]; omega),BD _ (by omega),aa])
  (m+1) 0 ([],0) (aw _) (by omega) ⟨rfl,by simp[val],by decide⟩
 have J:=fH (fun i (x:L00×UInt64)=>x.1.length=i/\val x.1+4294967296^i*x.2.toNat=val (a.take i)+val (b.take i)/\x.2.toNat<=1) (nu a b) (fun i x hx=>qE hx.1 hx.2.1 hx.2.2) (m+1) 0 ([],0) ⟨rfl,by simp[val],by decide⟩
 obtain⟨x,hx⟩:∃x,(List.range' 0 (m+1)).foldl (nu a b) ([],0)=x:=⟨_,rfl⟩
 rw[hx]at J e
 obtain⟨I,j,B⟩:=J
 rw[bm,aC (by omega),aC (by omega)]at j
 refine e.trans ?_
 -- no carry is left
 have R:val a<4294967296^m:=aU (cv a) (ba (by decide) (by omega))
 have U:val b<4294967296^m:=aU (cv b) (ba (by decide) (by omega))
 have hp:=eX (n:=m) (show 0<4294967296 by decide)
 have O:x.2.toNat=0:=by
  rcases bO x.2.toNat with h | h
  ·exact h
  ·have:4294967296^(m+1)*1<=4294967296^(m+1)*x.2.toNat:=bj _ h
   rw[bo]at this j
   omega
 rw[O,cp,br]at j
 rw[j]
theorem brw (u v:UInt32) (c:UInt64) (hc:c.toNat<=1) :
  (u.toUInt64<v.toUInt64+c↔u.toNat<v.toNat+c.toNat)/\(u.toNat<v.toNat+c.toNat->((u.toUInt64+4294967296) - (v.toUInt64+c)).toUInt32.toNat+v.toNat+c.toNat=u.toNat+4294967296) /\
   (¬u.toNat<v.toNat+c.toNat->(u.toUInt64 - (v.toUInt64+c)).toUInt32.toNat+v.toNat+c.toNat=u.toNat):=by
 have hu:=eg u; have G:=eg v
 have j:(v.toUInt64+c).toNat=v.toNat+c.toNat:=by rw[li _ _ (by rw[c9]; omega),c9]
 have A:(4294967296:UInt64).toNat=4294967296:=rfl
 have B:(u.toUInt64+4294967296).toNat=u.toNat+4294967296:=by rw[li _ _ (by rw[c9,A]; omega),c9,A]
 refine⟨by rw[bd,j,c9],fun h=>?_,fun h=>?_⟩
 ·rw[jB,ee _ _ (by rw[cK,j,B]; omega),j,B]; omega
 ·rw[jB,ee _ _ (by rw[cK,j,c9]; omega),j,c9]; omega
def mnW (u v:UInt32) (c:UInt64):UInt32:=if u.toUInt64<v.toUInt64+c then ((u.toUInt64+4294967296) - (v.toUInt64+c)).toUInt32 else (u.toUInt64 - (v.toUInt64+c)).toUInt32
def mnC (u v:UInt32) (c:UInt64):UInt64:=if u.toUInt64<v.toUInt64+c then 1 else 0
theorem PK (u v:UInt32) (c:UInt64) (hc:c.toNat<=1):(mnW u v c).toNat+v.toNat+c.toNat=u.toNat+4294967296*(mnC u v c).toNat/\(mnC u v c).toNat<=1:=by
 obtain⟨j,A,B⟩:=brw u v c hc
 unfold mnW mnC
 by_cases h:u.toNat<v.toNat+c.toNat
 ·rw[ag (j.2 h),ag (j.2 h)]
  have:(1:UInt64).toNat=1:=rfl
  rw[this]; exact⟨by have:=A h; omega,by omega⟩
 ·rw[ae (fun hh=>h (j.1 hh)),ae (fun hh=>h (j.1 hh))]
  have:(0:UInt64).toNat=0:=rfl
  rw[this]; exact⟨by have:=B h; omega,by omega⟩
def mnS (a b:L00) (x:L00×UInt64) (i:Nat):L00×UInt64:=(x.1++[mnW (a.getD i 0) (b.getD i 0) x.2],mnC (a.getD i 0) (b.getD i 0) x.2)
theorem DY {a b:L00} {x:L00×UInt64} {i:Nat} (j:x.1.length=i) (I:val x.1+val (b.take i)=val (a.take i)+4294967296^i*x.2.toNat) (A:x.2.toNat<=1) :
  (mnS a b x i).1.length=i+1/\val (mnS a b x i).1+val (b.take (i+1))=val (a.take (i+1))+4294967296^(i+1)*(mnS a b x i).2.toNat/\(mnS a b x i).2.toNat<=1:=by
 obtain⟨B,G⟩:=PK (a.getD i 0) (b.getD i 0) x.2 A
 unfold mnS
 refine⟨by simp[j],?_,G⟩
 simp only
 rw[mG,j,cJ,cJ]
 have:=da (4294967296^i*·) B
 simp only[aJ]at this
 rw[bo,aK]
 omega
theorem J2 (a b:L00) (ha:a.length<=50000000000000) (N:val b<=val a):F.abd a b=some (au (val a - val b)):=by
 unfold F.abd
 have e:=eY (f:=F.aaf a b) (fun (x:L00×UInt64) i=>(x.1,x.2,(i:Int)))
  (fun i x=>x.1.length=i/\val x.1+val (b.take i)=val (a.take i)+4294967296^i*x.2.toNat/\x.2.toNat<=1) (mnS a b) 0 a.length
  (X:=fun x=>some (au (val x.1)))
  (fun i x _ hi hx=>by
   obtain⟨A,j,B⟩:=hx
   refine⟨?_,DY A j B⟩
   have G:wI ((i:Int)+1)=((i+1:Nat):Int):=by rw[aD (by omega) (by omega)]; rfl
   unfold F.aaf
   dsimp only
   rw[ag (ai (by omega)),tj,aa,tj,aa]
   unfold mnS mnW mnC
   by_cases h:(a.getD i 0).toUInt64<(b.getD i 0).toUInt64+x.2
   ·rw[ag (ai h),ag h,ag h]
    unfold F.ZY
    dsimp only
    rw[g8 (by simp; omega),aa,G]; rfl
   ·rw[ae (by simpa using h),ae h,ae h]
    unfold F.ZY
    dsimp only
    rw[g8 (by simp; omega),aa,G]; rfl)
  (fun x hx=>by
   unfold F.aaf
   dsimp only
   rw[ae (by simp),BD _ (by omega),aa])
  a.length 0 ([],0) (aw _) (by omega) ⟨rfl,by simp[val],by simp⟩
 refine e.trans ?_
 obtain⟨A,j,B⟩:=fH (fun i (x:L00×UInt64)=>x.1.length=i/\val x.1+val (b.take i)=val (a.take i)+4294967296^i*x.2.toNat/\x.2.toNat<=1) (mnS a b)
  (fun i x hx=>DY hx.1 hx.2.1 hx.2.2) a.length 0 ([],0) ⟨rfl,by simp[val],by simp⟩
 obtain⟨y,hy⟩:∃y,(List.range' 0 a.length).foldl (mnS a b) ([],0)=y:=⟨_,rfl⟩
 rw[hy]at A j B ⊢
 rw[bm]at A j
 have hb:val (b.take a.length)=val b:=by
  by_cases hl:a.length<=b.length
  ·have I:=gB b a.length hl
   rw[lT (du N (cv a)),cp,br]at I
   exact I.symm
  ·rw[aC (by omega)]
 rw[cO,hb]at j
 have J:=cv y.1
 rw[A]at J
 have hc:y.2.toNat=0:=by
  rcases bO y.2.toNat with h | h
  ·exact h
  ·have:y.2.toNat=1:=by omega
   rw[this,cE]at j
   omega
 rw[hc,cp,br]at j
 rw[show val y.1=val a - val b by omega]
theorem uJ (l:L00) (i:Nat):(l.getD (i / 32) 0).toNat / 2^(i%32)%2=val l / 2^i%2:=by
 have j:(2:Nat)^i=4294967296^(i / 32)*2^(i%32):=by
  rw[show (4294967296:Nat)=2^32 from rfl,<-cr,<-bS]; congr 1; omega
 rw[j,<-dM,kB,ef]
 obtain⟨R,A⟩:∃R,val (l.drop (i / 32+1))=R:=⟨_,rfl⟩
 obtain⟨w,hw⟩:∃w,(l.getD (i / 32) 0).toNat=w:=⟨_,rfl⟩
 obtain⟨s,hs⟩:∃s,i%32=s:=⟨_,rfl⟩
 rw[A,hw,hs]
 have hp:=nU (s:=s) (by omega)
 rw[<-hp,aK,gV _ _ (dx s)]
 have B:(2:Nat)^(32 - s)=2*2^(32 - s - 1):=by rw[aP,<-bo]; congr 1; omega
 rw[B,aK]
 omega
def zI:L01:=[102,102,102,102,102,102,102,102,48,48,48,48,48,48,48,49,48,48,48,48,48,48,48,48,48,48,48,48,48,48,48,48,48,48,48,48,48,48,48,48,102,102,102,102,102,102,102,102,102,102,102,102,102,102,102,102,102,102,102,102,102,102,102,102]
def Ld:Nat:=0xffffffff00000001000000000000000000000000ffffffffffffffffffffffff
theorem Kp:(zI.all kq&&Nat.beq (i0 zI) Ld&&Nat.beq zI.length 64)=true:=by decide +kernel
def zB:L01:=[53,97,99,54,51,53,100,56,97,97,51,97,57,51,101,55,98,51,101,98,98,100,53,53,55,54,57,56,56,54,98,99,54,53,49,100,48,54,98,48,99,99,53,51,98,48,102,54,51,98,99,101,51,99,51,101,50,55,100,50,54,48,52,98]
def Lb:Nat:=0x5ac635d8aa3a93e7b3ebbd55769886bc651d06b0cc53b0f63bce3c3e27d2604b
theorem Jn:(zB.all kq&&Nat.beq (i0 zB) Lb&&Nat.beq zB.length 64)=true:=by decide +kernel
def zt:L01:=[102,102,102,102,102,102,102,102,48,48,48,48,48,48,48,48,102,102,102,102,102,102,102,102,102,102,102,102,102,102,102,102,98,99,101,54,102,97,97,100,97,55,49,55,57,101,56,52,102,51,98,57,99,97,99,50,102,99,54,51,50,53,53,49]
def Lm:Nat:=0xffffffff00000000ffffffffffffffffbce6faada7179e84f3b9cac2fc632551
theorem IE:(zt.all kq&&Nat.beq (i0 zt) Lm&&Nat.beq zt.length 64)=true:=by decide +kernel
def zH:L01:=[54,98,49,55,100,49,102,50,101,49,50,99,52,50,52,55,102,56,98,99,101,54,101,53,54,51,97,52,52,48,102,50,55,55,48,51,55,100,56,49,50,100,101,98,51,51,97,48,102,52,97,49,51,57,52,53,100,56,57,56,99,50,57,54]
def LP:Nat:=0x6b17d1f2e12c4247f8bce6e563a440f277037d812deb33a0f4a13945d898c296
theorem IU:(zH.all kq&&Nat.beq (i0 zH) LP&&Nat.beq zH.length 64)=true:=by decide +kernel
def zu:L01:=[52,102,101,51,52,50,101,50,102,101,49,97,55,102,57,98,56,101,101,55,101,98,52,97,55,99,48,102,57,101,49,54,50,98,99,101,51,51,53,55,54,98,51,49,53,101,99,101,99,98,98,54,52,48,54,56,51,55,98,102,53,49,102,53]
def Ly:Nat:=0x4fe342e2fe1a7f9b8ee7eb4a7c0f9e162bce33576b315ececbb6406837bf51f5
theorem Jm:(zu.all kq&&Nat.beq (i0 zu) Ly&&Nat.beq zu.length 64)=true:=by decide +kernel
def zy:L01:=[102,102,102,102,102,102,102,102,102,102,102,102,102,102,102,102,102,102,102,102,102,102,102,102,102,102,102,102,102,102,102,102,102,102,102,102,102,102,102,102,102,102,102,102,102,102,102,102,102,102,102,102,102,102,102,102,102,102,102,102,102,102,102,101,102,102,102,102,102,102,102,102,48,48,48,48,48,48,48,48,48,48,48,48,48,48,48,48,102,102,102,102,102,102,102,102]
def Lj:Nat:=0xfffffffffffffffffffffffffffffffffffffffffffffffffffffffffffffffeffffffff0000000000000000ffffffff
theorem J9:(zy.all kq&&Nat.beq (i0 zy) Lj&&Nat.beq zy.length 96)=true:=by decide +kernel
def zK:L01:=[98,51,51,49,50,102,97,55,101,50,51,101,101,55,101,52,57,56,56,101,48,53,54,98,101,51,102,56,50,100,49,57,49,56,49,100,57,99,54,101,102,101,56,49,52,49,49,50,48,51,49,52,48,56,56,102,53,48,49,51,56,55,53,97,99,54,53,54,51,57,56,100,56,97,50,101,100,49,57,100,50,97,56,53,99,56,101,100,100,51,101,99,50,97,101,102]
def Lw:Nat:=0xb3312fa7e23ee7e4988e056be3f82d19181d9c6efe8141120314088f5013875ac656398d8a2ed19d2a85c8edd3ec2aef
theorem Jy:(zK.all kq&&Nat.beq (i0 zK) Lw&&Nat.beq zK.length 96)=true:=by decide +kernel
def zo:L01:=[102,102,102,102,102,102,102,102,102,102,102,102,102,102,102,102,102,102,102,102,102,102,102,102,102,102,102,102,102,102,102,102,102,102,102,102,102,102,102,102,102,102,102,102,102,102,102,102,99,55,54,51,52,100,56,49,102,52,51,55,50,100,100,102,53,56,49,97,48,100,98,50,52,56,98,48,97,55,55,97,101,99,101,99,49,57,54,97,99,99,99,53,50,57,55,51]
def Lf:Nat:=0xffffffffffffffffffffffffffffffffffffffffffffffffc7634d81f4372ddf581a0db248b0a77aecec196accc52973
theorem KY:(zo.all kq&&Nat.beq (i0 zo) Lf&&Nat.beq zo.length 96)=true:=by decide +kernel
def zq:L01:=[97,97,56,55,99,97,50,50,98,101,56,98,48,53,51,55,56,101,98,49,99,55,49,101,102,51,50,48,97,100,55,52,54,101,49,100,51,98,54,50,56,98,97,55,57,98,57,56,53,57,102,55,52,49,101,48,56,50,53,52,50,97,51,56,53,53,48,50,102,50,53,100,98,102,53,53,50,57,54,99,51,97,53,52,53,101,51,56,55,50,55,54,48,97,98,55]
def Lv:Nat:=0xaa87ca22be8b05378eb1c71ef320ad746e1d3b628ba79b9859f741e082542a385502f25dbf55296c3a545e3872760ab7
theorem Jv:(zq.all kq&&Nat.beq (i0 zq) Lv&&Nat.beq zq.length 96)=true:=by decide +kernel
def zp:L01:=[51,54,49,55,100,101,52,97,57,54,50,54,50,99,54,102,53,100,57,101,57,56,98,102,57,50,57,50,100,99,50,57,102,56,102,52,49,100,98,100,50,56,57,97,49,52,55,99,101,57,100,97,51,49,49,51,98,53,102,48,98,56,99,48,48,97,54,48,98,49,99,101,49,100,55,101,56,49,57,100,55,97,52,51,49,100,55,99,57,48,101,97,48,101,53,102]
def Ls:Nat:=0x3617de4a96262c6f5d9e98bf9292dc29f8f41dbd289a147ce9da3113b5f0b8c00a60b1ce1d7e819d7a431d7c90ea0e5f
theorem KJ:(zp.all kq&&Nat.beq (i0 zp) Ls&&Nat.beq zp.length 96)=true:=by decide +kernel
def cP (c:Int):Nat:=if c=1 then Ld else Lj
def cB (c:Int):Nat:=if c=1 then Lb else Lw
def cN (c:Int):Nat:=if c=1 then Lm else Lf
def cX (c:Int):Nat:=if c=1 then LP else Lv
def cY (c:Int):Nat:=if c=1 then Ly else Ls
def cS (c:Int):Int:=if c=1 then 32 else 48
theorem kC (c:Int):cP c<4294967296^12/\cB c<cP c/\cN c<cP c/\cX c<cP c/\cY c<cP c/\4<cP c/\4<cN c:=by
 unfold cP cB cN cX cY
 by_cases h:c=1
 ·simp only[ag h]; decide +kernel
 ·simp only[ae h]; decide +kernel
theorem tc (c:Int):nl (cP c:Int)<=12:=zG (by have:=(kC c).1; omega)
theorem j0 (s:L01) (v m:Nat) (h:(s.all kq&&Nat.beq (i0 s) v&&Nat.beq s.length m)=true) (hm:0<m) (A:m<=1000):F.S5 s=some ((bi (v:Int)).1,(bi (v:Int)).2):=by
 simp only[aO]at h
 have hl:=bJ h.2
 unfold F.S5
 rw[Ag _ _ s h.1.1 (by intro j; rw[j]at hl; simp at hl; omega) (by omega),aa,bJ h.1.2,GM]
def gT (c:Int):Bool×L00×Bool×L00×Bool×L00×Bool×L00×Bool×L00×Int:=
 ((bi (cP c:Int)).1,(bi (cP c:Int)).2,(bi (cB c:Int)).1,(bi (cB c:Int)).2,(bi (cN c:Int)).1,(bi (cN c:Int)).2,(bi (cX c:Int)).1,(bi (cX c:Int)).2,(bi (cY c:Int)).1,(bi (cY c:Int)).2,cS c)
theorem MB:F.XS=some (gT 1):=by
 have h:F.XS=af (F.S5 zI) fun G=>af (F.S5 zB) fun I=>af (F.S5 zt) fun j=>af (F.S5 zH) fun A=>af (F.S5 zu) fun B=>
   some (G.1,G.2,I.1,I.2,j.1,j.2,A.1,A.2,B.1,B.2,32):=rfl
 rw[h,j0 _ _ _ Kp (by decide) (by decide),aa,j0 _ _ _ Jn (by decide) (by decide),aa,j0 _ _ _ IE (by decide) (by decide),aa,j0 _ _ _ IU (by decide) (by decide),aa,j0 _ _ _ Jm (by decide) (by decide),aa]
 rfl
theorem Mp:F.Zr=some (gT 2):=by
 have h:F.Zr=af (F.S5 zy) fun G=>af (F.S5 zK) fun I=>af (F.S5 zo) fun j=>af (F.S5 zq) fun A=>af (F.S5 zp) fun B=>
   some (G.1,G.2,I.1,I.2,j.1,j.2,A.1,A.2,B.1,B.2,48):=rfl
 rw[h,j0 _ _ _ J9 (by decide) (by decide),aa,j0 _ _ _ Jy (by decide) (by decide),aa,j0 _ _ _ KY (by decide) (by decide),aa,j0 _ _ _ Jv (by decide) (by decide),aa,j0 _ _ _ KJ (by decide) (by decide),aa]
 rfl
def isC (c:Int):Prop:=c=1\/c=2
instance (c:Int):Decidable (isC c):=by unfold isC; infer_instance
theorem of_eq (c:Int):F.UT c=some (if isC c then some (gT c) else none):=by
 unfold F.UT
 by_cases h1:c=1
 ·subst h1; rw[ag (by rfl),MB,aa,ag (.inl rfl)]
 ·rw[ae (by simpa using h1)]
  by_cases h2:c=2
  ·subst h2; rw[ag (by rfl),Mp,aa,ag (.inr rfl)]
  ·rw[ae (by simpa using h2),ae (by unfold isC; omega)]
section
variable (p:Nat) (b0:Bool) (b1:L00) (n0:Bool) (n1:L00) (x0:Bool) (x1:L00) (y0:Bool) (y1:L00) (s:Int)
theorem ta (hp:0<p) (hpl:nl (p:Int)<=1000) (z:Int) (hz:nl z<=70368744177660) (j:z<0->nl z<=70000000000000) :
  F.Uh (bi (p:Int)).1 (bi (p:Int)).2 b0 b1 n0 n1 x0 x1 y0 y1 s (bi z).1 (bi z).2=some (bi (z%p)):=by
 unfold F.Uh
 rw[Wq7 z p (by omega) hz (by omega) j,aa]
theorem qb (hp:0<p) (hpl:nl (p:Int)<=1000) (u v:Int) (h:nl u+nl v<=70368744177660) (j:u*v<0->nl u+nl v<=70000000000000) :
  F.SY (bi (p:Int)).1 (bi (p:Int)).2 b0 b1 n0 n1 x0 x1 y0 y1 s (bi u).1 (bi u).2 (bi v).1 (bi v).2=some (bi (u*v%p)):=by
 have hm:=Bl u v
 unfold F.SY
 rw[A4 _ _ u v (by omega),aa,ta p b0 b1 n0 n1 x0 x1 y0 y1 s hp hpl _ (by omega) (fun A=>by have:=j A; omega),aa]
theorem D8 (hp:0<p) (hpl:nl (p:Int)<=1000) (u v:Int) (hu:nl u<=60000000000000) (j:nl v<=60000000000000) :
  F.Tt (bi (p:Int)).1 (bi (p:Int)).2 b0 b1 n0 n1 x0 x1 y0 y1 s (bi u).1 (bi u).2 (bi v).1 (bi v).2=some (bi ((u - v)%p)):=by
 have hm:=GL u v
 unfold F.Tt
 rw[HZ _ _ u v (by omega) (by omega),aa,ta p b0 b1 n0 n1 x0 x1 y0 y1 s hp hpl _ (by omega) (fun _=>by omega),aa]
theorem xM (hp:0<p) (hpl:nl (p:Int)<=1000) (k v:Int) (j:0<=k) (B:k<=1000) (A:0<=v) (h:nl v<=70368744177600) :
  F.TP (bi (p:Int)).1 (bi (p:Int)).2 b0 b1 n0 n1 x0 x1 y0 y1 s k (bi v).1 (bi v).2=some (bi (k*v%p)):=by
 have G:nl k<=1:=zG (by omega)
 unfold F.TP
 rw[mT k (by omega) (by omega),aa,qb p b0 b1 n0 n1 x0 x1 y0 y1 s hp hpl k v (by omega) (fun I=>by have:=fO j A; omega),aa]
end
def onN (p b x y:Nat):Bool:=decide (x<p)&&(decide (y<p)&&decide (y*y%p=((x*(x*x%p)%p+p - 3*x%p)%p+b)%p))
theorem Cc (p A B:Nat) (hA:A<p) (j:B<p):((A:Int) - (B:Int))%(p:Int)=(((A+p - B)%p:Nat):Int):=by
 rw[ch,show (((A+p - B:Nat):Int))=(A:Int) - B+p by omega,Int.add_emod_right]
theorem LS (p b:Nat) (n0:Bool) (n1:L00) (x0:Bool) (x1:L00) (y0:Bool) (y1:L00) (s:Int) (hp:0<p) (hpl:nl (p:Int)<=1000) (hb:b<p) (x y:Nat) (hx:nl (x:Int)<=35184372087808) (hy:nl (y:Int)<=35184372087808) :
  F.VT (bi (p:Int)).1 (bi (p:Int)).2 (bi (b:Int)).1 (bi (b:Int)).2 n0 n1 x0 x1 y0 y1 s (bi (x:Int)).1 (bi (x:Int)).2 (bi (y:Int)).1 (bi (y:Int)).2=some (onN p b x y):=by
 have j:(0:Int)<(p:Int):=by omega
 have ac:nl (b:Int)<=1000:=aZ (kS (by omega)) hpl
 have m1:=rL ((x:Int)*x) j
 have q1:=fO (dv x) (dv x)
 have R:=iz ((x:Int)*x) (show (p:Int)≠0 by omega)
 have q3:=fO (dv x) R
 unfold F.VT
 rw[qb p _ _ n0 n1 x0 x1 y0 y1 s hp hpl _ _ (by omega) (fun h=>by omega),aa,qb p _ _ n0 n1 x0 x1 y0 y1 s hp hpl _ _ (by omega) (fun h=>by omega),aa,
  xM p _ _ n0 n1 x0 x1 y0 y1 s hp hpl 3 _ (by decide) (by decide) (dv x) (by omega),aa]
 have U:=rL ((x:Int)*((x:Int)*x%p)) j
 have V:=rL (3*(x:Int)) j
 have X:(x:Int)*((x:Int)*x%p)%p=((x*(x*x%p)%p:Nat):Int):=by rw[ch,dg,ch,dg]
 have Y:3*(x:Int)%p=((3*x%p:Nat):Int):=by rw[ch,dg]; rfl
 obtain⟨A,hA⟩:∃A,x*(x*x%p)%p=A:=⟨_,rfl⟩
 obtain⟨B,G⟩:∃B,3*x%p=B:=⟨_,rfl⟩
 have J:A<p:=by rw[<-hA]; exact bG _ hp
 have N:B<p:=by rw[<-G]; exact bG _ hp
 rw[X,hA]at U ⊢
 rw[Y,G]at V ⊢
 rw[D8 p _ _ n0 n1 x0 x1 y0 y1 s hp hpl _ _ (by omega) (by omega),aa,Cc p A B J N]
 obtain⟨D,I⟩:∃D,(A+p - B)%p=D:=⟨_,rfl⟩
 have ad:D<p:=by rw[<-I]; exact bG _ hp
 have m4:nl (D:Int)<=1000:=aZ (kS (by omega)) hpl
 have m5:=Bg (D:Int) (b:Int)
 rw[I,ve _ _ (by omega) (by omega),aa,ta p _ _ n0 n1 x0 x1 y0 y1 s hp hpl _ (by omega) (fun _=>by omega),aa,uZ _ _ (by omega) (by omega),aa]
 unfold onN
 rw[hA,G,I]
 have O:∀u v:Nat,decide (Ar (u:Int) (v:Int)<0)=decide (u<v):=fun u v=>by
  unfold Ar
  by_cases h:u<v
  ·rw[ag (by omega),ai h]; rfl
  ·rw[ae (by omega),av h]; split <;> rfl
 rw[O]
 by_cases h1:x<p
 ·rw[ai h1,ag rfl,uZ _ _ (by omega) (by omega),aa,O]
  by_cases h2:y<p
  ·have al:nl (y:Int)<=1000:=aZ (kS (by omega)) hpl
   have q4:=fO (dv y) (dv y)
   have m6:=rL ((y:Int)*y) j
   have m7:=rL ((D:Int)+b) j
   rw[ai h2,ag rfl,qb p _ _ n0 n1 x0 x1 y0 y1 s hp hpl _ _ (by omega) (fun h=>by omega),aa,uZ _ _ (by omega) (by omega),aa]
   have Z:(y:Int)*y%p=((y*y%p:Nat):Int):=by rw[ch,dg]
   have e7:((D:Int)+b)%p=(((D+b)%p:Nat):Int):=by rw[ch,iD]
   rw[Z,e7]
   unfold Ar
   congr 1
   by_cases h3:y*y%p=(D+b)%p
   ·rw[h3,ae (by omega),ag rfl]; simp
   ·rw[eE,eE,av h3,c8]
    split
    ·omega
    ·rw[ae (by omega)]; omega
  ·rw[av h2,ae (by decide)]; rfl
 ·rw[av h1,ae (by decide)]; rfl
theorem Fq (a:L00) (ha:a.length<=35184372087808):F.Vl a=some (bi (val a:Int)):=by
 have j:=mu (val a)
 have A:(au (val a)).length<=a.length:=bv (cv a)
 have B:nby (val a)<=4*a.length:=by unfold nby; omega
 unfold F.Vl
 rw[Ip a ha,aa,pO _ _ _ (by rw[mb]; omega),aa,wv,az (vN _)]
theorem Hd (n:Nat) (hn:nl (n:Int)<=1000000000):F.Uo (bi (n:Int)).1 (bi (n:Int)).2=some (au n):=by
 have j:=mu n
 have A:(au n).length<=1000000000:=by have:=hn; unfold nl at this; rwa [cF]at this
 have B:nby n<=4*(au n).length:=by unfold nby; omega
 unfold F.Uo
 rw[Kc _ hn,aa,cF,fy _ (by rw[mb]; omega),aa,wv,az (vN _)]
theorem Gf (a:L00):nl (val a:Int)<=a.length:=by unfold nl; rw[cF]; exact bv (cv a)
def onS (c:Int) (X Y:L00) (inf:Bool):Bool:=if isC c then (if inf then decide (val X=0)&&decide (val Y=0) else onN (cP c) (cB c) (val X) (val Y)) else false
def rdT (X Y:L00) (inf:Bool):Bool×L00×Bool×L00×Bool×L00:=
 if inf then (false,[],false,[],false,[]) else ((bi (val X:Int)).1,(bi (val X:Int)).2,(bi (val Y:Int)).1,(bi (val Y:Int)).2,(bi 1).1,(bi 1).2)
theorem NM (c:Int) (hc:isC c) (X Y:L00) (j:Bool) (hX:X.length<=35184372087808) (A:Y.length<=35184372087808) :
  F.WO (gT c).1 (gT c).2.1 (gT c).2.2.1 (gT c).2.2.2.1 (gT c).2.2.2.2.1 (gT c).2.2.2.2.2.1 (gT c).2.2.2.2.2.2.1 (gT c).2.2.2.2.2.2.2.1 (gT c).2.2.2.2.2.2.2.2.1 (gT c).2.2.2.2.2.2.2.2.2.1 (gT c).2.2.2.2.2.2.2.2.2.2 X Y j =
   some ((rdT X Y j).1,(rdT X Y j).2.1,(rdT X Y j).2.2.1,(rdT X Y j).2.2.2.1,(rdT X Y j).2.2.2.2.1,(rdT X Y j).2.2.2.2.2,onS c X Y j):=by
 obtain⟨I,G,_,_,_,J,_⟩:=kC c
 have hp:=tc c
 unfold F.WO
 rw[Fq X hX,aa,Fq Y A,aa]
 unfold onS rdT
 rw[ag hc]
 cases j with
 | true=>
  have sg:∀v:Nat,(if ((v:Int))=0 then (0:Int) else if (v:Int)<0 then -1 else 1)=if v=0 then 0 else 1:=fun v=>by
   by_cases h:v=0
   ·rw[ag (by omega),ag h]
   ·rw[ae (by omega),ae (by omega),ae h]
  have B:∀v:Nat,((if v=0 then (0:Int) else 1) == 0)=decide (v=0):=fun v=>by
   by_cases h:v=0
   ·rw[ag h,ai h]; rfl
   ·rw[ae h,av h]; rfl
  rw[ag rfl]
  unfold F.T8
  rw[aa,wN,aa,sg]
  show _=some (false,[],false,[],false,[],decide (val X=0)&&decide (val Y=0))
  by_cases h1:val X=0
  ·rw[ag h1,ag (by rfl),wN,aa,sg,B,ai h1,eE]
  ·rw[ae h1,ae (by decide),av h1,ea]
 | false=>
  rw[ae (by decide),mT 1 (by decide) (by decide),aa]
  have h:=LS (cP c) (cB c) (bi (cN c:Int)).1 (bi (cN c:Int)).2 (bi (cX c:Int)).1 (bi (cX c:Int)).2 (bi (cY c:Int)).1 (bi (cY c:Int)).2 (cS c) (by omega) (by omega) G (val X) (val Y) (aZ (Gf X) hX) (aZ (Gf Y) A)
  unfold gT
  dsimp only
  rw[h,aa]
  simp
theorem Jd (c:Int) (X Y:L00) (j:Bool) (hX:X.length<=35184372087808) (A:Y.length<=35184372087808) :
  F.Y0 c X Y j=some (if isC c then some ((gT c).1,(gT c).2.1,(gT c).2.2.1,(gT c).2.2.2.1,(gT c).2.2.2.2.1,(gT c).2.2.2.2.2.1,(gT c).2.2.2.2.2.2.1,(gT c).2.2.2.2.2.2.2.1,(gT c).2.2.2.2.2.2.2.2.1,(gT c).2.2.2.2.2.2.2.2.2.1,(gT c).2.2.2.2.2.2.2.2.2.2,
   (rdT X Y j).1,(rdT X Y j).2.1,(rdT X Y j).2.2.1,(rdT X Y j).2.2.2.1,(rdT X Y j).2.2.2.2.1,(rdT X Y j).2.2.2.2.2) else none,onS c X Y j):=by
 unfold F.Y0
 rw[of_eq,aa]
 by_cases h:isC c
 ·rw[ag h,ag h]
  show af (F.WO _ _ _ _ _ _ _ _ _ _ _ _ _ _) _=_
  rw[NM c h X Y j hX A,aa]
 ·rw[ae h,ae h]
  unfold onS
  rw[ae h]; rfl
theorem Dq (c:Int):F.Wn c=some (if isC c then cS c else 0):=by
 unfold F.Wn
 rw[of_eq,aa]
 by_cases h:isC c
 ·rw[ag h,ag h]; rfl
 ·rw[ae h,ae h]; rfl
theorem JZ (c:Int) {v:Nat} (h:v<cP c):nl (v:Int)<=1000000000:=by
 have:=aZ (kS (show ((v:Int)).natAbs<=((cP c:Int)).natAbs by omega)) (tc c)
 omega
theorem I7 (c:Int):F.Zj c=some (if isC c then au (cN c) else []):=by
 unfold F.Zj
 rw[of_eq,aa]
 by_cases h:isC c
 ·rw[ag h,ag h]
  show af (F.Uo _ _) _=_
  rw[show (gT c).2.2.2.2.1=(bi (cN c:Int)).1 from rfl,show (gT c).2.2.2.2.2.1=(bi (cN c:Int)).2 from rfl,Hd _ (JZ c (kC c).2.2.1),aa]
 ·rw[ae h,ae h]; rfl
theorem td (c:Int) {v:Nat} (h:v<=cP c):(au v).length<=12:=bv (by have:=(kC c).1; omega)
def nS (c:Int):Nat:=if c=1 then 32 else 48
theorem EJ (c:Int):cS c=((nS c:Nat):Int):=by unfold cS nS; split <;> rfl
theorem nS4 (c:Int):nS c=4*(nS c / 4)/\nS c<=48/\0<nS c:=by unfold nS; split <;> decide
def n9 (c:Int) (x y:L01):L00×L00×Bool×Int:=
 if isC c/\x.length=nS c/\y.length=nS c/\onN (cP c) (cB c) (beN x) (beN y)=true then (au (beN x),au (beN y),false,0) else ([],[],false,93)
theorem GG (x:L01) (h:x.length<=48):nl (beN x:Int)<=1000:=by
 unfold nl; rw[cF]
 have:=nc (lG x); omega
theorem xH (c:Int) (x y:L01):F.Xh c x y=some (n9 c x y):=by
 obtain⟨B,A,_,_,_,G,_⟩:=kC c
 have hp:=tc c
 obtain⟨n1,I,J⟩:=nS4 c
 have j:F.WR x y true=some ([],[],false,93):=rfl
 unfold F.Xh n9
 rw[of_eq,aa]
 by_cases hc:isC c
 ·rw[ag hc]
  show (if ((x.length:Int) != cS c)=true then _ else _)=_
  rw[EJ]
  by_cases h1:x.length=nS c
  ·rw[ae (by rw[h1]; simp)]
   show (if ((y.length:Int) != cS c)=true then _ else _)=_
   rw[EJ]
   by_cases h2:y.length=nS c
   ·rw[ae (by rw[h2]; simp),pO _ _ x (by omega),aa,pO _ _ y (by omega),aa]
    have h:=LS (cP c) (cB c) (bi (cN c:Int)).1 (bi (cN c:Int)).2 (bi (cX c:Int)).1 (bi (cX c:Int)).2 (bi (cY c:Int)).1 (bi (cY c:Int)).2 (cS c) (by omega) (by omega) A (beN x) (beN y) (by have:=GG x (by omega); omega) (by have:=GG y (by omega); omega)
    show af (F.VT (bi (cP c:Int)).1 (bi (cP c:Int)).2 (bi (cB c:Int)).1 (bi (cB c:Int)).2 (bi (cN c:Int)).1 (bi (cN c:Int)).2 (bi (cX c:Int)).1 (bi (cX c:Int)).2 (bi (cY c:Int)).1 (bi (cY c:Int)).2 (cS c) _ _ _ _) _=_
    rw[h,aa]
    cases ho:onN (cP c) (cB c) (beN x) (beN y) with
    | true=>
     rw[ag ⟨hc,h1,h2,rfl⟩]
     unfold F.WR
     rw[ae (by decide),fy x (by omega),aa,fy y (by omega),aa]
    | false=>
     rw[ae (fun h=>by cases h.2.2.2)]
     exact j
   ·rw[ag (by simp only[dz]; omega),ae (fun h=>h2 h.2.2.1)]; exact j
  ·rw[ag (by simp only[dz]; omega),ae (fun h=>h1 h.2.1)]; exact j
 ·rw[ae hc,ae (fun h=>hc h.1)]; rfl
theorem Gw {p b x y:Nat} (h:onN p b x y=true):x<p/\y<p:=by
 unfold onN at h
 simp only[aO,ak]at h
 exact⟨h.1,h.2.1⟩
end Go.Gk.Bn
end
