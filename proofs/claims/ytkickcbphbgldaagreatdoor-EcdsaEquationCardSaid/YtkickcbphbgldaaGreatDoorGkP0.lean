import Derived.Test.YtkickcbphbgldaaGreatDoorGkS
import Derived.Test.YtkickcbphbgldaaGreatDoorGkFman
set_option linter.unusedVariables false
set_option linter.unusedSimpArgs false
set_option linter.unusedSectionVars false

section
namespace Go.Gk
theorem sf {x y:Nat} (k:Nat) (hx:x%2^k=0) (hy:y<2^k):x ||| y=x+y:=by
 have h1:x=(x / 2^k) <<< k:=by
  rw [Nat.shiftLeft_eq]
  have:=Nat.div_add_mod x (2^k)
  rw [hx]at this
  rw [Nat.mul_comm]; omega
 rw [h1,←Nat.shiftLeft_add_eq_or_of_lt hy]
section
theorem jP (x:UInt64) (n:Nat):(bp x n).toNat=x.toNat*2^(min n 64)%18446744073709551616:=by simp [bp,UInt64.toNat_ofNat']
theorem dM (x:UInt64) (n:Nat):(aQ x n).toNat=x.toNat / 2^(min n 64):=by
 simp only [aQ,UInt64.toNat_ofNat']
 exact Nat.mod_eq_of_lt (Nat.lt_of_le_of_lt (Nat.div_le_self _ _) x.toNat_lt)
theorem mP (x:UInt32) (n:Nat):(cg x n).toNat=x.toNat*2^(min n 32)%4294967296:=by simp [cg,UInt32.toNat_ofNat']
theorem fY (x:UInt32) (n:Nat):(bD x n).toNat=x.toNat / 2^(min n 32):=by
 simp only [bD,UInt32.toNat_ofNat']
 exact Nat.mod_eq_of_lt (Nat.lt_of_le_of_lt (Nat.div_le_self _ _) x.toNat_lt)
end
theorem j7 {τ:Type} {l:List τ} {i:Nat} (h:i<l.length):aL l (i:Int)=some l[i]:=by rw [q6]; simp [h]
theorem og {τ:Type} {l m:List τ} {bytes:Nat} (h:(l.length+m.length)*bytes≤225000000000000):apO bytes l m=some (l++m):=if_pos h
theorem dA {τ:Type} {bytes:Nat} {l c:Int} {t0:τ} (h:0≤l∧l≤c∧(bytes:Int)*c≤281474976710656∧c≤9223372036854775807):mkO bytes l c t0=some (List.replicate l.toNat t0):=if_pos h
theorem qD {τ:Type} {l:List τ} {k:Nat} (h:k≤l.length):drO l (k:Int)=some (l.drop k):=by
 unfold drO; rw [if_pos (by simp; omega)]; simp
theorem ov {τ:Type} {l:List τ} {lo hi:Nat} (h:lo≤hi) (h2:hi≤l.length):slO l (lo:Int) (hi:Int)=some ((l.drop lo).take (hi - lo)):=by
 unfold slO; rw [if_pos (by simp; omega)]; simp
theorem ak {α ρ:Type} (a:α) (k:α→Option ρ):an (some a) k=k a:=rfl
theorem aY {α ρ:Type} (a:α) (k:α→Option ρ):br a k=k a:=rfl
end Go.Gk
end

section
namespace Go.Gk
open Go
theorem bH {σ ρ:Type} {f:σ→Option (σ⊕ρ)} {s:σ} {X:Option ρ} (h:f s=bJ X):loop f s=X:=by
 rw [j0,h]
 cases X <;> rfl
end Go.Gk
end

section
namespace Go.Gk.Sh
open Go Go.Gk
theorem d6 {σ α ρ:Type} {f:σ→Option (σ⊕ρ)} (st:α→Nat→σ) (I:α→Prop) (g:α→Nat→α) (lo n:Nat) {X:α→Option ρ}
  (hstep:∀i x,lo≤i→i<n→I x→f (st x i)=some (.inl (st (g x i) (i+1)))∧I (g x i)) (hend:∀x,I x→f (st x n)=bJ (X x)) :
  ∀(r i:Nat) (x:α),lo≤i→i+r=n→I x→loop f (st x i)=X ((List.range' i r).foldl g x)
 | 0,i,x,hl,h,hx=>by
  have:i=n:=by omega
  subst this
  simp only [List.range'_zero,List.foldl_nil]
  exact bH (hend x hx)
 | r+1,i,x,hl,h,hx=>by
  obtain ⟨h1,h2⟩:=hstep i x hl (by omega) hx
  rw [bM h1,List.range'_succ,List.foldl_cons]
  exact d6 st I g lo n hstep hend r (i+1) _ (by omega) (by omega) h2
theorem gK {α:Type} (I:α→Prop) (g:α→Nat→α) (h:∀i x,I x→I (g x i)):∀(r i:Nat) (x:α),I x→I ((List.range' i r).foldl g x)
 | 0,i,x,hx=>by simpa using hx
 | r+1,i,x,hx=>by
  rw [List.range'_succ,List.foldl_cons]
  exact gK I g h r (i+1) _ (h i x hx)
theorem gE {α:Type} {g g':α→Nat→α}:∀(r i:Nat) (x:α),(∀k y,i≤k→k<i+r→g y k=g' y k)→(List.range' i r).foldl g x=(List.range' i r).foldl g' x
 | 0,i,x,_=>rfl
 | r+1,i,x,h=>by
  rw [List.range'_succ,List.foldl_cons,List.foldl_cons,h i x (Nat.le_refl _) (by omega)]
  exact gE r (i+1) _ fun k y h1 h2=>h k y (by omega) (by omega)
theorem aV {τ:Type} [Inhabited τ] {l:List τ} {i:Nat} (h:i<l.length) (d:τ):aL l (i:Int)=some (l.getD i d):=by
 rw [j7 h,List.getD_eq_getElem?_getD,List.getElem?_eq_getElem h]; rfl
theorem BF (e f g:UInt32):g ^^^ (e &&& (f ^^^ g))=(e &&& f) ^^^ (~~~e &&& g):=by
 apply UInt32.eq_of_toBitVec_eq
 simp only [UInt32.toBitVec_xor,UInt32.toBitVec_and,UInt32.toBitVec_not]
 ext i hi
 simp only [BitVec.getElem_xor,BitVec.getElem_and,BitVec.getElem_not]
 cases e.toBitVec[i] <;> cases f.toBitVec[i] <;> cases g.toBitVec[i] <;> rfl
theorem Bl (a b c:UInt32):(a &&& b) ||| (c &&& (a ||| b))=((a &&& b) ^^^ (a &&& c)) ^^^ (b &&& c):=by
 apply UInt32.eq_of_toBitVec_eq
 simp only [UInt32.toBitVec_xor,UInt32.toBitVec_and,UInt32.toBitVec_or]
 ext i hi
 simp only [BitVec.getElem_xor,BitVec.getElem_and,BitVec.getElem_or]
 cases a.toBitVec[i] <;> cases b.toBitVec[i] <;> cases c.toBitVec[i] <;> rfl
theorem BC (e f g:UInt64):g ^^^ (e &&& (f ^^^ g))=(e &&& f) ^^^ (~~~e &&& g):=by
 apply UInt64.eq_of_toBitVec_eq
 simp only [UInt64.toBitVec_xor,UInt64.toBitVec_and,UInt64.toBitVec_not]
 ext i hi
 simp only [BitVec.getElem_xor,BitVec.getElem_and,BitVec.getElem_not]
 cases e.toBitVec[i] <;> cases f.toBitVec[i] <;> cases g.toBitVec[i] <;> rfl
theorem A2 (a b c:UInt64):(a &&& b) ||| (c &&& (a ||| b))=((a &&& b) ^^^ (a &&& c)) ^^^ (b &&& c):=by
 apply UInt64.eq_of_toBitVec_eq
 simp only [UInt64.toBitVec_xor,UInt64.toBitVec_and,UInt64.toBitVec_or]
 ext i hi
 simp only [BitVec.getElem_xor,BitVec.getElem_and,BitVec.getElem_or]
 cases a.toBitVec[i] <;> cases b.toBitVec[i] <;> cases c.toBitVec[i] <;> rfl
def iF (x:UInt32) (k:Nat):UInt32:=bD x k ||| cg x (32 - k)
def iy (x:UInt64) (k:Nat):UInt64:=aQ x k ||| bp x (64 - k)
theorem ig (x:UInt32) (k:Nat) (h:0<k) (h2:k<32):F.BL x (-(k:Int))=some (iF x k):=by
 unfold F.BL iF
 have key:∀k:Fin 32,0<k.val→((UInt64.ofInt (-(k.val:Int))) &&& 31).toNat=32 - k.val∧((32:UInt64) - ((UInt64.ofInt (-(k.val:Int))) &&& 31)).toNat=k.val:=by decide
 obtain ⟨h3,h4⟩:=key ⟨k,h2⟩ h
 simp only at h3 h4
 rw [h3,h4,UInt32.or_comm]
theorem ib (x:UInt64) (k:Nat) (h:0<k) (h2:k<64):F.BN x (-(k:Int))=some (iy x k):=by
 unfold F.BN iy
 have key:∀k:Fin 64,0<k.val→((UInt64.ofInt (-(k.val:Int))) &&& 63).toNat=64 - k.val∧((64:UInt64) - ((UInt64.ofInt (-(k.val:Int))) &&& 63)).toNat=k.val:=by decide
 obtain ⟨h3,h4⟩:=key ⟨k,h2⟩ h
 simp only at h3 h4
 rw [h3,h4,UInt64.or_comm]
theorem zo:F.Ct=F.FT:=rfl
theorem zb:F.Cu=F.F2:=rfl
end Go.Gk.Sh
end

section
namespace Go.Gk.Sh
open Go Go.Gk
abbrev V8 (W:Type):=W×W×W×W×W×W×W×W
def toL {W:Type} (v:V8 W):List W:=[v.1,v.2.1,v.2.2.1,v.2.2.2.1,v.2.2.2.2.1,v.2.2.2.2.2.1,v.2.2.2.2.2.2.1,v.2.2.2.2.2.2.2]
def ofL {W:Type} (d:W) (l:List W):V8 W:=(l.getD 0 d,l.getD 1 d,l.getD 2 d,l.getD 3 d,l.getD 4 d,l.getD 5 d,l.getD 6 d,l.getD 7 d)
def qE (b:List UInt8) (i:Nat):UInt32:=
 ((cg (b.getD (4*i) 0).toUInt32 24 ||| cg (b.getD (4*i+1) 0).toUInt32 16) ||| cg (b.getD (4*i+2) 0).toUInt32 8) ||| (b.getD (4*i+3) 0).toUInt32
def yI (w:List UInt32) (i:Nat):UInt32:=
 ((w.getD (i - 16) 0+w.getD (i - 7) 0)+((iF (w.getD (i - 15) 0) 7 ^^^ iF (w.getD (i - 15) 0) 18) ^^^ bD (w.getD (i - 15) 0) 3)) +
  ((iF (w.getD (i - 2) 0) 17 ^^^ iF (w.getD (i - 2) 0) 19) ^^^ bD (w.getD (i - 2) 0) 10)
def eE (b:List UInt8) (w:List UInt32) (i:Nat):List UInt32:=if i<16 then w.set i (qE b i) else w.set i (yI w i)
def gI (b:List UInt8):List UInt32:=(List.range' 0 64).foldl (eE b) (List.replicate 64 0)
def A0 (v:V8 UInt32) (k w:UInt32):UInt32:=
 (((v.2.2.2.2.2.2.2+((iF v.2.2.2.2.1 6 ^^^ iF v.2.2.2.2.1 11) ^^^ iF v.2.2.2.2.1 25))+((v.2.2.2.2.1 &&& v.2.2.2.2.2.1) ^^^ (~~~v.2.2.2.2.1 &&& v.2.2.2.2.2.2.1)))+k)+w
def Bu (v:V8 UInt32):UInt32:=((iF v.1 2 ^^^ iF v.1 13) ^^^ iF v.1 22)+(((v.1 &&& v.2.1) ^^^ (v.1 &&& v.2.2.1)) ^^^ (v.2.1 &&& v.2.2.1))
def yD (ws:List UInt32) (v:V8 UInt32) (i:Nat):V8 UInt32:=
 (A0 v (F.FT.getD i 0) (ws.getD i 0)+Bu v,v.1,v.2.1,v.2.2.1,v.2.2.2.1+A0 v (F.FT.getD i 0) (ws.getD i 0),v.2.2.2.2.1,v.2.2.2.2.2.1,v.2.2.2.2.2.2.1)
def oH (v:List UInt32) (h:List UInt32) (i:Nat):List UInt32:=h.set i (h.getD i 0+v.getD i 0)
def km (h:List UInt32) (b:List UInt8):List UInt32:=(List.range' 0 8).foldl (oH (toL ((List.range' 0 64).foldl (yD (gI b)) (ofL 0 h)))) h
theorem jx (b:List UInt8) (i:Nat) (w:List UInt32) (hw:w.length=64):(eE b w i).length=64:=by
 unfold eE; split <;> simpa using hw
theorem wy (b:List UInt8):(gI b).length=64:=gK (fun w:List UInt32=>w.length=64) (eE b) (fun i x hx=>jx b i x hx) 64 0 _ (by simp)
theorem rA (v:List UInt32) (i:Nat) (h:List UInt32) (hh:h.length=8):(oH v h i).length=8:=by unfold oH; simpa using hh
theorem xv (h:List UInt32) (b:List UInt8) (hh:h.length=8):(km h b).length=8:=gK (fun w:List UInt32=>w.length=8) _ (fun i x hx=>rA _ i x hx) 8 0 _ hh
theorem sO (b:List UInt8):gI b=(List.range' 16 48).foldl (eE b) ((List.range' 0 16).foldl (eE b) (List.replicate 64 0)):=by
 unfold gI
 rw [←List.foldl_append]; rfl
theorem wI1 (i:Nat) (h:i<1000000):wI ((i:Int)+1)=((i+1:Nat):Int):=by rw [aR (by omega) (by omega)]; rfl
theorem wIs (i k:Nat) (h:k≤i) (h2:i<1000000):wI ((i:Int) - (k:Int))=((i - k:Nat):Int):=by rw [aR (by omega) (by omega)]; omega
theorem x9 (i:Nat) (w:List UInt32) (h16:16≤i) (hi:i<64) (hw:w.length=64) {ρ:Type} (K:UInt32→UInt32→UInt32→UInt32→Option ρ) :
  (an (aL w (wI ((i:Int) - 15))) fun x23=>an (aL w (wI ((i:Int) - 2))) fun x24=>an (aL w (wI ((i:Int) - 16))) fun x25=>an (aL w (wI ((i:Int) - 7))) fun x26=>K x23 x24 x25 x26) =
   K (w.getD (i - 15) 0) (w.getD (i - 2) 0) (w.getD (i - 16) 0) (w.getD (i - 7) 0):=by
 have m:∀k:Nat,k≤16→aL w (wI ((i:Int) - (k:Int)))=some (w.getD (i - k) 0):=fun k hk=>by
  rw [wIs i k (by omega) (by omega),aV (by omega) 0]
 have m15:=m 15 (by omega); have m2:=m 2 (by omega); have m16:=m 16 (by omega); have m7:=m 7 (by omega)
 rw [show aL w (wI ((i:Int) - 15))=_ from m15,ak,show aL w (wI ((i:Int) - 2))=_ from m2,ak,show aL w (wI ((i:Int) - 16))=_ from m16,ak,show aL w (wI ((i:Int) - 7))=_ from m7,ak]
theorem uq (a:Int) (h:List UInt32) (l:List UInt64) (rest:List UInt8) (n:UInt64) (hh:h.length=8) (hr:rest.length=128) :
  F.Fb a h l rest n=some (a,km h rest,l,rest,n):=by
 unfold F.Fb
 -- the first sixteen words
 have e1:=d6 (f:=F.E1 rest h a l n) (fun w i=>((i:Int),w)) (fun w=>w.length=64) (eE rest) 0 16
  (X:=fun w=>loop (F.C9 h a l rest n) (16,w))
  (fun i w _ hi hw=>by
   have c1:decide ((i:Int)<16)=true:=decide_eq_true (by omega)
   have m4:wI (4*(i:Int))=((4*i:Nat):Int):=by rw [aR (by omega) (by omega)]; omega
   have d:∀k:Nat,k<4→aL (rest.drop (4*i)) (k:Int)=some (rest.getD (4*i+k) 0):=fun k hk=>by
    rw [aV (by simp; omega) 0,List.getD_eq_getElem?_getD,List.getElem?_drop,List.getD_eq_getElem?_getD]
   refine ⟨?_,jx rest i w hw⟩
   simp only [F.E1,c1,if_true,m4,qD (show 4*i≤rest.length by omega),ak,aY]
   have d0:=d 0 (by omega); have d1:=d 1 (by omega); have d2:=d 2 (by omega); have d3:=d 3 (by omega)
   simp only [show ((0:Nat):Int)=0 from rfl,show ((1:Nat):Int)=1 from rfl,show ((2:Nat):Int)=2 from rfl,show ((3:Nat):Int)=3 from rfl,Nat.add_zero]at d0 d1 d2 d3
   rw [d0,ak,d1,ak,d2,ak,d3,ak,j7 (show i<w.length by omega),ak,wI1 i (by omega),Int.toNat_natCast]
   simp only [eE,hi,if_true,qE]
   rfl)
  (fun w hw=>rfl) 16 0 (List.replicate 64 0) (Nat.le_refl _) rfl (by simp)
 have e2:=fun (w:List UInt32) (hw:w.length=64)=>d6 (f:=F.C9 h a l rest n) (fun w i=>((i:Int),w)) (fun w=>w.length=64) (eE rest) 16 64
  (X:=fun w=>loop (F.DV h w a l rest n) (h.getD 0 0,h.getD 1 0,h.getD 2 0,h.getD 3 0,h.getD 4 0,h.getD 5 0,h.getD 6 0,h.getD 7 0,0))
  (fun i w h16 hi hw=>by
   have c1:decide ((i:Int)<64)=true:=decide_eq_true (by omega)
   refine ⟨?_,jx rest i w hw⟩
   simp only [F.C9,c1,if_true,x9 i w h16 hi hw]
   rw [show F.BL (w.getD (i - 15) 0) (-7)=_ from ig _ 7 (by omega) (by omega),ak,show F.BL (w.getD (i - 15) 0) (-18)=_ from ig _ 18 (by omega) (by omega),ak,
    show F.BL (w.getD (i - 2) 0) (-17)=_ from ig _ 17 (by omega) (by omega),ak,show F.BL (w.getD (i - 2) 0) (-19)=_ from ig _ 19 (by omega) (by omega),ak,
    j7 (show i<w.length by omega),ak,aY,wI1 i (by omega),Int.toNat_natCast]
   simp only [eE,show ¬i<16 by omega,if_false,yI]
   rfl)
  (fun w hw=>by
   have g:∀k:Nat,k<8→aL h (k:Int)=some (h.getD k 0):=fun k hk=>aV (by omega) 0
   have g0:=g 0 (by omega); have g1:=g 1 (by omega); have g2:=g 2 (by omega); have g3:=g 3 (by omega); have g4:=g 4 (by omega); have g5:=g 5 (by omega); have g6:=g 6 (by omega); have g7:=g 7 (by omega)
   simp only [F.C9,show decide (((64:Nat):Int)<64)=false from rfl,Bool.false_eq_true,if_false]
   rw [show aL h (0:Int)=_ from g0,ak,show aL h (1:Int)=_ from g1,ak,show aL h (2:Int)=_ from g2,ak,show aL h (3:Int)=_ from g3,ak,show aL h (4:Int)=_ from g4,ak,show aL h (5:Int)=_ from g5,ak,show aL h (6:Int)=_ from g6,ak,show aL h (7:Int)=_ from g7,ak])
  48 16 w (Nat.le_refl _) rfl hw
 have e3:=fun (ws:List UInt32) (hw:ws.length=64)=>d6 (f:=F.DV h ws a l rest n) (fun (v:V8 UInt32) i=>(v.1,v.2.1,v.2.2.1,v.2.2.2.1,v.2.2.2.2.1,v.2.2.2.2.2.1,v.2.2.2.2.2.2.1,v.2.2.2.2.2.2.2,(i:Int))) (fun _=>True) (yD ws) 0 64
  (X:=fun v=>loop (F.D8 a l rest n v.1 v.2.1 v.2.2.1 v.2.2.2.1 v.2.2.2.2.1 v.2.2.2.2.2.1 v.2.2.2.2.2.2.1 v.2.2.2.2.2.2.2) (0,h))
  (fun i v _ hi _=>by
   have c1:decide ((i:Int)<64)=true:=decide_eq_true (by omega)
   refine ⟨?_,trivial⟩
   simp only [F.DV,c1,if_true]
   rw [show F.BL v.2.2.2.2.1 (-6)=_ from ig _ 6 (by omega) (by omega),ak,show F.BL v.2.2.2.2.1 (-11)=_ from ig _ 11 (by omega) (by omega),ak,show F.BL v.2.2.2.2.1 (-25)=_ from ig _ 25 (by omega) (by omega),ak,
    zo,aV (show i<F.FT.length from hi) 0,ak,aV (show i<ws.length by omega) 0,ak,aY,
    show F.BL v.1 (-2)=_ from ig _ 2 (by omega) (by omega),ak,show F.BL v.1 (-13)=_ from ig _ 13 (by omega) (by omega),ak,show F.BL v.1 (-22)=_ from ig _ 22 (by omega) (by omega),ak,aY,BF,Bl,wI1 i (by omega)]
   rfl)
  (fun v _=>rfl) 64 0 (ofL 0 h) (Nat.le_refl _) rfl trivial
 have e4:=fun (v:V8 UInt32)=>d6 (f:=F.D8 a l rest n v.1 v.2.1 v.2.2.1 v.2.2.2.1 v.2.2.2.2.1 v.2.2.2.2.2.1 v.2.2.2.2.2.2.1 v.2.2.2.2.2.2.2) (fun h i=>((i:Int),h)) (fun h=>h.length=8) (oH (toL v)) 0 8
  (X:=fun h=>some (a,h,l,rest,n))
  (fun i h _ hi hh=>by
   have c1:decide ((i:Int)<8)=true:=decide_eq_true (by omega)
   refine ⟨?_,rA _ i h hh⟩
   simp only [F.D8,c1,if_true]
   rw [aV (l:=[v.1,v.2.1,v.2.2.1,v.2.2.2.1,v.2.2.2.2.1,v.2.2.2.2.2.1,v.2.2.2.2.2.2.1,v.2.2.2.2.2.2.2]) (show i<8 from hi) 0,ak,aV (show i<h.length by omega) 0,ak,ak,aY,wI1 i (by omega),Int.toNat_natCast]
   rfl)
  (fun h hh=>rfl) 8 0 h (Nat.le_refl _) rfl hh
 refine e1.trans ?_
 refine (e2 _ (gK (fun w:List UInt32=>w.length=64) (eE rest) (fun i x hx=>jx rest i x hx) 16 0 _ (by simp))).trans ?_
 rw [←sO]
 refine (e3 _ (wy rest)).trans ?_
 exact e4 _
end Go.Gk.Sh
end

section
namespace Go.Gk.Sh
open Go Go.Gk
end Go.Gk.Sh
end

section
namespace Go.Gk.Sh
open Go Go.Gk
theorem cq {σ α ρ:Type} {f:σ→Option (σ⊕ρ)} (st:α→Nat→σ) (I:Nat→α→Prop) (g:α→Nat→α) (lo n:Nat) {X:α→Option ρ}
  (hstep:∀i x,lo≤i→i<n→I i x→f (st x i)=some (.inl (st (g x i) (i+1)))∧I (i+1) (g x i)) (hend:∀x,I n x→f (st x n)=bJ (X x)) :
  ∀(r i:Nat) (x:α),lo≤i→i+r=n→I i x→loop f (st x i)=X ((List.range' i r).foldl g x)
 | 0,i,x,hl,h,hx=>by
  have:i=n:=by omega
  subst this
  simp only [List.range'_zero,List.foldl_nil]
  exact bH (hend x hx)
 | r+1,i,x,hl,h,hx=>by
  obtain ⟨h1,h2⟩:=hstep i x hl (by omega) hx
  rw [bM h1,List.range'_succ,List.foldl_cons]
  exact cq st I g lo n hstep hend r (i+1) _ (by omega) (by omega) h2
theorem cH {α:Type} (I:Nat→α→Prop) (g:α→Nat→α) (h:∀i x,I i x→I (i+1) (g x i)):∀(r i:Nat) (x:α),I i x→I (i+r) ((List.range' i r).foldl g x)
 | 0,i,x,hx=>by simpa using hx
 | r+1,i,x,hx=>by
  rw [List.range'_succ,List.foldl_cons,show i+(r+1)=i+1+r by omega]
  exact cH I g h r (i+1) _ (h i x hx)
def ra (b:List UInt8) (i:Nat) (x:UInt64) (k:Nat):UInt64:=bp x 8 ||| (b.getD (8*i+k) 0).toUInt64
def oB (b:List UInt8) (i:Nat):UInt64:=(List.range' 0 8).foldl (ra b i) 0
def yM (w:List UInt64) (i:Nat):UInt64:=
 ((w.getD (i - 16) 0+w.getD (i - 7) 0)+((iy (w.getD (i - 15) 0) 1 ^^^ iy (w.getD (i - 15) 0) 8) ^^^ aQ (w.getD (i - 15) 0) 7)) +
  ((iy (w.getD (i - 2) 0) 19 ^^^ iy (w.getD (i - 2) 0) 61) ^^^ aQ (w.getD (i - 2) 0) 6)
def d8 (b:List UInt8) (w:List UInt64) (i:Nat):List UInt64:=if i<16 then w.set i (oB b i) else w.set i (yM w i)
def gS (b:List UInt8):List UInt64:=(List.range' 0 80).foldl (d8 b) (List.replicate 80 0)
def Ap (v:V8 UInt64) (k w:UInt64):UInt64:=
 (((v.2.2.2.2.2.2.2+((iy v.2.2.2.2.1 14 ^^^ iy v.2.2.2.2.1 18) ^^^ iy v.2.2.2.2.1 41))+((v.2.2.2.2.1 &&& v.2.2.2.2.2.1) ^^^ (~~~v.2.2.2.2.1 &&& v.2.2.2.2.2.2.1)))+k)+w
def BA (v:V8 UInt64):UInt64:=((iy v.1 28 ^^^ iy v.1 34) ^^^ iy v.1 39)+(((v.1 &&& v.2.1) ^^^ (v.1 &&& v.2.2.1)) ^^^ (v.2.1 &&& v.2.2.1))
def yF (ws:List UInt64) (v:V8 UInt64) (i:Nat):V8 UInt64:=
 (Ap v (F.F2.getD i 0) (ws.getD i 0)+BA v,v.1,v.2.1,v.2.2.1,v.2.2.2.1+Ap v (F.F2.getD i 0) (ws.getD i 0),v.2.2.2.2.1,v.2.2.2.2.2.1,v.2.2.2.2.2.2.1)
def oq (v:List UInt64) (h:List UInt64) (i:Nat):List UInt64:=h.set i (h.getD i 0+v.getD i 0)
def kj (h:List UInt64) (b:List UInt8):List UInt64:=(List.range' 0 8).foldl (oq (toL ((List.range' 0 80).foldl (yF (gS b)) (ofL 0 h)))) h
def il (i:Nat) (w:List UInt64):Prop:=w.length=80∧∀k,i≤k→w.getD k 0=0
theorem lc (b:List UInt8) (i:Nat) (w:List UInt64) (hw:il i w):il (i+1) (d8 b w i):=by
 unfold d8
 refine ⟨by split <;> simpa using hw.1,fun k hk=>?_⟩
 have:=hw.2 k (by omega)
 rw [List.getD_eq_getElem?_getD]at this ⊢
 split <;> (rw [List.getElem?_set]; rw [if_neg (by omega)]; exact this)
theorem o7:il 0 (List.replicate 80 0):=⟨by simp,fun k _=>by
 rw [List.getD_eq_getElem?_getD,List.getElem?_replicate]; split <;> rfl⟩
theorem vQ (b:List UInt8):il 80 (gS b):=cH il (d8 b) (fun i x hx=>lc b i x hx) 80 0 _ o7
theorem nV (v:List UInt64) (i:Nat) (h:List UInt64) (hh:h.length=8):(oq v h i).length=8:=by unfold oq; simpa using hh
theorem uY (h:List UInt64) (b:List UInt8) (hh:h.length=8):(kj h b).length=8:=gK (fun w:List UInt64=>w.length=8) _ (fun i x hx=>nV _ i x hx) 8 0 _ hh
theorem qi (b:List UInt8):gS b=(List.range' 16 64).foldl (d8 b) ((List.range' 0 16).foldl (d8 b) (List.replicate 80 0)):=by
 unfold gS
 rw [←List.foldl_append]; rfl
theorem Bi {w:List UInt64} {i:Nat} (h:i<w.length):w.set i (w.getD i 0)=w:=by
 apply List.ext_getElem?
 intro k
 rw [List.getElem?_set]
 split
 ·rename_i e
  subst e
  rw [List.getD_eq_getElem?_getD,List.getElem?_eq_getElem h]; simp [h]
 ·rfl
theorem rH {w:List UInt64} {i:Nat} (h:i<w.length) (x:UInt64):aL (w.set i x) (i:Int)=some x:=by
 rw [q6,List.getElem?_set,if_pos rfl,if_pos h]
theorem uU (i:Nat) (w:List UInt64) (h16:16≤i) (hi:i<80) (hw:w.length=80) {ρ:Type} (K:UInt64→UInt64→UInt64→UInt64→Option ρ) :
  (an (aL w (wI ((i:Int) - 15))) fun x23=>an (aL w (wI ((i:Int) - 2))) fun x24=>an (aL w (wI ((i:Int) - 16))) fun x25=>an (aL w (wI ((i:Int) - 7))) fun x26=>K x23 x24 x25 x26) =
   K (w.getD (i - 15) 0) (w.getD (i - 2) 0) (w.getD (i - 16) 0) (w.getD (i - 7) 0):=by
 have m:∀k:Nat,k≤16→aL w (wI ((i:Int) - (k:Int)))=some (w.getD (i - k) 0):=fun k hk=>by
  rw [wIs i k (by omega) (by omega),aV (by omega) 0]
 have m15:=m 15 (by omega); have m2:=m 2 (by omega); have m16:=m 16 (by omega); have m7:=m 7 (by omega)
 rw [show aL w (wI ((i:Int) - 15))=_ from m15,ak,show aL w (wI ((i:Int) - 2))=_ from m2,ak,show aL w (wI ((i:Int) - 16))=_ from m16,ak,show aL w (wI ((i:Int) - 7))=_ from m7,ak]
theorem uJ (a:Int) (h:List UInt64) (l:List UInt32) (rest:List UInt8) (n:UInt64) (hh:h.length=8) (hr:rest.length=128) :
  F.Fs a l h rest n=some (a,l,kj h rest,rest,n):=by
 unfold F.Fs
 -- the first sixteen words
 have e0:=fun (i:Nat) (w:List UInt64) (hi:i<16) (hw:il i w)=>d6 (f:=F.Ef (i:Int) ((rest.drop (8*i)).take (8*i+8 - 8*i))) (fun x j=>((j:Int),w.set i x)) (fun _=>True) (ra rest i) 0 8
  (X:=fun x=>(some (.inl (((i+1:Nat):Int),w.set i x)):Option ((Int×List UInt64)⊕(Int×List UInt32×List UInt64×List UInt8×UInt64))))
  (fun j x _ hj _=>by
   have hl:((rest.drop (8*i)).take (8*i+8 - 8*i)).length=8:=by simp; omega
   have c1:decide ((j:Int)<(((rest.drop (8*i)).take (8*i+8 - 8*i)).length:Int))=true:=decide_eq_true (by omega)
   have g:aL ((rest.drop (8*i)).take (8*i+8 - 8*i)) (j:Int)=some (rest.getD (8*i+j) 0):=by
    rw [aV (by omega) 0,List.getD_eq_getElem?_getD,List.getElem?_take,if_pos (by omega),List.getElem?_drop,List.getD_eq_getElem?_getD]
   have hwl:=hw.1
   refine ⟨?_,trivial⟩
   simp only [F.Ef,c1,if_true]
   rw [g,ak,rH (by omega),ak,ak,aY,wI1 j (by omega),Int.toNat_natCast,List.set_set]
   rfl)
  (fun x _=>by
   have hl:((rest.drop (8*i)).take (8*i+8 - 8*i)).length=8:=by simp; omega
   have c1:decide (((8:Nat):Int)<(((rest.drop (8*i)).take (8*i+8 - 8*i)).length:Int))=false:=decide_eq_false (by omega)
   simp only [F.Ef,c1,Bool.false_eq_true,if_false,wI1 i (by omega)]
   rfl)
  8 0 0 (Nat.le_refl _) rfl trivial
 have e1:=cq (f:=F.FB rest h a l n) (fun w i=>((i:Int),w)) il (d8 rest) 0 16
  (X:=fun w=>loop (F.DR h a l rest n) (16,w))
  (fun i w _ hi hw=>by
   have c1:decide ((i:Int)<16)=true:=decide_eq_true (by omega)
   have m8:wI (8*(i:Int))=((8*i:Nat):Int):=by rw [aR (by omega) (by omega)]; omega
   have m9:wI (((8*i:Nat):Int)+8)=((8*i+8:Nat):Int):=by rw [aR (by omega) (by omega)]; omega
   refine ⟨?_,lc rest i w hw⟩
   simp only [F.FB,c1,if_true,m8,m9]
   rw [ov (by omega) (by omega),ak]
   have h0:=e0 i w hi hw
   have hz:w.set i 0=w:=by
    have:=Bi (w:=w) (i:=i) (by have:=hw.1; omega)
    rwa [hw.2 i (Nat.le_refl _)]at this
   rw [hz]at h0
   refine h0.trans ?_
   simp only [d8,hi,if_true,oB])
  (fun w hw=>rfl) 16 0 (List.replicate 80 0) (Nat.le_refl _) rfl o7
 have e2:=fun (w:List UInt64) (hw:w.length=80)=>d6 (f:=F.DR h a l rest n) (fun w i=>((i:Int),w)) (fun w=>w.length=80) (d8 rest) 16 80
  (X:=fun w=>loop (F.DX h w a l rest n) (h.getD 0 0,h.getD 1 0,h.getD 2 0,h.getD 3 0,h.getD 4 0,h.getD 5 0,h.getD 6 0,h.getD 7 0,0))
  (fun i w h16 hi hw=>by
   have c1:decide ((i:Int)<80)=true:=decide_eq_true (by omega)
   refine ⟨?_,(by unfold d8; split <;> simpa using hw)⟩
   simp only [F.DR,c1,if_true,uU i w h16 hi hw]
   rw [show F.BN (w.getD (i - 15) 0) (-1)=_ from ib _ 1 (by omega) (by omega),ak,show F.BN (w.getD (i - 15) 0) (-8)=_ from ib _ 8 (by omega) (by omega),ak,
    show F.BN (w.getD (i - 2) 0) (-19)=_ from ib _ 19 (by omega) (by omega),ak,show F.BN (w.getD (i - 2) 0) (-61)=_ from ib _ 61 (by omega) (by omega),ak,
    j7 (show i<w.length by omega),ak,aY,wI1 i (by omega),Int.toNat_natCast]
   simp only [d8,show ¬i<16 by omega,if_false,yM]
   rfl)
  (fun w hw=>by
   have g:∀k:Nat,k<8→aL h (k:Int)=some (h.getD k 0):=fun k hk=>aV (by omega) 0
   have g0:=g 0 (by omega); have g1:=g 1 (by omega); have g2:=g 2 (by omega); have g3:=g 3 (by omega); have g4:=g 4 (by omega); have g5:=g 5 (by omega); have g6:=g 6 (by omega); have g7:=g 7 (by omega)
   simp only [F.DR,show decide (((80:Nat):Int)<80)=false from rfl,Bool.false_eq_true,if_false]
   rw [show aL h (0:Int)=_ from g0,ak,show aL h (1:Int)=_ from g1,ak,show aL h (2:Int)=_ from g2,ak,show aL h (3:Int)=_ from g3,ak,show aL h (4:Int)=_ from g4,ak,show aL h (5:Int)=_ from g5,ak,show aL h (6:Int)=_ from g6,ak,show aL h (7:Int)=_ from g7,ak])
  64 16 w (Nat.le_refl _) rfl hw
 have e3:=fun (ws:List UInt64) (hw:ws.length=80)=>d6 (f:=F.DX h ws a l rest n) (fun (v:V8 UInt64) i=>(v.1,v.2.1,v.2.2.1,v.2.2.2.1,v.2.2.2.2.1,v.2.2.2.2.2.1,v.2.2.2.2.2.2.1,v.2.2.2.2.2.2.2,(i:Int))) (fun _=>True) (yF ws) 0 80
  (X:=fun v=>loop (F.EQ a l rest n v.1 v.2.1 v.2.2.1 v.2.2.2.1 v.2.2.2.2.1 v.2.2.2.2.2.1 v.2.2.2.2.2.2.1 v.2.2.2.2.2.2.2) (0,h))
  (fun i v _ hi _=>by
   have c1:decide ((i:Int)<80)=true:=decide_eq_true (by omega)
   refine ⟨?_,trivial⟩
   simp only [F.DX,c1,if_true]
   rw [show F.BN v.2.2.2.2.1 (-14)=_ from ib _ 14 (by omega) (by omega),ak,show F.BN v.2.2.2.2.1 (-18)=_ from ib _ 18 (by omega) (by omega),ak,show F.BN v.2.2.2.2.1 (-41)=_ from ib _ 41 (by omega) (by omega),ak,
    zb,aV (show i<F.F2.length from hi) 0,ak,aV (show i<ws.length by omega) 0,ak,aY,
    show F.BN v.1 (-28)=_ from ib _ 28 (by omega) (by omega),ak,show F.BN v.1 (-34)=_ from ib _ 34 (by omega) (by omega),ak,show F.BN v.1 (-39)=_ from ib _ 39 (by omega) (by omega),ak,aY,BC,A2,wI1 i (by omega)]
   rfl)
  (fun v _=>rfl) 80 0 (ofL 0 h) (Nat.le_refl _) rfl trivial
 have e4:=fun (v:V8 UInt64)=>d6 (f:=F.EQ a l rest n v.1 v.2.1 v.2.2.1 v.2.2.2.1 v.2.2.2.2.1 v.2.2.2.2.2.1 v.2.2.2.2.2.2.1 v.2.2.2.2.2.2.2) (fun h i=>((i:Int),h)) (fun h=>h.length=8) (oq (toL v)) 0 8
  (X:=fun h=>some (a,l,h,rest,n))
  (fun i h _ hi hh=>by
   have c1:decide ((i:Int)<8)=true:=decide_eq_true (by omega)
   refine ⟨?_,nV _ i h hh⟩
   simp only [F.EQ,c1,if_true]
   rw [aV (l:=[v.1,v.2.1,v.2.2.1,v.2.2.2.1,v.2.2.2.2.1,v.2.2.2.2.2.1,v.2.2.2.2.2.2.1,v.2.2.2.2.2.2.2]) (show i<8 from hi) 0,ak,aV (show i<h.length by omega) 0,ak,ak,aY,wI1 i (by omega),Int.toNat_natCast]
   rfl)
  (fun h hh=>rfl) 8 0 h (Nat.le_refl _) rfl hh
 refine e1.trans ?_
 refine (e2 _ (cH il (d8 rest) (fun i x hx=>lc rest i x hx) 16 0 _ o7).1).trans ?_
 rw [←qi]
 refine (e3 _ ((vQ rest).1)).trans ?_
 exact e4 _
end Go.Gk.Sh
end
