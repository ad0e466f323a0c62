import Derived.Test.YtkickcbphbgldaaGreatDoorGkS
import Derived.Test.YtkickcbphbgldaaGreatDoorGkFman
set_option linter.unusedVariables false
set_option linter.unusedSimpArgs false
set_option linter.unusedSectionVars false

section
namespace Go.Gk
theorem rk {x y:Nat} (k:Nat) (hx:x%2^k=0) (hy:y<2^k):x ||| y=x+y:=by
 have h1:x=(x / 2^k) <<< k:=by
  rw [Nat.shiftLeft_eq]
  have:=Nat.div_add_mod x (2^k)
  rw [hx]at this
  rw [Nat.mul_comm]; omega
 rw [h1,←Nat.shiftLeft_add_eq_or_of_lt hy]
section
theorem jL (x:UInt64) (n:Nat):(bm x n).toNat=x.toNat*2^(min n 64)%18446744073709551616:=by simp [bm,UInt64.toNat_ofNat']
theorem dB (x:UInt64) (n:Nat):(aP x n).toNat=x.toNat / 2^(min n 64):=by
 simp only [aP,UInt64.toNat_ofNat']
 exact Nat.mod_eq_of_lt (Nat.lt_of_le_of_lt (Nat.div_le_self _ _) x.toNat_lt)
theorem mI (x:UInt32) (n:Nat):(cf x n).toNat=x.toNat*2^(min n 32)%4294967296:=by simp [cf,UInt32.toNat_ofNat']
theorem fK (x:UInt32) (n:Nat):(bA x n).toNat=x.toNat / 2^(min n 32):=by
 simp only [bA,UInt32.toNat_ofNat']
 exact Nat.mod_eq_of_lt (Nat.lt_of_le_of_lt (Nat.div_le_self _ _) x.toNat_lt)
end
theorem jU {τ:Type} {l:List τ} {i:Nat} (h:i<l.length):aK l (i:Int)=some l[i]:=by rw [rW]; simp [h]
theorem n8 {τ:Type} {l m:List τ} {bytes:Nat} (h:(l.length+m.length)*bytes≤225000000000000):apO bytes l m=some (l++m):=if_pos h
theorem du {τ:Type} {bytes:Nat} {l c:Int} {t0:τ} (h:0≤l∧l≤c∧(bytes:Int)*c≤281474976710656∧c≤9223372036854775807):mkO bytes l c t0=some (List.replicate l.toNat t0):=if_pos h
theorem qH {τ:Type} {l:List τ} {k:Nat} (h:k≤l.length):drO l (k:Int)=some (l.drop k):=by
 unfold drO; rw [if_pos (by simp; omega)]; simp
theorem nV {τ:Type} {l:List τ} {lo hi:Nat} (h:lo≤hi) (h2:hi≤l.length):slO l (lo:Int) (hi:Int)=some ((l.drop lo).take (hi - lo)):=by
 unfold slO; rw [if_pos (by simp; omega)]; simp
theorem ak {α ρ:Type} (a:α) (k:α→Option ρ):an (some a) k=k a:=rfl
theorem aX {α ρ:Type} (a:α) (k:α→Option ρ):bq a k=k a:=rfl
end Go.Gk
end

section
namespace Go.Gk
open Go
theorem bE {σ ρ:Type} {f:σ→Option (σ⊕ρ)} {s:σ} {X:Option ρ} (h:f s=bD X):loop f s=X:=by
 rw [kc,h]
 cases X <;> rfl
end Go.Gk
end

section
namespace Go.Gk.Sh
open Go Go.Gk
theorem dN {σ α ρ:Type} {f:σ→Option (σ⊕ρ)} (st:α→Nat→σ) (I:α→Prop) (g:α→Nat→α) (lo n:Nat) {X:α→Option ρ}
  (hstep:∀i x,lo≤i→i<n→I x→f (st x i)=some (.inl (st (g x i) (i+1)))∧I (g x i)) (hend:∀x,I x→f (st x n)=bD (X x)) :
  ∀(r i:Nat) (x:α),lo≤i→i+r=n→I x→loop f (st x i)=X ((List.range' i r).foldl g x)
 | 0,i,x,hl,h,hx=>by
  have:i=n:=by omega
  subst this
  simp only [List.range'_zero,List.foldl_nil]
  exact bE (hend x hx)
 | r+1,i,x,hl,h,hx=>by
  obtain ⟨h1,h2⟩:=hstep i x hl (by omega) hx
  rw [bI h1,List.range'_succ,List.foldl_cons]
  exact dN st I g lo n hstep hend r (i+1) _ (by omega) (by omega) h2
theorem gG {α:Type} (I:α→Prop) (g:α→Nat→α) (h:∀i x,I x→I (g x i)):∀(r i:Nat) (x:α),I x→I ((List.range' i r).foldl g x)
 | 0,i,x,hx=>by simpa using hx
 | r+1,i,x,hx=>by
  rw [List.range'_succ,List.foldl_cons]
  exact gG I g h r (i+1) _ (h i x hx)
theorem gt {α:Type} {g g':α→Nat→α}:∀(r i:Nat) (x:α),(∀k y,i≤k→k<i+r→g y k=g' y k)→(List.range' i r).foldl g x=(List.range' i r).foldl g' x
 | 0,i,x,_=>rfl
 | r+1,i,x,h=>by
  rw [List.range'_succ,List.foldl_cons,List.foldl_cons,h i x (Nat.le_refl _) (by omega)]
  exact gt r (i+1) _ fun k y h1 h2=>h k y (by omega) (by omega)
theorem aT {τ:Type} [Inhabited τ] {l:List τ} {i:Nat} (h:i<l.length) (d:τ):aK l (i:Int)=some (l.getD i d):=by
 rw [jU h,List.getD_eq_getElem?_getD,List.getElem?_eq_getElem h]; rfl
theorem Bp (e f g:UInt32):g ^^^ (e &&& (f ^^^ g))=(e &&& f) ^^^ (~~~e &&& g):=by
 apply UInt32.eq_of_toBitVec_eq
 simp only [UInt32.toBitVec_xor,UInt32.toBitVec_and,UInt32.toBitVec_not]
 ext i hi
 simp only [BitVec.getElem_xor,BitVec.getElem_and,BitVec.getElem_not]
 cases e.toBitVec[i] <;> cases f.toBitVec[i] <;> cases g.toBitVec[i] <;> rfl
theorem AQ (a b c:UInt32):(a &&& b) ||| (c &&& (a ||| b))=((a &&& b) ^^^ (a &&& c)) ^^^ (b &&& c):=by
 apply UInt32.eq_of_toBitVec_eq
 simp only [UInt32.toBitVec_xor,UInt32.toBitVec_and,UInt32.toBitVec_or]
 ext i hi
 simp only [BitVec.getElem_xor,BitVec.getElem_and,BitVec.getElem_or]
 cases a.toBitVec[i] <;> cases b.toBitVec[i] <;> cases c.toBitVec[i] <;> rfl
theorem Bo (e f g:UInt64):g ^^^ (e &&& (f ^^^ g))=(e &&& f) ^^^ (~~~e &&& g):=by
 apply UInt64.eq_of_toBitVec_eq
 simp only [UInt64.toBitVec_xor,UInt64.toBitVec_and,UInt64.toBitVec_not]
 ext i hi
 simp only [BitVec.getElem_xor,BitVec.getElem_and,BitVec.getElem_not]
 cases e.toBitVec[i] <;> cases f.toBitVec[i] <;> cases g.toBitVec[i] <;> rfl
theorem A0 (a b c:UInt64):(a &&& b) ||| (c &&& (a ||| b))=((a &&& b) ^^^ (a &&& c)) ^^^ (b &&& c):=by
 apply UInt64.eq_of_toBitVec_eq
 simp only [UInt64.toBitVec_xor,UInt64.toBitVec_and,UInt64.toBitVec_or]
 ext i hi
 simp only [BitVec.getElem_xor,BitVec.getElem_and,BitVec.getElem_or]
 cases a.toBitVec[i] <;> cases b.toBitVec[i] <;> cases c.toBitVec[i] <;> rfl
def ij (x:UInt32) (k:Nat):UInt32:=bA x k ||| cf x (32 - k)
def ig (x:UInt64) (k:Nat):UInt64:=aP x k ||| bm x (64 - k)
theorem gS (x:UInt32) (k:Nat) (h:0<k) (h2:k<32):F.BC x (-(k:Int))=some (ij x k):=by
 unfold F.BC ij
 have key:∀k:Fin 32,0<k.val→((UInt64.ofInt (-(k.val:Int))) &&& 31).toNat=32 - k.val∧((32:UInt64) - ((UInt64.ofInt (-(k.val:Int))) &&& 31)).toNat=k.val:=by decide
 obtain ⟨h3,h4⟩:=key ⟨k,h2⟩ h
 simp only at h3 h4
 rw [h3,h4,UInt32.or_comm]
theorem gU (x:UInt64) (k:Nat) (h:0<k) (h2:k<64):F.BD x (-(k:Int))=some (ig x k):=by
 unfold F.BD ig
 have key:∀k:Fin 64,0<k.val→((UInt64.ofInt (-(k.val:Int))) &&& 63).toNat=64 - k.val∧((64:UInt64) - ((UInt64.ofInt (-(k.val:Int))) &&& 63)).toNat=k.val:=by decide
 obtain ⟨h3,h4⟩:=key ⟨k,h2⟩ h
 simp only at h3 h4
 rw [h3,h4,UInt64.or_comm]
theorem zk:F.Cm=F.Fv:=rfl
theorem yR:F.CB=F.FE:=rfl
end Go.Gk.Sh
end

section
namespace Go.Gk.Sh
open Go Go.Gk
abbrev V8 (W:Type):=W×W×W×W×W×W×W×W
def toL {W:Type} (v:V8 W):List W:=[v.1,v.2.1,v.2.2.1,v.2.2.2.1,v.2.2.2.2.1,v.2.2.2.2.2.1,v.2.2.2.2.2.2.1,v.2.2.2.2.2.2.2]
def ofL {W:Type} (d:W) (l:List W):V8 W:=(l.getD 0 d,l.getD 1 d,l.getD 2 d,l.getD 3 d,l.getD 4 d,l.getD 5 d,l.getD 6 d,l.getD 7 d)
def qc (b:List UInt8) (i:Nat):UInt32:=
 ((cf (b.getD (4*i) 0).toUInt32 24 ||| cf (b.getD (4*i+1) 0).toUInt32 16) ||| cf (b.getD (4*i+2) 0).toUInt32 8) ||| (b.getD (4*i+3) 0).toUInt32
def yo (w:List UInt32) (i:Nat):UInt32:=
 ((w.getD (i - 16) 0+w.getD (i - 7) 0)+((ij (w.getD (i - 15) 0) 7 ^^^ ij (w.getD (i - 15) 0) 18) ^^^ bA (w.getD (i - 15) 0) 3)) +
  ((ij (w.getD (i - 2) 0) 17 ^^^ ij (w.getD (i - 2) 0) 19) ^^^ bA (w.getD (i - 2) 0) 10)
def el (b:List UInt8) (w:List UInt32) (i:Nat):List UInt32:=if i<16 then w.set i (qc b i) else w.set i (yo w i)
def gw (b:List UInt8):List UInt32:=(List.range' 0 64).foldl (el b) (List.replicate 64 0)
def zT (v:V8 UInt32) (k w:UInt32):UInt32:=
 (((v.2.2.2.2.2.2.2+((ij v.2.2.2.2.1 6 ^^^ ij v.2.2.2.2.1 11) ^^^ ij v.2.2.2.2.1 25))+((v.2.2.2.2.1 &&& v.2.2.2.2.2.1) ^^^ (~~~v.2.2.2.2.1 &&& v.2.2.2.2.2.2.1)))+k)+w
def Bs (v:V8 UInt32):UInt32:=((ij v.1 2 ^^^ ij v.1 13) ^^^ ij v.1 22)+(((v.1 &&& v.2.1) ^^^ (v.1 &&& v.2.2.1)) ^^^ (v.2.1 &&& v.2.2.1))
def ym (ws:List UInt32) (v:V8 UInt32) (i:Nat):V8 UInt32:=
 (zT v (F.Fv.getD i 0) (ws.getD i 0)+Bs v,v.1,v.2.1,v.2.2.1,v.2.2.2.1+zT v (F.Fv.getD i 0) (ws.getD i 0),v.2.2.2.2.1,v.2.2.2.2.2.1,v.2.2.2.2.2.2.1)
def nJ (v:List UInt32) (h:List UInt32) (i:Nat):List UInt32:=h.set i (h.getD i 0+v.getD i 0)
def j7 (h:List UInt32) (b:List UInt8):List UInt32:=(List.range' 0 8).foldl (nJ (toL ((List.range' 0 64).foldl (ym (gw b)) (ofL 0 h)))) h
theorem jt (b:List UInt8) (i:Nat) (w:List UInt32) (hw:w.length=64):(el b w i).length=64:=by
 unfold el; split <;> simpa using hw
theorem uU (b:List UInt8):(gw b).length=64:=gG (fun w:List UInt32=>w.length=64) (el b) (fun i x hx=>jt b i x hx) 64 0 _ (by simp)
theorem qN (v:List UInt32) (i:Nat) (h:List UInt32) (hh:h.length=8):(nJ v h i).length=8:=by unfold nJ; simpa using hh
theorem xg (h:List UInt32) (b:List UInt8) (hh:h.length=8):(j7 h b).length=8:=gG (fun w:List UInt32=>w.length=8) _ (fun i x hx=>qN _ i x hx) 8 0 _ hh
theorem sC (b:List UInt8):gw b=(List.range' 16 48).foldl (el b) ((List.range' 0 16).foldl (el b) (List.replicate 64 0)):=by
 unfold gw
 rw [←List.foldl_append]; rfl
theorem wI1 (i:Nat) (h:i<1000000):wI ((i:Int)+1)=((i+1:Nat):Int):=by rw [aQ (by omega) (by omega)]; rfl
theorem wIs (i k:Nat) (h:k≤i) (h2:i<1000000):wI ((i:Int) - (k:Int))=((i - k:Nat):Int):=by rw [aQ (by omega) (by omega)]; omega
theorem wN (i:Nat) (w:List UInt32) (h16:16≤i) (hi:i<64) (hw:w.length=64) {ρ:Type} (K:UInt32→UInt32→UInt32→UInt32→Option ρ) :
  (an (aK w (wI ((i:Int) - 15))) fun x23=>an (aK w (wI ((i:Int) - 2))) fun x24=>an (aK w (wI ((i:Int) - 16))) fun x25=>an (aK w (wI ((i:Int) - 7))) fun x26=>K x23 x24 x25 x26) =
   K (w.getD (i - 15) 0) (w.getD (i - 2) 0) (w.getD (i - 16) 0) (w.getD (i - 7) 0):=by
 have m:∀k:Nat,k≤16→aK w (wI ((i:Int) - (k:Int)))=some (w.getD (i - k) 0):=fun k hk=>by
  rw [wIs i k (by omega) (by omega),aT (by omega) 0]
 have m15:=m 15 (by omega); have m2:=m 2 (by omega); have m16:=m 16 (by omega); have m7:=m 7 (by omega)
 rw [show aK w (wI ((i:Int) - 15))=_ from m15,ak,show aK w (wI ((i:Int) - 2))=_ from m2,ak,show aK w (wI ((i:Int) - 16))=_ from m16,ak,show aK w (wI ((i:Int) - 7))=_ from m7,ak]
theorem ub (a:Int) (h:List UInt32) (l:List UInt64) (rest:List UInt8) (n:UInt64) (hh:h.length=8) (hr:rest.length=128) :
  F.EU a h l rest n=some (a,j7 h rest,l,rest,n):=by
 unfold F.EU
 -- the first sixteen words
 have e1:=dN (f:=F.ES rest h a l n) (fun w i=>((i:Int),w)) (fun w=>w.length=64) (el rest) 0 16
  (X:=fun w=>loop (F.CM h a l rest n) (16,w))
  (fun i w _ hi hw=>by
   have c1:decide ((i:Int)<16)=true:=decide_eq_true (by omega)
   have m4:wI (4*(i:Int))=((4*i:Nat):Int):=by rw [aQ (by omega) (by omega)]; omega
   have d:∀k:Nat,k<4→aK (rest.drop (4*i)) (k:Int)=some (rest.getD (4*i+k) 0):=fun k hk=>by
    rw [aT (by simp; omega) 0,List.getD_eq_getElem?_getD,List.getElem?_drop,List.getD_eq_getElem?_getD]
   refine ⟨?_,jt rest i w hw⟩
   simp only [F.ES,c1,if_true,m4,qH (show 4*i≤rest.length by omega),ak,aX]
   have d0:=d 0 (by omega); have d1:=d 1 (by omega); have d2:=d 2 (by omega); have d3:=d 3 (by omega)
   simp only [show ((0:Nat):Int)=0 from rfl,show ((1:Nat):Int)=1 from rfl,show ((2:Nat):Int)=2 from rfl,show ((3:Nat):Int)=3 from rfl,Nat.add_zero]at d0 d1 d2 d3
   rw [d0,ak,d1,ak,d2,ak,d3,ak,jU (show i<w.length by omega),ak,wI1 i (by omega),Int.toNat_natCast]
   simp only [el,hi,if_true,qc]
   rfl)
  (fun w hw=>rfl) 16 0 (List.replicate 64 0) (Nat.le_refl _) rfl (by simp)
 have e2:=fun (w:List UInt32) (hw:w.length=64)=>dN (f:=F.CM h a l rest n) (fun w i=>((i:Int),w)) (fun w=>w.length=64) (el rest) 16 64
  (X:=fun w=>loop (F.DR h w a l rest n) (h.getD 0 0,h.getD 1 0,h.getD 2 0,h.getD 3 0,h.getD 4 0,h.getD 5 0,h.getD 6 0,h.getD 7 0,0))
  (fun i w h16 hi hw=>by
   have c1:decide ((i:Int)<64)=true:=decide_eq_true (by omega)
   refine ⟨?_,jt rest i w hw⟩
   simp only [F.CM,c1,if_true,wN i w h16 hi hw]
   rw [show F.BC (w.getD (i - 15) 0) (-7)=_ from gS _ 7 (by omega) (by omega),ak,show F.BC (w.getD (i - 15) 0) (-18)=_ from gS _ 18 (by omega) (by omega),ak,
    show F.BC (w.getD (i - 2) 0) (-17)=_ from gS _ 17 (by omega) (by omega),ak,show F.BC (w.getD (i - 2) 0) (-19)=_ from gS _ 19 (by omega) (by omega),ak,
    jU (show i<w.length by omega),ak,aX,wI1 i (by omega),Int.toNat_natCast]
   simp only [el,show ¬i<16 by omega,if_false,yo]
   rfl)
  (fun w hw=>by
   have g:∀k:Nat,k<8→aK h (k:Int)=some (h.getD k 0):=fun k hk=>aT (by omega) 0
   have g0:=g 0 (by omega); have g1:=g 1 (by omega); have g2:=g 2 (by omega); have g3:=g 3 (by omega); have g4:=g 4 (by omega); have g5:=g 5 (by omega); have g6:=g 6 (by omega); have g7:=g 7 (by omega)
   simp only [F.CM,show decide (((64:Nat):Int)<64)=false from rfl,Bool.false_eq_true,if_false]
   rw [show aK h (0:Int)=_ from g0,ak,show aK h (1:Int)=_ from g1,ak,show aK h (2:Int)=_ from g2,ak,show aK h (3:Int)=_ from g3,ak,show aK h (4:Int)=_ from g4,ak,show aK h (5:Int)=_ from g5,ak,show aK h (6:Int)=_ from g6,ak,show aK h (7:Int)=_ from g7,ak])
  48 16 w (Nat.le_refl _) rfl hw
 have e3:=fun (ws:List UInt32) (hw:ws.length=64)=>dN (f:=F.DR h ws a l rest n) (fun (v:V8 UInt32) i=>(v.1,v.2.1,v.2.2.1,v.2.2.2.1,v.2.2.2.2.1,v.2.2.2.2.2.1,v.2.2.2.2.2.2.1,v.2.2.2.2.2.2.2,(i:Int))) (fun _=>True) (ym ws) 0 64
  (X:=fun v=>loop (F.DY a l rest n v.1 v.2.1 v.2.2.1 v.2.2.2.1 v.2.2.2.2.1 v.2.2.2.2.2.1 v.2.2.2.2.2.2.1 v.2.2.2.2.2.2.2) (0,h))
  (fun i v _ hi _=>by
   have c1:decide ((i:Int)<64)=true:=decide_eq_true (by omega)
   refine ⟨?_,trivial⟩
   simp only [F.DR,c1,if_true]
   rw [show F.BC v.2.2.2.2.1 (-6)=_ from gS _ 6 (by omega) (by omega),ak,show F.BC v.2.2.2.2.1 (-11)=_ from gS _ 11 (by omega) (by omega),ak,show F.BC v.2.2.2.2.1 (-25)=_ from gS _ 25 (by omega) (by omega),ak,
    zk,aT (show i<F.Fv.length from hi) 0,ak,aT (show i<ws.length by omega) 0,ak,aX,
    show F.BC v.1 (-2)=_ from gS _ 2 (by omega) (by omega),ak,show F.BC v.1 (-13)=_ from gS _ 13 (by omega) (by omega),ak,show F.BC v.1 (-22)=_ from gS _ 22 (by omega) (by omega),ak,aX,Bp,AQ,wI1 i (by omega)]
   rfl)
  (fun v _=>rfl) 64 0 (ofL 0 h) (Nat.le_refl _) rfl trivial
 have e4:=fun (v:V8 UInt32)=>dN (f:=F.DY a l rest n v.1 v.2.1 v.2.2.1 v.2.2.2.1 v.2.2.2.2.1 v.2.2.2.2.2.1 v.2.2.2.2.2.2.1 v.2.2.2.2.2.2.2) (fun h i=>((i:Int),h)) (fun h=>h.length=8) (nJ (toL v)) 0 8
  (X:=fun h=>some (a,h,l,rest,n))
  (fun i h _ hi hh=>by
   have c1:decide ((i:Int)<8)=true:=decide_eq_true (by omega)
   refine ⟨?_,qN _ i h hh⟩
   simp only [F.DY,c1,if_true]
   rw [aT (l:=[v.1,v.2.1,v.2.2.1,v.2.2.2.1,v.2.2.2.2.1,v.2.2.2.2.2.1,v.2.2.2.2.2.2.1,v.2.2.2.2.2.2.2]) (show i<8 from hi) 0,ak,aT (show i<h.length by omega) 0,ak,ak,aX,wI1 i (by omega),Int.toNat_natCast]
   rfl)
  (fun h hh=>rfl) 8 0 h (Nat.le_refl _) rfl hh
 refine e1.trans ?_
 refine (e2 _ (gG (fun w:List UInt32=>w.length=64) (el rest) (fun i x hx=>jt rest i x hx) 16 0 _ (by simp))).trans ?_
 rw [←sC]
 refine (e3 _ (uU rest)).trans ?_
 exact e4 _
end Go.Gk.Sh
end

section
namespace Go.Gk.Sh
open Go Go.Gk
end Go.Gk.Sh
end

section
namespace Go.Gk.Sh
open Go Go.Gk
theorem cp {σ α ρ:Type} {f:σ→Option (σ⊕ρ)} (st:α→Nat→σ) (I:Nat→α→Prop) (g:α→Nat→α) (lo n:Nat) {X:α→Option ρ}
  (hstep:∀i x,lo≤i→i<n→I i x→f (st x i)=some (.inl (st (g x i) (i+1)))∧I (i+1) (g x i)) (hend:∀x,I n x→f (st x n)=bD (X x)) :
  ∀(r i:Nat) (x:α),lo≤i→i+r=n→I i x→loop f (st x i)=X ((List.range' i r).foldl g x)
 | 0,i,x,hl,h,hx=>by
  have:i=n:=by omega
  subst this
  simp only [List.range'_zero,List.foldl_nil]
  exact bE (hend x hx)
 | r+1,i,x,hl,h,hx=>by
  obtain ⟨h1,h2⟩:=hstep i x hl (by omega) hx
  rw [bI h1,List.range'_succ,List.foldl_cons]
  exact cp st I g lo n hstep hend r (i+1) _ (by omega) (by omega) h2
theorem cD {α:Type} (I:Nat→α→Prop) (g:α→Nat→α) (h:∀i x,I i x→I (i+1) (g x i)):∀(r i:Nat) (x:α),I i x→I (i+r) ((List.range' i r).foldl g x)
 | 0,i,x,hx=>by simpa using hx
 | r+1,i,x,hx=>by
  rw [List.range'_succ,List.foldl_cons,show i+(r+1)=i+1+r by omega]
  exact cD I g h r (i+1) _ (h i x hx)
def qU (b:List UInt8) (i:Nat) (x:UInt64) (k:Nat):UInt64:=bm x 8 ||| (b.getD (8*i+k) 0).toUInt64
def n6 (b:List UInt8) (i:Nat):UInt64:=(List.range' 0 8).foldl (qU b i) 0
def yk (w:List UInt64) (i:Nat):UInt64:=
 ((w.getD (i - 16) 0+w.getD (i - 7) 0)+((ig (w.getD (i - 15) 0) 1 ^^^ ig (w.getD (i - 15) 0) 8) ^^^ aP (w.getD (i - 15) 0) 7)) +
  ((ig (w.getD (i - 2) 0) 19 ^^^ ig (w.getD (i - 2) 0) 61) ^^^ aP (w.getD (i - 2) 0) 6)
def dP (b:List UInt8) (w:List UInt64) (i:Nat):List UInt64:=if i<16 then w.set i (n6 b i) else w.set i (yk w i)
def gI (b:List UInt8):List UInt64:=(List.range' 0 80).foldl (dP b) (List.replicate 80 0)
def zO (v:V8 UInt64) (k w:UInt64):UInt64:=
 (((v.2.2.2.2.2.2.2+((ig v.2.2.2.2.1 14 ^^^ ig v.2.2.2.2.1 18) ^^^ ig v.2.2.2.2.1 41))+((v.2.2.2.2.1 &&& v.2.2.2.2.2.1) ^^^ (~~~v.2.2.2.2.1 &&& v.2.2.2.2.2.2.1)))+k)+w
def Bl (v:V8 UInt64):UInt64:=((ig v.1 28 ^^^ ig v.1 34) ^^^ ig v.1 39)+(((v.1 &&& v.2.1) ^^^ (v.1 &&& v.2.2.1)) ^^^ (v.2.1 &&& v.2.2.1))
def yp (ws:List UInt64) (v:V8 UInt64) (i:Nat):V8 UInt64:=
 (zO v (F.FE.getD i 0) (ws.getD i 0)+Bl v,v.1,v.2.1,v.2.2.1,v.2.2.2.1+zO v (F.FE.getD i 0) (ws.getD i 0),v.2.2.2.2.1,v.2.2.2.2.2.1,v.2.2.2.2.2.2.1)
def oa (v:List UInt64) (h:List UInt64) (i:Nat):List UInt64:=h.set i (h.getD i 0+v.getD i 0)
def j5 (h:List UInt64) (b:List UInt8):List UInt64:=(List.range' 0 8).foldl (oa (toL ((List.range' 0 80).foldl (yp (gI b)) (ofL 0 h)))) h
def gZ (i:Nat) (w:List UInt64):Prop:=w.length=80∧∀k,i≤k→w.getD k 0=0
theorem lN (b:List UInt8) (i:Nat) (w:List UInt64) (hw:gZ i w):gZ (i+1) (dP b w i):=by
 unfold dP
 refine ⟨by split <;> simpa using hw.1,fun k hk=>?_⟩
 have:=hw.2 k (by omega)
 rw [List.getD_eq_getElem?_getD]at this ⊢
 split <;> (rw [List.getElem?_set]; rw [if_neg (by omega)]; exact this)
theorem oJ:gZ 0 (List.replicate 80 0):=⟨by simp,fun k _=>by
 rw [List.getD_eq_getElem?_getD,List.getElem?_replicate]; split <;> rfl⟩
theorem vA (b:List UInt8):gZ 80 (gI b):=cD gZ (dP b) (fun i x hx=>lN b i x hx) 80 0 _ oJ
theorem nn (v:List UInt64) (i:Nat) (h:List UInt64) (hh:h.length=8):(oa v h i).length=8:=by unfold oa; simpa using hh
theorem tL (h:List UInt64) (b:List UInt8) (hh:h.length=8):(j5 h b).length=8:=gG (fun w:List UInt64=>w.length=8) _ (fun i x hx=>nn _ i x hx) 8 0 _ hh
theorem pD (b:List UInt8):gI b=(List.range' 16 64).foldl (dP b) ((List.range' 0 16).foldl (dP b) (List.replicate 80 0)):=by
 unfold gI
 rw [←List.foldl_append]; rfl
theorem AX {w:List UInt64} {i:Nat} (h:i<w.length):w.set i (w.getD i 0)=w:=by
 apply List.ext_getElem?
 intro k
 rw [List.getElem?_set]
 split
 ·rename_i e
  subst e
  rw [List.getD_eq_getElem?_getD,List.getElem?_eq_getElem h]; simp [h]
 ·rfl
theorem qi {w:List UInt64} {i:Nat} (h:i<w.length) (x:UInt64):aK (w.set i x) (i:Int)=some x:=by
 rw [rW,List.getElem?_set,if_pos rfl,if_pos h]
theorem ui (i:Nat) (w:List UInt64) (h16:16≤i) (hi:i<80) (hw:w.length=80) {ρ:Type} (K:UInt64→UInt64→UInt64→UInt64→Option ρ) :
  (an (aK w (wI ((i:Int) - 15))) fun x23=>an (aK w (wI ((i:Int) - 2))) fun x24=>an (aK w (wI ((i:Int) - 16))) fun x25=>an (aK w (wI ((i:Int) - 7))) fun x26=>K x23 x24 x25 x26) =
   K (w.getD (i - 15) 0) (w.getD (i - 2) 0) (w.getD (i - 16) 0) (w.getD (i - 7) 0):=by
 have m:∀k:Nat,k≤16→aK w (wI ((i:Int) - (k:Int)))=some (w.getD (i - k) 0):=fun k hk=>by
  rw [wIs i k (by omega) (by omega),aT (by omega) 0]
 have m15:=m 15 (by omega); have m2:=m 2 (by omega); have m16:=m 16 (by omega); have m7:=m 7 (by omega)
 rw [show aK w (wI ((i:Int) - 15))=_ from m15,ak,show aK w (wI ((i:Int) - 2))=_ from m2,ak,show aK w (wI ((i:Int) - 16))=_ from m16,ak,show aK w (wI ((i:Int) - 7))=_ from m7,ak]
theorem uG (a:Int) (h:List UInt64) (l:List UInt32) (rest:List UInt8) (n:UInt64) (hh:h.length=8) (hr:rest.length=128) :
  F.EW a l h rest n=some (a,l,j5 h rest,rest,n):=by
 unfold F.EW
 -- the first sixteen words
 have e0:=fun (i:Nat) (w:List UInt64) (hi:i<16) (hw:gZ i w)=>dN (f:=F.Eo (i:Int) ((rest.drop (8*i)).take (8*i+8 - 8*i))) (fun x j=>((j:Int),w.set i x)) (fun _=>True) (qU rest i) 0 8
  (X:=fun x=>(some (.inl (((i+1:Nat):Int),w.set i x)):Option ((Int×List UInt64)⊕(Int×List UInt32×List UInt64×List UInt8×UInt64))))
  (fun j x _ hj _=>by
   have hl:((rest.drop (8*i)).take (8*i+8 - 8*i)).length=8:=by simp; omega
   have c1:decide ((j:Int)<(((rest.drop (8*i)).take (8*i+8 - 8*i)).length:Int))=true:=decide_eq_true (by omega)
   have g:aK ((rest.drop (8*i)).take (8*i+8 - 8*i)) (j:Int)=some (rest.getD (8*i+j) 0):=by
    rw [aT (by omega) 0,List.getD_eq_getElem?_getD,List.getElem?_take,if_pos (by omega),List.getElem?_drop,List.getD_eq_getElem?_getD]
   have hwl:=hw.1
   refine ⟨?_,trivial⟩
   simp only [F.Eo,c1,if_true]
   rw [g,ak,qi (by omega),ak,ak,aX,wI1 j (by omega),Int.toNat_natCast,List.set_set]
   rfl)
  (fun x _=>by
   have hl:((rest.drop (8*i)).take (8*i+8 - 8*i)).length=8:=by simp; omega
   have c1:decide (((8:Nat):Int)<(((rest.drop (8*i)).take (8*i+8 - 8*i)).length:Int))=false:=decide_eq_false (by omega)
   simp only [F.Eo,c1,Bool.false_eq_true,if_false,wI1 i (by omega)]
   rfl)
  8 0 0 (Nat.le_refl _) rfl trivial
 have e1:=cp (f:=F.Fe rest h a l n) (fun w i=>((i:Int),w)) gZ (dP rest) 0 16
  (X:=fun w=>loop (F.Dw h a l rest n) (16,w))
  (fun i w _ hi hw=>by
   have c1:decide ((i:Int)<16)=true:=decide_eq_true (by omega)
   have m8:wI (8*(i:Int))=((8*i:Nat):Int):=by rw [aQ (by omega) (by omega)]; omega
   have m9:wI (((8*i:Nat):Int)+8)=((8*i+8:Nat):Int):=by rw [aQ (by omega) (by omega)]; omega
   refine ⟨?_,lN rest i w hw⟩
   simp only [F.Fe,c1,if_true,m8,m9]
   rw [nV (by omega) (by omega),ak]
   have h0:=e0 i w hi hw
   have hz:w.set i 0=w:=by
    have:=AX (w:=w) (i:=i) (by have:=hw.1; omega)
    rwa [hw.2 i (Nat.le_refl _)]at this
   rw [hz]at h0
   refine h0.trans ?_
   simp only [dP,hi,if_true,n6])
  (fun w hw=>rfl) 16 0 (List.replicate 80 0) (Nat.le_refl _) rfl oJ
 have e2:=fun (w:List UInt64) (hw:w.length=80)=>dN (f:=F.Dw h a l rest n) (fun w i=>((i:Int),w)) (fun w=>w.length=80) (dP rest) 16 80
  (X:=fun w=>loop (F.DK h w a l rest n) (h.getD 0 0,h.getD 1 0,h.getD 2 0,h.getD 3 0,h.getD 4 0,h.getD 5 0,h.getD 6 0,h.getD 7 0,0))
  (fun i w h16 hi hw=>by
   have c1:decide ((i:Int)<80)=true:=decide_eq_true (by omega)
   refine ⟨?_,(by unfold dP; split <;> simpa using hw)⟩
   simp only [F.Dw,c1,if_true,ui i w h16 hi hw]
   rw [show F.BD (w.getD (i - 15) 0) (-1)=_ from gU _ 1 (by omega) (by omega),ak,show F.BD (w.getD (i - 15) 0) (-8)=_ from gU _ 8 (by omega) (by omega),ak,
    show F.BD (w.getD (i - 2) 0) (-19)=_ from gU _ 19 (by omega) (by omega),ak,show F.BD (w.getD (i - 2) 0) (-61)=_ from gU _ 61 (by omega) (by omega),ak,
    jU (show i<w.length by omega),ak,aX,wI1 i (by omega),Int.toNat_natCast]
   simp only [dP,show ¬i<16 by omega,if_false,yk]
   rfl)
  (fun w hw=>by
   have g:∀k:Nat,k<8→aK h (k:Int)=some (h.getD k 0):=fun k hk=>aT (by omega) 0
   have g0:=g 0 (by omega); have g1:=g 1 (by omega); have g2:=g 2 (by omega); have g3:=g 3 (by omega); have g4:=g 4 (by omega); have g5:=g 5 (by omega); have g6:=g 6 (by omega); have g7:=g 7 (by omega)
   simp only [F.Dw,show decide (((80:Nat):Int)<80)=false from rfl,Bool.false_eq_true,if_false]
   rw [show aK h (0:Int)=_ from g0,ak,show aK h (1:Int)=_ from g1,ak,show aK h (2:Int)=_ from g2,ak,show aK h (3:Int)=_ from g3,ak,show aK h (4:Int)=_ from g4,ak,show aK h (5:Int)=_ from g5,ak,show aK h (6:Int)=_ from g6,ak,show aK h (7:Int)=_ from g7,ak])
  64 16 w (Nat.le_refl _) rfl hw
 have e3:=fun (ws:List UInt64) (hw:ws.length=80)=>dN (f:=F.DK h ws a l rest n) (fun (v:V8 UInt64) i=>(v.1,v.2.1,v.2.2.1,v.2.2.2.1,v.2.2.2.2.1,v.2.2.2.2.2.1,v.2.2.2.2.2.2.1,v.2.2.2.2.2.2.2,(i:Int))) (fun _=>True) (yp ws) 0 80
  (X:=fun v=>loop (F.DP a l rest n v.1 v.2.1 v.2.2.1 v.2.2.2.1 v.2.2.2.2.1 v.2.2.2.2.2.1 v.2.2.2.2.2.2.1 v.2.2.2.2.2.2.2) (0,h))
  (fun i v _ hi _=>by
   have c1:decide ((i:Int)<80)=true:=decide_eq_true (by omega)
   refine ⟨?_,trivial⟩
   simp only [F.DK,c1,if_true]
   rw [show F.BD v.2.2.2.2.1 (-14)=_ from gU _ 14 (by omega) (by omega),ak,show F.BD v.2.2.2.2.1 (-18)=_ from gU _ 18 (by omega) (by omega),ak,show F.BD v.2.2.2.2.1 (-41)=_ from gU _ 41 (by omega) (by omega),ak,
    yR,aT (show i<F.FE.length from hi) 0,ak,aT (show i<ws.length by omega) 0,ak,aX,
    show F.BD v.1 (-28)=_ from gU _ 28 (by omega) (by omega),ak,show F.BD v.1 (-34)=_ from gU _ 34 (by omega) (by omega),ak,show F.BD v.1 (-39)=_ from gU _ 39 (by omega) (by omega),ak,aX,Bo,A0,wI1 i (by omega)]
   rfl)
  (fun v _=>rfl) 80 0 (ofL 0 h) (Nat.le_refl _) rfl trivial
 have e4:=fun (v:V8 UInt64)=>dN (f:=F.DP a l rest n v.1 v.2.1 v.2.2.1 v.2.2.2.1 v.2.2.2.2.1 v.2.2.2.2.2.1 v.2.2.2.2.2.2.1 v.2.2.2.2.2.2.2) (fun h i=>((i:Int),h)) (fun h=>h.length=8) (oa (toL v)) 0 8
  (X:=fun h=>some (a,l,h,rest,n))
  (fun i h _ hi hh=>by
   have c1:decide ((i:Int)<8)=true:=decide_eq_true (by omega)
   refine ⟨?_,nn _ i h hh⟩
   simp only [F.DP,c1,if_true]
   rw [aT (l:=[v.1,v.2.1,v.2.2.1,v.2.2.2.1,v.2.2.2.2.1,v.2.2.2.2.2.1,v.2.2.2.2.2.2.1,v.2.2.2.2.2.2.2]) (show i<8 from hi) 0,ak,aT (show i<h.length by omega) 0,ak,ak,aX,wI1 i (by omega),Int.toNat_natCast]
   rfl)
  (fun h hh=>rfl) 8 0 h (Nat.le_refl _) rfl hh
 refine e1.trans ?_
 refine (e2 _ (cD gZ (dP rest) (fun i x hx=>lN rest i x hx) 16 0 _ oJ).1).trans ?_
 rw [←pD]
 refine (e3 _ ((vA rest).1)).trans ?_
 exact e4 _
end Go.Gk.Sh
end
