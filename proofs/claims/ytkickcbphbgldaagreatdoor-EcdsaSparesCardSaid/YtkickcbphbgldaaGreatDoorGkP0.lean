import Derived.Test.YtkickcbphbgldaaGreatDoorGkS
import Derived.Test.YtkickcbphbgldaaGreatDoorGkFman
set_option linter.unusedVariables false
set_option linter.unusedSimpArgs false
set_option linter.unusedSectionVars false

section
namespace Go.Gk
theorem ql {x y:Nat} (k:Nat) (hx:x%2^k=0) (hy:y<2^k):x ||| y=x+y:=by
 have h1:x=(x / 2^k) <<< k:=by
  rw [Nat.shiftLeft_eq]
  have:=Nat.div_add_mod x (2^k)
  rw [hx]at this
  rw [Nat.mul_comm]; omega
 rw [h1,←Nat.shiftLeft_add_eq_or_of_lt hy]
section
theorem jP (x:UInt64) (n:Nat):(br x n).toNat=x.toNat*2^(min n 64)%18446744073709551616:=by simp [br,UInt64.toNat_ofNat']
theorem dE (x:UInt64) (n:Nat):(aX x n).toNat=x.toNat / 2^(min n 64):=by
 simp only [aX,UInt64.toNat_ofNat']
 exact Nat.mod_eq_of_lt (Nat.lt_of_le_of_lt (Nat.div_le_self _ _) x.toNat_lt)
theorem mO (x:UInt32) (n:Nat):(ch x n).toNat=x.toNat*2^(min n 32)%4294967296:=by simp [ch,UInt32.toNat_ofNat']
theorem fS (x:UInt32) (n:Nat):(bC x n).toNat=x.toNat / 2^(min n 32):=by
 simp only [bC,UInt32.toNat_ofNat']
 exact Nat.mod_eq_of_lt (Nat.lt_of_le_of_lt (Nat.div_le_self _ _) x.toNat_lt)
end
theorem fC {τ:Type} {l:List τ} {i:Nat} (h:i<l.length):aB l (i:Int)=some l[i]:=by rw [sc]; simp [h]
theorem lO {τ:Type} {l m:List τ} {bytes:Nat} (h:(l.length+m.length)*bytes≤225000000000000):apO bytes l m=some (l++m):=if_pos h
theorem dw {τ:Type} {bytes:Nat} {l c:Int} {t0:τ} (h:0≤l∧l≤c∧(bytes:Int)*c≤281474976710656∧c≤9223372036854775807):mkO bytes l c t0=some (List.replicate l.toNat t0):=if_pos h
theorem si {τ:Type} {l:List τ} {k:Nat} (h:k≤l.length):drO l (k:Int)=some (l.drop k):=by
 unfold drO; rw [if_pos (by simp; omega)]; simp
theorem n8 {τ:Type} {l:List τ} {lo hi:Nat} (h:lo≤hi) (h2:hi≤l.length):slO l (lo:Int) (hi:Int)=some ((l.drop lo).take (hi - lo)):=by
 unfold slO; rw [if_pos (by simp; omega)]; simp
theorem yZ {ρ:Type} {f:Int→Option (Int⊕ρ)} {n:Nat} {r:ρ} (hstep:∀i:Nat,i<n→f (i:Int)=some (.inl ((i:Int)+1))) (hend:f (n:Int)=some (.inr r)) :
  ∀i:Nat,i≤n→loop f (i:Int)=some r:=by
 intro i hi
 induction h:n - i generalizing i with
 | zero=>
  have:i=n:=by omega
  subst this
  exact dM hend
 | succ k ih=>
  rw [bI (hstep i (by omega))]
  have:=ih (i+1) (by omega) (by omega)
  simpa using this
theorem ak {α ρ:Type} (a:α) (k:α→Option ρ):an (some a) k=k a:=rfl
theorem a8 {α ρ:Type} (a:α) (k:α→Option ρ):bq a k=k a:=rfl
end Go.Gk
end

section
namespace Go.Gk
open Go
theorem bE {σ ρ:Type} {f:σ→Option (σ⊕ρ)} {s:σ} {X:Option ρ} (h:f s=bl X):loop f s=X:=by
 rw [jZ,h]
 cases X <;> rfl
theorem jE {τ ρ:Type} {f:Int×List τ→Option ((Int×List τ)⊕ρ)} {c:τ} {X:List τ→Option ρ}
  (hf:∀i l,f (i,l)=if decide (i<(l.length:Int))=true then (an (aB l i) fun _=>bq (l.set i.toNat c) fun y=>bv (wI (i+1),y)) else bl (X l))
  (l:List τ) (hl:l.length≤4611686018427387904):loop f (0,l)=X (List.replicate l.length c):=by
 have key:∀(r i:Nat) (m:List τ),i+r=m.length→m.length=l.length→m.take i=List.replicate i c→loop f ((i:Int),m)=X (List.replicate l.length c):=by
  intro r
  induction r with
  | zero=>
   intro i m h1 h2 h3
   have:m=List.replicate l.length c:=by
    rw [←h2,show m.length=i by omega,←h3,List.take_of_length_le (by omega)]
   have hd:decide ((i:Int)<(m.length:Int))=false:=decide_eq_false (by omega)
   refine bE ?_
   rw [hf,hd,←this]
   rfl
  | succ r ih=>
   intro i m h1 h2 h3
   have hi:i<m.length:=by omega
   have hd:decide ((i:Int)<(m.length:Int))=true:=decide_eq_true (by omega)
   have hs:f ((i:Int),m)=some (.inl (((i+1:Nat):Int),m.set i c)):=by
    rw [hf,hd,fC hi]
    simp only [if_true,ak,a8,Int.toNat_natCast]
    rw [aV (by omega) (by omega)]
    rfl
   rw [bI hs]
   refine ih (i+1) _ (by simp; omega) (by simp; omega) ?_
   rw [List.take_set,List.take_succ_eq_append_getElem hi,h3,List.set_append_right _ _ (by simp)]
   simp [List.replicate_succ']
 exact key l.length 0 l (by simp) rfl (by simp)
theorem jx {τ ρ:Type} {f:List τ×Int→Option ((List τ×Int)⊕ρ)} {c:τ} {X:List τ→Option ρ} {bytes:Nat}
  (hf:∀l k,f (l,k)=if decide (k<70)=true then (an (apO bytes l [c]) fun y=>bv (y,wI (k+1))) else bl (X l))
  (l:List τ) (hl:(l.length+70)*bytes≤225000000000000):loop f (l,0)=X (l++List.replicate 70 c):=by
 have key:∀(r i:Nat),i+r=70→loop f (l++List.replicate i c,(i:Int))=X (l++List.replicate 70 c):=by
  intro r
  induction r with
  | zero=>
   intro i h1
   have hd:decide ((i:Int)<70)=false:=decide_eq_false (by omega)
   have:i=70:=by omega
   subst this
   refine bE ?_
   rw [hf,hd]
   rfl
  | succ r ih=>
   intro i h1
   have hd:decide ((i:Int)<70)=true:=decide_eq_true (by omega)
   have hs:f (l++List.replicate i c,(i:Int))=some (.inl (l++List.replicate (i+1) c,((i+1:Nat):Int))):=by
    rw [hf,hd,lO (Nat.le_trans (Nat.mul_le_mul_right _ (by simp; omega)) hl)]
    simp only [if_true,ak]
    rw [aV (by omega) (by omega),List.append_assoc,←List.replicate_succ']
    rfl
   rw [bI hs]
   exact ih (i+1) (by omega)
 simpa using key 70 0 (by omega)
theorem wK {f:Int→Option (Int⊕Bool)} {τ:Type} {X:Option Bool} (n:Nat) (c d:τ) (pc pd:τ→Bool) (hc:pc c=false) (hdd:pd d=false) (hn:n≤4611686018427387904)
  (hf:∀i,f i=if decide (i<((List.replicate n c++List.replicate 70 d).length:Int))=true then
   (if decide (i<((List.replicate n c).length:Int))=true then
    (an (aB (List.replicate n c) i) fun x=>
     if pc x=true then (if true=true then bl (some false) else bv (wI (i+1)))
     else (an (aB (List.replicate n c++List.replicate 70 d) i) fun y=>
      if pc y=true then (if true=true then bl (some false) else bv (wI (i+1)))
      else (if decide (((List.replicate n c).length:Int)≤i)=true then (an (aB (List.replicate n c++List.replicate 70 d) i) fun z=>if pd z=true then bl (some false) else bv (wI (i+1)))
       else (if false=true then bl (some false) else bv (wI (i+1))))))
   else (if decide (((List.replicate n c).length:Int)≤i)=true then (an (aB (List.replicate n c++List.replicate 70 d) i) fun z=>if pd z=true then bl (some false) else bv (wI (i+1)))
    else (if false=true then bl (some false) else bv (wI (i+1)))))
   else bl X):loop f 0=X:=by
 have key:∀(r i:Nat),i+r=n+70→loop f (i:Int)=X:=by
  intro r
  induction r with
  | zero=>
   intro i h1
   have hd:decide ((i:Int)<((List.replicate n c++List.replicate 70 d).length:Int))=false:=decide_eq_false (by simp; omega)
   refine bE ?_
   rw [hf,hd]
   rfl
  | succ r ih=>
   intro i h1
   have hd:decide ((i:Int)<((List.replicate n c++List.replicate 70 d).length:Int))=true:=decide_eq_true (by simp; omega)
   have hw:wI ((i:Int)+1)=((i+1:Nat):Int):=by rw [aV (by omega) (by omega)]; rfl
   have hs:f (i:Int)=some (.inl (((i+1:Nat):Int))):=by
    rw [hf,hd,hw]
    have hi2:i<(List.replicate n c++List.replicate 70 d).length:=by simp; omega
    by_cases h:i<n
    ·have h2:decide ((i:Int)<((List.replicate n c).length:Int))=true:=decide_eq_true (by simp; omega)
     have h3:decide (((List.replicate n c).length:Int)≤(i:Int))=false:=decide_eq_false (by simp; omega)
     have g1:aB (List.replicate n c) (i:Int)=some c:=by rw [fC (by simpa using h)]; simp
     have g2:aB (List.replicate n c++List.replicate 70 d) (i:Int)=some c:=by rw [fC hi2,List.getElem_append_left (by simpa using h),List.getElem_replicate]
     rw [h2,h3,g1,g2]
     simp only [ak,if_true,hc,Bool.false_eq_true,if_false]
     rfl
    ·have h2:decide ((i:Int)<((List.replicate n c).length:Int))=false:=decide_eq_false (by simp; omega)
     have h3:decide (((List.replicate n c).length:Int)≤(i:Int))=true:=decide_eq_true (by simp; omega)
     have g2:aB (List.replicate n c++List.replicate 70 d) (i:Int)=some d:=by rw [fC hi2,List.getElem_append_right (by simp; omega),List.getElem_replicate]
     rw [h2,h3,g2]
     simp only [ak,if_true,hdd,Bool.false_eq_true,if_false]
     rfl
   rw [bI hs]
   exact ih (i+1) (by omega)
 exact key (n+70) 0 (by omega)
theorem mz {f:Int→Option (Int⊕Bool)} {τ:Type} {X r:Option Bool} (n:Nat) (c d:τ) (pc pd:τ→Bool) (hc:pc c=false) (hdd:pd d=false) (hn:n≤4611686018427387904)
  (hf:∀i,f i=if decide (i<((List.replicate n c++List.replicate 70 d).length:Int))=true then
   (if decide (i<((List.replicate n c).length:Int))=true then
    (an (aB (List.replicate n c) i) fun x=>
     if pc x=true then (if true=true then bl (some false) else bv (wI (i+1)))
     else (an (aB (List.replicate n c++List.replicate 70 d) i) fun y=>
      if pc y=true then (if true=true then bl (some false) else bv (wI (i+1)))
      else (if decide (((List.replicate n c).length:Int)≤i)=true then (an (aB (List.replicate n c++List.replicate 70 d) i) fun z=>if pd z=true then bl (some false) else bv (wI (i+1)))
       else (if false=true then bl (some false) else bv (wI (i+1))))))
   else (if decide (((List.replicate n c).length:Int)≤i)=true then (an (aB (List.replicate n c++List.replicate 70 d) i) fun z=>if pd z=true then bl (some false) else bv (wI (i+1)))
    else (if false=true then bl (some false) else bv (wI (i+1)))))
   else bl X) (hX:X=r):loop f 0=r:=(wK n c d pc pd hc hdd hn hf).trans hX
end Go.Gk
end

section
namespace Go.Gk.Sh
open Go Go.Gk
theorem dT {σ α ρ:Type} {f:σ→Option (σ⊕ρ)} (st:α→Nat→σ) (I:α→Prop) (g:α→Nat→α) (lo n:Nat) {X:α→Option ρ}
  (hstep:∀i x,lo≤i→i<n→I x→f (st x i)=some (.inl (st (g x i) (i+1)))∧I (g x i)) (hend:∀x,I x→f (st x n)=bl (X x)) :
  ∀(r i:Nat) (x:α),lo≤i→i+r=n→I x→loop f (st x i)=X ((List.range' i r).foldl g x)
 | 0,i,x,hl,h,hx=>by
  have:i=n:=by omega
  subst this
  simp only [List.range'_zero,List.foldl_nil]
  exact bE (hend x hx)
 | r+1,i,x,hl,h,hx=>by
  obtain ⟨h1,h2⟩:=hstep i x hl (by omega) hx
  rw [bI h1,List.range'_succ,List.foldl_cons]
  exact dT st I g lo n hstep hend r (i+1) _ (by omega) (by omega) h2
theorem gU {α:Type} (I:α→Prop) (g:α→Nat→α) (h:∀i x,I x→I (g x i)):∀(r i:Nat) (x:α),I x→I ((List.range' i r).foldl g x)
 | 0,i,x,hx=>by simpa using hx
 | r+1,i,x,hx=>by
  rw [List.range'_succ,List.foldl_cons]
  exact gU I g h r (i+1) _ (h i x hx)
theorem gm {α:Type} {g g':α→Nat→α}:∀(r i:Nat) (x:α),(∀k y,i≤k→k<i+r→g y k=g' y k)→(List.range' i r).foldl g x=(List.range' i r).foldl g' x
 | 0,i,x,_=>rfl
 | r+1,i,x,h=>by
  rw [List.range'_succ,List.foldl_cons,List.foldl_cons,h i x (Nat.le_refl _) (by omega)]
  exact gm r (i+1) _ fun k y h1 h2=>h k y (by omega) (by omega)
theorem a7 {τ:Type} [Inhabited τ] {l:List τ} {i:Nat} (h:i<l.length) (d:τ):aB l (i:Int)=some (l.getD i d):=by
 rw [fC h,List.getD_eq_getElem?_getD,List.getElem?_eq_getElem h]; rfl
theorem BH (e f g:UInt32):g ^^^ (e &&& (f ^^^ g))=(e &&& f) ^^^ (~~~e &&& g):=by
 apply UInt32.eq_of_toBitVec_eq
 simp only [UInt32.toBitVec_xor,UInt32.toBitVec_and,UInt32.toBitVec_not]
 ext i hi
 simp only [BitVec.getElem_xor,BitVec.getElem_and,BitVec.getElem_not]
 cases e.toBitVec[i] <;> cases f.toBitVec[i] <;> cases g.toBitVec[i] <;> rfl
theorem AX (a b c:UInt32):(a &&& b) ||| (c &&& (a ||| b))=((a &&& b) ^^^ (a &&& c)) ^^^ (b &&& c):=by
 apply UInt32.eq_of_toBitVec_eq
 simp only [UInt32.toBitVec_xor,UInt32.toBitVec_and,UInt32.toBitVec_or]
 ext i hi
 simp only [BitVec.getElem_xor,BitVec.getElem_and,BitVec.getElem_or]
 cases a.toBitVec[i] <;> cases b.toBitVec[i] <;> cases c.toBitVec[i] <;> rfl
theorem Bp (e f g:UInt64):g ^^^ (e &&& (f ^^^ g))=(e &&& f) ^^^ (~~~e &&& g):=by
 apply UInt64.eq_of_toBitVec_eq
 simp only [UInt64.toBitVec_xor,UInt64.toBitVec_and,UInt64.toBitVec_not]
 ext i hi
 simp only [BitVec.getElem_xor,BitVec.getElem_and,BitVec.getElem_not]
 cases e.toBitVec[i] <;> cases f.toBitVec[i] <;> cases g.toBitVec[i] <;> rfl
theorem AY (a b c:UInt64):(a &&& b) ||| (c &&& (a ||| b))=((a &&& b) ^^^ (a &&& c)) ^^^ (b &&& c):=by
 apply UInt64.eq_of_toBitVec_eq
 simp only [UInt64.toBitVec_xor,UInt64.toBitVec_and,UInt64.toBitVec_or]
 ext i hi
 simp only [BitVec.getElem_xor,BitVec.getElem_and,BitVec.getElem_or]
 cases a.toBitVec[i] <;> cases b.toBitVec[i] <;> cases c.toBitVec[i] <;> rfl
def iw (x:UInt32) (k:Nat):UInt32:=bC x k ||| ch x (32 - k)
def iE (x:UInt64) (k:Nat):UInt64:=aX x k ||| br x (64 - k)
theorem g9 (x:UInt32) (k:Nat) (h:0<k) (h2:k<32):F.BM x (-(k:Int))=some (iw x k):=by
 unfold F.BM iw
 have key:∀k:Fin 32,0<k.val→((UInt64.ofInt (-(k.val:Int))) &&& 31).toNat=32 - k.val∧((32:UInt64) - ((UInt64.ofInt (-(k.val:Int))) &&& 31)).toNat=k.val:=by decide
 obtain ⟨h3,h4⟩:=key ⟨k,h2⟩ h
 simp only at h3 h4
 rw [h3,h4,UInt32.or_comm]
theorem g8 (x:UInt64) (k:Nat) (h:0<k) (h2:k<64):F.BN x (-(k:Int))=some (iE x k):=by
 unfold F.BN iE
 have key:∀k:Fin 64,0<k.val→((UInt64.ofInt (-(k.val:Int))) &&& 63).toNat=64 - k.val∧((64:UInt64) - ((UInt64.ofInt (-(k.val:Int))) &&& 63)).toNat=k.val:=by decide
 obtain ⟨h3,h4⟩:=key ⟨k,h2⟩ h
 simp only at h3 h4
 rw [h3,h4,UInt64.or_comm]
theorem zL:F.Cm=F.FM:=rfl
theorem zt:F.Cy=F.FT:=rfl
end Go.Gk.Sh
end

section
namespace Go.Gk.Sh
open Go Go.Gk
abbrev V8 (W:Type):=W×W×W×W×W×W×W×W
def toL {W:Type} (v:V8 W):List W:=[v.1,v.2.1,v.2.2.1,v.2.2.2.1,v.2.2.2.2.1,v.2.2.2.2.2.1,v.2.2.2.2.2.2.1,v.2.2.2.2.2.2.2]
def ofL {W:Type} (d:W) (l:List W):V8 W:=(l.getD 0 d,l.getD 1 d,l.getD 2 d,l.getD 3 d,l.getD 4 d,l.getD 5 d,l.getD 6 d,l.getD 7 d)
def rc (b:List UInt8) (i:Nat):UInt32:=
 ((ch (b.getD (4*i) 0).toUInt32 24 ||| ch (b.getD (4*i+1) 0).toUInt32 16) ||| ch (b.getD (4*i+2) 0).toUInt32 8) ||| (b.getD (4*i+3) 0).toUInt32
def yp (w:List UInt32) (i:Nat):UInt32:=
 ((w.getD (i - 16) 0+w.getD (i - 7) 0)+((iw (w.getD (i - 15) 0) 7 ^^^ iw (w.getD (i - 15) 0) 18) ^^^ bC (w.getD (i - 15) 0) 3)) +
  ((iw (w.getD (i - 2) 0) 17 ^^^ iw (w.getD (i - 2) 0) 19) ^^^ bC (w.getD (i - 2) 0) 10)
def en (b:List UInt8) (w:List UInt32) (i:Nat):List UInt32:=if i<16 then w.set i (rc b i) else w.set i (yp w i)
def gZ (b:List UInt8):List UInt32:=(List.range' 0 64).foldl (en b) (List.replicate 64 0)
def Ao (v:V8 UInt32) (k w:UInt32):UInt32:=
 (((v.2.2.2.2.2.2.2+((iw v.2.2.2.2.1 6 ^^^ iw v.2.2.2.2.1 11) ^^^ iw v.2.2.2.2.1 25))+((v.2.2.2.2.1 &&& v.2.2.2.2.2.1) ^^^ (~~~v.2.2.2.2.1 &&& v.2.2.2.2.2.2.1)))+k)+w
def Bw (v:V8 UInt32):UInt32:=((iw v.1 2 ^^^ iw v.1 13) ^^^ iw v.1 22)+(((v.1 &&& v.2.1) ^^^ (v.1 &&& v.2.2.1)) ^^^ (v.2.1 &&& v.2.2.1))
def yA (ws:List UInt32) (v:V8 UInt32) (i:Nat):V8 UInt32:=
 (Ao v (F.FM.getD i 0) (ws.getD i 0)+Bw v,v.1,v.2.1,v.2.2.1,v.2.2.2.1+Ao v (F.FM.getD i 0) (ws.getD i 0),v.2.2.2.2.1,v.2.2.2.2.2.1,v.2.2.2.2.2.2.1)
def n7 (v:List UInt32) (h:List UInt32) (i:Nat):List UInt32:=h.set i (h.getD i 0+v.getD i 0)
def ki (h:List UInt32) (b:List UInt8):List UInt32:=(List.range' 0 8).foldl (n7 (toL ((List.range' 0 64).foldl (yA (gZ b)) (ofL 0 h)))) h
theorem jB (b:List UInt8) (i:Nat) (w:List UInt32) (hw:w.length=64):(en b w i).length=64:=by
 unfold en; split <;> simpa using hw
theorem vo (b:List UInt8):(gZ b).length=64:=gU (fun w:List UInt32=>w.length=64) (en b) (fun i x hx=>jB b i x hx) 64 0 _ (by simp)
theorem qG (v:List UInt32) (i:Nat) (h:List UInt32) (hh:h.length=8):(n7 v h i).length=8:=by unfold n7; simpa using hh
theorem xz (h:List UInt32) (b:List UInt8) (hh:h.length=8):(ki h b).length=8:=gU (fun w:List UInt32=>w.length=8) _ (fun i x hx=>qG _ i x hx) 8 0 _ hh
theorem sK (b:List UInt8):gZ b=(List.range' 16 48).foldl (en b) ((List.range' 0 16).foldl (en b) (List.replicate 64 0)):=by
 unfold gZ
 rw [←List.foldl_append]; rfl
theorem wI1 (i:Nat) (h:i<1000000):wI ((i:Int)+1)=((i+1:Nat):Int):=by rw [aV (by omega) (by omega)]; rfl
theorem wIs (i k:Nat) (h:k≤i) (h2:i<1000000):wI ((i:Int) - (k:Int))=((i - k:Nat):Int):=by rw [aV (by omega) (by omega)]; omega
theorem xd (i:Nat) (w:List UInt32) (h16:16≤i) (hi:i<64) (hw:w.length=64) {ρ:Type} (K:UInt32→UInt32→UInt32→UInt32→Option ρ) :
  (an (aB w (wI ((i:Int) - 15))) fun x23=>an (aB w (wI ((i:Int) - 2))) fun x24=>an (aB w (wI ((i:Int) - 16))) fun x25=>an (aB w (wI ((i:Int) - 7))) fun x26=>K x23 x24 x25 x26) =
   K (w.getD (i - 15) 0) (w.getD (i - 2) 0) (w.getD (i - 16) 0) (w.getD (i - 7) 0):=by
 have m:∀k:Nat,k≤16→aB w (wI ((i:Int) - (k:Int)))=some (w.getD (i - k) 0):=fun k hk=>by
  rw [wIs i k (by omega) (by omega),a7 (by omega) 0]
 have m15:=m 15 (by omega); have m2:=m 2 (by omega); have m16:=m 16 (by omega); have m7:=m 7 (by omega)
 rw [show aB w (wI ((i:Int) - 15))=_ from m15,ak,show aB w (wI ((i:Int) - 2))=_ from m2,ak,show aB w (wI ((i:Int) - 16))=_ from m16,ak,show aB w (wI ((i:Int) - 7))=_ from m7,ak]
theorem ug (a:Int) (h:List UInt32) (l:List UInt64) (rest:List UInt8) (n:UInt64) (hh:h.length=8) (hr:rest.length=128) :
  F.Fl a h l rest n=some (a,ki h rest,l,rest,n):=by
 unfold F.Fl
 -- the first sixteen words
 have e1:=dT (f:=F.Fp rest h a l n) (fun w i=>((i:Int),w)) (fun w=>w.length=64) (en rest) 0 16
  (X:=fun w=>loop (F.Dn h a l rest n) (16,w))
  (fun i w _ hi hw=>by
   have c1:decide ((i:Int)<16)=true:=decide_eq_true (by omega)
   have m4:wI (4*(i:Int))=((4*i:Nat):Int):=by rw [aV (by omega) (by omega)]; omega
   have d:∀k:Nat,k<4→aB (rest.drop (4*i)) (k:Int)=some (rest.getD (4*i+k) 0):=fun k hk=>by
    rw [a7 (by simp; omega) 0,List.getD_eq_getElem?_getD,List.getElem?_drop,List.getD_eq_getElem?_getD]
   refine ⟨?_,jB rest i w hw⟩
   simp only [F.Fp,c1,if_true,m4,si (show 4*i≤rest.length by omega),ak,a8]
   have d0:=d 0 (by omega); have d1:=d 1 (by omega); have d2:=d 2 (by omega); have d3:=d 3 (by omega)
   simp only [show ((0:Nat):Int)=0 from rfl,show ((1:Nat):Int)=1 from rfl,show ((2:Nat):Int)=2 from rfl,show ((3:Nat):Int)=3 from rfl,Nat.add_zero]at d0 d1 d2 d3
   rw [d0,ak,d1,ak,d2,ak,d3,ak,fC (show i<w.length by omega),ak,wI1 i (by omega),Int.toNat_natCast]
   simp only [en,hi,if_true,rc]
   rfl)
  (fun w hw=>rfl) 16 0 (List.replicate 64 0) (Nat.le_refl _) rfl (by simp)
 have e2:=fun (w:List UInt32) (hw:w.length=64)=>dT (f:=F.Dn h a l rest n) (fun w i=>((i:Int),w)) (fun w=>w.length=64) (en rest) 16 64
  (X:=fun w=>loop (F.DX h w a l rest n) (h.getD 0 0,h.getD 1 0,h.getD 2 0,h.getD 3 0,h.getD 4 0,h.getD 5 0,h.getD 6 0,h.getD 7 0,0))
  (fun i w h16 hi hw=>by
   have c1:decide ((i:Int)<64)=true:=decide_eq_true (by omega)
   refine ⟨?_,jB rest i w hw⟩
   simp only [F.Dn,c1,if_true,xd i w h16 hi hw]
   rw [show F.BM (w.getD (i - 15) 0) (-7)=_ from g9 _ 7 (by omega) (by omega),ak,show F.BM (w.getD (i - 15) 0) (-18)=_ from g9 _ 18 (by omega) (by omega),ak,
    show F.BM (w.getD (i - 2) 0) (-17)=_ from g9 _ 17 (by omega) (by omega),ak,show F.BM (w.getD (i - 2) 0) (-19)=_ from g9 _ 19 (by omega) (by omega),ak,
    fC (show i<w.length by omega),ak,a8,wI1 i (by omega),Int.toNat_natCast]
   simp only [en,show ¬i<16 by omega,if_false,yp]
   rfl)
  (fun w hw=>by
   have g:∀k:Nat,k<8→aB h (k:Int)=some (h.getD k 0):=fun k hk=>a7 (by omega) 0
   have g0:=g 0 (by omega); have g1:=g 1 (by omega); have g2:=g 2 (by omega); have g3:=g 3 (by omega); have g4:=g 4 (by omega); have g5:=g 5 (by omega); have g6:=g 6 (by omega); have g7:=g 7 (by omega)
   simp only [F.Dn,show decide (((64:Nat):Int)<64)=false from rfl,Bool.false_eq_true,if_false]
   rw [show aB h (0:Int)=_ from g0,ak,show aB h (1:Int)=_ from g1,ak,show aB h (2:Int)=_ from g2,ak,show aB h (3:Int)=_ from g3,ak,show aB h (4:Int)=_ from g4,ak,show aB h (5:Int)=_ from g5,ak,show aB h (6:Int)=_ from g6,ak,show aB h (7:Int)=_ from g7,ak])
  48 16 w (Nat.le_refl _) rfl hw
 have e3:=fun (ws:List UInt32) (hw:ws.length=64)=>dT (f:=F.DX h ws a l rest n) (fun (v:V8 UInt32) i=>(v.1,v.2.1,v.2.2.1,v.2.2.2.1,v.2.2.2.2.1,v.2.2.2.2.2.1,v.2.2.2.2.2.2.1,v.2.2.2.2.2.2.2,(i:Int))) (fun _=>True) (yA ws) 0 64
  (X:=fun v=>loop (F.EJ a l rest n v.1 v.2.1 v.2.2.1 v.2.2.2.1 v.2.2.2.2.1 v.2.2.2.2.2.1 v.2.2.2.2.2.2.1 v.2.2.2.2.2.2.2) (0,h))
  (fun i v _ hi _=>by
   have c1:decide ((i:Int)<64)=true:=decide_eq_true (by omega)
   refine ⟨?_,trivial⟩
   simp only [F.DX,c1,if_true]
   rw [show F.BM v.2.2.2.2.1 (-6)=_ from g9 _ 6 (by omega) (by omega),ak,show F.BM v.2.2.2.2.1 (-11)=_ from g9 _ 11 (by omega) (by omega),ak,show F.BM v.2.2.2.2.1 (-25)=_ from g9 _ 25 (by omega) (by omega),ak,
    zL,a7 (show i<F.FM.length from hi) 0,ak,a7 (show i<ws.length by omega) 0,ak,a8,
    show F.BM v.1 (-2)=_ from g9 _ 2 (by omega) (by omega),ak,show F.BM v.1 (-13)=_ from g9 _ 13 (by omega) (by omega),ak,show F.BM v.1 (-22)=_ from g9 _ 22 (by omega) (by omega),ak,a8,BH,AX,wI1 i (by omega)]
   rfl)
  (fun v _=>rfl) 64 0 (ofL 0 h) (Nat.le_refl _) rfl trivial
 have e4:=fun (v:V8 UInt32)=>dT (f:=F.EJ a l rest n v.1 v.2.1 v.2.2.1 v.2.2.2.1 v.2.2.2.2.1 v.2.2.2.2.2.1 v.2.2.2.2.2.2.1 v.2.2.2.2.2.2.2) (fun h i=>((i:Int),h)) (fun h=>h.length=8) (n7 (toL v)) 0 8
  (X:=fun h=>some (a,h,l,rest,n))
  (fun i h _ hi hh=>by
   have c1:decide ((i:Int)<8)=true:=decide_eq_true (by omega)
   refine ⟨?_,qG _ i h hh⟩
   simp only [F.EJ,c1,if_true]
   rw [a7 (l:=[v.1,v.2.1,v.2.2.1,v.2.2.2.1,v.2.2.2.2.1,v.2.2.2.2.2.1,v.2.2.2.2.2.2.1,v.2.2.2.2.2.2.2]) (show i<8 from hi) 0,ak,a7 (show i<h.length by omega) 0,ak,ak,a8,wI1 i (by omega),Int.toNat_natCast]
   rfl)
  (fun h hh=>rfl) 8 0 h (Nat.le_refl _) rfl hh
 refine e1.trans ?_
 refine (e2 _ (gU (fun w:List UInt32=>w.length=64) (en rest) (fun i x hx=>jB rest i x hx) 16 0 _ (by simp))).trans ?_
 rw [←sK]
 refine (e3 _ (vo rest)).trans ?_
 exact e4 _
end Go.Gk.Sh
end

section
namespace Go.Gk.Sh
open Go Go.Gk
end Go.Gk.Sh
end

section
namespace Go.Gk.Sh
open Go Go.Gk
theorem cu {σ α ρ:Type} {f:σ→Option (σ⊕ρ)} (st:α→Nat→σ) (I:Nat→α→Prop) (g:α→Nat→α) (lo n:Nat) {X:α→Option ρ}
  (hstep:∀i x,lo≤i→i<n→I i x→f (st x i)=some (.inl (st (g x i) (i+1)))∧I (i+1) (g x i)) (hend:∀x,I n x→f (st x n)=bl (X x)) :
  ∀(r i:Nat) (x:α),lo≤i→i+r=n→I i x→loop f (st x i)=X ((List.range' i r).foldl g x)
 | 0,i,x,hl,h,hx=>by
  have:i=n:=by omega
  subst this
  simp only [List.range'_zero,List.foldl_nil]
  exact bE (hend x hx)
 | r+1,i,x,hl,h,hx=>by
  obtain ⟨h1,h2⟩:=hstep i x hl (by omega) hx
  rw [bI h1,List.range'_succ,List.foldl_cons]
  exact cu st I g lo n hstep hend r (i+1) _ (by omega) (by omega) h2
theorem cK {α:Type} (I:Nat→α→Prop) (g:α→Nat→α) (h:∀i x,I i x→I (i+1) (g x i)):∀(r i:Nat) (x:α),I i x→I (i+r) ((List.range' i r).foldl g x)
 | 0,i,x,hx=>by simpa using hx
 | r+1,i,x,hx=>by
  rw [List.range'_succ,List.foldl_cons,show i+(r+1)=i+1+r by omega]
  exact cK I g h r (i+1) _ (h i x hx)
def sj (b:List UInt8) (i:Nat) (x:UInt64) (k:Nat):UInt64:=br x 8 ||| (b.getD (8*i+k) 0).toUInt64
def nD (b:List UInt8) (i:Nat):UInt64:=(List.range' 0 8).foldl (sj b i) 0
def yr (w:List UInt64) (i:Nat):UInt64:=
 ((w.getD (i - 16) 0+w.getD (i - 7) 0)+((iE (w.getD (i - 15) 0) 1 ^^^ iE (w.getD (i - 15) 0) 8) ^^^ aX (w.getD (i - 15) 0) 7)) +
  ((iE (w.getD (i - 2) 0) 19 ^^^ iE (w.getD (i - 2) 0) 61) ^^^ aX (w.getD (i - 2) 0) 6)
def d5 (b:List UInt8) (w:List UInt64) (i:Nat):List UInt64:=if i<16 then w.set i (nD b i) else w.set i (yr w i)
def gS (b:List UInt8):List UInt64:=(List.range' 0 80).foldl (d5 b) (List.replicate 80 0)
def AA (v:V8 UInt64) (k w:UInt64):UInt64:=
 (((v.2.2.2.2.2.2.2+((iE v.2.2.2.2.1 14 ^^^ iE v.2.2.2.2.1 18) ^^^ iE v.2.2.2.2.1 41))+((v.2.2.2.2.1 &&& v.2.2.2.2.2.1) ^^^ (~~~v.2.2.2.2.1 &&& v.2.2.2.2.2.2.1)))+k)+w
def Bs (v:V8 UInt64):UInt64:=((iE v.1 28 ^^^ iE v.1 34) ^^^ iE v.1 39)+(((v.1 &&& v.2.1) ^^^ (v.1 &&& v.2.2.1)) ^^^ (v.2.1 &&& v.2.2.1))
def yv (ws:List UInt64) (v:V8 UInt64) (i:Nat):V8 UInt64:=
 (AA v (F.FT.getD i 0) (ws.getD i 0)+Bs v,v.1,v.2.1,v.2.2.1,v.2.2.2.1+AA v (F.FT.getD i 0) (ws.getD i 0),v.2.2.2.2.1,v.2.2.2.2.2.1,v.2.2.2.2.2.2.1)
def nW (v:List UInt64) (h:List UInt64) (i:Nat):List UInt64:=h.set i (h.getD i 0+v.getD i 0)
def kg (h:List UInt64) (b:List UInt8):List UInt64:=(List.range' 0 8).foldl (nW (toL ((List.range' 0 80).foldl (yv (gS b)) (ofL 0 h)))) h
def ib (i:Nat) (w:List UInt64):Prop:=w.length=80∧∀k,i≤k→w.getD k 0=0
theorem lB (b:List UInt8) (i:Nat) (w:List UInt64) (hw:ib i w):ib (i+1) (d5 b w i):=by
 unfold d5
 refine ⟨by split <;> simpa using hw.1,fun k hk=>?_⟩
 have:=hw.2 k (by omega)
 rw [List.getD_eq_getElem?_getD]at this ⊢
 split <;> (rw [List.getElem?_set]; rw [if_neg (by omega)]; exact this)
theorem oR:ib 0 (List.replicate 80 0):=⟨by simp,fun k _=>by
 rw [List.getD_eq_getElem?_getD,List.getElem?_replicate]; split <;> rfl⟩
theorem vu (b:List UInt8):ib 80 (gS b):=cK ib (d5 b) (fun i x hx=>lB b i x hx) 80 0 _ oR
theorem nF (v:List UInt64) (i:Nat) (h:List UInt64) (hh:h.length=8):(nW v h i).length=8:=by unfold nW; simpa using hh
theorem uA (h:List UInt64) (b:List UInt8) (hh:h.length=8):(kg h b).length=8:=gU (fun w:List UInt64=>w.length=8) _ (fun i x hx=>nF _ i x hx) 8 0 _ hh
theorem pN (b:List UInt8):gS b=(List.range' 16 64).foldl (d5 b) ((List.range' 0 16).foldl (d5 b) (List.replicate 80 0)):=by
 unfold gS
 rw [←List.foldl_append]; rfl
theorem A5 {w:List UInt64} {i:Nat} (h:i<w.length):w.set i (w.getD i 0)=w:=by
 apply List.ext_getElem?
 intro k
 rw [List.getElem?_set]
 split
 ·rename_i e
  subst e
  rw [List.getD_eq_getElem?_getD,List.getElem?_eq_getElem h]; simp [h]
 ·rfl
theorem q5 {w:List UInt64} {i:Nat} (h:i<w.length) (x:UInt64):aB (w.set i x) (i:Int)=some x:=by
 rw [sc,List.getElem?_set,if_pos rfl,if_pos h]
theorem ue (i:Nat) (w:List UInt64) (h16:16≤i) (hi:i<80) (hw:w.length=80) {ρ:Type} (K:UInt64→UInt64→UInt64→UInt64→Option ρ) :
  (an (aB w (wI ((i:Int) - 15))) fun x23=>an (aB w (wI ((i:Int) - 2))) fun x24=>an (aB w (wI ((i:Int) - 16))) fun x25=>an (aB w (wI ((i:Int) - 7))) fun x26=>K x23 x24 x25 x26) =
   K (w.getD (i - 15) 0) (w.getD (i - 2) 0) (w.getD (i - 16) 0) (w.getD (i - 7) 0):=by
 have m:∀k:Nat,k≤16→aB w (wI ((i:Int) - (k:Int)))=some (w.getD (i - k) 0):=fun k hk=>by
  rw [wIs i k (by omega) (by omega),a7 (by omega) 0]
 have m15:=m 15 (by omega); have m2:=m 2 (by omega); have m16:=m 16 (by omega); have m7:=m 7 (by omega)
 rw [show aB w (wI ((i:Int) - 15))=_ from m15,ak,show aB w (wI ((i:Int) - 2))=_ from m2,ak,show aB w (wI ((i:Int) - 16))=_ from m16,ak,show aB w (wI ((i:Int) - 7))=_ from m7,ak]
theorem tW (a:Int) (h:List UInt64) (l:List UInt32) (rest:List UInt8) (n:UInt64) (hh:h.length=8) (hr:rest.length=128) :
  F.Fh a l h rest n=some (a,l,kg h rest,rest,n):=by
 unfold F.Fh
 -- the first sixteen words
 have e0:=fun (i:Nat) (w:List UInt64) (hi:i<16) (hw:ib i w)=>dT (f:=F.Ej (i:Int) ((rest.drop (8*i)).take (8*i+8 - 8*i))) (fun x j=>((j:Int),w.set i x)) (fun _=>True) (sj rest i) 0 8
  (X:=fun x=>(some (.inl (((i+1:Nat):Int),w.set i x)):Option ((Int×List UInt64)⊕(Int×List UInt32×List UInt64×List UInt8×UInt64))))
  (fun j x _ hj _=>by
   have hl:((rest.drop (8*i)).take (8*i+8 - 8*i)).length=8:=by simp; omega
   have c1:decide ((j:Int)<(((rest.drop (8*i)).take (8*i+8 - 8*i)).length:Int))=true:=decide_eq_true (by omega)
   have g:aB ((rest.drop (8*i)).take (8*i+8 - 8*i)) (j:Int)=some (rest.getD (8*i+j) 0):=by
    rw [a7 (by omega) 0,List.getD_eq_getElem?_getD,List.getElem?_take,if_pos (by omega),List.getElem?_drop,List.getD_eq_getElem?_getD]
   have hwl:=hw.1
   refine ⟨?_,trivial⟩
   simp only [F.Ej,c1,if_true]
   rw [g,ak,q5 (by omega),ak,ak,a8,wI1 j (by omega),Int.toNat_natCast,List.set_set]
   rfl)
  (fun x _=>by
   have hl:((rest.drop (8*i)).take (8*i+8 - 8*i)).length=8:=by simp; omega
   have c1:decide (((8:Nat):Int)<(((rest.drop (8*i)).take (8*i+8 - 8*i)).length:Int))=false:=decide_eq_false (by omega)
   simp only [F.Ej,c1,Bool.false_eq_true,if_false,wI1 i (by omega)]
   rfl)
  8 0 0 (Nat.le_refl _) rfl trivial
 have e1:=cu (f:=F.E7 rest h a l n) (fun w i=>((i:Int),w)) ib (d5 rest) 0 16
  (X:=fun w=>loop (F.De h a l rest n) (16,w))
  (fun i w _ hi hw=>by
   have c1:decide ((i:Int)<16)=true:=decide_eq_true (by omega)
   have m8:wI (8*(i:Int))=((8*i:Nat):Int):=by rw [aV (by omega) (by omega)]; omega
   have m9:wI (((8*i:Nat):Int)+8)=((8*i+8:Nat):Int):=by rw [aV (by omega) (by omega)]; omega
   refine ⟨?_,lB rest i w hw⟩
   simp only [F.E7,c1,if_true,m8,m9]
   rw [n8 (by omega) (by omega),ak]
   have h0:=e0 i w hi hw
   have hz:w.set i 0=w:=by
    have:=A5 (w:=w) (i:=i) (by have:=hw.1; omega)
    rwa [hw.2 i (Nat.le_refl _)]at this
   rw [hz]at h0
   refine h0.trans ?_
   simp only [d5,hi,if_true,nD])
  (fun w hw=>rfl) 16 0 (List.replicate 80 0) (Nat.le_refl _) rfl oR
 have e2:=fun (w:List UInt64) (hw:w.length=80)=>dT (f:=F.De h a l rest n) (fun w i=>((i:Int),w)) (fun w=>w.length=80) (d5 rest) 16 80
  (X:=fun w=>loop (F.EM h w a l rest n) (h.getD 0 0,h.getD 1 0,h.getD 2 0,h.getD 3 0,h.getD 4 0,h.getD 5 0,h.getD 6 0,h.getD 7 0,0))
  (fun i w h16 hi hw=>by
   have c1:decide ((i:Int)<80)=true:=decide_eq_true (by omega)
   refine ⟨?_,(by unfold d5; split <;> simpa using hw)⟩
   simp only [F.De,c1,if_true,ue i w h16 hi hw]
   rw [show F.BN (w.getD (i - 15) 0) (-1)=_ from g8 _ 1 (by omega) (by omega),ak,show F.BN (w.getD (i - 15) 0) (-8)=_ from g8 _ 8 (by omega) (by omega),ak,
    show F.BN (w.getD (i - 2) 0) (-19)=_ from g8 _ 19 (by omega) (by omega),ak,show F.BN (w.getD (i - 2) 0) (-61)=_ from g8 _ 61 (by omega) (by omega),ak,
    fC (show i<w.length by omega),ak,a8,wI1 i (by omega),Int.toNat_natCast]
   simp only [d5,show ¬i<16 by omega,if_false,yr]
   rfl)
  (fun w hw=>by
   have g:∀k:Nat,k<8→aB h (k:Int)=some (h.getD k 0):=fun k hk=>a7 (by omega) 0
   have g0:=g 0 (by omega); have g1:=g 1 (by omega); have g2:=g 2 (by omega); have g3:=g 3 (by omega); have g4:=g 4 (by omega); have g5:=g 5 (by omega); have g6:=g 6 (by omega); have g7:=g 7 (by omega)
   simp only [F.De,show decide (((80:Nat):Int)<80)=false from rfl,Bool.false_eq_true,if_false]
   rw [show aB h (0:Int)=_ from g0,ak,show aB h (1:Int)=_ from g1,ak,show aB h (2:Int)=_ from g2,ak,show aB h (3:Int)=_ from g3,ak,show aB h (4:Int)=_ from g4,ak,show aB h (5:Int)=_ from g5,ak,show aB h (6:Int)=_ from g6,ak,show aB h (7:Int)=_ from g7,ak])
  64 16 w (Nat.le_refl _) rfl hw
 have e3:=fun (ws:List UInt64) (hw:ws.length=80)=>dT (f:=F.EM h ws a l rest n) (fun (v:V8 UInt64) i=>(v.1,v.2.1,v.2.2.1,v.2.2.2.1,v.2.2.2.2.1,v.2.2.2.2.2.1,v.2.2.2.2.2.2.1,v.2.2.2.2.2.2.2,(i:Int))) (fun _=>True) (yv ws) 0 80
  (X:=fun v=>loop (F.Eu a l rest n v.1 v.2.1 v.2.2.1 v.2.2.2.1 v.2.2.2.2.1 v.2.2.2.2.2.1 v.2.2.2.2.2.2.1 v.2.2.2.2.2.2.2) (0,h))
  (fun i v _ hi _=>by
   have c1:decide ((i:Int)<80)=true:=decide_eq_true (by omega)
   refine ⟨?_,trivial⟩
   simp only [F.EM,c1,if_true]
   rw [show F.BN v.2.2.2.2.1 (-14)=_ from g8 _ 14 (by omega) (by omega),ak,show F.BN v.2.2.2.2.1 (-18)=_ from g8 _ 18 (by omega) (by omega),ak,show F.BN v.2.2.2.2.1 (-41)=_ from g8 _ 41 (by omega) (by omega),ak,
    zt,a7 (show i<F.FT.length from hi) 0,ak,a7 (show i<ws.length by omega) 0,ak,a8,
    show F.BN v.1 (-28)=_ from g8 _ 28 (by omega) (by omega),ak,show F.BN v.1 (-34)=_ from g8 _ 34 (by omega) (by omega),ak,show F.BN v.1 (-39)=_ from g8 _ 39 (by omega) (by omega),ak,a8,Bp,AY,wI1 i (by omega)]
   rfl)
  (fun v _=>rfl) 80 0 (ofL 0 h) (Nat.le_refl _) rfl trivial
 have e4:=fun (v:V8 UInt64)=>dT (f:=F.Eu a l rest n v.1 v.2.1 v.2.2.1 v.2.2.2.1 v.2.2.2.2.1 v.2.2.2.2.2.1 v.2.2.2.2.2.2.1 v.2.2.2.2.2.2.2) (fun h i=>((i:Int),h)) (fun h=>h.length=8) (nW (toL v)) 0 8
  (X:=fun h=>some (a,l,h,rest,n))
  (fun i h _ hi hh=>by
   have c1:decide ((i:Int)<8)=true:=decide_eq_true (by omega)
   refine ⟨?_,nF _ i h hh⟩
   simp only [F.Eu,c1,if_true]
   rw [a7 (l:=[v.1,v.2.1,v.2.2.1,v.2.2.2.1,v.2.2.2.2.1,v.2.2.2.2.2.1,v.2.2.2.2.2.2.1,v.2.2.2.2.2.2.2]) (show i<8 from hi) 0,ak,a7 (show i<h.length by omega) 0,ak,ak,a8,wI1 i (by omega),Int.toNat_natCast]
   rfl)
  (fun h hh=>rfl) 8 0 h (Nat.le_refl _) rfl hh
 refine e1.trans ?_
 refine (e2 _ (cK ib (d5 rest) (fun i x hx=>lB rest i x hx) 16 0 _ oR).1).trans ?_
 rw [←pN]
 refine (e3 _ ((vu rest).1)).trans ?_
 exact e4 _
end Go.Gk.Sh
end
