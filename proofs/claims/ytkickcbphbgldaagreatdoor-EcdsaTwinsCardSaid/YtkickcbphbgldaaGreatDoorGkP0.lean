import Derived.Test.YtkickcbphbgldaaGreatDoorGkS
import Derived.Test.YtkickcbphbgldaaGreatDoorGkFman
set_option linter.unusedVariables false
set_option linter.unusedSimpArgs false
set_option linter.unusedSectionVars false

section
namespace Go.Gk
theorem rH {x y:Nat} (k:Nat) (hx:x%2^k=0) (hy:y<2^k):x ||| y=x+y:=by
 have h1:x=(x / 2^k) <<< k:=by
  rw [Nat.shiftLeft_eq]
  have:=Nat.div_add_mod x (2^k)
  rw [hx]at this
  rw [Nat.mul_comm]; omega
 rw [h1,←Nat.shiftLeft_add_eq_or_of_lt hy]
section
theorem jF (x:UInt64) (n:Nat):(bm x n).toNat=x.toNat*2^(min n 64)%18446744073709551616:=by simp [bm,UInt64.toNat_ofNat']
theorem dA (x:UInt64) (n:Nat):(aP x n).toNat=x.toNat / 2^(min n 64):=by
 simp only [aP,UInt64.toNat_ofNat']
 exact Nat.mod_eq_of_lt (Nat.lt_of_le_of_lt (Nat.div_le_self _ _) x.toNat_lt)
theorem mC (x:UInt32) (n:Nat):(ce x n).toNat=x.toNat*2^(min n 32)%4294967296:=by simp [ce,UInt32.toNat_ofNat']
theorem fH (x:UInt32) (n:Nat):(bz x n).toNat=x.toNat / 2^(min n 32):=by
 simp only [bz,UInt32.toNat_ofNat']
 exact Nat.mod_eq_of_lt (Nat.lt_of_le_of_lt (Nat.div_le_self _ _) x.toNat_lt)
end
theorem jL {τ:Type} {l:List τ} {i:Nat} (h:i<l.length):aK l (i:Int)=some l[i]:=by rw [rQ]; simp [h]
theorem nk {τ:Type} {l m:List τ} {bytes:Nat} (h:(l.length+m.length)*bytes≤225000000000000):apO bytes l m=some (l++m):=if_pos h
theorem dl {τ:Type} {bytes:Nat} {l c:Int} {t0:τ} (h:0≤l∧l≤c∧(bytes:Int)*c≤281474976710656∧c≤9223372036854775807):mkO bytes l c t0=some (List.replicate l.toNat t0):=if_pos h
theorem qv {τ:Type} {l:List τ} {k:Nat} (h:k≤l.length):drO l (k:Int)=some (l.drop k):=by
 unfold drO; rw [if_pos (by simp; omega)]; simp
theorem nB {τ:Type} {l:List τ} {lo hi:Nat} (h:lo≤hi) (h2:hi≤l.length):slO l (lo:Int) (hi:Int)=some ((l.drop lo).take (hi - lo)):=by
 unfold slO; rw [if_pos (by simp; omega)]; simp
theorem ak {α ρ:Type} (a:α) (k:α→Option ρ):an (some a) k=k a:=rfl
theorem aW {α ρ:Type} (a:α) (k:α→Option ρ):bp a k=k a:=rfl
end Go.Gk
end

section
namespace Go.Gk
open Go
theorem bG {σ ρ:Type} {f:σ→Option (σ⊕ρ)} {s:σ} {X:Option ρ} (h:f s=bD X):loop f s=X:=by
 rw [jX,h]
 cases X <;> rfl
end Go.Gk
end

section
namespace Go.Gk.Sh
open Go Go.Gk
theorem dO {σ α ρ:Type} {f:σ→Option (σ⊕ρ)} (st:α→Nat→σ) (I:α→Prop) (g:α→Nat→α) (lo n:Nat) {X:α→Option ρ}
  (hstep:∀i x,lo≤i→i<n→I x→f (st x i)=some (.inl (st (g x i) (i+1)))∧I (g x i)) (hend:∀x,I x→f (st x n)=bD (X x)) :
  ∀(r i:Nat) (x:α),lo≤i→i+r=n→I x→loop f (st x i)=X ((List.range' i r).foldl g x)
 | 0,i,x,hl,h,hx=>by
  have:i=n:=by omega
  subst this
  simp only [List.range'_zero,List.foldl_nil]
  exact bG (hend x hx)
 | r+1,i,x,hl,h,hx=>by
  obtain ⟨h1,h2⟩:=hstep i x hl (by omega) hx
  rw [bK h1,List.range'_succ,List.foldl_cons]
  exact dO st I g lo n hstep hend r (i+1) _ (by omega) (by omega) h2
theorem gz {α:Type} (I:α→Prop) (g:α→Nat→α) (h:∀i x,I x→I (g x i)):∀(r i:Nat) (x:α),I x→I ((List.range' i r).foldl g x)
 | 0,i,x,hx=>by simpa using hx
 | r+1,i,x,hx=>by
  rw [List.range'_succ,List.foldl_cons]
  exact gz I g h r (i+1) _ (h i x hx)
theorem gg {α:Type} {g g':α→Nat→α}:∀(r i:Nat) (x:α),(∀k y,i≤k→k<i+r→g y k=g' y k)→(List.range' i r).foldl g x=(List.range' i r).foldl g' x
 | 0,i,x,_=>rfl
 | r+1,i,x,h=>by
  rw [List.range'_succ,List.foldl_cons,List.foldl_cons,h i x (Nat.le_refl _) (by omega)]
  exact gg r (i+1) _ fun k y h1 h2=>h k y (by omega) (by omega)
theorem aU {τ:Type} [Inhabited τ] {l:List τ} {i:Nat} (h:i<l.length) (d:τ):aK l (i:Int)=some (l.getD i d):=by
 rw [jL h,List.getD_eq_getElem?_getD,List.getElem?_eq_getElem h]; rfl
theorem Bi (e f g:UInt32):g ^^^ (e &&& (f ^^^ g))=(e &&& f) ^^^ (~~~e &&& g):=by
 apply UInt32.eq_of_toBitVec_eq
 simp only [UInt32.toBitVec_xor,UInt32.toBitVec_and,UInt32.toBitVec_not]
 ext i hi
 simp only [BitVec.getElem_xor,BitVec.getElem_and,BitVec.getElem_not]
 cases e.toBitVec[i] <;> cases f.toBitVec[i] <;> cases g.toBitVec[i] <;> rfl
theorem A2 (a b c:UInt32):(a &&& b) ||| (c &&& (a ||| b))=((a &&& b) ^^^ (a &&& c)) ^^^ (b &&& c):=by
 apply UInt32.eq_of_toBitVec_eq
 simp only [UInt32.toBitVec_xor,UInt32.toBitVec_and,UInt32.toBitVec_or]
 ext i hi
 simp only [BitVec.getElem_xor,BitVec.getElem_and,BitVec.getElem_or]
 cases a.toBitVec[i] <;> cases b.toBitVec[i] <;> cases c.toBitVec[i] <;> rfl
theorem Bf (e f g:UInt64):g ^^^ (e &&& (f ^^^ g))=(e &&& f) ^^^ (~~~e &&& g):=by
 apply UInt64.eq_of_toBitVec_eq
 simp only [UInt64.toBitVec_xor,UInt64.toBitVec_and,UInt64.toBitVec_not]
 ext i hi
 simp only [BitVec.getElem_xor,BitVec.getElem_and,BitVec.getElem_not]
 cases e.toBitVec[i] <;> cases f.toBitVec[i] <;> cases g.toBitVec[i] <;> rfl
theorem AN (a b c:UInt64):(a &&& b) ||| (c &&& (a ||| b))=((a &&& b) ^^^ (a &&& c)) ^^^ (b &&& c):=by
 apply UInt64.eq_of_toBitVec_eq
 simp only [UInt64.toBitVec_xor,UInt64.toBitVec_and,UInt64.toBitVec_or]
 ext i hi
 simp only [BitVec.getElem_xor,BitVec.getElem_and,BitVec.getElem_or]
 cases a.toBitVec[i] <;> cases b.toBitVec[i] <;> cases c.toBitVec[i] <;> rfl
def ij (x:UInt32) (k:Nat):UInt32:=bz x k ||| ce x (32 - k)
def ig (x:UInt64) (k:Nat):UInt64:=aP x k ||| bm x (64 - k)
theorem gO (x:UInt32) (k:Nat) (h:0<k) (h2:k<32):F.By x (-(k:Int))=some (ij x k):=by
 unfold F.By ij
 have key:∀k:Fin 32,0<k.val→((UInt64.ofInt (-(k.val:Int))) &&& 31).toNat=32 - k.val∧((32:UInt64) - ((UInt64.ofInt (-(k.val:Int))) &&& 31)).toNat=k.val:=by decide
 obtain ⟨h3,h4⟩:=key ⟨k,h2⟩ h
 simp only at h3 h4
 rw [h3,h4,UInt32.or_comm]
theorem gM (x:UInt64) (k:Nat) (h:0<k) (h2:k<64):F.Bw x (-(k:Int))=some (ig x k):=by
 unfold F.Bw ig
 have key:∀k:Fin 64,0<k.val→((UInt64.ofInt (-(k.val:Int))) &&& 63).toNat=64 - k.val∧((64:UInt64) - ((UInt64.ofInt (-(k.val:Int))) &&& 63)).toNat=k.val:=by decide
 obtain ⟨h3,h4⟩:=key ⟨k,h2⟩ h
 simp only at h3 h4
 rw [h3,h4,UInt64.or_comm]
theorem zm:F.Cs=F.Fy:=rfl
theorem yF:F.Cl=F.Fv:=rfl
end Go.Gk.Sh
end

section
namespace Go.Gk.Sh
open Go Go.Gk
abbrev V8 (W:Type):=W×W×W×W×W×W×W×W
def toL {W:Type} (v:V8 W):List W:=[v.1,v.2.1,v.2.2.1,v.2.2.2.1,v.2.2.2.2.1,v.2.2.2.2.2.1,v.2.2.2.2.2.2.1,v.2.2.2.2.2.2.2]
def ofL {W:Type} (d:W) (l:List W):V8 W:=(l.getD 0 d,l.getD 1 d,l.getD 2 d,l.getD 3 d,l.getD 4 d,l.getD 5 d,l.getD 6 d,l.getD 7 d)
def qX (b:List UInt8) (i:Nat):UInt32:=
 ((ce (b.getD (4*i) 0).toUInt32 24 ||| ce (b.getD (4*i+1) 0).toUInt32 16) ||| ce (b.getD (4*i+2) 0).toUInt32 8) ||| (b.getD (4*i+3) 0).toUInt32
def yb (w:List UInt32) (i:Nat):UInt32:=
 ((w.getD (i - 16) 0+w.getD (i - 7) 0)+((ij (w.getD (i - 15) 0) 7 ^^^ ij (w.getD (i - 15) 0) 18) ^^^ bz (w.getD (i - 15) 0) 3)) +
  ((ij (w.getD (i - 2) 0) 17 ^^^ ij (w.getD (i - 2) 0) 19) ^^^ bz (w.getD (i - 2) 0) 10)
def ef (b:List UInt8) (w:List UInt32) (i:Nat):List UInt32:=if i<16 then w.set i (qX b i) else w.set i (yb w i)
def gv (b:List UInt8):List UInt32:=(List.range' 0 64).foldl (ef b) (List.replicate 64 0)
def AG (v:V8 UInt32) (k w:UInt32):UInt32:=
 (((v.2.2.2.2.2.2.2+((ij v.2.2.2.2.1 6 ^^^ ij v.2.2.2.2.1 11) ^^^ ij v.2.2.2.2.1 25))+((v.2.2.2.2.1 &&& v.2.2.2.2.2.1) ^^^ (~~~v.2.2.2.2.1 &&& v.2.2.2.2.2.2.1)))+k)+w
def Bs (v:V8 UInt32):UInt32:=((ij v.1 2 ^^^ ij v.1 13) ^^^ ij v.1 22)+(((v.1 &&& v.2.1) ^^^ (v.1 &&& v.2.2.1)) ^^^ (v.2.1 &&& v.2.2.1))
def yc (ws:List UInt32) (v:V8 UInt32) (i:Nat):V8 UInt32:=
 (AG v (F.Fy.getD i 0) (ws.getD i 0)+Bs v,v.1,v.2.1,v.2.2.1,v.2.2.2.1+AG v (F.Fy.getD i 0) (ws.getD i 0),v.2.2.2.2.1,v.2.2.2.2.2.1,v.2.2.2.2.2.2.1)
def nA (v:List UInt32) (h:List UInt32) (i:Nat):List UInt32:=h.set i (h.getD i 0+v.getD i 0)
def jU (h:List UInt32) (b:List UInt8):List UInt32:=(List.range' 0 8).foldl (nA (toL ((List.range' 0 64).foldl (yc (gv b)) (ofL 0 h)))) h
theorem ju (b:List UInt8) (i:Nat) (w:List UInt32) (hw:w.length=64):(ef b w i).length=64:=by
 unfold ef; split <;> simpa using hw
theorem vg (b:List UInt8):(gv b).length=64:=gz (fun w:List UInt32=>w.length=64) (ef b) (fun i x hx=>ju b i x hx) 64 0 _ (by simp)
theorem qs (v:List UInt32) (i:Nat) (h:List UInt32) (hh:h.length=8):(nA v h i).length=8:=by unfold nA; simpa using hh
theorem xM (h:List UInt32) (b:List UInt8) (hh:h.length=8):(jU h b).length=8:=gz (fun w:List UInt32=>w.length=8) _ (fun i x hx=>qs _ i x hx) 8 0 _ hh
theorem sB (b:List UInt8):gv b=(List.range' 16 48).foldl (ef b) ((List.range' 0 16).foldl (ef b) (List.replicate 64 0)):=by
 unfold gv
 rw [←List.foldl_append]; rfl
theorem wI1 (i:Nat) (h:i<1000000):wI ((i:Int)+1)=((i+1:Nat):Int):=by rw [aQ (by omega) (by omega)]; rfl
theorem wIs (i k:Nat) (h:k≤i) (h2:i<1000000):wI ((i:Int) - (k:Int))=((i - k:Nat):Int):=by rw [aQ (by omega) (by omega)]; omega
theorem xz (i:Nat) (w:List UInt32) (h16:16≤i) (hi:i<64) (hw:w.length=64) {ρ:Type} (K:UInt32→UInt32→UInt32→UInt32→Option ρ) :
  (an (aK w (wI ((i:Int) - 15))) fun x23=>an (aK w (wI ((i:Int) - 2))) fun x24=>an (aK w (wI ((i:Int) - 16))) fun x25=>an (aK w (wI ((i:Int) - 7))) fun x26=>K x23 x24 x25 x26) =
   K (w.getD (i - 15) 0) (w.getD (i - 2) 0) (w.getD (i - 16) 0) (w.getD (i - 7) 0):=by
 have m:∀k:Nat,k≤16→aK w (wI ((i:Int) - (k:Int)))=some (w.getD (i - k) 0):=fun k hk=>by
  rw [wIs i k (by omega) (by omega),aU (by omega) 0]
 have m15:=m 15 (by omega); have m2:=m 2 (by omega); have m16:=m 16 (by omega); have m7:=m 7 (by omega)
 rw [show aK w (wI ((i:Int) - 15))=_ from m15,ak,show aK w (wI ((i:Int) - 2))=_ from m2,ak,show aK w (wI ((i:Int) - 16))=_ from m16,ak,show aK w (wI ((i:Int) - 7))=_ from m7,ak]
theorem ul (a:Int) (h:List UInt32) (l:List UInt64) (rest:List UInt8) (n:UInt64) (hh:h.length=8) (hr:rest.length=128) :
  F.EM a h l rest n=some (a,jU h rest,l,rest,n):=by
 unfold F.EM
 -- the first sixteen words
 have e1:=dO (f:=F.Fa rest h a l n) (fun w i=>((i:Int),w)) (fun w=>w.length=64) (ef rest) 0 16
  (X:=fun w=>loop (F.C6 h a l rest n) (16,w))
  (fun i w _ hi hw=>by
   have c1:decide ((i:Int)<16)=true:=decide_eq_true (by omega)
   have m4:wI (4*(i:Int))=((4*i:Nat):Int):=by rw [aQ (by omega) (by omega)]; omega
   have d:∀k:Nat,k<4→aK (rest.drop (4*i)) (k:Int)=some (rest.getD (4*i+k) 0):=fun k hk=>by
    rw [aU (by simp; omega) 0,List.getD_eq_getElem?_getD,List.getElem?_drop,List.getD_eq_getElem?_getD]
   refine ⟨?_,ju rest i w hw⟩
   simp only [F.Fa,c1,if_true,m4,qv (show 4*i≤rest.length by omega),ak,aW]
   have d0:=d 0 (by omega); have d1:=d 1 (by omega); have d2:=d 2 (by omega); have d3:=d 3 (by omega)
   simp only [show ((0:Nat):Int)=0 from rfl,show ((1:Nat):Int)=1 from rfl,show ((2:Nat):Int)=2 from rfl,show ((3:Nat):Int)=3 from rfl,Nat.add_zero]at d0 d1 d2 d3
   rw [d0,ak,d1,ak,d2,ak,d3,ak,jL (show i<w.length by omega),ak,wI1 i (by omega),Int.toNat_natCast]
   simp only [ef,hi,if_true,qX]
   rfl)
  (fun w hw=>rfl) 16 0 (List.replicate 64 0) (Nat.le_refl _) rfl (by simp)
 have e2:=fun (w:List UInt32) (hw:w.length=64)=>dO (f:=F.C6 h a l rest n) (fun w i=>((i:Int),w)) (fun w=>w.length=64) (ef rest) 16 64
  (X:=fun w=>loop (F.Ep h w a l rest n) (h.getD 0 0,h.getD 1 0,h.getD 2 0,h.getD 3 0,h.getD 4 0,h.getD 5 0,h.getD 6 0,h.getD 7 0,0))
  (fun i w h16 hi hw=>by
   have c1:decide ((i:Int)<64)=true:=decide_eq_true (by omega)
   refine ⟨?_,ju rest i w hw⟩
   simp only [F.C6,c1,if_true,xz i w h16 hi hw]
   rw [show F.By (w.getD (i - 15) 0) (-7)=_ from gO _ 7 (by omega) (by omega),ak,show F.By (w.getD (i - 15) 0) (-18)=_ from gO _ 18 (by omega) (by omega),ak,
    show F.By (w.getD (i - 2) 0) (-17)=_ from gO _ 17 (by omega) (by omega),ak,show F.By (w.getD (i - 2) 0) (-19)=_ from gO _ 19 (by omega) (by omega),ak,
    jL (show i<w.length by omega),ak,aW,wI1 i (by omega),Int.toNat_natCast]
   simp only [ef,show ¬i<16 by omega,if_false,yb]
   rfl)
  (fun w hw=>by
   have g:∀k:Nat,k<8→aK h (k:Int)=some (h.getD k 0):=fun k hk=>aU (by omega) 0
   have g0:=g 0 (by omega); have g1:=g 1 (by omega); have g2:=g 2 (by omega); have g3:=g 3 (by omega); have g4:=g 4 (by omega); have g5:=g 5 (by omega); have g6:=g 6 (by omega); have g7:=g 7 (by omega)
   simp only [F.C6,show decide (((64:Nat):Int)<64)=false from rfl,Bool.false_eq_true,if_false]
   rw [show aK h (0:Int)=_ from g0,ak,show aK h (1:Int)=_ from g1,ak,show aK h (2:Int)=_ from g2,ak,show aK h (3:Int)=_ from g3,ak,show aK h (4:Int)=_ from g4,ak,show aK h (5:Int)=_ from g5,ak,show aK h (6:Int)=_ from g6,ak,show aK h (7:Int)=_ from g7,ak])
  48 16 w (Nat.le_refl _) rfl hw
 have e3:=fun (ws:List UInt32) (hw:ws.length=64)=>dO (f:=F.Ep h ws a l rest n) (fun (v:V8 UInt32) i=>(v.1,v.2.1,v.2.2.1,v.2.2.2.1,v.2.2.2.2.1,v.2.2.2.2.2.1,v.2.2.2.2.2.2.1,v.2.2.2.2.2.2.2,(i:Int))) (fun _=>True) (yc ws) 0 64
  (X:=fun v=>loop (F.DS a l rest n v.1 v.2.1 v.2.2.1 v.2.2.2.1 v.2.2.2.2.1 v.2.2.2.2.2.1 v.2.2.2.2.2.2.1 v.2.2.2.2.2.2.2) (0,h))
  (fun i v _ hi _=>by
   have c1:decide ((i:Int)<64)=true:=decide_eq_true (by omega)
   refine ⟨?_,trivial⟩
   simp only [F.Ep,c1,if_true]
   rw [show F.By v.2.2.2.2.1 (-6)=_ from gO _ 6 (by omega) (by omega),ak,show F.By v.2.2.2.2.1 (-11)=_ from gO _ 11 (by omega) (by omega),ak,show F.By v.2.2.2.2.1 (-25)=_ from gO _ 25 (by omega) (by omega),ak,
    zm,aU (show i<F.Fy.length from hi) 0,ak,aU (show i<ws.length by omega) 0,ak,aW,
    show F.By v.1 (-2)=_ from gO _ 2 (by omega) (by omega),ak,show F.By v.1 (-13)=_ from gO _ 13 (by omega) (by omega),ak,show F.By v.1 (-22)=_ from gO _ 22 (by omega) (by omega),ak,aW,Bi,A2,wI1 i (by omega)]
   rfl)
  (fun v _=>rfl) 64 0 (ofL 0 h) (Nat.le_refl _) rfl trivial
 have e4:=fun (v:V8 UInt32)=>dO (f:=F.DS a l rest n v.1 v.2.1 v.2.2.1 v.2.2.2.1 v.2.2.2.2.1 v.2.2.2.2.2.1 v.2.2.2.2.2.2.1 v.2.2.2.2.2.2.2) (fun h i=>((i:Int),h)) (fun h=>h.length=8) (nA (toL v)) 0 8
  (X:=fun h=>some (a,h,l,rest,n))
  (fun i h _ hi hh=>by
   have c1:decide ((i:Int)<8)=true:=decide_eq_true (by omega)
   refine ⟨?_,qs _ i h hh⟩
   simp only [F.DS,c1,if_true]
   rw [aU (l:=[v.1,v.2.1,v.2.2.1,v.2.2.2.1,v.2.2.2.2.1,v.2.2.2.2.2.1,v.2.2.2.2.2.2.1,v.2.2.2.2.2.2.2]) (show i<8 from hi) 0,ak,aU (show i<h.length by omega) 0,ak,ak,aW,wI1 i (by omega),Int.toNat_natCast]
   rfl)
  (fun h hh=>rfl) 8 0 h (Nat.le_refl _) rfl hh
 refine e1.trans ?_
 refine (e2 _ (gz (fun w:List UInt32=>w.length=64) (ef rest) (fun i x hx=>ju rest i x hx) 16 0 _ (by simp))).trans ?_
 rw [←sB]
 refine (e3 _ (vg rest)).trans ?_
 exact e4 _
end Go.Gk.Sh
end

section
namespace Go.Gk.Sh
open Go Go.Gk
end Go.Gk.Sh
end

section
namespace Go.Gk.Sh
open Go Go.Gk
theorem cn {σ α ρ:Type} {f:σ→Option (σ⊕ρ)} (st:α→Nat→σ) (I:Nat→α→Prop) (g:α→Nat→α) (lo n:Nat) {X:α→Option ρ}
  (hstep:∀i x,lo≤i→i<n→I i x→f (st x i)=some (.inl (st (g x i) (i+1)))∧I (i+1) (g x i)) (hend:∀x,I n x→f (st x n)=bD (X x)) :
  ∀(r i:Nat) (x:α),lo≤i→i+r=n→I i x→loop f (st x i)=X ((List.range' i r).foldl g x)
 | 0,i,x,hl,h,hx=>by
  have:i=n:=by omega
  subst this
  simp only [List.range'_zero,List.foldl_nil]
  exact bG (hend x hx)
 | r+1,i,x,hl,h,hx=>by
  obtain ⟨h1,h2⟩:=hstep i x hl (by omega) hx
  rw [bK h1,List.range'_succ,List.foldl_cons]
  exact cn st I g lo n hstep hend r (i+1) _ (by omega) (by omega) h2
theorem cD {α:Type} (I:Nat→α→Prop) (g:α→Nat→α) (h:∀i x,I i x→I (i+1) (g x i)):∀(r i:Nat) (x:α),I i x→I (i+r) ((List.range' i r).foldl g x)
 | 0,i,x,hx=>by simpa using hx
 | r+1,i,x,hx=>by
  rw [List.range'_succ,List.foldl_cons,show i+(r+1)=i+1+r by omega]
  exact cD I g h r (i+1) _ (h i x hx)
def qo (b:List UInt8) (i:Nat) (x:UInt64) (k:Nat):UInt64:=bm x 8 ||| (b.getD (8*i+k) 0).toUInt64
def nK (b:List UInt8) (i:Nat):UInt64:=(List.range' 0 8).foldl (qo b i) 0
def yl (w:List UInt64) (i:Nat):UInt64:=
 ((w.getD (i - 16) 0+w.getD (i - 7) 0)+((ig (w.getD (i - 15) 0) 1 ^^^ ig (w.getD (i - 15) 0) 8) ^^^ aP (w.getD (i - 15) 0) 7)) +
  ((ig (w.getD (i - 2) 0) 19 ^^^ ig (w.getD (i - 2) 0) 61) ^^^ aP (w.getD (i - 2) 0) 6)
def dV (b:List UInt8) (w:List UInt64) (i:Nat):List UInt64:=if i<16 then w.set i (nK b i) else w.set i (yl w i)
def gF (b:List UInt8):List UInt64:=(List.range' 0 80).foldl (dV b) (List.replicate 80 0)
def zW (v:V8 UInt64) (k w:UInt64):UInt64:=
 (((v.2.2.2.2.2.2.2+((ig v.2.2.2.2.1 14 ^^^ ig v.2.2.2.2.1 18) ^^^ ig v.2.2.2.2.1 41))+((v.2.2.2.2.1 &&& v.2.2.2.2.2.1) ^^^ (~~~v.2.2.2.2.1 &&& v.2.2.2.2.2.2.1)))+k)+w
def Bq (v:V8 UInt64):UInt64:=((ig v.1 28 ^^^ ig v.1 34) ^^^ ig v.1 39)+(((v.1 &&& v.2.1) ^^^ (v.1 &&& v.2.2.1)) ^^^ (v.2.1 &&& v.2.2.1))
def ym (ws:List UInt64) (v:V8 UInt64) (i:Nat):V8 UInt64:=
 (zW v (F.Fv.getD i 0) (ws.getD i 0)+Bq v,v.1,v.2.1,v.2.2.1,v.2.2.2.1+zW v (F.Fv.getD i 0) (ws.getD i 0),v.2.2.2.2.1,v.2.2.2.2.2.1,v.2.2.2.2.2.2.1)
def ng (v:List UInt64) (h:List UInt64) (i:Nat):List UInt64:=h.set i (h.getD i 0+v.getD i 0)
def ka (h:List UInt64) (b:List UInt8):List UInt64:=(List.range' 0 8).foldl (ng (toL ((List.range' 0 80).foldl (ym (gF b)) (ofL 0 h)))) h
def g9 (i:Nat) (w:List UInt64):Prop:=w.length=80∧∀k,i≤k→w.getD k 0=0
theorem lF (b:List UInt8) (i:Nat) (w:List UInt64) (hw:g9 i w):g9 (i+1) (dV b w i):=by
 unfold dV
 refine ⟨by split <;> simpa using hw.1,fun k hk=>?_⟩
 have:=hw.2 k (by omega)
 rw [List.getD_eq_getElem?_getD]at this ⊢
 split <;> (rw [List.getElem?_set]; rw [if_neg (by omega)]; exact this)
theorem n8:g9 0 (List.replicate 80 0):=⟨by simp,fun k _=>by
 rw [List.getD_eq_getElem?_getD,List.getElem?_replicate]; split <;> rfl⟩
theorem u9 (b:List UInt8):g9 80 (gF b):=cD g9 (dV b) (fun i x hx=>lF b i x hx) 80 0 _ n8
theorem nG (v:List UInt64) (i:Nat) (h:List UInt64) (hh:h.length=8):(ng v h i).length=8:=by unfold ng; simpa using hh
theorem tZ (h:List UInt64) (b:List UInt8) (hh:h.length=8):(ka h b).length=8:=gz (fun w:List UInt64=>w.length=8) _ (fun i x hx=>nG _ i x hx) 8 0 _ hh
theorem pC (b:List UInt8):gF b=(List.range' 16 64).foldl (dV b) ((List.range' 0 16).foldl (dV b) (List.replicate 80 0)):=by
 unfold gF
 rw [←List.foldl_append]; rfl
theorem A1 {w:List UInt64} {i:Nat} (h:i<w.length):w.set i (w.getD i 0)=w:=by
 apply List.ext_getElem?
 intro k
 rw [List.getElem?_set]
 split
 ·rename_i e
  subst e
  rw [List.getD_eq_getElem?_getD,List.getElem?_eq_getElem h]; simp [h]
 ·rfl
theorem ry {w:List UInt64} {i:Nat} (h:i<w.length) (x:UInt64):aK (w.set i x) (i:Int)=some x:=by
 rw [rQ,List.getElem?_set,if_pos rfl,if_pos h]
theorem tV (i:Nat) (w:List UInt64) (h16:16≤i) (hi:i<80) (hw:w.length=80) {ρ:Type} (K:UInt64→UInt64→UInt64→UInt64→Option ρ) :
  (an (aK w (wI ((i:Int) - 15))) fun x23=>an (aK w (wI ((i:Int) - 2))) fun x24=>an (aK w (wI ((i:Int) - 16))) fun x25=>an (aK w (wI ((i:Int) - 7))) fun x26=>K x23 x24 x25 x26) =
   K (w.getD (i - 15) 0) (w.getD (i - 2) 0) (w.getD (i - 16) 0) (w.getD (i - 7) 0):=by
 have m:∀k:Nat,k≤16→aK w (wI ((i:Int) - (k:Int)))=some (w.getD (i - k) 0):=fun k hk=>by
  rw [wIs i k (by omega) (by omega),aU (by omega) 0]
 have m15:=m 15 (by omega); have m2:=m 2 (by omega); have m16:=m 16 (by omega); have m7:=m 7 (by omega)
 rw [show aK w (wI ((i:Int) - 15))=_ from m15,ak,show aK w (wI ((i:Int) - 2))=_ from m2,ak,show aK w (wI ((i:Int) - 16))=_ from m16,ak,show aK w (wI ((i:Int) - 7))=_ from m7,ak]
theorem uk (a:Int) (h:List UInt64) (l:List UInt32) (rest:List UInt8) (n:UInt64) (hh:h.length=8) (hr:rest.length=128) :
  F.E0 a l h rest n=some (a,l,ka h rest,rest,n):=by
 unfold F.E0
 -- the first sixteen words
 have e0:=fun (i:Nat) (w:List UInt64) (hi:i<16) (hw:g9 i w)=>dO (f:=F.Ex (i:Int) ((rest.drop (8*i)).take (8*i+8 - 8*i))) (fun x j=>((j:Int),w.set i x)) (fun _=>True) (qo rest i) 0 8
  (X:=fun x=>(some (.inl (((i+1:Nat):Int),w.set i x)):Option ((Int×List UInt64)⊕(Int×List UInt32×List UInt64×List UInt8×UInt64))))
  (fun j x _ hj _=>by
   have hl:((rest.drop (8*i)).take (8*i+8 - 8*i)).length=8:=by simp; omega
   have c1:decide ((j:Int)<(((rest.drop (8*i)).take (8*i+8 - 8*i)).length:Int))=true:=decide_eq_true (by omega)
   have g:aK ((rest.drop (8*i)).take (8*i+8 - 8*i)) (j:Int)=some (rest.getD (8*i+j) 0):=by
    rw [aU (by omega) 0,List.getD_eq_getElem?_getD,List.getElem?_take,if_pos (by omega),List.getElem?_drop,List.getD_eq_getElem?_getD]
   have hwl:=hw.1
   refine ⟨?_,trivial⟩
   simp only [F.Ex,c1,if_true]
   rw [g,ak,ry (by omega),ak,ak,aW,wI1 j (by omega),Int.toNat_natCast,List.set_set]
   rfl)
  (fun x _=>by
   have hl:((rest.drop (8*i)).take (8*i+8 - 8*i)).length=8:=by simp; omega
   have c1:decide (((8:Nat):Int)<(((rest.drop (8*i)).take (8*i+8 - 8*i)).length:Int))=false:=decide_eq_false (by omega)
   simp only [F.Ex,c1,Bool.false_eq_true,if_false,wI1 i (by omega)]
   rfl)
  8 0 0 (Nat.le_refl _) rfl trivial
 have e1:=cn (f:=F.EQ rest h a l n) (fun w i=>((i:Int),w)) g9 (dV rest) 0 16
  (X:=fun w=>loop (F.Dq h a l rest n) (16,w))
  (fun i w _ hi hw=>by
   have c1:decide ((i:Int)<16)=true:=decide_eq_true (by omega)
   have m8:wI (8*(i:Int))=((8*i:Nat):Int):=by rw [aQ (by omega) (by omega)]; omega
   have m9:wI (((8*i:Nat):Int)+8)=((8*i+8:Nat):Int):=by rw [aQ (by omega) (by omega)]; omega
   refine ⟨?_,lF rest i w hw⟩
   simp only [F.EQ,c1,if_true,m8,m9]
   rw [nB (by omega) (by omega),ak]
   have h0:=e0 i w hi hw
   have hz:w.set i 0=w:=by
    have:=A1 (w:=w) (i:=i) (by have:=hw.1; omega)
    rwa [hw.2 i (Nat.le_refl _)]at this
   rw [hz]at h0
   refine h0.trans ?_
   simp only [dV,hi,if_true,nK])
  (fun w hw=>rfl) 16 0 (List.replicate 80 0) (Nat.le_refl _) rfl n8
 have e2:=fun (w:List UInt64) (hw:w.length=80)=>dO (f:=F.Dq h a l rest n) (fun w i=>((i:Int),w)) (fun w=>w.length=80) (dV rest) 16 80
  (X:=fun w=>loop (F.D6 h w a l rest n) (h.getD 0 0,h.getD 1 0,h.getD 2 0,h.getD 3 0,h.getD 4 0,h.getD 5 0,h.getD 6 0,h.getD 7 0,0))
  (fun i w h16 hi hw=>by
   have c1:decide ((i:Int)<80)=true:=decide_eq_true (by omega)
   refine ⟨?_,(by unfold dV; split <;> simpa using hw)⟩
   simp only [F.Dq,c1,if_true,tV i w h16 hi hw]
   rw [show F.Bw (w.getD (i - 15) 0) (-1)=_ from gM _ 1 (by omega) (by omega),ak,show F.Bw (w.getD (i - 15) 0) (-8)=_ from gM _ 8 (by omega) (by omega),ak,
    show F.Bw (w.getD (i - 2) 0) (-19)=_ from gM _ 19 (by omega) (by omega),ak,show F.Bw (w.getD (i - 2) 0) (-61)=_ from gM _ 61 (by omega) (by omega),ak,
    jL (show i<w.length by omega),ak,aW,wI1 i (by omega),Int.toNat_natCast]
   simp only [dV,show ¬i<16 by omega,if_false,yl]
   rfl)
  (fun w hw=>by
   have g:∀k:Nat,k<8→aK h (k:Int)=some (h.getD k 0):=fun k hk=>aU (by omega) 0
   have g0:=g 0 (by omega); have g1:=g 1 (by omega); have g2:=g 2 (by omega); have g3:=g 3 (by omega); have g4:=g 4 (by omega); have g5:=g 5 (by omega); have g6:=g 6 (by omega); have g7:=g 7 (by omega)
   simp only [F.Dq,show decide (((80:Nat):Int)<80)=false from rfl,Bool.false_eq_true,if_false]
   rw [show aK h (0:Int)=_ from g0,ak,show aK h (1:Int)=_ from g1,ak,show aK h (2:Int)=_ from g2,ak,show aK h (3:Int)=_ from g3,ak,show aK h (4:Int)=_ from g4,ak,show aK h (5:Int)=_ from g5,ak,show aK h (6:Int)=_ from g6,ak,show aK h (7:Int)=_ from g7,ak])
  64 16 w (Nat.le_refl _) rfl hw
 have e3:=fun (ws:List UInt64) (hw:ws.length=80)=>dO (f:=F.D6 h ws a l rest n) (fun (v:V8 UInt64) i=>(v.1,v.2.1,v.2.2.1,v.2.2.2.1,v.2.2.2.2.1,v.2.2.2.2.2.1,v.2.2.2.2.2.2.1,v.2.2.2.2.2.2.2,(i:Int))) (fun _=>True) (ym ws) 0 80
  (X:=fun v=>loop (F.Ey a l rest n v.1 v.2.1 v.2.2.1 v.2.2.2.1 v.2.2.2.2.1 v.2.2.2.2.2.1 v.2.2.2.2.2.2.1 v.2.2.2.2.2.2.2) (0,h))
  (fun i v _ hi _=>by
   have c1:decide ((i:Int)<80)=true:=decide_eq_true (by omega)
   refine ⟨?_,trivial⟩
   simp only [F.D6,c1,if_true]
   rw [show F.Bw v.2.2.2.2.1 (-14)=_ from gM _ 14 (by omega) (by omega),ak,show F.Bw v.2.2.2.2.1 (-18)=_ from gM _ 18 (by omega) (by omega),ak,show F.Bw v.2.2.2.2.1 (-41)=_ from gM _ 41 (by omega) (by omega),ak,
    yF,aU (show i<F.Fv.length from hi) 0,ak,aU (show i<ws.length by omega) 0,ak,aW,
    show F.Bw v.1 (-28)=_ from gM _ 28 (by omega) (by omega),ak,show F.Bw v.1 (-34)=_ from gM _ 34 (by omega) (by omega),ak,show F.Bw v.1 (-39)=_ from gM _ 39 (by omega) (by omega),ak,aW,Bf,AN,wI1 i (by omega)]
   rfl)
  (fun v _=>rfl) 80 0 (ofL 0 h) (Nat.le_refl _) rfl trivial
 have e4:=fun (v:V8 UInt64)=>dO (f:=F.Ey a l rest n v.1 v.2.1 v.2.2.1 v.2.2.2.1 v.2.2.2.2.1 v.2.2.2.2.2.1 v.2.2.2.2.2.2.1 v.2.2.2.2.2.2.2) (fun h i=>((i:Int),h)) (fun h=>h.length=8) (ng (toL v)) 0 8
  (X:=fun h=>some (a,l,h,rest,n))
  (fun i h _ hi hh=>by
   have c1:decide ((i:Int)<8)=true:=decide_eq_true (by omega)
   refine ⟨?_,nG _ i h hh⟩
   simp only [F.Ey,c1,if_true]
   rw [aU (l:=[v.1,v.2.1,v.2.2.1,v.2.2.2.1,v.2.2.2.2.1,v.2.2.2.2.2.1,v.2.2.2.2.2.2.1,v.2.2.2.2.2.2.2]) (show i<8 from hi) 0,ak,aU (show i<h.length by omega) 0,ak,ak,aW,wI1 i (by omega),Int.toNat_natCast]
   rfl)
  (fun h hh=>rfl) 8 0 h (Nat.le_refl _) rfl hh
 refine e1.trans ?_
 refine (e2 _ (cD g9 (dV rest) (fun i x hx=>lF rest i x hx) 16 0 _ n8).1).trans ?_
 rw [←pC]
 refine (e3 _ ((u9 rest).1)).trans ?_
 exact e4 _
end Go.Gk.Sh
end
