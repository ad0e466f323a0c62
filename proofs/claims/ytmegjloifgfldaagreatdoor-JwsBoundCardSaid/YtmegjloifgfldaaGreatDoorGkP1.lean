import Derived.Test.YtmegjloifgfldaaGreatDoorGkP0
import Derived.Test.YtmegjloifgfldaaGreatDoorGkFb64
set_option linter.unusedVariables false
set_option linter.unusedSimpArgs false
set_option linter.unusedSectionVars false

section
namespace Go.Gk
def eF:Q1:=[65,66,67,68,69,70,71,72,73,74,75,76,77,78,79,80,81,82,83,84,85,86,87,88,89,90,97,98,99,100,101,102,103,104,105,106,107,108,109,110,111,112,113,114,115,116,117,118,119,120,121,122,48,49,50,51,52,53,54,55,56,57,45,95]
def Gh:Q1:=[65,66,67,68,69,70,71,72,73,74,75,76,77,78,79,80,81,82,83,84,85,86,87,88,89,90,97,98,99,100,101,102,103,104,105,106,107,108,109,110,111,112,113,114,115,116,117,118,119,120,121,122,48,49,50,51,52,53,54,55,56,57,43,47]
def sg6 (sg:Q1) (n:Nat):UInt8:=sg.getD n 0
def tri (a b c:UInt8):Nat:=a.toNat*65536+b.toNat*256+c.toNat
def cO (sg:Q1):Q1->Q1
 | a :: b :: c :: r=>sg6 sg (tri a b c / 262144) :: sg6 sg (tri a b c / 4096%64) :: sg6 sg (tri a b c / 64%64) :: sg6 sg (tri a b c%64) :: cO sg r
 | [a,b]=>[sg6 sg (a.toNat / 4),sg6 sg (a.toNat%4*16+b.toNat / 16),sg6 sg (b.toNat%16*4)]
 | [a]=>[sg6 sg (a.toNat / 4),sg6 sg (a.toNat%4*16)]
 | []=>[]
theorem gp (sg:Q1):∀l,(cO sg l).length=(8*l.length+5) / 6
 | a :: b :: c :: r=>by have:=gp sg r; simp only[cO,List.length_cons,this]; omega
 | [a,b]=>by simp[cO]
 | [a]=>by simp[cO]
 | []=>by simp[cO]
theorem gI {sg:Q1} (hsg:sg.length=64) {n:Nat} (hn:n<64):aC sg (n:Int)=some (sg6 sg n):=by
 rw[jn,sg6,List.getD_eq_getElem?_getD]
 rw[List.getElem?_eq_getElem (by omega)]; rfl
theorem Cw (a b c:UInt8):(((aH a.toUInt64 16) ||| (aH b.toUInt64 8)) ||| c.toUInt64).toNat=tri a b c:=by
 have ha:=a.toNat_lt; have hb:=b.toNat_lt; have hc:=c.toNat_lt
 simp only[UInt64.toNat_or,dZ,UInt8.toNat_toUInt64]
 have f:a.toNat*2^(min 16 64)%18446744073709551616=a.toNat*65536:=by simp; omega
 have g:b.toNat*2^(min 8 64)%18446744073709551616=b.toNat*256:=by simp; omega
 rw[f,g,gC (x:=a.toNat*65536) (y:=b.toNat*256) 16 (by omega) (by omega),gC 8 (by omega) (by omega)]
 rfl
theorem vF (a b c:UInt8):tri a b c<16777216:=by
 have ha:=a.toNat_lt; have hb:=b.toNat_lt; have hc:=c.toNat_lt
 unfold tri; omega
theorem ES (x:UInt64):(x &&& 63).toNat=x.toNat%64:=by
 rw[UInt64.toNat_and]; exact kF x.toNat 6
theorem qp {sg:Q1} (hsg:sg.length=64):∀(l f:Q1),3*f.length+4*l.length+24<=675000000000000->loop (F.Hx sg) (l,f)=some (f++cO sg l)
 | a :: b :: c :: r,f,hb=>by
  have A:=vF a b c
  have hl:decide ((3:Int)<=(((a :: b :: c :: r).length:Nat):Int))=true:=by simp; omega
  have step:F.Hx sg (a :: b :: c :: r,f)=some (.inl (r,f++[sg6 sg (tri a b c / 262144),sg6 sg (tri a b c / 4096%64),sg6 sg (tri a b c / 64%64),sg6 sg (tri a b c%64)])):=by
   unfold F.Hx
   simp only[hl,if_true,iP,jR,oA,ae,ES,dL,Cw]
   have g:tri a b c / 2^(min 18 64)=tri a b c / 262144:=rfl
   have h:tri a b c / 2^(min 12 64)=tri a b c / 4096:=rfl
   have i:tri a b c / 2^(min 6 64)=tri a b c / 64:=rfl
   rw[g,h,i,gI hsg (by omega),ae,gI hsg (by omega),ae,gI hsg (by omega),ae,gI hsg (by omega),ae]
   rw[jr (by simp at hb ⊢; omega),ae]
   have:drO (a :: b :: c :: r) (3:Int)=some r:=by
    have:=ib (l:=a :: b :: c :: r) (k:=3) (by simp)
    simpa using this
   rw[this,ae]; rfl
  rw[bB step,qp hsg r _ (by simp at hb ⊢; omega)]
  simp[cO]
 | [a,b],f,hb=>by
  have ha:=a.toNat_lt; have z:=b.toNat_lt
  refine cL ?_
  unfold F.Hx
  simp only[iP,jR,ae,UInt8.toNat_or,rD,qH,UInt8.toNat_and]
  rw[if_neg (by simp),if_pos (by simp)]
  have j:a.toNat &&& (3:UInt8).toNat=a.toNat%4:=kF a.toNat 2
  have o:b.toNat &&& (15:UInt8).toNat=b.toNat%16:=kF b.toNat 4
  have g:a.toNat / 2^(min 2 8)=a.toNat / 4:=rfl
  have h:a.toNat%4*2^(min 4 8)%256=a.toNat%4*16:=by simp; omega
  have i:b.toNat / 2^(min 4 8)=b.toNat / 16:=rfl
  have t:b.toNat%16*2^(min 2 8)%256=b.toNat%16*4:=by simp; omega
  rw[j,o,g,h,i,t,gC 4 (by omega) (by omega)]
  rw[gI hsg (by omega),ae,gI hsg (by omega),ae,gI hsg (by omega),ae,jr (by simp at hb ⊢; omega),ae]
  rfl
 | [a],f,hb=>by
  have ha:=a.toNat_lt
  refine cL ?_
  unfold F.Hx
  simp only[iP,ae,rD,qH,UInt8.toNat_and]
  rw[if_neg (by simp),if_neg (by simp),if_pos (by simp)]
  have j:a.toNat &&& (3:UInt8).toNat=a.toNat%4:=kF a.toNat 2
  have g:a.toNat / 2^(min 2 8)=a.toNat / 4:=rfl
  have h:a.toNat%4*2^(min 4 8)%256=a.toNat%4*16:=by simp; omega
  rw[j,g,h]
  rw[gI hsg (by omega),ae,gI hsg (by omega),ae,jr (by simp at hb ⊢; omega),ae]
  rfl
 | [],f,_=>by
  refine cL ?_
  unfold F.Hx
  simp[F.JG,bA,cO]
theorem ur {sg:Q1} (hsg:sg.length=64) (l:Q1) (h:l.length<=140737488355328):F.KM l sg=some (cO sg l):=by
 unfold F.KM
 have f:wI ((l.length:Int)+2)=((l.length+2:Nat):Int):=by rw[aJ] <;> omega
 have g:wI (Int.tdiv ((l.length+2:Nat):Int) 3)=(((l.length+2) / 3:Nat):Int):=by
  rw[show Int.tdiv ((l.length+2:Nat):Int) 3=(((l.length+2) / 3:Nat):Int) from rfl,q5 _ (by omega)]
 have i:wI ((((l.length+2) / 3:Nat):Int)*4)=(((l.length+2) / 3*4:Nat):Int):=by rw[aJ] <;> omega
 rw[f,g,i,dy (by omega),ae]
 simpa using qp hsg l [] (by simp; omega)
theorem B7:eF.length=64:=rfl
theorem j9 (l:Q1) (h:l.length<=140737488355328):F.I2 l=some (cO eF l):=by
 unfold F.I2
 change ah (F.KM l eF) _=_
 rw[ur B7 l h]; rfl
end Go.Gk
end

section
namespace Go.Gk
theorem v9 (a b:Nat) (ha:a<9223372036854775808) (hb:b<9223372036854775808):j7 (a:Int) (b:Int)=((a &&& b:Nat):Int):=by
 unfold j7
 rw[BitVec.ofInt_natCast,BitVec.ofInt_natCast,BitVec.toNat_and,BitVec.toNat_ofNat,BitVec.toNat_ofNat,Nat.mod_eq_of_lt (by omega),Nat.mod_eq_of_lt (by omega)]
 exact q5 _ (Nat.lt_of_le_of_lt Nat.and_le_left ha)
theorem wA (m:Nat) (h:m<18446744073709551616):(UInt64.ofInt (m:Int)).toNat=m:=by
 simp[UInt64.ofInt,UInt64.toNat_ofNat']
 omega
end Go.Gk
end

section
namespace Go.Gk
def num (sg:Q1) (c:UInt8):Nat:=sg.findIdx (· == c)
theorem FB {sg:Q1} {c:UInt8} (h:c∈sg):num sg c<sg.length:=by
 unfold num; exact List.findIdx_lt_length_of_exists ⟨c,h,by simp⟩
theorem qy {sg:Q1} {c:UInt8} (h:c∈sg):eG sg c=(num sg c:Int):=by
 unfold eG num
 rw[List.findIdx?_eq_some_of_exists ⟨c,h,by simp⟩]
theorem yG {sg:Q1} {c:UInt8} (h:c ∉ sg):eG sg c=-1:=by
 unfold eG
 rw[List.findIdx?_eq_none_iff.2 (fun x hx=>by simp; rintro rfl; exact h hx)]
theorem qk (sg:Q1) (c:UInt8):decide (eG sg c<0)=decide (c ∉ sg):=by
 by_cases h:c∈sg
 ·rw[qy h]; simp[h]
 ·rw[yG h]; simp[h]
structure SgOk (sg:Q1):Prop where
 len:sg.length=64
 inv:∀n,n<64->num sg (sg6 sg n)=n
theorem xg:SgOk eF:=⟨rfl,by decide⟩
theorem gR {sg:Q1} (h:SgOk sg) {n:Nat} (hn:n<64):sg6 sg n∈sg:=by
 unfold sg6
 rw[List.getD_eq_getElem?_getD,List.getElem?_eq_getElem (by rw[h.len]; exact hn)]
 simp
theorem fL {sg:Q1} (h:SgOk sg) {c:UInt8} (hc:c∈sg):num sg c<64:=by have:=FB hc; rw[h.len]at this; exact this
theorem mR (sg:Q1) (c:UInt8):F.JF sg c=some (eG sg c):=rfl
def mL (sg:Q1) (a b c d:UInt8):Nat:=num sg a*262144+num sg b*4096+num sg c*64+num sg d
def rY (sg:Q1) (a b c:UInt8):Nat:=num sg a*262144+num sg b*4096+num sg c*64
def rJ (sg:Q1) (a b:UInt8):Nat:=num sg a*262144+num sg b*4096
def gg (sg:Q1):Q1->Q1
 | a :: b :: c :: d :: r=>UInt8.ofNat (mL sg a b c d / 65536) :: UInt8.ofNat (mL sg a b c d / 256) :: UInt8.ofNat (mL sg a b c d) :: gg sg r
 | [a,b,c]=>[UInt8.ofNat (rY sg a b c / 65536),UInt8.ofNat (rY sg a b c / 256)]
 | [a,b]=>[UInt8.ofNat (rJ sg a b / 65536)]
 | _=>[]
def fM (sg:Q1):Q1->Bool
 | _ :: _ :: _ :: _ :: r=>fM sg r
 | [a,b,c]=>rY sg a b c%256 == 0
 | [a,b]=>rJ sg a b%65536 == 0
 | _=>true
theorem dQ {sg:Q1} (hs:SgOk sg) {c:UInt8} (h:c∈sg):F.Hb c sg=some (UInt64.ofNat (num sg c)):=by
 unfold F.Hb
 rw[mR,ae,qy h]
 have f:=fL hs h
 congr 1
 apply UInt64.toNat_inj.1
 rw[wA _ (by omega),UInt64.toNat_ofNat']; omega
theorem mC (n:Nat) (h:n<64):(UInt64.ofNat n).toNat=n:=by rw[UInt64.toNat_ofNat']; omega
theorem or3 {a b c:Nat} (_ha:a<64) (hb:b<64) (hc:c<64):a*262144 ||| b*4096 ||| c*64=a*262144+b*4096+c*64:=by
 rw[gC (x:=a*262144) (y:=b*4096) 18 (by omega) (by omega),gC 12 (by omega) (by omega)]
theorem FI {sg:Q1} (hs:SgOk sg) {a b c d:UInt8} (ha:a∈sg) (hb:b∈sg) (hc:c∈sg) (i:d∈sg) :
  ((((aH (UInt64.ofNat (num sg a)) 18) ||| (aH (UInt64.ofNat (num sg b)) 12)) ||| (aH (UInt64.ofNat (num sg c)) 6)) ||| (UInt64.ofNat (num sg d))).toNat=mL sg a b c d:=by
 have f:=fL hs ha; have g:=fL hs hb; have h:=fL hs hc; have j:=fL hs i
 simp only[UInt64.toNat_or,dZ,mC _ f,mC _ g,mC _ h,mC _ j]
 have k:num sg a*2^(min 18 64)%18446744073709551616=num sg a*262144:=by simp; omega
 have o:num sg b*2^(min 12 64)%18446744073709551616=num sg b*4096:=by simp; omega
 have t:num sg c*2^(min 6 64)%18446744073709551616=num sg c*64:=by simp; omega
 rw[k,o,t,or3 f g h,gC 6 (by omega) (by omega)]
 rfl
theorem FJ {sg:Q1} (hs:SgOk sg) {a b c:UInt8} (ha:a∈sg) (hb:b∈sg) (hc:c∈sg) :
  ((aH (UInt64.ofNat (num sg c)) 6) ||| ((aH (UInt64.ofNat (num sg a)) 18) ||| (aH (UInt64.ofNat (num sg b)) 12))).toNat=rY sg a b c:=by
 have f:=fL hs ha; have g:=fL hs hb; have h:=fL hs hc
 simp only[UInt64.toNat_or,dZ,mC _ f,mC _ g,mC _ h]
 have i:num sg a*2^(min 18 64)%18446744073709551616=num sg a*262144:=by simp; omega
 have j:num sg b*2^(min 12 64)%18446744073709551616=num sg b*4096:=by simp; omega
 have k:num sg c*2^(min 6 64)%18446744073709551616=num sg c*64:=by simp; omega
 rw[i,j,k,Nat.or_comm,or3 f g h]
 rfl
theorem E6 {sg:Q1} (hs:SgOk sg) {a b:UInt8} (ha:a∈sg) (hb:b∈sg) :
  ((0:UInt64) ||| ((aH (UInt64.ofNat (num sg a)) 18) ||| (aH (UInt64.ofNat (num sg b)) 12))).toNat=rJ sg a b:=by
 have f:=fL hs ha; have g:=fL hs hb
 simp only[UInt64.toNat_or,dZ,mC _ f,mC _ g]
 have h:num sg a*2^(min 18 64)%18446744073709551616=num sg a*262144:=by simp; omega
 have i:num sg b*2^(min 12 64)%18446744073709551616=num sg b*4096:=by simp; omega
 rw[h,i,gC (x:=num sg a*262144) 18 (by omega) (by omega)]
 simp[rJ]
theorem Dj {N:UInt64} {n:Nat} (h:N.toNat=n):N.toUInt8=UInt8.ofNat n:=by
 apply UInt8.toNat_inj.1
 simp[UInt8.toNat_ofNat',h]
theorem nU {N:UInt64} {n k:Nat} (h:N.toNat=n) (f:k<=64):(aP N k).toUInt8=UInt8.ofNat (n / 2^k):=by
 refine Dj ?_
 rw[dL,h,Nat.min_eq_left f]
theorem s9 {N:UInt64} {n:Nat} (h:N.toNat=n) (k:UInt64) (j:Nat) (f:k.toNat=2^j - 1):((N &&& k) == 0)=(n%2^j == 0):=by
 have:(N &&& k).toNat=n%2^j:=by rw[UInt64.toNat_and,h,f]; exact kF n j
 rw[<-this]
 by_cases h0:N &&& k=0
 ·rw[h0]; rfl
 ·have g:(N &&& k).toNat≠0:=fun e=>h0 (UInt64.toNat_inj.1 e)
  rw[beq_eq_false_iff_ne.2 h0,beq_eq_false_iff_ne.2 g]
theorem sQ {sg:Q1} (hs:SgOk sg):∀(l f:Q1),(∀c∈l,c∈sg)->f.length+l.length<=225000000000000 ->
  loop (F.Hi sg) (l,f)=some (f++gg sg l,fM sg l)
 | a :: b :: c :: d :: r,f,hg,hb=>by
  have ha:=hg a (by simp); have g:=hg b (by simp); have hc:=hg c (by simp); have i:=hg d (by simp)
  have h:=FI hs ha g hc i
  have step:F.Hi sg (a :: b :: c :: d :: r,f)=some (.inl (r,f++[UInt8.ofNat (mL sg a b c d / 65536),UInt8.ofNat (mL sg a b c d / 256),UInt8.ofNat (mL sg a b c d)])):=by
   unfold F.Hi
   dsimp only
   rw[if_pos (by simp; omega)]
   rw[iP,ae,dQ hs ha,ae,jR,ae,dQ hs g,ae,oA,ae,dQ hs hc,ae,A1,ae,dQ hs i,ae]
   rw[jr (by simp at hb ⊢; omega),ae,Dj h,nU h (k:=16) (by omega),nU h (k:=8) (by omega)]
   have:drO (a :: b :: c :: d :: r) (4:Int)=some r:=by
    have:=ib (l:=a :: b :: c :: d :: r) (k:=4) (by simp)
    simpa using this
   rw[this,ae]; rfl
  rw[bB step,sQ hs r _ (fun x hx=>hg x (by simp[hx])) (by simp at hb ⊢; omega)]
  simp[gg,fM]
 | [a,b,c],f,hg,hb=>by
  have ha:=hg a (by simp); have g:=hg b (by simp); have hc:=hg c (by simp)
  have h:=FJ hs ha g hc
  refine cL ?_
  unfold F.Hi
  dsimp only
  rw[if_neg (by simp),if_pos (by simp),oA,ae,dQ hs hc,ae]
  unfold F.JC
  dsimp only
  rw[iP,ae,dQ hs ha,ae,jR,ae,dQ hs g,ae,jr (by simp at hb ⊢; omega),ae,if_pos (by simp),jr (by simp at hb ⊢; omega),ae,nU h (k:=16) (by omega),nU h (k:=8) (by omega),s9 h 255 8 rfl]
  simp[gg,fM,bA]
 | [a,b],f,hg,hb=>by
  have ha:=hg a (by simp); have g:=hg b (by simp)
  have h:=E6 hs ha g
  refine cL ?_
  unfold F.Hi
  dsimp only
  rw[if_neg (by simp),if_neg (by simp),if_pos (by simp)]
  unfold F.JC
  dsimp only
  rw[iP,ae,dQ hs ha,ae,jR,ae,dQ hs g,ae,jr (by simp at hb ⊢; omega),ae,if_neg (by simp),nU h (k:=16) (by omega),s9 h 65535 16 rfl]
  simp[gg,fM,bA]
 | [a],f,_,hb=>by
  refine cL ?_
  unfold F.Hi
  dsimp only
  rw[if_neg (by simp),if_neg (by simp),if_neg (by simp)]
  simp[gg,fM,bA]
 | [],f,_,hb=>by
  refine cL ?_
  unfold F.Hi
  dsimp only
  rw[if_neg (by simp),if_neg (by simp),if_neg (by simp)]
  simp[gg,fM,bA]
theorem wX {sg:Q1} (hs:SgOk sg) (l:Q1) (hg:∀c∈l,c∈sg) (h:l.length<=225000000000000):F.Kf l sg=some (gg sg l,fM sg l):=by
 unfold F.Kf
 have f:wI (Int.tdiv (l.length:Int) 4)=((l.length / 4:Nat):Int):=by
  rw[show Int.tdiv (l.length:Int) 4=((l.length / 4:Nat):Int) from rfl,q5 _ (by omega)]
 have g:wI (((l.length / 4:Nat):Int)*3)=((l.length / 4*3:Nat):Int):=by rw[aJ] <;> omega
 have i:wI (((l.length / 4*3:Nat):Int)+2)=((l.length / 4*3+2:Nat):Int):=by rw[aJ] <;> omega
 rw[f,g,i,dy (by omega),ae]
 simpa using sQ hs l [] hg (by simpa using h)
end Go.Gk
end

section
namespace Go.Gk
theorem pY (a n:Nat) (hn:n<=64):eD (a:Int) n=((a / 2^n:Nat):Int):=by
 unfold eD
 rw[Nat.min_eq_left hn]
 have:((2:Int)^n)=((2^n:Nat):Int):=by simp
 rw[this]
 rw[Int.fdiv_eq_ediv_of_nonneg _ (Int.natCast_nonneg _)]; rfl
section
variable {sg:Q1} {std:Bool} (hs:SgOk sg) (hsg:(if std then Gh else eF)=sg) (l:Q1) (hg:∀c∈l,c∈sg) (hl:l.length<=225000000000000)
include hs hsg hg hl
end
end Go.Gk
end

section
namespace Go.Gk
theorem CZ {σ ρ:Type} {f:σ->Option (σ⊕ρ)} {n:Nat} {r:ρ} (st:Nat->σ) (g:∀i,i<n->f (st i)=some (.inl (st (i+1)))) (j:f (st n)=some (.inr r)) :
  ∀i,i<=n->loop f (st i)=some r:=by
 intro i hi
 induction h:n - i generalizing i with
 | zero=>
  have:i=n:=by omega
  subst this
  exact cL j
 | succ k ih=>
  rw[bB (g i (by omega))]
  exact ih (i+1) (by omega) (by omega)
def kk (sg l:Q1):Option Nat:=l.findIdx? (fun c=>decide (c ∉ sg))
theorem yL {sg l:Q1} {i:Nat} (h:kk sg l=some i):∃hi:i<l.length,l[i] ∉ sg/\∀j (f:j<i),l[j]'(by omega)∈sg:=by
 unfold kk at h
 rw[List.findIdx?_eq_some_iff_getElem]at h
 obtain⟨hi,g,k⟩:=h
 refine⟨hi,by simpa using g,fun j f=>by have:=k j f; simpa using this⟩
theorem yg {sg l:Q1} (h:kk sg l=none):∀c∈l,c∈sg:=by
 unfold kk at h
 rw[List.findIdx?_eq_none_iff]at h
 intro c hc
 simpa using h c hc
theorem yQ {sg l:Q1} (h:∀c∈l,c∈sg):kk sg l=none:=by
 unfold kk
 rw[List.findIdx?_eq_none_iff]
 intro c hc
 simpa using h c hc
theorem AR {σ ρ:Type} {f:σ->Option (σ⊕ρ)} {sg l:Q1} {n:Nat} (hn:n<=l.length) (st:Nat->σ) (k:Nat->ρ) (o:ρ)
  (g:∀i (hi:i<n),l[i]'(by omega)∈sg->f (st i)=some (.inl (st (i+1))))
  (t:∀i (hi:i<n),l[i]'(by omega) ∉ sg->f (st i)=some (.inr (k i)))
  (z:(∀c∈l.take n,c∈sg)->loop f (st n)=some o) :
  loop f (st 0)=some (match kk sg (l.take n) with | some i=>k i | none=>o):=by
 cases h:kk sg (l.take n) with
 | some i=>
  obtain⟨hi,A,B⟩:=yL h
  simp at hi
  refine CZ (n:=i) st (fun j F=>g j (by omega) ?_) (t i (by omega) ?_) 0 (by omega)
  ·have:=B j F; simpa using this
  ·simpa using A
 | none=>
  have hg:=yg h
  have:∀i,i<=n->loop f (st (n - i))=some o:=by
   intro i
   induction i with
   | zero=>intro _; exact z hg
   | succ i ih=>
    intro hi
    rw[bB (g (n - (i+1)) (by omega) ?_)]
    ·rw[show n - (i+1)+1=n - i by omega]; exact ih (by omega)
    ·apply hg
     rw[List.mem_take_iff_getElem]
     exact⟨n - (i+1),by omega,rfl⟩
  have:=this n (Nat.le_refl _)
  rwa [Nat.sub_self]at this
def yX (l:Q1):Q1×Int×Int:=
 match kk eF l with
 | some i=>([],20,(i:Int))
 | none=>if l.length%4=1 then ([],21,(l.length:Int)) else if fM eF l=true then (gg eF l,0,0) else ([],22,(l.length:Int) - 1)
theorem BX (i:Nat) (h:i<225000000000001):wI ((i:Int)+1)=((i+1:Nat):Int):=by rw[aJ] <;> omega
theorem lS (sg:Q1) (c:UInt8):F.JF sg c=some (eG sg c):=rfl
theorem F5 (n:Nat):Int.tmod (n:Int) 4=((n%4:Nat):Int):=rfl
theorem jU (l:Q1) (hl:l.length<=225000000000000):F.Hj l=some (yX l):=by
 unfold F.Hj yX
 have:=AR (f:=F.IX l) (sg:=eF) (l:=l) (n:=l.length) (Nat.le_refl _) (fun i=>(i:Int)) (fun i=>([],20,(i:Int)))
  (if l.length%4=1 then ([],21,(l.length:Int)) else if fM eF l=true then (gg eF l,0,0) else ([],22,(l.length:Int) - 1))
  (fun i hi hm=>by
   unfold F.IX
   dsimp only
   rw[if_pos (by simp; omega),fS hi,ae,lS,ae,show ∀c,decide (eG [65,66,67,68,69,70,71,72,73,74,75,76,77,78,79,80,81,82,83,84,85,86,87,88,89,90,97,98,99,100,101,102,103,104,105,106,107,108,109,110,111,112,113,114,115,116,117,118,119,120,121,122,48,49,50,51,52,53,54,55,56,57,45,95] c<0)=decide (c ∉ eF) from fun c=>qk eF c,if_neg (by simpa using hm),BX i (by omega)]
   rfl)
  (fun i hi hm=>by
   unfold F.IX
   dsimp only
   rw[if_pos (by simp; omega),fS hi,ae,lS,ae,show ∀c,decide (eG [65,66,67,68,69,70,71,72,73,74,75,76,77,78,79,80,81,82,83,84,85,86,87,88,89,90,97,98,99,100,101,102,103,104,105,106,107,108,109,110,111,112,113,114,115,116,117,118,119,120,121,122,48,49,50,51,52,53,54,55,56,57,45,95] c<0)=decide (c ∉ eF) from fun c=>qk eF c,if_pos (by simpa using hm)]
   rfl)
  (fun hg=>by
   refine cL ?_
   rw[List.take_length]at hg
   unfold F.IX
   dsimp only
   rw[if_neg (by simp),F5]
   by_cases h1:l.length%4=1
   ·rw[if_pos (by simp[h1]),if_pos h1]; rfl
   ·rw[if_neg (by simp; omega),if_neg h1]
    change bA (ah (F.Kf l eF) _)=_
    rw[wX xg l hg hl,ae]
    by_cases h2:fM eF l=true
    ·rw[if_neg (by simp[h2]),if_pos h2]; rfl
    ·have g:l.length≠0:=by intro e; have:l=[]:=List.eq_nil_of_length_eq_zero e; subst this; exact h2 rfl
     have e:wI ((l.length:Int) - 1)=(l.length:Int) - 1:=by rw[aJ] <;> omega
     rw[if_pos (by simpa using h2),if_neg h2,e]; rfl)
 rw[List.take_length]at this
 exact this
theorem iF {l:Q1} {q:Nat} (h:q<l.length):l.getD q 0=l[q]:=by
 rw[List.getD_eq_getElem?_getD,List.getElem?_eq_getElem h]; rfl
end Go.Gk
end

section
namespace Go.Gk
theorem Bi {sg:Q1} (hs:SgOk sg) (a b c:UInt8):mL sg (sg6 sg (tri a b c / 262144)) (sg6 sg (tri a b c / 4096%64)) (sg6 sg (tri a b c / 64%64)) (sg6 sg (tri a b c%64))=tri a b c:=by
 have:=vF a b c
 unfold mL
 rw[hs.inv _ (by omega),hs.inv _ (by omega),hs.inv _ (by omega),hs.inv _ (by omega)]
 omega
theorem oJ (a:UInt8) (n:Nat) (h:n%256=a.toNat):UInt8.ofNat n=a:=by
 apply UInt8.toNat_inj.1
 rw[UInt8.toNat_ofNat']; exact h
theorem qW {sg:Q1} (hs:SgOk sg):∀l,gg sg (cO sg l)=l/\fM sg (cO sg l)=true/\∀c∈cO sg l,c∈sg
 | a :: b :: c :: r=>by
  obtain⟨i,j,k⟩:=qW hs r
  have ha:=a.toNat_lt; have hb:=b.toNat_lt; have hc:=c.toNat_lt
  have o:=vF a b c
  refine⟨?_,?_,?_⟩
  ·simp only[cO,gg,Bi hs,i]
   rw[oJ a _ (by unfold tri; omega),oJ b _ (by unfold tri; omega),oJ c _ (by unfold tri; omega)]
  ·simp only[cO,fM,j]
  ·intro x hx
   simp only[cO,List.mem_cons]at hx
   rcases hx with rfl | rfl | rfl | rfl | hx
   ·exact gR hs (by omega)
   ·exact gR hs (by omega)
   ·exact gR hs (by omega)
   ·exact gR hs (by omega)
   ·exact k x hx
 | [a,b]=>by
  have ha:=a.toNat_lt; have hb:=b.toNat_lt
  have f:=hs.inv (a.toNat / 4) (by omega); have g:=hs.inv (a.toNat%4*16+b.toNat / 16) (by omega); have h:=hs.inv (b.toNat%16*4) (by omega)
  refine⟨?_,?_,?_⟩
  ·simp only[cO,gg,rY,f,g,h]
   rw[oJ a _ (by omega),oJ b _ (by omega)]
  ·simp only[cO,fM,rY,f,g,h,beq_iff_eq]; omega
  ·intro x hx
   simp only[cO,List.mem_cons,List.not_mem_nil,or_false]at hx
   rcases hx with rfl | rfl | rfl
   ·exact gR hs (by omega)
   ·exact gR hs (by omega)
   ·exact gR hs (by omega)
 | [a]=>by
  have ha:=a.toNat_lt
  have f:=hs.inv (a.toNat / 4) (by omega); have g:=hs.inv (a.toNat%4*16) (by omega)
  refine⟨?_,?_,?_⟩
  ·simp only[cO,gg,rJ,f,g]
   rw[oJ a _ (by omega)]
  ·simp only[cO,fM,rJ,f,g,beq_iff_eq]; omega
  ·intro x hx
   simp only[cO,List.mem_cons,List.not_mem_nil,or_false]at hx
   rcases hx with rfl | rfl
   ·exact gR hs (by omega)
   ·exact gR hs (by omega)
 | []=>by simp[cO,gg,fM]
theorem mO (l:Q1):yX (cO eF l)=(l,0,0):=by
 obtain⟨f,g,h⟩:=qW xg l
 have hl:=gp eF l
 unfold yX
 rw[yQ h]
 dsimp only
 rw[if_neg (by omega),if_pos g,f]
end Go.Gk
end

section
namespace Go.Gk
section
variable (l:Q1) (hl:l.length<=140737488355328) (q x:Nat)
include hl
end
end Go.Gk
end

section
namespace Go.Gk
theorem Fh {p t:Q1} (f:(46:UInt8) ∉ p):eG (p++46 :: t) 46=(p.length:Int):=by
 unfold eG
 have:(p++46 :: t).findIdx? (fun x=>x == 46)=some p.length:=by
  rw[List.findIdx?_append,List.findIdx?_eq_none_iff.2 (fun x hx=>by simp; rintro rfl; exact f hx)]
  simp[List.findIdx?_cons]
 rw[this]
theorem CQ (l:Q1):F.LV l=some (eG l 46):=by
 unfold F.LV
 by_cases h:[46]=l
 ·subst h; rfl
 ·rw[if_neg (by simpa using h)]; rfl
theorem Bb {p t:Q1} (f:(46:UInt8) ∉ p) (hl:p.length<225000000000000):F.JP (p++46 :: t)=some (p,t,true):=by
 unfold F.JP F.L4
 rw[CQ,ae,Fh f,if_pos (by simp)]
 have e:wI ((p.length:Int)+1)=((p.length+1:Nat):Int):=by rw[aJ] <;> omega
 rw[vc (by simp),ae,e,ib (by simp),ae]
 simp
section
variable (l:Q1) (hl:l.length<=65536)
include hl
end
def uZ (a b c:Q1):Q1×Int:=
 if 65536<2+(4*a.length+2) / 3+(4*b.length+2) / 3+(4*c.length+2) / 3 then ([],10)
 else (cO eF a++[46]++cO eF b++[46]++cO eF c,0)
theorem zG (n:Nat):(8*n+5) / 6=(4*n+2) / 3:=by omega
theorem ny (n:Nat) (hn:n<=140737488355328):wI (Int.tdiv (wI ((wI ((n:Int)*4))+2)) 3)=(((4*n+2) / 3:Nat):Int):=by
 have f:wI ((n:Int)*4)=((4*n:Nat):Int):=by rw[aJ] <;> omega
 have g:wI (((4*n:Nat):Int)+2)=((4*n+2:Nat):Int):=by rw[aJ] <;> omega
 rw[f,g,show Int.tdiv ((4*n+2:Nat):Int) 3=(((4*n+2) / 3:Nat):Int) from rfl,q5 _ (by omega)]
section
variable (a b c:Q1) (ha:a.length<=140737488355328) (hb:b.length<=140737488355328) (hc:c.length<=140737488355328)
include ha hb hc
theorem sk:F.JA a b c=some (uZ a b c):=by
 unfold F.JA uZ
 have f:wI (2+(((4*a.length+2) / 3:Nat):Int))=((2+(4*a.length+2) / 3:Nat):Int):=by rw[aJ] <;> omega
 have g:wI (((2+(4*a.length+2) / 3:Nat):Int)+(((4*b.length+2) / 3:Nat):Int))=((2+(4*a.length+2) / 3+(4*b.length+2) / 3:Nat):Int):=by rw[aJ] <;> omega
 have i:wI (((2+(4*a.length+2) / 3+(4*b.length+2) / 3:Nat):Int)+(((4*c.length+2) / 3:Nat):Int))=((2+(4*a.length+2) / 3+(4*b.length+2) / 3+(4*c.length+2) / 3:Nat):Int):=by rw[aJ] <;> omega
 rw[ny _ ha,ny _ hb,ny _ hc]
 simp only[aV]
 rw[f,g,i]
 by_cases h:65536<2+(4*a.length+2) / 3+(4*b.length+2) / 3+(4*c.length+2) / 3
 ·rw[if_pos (by rw[decide_eq_true_eq]; omega),if_pos h]
 ·rw[if_neg (by rw[decide_eq_true_eq]; omega),if_neg h]
  have j:=gp eF a; have k:=gp eF b; have o:=gp eF c
  rw[zG]at j k o
  rw[j9 _ ha,ae,oU (by simp; omega),ae,j9 _ hb,ae,oU (by simp; omega),ae,oU (by simp; omega),ae,j9 _ hc,ae,oU (by simp; omega),ae]
end
end Go.Gk
end
