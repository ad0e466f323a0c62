import Derived.Test.YtmegjloifgfldaaGreatDoorGkP0
import Derived.Test.YtmegjloifgfldaaGreatDoorGkFb64
set_option linter.unusedVariables false
set_option linter.unusedSimpArgs false
set_option linter.unusedSectionVars false

section
namespace Go.Gk
def eD:Q1:=[65,66,67,68,69,70,71,72,73,74,75,76,77,78,79,80,81,82,83,84,85,86,87,88,89,90,97,98,99,100,101,102,103,104,105,106,107,108,109,110,111,112,113,114,115,116,117,118,119,120,121,122,48,49,50,51,52,53,54,55,56,57,45,95]
def Ga:Q1:=[65,66,67,68,69,70,71,72,73,74,75,76,77,78,79,80,81,82,83,84,85,86,87,88,89,90,97,98,99,100,101,102,103,104,105,106,107,108,109,110,111,112,113,114,115,116,117,118,119,120,121,122,48,49,50,51,52,53,54,55,56,57,43,47]
def sg6 (sg:Q1) (n:Nat):UInt8:=sg.getD n 0
def tri (a b c:UInt8):Nat:=a.toNat*65536+b.toNat*256+c.toNat
def cM (sg:Q1):Q1->Q1
 | a :: b :: c :: r=>sg6 sg (tri a b c / 262144) :: sg6 sg (tri a b c / 4096%64) :: sg6 sg (tri a b c / 64%64) :: sg6 sg (tri a b c%64) :: cM sg r
 | [a,b]=>[sg6 sg (a.toNat / 4),sg6 sg (a.toNat%4*16+b.toNat / 16),sg6 sg (b.toNat%16*4)]
 | [a]=>[sg6 sg (a.toNat / 4),sg6 sg (a.toNat%4*16)]
 | []=>[]
theorem gl (sg:Q1):∀l,(cM sg l).length=(8*l.length+5) / 6
 | a :: b :: c :: r=>by have:=gl sg r; simp only[cM,List.length_cons,this]; omega
 | [a,b]=>by simp[cM]
 | [a]=>by simp[cM]
 | []=>by simp[cM]
theorem gG {sg:Q1} (hsg:sg.length=64) {n:Nat} (hn:n<64):aC sg (n:Int)=some (sg6 sg n):=by
 rw[jj,sg6,List.getD_eq_getElem?_getD]
 rw[List.getElem?_eq_getElem (by omega)]; rfl
theorem Co (a b c:UInt8):(((aF a.toUInt64 16) ||| (aF b.toUInt64 8)) ||| c.toUInt64).toNat=tri a b c:=by
 have ha:=a.toNat_lt; have hb:=b.toNat_lt; have hc:=c.toNat_lt
 simp only[UInt64.toNat_or,dX,UInt8.toNat_toUInt64]
 have f:a.toNat*2^(min 16 64)%18446744073709551616=a.toNat*65536:=by simp; omega
 have g:b.toNat*2^(min 8 64)%18446744073709551616=b.toNat*256:=by simp; omega
 rw[f,g,gA (x:=a.toNat*65536) (y:=b.toNat*256) 16 (by omega) (by omega),gA 8 (by omega) (by omega)]
 rfl
theorem vv (a b c:UInt8):tri a b c<16777216:=by
 have ha:=a.toNat_lt; have hb:=b.toNat_lt; have hc:=c.toNat_lt
 unfold tri; omega
theorem EL (x:UInt64):(x &&& 63).toNat=x.toNat%64:=by
 rw[UInt64.toNat_and]; exact kC x.toNat 6
theorem ql {sg:Q1} (hsg:sg.length=64):∀(l f:Q1),3*f.length+4*l.length+24<=675000000000000->loop (F.Hs sg) (l,f)=some (f++cM sg l)
 | a :: b :: c :: r,f,hb=>by
  have A:=vv a b c
  have hl:decide ((3:Int)<=(((a :: b :: c :: r).length:Nat):Int))=true:=by simp; omega
  have step:F.Hs sg (a :: b :: c :: r,f)=some (.inl (r,f++[sg6 sg (tri a b c / 262144),sg6 sg (tri a b c / 4096%64),sg6 sg (tri a b c / 64%64),sg6 sg (tri a b c%64)])):=by
   unfold F.Hs
   simp only[hl,if_true,iL,jM,ov,ae,EL,dI,Co]
   have g:tri a b c / 2^(min 18 64)=tri a b c / 262144:=rfl
   have h:tri a b c / 2^(min 12 64)=tri a b c / 4096:=rfl
   have i:tri a b c / 2^(min 6 64)=tri a b c / 64:=rfl
   rw[g,h,i,gG hsg (by omega),ae,gG hsg (by omega),ae,gG hsg (by omega),ae,gG hsg (by omega),ae]
   rw[jm (by simp at hb ⊢; omega),ae]
   have:drO (a :: b :: c :: r) (3:Int)=some r:=by
    have:=g9 (l:=a :: b :: c :: r) (k:=3) (by simp)
    simpa using this
   rw[this,ae]; rfl
  rw[bB step,ql hsg r _ (by simp at hb ⊢; omega)]
  simp[cM]
 | [a,b],f,hb=>by
  have ha:=a.toNat_lt; have z:=b.toNat_lt
  refine cK ?_
  unfold F.Hs
  simp only[iL,jM,ae,UInt8.toNat_or,rx,qD,UInt8.toNat_and]
  rw[if_neg (by simp),if_pos (by simp)]
  have j:a.toNat &&& (3:UInt8).toNat=a.toNat%4:=kC a.toNat 2
  have o:b.toNat &&& (15:UInt8).toNat=b.toNat%16:=kC b.toNat 4
  have g:a.toNat / 2^(min 2 8)=a.toNat / 4:=rfl
  have h:a.toNat%4*2^(min 4 8)%256=a.toNat%4*16:=by simp; omega
  have i:b.toNat / 2^(min 4 8)=b.toNat / 16:=rfl
  have t:b.toNat%16*2^(min 2 8)%256=b.toNat%16*4:=by simp; omega
  rw[j,o,g,h,i,t,gA 4 (by omega) (by omega)]
  rw[gG hsg (by omega),ae,gG hsg (by omega),ae,gG hsg (by omega),ae,jm (by simp at hb ⊢; omega),ae]
  rfl
 | [a],f,hb=>by
  have ha:=a.toNat_lt
  refine cK ?_
  unfold F.Hs
  simp only[iL,ae,rx,qD,UInt8.toNat_and]
  rw[if_neg (by simp),if_neg (by simp),if_pos (by simp)]
  have j:a.toNat &&& (3:UInt8).toNat=a.toNat%4:=kC a.toNat 2
  have g:a.toNat / 2^(min 2 8)=a.toNat / 4:=rfl
  have h:a.toNat%4*2^(min 4 8)%256=a.toNat%4*16:=by simp; omega
  rw[j,g,h]
  rw[gG hsg (by omega),ae,gG hsg (by omega),ae,jm (by simp at hb ⊢; omega),ae]
  rfl
 | [],f,_=>by
  refine cK ?_
  unfold F.Hs
  simp[F.Jw,bz,cM]
theorem un {sg:Q1} (hsg:sg.length=64) (l:Q1) (h:l.length<=140737488355328):F.KA l sg=some (cM sg l):=by
 unfold F.KA
 have f:wI ((l.length:Int)+2)=((l.length+2:Nat):Int):=by rw[aI] <;> omega
 have g:wI (Int.tdiv ((l.length+2:Nat):Int) 3)=(((l.length+2) / 3:Nat):Int):=by
  rw[show Int.tdiv ((l.length+2:Nat):Int) 3=(((l.length+2) / 3:Nat):Int) from rfl,qU _ (by omega)]
 have i:wI ((((l.length+2) / 3:Nat):Int)*4)=(((l.length+2) / 3*4:Nat):Int):=by rw[aI] <;> omega
 rw[f,g,i,dv (by omega),ae]
 simpa using ql hsg l [] (by simp; omega)
theorem BZ:eD.length=64:=rfl
theorem j4 (l:Q1) (h:l.length<=140737488355328):F.IU l=some (cM eD l):=by
 unfold F.IU
 change ah (F.KA l eD) _=_
 rw[un BZ l h]; rfl
end Go.Gk
end

section
namespace Go.Gk
theorem vW (a b:Nat) (ha:a<9223372036854775808) (hb:b<9223372036854775808):j3 (a:Int) (b:Int)=((a &&& b:Nat):Int):=by
 unfold j3
 rw[BitVec.ofInt_natCast,BitVec.ofInt_natCast,BitVec.toNat_and,BitVec.toNat_ofNat,BitVec.toNat_ofNat,Nat.mod_eq_of_lt (by omega),Nat.mod_eq_of_lt (by omega)]
 exact qU _ (Nat.lt_of_le_of_lt Nat.and_le_left ha)
theorem wr (m:Nat) (h:m<18446744073709551616):(UInt64.ofInt (m:Int)).toNat=m:=by
 simp[UInt64.ofInt,UInt64.toNat_ofNat']
 omega
end Go.Gk
end

section
namespace Go.Gk
def num (sg:Q1) (c:UInt8):Nat:=sg.findIdx (· == c)
theorem Ft {sg:Q1} {c:UInt8} (h:c∈sg):num sg c<sg.length:=by
 unfold num; exact List.findIdx_lt_length_of_exists ⟨c,h,by simp⟩
theorem qu {sg:Q1} {c:UInt8} (h:c∈sg):eE sg c=(num sg c:Int):=by
 unfold eE num
 rw[List.findIdx?_eq_some_of_exists ⟨c,h,by simp⟩]
theorem yx {sg:Q1} {c:UInt8} (h:c ∉ sg):eE sg c=-1:=by
 unfold eE
 rw[List.findIdx?_eq_none_iff.2 (fun x hx=>by simp; rintro rfl; exact h hx)]
theorem qh (sg:Q1) (c:UInt8):decide (eE sg c<0)=decide (c ∉ sg):=by
 by_cases h:c∈sg
 ·rw[qu h]; simp[h]
 ·rw[yx h]; simp[h]
structure SgOk (sg:Q1):Prop where
 len:sg.length=64
 inv:∀n,n<64->num sg (sg6 sg n)=n
theorem xa:SgOk eD:=⟨rfl,by decide⟩
theorem gN {sg:Q1} (h:SgOk sg) {n:Nat} (hn:n<64):sg6 sg n∈sg:=by
 unfold sg6
 rw[List.getD_eq_getElem?_getD,List.getElem?_eq_getElem (by rw[h.len]; exact hn)]
 simp
theorem fI {sg:Q1} (h:SgOk sg) {c:UInt8} (hc:c∈sg):num sg c<64:=by have:=Ft hc; rw[h.len]at this; exact this
theorem mM (sg:Q1) (c:UInt8):F.Jv sg c=some (eE sg c):=rfl
def mG (sg:Q1) (a b c d:UInt8):Nat:=num sg a*262144+num sg b*4096+num sg c*64+num sg d
def rS (sg:Q1) (a b c:UInt8):Nat:=num sg a*262144+num sg b*4096+num sg c*64
def rC (sg:Q1) (a b:UInt8):Nat:=num sg a*262144+num sg b*4096
def gd (sg:Q1):Q1->Q1
 | a :: b :: c :: d :: r=>UInt8.ofNat (mG sg a b c d / 65536) :: UInt8.ofNat (mG sg a b c d / 256) :: UInt8.ofNat (mG sg a b c d) :: gd sg r
 | [a,b,c]=>[UInt8.ofNat (rS sg a b c / 65536),UInt8.ofNat (rS sg a b c / 256)]
 | [a,b]=>[UInt8.ofNat (rC sg a b / 65536)]
 | _=>[]
def fJ (sg:Q1):Q1->Bool
 | _ :: _ :: _ :: _ :: r=>fJ sg r
 | [a,b,c]=>rS sg a b c%256 == 0
 | [a,b]=>rC sg a b%65536 == 0
 | _=>true
theorem dN {sg:Q1} (hs:SgOk sg) {c:UInt8} (h:c∈sg):F.G7 c sg=some (UInt64.ofNat (num sg c)):=by
 unfold F.G7
 rw[mM,ae,qu h]
 have f:=fI hs h
 congr 1
 apply UInt64.toNat_inj.1
 rw[wr _ (by omega),UInt64.toNat_ofNat']; omega
theorem my (n:Nat) (h:n<64):(UInt64.ofNat n).toNat=n:=by rw[UInt64.toNat_ofNat']; omega
theorem or3 {a b c:Nat} (_ha:a<64) (hb:b<64) (hc:c<64):a*262144 ||| b*4096 ||| c*64=a*262144+b*4096+c*64:=by
 rw[gA (x:=a*262144) (y:=b*4096) 18 (by omega) (by omega),gA 12 (by omega) (by omega)]
theorem FB {sg:Q1} (hs:SgOk sg) {a b c d:UInt8} (ha:a∈sg) (hb:b∈sg) (hc:c∈sg) (i:d∈sg) :
  ((((aF (UInt64.ofNat (num sg a)) 18) ||| (aF (UInt64.ofNat (num sg b)) 12)) ||| (aF (UInt64.ofNat (num sg c)) 6)) ||| (UInt64.ofNat (num sg d))).toNat=mG sg a b c d:=by
 have f:=fI hs ha; have g:=fI hs hb; have h:=fI hs hc; have j:=fI hs i
 simp only[UInt64.toNat_or,dX,my _ f,my _ g,my _ h,my _ j]
 have k:num sg a*2^(min 18 64)%18446744073709551616=num sg a*262144:=by simp; omega
 have o:num sg b*2^(min 12 64)%18446744073709551616=num sg b*4096:=by simp; omega
 have t:num sg c*2^(min 6 64)%18446744073709551616=num sg c*64:=by simp; omega
 rw[k,o,t,or3 f g h,gA 6 (by omega) (by omega)]
 rfl
theorem FC {sg:Q1} (hs:SgOk sg) {a b c:UInt8} (ha:a∈sg) (hb:b∈sg) (hc:c∈sg) :
  ((aF (UInt64.ofNat (num sg c)) 6) ||| ((aF (UInt64.ofNat (num sg a)) 18) ||| (aF (UInt64.ofNat (num sg b)) 12))).toNat=rS sg a b c:=by
 have f:=fI hs ha; have g:=fI hs hb; have h:=fI hs hc
 simp only[UInt64.toNat_or,dX,my _ f,my _ g,my _ h]
 have i:num sg a*2^(min 18 64)%18446744073709551616=num sg a*262144:=by simp; omega
 have j:num sg b*2^(min 12 64)%18446744073709551616=num sg b*4096:=by simp; omega
 have k:num sg c*2^(min 6 64)%18446744073709551616=num sg c*64:=by simp; omega
 rw[i,j,k,Nat.or_comm,or3 f g h]
 rfl
theorem EZ {sg:Q1} (hs:SgOk sg) {a b:UInt8} (ha:a∈sg) (hb:b∈sg) :
  ((0:UInt64) ||| ((aF (UInt64.ofNat (num sg a)) 18) ||| (aF (UInt64.ofNat (num sg b)) 12))).toNat=rC sg a b:=by
 have f:=fI hs ha; have g:=fI hs hb
 simp only[UInt64.toNat_or,dX,my _ f,my _ g]
 have h:num sg a*2^(min 18 64)%18446744073709551616=num sg a*262144:=by simp; omega
 have i:num sg b*2^(min 12 64)%18446744073709551616=num sg b*4096:=by simp; omega
 rw[h,i,gA (x:=num sg a*262144) 18 (by omega) (by omega)]
 simp[rC]
theorem Dc {N:UInt64} {n:Nat} (h:N.toNat=n):N.toUInt8=UInt8.ofNat n:=by
 apply UInt8.toNat_inj.1
 simp[UInt8.toNat_ofNat',h]
theorem nN {N:UInt64} {n k:Nat} (h:N.toNat=n) (f:k<=64):(aP N k).toUInt8=UInt8.ofNat (n / 2^k):=by
 refine Dc ?_
 rw[dI,h,Nat.min_eq_left f]
theorem sW {N:UInt64} {n:Nat} (h:N.toNat=n) (k:UInt64) (j:Nat) (f:k.toNat=2^j - 1):((N &&& k) == 0)=(n%2^j == 0):=by
 have:(N &&& k).toNat=n%2^j:=by rw[UInt64.toNat_and,h,f]; exact kC n j
 rw[<-this]
 by_cases h0:N &&& k=0
 ·rw[h0]; rfl
 ·have g:(N &&& k).toNat≠0:=fun e=>h0 (UInt64.toNat_inj.1 e)
  rw[beq_eq_false_iff_ne.2 h0,beq_eq_false_iff_ne.2 g]
theorem sJ {sg:Q1} (hs:SgOk sg):∀(l f:Q1),(∀c∈l,c∈sg)->f.length+l.length<=225000000000000 ->
  loop (F.He sg) (l,f)=some (f++gd sg l,fJ sg l)
 | a :: b :: c :: d :: r,f,hg,hb=>by
  have ha:=hg a (by simp); have g:=hg b (by simp); have hc:=hg c (by simp); have i:=hg d (by simp)
  have h:=FB hs ha g hc i
  have step:F.He sg (a :: b :: c :: d :: r,f)=some (.inl (r,f++[UInt8.ofNat (mG sg a b c d / 65536),UInt8.ofNat (mG sg a b c d / 256),UInt8.ofNat (mG sg a b c d)])):=by
   unfold F.He
   dsimp only
   rw[if_pos (by simp; omega)]
   rw[iL,ae,dN hs ha,ae,jM,ae,dN hs g,ae,ov,ae,dN hs hc,ae,AU,ae,dN hs i,ae]
   rw[jm (by simp at hb ⊢; omega),ae,Dc h,nN h (k:=16) (by omega),nN h (k:=8) (by omega)]
   have:drO (a :: b :: c :: d :: r) (4:Int)=some r:=by
    have:=g9 (l:=a :: b :: c :: d :: r) (k:=4) (by simp)
    simpa using this
   rw[this,ae]; rfl
  rw[bB step,sJ hs r _ (fun x hx=>hg x (by simp[hx])) (by simp at hb ⊢; omega)]
  simp[gd,fJ]
 | [a,b,c],f,hg,hb=>by
  have ha:=hg a (by simp); have g:=hg b (by simp); have hc:=hg c (by simp)
  have h:=FC hs ha g hc
  refine cK ?_
  unfold F.He
  dsimp only
  rw[if_neg (by simp),if_pos (by simp),ov,ae,dN hs hc,ae]
  unfold F.Js
  dsimp only
  rw[iL,ae,dN hs ha,ae,jM,ae,dN hs g,ae,jm (by simp at hb ⊢; omega),ae,if_pos (by simp),jm (by simp at hb ⊢; omega),ae,nN h (k:=16) (by omega),nN h (k:=8) (by omega),sW h 255 8 rfl]
  simp[gd,fJ,bz]
 | [a,b],f,hg,hb=>by
  have ha:=hg a (by simp); have g:=hg b (by simp)
  have h:=EZ hs ha g
  refine cK ?_
  unfold F.He
  dsimp only
  rw[if_neg (by simp),if_neg (by simp),if_pos (by simp)]
  unfold F.Js
  dsimp only
  rw[iL,ae,dN hs ha,ae,jM,ae,dN hs g,ae,jm (by simp at hb ⊢; omega),ae,if_neg (by simp),nN h (k:=16) (by omega),sW h 65535 16 rfl]
  simp[gd,fJ,bz]
 | [a],f,_,hb=>by
  refine cK ?_
  unfold F.He
  dsimp only
  rw[if_neg (by simp),if_neg (by simp),if_neg (by simp)]
  simp[gd,fJ,bz]
 | [],f,_,hb=>by
  refine cK ?_
  unfold F.He
  dsimp only
  rw[if_neg (by simp),if_neg (by simp),if_neg (by simp)]
  simp[gd,fJ,bz]
theorem wR {sg:Q1} (hs:SgOk sg) (l:Q1) (hg:∀c∈l,c∈sg) (h:l.length<=225000000000000):F.J4 l sg=some (gd sg l,fJ sg l):=by
 unfold F.J4
 have f:wI (Int.tdiv (l.length:Int) 4)=((l.length / 4:Nat):Int):=by
  rw[show Int.tdiv (l.length:Int) 4=((l.length / 4:Nat):Int) from rfl,qU _ (by omega)]
 have g:wI (((l.length / 4:Nat):Int)*3)=((l.length / 4*3:Nat):Int):=by rw[aI] <;> omega
 have i:wI (((l.length / 4*3:Nat):Int)+2)=((l.length / 4*3+2:Nat):Int):=by rw[aI] <;> omega
 rw[f,g,i,dv (by omega),ae]
 simpa using sJ hs l [] hg (by simpa using h)
end Go.Gk
end

section
namespace Go.Gk
theorem pU (a n:Nat) (hn:n<=64):eA (a:Int) n=((a / 2^n:Nat):Int):=by
 unfold eA
 rw[Nat.min_eq_left hn]
 have:((2:Int)^n)=((2^n:Nat):Int):=by simp
 rw[this]
 rw[Int.fdiv_eq_ediv_of_nonneg _ (Int.natCast_nonneg _)]; rfl
section
variable {sg:Q1} {std:Bool} (hs:SgOk sg) (hsg:(if std then Ga else eD)=sg) (l:Q1) (hg:∀c∈l,c∈sg) (hl:l.length<=225000000000000)
include hs hsg hg hl
end
end Go.Gk
end

section
namespace Go.Gk
theorem CR {σ ρ:Type} {f:σ->Option (σ⊕ρ)} {n:Nat} {r:ρ} (st:Nat->σ) (g:∀i,i<n->f (st i)=some (.inl (st (i+1)))) (j:f (st n)=some (.inr r)) :
  ∀i,i<=n->loop f (st i)=some r:=by
 intro i hi
 induction h:n - i generalizing i with
 | zero=>
  have:i=n:=by omega
  subst this
  exact cK j
 | succ k ih=>
  rw[bB (g i (by omega))]
  exact ih (i+1) (by omega) (by omega)
def kg (sg l:Q1):Option Nat:=l.findIdx? (fun c=>decide (c ∉ sg))
theorem yF {sg l:Q1} {i:Nat} (h:kg sg l=some i):∃hi:i<l.length,l[i] ∉ sg/\∀j (f:j<i),l[j]'(by omega)∈sg:=by
 unfold kg at h
 rw[List.findIdx?_eq_some_iff_getElem]at h
 obtain⟨hi,g,k⟩:=h
 refine⟨hi,by simpa using g,fun j f=>by have:=k j f; simpa using this⟩
theorem x9 {sg l:Q1} (h:kg sg l=none):∀c∈l,c∈sg:=by
 unfold kg at h
 rw[List.findIdx?_eq_none_iff]at h
 intro c hc
 simpa using h c hc
theorem yJ {sg l:Q1} (h:∀c∈l,c∈sg):kg sg l=none:=by
 unfold kg
 rw[List.findIdx?_eq_none_iff]
 intro c hc
 simpa using h c hc
theorem AK {σ ρ:Type} {f:σ->Option (σ⊕ρ)} {sg l:Q1} {n:Nat} (hn:n<=l.length) (st:Nat->σ) (k:Nat->ρ) (o:ρ)
  (g:∀i (hi:i<n),l[i]'(by omega)∈sg->f (st i)=some (.inl (st (i+1))))
  (t:∀i (hi:i<n),l[i]'(by omega) ∉ sg->f (st i)=some (.inr (k i)))
  (z:(∀c∈l.take n,c∈sg)->loop f (st n)=some o) :
  loop f (st 0)=some (match kg sg (l.take n) with | some i=>k i | none=>o):=by
 cases h:kg sg (l.take n) with
 | some i=>
  obtain⟨hi,A,B⟩:=yF h
  simp at hi
  refine CR (n:=i) st (fun j F=>g j (by omega) ?_) (t i (by omega) ?_) 0 (by omega)
  ·have:=B j F; simpa using this
  ·simpa using A
 | none=>
  have hg:=x9 h
  have:∀i,i<=n->loop f (st (n - i))=some o:=by
   intro i
   induction i with
   | zero=>intro _; exact z hg
   | succ i ih=>
    intro hi
    rw[bB (g (n - (i+1)) (by omega) ?_)]
    ·rw[show n - (i+1)+1=n - i by omega]; exact ih (by omega)
    ·apply hg
     rw[List.mem_take_iff_getElem]
     exact⟨n - (i+1),by omega,rfl⟩
  have:=this n (Nat.le_refl _)
  rwa [Nat.sub_self]at this
def yO (l:Q1):Q1×Int×Int:=
 match kg eD l with
 | some i=>([],20,(i:Int))
 | none=>if l.length%4=1 then ([],21,(l.length:Int)) else if fJ eD l=true then (gd eD l,0,0) else ([],22,(l.length:Int) - 1)
theorem BP (i:Nat) (h:i<225000000000001):wI ((i:Int)+1)=((i+1:Nat):Int):=by rw[aI] <;> omega
theorem lO (sg:Q1) (c:UInt8):F.Jv sg c=some (eE sg c):=rfl
theorem FY (n:Nat):Int.tmod (n:Int) 4=((n%4:Nat):Int):=rfl
theorem jO (l:Q1) (hl:l.length<=225000000000000):F.Hf l=some (yO l):=by
 unfold F.Hf yO
 have:=AK (f:=F.IP l) (sg:=eD) (l:=l) (n:=l.length) (Nat.le_refl _) (fun i=>(i:Int)) (fun i=>([],20,(i:Int)))
  (if l.length%4=1 then ([],21,(l.length:Int)) else if fJ eD l=true then (gd eD l,0,0) else ([],22,(l.length:Int) - 1))
  (fun i hi hm=>by
   unfold F.IP
   dsimp only
   rw[if_pos (by simp; omega),fO hi,ae,lO,ae,show ∀c,decide (eE [65,66,67,68,69,70,71,72,73,74,75,76,77,78,79,80,81,82,83,84,85,86,87,88,89,90,97,98,99,100,101,102,103,104,105,106,107,108,109,110,111,112,113,114,115,116,117,118,119,120,121,122,48,49,50,51,52,53,54,55,56,57,45,95] c<0)=decide (c ∉ eD) from fun c=>qh eD c,if_neg (by simpa using hm),BP i (by omega)]
   rfl)
  (fun i hi hm=>by
   unfold F.IP
   dsimp only
   rw[if_pos (by simp; omega),fO hi,ae,lO,ae,show ∀c,decide (eE [65,66,67,68,69,70,71,72,73,74,75,76,77,78,79,80,81,82,83,84,85,86,87,88,89,90,97,98,99,100,101,102,103,104,105,106,107,108,109,110,111,112,113,114,115,116,117,118,119,120,121,122,48,49,50,51,52,53,54,55,56,57,45,95] c<0)=decide (c ∉ eD) from fun c=>qh eD c,if_pos (by simpa using hm)]
   rfl)
  (fun hg=>by
   refine cK ?_
   rw[List.take_length]at hg
   unfold F.IP
   dsimp only
   rw[if_neg (by simp),FY]
   by_cases h1:l.length%4=1
   ·rw[if_pos (by simp[h1]),if_pos h1]; rfl
   ·rw[if_neg (by simp; omega),if_neg h1]
    change bz (ah (F.J4 l eD) _)=_
    rw[wR xa l hg hl,ae]
    by_cases h2:fJ eD l=true
    ·rw[if_neg (by simp[h2]),if_pos h2]; rfl
    ·have g:l.length≠0:=by intro e; have:l=[]:=List.eq_nil_of_length_eq_zero e; subst this; exact h2 rfl
     have e:wI ((l.length:Int) - 1)=(l.length:Int) - 1:=by rw[aI] <;> omega
     rw[if_pos (by simpa using h2),if_neg h2,e]; rfl)
 rw[List.take_length]at this
 exact this
theorem iA {l:Q1} {q:Nat} (h:q<l.length):l.getD q 0=l[q]:=by
 rw[List.getD_eq_getElem?_getD,List.getElem?_eq_getElem h]; rfl
end Go.Gk
end

section
namespace Go.Gk
theorem Bb {sg:Q1} (hs:SgOk sg) (a b c:UInt8):mG sg (sg6 sg (tri a b c / 262144)) (sg6 sg (tri a b c / 4096%64)) (sg6 sg (tri a b c / 64%64)) (sg6 sg (tri a b c%64))=tri a b c:=by
 have:=vv a b c
 unfold mG
 rw[hs.inv _ (by omega),hs.inv _ (by omega),hs.inv _ (by omega),hs.inv _ (by omega)]
 omega
theorem oE (a:UInt8) (n:Nat) (h:n%256=a.toNat):UInt8.ofNat n=a:=by
 apply UInt8.toNat_inj.1
 rw[UInt8.toNat_ofNat']; exact h
theorem qQ {sg:Q1} (hs:SgOk sg):∀l,gd sg (cM sg l)=l/\fJ sg (cM sg l)=true/\∀c∈cM sg l,c∈sg
 | a :: b :: c :: r=>by
  obtain⟨i,j,k⟩:=qQ hs r
  have ha:=a.toNat_lt; have hb:=b.toNat_lt; have hc:=c.toNat_lt
  have o:=vv a b c
  refine⟨?_,?_,?_⟩
  ·simp only[cM,gd,Bb hs,i]
   rw[oE a _ (by unfold tri; omega),oE b _ (by unfold tri; omega),oE c _ (by unfold tri; omega)]
  ·simp only[cM,fJ,j]
  ·intro x hx
   simp only[cM,List.mem_cons]at hx
   rcases hx with rfl | rfl | rfl | rfl | hx
   ·exact gN hs (by omega)
   ·exact gN hs (by omega)
   ·exact gN hs (by omega)
   ·exact gN hs (by omega)
   ·exact k x hx
 | [a,b]=>by
  have ha:=a.toNat_lt; have hb:=b.toNat_lt
  have f:=hs.inv (a.toNat / 4) (by omega); have g:=hs.inv (a.toNat%4*16+b.toNat / 16) (by omega); have h:=hs.inv (b.toNat%16*4) (by omega)
  refine⟨?_,?_,?_⟩
  ·simp only[cM,gd,rS,f,g,h]
   rw[oE a _ (by omega),oE b _ (by omega)]
  ·simp only[cM,fJ,rS,f,g,h,beq_iff_eq]; omega
  ·intro x hx
   simp only[cM,List.mem_cons,List.not_mem_nil,or_false]at hx
   rcases hx with rfl | rfl | rfl
   ·exact gN hs (by omega)
   ·exact gN hs (by omega)
   ·exact gN hs (by omega)
 | [a]=>by
  have ha:=a.toNat_lt
  have f:=hs.inv (a.toNat / 4) (by omega); have g:=hs.inv (a.toNat%4*16) (by omega)
  refine⟨?_,?_,?_⟩
  ·simp only[cM,gd,rC,f,g]
   rw[oE a _ (by omega)]
  ·simp only[cM,fJ,rC,f,g,beq_iff_eq]; omega
  ·intro x hx
   simp only[cM,List.mem_cons,List.not_mem_nil,or_false]at hx
   rcases hx with rfl | rfl
   ·exact gN hs (by omega)
   ·exact gN hs (by omega)
 | []=>by simp[cM,gd,fJ]
theorem mJ (l:Q1):yO (cM eD l)=(l,0,0):=by
 obtain⟨f,g,h⟩:=qQ xa l
 have hl:=gl eD l
 unfold yO
 rw[yJ h]
 dsimp only
 rw[if_neg (by omega),if_pos g,f]
end Go.Gk
end

section
namespace Go.Gk
section
variable (l:Q1) (hl:l.length<=140737488355328) (q x:Nat)
include hl
end
end Go.Gk
end

section
namespace Go.Gk
theorem E9 {p t:Q1} (f:(46:UInt8) ∉ p):eE (p++46 :: t) 46=(p.length:Int):=by
 unfold eE
 have:(p++46 :: t).findIdx? (fun x=>x == 46)=some p.length:=by
  rw[List.findIdx?_append,List.findIdx?_eq_none_iff.2 (fun x hx=>by simp; rintro rfl; exact f hx)]
  simp[List.findIdx?_cons]
 rw[this]
theorem CI (l:Q1):F.LO l=some (eE l 46):=by
 unfold F.LO
 by_cases h:[46]=l
 ·subst h; rfl
 ·rw[if_neg (by simpa using h)]; rfl
theorem A3 {p t:Q1} (f:(46:UInt8) ∉ p) (hl:p.length<225000000000000):F.JF (p++46 :: t)=some (p,t,true):=by
 unfold F.JF F.LV
 rw[CI,ae,E9 f,if_pos (by simp)]
 have e:wI ((p.length:Int)+1)=((p.length+1:Nat):Int):=by rw[aI] <;> omega
 rw[uZ (by simp),ae,e,g9 (by simp),ae]
 simp
section
variable (l:Q1) (hl:l.length<=65536)
include hl
end
def uT (a b c:Q1):Q1×Int:=
 if 65536<2+(4*a.length+2) / 3+(4*b.length+2) / 3+(4*c.length+2) / 3 then ([],10)
 else (cM eD a++[46]++cM eD b++[46]++cM eD c,0)
theorem zB (n:Nat):(8*n+5) / 6=(4*n+2) / 3:=by omega
theorem nn (n:Nat) (hn:n<=140737488355328):wI (Int.tdiv (wI ((wI ((n:Int)*4))+2)) 3)=(((4*n+2) / 3:Nat):Int):=by
 have f:wI ((n:Int)*4)=((4*n:Nat):Int):=by rw[aI] <;> omega
 have g:wI (((4*n:Nat):Int)+2)=((4*n+2:Nat):Int):=by rw[aI] <;> omega
 rw[f,g,show Int.tdiv ((4*n+2:Nat):Int) 3=(((4*n+2) / 3:Nat):Int) from rfl,qU _ (by omega)]
section
variable (a b c:Q1) (ha:a.length<=140737488355328) (hb:b.length<=140737488355328) (hc:c.length<=140737488355328)
include ha hb hc
theorem sd:F.Jq a b c=some (uT a b c):=by
 unfold F.Jq uT
 have f:wI (2+(((4*a.length+2) / 3:Nat):Int))=((2+(4*a.length+2) / 3:Nat):Int):=by rw[aI] <;> omega
 have g:wI (((2+(4*a.length+2) / 3:Nat):Int)+(((4*b.length+2) / 3:Nat):Int))=((2+(4*a.length+2) / 3+(4*b.length+2) / 3:Nat):Int):=by rw[aI] <;> omega
 have i:wI (((2+(4*a.length+2) / 3+(4*b.length+2) / 3:Nat):Int)+(((4*c.length+2) / 3:Nat):Int))=((2+(4*a.length+2) / 3+(4*b.length+2) / 3+(4*c.length+2) / 3:Nat):Int):=by rw[aI] <;> omega
 rw[nn _ ha,nn _ hb,nn _ hc]
 simp only[aV]
 rw[f,g,i]
 by_cases h:65536<2+(4*a.length+2) / 3+(4*b.length+2) / 3+(4*c.length+2) / 3
 ·rw[if_pos (by rw[decide_eq_true_eq]; omega),if_pos h]
 ·rw[if_neg (by rw[decide_eq_true_eq]; omega),if_neg h]
  have j:=gl eD a; have k:=gl eD b; have o:=gl eD c
  rw[zB]at j k o
  rw[j4 _ ha,ae,oQ (by simp; omega),ae,j4 _ hb,ae,oQ (by simp; omega),ae,oQ (by simp; omega),ae,j4 _ hc,ae,oQ (by simp; omega),ae]
end
end Go.Gk
end
