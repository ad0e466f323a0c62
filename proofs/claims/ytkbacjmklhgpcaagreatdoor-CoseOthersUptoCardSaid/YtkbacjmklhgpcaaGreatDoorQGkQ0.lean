import Derived.Test.YtkbacjmklhgpcaaGreatDoorQGkP0
import Derived.Lib.ValidU
import Derived.Test.YtkbacjmklhgpcaaGreatDoorQGkFman
import Derived.Lib.ValidLaws
import Derived.KernelRfl
import Derived.Test.YtkbacjmklhgpcaaGreatDoorQGkUL
set_option linter.unusedVariables false
set_option linter.unusedSimpArgs false
set_option linter.unusedSectionVars false
section
namespace Go.Gk.Cb
open Go Go.Gk
abbrev It:=Int×UInt64×L01×Int
abbrev Er:=Int×Int
def wd (n:UInt64):Nat:=if n<24 then 0 else if n<256 then 1 else if n<65536 then 2 else if n<4294967296 then 4 else 8
def be:Nat->UInt64->L01
 | 0,_=>[]
 | k+1,n=>(bb n (8*k)).toUInt8 :: be k n
def nbe (l:L01):UInt64:=l.foldl (fun a c=>256*a+c.toUInt64) 0
def lg (w:Nat):Nat:=if w=1 then 0 else if w=2 then 1 else if w=4 then 2 else 3
def hd (m:Nat) (n:UInt64):L01:=
 if wd n=0 then [UInt8.ofNat (32*m)+n.toUInt8] else UInt8.ofNat (32*m+24+lg (wd n)) :: be (wd n) n
def mD (b:L01) (i:Nat):Except Er (Nat×UInt64×Nat):=
 match b[i]? with
 | none=>.error (220,b.length)
 | some c=>
  if 27<c.toNat%32\/c.toNat / 32=7/\(c.toNat%32<20\/22<c.toNat%32) then .error (220,i)
  else if c.toNat%32<24 then .ok (c.toNat / 32,UInt64.ofNat (c.toNat%32),i+1)
  else if b.length - (i+1)<2^(c.toNat%32 - 24) then .error (220,b.length)
  else if wd (nbe ((b.drop (i+1)).take (2^(c.toNat%32 - 24))))≠2^(c.toNat%32 - 24) then .error (220,i)
  else .ok (c.toNat / 32,nbe ((b.drop (i+1)).take (2^(c.toNat%32 - 24))),i+1+2^(c.toNat%32 - 24))
def jV:L01->L01->Bool
 | [],[]=>false
 | [],_ :: _=>true
 | _ :: _,[]=>false
 | a :: r,b :: s=>if a=b then jV r s else decide (a<b)
abbrev Rd:=Nat->Except Er (Nat×List It)
def gS (rec:Rd):Nat->Nat->Rd
 | _,0,i=>.ok (i,[])
 | 0,_+1,_=>.error (220,0)
 | f+1,n+1,i=>match rec i with
  | .error e=>.error e
  | .ok (j,is)=>match gS rec f n j with
   | .error e=>.error e
   | .ok (k,js)=>.ok (k,is++js)
def part (b:L01) (i j:Nat):L01:=(b.drop i).take (j - i)
def jL (last:Option L01) (key:L01):Bool:=match last with
 | none=>true
 | some l=>jV l key
def gA (rec:Rd) (b:L01):Nat->Nat->Option L01->Rd
 | _,0,_,i=>.ok (i,[])
 | 0,_+1,_,_=>.error (220,0)
 | f+1,n+1,last,i=>match rec i with
  | .error e=>.error e
  | .ok (j,is)=>
   if jL last (part b i j)=false then .error (220,i)
   else match rec j with
    | .error e=>.error e
    | .ok (k,js)=>match gA rec b f n (some (part b i j)) k with
     | .error e=>.error e
     | .ok (l,ks)=>.ok (l,is++js++ks)
def BM (b:L01) (sub:Rd) (m:Nat) (n:UInt64) (i:Nat):Except Er (Nat×List It):=
 if m=4 then match gS sub (b.length+1) n.toNat i with
  | .error e=>.error e
  | .ok (j,is)=>.ok (j,(4,0,[],(n.toNat:Int)) :: is)
 else if m=5 then match gA sub b (b.length+1) n.toNat none i with
  | .error e=>.error e
  | .ok (j,is)=>.ok (j,(5,0,[],2*(n.toNat:Int)) :: is)
 else match sub i with
  | .error e=>.error e
  | .ok (j,is)=>.ok (j,(6,n,[],1) :: is)
def l9 (b:L01) (sub:Option Rd):Rd:=fun i=>
 match mD b i with
 | .error e=>.error e
 | .ok (m,n,j)=>
  if m=4\/m=5\/m=6 then match sub with
   | none=>.error (11,i)
   | some rec=>BM b rec m n j
  else if m=2\/m=3 then
   if b.length - j<n.toNat then .error (220,b.length)
   else if m=3/\Lib.validD (part b j (j+n.toNat))=false then .error (32,i)
   else .ok (j+n.toNat,[((m:Int),0,part b j (j+n.toNat),0)])
  else .ok (j,[((m:Int),n,[],0)])
def mc:Nat->L01->Rd
 | 0,b=>l9 b none
 | d+1,b=>l9 b (some (mc d b))
def kj (b:L01):List It×Int×Int:=
 if 65536<b.length then ([],10,0) else match mc 32 b 0 with
  | .error e=>([],e.1,e.2)
  | .ok (j,is)=>if j<b.length then ([],220,(j:Int)) else (is,0,0)
theorem uw {b:L01} {i m j:Nat} {n:UInt64} (h:mD b i=.ok (m,n,j)):i<j/\j<=b.length/\m<8:=by
 unfold mD at h
 split at h
 ·cases h
 ·rename_i c hc
  have hi:i<b.length:=(aF.1 hc).1
  have hb:c.toNat<256:=c.toNat_lt
  split at h
  ·cases h
  ·split at h
   ·cases h; omega
   ·split at h
    ·cases h
    ·split at h
     ·cases h
     ·cases h
      have:1<=2^(c.toNat%32 - 24):=Nat.one_le_two_pow
      omega
theorem Hb {b:L01} {i:Nat} {e:Er} (h:mD b i=.error e):e=(220,(b.length:Int))\/e=(220,(i:Int))/\i<b.length:=by
 unfold mD at h
 split at h
 ·cases h; exact .inl rfl
 ·rename_i c hc
  have hi:i<b.length:=(aF.1 hc).1
  split at h
  ·cases h; exact .inr ⟨rfl,hi⟩
  ·split at h
   ·cases h
   ·split at h
    ·cases h; exact .inl rfl
    ·split at h
     ·cases h; exact .inr ⟨rfl,hi⟩
     ·cases h
def ni (b:L01) (rec:Rd):Prop:=(∀i j is,rec i=.ok (j,is)->i<j/\j<=b.length/\1<=is.length/\i+is.length<=j)/\(∀i e,rec i=.error e->i<=b.length->e.1≠0/\0<=e.2/\e.2<=b.length)
theorem pL {b:L01} {rec:Rd} (h:ni b rec):∀(f n i:Nat),i<=b.length->(∀j is,gS rec f n i=.ok (j,is)->i<=j/\j<=b.length/\i+is.length<=j/\n<=is.length/\i+n<=j) /\
  (∀e,gS rec f n i=.error e->e.1≠0/\0<=e.2/\e.2<=b.length)
 | f,0,i,hi=>by
  constructor
  ·intro j is A
   cases f <;> (simp only[gS]at A; cases A; simp; exact hi)
  ·intro e A
   cases f <;> (simp only[gS]at A; cases A)
 | 0,n+1,i,hi=>by
  constructor
  ·intro j is A; simp only[gS]at A; cases A
  ·intro e A; simp only[gS]at A; cases A; simp
 | f+1,n+1,i,hi=>by
  simp only[gS]
  cases A:rec i with
  | error e=>
   refine⟨fun j is B=>(by cases B),fun G B=>?_⟩
   cases B
   exact h.2 i e A hi
  | ok p=>
   obtain⟨j,is⟩:=p
   obtain⟨R,J,U,V⟩:=h.1 i j is A
   have I:=pL h f n j J
   simp only
   cases h7:gS rec f n j with
   | error e=>exact⟨fun j is B=>(by cases B),fun G B=>by cases B; exact I.2 e h7⟩
   | ok q=>
    obtain⟨k,N⟩:=q
    refine⟨fun X O B=>?_,fun G B=>(by cases B)⟩
    cases B
    have:=I.1 k N h7
    simp only[aE]
    omega
theorem oO {b:L01} {rec:Rd} (h:ni b rec):∀(f n:Nat) (last:Option L01) (i:Nat),i<=b.length->(∀j is,gA rec b f n last i=.ok (j,is)->i<=j/\j<=b.length/\i+is.length<=j/\2*n<=is.length/\i+2*n<=j) /\
  (∀e,gA rec b f n last i=.error e->e.1≠0/\0<=e.2/\e.2<=b.length)
 | f,0,last,i,hi=>by
  constructor
  ·intro j is B
   cases f <;> (simp only[gA]at B; cases B; simp; exact hi)
  ·intro e B
   cases f <;> (simp only[gA]at B; cases B)
 | 0,n+1,last,i,hi=>by
  constructor
  ·intro j is B; simp only[gA]at B; cases B
  ·intro e B; simp only[gA]at B; cases B; simp
 | f+1,n+1,last,i,hi=>by
  simp only[gA]
  cases B:rec i with
  | error e=>
   refine⟨fun j is A=>(by cases A),fun G A=>?_⟩
   cases A
   exact h.2 i e B hi
  | ok p=>
   obtain⟨j,is⟩:=p
   obtain⟨X,J,Y,Z⟩:=h.1 i j is B
   simp only
   split
   ·exact⟨fun j is A=>(by cases A),fun G A=>by cases A; simp; omega⟩
   ·cases h7:rec j with
    | error e=>exact⟨fun j is A=>(by cases A),fun G A=>by cases A; exact h.2 j e h7 J⟩
    | ok q=>
     obtain⟨k,N⟩:=q
     obtain⟨h8,O,R,U⟩:=h.1 j k N h7
     have I:=oO h f n (some (part b i j)) k O
     simp only
     cases h12:gA rec b f n (some (part b i j)) k with
     | error e=>exact⟨fun j is A=>(by cases A),fun G A=>by cases A; exact I.2 e h12⟩
     | ok s=>
      obtain⟨l,ks⟩:=s
      refine⟨fun j' V A=>?_,fun G A=>(by cases A)⟩
      cases A
      have:=I.1 l ks h12
      simp only[aE]
      omega
theorem tN {b:L01} {sub:Option Rd} (h:∀rec,sub=some rec->ni b rec):ni b (l9 b sub):=by
 have I:∀i,(∀j is,l9 b sub i=.ok (j,is)->i<j/\j<=b.length/\1<=is.length/\i+is.length<=j)/\(∀e,l9 b sub i=.error e->i<=b.length->e.1≠0/\0<=e.2/\e.2<=b.length):=by
  intro i
  unfold l9
  cases G:mD b i with
  | error e=>
   refine⟨fun j is A=>(by cases A),fun B A hi=>?_⟩
   cases A
   rcases Hb G with rfl | ⟨rfl,_⟩ <;> simp <;> omega
  | ok p=>
   obtain⟨m,n,j⟩:=p
   obtain⟨N,J,_⟩:=uw G
   simp only
   split
   ·cases sub with
    | none=>
     refine⟨fun j is A=>(by cases A),fun B A hi=>?_⟩
     cases A; simp; omega
    | some rec=>
     have hm:=h rec rfl
     simp only[BM]
     split
     ·have:=pL hm (b.length+1) n.toNat j J
      cases h5:gS rec (b.length+1) n.toNat j with
      | error e=>exact⟨fun j is A=>(by cases A),fun B A hi=>by cases A; exact this.2 e h5⟩
      | ok q=>
       obtain⟨k,is⟩:=q
       have:=this.1 k is h5
       refine⟨fun j is A=>?_,fun B A hi=>(by cases A)⟩
       cases A; simp; omega
     ·split
      ·have:=oO hm (b.length+1) n.toNat none j J
       cases h5:gA rec b (b.length+1) n.toNat none j with
       | error e=>exact⟨fun j is A=>(by cases A),fun B A hi=>by cases A; exact this.2 e h5⟩
       | ok q=>
        obtain⟨k,is⟩:=q
        have:=this.1 k is h5
        refine⟨fun j is A=>?_,fun B A hi=>(by cases A)⟩
        cases A; simp; omega
      ·cases h5:rec j with
       | error e=>exact⟨fun j is A=>(by cases A),fun B A hi=>by cases A; exact hm.2 j e h5 J⟩
       | ok q=>
        obtain⟨k,is⟩:=q
        have:=hm.1 j k is h5
        refine⟨fun j is A=>?_,fun B A hi=>(by cases A)⟩
        cases A; simp; omega
   ·split
    ·split
     ·exact⟨fun j is A=>(by cases A),fun B A hi=>by cases A; simp⟩
     ·split
      ·exact⟨fun j is A=>(by cases A),fun B A hi=>by cases A; simp; omega⟩
      ·refine⟨fun j is A=>?_,fun B A hi=>(by cases A)⟩
       cases A; simp; omega
    ·refine⟨fun j is A=>?_,fun B A hi=>(by cases A)⟩
     cases A; simp; omega
 exact⟨fun i j is G=>(I i).1 j is G,fun i e G hi=>(I i).2 e G hi⟩
theorem kP (b:L01):∀d,ni b (mc d b)
 | 0=>tN (by simp)
 | d+1=>tN (by intro rec h; cases h; exact kP b d)
theorem vo (a b:UInt8) (r s:L01):jV (a :: r) (b :: s)=if a=b then jV r s else decide (a<b):=rfl
theorem Hw (l:L01):jV l []=false:=by cases l <;> rfl
theorem NR (a b:L01) (ha:a.length<9223372036854775807):F.abA a b=some (jV a b):=by
 have G:∀k i,a.length - i=k->i<=a.length->i<=b.length->loop (F.Vw a b) (i:Int)=some (jV (a.drop i) (b.drop i)):=by
  intro k
  induction k with
  | zero=>
   intro i O R U
   have hi:i=a.length:=by omega
   subst hi
   refine bI ?_
   simp only[F.Vw,F.WS,eD,dr,ah,aj,bk,bL]
   congr 2
   rw[eJ]
   rcases bY a.length b.length with j | j
   ·rw[bc j]
    simp[jV,j]
   ·rw[gz j]
    simp[jV]; omega
  | succ k ih=>
   intro i O R U
   have j:i<a.length:=by omega
   have A:decide ((i:Int)<(a.length:Int))=true:=by simp; omega
   rcases bY i b.length with B | B
   ·have I:decide ((i:Int)<(b.length:Int))=true:=by simp; omega
    have J:ax a (i:Int)=some a[i]:=bX j
    have N:ax b (i:Int)=some b[i]:=bX B
    rw[bc j,bc B,vo]
    by_cases he:a[i]=b[i]
    ·have hs:F.Vw a b (i:Int)=some (.inl ((i:Int)+1)):=by
      simp only[F.Vw,F.WS,A,I,J,N,he,am,aa,dn,ah,aj]
      rw[aD (by omega) (by omega)]; rfl
     rw[bp hs,ag he]
     have:=ih (i+1) (by omega) (by omega) (by omega)
     simpa using this
    ·rw[ae he]
     refine bI ?_
     have hb:(a[i] != b[i])=true:=by simpa using he
     simp only[F.Vw,F.WS,A,I,J,N,hb,am,aa]
     rfl
   ·have hi:i=b.length:=by omega
    subst hi
    refine bI ?_
    simp only[F.Vw,F.WS,A,am,eD,dr,ah,aj,bk,bL]
    congr 2
    rw[eJ,Hw]
    simp; omega
 exact G a.length 0 (by omega) (by omega) (by omega)
theorem P4 (a:UInt8):F.Xg a=some false:=by simp[F.Xg]
def pU (a b:L01):Int:=if jV a b then -1 else if a=b then 0 else 1
theorem xI (x y:UInt8) (r s:L01):pU (x :: r) (y :: s)=if x=y then pU r s else if x<y then -1 else 1:=by
 unfold pU
 rw[vo]
 by_cases h:x=y
 ·subst h; simp
 ·by_cases h2:x<y <;> simp[h,h2]
theorem PO (a b:UInt8):F.Y9 a b=some (if a<b then -1 else if b<a then 1 else 0):=by
 simp only[F.Y9,P4,aa,ah,aj]
 by_cases h1:a<b
 ·simp[h1]
 ·by_cases h2:b<a <;> simp[h1,h2]
theorem vD (a b:L01) (ha:a.length<9223372036854775807):F.X3 a b=some (pU a b):=by
 have J:∀k i,a.length - i=k->i<=a.length->i<=b.length->loop (F.UX a b) (i:Int)=some (pU (a.drop i) (b.drop i)):=by
  intro k
  induction k with
  | zero=>
   intro i U V X
   have hi:i=a.length:=by omega
   subst hi
   refine bI ?_
   simp only[F.UX,eD,dr,ah,aj]
   rw[eJ]
   rcases bY a.length b.length with A | A
   ·rw[bc A]
    have:decide ((a.length:Int)<(b.length:Int))=true:=by simp; omega
    simp only[this,pU,jV,bk,am,bL]
   ·rw[gz A]
    have:¬((a.length:Int)<(b.length:Int)):=by omega
    simp[this,pU,jV,bk]
  | succ k ih=>
   intro i U V X
   have A:i<a.length:=by omega
   have B:decide ((i:Int)<(a.length:Int))=true:=by simp; omega
   have G:ax a (i:Int)=some a[i]:=bX A
   rcases bY i b.length with I | I
   ·have N:¬((b.length:Int)<=(i:Int)):=by omega
    have O:ax b (i:Int)=some b[i]:=bX I
    rw[bc A,bc I]
    by_cases he:a[i]=b[i]
    ·have hs:F.UX a b (i:Int)=some (.inl ((i:Int)+1)):=by
      have j:¬(b[i]<b[i]):=UInt8.lt_irrefl _
      simp only[F.UX,B,N,G,O,he,PO,j,am,aa,dn,ah,aj,dr]
      rw[aD (by omega) (by omega)]; rfl
     rw[bp hs]
     have:=ih (i+1) (by omega) (by omega) (by omega)
     rw[show ((i:Int)+1)=((i+1:Nat):Int) by simp,this,xI,ag he]
    ·refine bI ?_
     simp only[F.UX,B,N,G,O,PO,am,aa,ah,aj,dr]
     rw[xI,ae he]
     by_cases j:a[i]<b[i]
     ·simp only[j,am,bk,bL]; rfl
     ·have R:b[i]<a[i]:=by
       rcases UInt8.lt_or_lt_of_ne he with h | h
       ·exact absurd h j
       ·exact h
      simp only[j,R,am,aj,bk,bL]; rfl
   ·have hi:i=b.length:=by omega
    subst hi
    refine bI ?_
    rw[bc A,eJ]
    simp only[F.UX,B,G,aa,am,Int.le_refl,ir,pU,jV,bk,bL]
    rfl
 exact J a.length 0 (by omega) (by omega) (by omega)
theorem tR (a b:L01):decide ((0:Int)<=pU a b) = !jV a b:=by
 unfold pU
 cases h:jV a b
 ·by_cases he:a=b <;> simp[he]
 ·simp
theorem wm (n:UInt64):F.aa3 n=some (wd n:Int):=by
 unfold F.aa3 wd
 split
 ·rename_i h; simp at h; simp[h]
 ·rename_i h; simp only[ak]at h; simp only[h,aj]
  split
  ·rename_i h; simp at h; simp[h]
  ·rename_i h; simp only[ak]at h; simp only[h,aj]
   split
   ·rename_i h; simp at h; simp[h]
   ·rename_i h; simp only[ak]at h; simp only[h,aj]
    split
    ·rename_i h; simp at h; simp[h]
    ·rename_i h; simp only[ak]at h; simp[h]
theorem A1 (n:UInt64):F.Y4 n=some (wd n:Int):=by
 rw[<-wm]; rfl
theorem Lp (n:UInt64):wd n<=8:=by
 unfold wd
 repeat' split
 all_goals omega
theorem KF (l:L01) (c:UInt8):nbe (l++[c])=256*nbe l+c.toUInt64:=by simp[nbe]
theorem Rr (c:UInt8):((oP c 5).toNat:Int)=((c.toNat / 32:Nat):Int):=by rw[Gc]; rfl
theorem Qq (c:UInt8):((c &&& 31).toNat:Int)=((c.toNat%32:Nat):Int):=by
 rw[UInt8.toNat_and]
 have:=uA c.toNat 5
 simp at this
 simp[this]
theorem P8 (x:UInt64) (c:UInt8):(cV x 8) ||| c.toUInt64=256*x+c.toUInt64:=by
 apply cx.1
 have hc:c.toNat<256:=c.toNat_lt
 rw[jt,kM,fN,i7]
 have j:c.toUInt64.toNat=c.toNat:=by simp
 have A:(2:Nat)^(min 8 64)=256:=by decide
 rw[j,A,sq 8 (by omega) (by omega)]
 simp
 omega
theorem s7 (k:Nat) (h:24<=k) (j:k<=27):gL 1 (k - 24)=((2^(k - 24):Nat):Int):=by
 have:k=24\/k=25\/k=26\/k=27:=by omega
 rcases this with rfl | rfl | rfl | rfl <;> decide
theorem NO (k:Nat) (j:k<=27):2^(k - 24)<=8:=by
 have:k - 24=0\/k - 24=1\/k - 24=2\/k - 24=3:=by omega
 rcases this with h | h | h | h <;> rw[h] <;> decide
abbrev Fr_:=Int×Int×UInt64×Bool×Int×Option (Nat×Nat)
theorem yH (l:L01) (k:Nat) (h:k<l.length):nbe (l.take (k+1))=256*nbe (l.take k)+l[k].toUInt64:=by
 rw[dR h,KF]
theorem gr (n:Nat):UInt64.ofInt (n:Int)=UInt64.ofNat n:=by
 apply cx.1
 simp[UInt64.ofInt]
 omega
theorem CQ (b:L01) (i:Nat) (out:List It) (op:List Fr_) (hb:b.length<=65536) (hi:i<=b.length) :
  ∃j:Int,F.X9 b i out op=some (match mD b i with
   | .ok (m,n,k)=>((m:Int),n,none,(k:Int),out,op)
   | .error e=>(0,0,some e,j,out,op)):=by
 unfold F.X9 mD
 by_cases hl:i=b.length
 ·subst hl
  refine⟨(b.length:Int),?_⟩
  simp
 ·have I:i<b.length:=by omega
  have h0:((i:Int) == (b.length:Int))=false:=by simp; omega
  simp only[h0,ah,aj,bX I,aa,aG,Rr,Qq,aA I]
  have hc:=(b[i]).toNat_lt
  generalize b[i]=c at hc ⊢
  have hw:wI ((i:Int)+1)=((i+1:Nat):Int):=by rw[aD (by omega) (by omega)]; simp
  -- what comes behind the first test
  have A:∃j:Int,F.UY b i out op ((c.toNat / 32:Nat):Int) ((c.toNat%32:Nat):Int) true=some ((0:Int),(0:UInt64),some ((220:Int),(i:Int)),j,out,op):=⟨_,rfl⟩
  have V:c.toNat%32<=27->∃j:Int,F.UY b i out op ((c.toNat / 32:Nat):Int) ((c.toNat%32:Nat):Int) false=some (match (if c.toNat%32<24 then .ok (c.toNat / 32,UInt64.ofNat (c.toNat%32),i+1)
    else if b.length - (i+1)<2^(c.toNat%32 - 24) then .error (220,(b.length:Int))
    else if wd (nbe ((b.drop (i+1)).take (2^(c.toNat%32 - 24))))≠2^(c.toNat%32 - 24) then .error (220,(i:Int))
    else .ok (c.toNat / 32,nbe ((b.drop (i+1)).take (2^(c.toNat%32 - 24))),i+1+2^(c.toNat%32 - 24)):Except Er (Nat×UInt64×Nat)) with
   | .ok (m,n,k)=>((m:Int),n,none,(k:Int),out,op)
   | .error e=>(0,0,some e,j,out,op)):=by
   intro X
   unfold F.UY
   simp only[ah,aj]
   by_cases h24:c.toNat%32<24
   ·have N:decide (((c.toNat%32:Nat):Int)<24)=true:=by simp; omega
    refine⟨0,?_⟩
    simp only[N,h24,am,hw,gr]
   ·have N:decide (((c.toNat%32:Nat):Int)<24)=false:=by simp; omega
    have e1:wI (((c.toNat%32:Nat):Int) - 24)=((c.toNat%32 - 24:Nat):Int):=by rw[aD (by omega) (by omega)]; omega
    simp only[N,h24,aj,ah,e1,aq,hw]
    rw[grd_true _ (by omega),aG,s7 _ (by omega) X]
    have hp:=NO _ X
    generalize 2^(c.toNat%32 - 24)=s at hp ⊢
    have e2:wI ((b.length:Int) - ((i+1:Nat):Int))=((b.length - (i+1):Nat):Int):=by rw[aD (by omega) (by omega)]; omega
    rw[e2]
    by_cases hs:b.length - (i+1)<s
    ·have O:decide (((b.length - (i+1):Nat):Int)<(s:Int))=true:=by simp; omega
     refine⟨((i+1:Nat):Int),?_⟩
     simp only[O,hs,am]
    ·have O:decide (((b.length - (i+1):Nat):Int)<(s:Int))=false:=by simp; omega
     have Y:wI (((i+1:Nat):Int)+(s:Int))=((i+1+s:Nat):Int):=by rw[aD (by omega) (by omega)]; simp
     simp only[O,hs,aj,ah,Y]
     rw[lP (by omega) (by omega),aa,show i+1+s - (i+1)=s by omega]
     have hL:((b.drop (i+1)).take s).length=s:=by simp; omega
     generalize (b.drop (i+1)).take s=L at hL ⊢
     have Z:∀q k,s - k=q->k<=s->loop (F.Vu i out op ((c.toNat / 32:Nat):Int) s L) (nbe (L.take k),(k:Int)) =
       some (if wd (nbe L)≠s then ((0:Int),(0:UInt64),some ((220:Int),(i:Int)),((i+1+s:Nat):Int),out,op) else (((c.toNat / 32:Nat):Int),nbe L,none,((i+1+s:Nat):Int),out,op)):=by
      intro q
      induction q with
      | zero=>
       intro k h1 h2
       have:k=s:=by omega
       subst this
       refine bI ?_
       have R:decide (((k:Nat):Int)<(L.length:Int))=false:=by simp; omega
       simp only[F.Vu,R,ah,aj,A1,aa,hw,Y]
       rw[aC (by omega)]
       by_cases hwd:wd (nbe L)=k
       ·simp only[hwd,dn,ah,aj,bk,ne_eq,not_true,bL]
       ·have:((wd (nbe L):Int) != (k:Int))=true:=by simp; omega
        simp only[this,am,bk,hwd,ne_eq,iS,bL]
      | succ q ih=>
       intro k h1 h2
       have J:k<L.length:=by omega
       have R:decide (((k:Nat):Int)<(L.length:Int))=true:=by simp; omega
       have e4:wI ((k:Int)+1)=((k+1:Nat):Int):=by rw[aD (by omega) (by omega)]; simp
       have ab:F.Vu i out op ((c.toNat / 32:Nat):Int) s L (nbe (L.take k),(k:Int))=some (.inl (nbe (L.take (k+1)),((k+1:Nat):Int))):=by
        simp only[F.Vu,R,am,bX J,aa,aG,e4,P8,yH L k J]
        rfl
       rw[bp ab]
       exact ih (k+1) (by omega) (by omega)
     have:=Z s 0 (by omega) (by omega)
     simp only[gq]at this
     have this:loop (F.Vu i out op ((c.toNat / 32:Nat):Int) s L) (0,0)=_:=this
     refine⟨((i+1+s:Nat):Int),?_⟩
     rw[this]
     by_cases hwd:wd (nbe L)=s <;> simp[hwd]
  by_cases h27:27<c.toNat%32
  ·have d:decide ((27:Int)<((c.toNat%32:Nat):Int))=true:=by simp; omega
   simp only[d,am,h27,true_or]
   exact A
  ·have d:decide ((27:Int)<((c.toNat%32:Nat):Int))=false:=by simp; omega
   simp only[d,aj,h27,false_or,ah]
   by_cases h7:c.toNat / 32=7
   ·have U:(((c.toNat / 32:Nat):Int) == 7)=true:=by simp; omega
    simp only[U,am,h7,jb]
    by_cases h20:c.toNat%32<20
    ·have B:decide (((c.toNat%32:Nat):Int)<20)=true:=by simp; omega
     simp only[B,am,h20,true_or]
     rw[h7]at A
     exact A
    ·have B:decide (((c.toNat%32:Nat):Int)<20)=false:=by simp; omega
     simp only[B,aj,h20,false_or,ah]
     by_cases h22:22<c.toNat%32
     ·have G:decide ((22:Int)<((c.toNat%32:Nat):Int))=true:=by simp; omega
      simp only[G,am,h22]
      rw[h7]at A
      exact A
     ·have G:decide ((22:Int)<((c.toNat%32:Nat):Int))=false:=by simp; omega
      simp only[G,aj,h22]
      have:=V (by omega)
      rw[h7]at this
      exact this
   ·have U:(((c.toNat / 32:Nat):Int) == 7)=false:=by simp; omega
    simp only[U,aj,h7,false_and,ah]
    exact V (by omega)
abbrev RR:=L01×Int×List It×Int×Int
section
variable {b:L01} {rec:Rd} {rc:L01->Int->List It->Int->Int->Int->Option RR} {w:Int}
end
theorem Lz (n:UInt64) (h:n.toNat<=65536):wI ((n &&& 4294967295).toNat:Int)=(n.toNat:Int):=by
 rw[jg]
 have j:=uA n.toNat 32
 have A:(4294967295:UInt64).toNat=2^32 - 1:=by decide
 rw[A,j,az (by omega),aD (by omega) (by omega)]
theorem zF (l m:List It) (h:l.length+m.length<=1000000):apO 40 l m=some (l++m):=g8 (by omega)
theorem B8 (out is:List It) (x y:It):(out++x :: is).set out.length y=out++y :: is:=by simp
theorem z7 (out is:List It) (x:It):(out++x :: is)[out.length]? = some x:=by simp
section
variable {b:L01} {rc:L01->Int->List It->Int->Int->Int->Option RR}
end
abbrev PR:=List It×Int×Int
abbrev Sg:=Int×List It×List Fr_
noncomputable def Dn (b:L01) (i:Int) (out:List It) (op:List Fr_):Option (Sg⊕PR):=
 af (F.T1 b i out op) fun x=>gO x.1 (loop (F.Tc b) (x.2.1,x.2.2.1,x.2.2.2)) (fun f=>bk (some ([],f.1,f.2)))
noncomputable def run (b:L01) (x:Option (Sg⊕PR)):Option PR:=match x with
 | none=>none
 | some (.inl s)=>loop (F.Uc b) s
 | some (.inr r)=>some r
theorem Jb (b:L01) (s:Sg):loop (F.Uc b) s=run b (F.Uc b s):=by
 rw[nD]
 unfold run
 cases F.Uc b s with
 | none=>rfl
 | some x=>cases x <;> rfl
section
variable {b:L01}
theorem oG (op:List Fr_) (g:Fr_) (_h:op.length<1000):ax (op++[g]) (op.length:Int)=some g:=by
 rw[lA]; simp
theorem oy (op:List Fr_) (g:Fr_) (h:op.length<1000):wI (((op++[g]).length:Int) - 1)=(op.length:Int):=by
 simp; rw[aD (by omega) (by omega)]
theorem tX (op:List Fr_) (g j:Fr_):(op++[g]).set op.length j=op++[j]:=by simp
theorem DB (i:Int) (out:List It) (op:List Fr_) (g:Fr_) (h:op.length<1000) (hg:g.2.2.1=0):loop (F.Tc b) (i,out,op++[g])=Dn b i out op:=by
 rw[nD]
 have j:decide ((0:Int)<((op++[g]).length:Int))=true:=by simp
 have A:(g.2.2.1 == 0)=true:=by rw[hg]; rfl
 have B:(op++[g]).take ((op.length:Int)).toNat=op:=by simp
 simp only[F.Tc,j,am,oG op g h,aa,A,F.Yj,oy op g h]
 rw[grd_true _ (by simp),B]
 unfold Dn
 cases hd:F.T1 b i out op with
 | none=>rfl
 | some x=>
  simp only[aa]
  cases hx:x.1 with
  | none=>simp only[gO,bU]
  | some f=>simp only[gO,bk,bL]
theorem xe (i:Int) (out:List It) (op:List Fr_) (g:Fr_) (h:op.length<1000) (hg:g.2.2.1≠0):run b (loop (F.Tc b) (i,out,op++[g]))=loop (F.Uc b) (i,out,op++[g]):=by
 have j:decide ((0:Int)<((op++[g]).length:Int))=true:=by simp
 have A:(g.2.2.1 == 0)=false:=by simpa using hg
 have B:(((op++[g]).length:Int) == 0)=false:=by simp; omega
 have:F.Tc b (i,out,op++[g])=some (.inr (.inl (i,out,op++[g]))):=by
  simp only[F.Tc,j,am,oy op g h,oG op g h,aa,A,F.Yj,ah,aj,B]
  rfl
 rw[bI this]
 rfl
theorem Pj (i:Nat) (out:List It):run b (loop (F.Tc b) ((i:Int),out,[]))=some (if i<b.length then ([],220,(i:Int)) else (out,0,0)):=by
 have:F.Tc b ((i:Int),out,[])=some (.inr (.inr (if i<b.length then ([],220,(i:Int)) else (out,0,0)))):=by
  have A:decide ((0:Int)<((([]:List Fr_)).length:Int))=false:=by simp
  have B:(((([]:List Fr_)).length:Int) == 0)=true:=by simp
  simp only[F.Tc,A,ah,aj,F.Yj,B,am]
  by_cases h:i<b.length
  ·have j:decide ((i:Int)<(b.length:Int))=true:=by simp; omega
   simp only[j,am,h]; rfl
  ·have j:decide ((i:Int)<(b.length:Int))=false:=by simp; omega
   simp only[j,ah,aj,h]; rfl
 rw[bI this]
 rfl
theorem KO (i:Int) (out:List It):Dn b i out []=loop (F.Tc b) (i,out,[]):=by
 unfold Dn F.T1
 simp[gO]
theorem Jc (i:Int) (out ks:List It) (op:List Fr_) (x:It) (g:Fr_) (h:op.length<1000) (j:g.1=(out.length:Int)) (hm:g.2.1≠5) (G:wI (x.2.2.2+1)=x.2.2.2+1) :
  Dn b i (out++x :: ks) (op++[g])=loop (F.Tc b) (i,out++(x.1,x.2.1,x.2.2.1,x.2.2.2+1) :: ks,op++[(g.1,g.2.1,g.2.2.1 - 1,g.2.2.2.1,g.2.2.2.2.1,g.2.2.2.2.2)]):=by
 have I:(((op++[g]).length:Int) == 0)=false:=by simp; omega
 have A:ax (out++x :: ks) (g.1:Int)=some x:=by rw[j,lA,z7]
 have B:(g.2.1 != 5)=true:=by simpa using hm
 unfold Dn F.T1
 simp only[I,ah,aj,oG op g h,aa,A,aG,B,am,oy op g h,aq,tX,F.Vn,gO]
 rw[j,aq,B8,G]
theorem IM (i:Int) (out ks:List It) (op:List Fr_) (x:It) (g:Fr_) (h:op.length<1000) (j:g.1=(out.length:Int)) (hm:g.2.1=5) (G:g.2.2.2.1=true) (I:wI (x.2.2.2+1)=x.2.2.2+1) :
  Dn b i (out++x :: ks) (op++[g])=loop (F.Tc b) (i,out++(x.1,x.2.1,x.2.2.1,x.2.2.2+1) :: ks,op++[(g.1,g.2.1,g.2.2.1 - 1,false,i,g.2.2.2.2.2)]):=by
 have J:(((op++[g]).length:Int) == 0)=false:=by simp; omega
 have A:ax (out++x :: ks) (g.1:Int)=some x:=by rw[j,lA,z7]
 have B:(g.2.1 != 5)=false:=by simp[hm]
 unfold Dn F.T1
 simp only[J,ah,aj,oG op g h,aa,A,aG,B,am,G,oy op g h,aq,tX,F.Vn,gO]
 rw[j,aq,B8,I]
def qI (b:L01) (l:Option (Nat×Nat)):Option L01:=l.map fun p=>vwL b p
theorem JV (i:Nat) (out ks:List It) (op:List Fr_) (x:It) (g:Fr_) (k:Nat) (hb:b.length<=65536) (I:b≠[]) (h:op.length<1000) (B:g.1=(out.length:Int)) (hm:g.2.1=5) (Y:g.2.2.2.1=false) (Z:wI (x.2.2.2+1)=x.2.2.2+1)
  (j:g.2.2.2.2.1=(k:Int)) (J:k<=i) (hi:i<=b.length) (hl:∀p,g.2.2.2.2.2=some p->p.1<=p.2/\p.2<=b.length) :
  Dn b (i:Int) (out++x :: ks) (op++[g])=if jL (qI b g.2.2.2.2.2) (part b k i)=false then some (.inr ([],220,(k:Int))) else
   loop (F.Tc b) ((i:Int),out++(x.1,x.2.1,x.2.2.1,x.2.2.2+1) :: ks,op++[(g.1,g.2.1,g.2.2.1,true,(k:Int),some (k,i))]):=by
 have h0:(((op++[g]).length:Int) == 0)=false:=by simp; omega
 have N:ax (out++x :: ks) (g.1:Int)=some x:=by rw[B,lA,z7]
 have O:(g.2.1 != 5)=false:=by simp[hm]
 have R:slO b (k:Int) (i:Int)=some (part b k i):=lP J hi
 unfold Dn F.T1
 simp only[h0,ah,aj,oG op g h,aa,N,aG,O,Y,oy op g h,aq,j,R]
 rw[grd_true _ I]
 have G:∀t,F.WG (i:Int) (op++[g]) g ((out++x :: ks).set (g.1).toNat (x.1,x.2.1,x.2.2.1,wI (x.2.2.2+1))) t =
   some (if t=true then (some (220,(k:Int)),(i:Int),out++(x.1,x.2.1,x.2.2.1,x.2.2.2+1) :: ks,op++[g]) else (none,(i:Int),out++(x.1,x.2.1,x.2.2.1,x.2.2.2+1) :: ks,op++[(g.1,g.2.1,g.2.2.1,true,(k:Int),some (k,i))])):=by
  intro t
  rw[B,aq,B8,Z]
  cases t
  ·simp only[F.WG,ah,aj,aG,oy op g h,aq,tX,j,F.Vn]
   rw[B]
  ·simp only[F.WG,am,j]
 cases hla:g.2.2.2.2.2 with
 | none=>
  simp only[Option.isSome_none,ah,aj,qI,iy,jL,G,aa,gO]
  rfl
 | some p=>
  obtain⟨U,V⟩:=hl p hla
  have X:(vwL b p).length<9223372036854775807:=by simp[vwL]; omega
  simp only[Option.isSome_some,am,aa,qI,bL,jL]
  rw[grd_true _ ⟨U,V⟩,vD _ _ X,aa,tR,G,aa]
  by_cases A:jV (vwL b p) (part b k i)=false
  ·simp[A,gO,bk]
  ·have A:jV (vwL b p) (part b k i)=true:=by simpa using A
   simp[A,gO,bk]
theorem oR {α ρ:Type} (x:Option ρ) (y:α->Option ρ):gO none x y=x:=rfl
theorem pc {α ρ:Type} (a:α) (x:Option ρ) (y:α->Option ρ):gO (some a) x y=y a:=rfl
def Act (b:L01) (len:Nat) (rec:Rd):Prop:=∀(i:Nat) (out:List It) (op:List Fr_),i<=b.length->out.length<=i->op.length=len ->
 loop (F.Uc b) ((i:Int),out,op)=match rec i with
  | .error e=>some ([],e.1,e.2)
  | .ok (j,is)=>run b (Dn b (j:Int) (out++is) op)
theorem xY {rec:Rd} (hb:b.length<=65536) (hm:ni b rec) {len:Nat} (hA:Act b (len+1) rec) (R:len<100) (m:Int) (A:m≠5) (x:It) (B:Bool) (G:Int) (last:Option (Nat×Nat)) :
  ∀(f k n:Nat) (i:Nat) (out ks:List It) (op:List Fr_),i<=b.length->out.length+1+ks.length<=i->b.length+1<=f+i->op.length=len->n<18446744073709551616->k<=b.length->n=0\/k+1<=i ->
   run b (loop (F.Tc b) ((i:Int),out++(x.1,x.2.1,x.2.2.1,(k:Int)) :: ks,op++[((out.length:Int),m,UInt64.ofNat n,B,G,last)])) =
    match gS rec f n i with
    | .error e=>some ([],e.1,e.2)
    | .ok (j,is)=>run b (Dn b (j:Int) (out++(x.1,x.2.1,x.2.2.1,((k+n:Nat):Int)) :: (ks++is)) op):=by
 intro f
 induction f with
 | zero=>intro k n i out ks op I U V; omega
 | succ f ih=>
  intro k n i out ks op I U V J h5 h6 ab
  cases n with
  | zero=>
   rw[DB _ _ _ _ (by omega) (by rfl)]
   simp[gS]
  | succ n=>
   have N:UInt64.ofNat (n+1)≠0:=by
    intro h
    have:=da UInt64.toNat h
    simp at this
    omega
   rw[xe _ _ _ _ (by omega) N]
   rw[hA i _ _ I (by simp; omega) (by simp[J]),gS]
   cases hx:rec i with
   | error e=>rfl
   | ok a=>
    obtain⟨j,is⟩:=a
    obtain⟨h7,X,h9,ac⟩:=hm.1 i j is hx
    simp only
    have O:wI ((k:Int)+1)=(k:Int)+1:=aD (by omega) (by omega)
    rw[aS,dA,Jc _ _ _ _ _ _ (by omega) rfl A O]
    have Y:UInt64.ofNat (n+1) - 1=UInt64.ofNat n:=by
     apply cx.1
     rw[ee _ _ (by rw[cK]; simp; omega)]
     simp; omega
    have:=ih (k+1) n j out (ks++is) op X (by simp; omega) (by omega) J (by omega) (by omega) (by omega)
    simp only[Y]
    have Z:((k+1:Nat):Int)=(k:Int)+1:=by simp
    rw[Z]at this
    rw[this]
    cases hz:gS rec f n j with
    | error e=>rfl
    | ok y=>
     obtain⟨z,js⟩:=y
     simp only
     rw[show k+1+n=k+(n+1) by omega,aS]
theorem Fc {rec:Rd} (hb:b.length<=65536) (hm:ni b rec) {len:Nat} (hA:Act b (len+1) rec) (V:len<100) (x:It) :
  ∀(f k n:Nat) (i:Nat) (out ks:List It) (op:List Fr_) (last:Option (Nat×Nat)),i<=b.length->out.length+1+ks.length<=i->b.length+1<=f+i->op.length=len->n<18446744073709551616->2*k<=i ->
   (∀p,last=some p->p.1<=p.2/\p.2<=b.length) ->
   run b (loop (F.Tc b) ((i:Int),out++(x.1,x.2.1,x.2.2.1,((2*k:Nat):Int)) :: ks,op++[((out.length:Int),5,UInt64.ofNat n,false,(i:Int),last)])) =
    match gA rec b f n (qI b last) i with
    | .error e=>some ([],e.1,e.2)
    | .ok (j,is)=>run b (Dn b (j:Int) (out++(x.1,x.2.1,x.2.2.1,((2*(k+n):Nat):Int)) :: (ks++is)) op):=by
 intro f
 induction f with
 | zero=>intro k n i out ks op last I X Y; omega
 | succ f ih=>
  intro k n i out ks op last I X Y B h5 h6 Z
  cases n with
  | zero=>
   rw[DB _ _ _ _ (by omega) (by rfl)]
   simp[gA]
  | succ n=>
   have A:UInt64.ofNat (n+1)≠0:=by
    intro h
    have:=da UInt64.toNat h
    simp at this
    omega
   rw[xe _ _ _ _ (by omega) A]
   rw[hA i _ _ I (by simp; omega) (by simp[B]),gA]
   cases hx:rec i with
   | error e=>rfl
   | ok a=>
    obtain⟨j,is⟩:=a
    obtain⟨h8,G,al,ap⟩:=hm.1 i j is hx
    have J:b≠[]:=by rintro rfl; simp at G; omega
    simp only
    have N:wI (((2*k:Nat):Int)+1)=((2*k:Nat):Int)+1:=aD (by omega) (by omega)
    rw[aS,dA,JV j _ _ _ _ _ i hb J (by omega) rfl rfl rfl N rfl (by omega) G Z]
    by_cases hko:jL (qI b last) (part b i j)=false
    ·rw[ag hko,ag hko]
     rfl
    ·rw[ae hko,ae hko]
     rw[xe _ _ _ _ (by omega) A]
     rw[hA j _ _ G (by simp; omega) (by simp[B])]
     cases hy:rec j with
     | error e=>rfl
     | ok c=>
      obtain⟨l,O⟩:=c
      obtain⟨bx,R,b2,b3⟩:=hm.1 j l O hy
      simp only
      have U:wI (((2*k:Nat):Int)+1+1)=((2*k:Nat):Int)+1+1:=aD (by omega) (by omega)
      rw[aS,dA,IM _ _ _ _ _ _ (by omega) rfl rfl rfl U]
      have e1:UInt64.ofNat (n+1) - 1=UInt64.ofNat n:=by
       apply cx.1
       rw[ee _ _ (by rw[cK]; simp; omega)]
       simp; omega
      have:=ih (k+1) n l out (ks++is++O) op (some (i,j)) R (by simp; omega) (by omega) B (by omega) (by omega) (by intro p hp; cases hp; simp; omega)
      simp only[e1]
      have e2:((2*(k+1):Nat):Int)=((2*k:Nat):Int)+1+1:=by simp; omega
      rw[e2]at this
      rw[this]
      have hv:qI b (some (i,j))=some (part b i j):=rfl
      rw[hv]
      cases hz:gA rec b f n (some (part b i j)) l with
      | error e=>rfl
      | ok y=>
       obtain⟨z,ls⟩:=y
       simp only
       rw[show 2*(k+1+n)=2*(k+(n+1)) by omega]
       simp only[aS]
theorem Cr (hb:b.length<=65536) (d:Nat) (hd:d<=32) (sub:Option Rd) (Z:∀rec,sub=some rec->ni b rec) (U:sub=none↔d=0)
  (hA:∀rec,sub=some rec->Act b (32 - d+1) rec):Act b (32 - d) (l9 b sub):=by
 intro i out op h1 h2 h3
 rw[Jb]
 obtain⟨jj,hh⟩:=CQ b i out op hb h1
 unfold l9
 simp only[F.Uc,F.aaC,hh,aa]
 cases hx:mD b i with
 | error e=>
  simp only[pc,aa]
  rfl
 | ok a=>
  obtain⟨m,n,j⟩:=a
  obtain⟨h4,h5,h6⟩:=uw hx
  simp only[oR]
  -- what a A comes to
  have A:∀(k:Int) (O:UInt64) (s:L01),run b (af (F.W5 b ((m:Int),n,(none:Option (Int×Int)),(j:Int),out,op) (k,O,s)) fun B=>
    gO B.1 (loop (F.Tc b) (B.2.1,B.2.2.1,B.2.2.2)) (fun G=>bk (some ([],G.1,G.2))))=run b (Dn b k (out++[((m:Int),O,s,0)]) op):=by
   intro k O s
   simp only[F.W5]
   rw[zF _ _ (by simp; omega),aa]
   unfold Dn
   cases hq:F.T1 b k (out++[((m:Int),O,s,0)]) op with
   | none=>rfl
   | some x=>
    simp only[aa]
    cases hy:x.1 with
    | none=>simp only[oR,aa]
    | some f=>simp only[pc,aa]
  by_cases hcon:m=4\/m=5\/m=6
  ·rw[ag hcon]
   have n0:((m:Int) == 0)=false:=by simp; omega
   have n1:((m:Int) == 1)=false:=by simp; omega
   have n2:((m:Int) == 2)=false:=by simp; omega
   have n3:((m:Int) == 3)=false:=by simp; omega
   have n7:((m:Int) == 7)=false:=by simp; omega
   simp only[n0,n1,n2,n3,n7,ah,aj,F.T6,F.UH]
   cases hs:sub with
   | none=>
    have ct:d=0:=U.1 hs
    have:(((op.length:Nat):Int) == 32)=true:=by simp; omega
    simp only[this,am,aa,pc]
    rfl
   | some rec=>
    have c1:d≠0:=fun h=>by rw[U.2 h]at hs; cases hs
    have I:=Z rec hs
    have J:=hA rec hs
    have:(((op.length:Nat):Int) == 32)=false:=by simp; omega
    simp only[this,ah,aj]
    have V:apO 64 op [(((out.length:Nat):Int),(m:Int),n,false,(j:Int),(none:Option (Nat×Nat)))]=some (op++[(((out.length:Nat):Int),(m:Int),n,false,(j:Int),none)]):=g8 (by simp; omega)
    have al:apO 64 op [(((out.length:Nat):Int),(m:Int),(1:UInt64),false,(j:Int),(none:Option (Nat×Nat)))]=some (op++[(((out.length:Nat):Int),(m:Int),(1:UInt64),false,(j:Int),none)]):=g8 (by simp; omega)
    have hn:=n.toNat_lt
    have X:UInt64.ofNat n.toNat=n:=by simp
    unfold BM
    by_cases hm4:m=4
    ·subst hm4
     have N:(((4:Nat):Int) == 6)=false:=by decide
     simp only[N,ah,aj,F.WL,am]
     rw[zF _ _ (by simp; omega),aa,V,aa,aa]
     simp only[oR]
     have:=xY hb I J (by omega) ((4:Nat):Int) (by decide) (((4:Nat):Int),0,[],0) false (j:Int) none (b.length+1) 0 n.toNat j out [] op h5 (by simp; omega) (by omega) h3 hn (by omega) (by omega)
     rw[X]at this
     have this:run b (loop (F.Tc b) ((j:Int),out++[(((4:Nat):Int),0,[],0)],op++[((out.length:Int),((4:Nat):Int),n,false,(j:Int),none)]))=_:=this
     rw[this]
     cases hl:gS rec (b.length+1) n.toNat j with
     | error e=>rfl
     | ok y=>
      obtain⟨k,is⟩:=y
      simp only[bm,bT]
      rfl
    ·by_cases hm5:m=5
     ·subst hm5
      have N:(((5:Nat):Int) == 6)=false:=by decide
      simp only[N,ah,aj,F.WL,am,hm4]
      rw[zF _ _ (by simp; omega),aa,V,aa,aa]
      simp only[oR]
      have:=Fc hb I J (by omega) (((5:Nat):Int),0,[],0) (b.length+1) 0 n.toNat j out [] op none h5 (by simp; omega) (by omega) h3 hn (by omega) (by simp)
      rw[X]at this
      have this:run b (loop (F.Tc b) ((j:Int),out++[(((5:Nat):Int),0,[],0)],op++[((out.length:Int),((5:Nat):Int),n,false,(j:Int),none)]))=_:=this
      rw[this]
      have hv:qI b none=none:=rfl
      rw[hv]
      cases hl:gA rec b (b.length+1) n.toNat none j with
      | error e=>rfl
      | ok y=>
       obtain⟨k,is⟩:=y
       simp only[bm,bT]
       rw[show ((2*n.toNat:Nat):Int)=2*(n.toNat:Int) by simp]
       rfl
     ·have b3:m=6:=by omega
      subst b3
      have N:(((6:Nat):Int) == 6)=true:=by decide
      simp only[N,am,F.WL,hm4,hm5,aj]
      rw[zF _ _ (by simp; omega),aa,al,aa,aa]
      simp only[oR]
      have:=xY hb I J (by omega) ((6:Nat):Int) (by decide) (((6:Nat):Int),n,[],0) false (j:Int) none (b.length+1) 0 1 j out [] op h5 (by simp; omega) (by omega) h3 (by omega) (by omega) (by omega)
      have this:run b (loop (F.Tc b) ((j:Int),out++[(((6:Nat):Int),n,[],0)],op++[((out.length:Int),((6:Nat):Int),(1:UInt64),false,(j:Int),none)]))=_:=this
      rw[this,gS]
      cases hl:rec j with
      | error e=>rfl
      | ok y=>
       obtain⟨k,is⟩:=y
       simp only
       cases hbl:b.length with
       | zero=>simp only[gS,bM,bT]; rfl
       | succ q=>simp only[gS,bM,bT]; rfl
  ·rw[ae hcon]
   by_cases hstr:m=2\/m=3
   ·rw[ag hstr]
    have n0:((m:Int) == 0)=false:=by simp; omega
    have n1:((m:Int) == 1)=false:=by simp; omega
    have n7:((m:Int) == 7)=false:=by simp; omega
    have b4:(if ((m:Int) == 2)=true then F.UH b (i:Int) ((m:Int),n,none,(j:Int),out,op) ((m:Int) == 2) else F.UH b (i:Int) ((m:Int),n,none,(j:Int),out,op) ((m:Int) == 3)) =
      F.UH b (i:Int) ((m:Int),n,none,(j:Int),out,op) true:=by
     rcases hstr with h | h <;> subst h <;> rfl
    simp only[n0,n1,n7,ah,aj,F.T6,b4]
    simp only[F.UH,am]
    have e1:wI ((b.length:Int) - (j:Int))=((b.length - j:Nat):Int):=by rw[aD (by omega) (by omega)]; omega
    have e2:(UInt64.ofNat (b.length - j)).toNat=b.length - j:=by simp; omega
    rw[e1,gr]
    by_cases hlen:b.length - j<n.toNat
    ·have d1:decide (UInt64.ofNat (b.length - j)<n)=true:=by simp only[ak,bd,e2]; exact hlen
     simp only[d1,am,hlen,aa,pc]
     rfl
    ·have d1:decide (UInt64.ofNat (b.length - j)<n)=false:=by simp only[iq,bd,e2]; omega
     have e3:wI (n.toNat:Int)=(n.toNat:Int):=aD (by omega) (by omega)
     have e4:wI ((j:Int)+(n.toNat:Int))=((j+n.toNat:Nat):Int):=by rw[aD (by omega) (by omega)]; simp
     simp only[d1,ah,aj,hlen,e3,e4]
     rw[lP (by omega) (by omega),aa]
     have b8:(b.drop j).take (j+n.toNat - j)=part b j (j+n.toNat):=rfl
     rw[b8]
     have hpl:(part b j (j+n.toNat)).length<=b.length:=by simp[part]; omega
     have Y:F.WV (i:Int) ((m:Int),n,none,(j:Int),out,op) (part b j (j+n.toNat)) b false=F.W5 b ((m:Int),n,none,(j:Int),out,op) (((j+n.toNat:Nat):Int),0,part b j (j+n.toNat)):=by
      simp only[F.WV,ah,aj,e3,e4]
     by_cases hm3:m=3
     ·subst hm3
      have e5:(((3:Nat):Int) == 3)=true:=by decide
      have hv:F.Tk (part b j (j+n.toNat))=some (Lib.validD (part b j (j+n.toNat))):=ag (by omega)
      simp only[e5,am,hv,aa,jb]
      cases Lib.validD (part b j (j+n.toNat)) with
      | false=>
       simp only[iU,F.WV,am,aa,pc]
       rfl
      | true=>
       simp only[db,Y,Bool.true_eq_false,aj]
       exact A _ _ _
     ·have e5:((m:Int) == 3)=false:=by simp; omega
      simp only[e5,ah,aj,Y,A,hm3,false_and]
   ·rw[ae hstr]
    have R:m=0\/m=1\/m=7:=by omega
    have b9:(if ((m:Int) == 0)=true then F.T6 ((m:Int),n,none,(j:Int),out,op) b (i:Int) ((m:Int) == 0) else if ((m:Int) == 1)=true then F.T6 ((m:Int),n,none,(j:Int),out,op) b (i:Int) ((m:Int) == 1) else F.T6 ((m:Int),n,none,(j:Int),out,op) b (i:Int) ((m:Int) == 7)) =
      F.T6 ((m:Int),n,none,(j:Int),out,op) b (i:Int) true:=by
     rcases R with h | h | h <;> subst h <;> rfl
    rw[b9]
    simp only[F.T6,am,A]
theorem xF (hb:b.length<=65536):∀d,d<=32->Act b (32 - d) (mc d b)
 | 0,hd=>Cr hb 0 hd none (by simp) (by simp) (by simp)
 | d+1,hd=>by
  refine Cr hb (d+1) hd (some (mc d b)) (by intro rec h; cases h; exact kP b d) (by simp) ?_
  intro rec h
  cases h
  have:=xF hb d (by omega)
  rw[show 32 - (d+1)+1=32 - d by omega]
  exact this
theorem lQ (b:L01):F.T9 b=some (kj b):=by
 unfold F.T9 kj
 by_cases hb:65536<b.length
 ·have:decide ((65536:Int)<(b.length:Int))=true:=by simp; omega
  simp only[this,am,hb]
 ·have A:decide ((65536:Int)<(b.length:Int))=false:=by simp; omega
  simp only[A,ah,aj,hb]
  have:=xF (b:=b) (by omega) 32 (by omega) 0 [] [] (by omega) (by simp) (by simp)
  have this:loop (F.Uc b) (0,[],[])=_:=this
  rw[this]
  cases hx:mc 32 b 0 with
  | error e=>rfl
  | ok y=>
   obtain⟨j,is⟩:=y
   simp only[bT]
   rw[KO,Pj]
end
theorem qk {σ ρ:Type} {f:σ->Option (σ⊕ρ)} (I:σ->Prop) (μ:σ->Nat) (T:ρ->Prop) (A:∀s,I s->(∃j,f s=some (.inl j)/\I j/\μ j<μ s)\/(∃r,f s=some (.inr r)/\T r)) (s:σ) (hs:I s):∃r,loop f s=some r/\T r:=by
 obtain⟨r,B,G⟩:=AQ I μ (fun _ r=>T r) (fun s h=>by
  rcases A s h with⟨j,a,b,c⟩ | ⟨r,a,b⟩
  ·exact .inl ⟨j,a,b,c,fun r h=>h⟩
  ·exact .inr ⟨r,a,b⟩) s hs
 exact⟨r,B,G⟩
section
variable {s:L01}
theorem IT (i:Nat):∃b,F.abq s i=some b/\(b=true->i<s.length):=by
 unfold F.abq
 by_cases h:i<s.length
 ·have d:decide ((i:Int)<(s.length:Int))=true:=by simp; omega
  simp only[d,am,bX h,aa]
  split
  ·exact⟨_,rfl,fun _=>h⟩
  ·exact⟨_,rfl,fun _=>h⟩
 ·have d:decide ((i:Int)<(s.length:Int))=false:=by simp; omega
  simp only[d,ah,aj]
  exact⟨false,rfl,by simp⟩
theorem wK (hs:s.length<=2000000) (i:Nat) (hi:i<=s.length):∃j:Nat,F.ZK s i=some (j:Int)/\i<=j/\j<=s.length:=by
 obtain⟨r,A,j,B,I,J⟩:=qk (f:=F.aaF s) (fun x:Int=>∃j:Nat,x=(j:Int)/\i<=j/\j<=s.length) (fun x=>s.length - x.toNat) (fun r:Int=>∃j:Nat,r=(j:Int)/\i<=j/\j<=s.length) (by
  rintro x ⟨j,rfl,A,B⟩
  obtain⟨b,hb,G⟩:=IT (s:=s) j
  cases b
  ·right
   exact⟨(j:Int),by simp only[F.aaF,hb,aa,ah,aj]; rfl,j,rfl,A,B⟩
  ·left
   have:=G rfl
   refine⟨((j+1:Nat):Int),?_,⟨j+1,rfl,by omega,by omega⟩,by simp; omega⟩
   simp only[F.aaF,hb,aa,am]
   rw[aD (by omega) (by omega)]
   rfl) (i:Int) ⟨i,rfl,by omega,hi⟩
 subst B
 exact⟨j,A,I,J⟩
abbrev Kk:=Bool×List Int×Int×Bool×List Int×Bool×L01×Bool
def lK (s:L01) (x:Option Kk):Prop:=∃r:Kk,x=some r/\r.2.2.2.2.2.2.1.length<=s.length
theorem lK.mk {r:Kk} (h:r.2.2.2.2.2.2.1.length<=s.length):lK s (some r):=⟨r,rfl,h⟩
theorem Nl (a:Bool) (t:L01) (c:Bool) (d:List Int) (e:Bool) (g:Int) (A:t.length<=s.length) (ds:List Int) (B:ds.length<=100000000):lK s (loop (F.ZZ a t c d e g) ds):=by
 obtain⟨r,I,J⟩:=qk (f:=F.ZZ a t c d e g) (fun l=>l.length<=100000000) (fun l=>l.length) (fun r=>r.2.2.2.2.2.2.1.length<=s.length) (by
  intro l hl
  unfold F.ZZ
  by_cases h0:0<l.length
  ·have j:decide ((0:Int)<(l.length:Int))=true:=by simp; omega
   have G:wI ((l.length:Int) - 1)=((l.length - 1:Nat):Int):=by rw[aD (by omega) (by omega)]; omega
   simp only[j,am,G]
   rw[bX (show l.length - 1<l.length by omega),aa]
   by_cases hz:(l[l.length - 1] == 0)=true
   ·left
    refine⟨l.take (l.length - 1),?_,by simp; omega,by simp; omega⟩
    simp only[hz,F.Yg,am,G]
    rw[grd_true _ (by simp)]
    simp[bU]
   ·right
    refine⟨(a,l,g,c,d,e,t,true),?_,A⟩
    simp only[hz,F.Yg,ah,aj]
    rfl
  ·have j:decide ((0:Int)<(l.length:Int))=false:=av (by omega)
   right
   refine⟨(a,l,g,c,d,e,t,true),?_,A⟩
   simp only[j,F.Yg,ah,aj]
   rfl) ds B
 exact⟨r,I,J⟩
theorem Me (all:L01) (V:all.length<=4000000) (a:Bool) (t:L01) (c:Bool) (d:List Int) (e:Bool) (X:t.length<=s.length) (g:Int):lK s (loop (F.Z9 all a t c d e) (0,[],g)):=by
 obtain⟨r,I,O⟩:=qk (f:=F.Z9 all a t c d e) (fun x=>∃j:Nat,x.1=(j:Int)/\j<=all.length/\x.2.1.length<=j) (fun x=>all.length - x.1.toNat) (fun r=>r.2.2.2.2.2.2.1.length<=s.length) (by
  rintro⟨x,ds,y⟩ ⟨j,I,O,Y⟩
  simp only at I Y
  subst I
  unfold F.Z9
  by_cases hj:j<all.length
  ·left
   have J:decide ((j:Int)<(all.length:Int))=true:=by simp; omega
   have R:wI ((j:Int)+1)=((j+1:Nat):Int):=by rw[aD (by omega) (by omega)]; rfl
   simp only[J,am,bX hj,aa,aG]
   have U:∀t,∃A N,F.X4 ds y (((all[j] - 48).toNat:Int)) j t=some (.inl (((j+1:Nat):Int),A,N))/\A.length<=j+1:=by
    intro t
    cases t
    ·refine⟨ds,wI (y - 1),?_,by omega⟩
     simp only[F.X4,ah,aj,F.aaD,R]
     rfl
    ·refine⟨ds++[((all[j] - 48).toNat:Int)],y,?_,by simp; omega⟩
     simp only[F.X4,am]
     rw[g8 (by simp; omega),aa]
     simp only[F.aaD,R]
     rfl
   split
   ·obtain⟨A,N,B,G⟩:=U true
    exact⟨_,B,⟨j+1,rfl,by omega,G⟩,by simp; omega⟩
   ·obtain⟨A,N,B,G⟩:=U (decide ((0:Int)<(ds.length:Int)))
    exact⟨_,B,⟨j+1,rfl,by omega,G⟩,by simp; omega⟩
  ·right
   have J:decide ((j:Int)<(all.length:Int))=false:=by simp; omega
   obtain⟨r,B,G⟩:=Nl (s:=s) a t c d e y X ds (by omega)
   refine⟨r,?_,G⟩
   simp only[J,ah,aj,B]
   rfl) (0,[],g) ⟨0,rfl,by omega,by simp⟩
 exact⟨r,I,O⟩
theorem D9 (A:Int) (a:Bool) (B:Int) (t all:L01) (G:t.length<=s.length) (j:all.length<=4000000) (y:Int×Bool×List Int×Bool):lK s (F.aaE s A a B t all y):=by
 obtain⟨y1,y2,y3,I⟩:=y
 simp only[F.aaE]
 split
 ·exact lK.mk G
 ·exact Me all j a t y2 y3 I G _
theorem Ds (hs:s.length<=2000000) (B:Int) (a:Bool) (G:Int) (t all:L01) (V:t.length<=s.length) (R:all.length<=4000000) (i:Nat) (hi:i<=s.length) (q:Bool):lK s (F.aal s B a G t all ((i:Int),q)):=by
 obtain⟨j,h1,h2,h3⟩:=wK hs i hi
 simp only[F.aal,h1,aa]
 split
 ·exact lK.mk V
 ·obtain⟨r,N,X⟩:=qk (f:=F.aaQ s q (j:Int) B a G t all) (fun x=>∃k:Nat,x.1=(k:Int)/\k<=j/\x.2.length<=k) (fun x=>j - x.1.toNat) (fun r=>r.2.2.2.2.2.2.1.length<=s.length) (by
   rintro⟨x,ds⟩ ⟨k,N,X,h6⟩
   simp only at N h6
   subst N
   unfold F.aaQ
   by_cases hk:k<j
   ·left
    have U:decide ((k:Int)<(j:Int))=true:=by simp; omega
    have Y:wI ((k:Int)+1)=((k+1:Nat):Int):=by rw[aD (by omega) (by omega)]; rfl
    have O:k<s.length:=by omega
    simp only[U,am,bX O,aa]
    have Z:∀b,∃A,F.ZB s (k:Int) ds b=some (.inl (((k+1:Nat):Int),A))/\A.length<=k+1:=by
     intro b
     cases b
     ·refine⟨ds,?_,by omega⟩
      simp only[F.ZB,ah,aj,F.ZI,Y]
      rfl
     ·refine⟨ds++[((s[k] - 48).toNat:Int)],?_,by simp; omega⟩
      simp only[F.ZB,am,bX O,aa]
      rw[g8 (by simp; omega),aa]
      simp only[F.ZI,Y]
      rfl
    split
    ·obtain⟨A,I,J⟩:=Z true
     exact⟨_,I,⟨k+1,rfl,by omega,J⟩,by simp; omega⟩
    ·obtain⟨A,I,J⟩:=Z (decide ((0:Int)<(ds.length:Int)))
     exact⟨_,I,⟨k+1,rfl,by omega,J⟩,by simp; omega⟩
   ·right
    have U:decide ((k:Int)<(j:Int))=false:=by simp; omega
    obtain⟨r,I,J⟩:=D9 (s:=s) B a G t all V R ((j:Int),q,ds,false)
    refine⟨r,?_,J⟩
    simp only[U,ah,aj,I]
    rfl) ((i:Int),[]) ⟨i,rfl,by omega,by simp⟩
  exact⟨r,N,X⟩
theorem wx (hs:s.length<=2000000) (i:Nat) (hi:i<=s.length) (R:Bool) (G:Int) (a:Bool) (I:Int) (t all:L01) (J:t.length<=s.length) (j:all.length<=4000000) (q:Bool) (U:q=true->i<s.length) :
  lK s (F.W0 s (i:Int) R G a I t all q):=by
 cases q
 ·simp only[F.W0,ah,aj]
  exact D9 _ _ _ _ _ J j _
 ·have X:=U rfl
  have N:wI ((i:Int)+1)=((i+1:Nat):Int):=by rw[aD (by omega) (by omega)]; rfl
  have A:∀b,(b=true->i+1<s.length)->lK s (F.Xy s (i:Int) G a I t all b):=by
   intro b hb
   cases b
   ·simp only[F.Xy,ah,aj,N]
    exact Ds hs _ _ _ _ _ J j _ (by omega) _
   ·have B:=hb rfl
    have V:wI (((i+1:Nat):Int)+1)=((i+2:Nat):Int):=by rw[aD (by omega) (by omega)]; rfl
    simp only[F.Xy,am,N,bX B,aa,V]
    exact Ds hs _ _ _ _ _ J j _ (by omega) _
  simp only[F.W0,am,N]
  by_cases B:i+1<s.length
  ·have O:decide (((i+1:Nat):Int)<(s.length:Int))=true:=by simp; omega
   simp only[O,am,bX B,aa]
   split
   ·exact A _ (fun _=>B)
   ·exact A _ (fun _=>B)
  ·have O:decide (((i+1:Nat):Int)<(s.length:Int))=false:=by simp; omega
   simp only[O,ah,aj]
   exact A _ (by simp)
theorem DQ (hs:s.length<=2000000) (G:Int) (a:Bool) (I:Int) (t:L01) (A:t.length<=s.length) (i:Nat) (hi:i<=s.length) (all:L01) (j:all.length<=4000000) (q:Bool):lK s (F.aay s G a I t ((i:Int),all,q)):=by
 simp only[F.aay]
 by_cases h2:i<s.length
 ·have B:decide (((i:Nat):Int)<(s.length:Int))=true:=by simp; omega
  simp only[B,am,bX h2,aa]
  split
  ·exact wx hs i hi _ _ _ _ _ _ A j _ (fun _=>h2)
  ·exact wx hs i hi _ _ _ _ _ _ A j _ (fun _=>h2)
 ·have B:decide (((i:Nat):Int)<(s.length:Int))=false:=by simp; omega
  simp only[B,ah,aj]
  exact wx hs i hi _ _ _ _ _ _ A j _ (by simp)
theorem DE (hs:s.length<=2000000) (i:Nat) (hi:i<=s.length) (a:Bool):lK s (F.aaA s ((i:Int),a)):=by
 obtain⟨j,U,V,N⟩:=wK hs i hi
 have G:∀b,lK s (F.Xw s (i:Int) a (j:Int) b):=by
  intro b
  cases b
  ·simp only[F.Xw,ah,aj]
   rw[lP V N,aa,aa]
   have A:((s.drop i).take (j - i)).length<=s.length:=by simp; omega
   have B:∀b,(b=true->j<s.length)->lK s (F.Ys s (i:Int) a (j:Int) ((s.drop i).take (j - i)) ((s.drop i).take (j - i)) b):=by
    intro b hb
    cases b
    ·simp only[F.Ys,ah,aj]
     exact DQ hs _ _ _ _ A j N _ (aZ A (by omega)) _
    ·have I:=hb rfl
     have X:wI ((j:Int)+1)=((j+1:Nat):Int):=by rw[aD (by omega) (by omega)]; rfl
     obtain⟨k,Y,Z,O⟩:=wK hs (j+1) (by omega)
     simp only[F.Ys,am,X,Y,aa]
     split
     ·exact lK.mk A
     ·rw[lP Z O,aa,Nc (by simp; omega),aa]
      exact DQ hs _ _ _ _ A k O _ (by simp; omega) _
   by_cases I:j<s.length
   ·have J:decide (((j:Nat):Int)<(s.length:Int))=true:=by simp; omega
    simp only[J,am,bX I,aa]
    exact B _ (fun _=>I)
   ·have J:decide (((j:Nat):Int)<(s.length:Int))=false:=by simp; omega
    simp only[J,ah,aj]
    exact B _ (by simp)
  ·simp only[F.Xw,am]
   exact lK.mk (by simp)
 simp only[F.aaA,U,aa]
 by_cases hij:j=i
 ·subst hij
  have:(((j:Nat):Int) == (j:Int))=true:=by simp
  simp only[this,am]
  exact G _
 ·have:(((j:Nat):Int) == (i:Int))=false:=by simp; omega
  have R:i<s.length:=by omega
  simp only[this,ah,aj,bX R,aa]
  split
  ·exact G _
  ·exact G _
theorem yp (hs:s.length<=2000000):lK s (F.Z0 s):=by
 have j:∀b,(b=true->1<=s.length)->lK s (F.abl s b):=by
  intro b hb
  cases b
  ·exact DE hs 0 (by omega) false
  ·exact DE hs 1 (hb rfl) true
 unfold F.Z0
 by_cases h0:0<s.length
 ·have A:decide ((0:Int)<(s.length:Int))=true:=by simp; omega
  have B:ax s (0:Int)=some s[0]:=bX h0
  simp only[A,am,B,aa]
  exact j _ (fun _=>h0)
 ·have A:decide ((0:Int)<(s.length:Int))=false:=av (by omega)
  simp only[A,ah,aj]
  exact j _ (by simp)
theorem IN (hs:s.length<=2000000):∃b,F.abj s=some b:=by
 obtain⟨r,h,_⟩:=yp hs
 exact⟨_,by unfold F.abj; rw[h]; rfl⟩
theorem JK (hs:s.length<=2000000):∃b,F.abh s=some b:=by
 obtain⟨r,h,hl⟩:=yp hs
 unfold F.abh
 rw[h,aa]
 have G:∀b,∃x,F.ZN r b=some x:=by
  intro b
  cases b
  ·simp only[F.ZN,ah,aj]
   obtain⟨q,A,_⟩:=qk (f:=F.aaP r) (fun x=>∃j:Nat,x.2=(j:Int)/\j<=r.2.2.2.2.2.2.1.length) (fun x=>r.2.2.2.2.2.2.1.length - x.2.toNat) (fun _=>True) (by
    rintro⟨x,y⟩ ⟨j,A,J⟩
    simp only at A
    subst A
    unfold F.aaP
    by_cases hj:j<r.2.2.2.2.2.2.1.length
    ·have B:decide ((j:Int)<(r.2.2.2.2.2.2.1.length:Int))=true:=by simp; omega
     have I:wI ((j:Int)+1)=((j+1:Nat):Int):=by rw[aD (by omega) (by omega)]; rfl
     simp only[B,am,bX hj,aa,aG,I]
     split
     ·right; exact⟨_,rfl,trivial⟩
     ·left; exact⟨_,rfl,⟨j+1,rfl,by omega⟩,by simp; omega⟩
    ·have B:decide ((j:Int)<(r.2.2.2.2.2.2.1.length:Int))=false:=by simp; omega
     simp only[B,ah,aj]
     right
     split
     ·exact⟨_,rfl,trivial⟩
     ·split
      ·exact⟨_,rfl,trivial⟩
      ·exact⟨_,rfl,trivial⟩) (0,0) ⟨0,rfl,by omega⟩
   exact⟨q,A⟩
  ·exact⟨_,rfl⟩
 split
 ·exact G _
 ·exact G _
theorem SR:∀c:Fin 256,128<=c.val->(F.aba (c.val:Int)=some (-1,0,0)/\¬(Lib.firstT c.val%8=2\/Lib.firstT c.val%8=3\/Lib.firstT c.val%8=4)) \/
  (∃n∈[1,2,3],F.aba (c.val:Int)=some (((n:Nat):Int),((Lib.accLo (Lib.firstT c.val / 16):Nat):Int),((Lib.accHi (Lib.firstT c.val / 16):Nat):Int))/\Lib.firstT c.val%8=n+1):=by
 decide +kernel
def okB (l:L01) (j lo hi:Nat):Prop:=j<l.length/\lo<=(l.getD j 0).toNat/\(l.getD j 0).toNat<=hi
instance (l:L01) (j lo hi:Nat):Decidable (okB l j lo hi):=by unfold okB; infer_instance
abbrev Js:=Int×List (Int×L01×L01×Bool×Int×Int)×L01×Int×Int
theorem rj (hs:s.length<=2000000) (i:Nat) (A:Int×Int×Int) (n j lo hi:Nat) (hx:A.1=(n:Int)) (Y:j<=n) (V:j<=10) (X:i<=s.length) :
  (okB (s.drop i) j lo hi->F.WW s i A ((lo:Int),(hi:Int),(j:Int))=some (.inl (((128:Nat):Int),((191:Nat):Int),((j+1:Nat):Int)))) /\
  (¬okB (s.drop i) j lo hi->∃r:Js,F.WW s i A ((lo:Int),(hi:Int),(j:Int))=some (.inr r)/\r.2.2.2.1≠0):=by
 have N:decide ((j:Int)<=A.1)=true:=by rw[hx]; simp; omega
 have O:wI ((i:Int)+(j:Int))=((i+j:Nat):Int):=by rw[aD (by omega) (by omega)]; rfl
 have R:wI ((j:Int)+1)=((j+1:Nat):Int):=by rw[aD (by omega) (by omega)]; rfl
 unfold F.WW
 simp only[N,am,O]
 by_cases hl:i+j<s.length
 ·have B:decide ((s.length:Int)<=((i+j:Nat):Int))=false:=by simp; omega
  have hg:(s.drop i).getD j 0=s[i+j]:=by simp[List.getD,hl]
  have hA:F.Yi s ((i+j:Nat):Int)=some ((s[i+j].toNat:Nat):Int):=by
   unfold F.Yi
   simp only[B,ah,aj,bX hl,aa]
  have J:okB (s.drop i) j lo hi↔lo<=s[i+j].toNat/\s[i+j].toNat<=hi:=by
   unfold okB
   rw[hg]
   simp; omega
  rw[J,hA,aa]
  have U:decide (((s[i+j].toNat:Nat):Int)<0)=false:=by simp
  simp only[U,ah,aj]
  by_cases hlo:s[i+j].toNat<lo
  ·have G:decide (((s[i+j].toNat:Nat):Int)<(lo:Int))=true:=by simp; omega
   refine⟨fun h=>by omega,fun _=>⟨(0,[],[],32,(i:Int)),?_,(by decide:(32:Int)≠0)⟩⟩
   simp only[G,am,F.YP]
   rfl
  ·have G:decide (((s[i+j].toNat:Nat):Int)<(lo:Int))=false:=by simp; omega
   simp only[G,ah,aj]
   by_cases hhi:hi<s[i+j].toNat
   ·have I:decide ((hi:Int)<((s[i+j].toNat:Nat):Int))=true:=by simp; omega
    refine⟨fun h=>by omega,fun _=>⟨(0,[],[],32,(i:Int)),?_,(by decide:(32:Int)≠0)⟩⟩
    simp only[I,F.YP,am]
    rfl
   ·have I:decide ((hi:Int)<((s[i+j].toNat:Nat):Int))=false:=by simp; omega
    refine⟨fun _=>?_,fun h=>absurd ⟨by omega,by omega⟩ h⟩
    simp only[I,F.YP,ah,aj,R]
    rfl
 ·have B:decide ((s.length:Int)<=((i+j:Nat):Int))=true:=by simp; omega
  have hA:F.Yi s ((i+j:Nat):Int)=some (-1):=by
   unfold F.Yi
   simp only[B,am]
  refine⟨fun h=>?_,fun _=>⟨(0,[],[],31,(s.length:Int)),?_,(by decide:(31:Int)≠0)⟩⟩
  ·have:=h.1
   simp at this; omega
  ·rw[hA,aa]
   rfl
theorem wS (hs:s.length<=2000000) (i:Nat) (j:Int×Int×Int) (n:Nat) (lo hi:Int) (hx:j.1=(n:Int)) (hl:i+n<s.length) :
  ∃r:Js,F.WW s i j (lo,hi,((n+1:Nat):Int))=some (.inr r)/\r.2.2.2.1=0/\r.1=((i+n+1:Nat):Int):=by
 have A:decide (((n+1:Nat):Int)<=(n:Int))=false:=by simp; omega
 have B:wI ((i:Int)+(n:Int))=((i+n:Nat):Int):=by rw[aD (by omega) (by omega)]; rfl
 have G:wI (((i+n:Nat):Int)+1)=((i+n+1:Nat):Int):=by rw[aD (by omega) (by omega)]; rfl
 refine⟨(((i+n+1:Nat):Int),[],(s.drop i).take (i+n+1 - i),0,0),?_,rfl,rfl⟩
 unfold F.WW
 simp only[hx,A,ah,aj,B,G]
 rw[lP (by omega) (by omega),aa]
 rfl
theorem OU (hs:s.length<=2000000) (i:Nat) (hi:i<s.length) (hc:128<=s[i].toNat):∃r:Js,F.aaL s i=some r /\
  (match Lib.checkN (s.drop i).length ((s.drop i).getD 1 0).toNat ((s.drop i).getD 2 0).toNat ((s.drop i).getD 3 0).toNat (Lib.firstT s[i].toNat%8) (Lib.accLo (Lib.firstT s[i].toNat / 16)) (Lib.accHi (Lib.firstT s[i].toNat / 16)) with
   | none=>r.2.2.2.1≠0
   | some k=>r.2.2.2.1=0/\r.1=((i+k:Nat):Int)/\2<=k/\i+k<=s.length):=by
 have hb:=SR ⟨s[i].toNat,s[i].toNat_lt⟩ hc
 simp only at hb
 have X:(s.drop i).length=s.length - i:=by simp
 unfold F.aaL
 rw[bX hi,aa]
 rcases hb with⟨N,R⟩ | ⟨n,hn,N,R⟩
 ·rw[N,aa]
  refine⟨(0,[],[],32,(i:Int)),rfl,?_⟩
  have:Lib.checkN (s.drop i).length ((s.drop i).getD 1 0).toNat ((s.drop i).getD 2 0).toNat ((s.drop i).getD 3 0).toNat (Lib.firstT s[i].toNat%8) (Lib.accLo (Lib.firstT s[i].toNat / 16)) (Lib.accHi (Lib.firstT s[i].toNat / 16))=none:=by
   unfold Lib.checkN
   rw[ae (by omega),ae (by omega),ae (by omega)]
  rw[this]
  exact (by decide:(32:Int)≠0)
 ·rw[N,aa,R]
  generalize Lib.accLo (Lib.firstT s[i].toNat / 16)=lo
  generalize Lib.accHi (Lib.firstT s[i].toNat / 16)=j
  have Y:decide (((n:Nat):Int)<0)=false:=by simp
  simp only[Y,ah,aj]
  have J:n=1\/n=2\/n=3:=by simpa using hn
  -- step by step
  obtain⟨a1,a2⟩:=rj hs i ((n:Int),(lo:Int),(j:Int)) n 1 lo j rfl (by omega) (by omega) (by omega)
  have U:((lo:Int),(j:Int),(1:Int))=((lo:Int),(j:Int),((1:Nat):Int)):=rfl
  rw[U]
  by_cases o1:okB (s.drop i) 1 lo j
  ·rw[bp (a1 o1)]
   have V:=o1
   unfold okB at V
   rcases J with rfl | rfl | rfl
   ·obtain⟨r,A,B,r3⟩:=wS hs i (((1:Nat):Int),(lo:Int),(j:Int)) 1 ((128:Nat):Int) ((191:Nat):Int) rfl (by omega)
    refine⟨r,bI A,?_⟩
    have:Lib.checkN (s.drop i).length ((s.drop i).getD 1 0).toNat ((s.drop i).getD 2 0).toNat ((s.drop i).getD 3 0).toNat (1+1) lo j=some 2:=by
     unfold Lib.checkN
     rw[ag rfl,ae (by omega)]
    rw[this]
    exact⟨B,by rw[r3],by omega,by omega⟩
   ·obtain⟨b1,O⟩:=rj hs i (((2:Nat):Int),(lo:Int),(j:Int)) 2 2 128 191 rfl (by omega) (by omega) (by omega)
    by_cases o2:okB (s.drop i) 2 128 191
    ·rw[bp (b1 o2)]
     have G:=o2
     unfold okB at G
     obtain⟨r,A,B,r3⟩:=wS hs i (((2:Nat):Int),(lo:Int),(j:Int)) 2 ((128:Nat):Int) ((191:Nat):Int) rfl (by omega)
     refine⟨r,bI A,?_⟩
     have:Lib.checkN (s.drop i).length ((s.drop i).getD 1 0).toNat ((s.drop i).getD 2 0).toNat ((s.drop i).getD 3 0).toNat (2+1) lo j=some 3:=by
      unfold Lib.checkN
      rw[ae (by omega),ag rfl,ae (by omega)]
     rw[this]
     exact⟨B,by rw[r3],by omega,by omega⟩
    ·obtain⟨r,A,B⟩:=O o2
     refine⟨r,bI A,?_⟩
     have G:=o2
     unfold okB at G
     have:Lib.checkN (s.drop i).length ((s.drop i).getD 1 0).toNat ((s.drop i).getD 2 0).toNat ((s.drop i).getD 3 0).toNat (2+1) lo j=none:=by
      unfold Lib.checkN
      rw[ae (by omega),ag rfl,ag (by omega)]
     rw[this]
     exact B
   ·obtain⟨b1,O⟩:=rj hs i (((3:Nat):Int),(lo:Int),(j:Int)) 3 2 128 191 rfl (by omega) (by omega) (by omega)
    by_cases o2:okB (s.drop i) 2 128 191
    ·rw[bp (b1 o2)]
     have G:=o2
     unfold okB at G
     obtain⟨Z,c2⟩:=rj hs i (((3:Nat):Int),(lo:Int),(j:Int)) 3 3 128 191 rfl (by omega) (by omega) (by omega)
     by_cases o3:okB (s.drop i) 3 128 191
     ·rw[bp (Z o3)]
      have I:=o3
      unfold okB at I
      obtain⟨r,A,B,r3⟩:=wS hs i (((3:Nat):Int),(lo:Int),(j:Int)) 3 ((128:Nat):Int) ((191:Nat):Int) rfl (by omega)
      refine⟨r,bI A,?_⟩
      have:Lib.checkN (s.drop i).length ((s.drop i).getD 1 0).toNat ((s.drop i).getD 2 0).toNat ((s.drop i).getD 3 0).toNat (3+1) lo j=some 4:=by
       unfold Lib.checkN
       rw[ae (by omega),ae (by omega),ag rfl,ae (by omega)]
      rw[this]
      exact⟨B,by rw[r3],by omega,by omega⟩
     ·obtain⟨r,A,B⟩:=c2 o3
      refine⟨r,bI A,?_⟩
      have I:=o3
      unfold okB at I
      have:Lib.checkN (s.drop i).length ((s.drop i).getD 1 0).toNat ((s.drop i).getD 2 0).toNat ((s.drop i).getD 3 0).toNat (3+1) lo j=none:=by
       unfold Lib.checkN
       rw[ae (by omega),ae (by omega),ag rfl,ag (by omega)]
      rw[this]
      exact B
    ·obtain⟨r,A,B⟩:=O o2
     refine⟨r,bI A,?_⟩
     have G:=o2
     unfold okB at G
     have:Lib.checkN (s.drop i).length ((s.drop i).getD 1 0).toNat ((s.drop i).getD 2 0).toNat ((s.drop i).getD 3 0).toNat (3+1) lo j=none:=by
      unfold Lib.checkN
      rw[ae (by omega),ae (by omega),ag rfl,ag (by omega)]
     rw[this]
     exact B
  ·obtain⟨r,A,B⟩:=a2 o1
   refine⟨r,bI A,?_⟩
   unfold okB at o1
   have:Lib.checkN (s.drop i).length ((s.drop i).getD 1 0).toNat ((s.drop i).getD 2 0).toNat ((s.drop i).getD 3 0).toNat (n+1) lo j=none:=by
    unfold Lib.checkN
    rcases J with rfl | rfl | rfl
    ·rw[ag rfl,ag (by omega)]
    ·rw[ae (by omega),ag rfl,ag (by omega)]
    ·rw[ae (by omega),ae (by omega),ag rfl,ag (by omega)]
   rw[this]
   exact B
theorem Hh (hs:s.length<=2000000):F.Z8 s=some (Lib.validD s):=by
 have O:∀k i,s.length - i=k->i<=s.length->loop (F.UO s) (i:Int)=some (Lib.validD (s.drop i)):=by
  intro k
  induction k using Nat.strongRecOn with
  | _ k ih=>
   intro i hk hi
   by_cases hl:i<s.length
   ·have j:decide ((i:Int)<(s.length:Int))=true:=by simp; omega
    have hd:s.drop i=s[i] :: s.drop (i+1):=bc hl
    by_cases hc:s[i].toNat<128
    ·have B:decide (s[i]<128)=true:=by simp only[ak,iY]; exact hc
     have:F.UO s (i:Int)=some (.inl ((i+1:Nat):Int)):=by
      simp only[F.UO,j,am,bX hl,aa,B]
      rw[aD (by omega) (by omega)]
      rfl
     rw[bp this,ih (s.length - (i+1)) (by omega) (i+1) rfl (by omega),hd,Lib.validD_cons _ _ hc]
    ·have B:decide (s[i]<128)=false:=by simp only[iq,iY]; exact hc
     obtain⟨r,R,I⟩:=OU hs i hl (by omega)
     have U:s.drop i≠[]:=by rw[hd]; exact List.cons_ne_nil _ _
     have G:(s.drop i).getD 0 0=s[i]:=by rw[hd]; rfl
     have V:=Lib.validD_lead (s.drop i) U (by rw[G]; omega)
     rw[G]at V
     rw[V]
     split at I
     ·rename_i A
      rw[A]
      refine bI ?_
      have J:(r.2.2.2.1 != 0)=true:=by simpa using I
      simp only[F.UO,j,am,bX hl,aa,B,ah,aj,R,J]
      rfl
     ·rename_i N A
      rw[A]
      obtain⟨Y,Z,h5,h6⟩:=I
      have J:(r.2.2.2.1 != 0)=false:=by simp[Y]
      have:F.UO s (i:Int)=some (.inl ((i+N:Nat):Int)):=by
       simp only[F.UO,j,am,bX hl,aa,B,ah,aj,R,J,Z]
       rfl
      rw[bp this,ih (s.length - (i+N)) (by omega) (i+N) rfl h6]
      simp only[gk]
   ·have X:i=s.length:=by omega
    have j:decide ((i:Int)<(s.length:Int))=false:=by simp; omega
    refine bI ?_
    simp only[F.UO,j,ah,aj]
    rw[X,eJ]
    rfl
 have:=O s.length 0 (by omega) (by omega)
 exact this
theorem ND (hs:s.length<=2000000):F.Z6 s=some (Lib.validD s):=by
 obtain⟨N,j⟩:=JK (s:=s) hs
 obtain⟨w2,A⟩:=IN (s:=s) hs
 have hp:F.aaM 5 [] s false 0 0=some (Lib.validD s):=by
  simp only[F.aaM,F.Wc,F.aaJ,j,A,Hh hs,aa]
  rfl
 have B:F.Z8 []=some true:=by
  have:=Hh (s:=[]) (by simp)
  rw[this]; rfl
 unfold F.Z6 F.abJ F.abC
 have G:F.Xr 64 [(5,[],s,false,0,0)] 0 false 0=some (if Lib.validD s=true then 1 else -1):=by
  rw[F.Xr]
  unfold F.aby
  have I:decide (((([(5,[],s,false,0,0)]:List (Int×L01×L01×Bool×Int×Int)).length:Nat):Int)<=0)=false:=by simp
  have J:ax ([(5,[],s,false,0,0)]:List (Int×L01×L01×Bool×Int×Int)) (0:Int)=some (5,[],s,false,0,0):=pF _ _
  simp only[I,ah,aj,J,aa,hp,B]
  cases Lib.validD s
  ·rfl
  ·have hL:loop (F.abH [(5,[],s,false,0,0)] 0 (F.Xr 63) (5,[],s,false,0,0)) (wI (0+1),[],0)=some 1:=by
    refine bI ?_
    rfl
   show F.Uv 0 [(5,[],s,false,0,0)] 0 (F.Xr 63) (5,[],s,false,0,0) false=_
   unfold F.Uv
   rw[ae (by simp),hL]
   rfl
 rw[G]
 cases Lib.validD s <;> rfl
end
theorem HN {τ:Type} [BEq τ] [LawfulBEq τ] {f:Int->Option (Int⊕Bool)} {a b:List τ} (hl:a.length=b.length)
  (j:∀(i:Nat) (h:i<a.length),f (i:Int)=if (a[i] != b[i])=true then some (.inr false) else some (.inl ((i+1:Nat):Int))) (A:f (a.length:Int)=some (.inr true)):loop f 0=some (a == b):=by
 have B:∀k i,a.length - i=k->i<=a.length->loop f (i:Int)=some (a.drop i == b.drop i):=by
  intro k
  induction k with
  | zero=>
   intro i I J
   have hi:i=a.length:=by omega
   subst hi
   rw[bI A]
   simp[gz,hl]
  | succ k ih=>
   intro i I J
   have G:i<a.length:=by omega
   have N:i<b.length:=by omega
   have hs:=j i G
   rw[bc G,bc N]
   by_cases he:(a[i] != b[i])=true
   ·rw[ag he]at hs
    rw[bI hs]
    have:(a[i] == b[i])=false:=by simpa [bne] using he
    simp only[List.cons_beq_cons,this,ea]
   ·rw[ae he]at hs
    rw[bp hs,ih (i+1) (by omega) (by omega)]
    have:(a[i] == b[i])=true:=by simpa [bne] using he
    simp only[List.cons_beq_cons,this,eE]
 have:=B a.length 0 (by omega) (by omega)
 simpa using this
theorem um (a b:L01) (ha:a.length<9223372036854775807):F.Yu a b=some (a == b):=by
 unfold F.Yu
 by_cases hl:a.length=b.length
 ·have j:((a.length:Int) != (b.length:Int))=false:=by simp[hl]
  simp only[j,ah,aj]
  refine HN hl (fun i h=>?_) ?_
  ·have A:decide ((i:Int)<(a.length:Int))=true:=by simp; omega
   simp only[F.aaS,A,am,bX h,bX (show i<b.length by omega),aa]
   rw[aD (by omega) (by omega)]
   rfl
  ·have A:decide ((a.length:Int)<(a.length:Int))=false:=by simp
   simp only[F.aaS,A,ah,aj]
   rfl
 ·have j:((a.length:Int) != (b.length:Int))=true:=by simp; omega
  simp only[j,am]
  congr 1
  symm
  rw[c8]
  rintro rfl
  exact hl rfl
theorem oL:∀(k:Nat) (n:UInt64),(be k n).length=k
 | 0,_=>rfl
 | k+1,n=>by simp[be,oL k n]
theorem ux (n:UInt64):wd n=0\/wd n=1\/wd n=2\/wd n=4\/wd n=8:=by
 unfold wd
 repeat' split
 all_goals simp
theorem wd0 {n:UInt64} (h:wd n=0):n.toNat<24:=by
 unfold wd at h
 repeat' split at h
 all_goals first | omega | (rename_i j; simpa [bd] using j)
theorem Ac (m:Nat) (n:UInt64):(hd m n).length=1+wd n:=by
 unfold hd; split
 ·simp; omega
 ·simp[oL]; omega
theorem jn (m:Nat) (n:UInt64):(hd m n).length<=9:=by have:=Ac m n; have:=Lp n; omega
theorem Ee {n:UInt64} (h:n.toNat<24):∃k:Fin 24,n=UInt64.ofNat k.val:=⟨⟨n.toNat,h⟩,by simp⟩
theorem Gu (x:UInt64):(x &&& 255).toUInt8=x.toUInt8:=by
 apply et.1
 have:=uA x.toNat 8
 simp only[gZ,jg]
 simp at this
 simp[this]
theorem Rk (k:Nat) (h:k<=8):(UInt64.ofInt (wI (8*(k:Int)))).toNat=8*k:=by
 rw[aD (by omega) (by omega),show (8*(k:Int))=((8*k:Nat):Int) by simp,gr]
 simp; omega
theorem Il (f:L01×Int->Option ((L01×Int)⊕L01)) (n:UInt64) (A:∀j (x:Int),x<0->f (j,x)=some (.inr j))
  (B:∀j (k:Nat),k<=8->j.length<=20->f (j,(k:Int))=some (.inl (j++[(bb n (8*k)).toUInt8],(k:Int) - 1))) :
  ∀(k:Nat) (j:L01),k<=8->j.length+k<=20->loop f (j,(k:Int) - 1)=some (j++be k n)
 | 0,j,_,_=>by
  rw[bI (A j _ (by simp))]; simp[be]
 | k+1,j,h,h2=>by
  have e:((k+1:Nat):Int) - 1=(k:Int):=by simp
  rw[e,bp (B j k (by omega) (by omega)),Il f n A B k _ (by omega) (by simp; omega)]
  simp[be]
theorem zl (n:UInt64) (k:Nat) (j:L01) (h:k<=8) (A:j.length+k<=20):loop (F.aaz n) (j,(k:Int) - 1)=some (j++be k n):=by
 refine Il _ n (fun j x hx=>?_) (fun j k B ha=>?_) k j h A
 ·have:decide ((0:Int)<=x)=false:=by simp; omega
  simp only[F.aaz,this,ah,aj]; rfl
 ·have:decide ((0:Int)<=(k:Int))=true:=by simp
  simp only[F.aaz,this,am,Rk k B,Gu]
  rw[g8 (by simp; omega),aa,aD (by omega) (by omega)]; rfl
theorem G0:∀(m:Fin 8) (k:Fin 24),UInt8.ofInt (wI (32*(m.val:Int)))+(UInt64.ofNat k.val).toUInt8=UInt8.ofNat (32*m.val)+(UInt64.ofNat k.val).toUInt8:=by decide
theorem IR:∀(m:Fin 8) (k:Fin 24),(UInt8.ofInt (gL (m.val:Int) 5)) ||| (UInt64.ofNat k.val).toUInt8=UInt8.ofNat (32*m.val)+(UInt64.ofNat k.val).toUInt8:=by decide
theorem pm:∀(m:Fin 8) (g:Fin 4),UInt8.ofInt (wI (wI (32*(m.val:Int))+(24+(g.val:Int))))=UInt8.ofNat (32*m.val+24+g.val):=by decide
theorem Kt:∀(m:Fin 8),(UInt8.ofInt (gL (m.val:Int) 5)) ||| 24=UInt8.ofNat (32*m.val+24+0):=by decide
theorem KX:∀(m:Fin 8),(UInt8.ofInt (gL (m.val:Int) 5)+1) ||| 24=UInt8.ofNat (32*m.val+24+1):=by decide
theorem KQ:∀(m:Fin 8),(UInt8.ofInt (gL (m.val:Int) 5)+1+1) ||| 24=UInt8.ofNat (32*m.val+24+2):=by decide
theorem Ku:∀(m:Fin 8),(UInt8.ofInt (gL (m.val:Int) 5)+1+1+1) ||| 24=UInt8.ofNat (32*m.val+24+3):=by decide
theorem lZ (m:Nat) (hm:m<8) (n:UInt64):F.WZ (m:Int) n=some (hd m n):=by
 unfold F.WZ hd
 rw[wm,aa]
 rcases ux n with h | h | h | h | h
 ·obtain⟨k,rfl⟩:=Ee (wd0 h)
  rw[h]
  simp only[show ((0:Nat):Int)=0 from rfl,dL,am]
  rw[show ((m:Int))=(((⟨m,hm⟩:Fin 8).val:Nat):Int) from rfl,G0]
 ·rw[h]
  simp only[show ((1:Nat):Int)=1 from rfl,show ((1:Int) == 0)=false from rfl,ah,aj,show ¬(1=0) by omega]
  have j:F.TC (m:Int) 1 n (24,1)=some (.inr (UInt8.ofNat (32*m+24+0) :: be 1 n)):=by
   have:=zl n 1 [UInt8.ofInt (wI (wI (32*(m:Int))+24))] (by omega) (by simp)
   have e:=pm ⟨m,hm⟩ 0
   simp only[F.TC,eD,dr,ah,aj]
   rw[show wI (1 - 1)=((1:Nat):Int) - 1 from rfl,this]
   simp only[show (24+(((0:Fin 4).val:Nat):Int))=24 from rfl]at e
   simp only[bk,e]; rfl
  rw[bI j]; rfl
 ·rw[h]
  simp only[show ((2:Nat):Int)=2 from rfl,show ((2:Int) == 0)=false from rfl,ah,aj,show ¬(2=0) by omega]
  have j:F.TC (m:Int) 2 n (24,1)=some (.inl (25,2)):=rfl
  have A:F.TC (m:Int) 2 n (25,2)=some (.inr (UInt8.ofNat (32*m+24+1) :: be 2 n)):=by
   have:=zl n 2 [UInt8.ofInt (wI (wI (32*(m:Int))+25))] (by omega) (by simp)
   have e:=pm ⟨m,hm⟩ 1
   simp only[F.TC,eD,dr,ah,aj]
   rw[show wI (2 - 1)=((2:Nat):Int) - 1 from rfl,this]
   simp only[show (24+(((1:Fin 4).val:Nat):Int))=25 from rfl]at e
   simp only[bk,e]; rfl
  rw[bp j,bI A]; rfl
 ·rw[h]
  simp only[show ((4:Nat):Int)=4 from rfl,show ((4:Int) == 0)=false from rfl,ah,aj,show ¬(4=0) by omega]
  have j:F.TC (m:Int) 4 n (24,1)=some (.inl (25,2)):=rfl
  have A:F.TC (m:Int) 4 n (25,2)=some (.inl (26,4)):=rfl
  have B:F.TC (m:Int) 4 n (26,4)=some (.inr (UInt8.ofNat (32*m+24+2) :: be 4 n)):=by
   have:=zl n 4 [UInt8.ofInt (wI (wI (32*(m:Int))+26))] (by omega) (by simp)
   have e:=pm ⟨m,hm⟩ 2
   simp only[F.TC,eD,dr,ah,aj]
   rw[show wI (4 - 1)=((4:Nat):Int) - 1 from rfl,this]
   simp only[show (24+(((2:Fin 4).val:Nat):Int))=26 from rfl]at e
   simp only[bk,e]; rfl
  rw[bp j,bp A,bI B]; rfl
 ·rw[h]
  simp only[show ((8:Nat):Int)=8 from rfl,show ((8:Int) == 0)=false from rfl,ah,aj,show ¬(8=0) by omega]
  have j:F.TC (m:Int) 8 n (24,1)=some (.inl (25,2)):=rfl
  have A:F.TC (m:Int) 8 n (25,2)=some (.inl (26,4)):=rfl
  have B:F.TC (m:Int) 8 n (26,4)=some (.inl (27,8)):=rfl
  have G:F.TC (m:Int) 8 n (27,8)=some (.inr (UInt8.ofNat (32*m+24+3) :: be 8 n)):=by
   have:=zl n 8 [UInt8.ofInt (wI (wI (32*(m:Int))+27))] (by omega) (by simp)
   have e:=pm ⟨m,hm⟩ 3
   simp only[F.TC,eD,dr,ah,aj]
   rw[show wI (8 - 1)=((8:Nat):Int) - 1 from rfl,this]
   simp only[show (24+(((3:Fin 4).val:Nat):Int))=27 from rfl]at e
   simp only[bk,e]; rfl
  rw[bp j,bp A,bp B,bI G]; rfl
theorem te {τ:Type} {l:List τ} {i:Nat} (h:i<=l.length):drO l (i:Int)=some (l.drop i):=by
 unfold drO; rw[ag (by constructor <;> simp; exact h)]; simp
theorem LW (out:L01) (n:UInt64) (x:UInt8):F.Tm out n 2 (x,2)=bk (af (apO 1 out ((x ||| 24) :: be 2 n)) fun x=>some x):=by
 simp only[F.Tm,eD,dr,ah,aj]
 rw[show wI (1+2)=3 from rfl]
 rw[show mkO 1 (3) (3) (0:UInt8)=some [0,0,0] from by simp[mkO,List.replicate]]
 rw[aa,pF,aa,aG,show (0:Int).toNat=0 from rfl,iF]
 rw[show drO ((x ||| 24) :: [0,0]) (1:Int)=some [0,0] from by simp[drO],aa]
 rw[show wI (8 - 2)=((6:Nat):Int) from rfl,te (by simp),aa,aG]
 rfl
theorem MM (out:L01) (n:UInt64) (x:UInt8):F.Tm out n 4 (x,4)=bk (af (apO 1 out ((x ||| 24) :: be 4 n)) fun x=>some x):=by
 simp only[F.Tm,eD,dr,ah,aj]
 rw[show wI (1+4)=5 from rfl]
 rw[show mkO 1 (5) (5) (0:UInt8)=some [0,0,0,0,0] from by simp[mkO,List.replicate]]
 rw[aa,pF,aa,aG,show (0:Int).toNat=0 from rfl,iF]
 rw[show drO ((x ||| 24) :: [0,0,0,0]) (1:Int)=some [0,0,0,0] from by simp[drO],aa]
 rw[show wI (8 - 4)=((4:Nat):Int) from rfl,te (by simp),aa,aG]
 rfl
theorem Ma (out:L01) (n:UInt64) (x:UInt8):F.Tm out n 8 (x,8)=bk (af (apO 1 out ((x ||| 24) :: be 8 n)) fun x=>some x):=by
 simp only[F.Tm,eD,dr,ah,aj]
 rw[show wI (1+8)=9 from rfl]
 rw[show mkO 1 (9) (9) (0:UInt8)=some [0,0,0,0,0,0,0,0,0] from by simp[mkO,List.replicate]]
 rw[aa,pF,aa,aG,show (0:Int).toNat=0 from rfl,iF]
 rw[show drO ((x ||| 24) :: [0,0,0,0,0,0,0,0]) (1:Int)=some [0,0,0,0,0,0,0,0] from by simp[drO],aa]
 rw[show wI (8 - 8)=((0:Nat):Int) from rfl,te (by simp),aa,aG]
 rfl
theorem CZ (out:L01) (m:Nat) (hm:m<8) (n:UInt64) (I:out.length<=200000000000000):F.Ya out (m:Int) n=some (out++hd m n):=by
 unfold F.Ya hd
 rw[A1,aa]
 rcases ux n with h | h | h | h | h
 ·obtain⟨k,rfl⟩:=Ee (wd0 h)
  rw[h]
  simp only[show ((0:Nat):Int)=0 from rfl,dL,am]
  rw[g8 (by simp; omega),aa,show ((m:Int))=(((⟨m,hm⟩:Fin 8).val:Nat):Int) from rfl,IR]
 ·rw[h]
  have e:=Kt ⟨m,hm⟩
  simp only at e
  simp only[show ((1:Nat):Int)=1 from rfl,show ((1:Int) == 0)=false from rfl,dL,am,ah,aj,show ¬(1=0) by omega,aG,e]
  rw[g8 (by simp; omega),aa]
  simp[be,lg,bb]
 ·rw[h]
  simp only[show ((2:Nat):Int)=2 from rfl,show ((2:Int) == 0)=false from rfl,show ((2:Int) == 1)=false from rfl,ah,aj,show ¬(2=0) by omega]
  have j:F.Tm out n 2 (UInt8.ofInt (gL (m:Int) 5),1)=some (.inl (UInt8.ofInt (gL (m:Int) 5)+1,2)):=rfl
  have A:F.Tm out n 2 (UInt8.ofInt (gL (m:Int) 5)+1,2)=some (.inr (out++UInt8.ofNat (32*m+24+1) :: be 2 n)):=by
   have e:=KX ⟨m,hm⟩
   simp only at e
   rw[LW,e,g8 (by simp[oL]; omega)]; rfl
  rw[bp j,bI A]; rfl
 ·rw[h]
  simp only[show ((4:Nat):Int)=4 from rfl,show ((4:Int) == 0)=false from rfl,show ((4:Int) == 1)=false from rfl,ah,aj,show ¬(4=0) by omega]
  have j:F.Tm out n 4 (UInt8.ofInt (gL (m:Int) 5),1)=some (.inl (UInt8.ofInt (gL (m:Int) 5)+1,2)):=rfl
  have A:F.Tm out n 4 (UInt8.ofInt (gL (m:Int) 5)+1,2)=some (.inl (UInt8.ofInt (gL (m:Int) 5)+1+1,4)):=rfl
  have B:F.Tm out n 4 (UInt8.ofInt (gL (m:Int) 5)+1+1,4)=some (.inr (out++UInt8.ofNat (32*m+24+2) :: be 4 n)):=by
   have e:=KQ ⟨m,hm⟩
   simp only at e
   rw[MM,e,g8 (by simp[oL]; omega)]; rfl
  rw[bp j,bp A,bI B]; rfl
 ·rw[h]
  simp only[show ((8:Nat):Int)=8 from rfl,show ((8:Int) == 0)=false from rfl,show ((8:Int) == 1)=false from rfl,ah,aj,show ¬(8=0) by omega]
  have j:F.Tm out n 8 (UInt8.ofInt (gL (m:Int) 5),1)=some (.inl (UInt8.ofInt (gL (m:Int) 5)+1,2)):=rfl
  have A:F.Tm out n 8 (UInt8.ofInt (gL (m:Int) 5)+1,2)=some (.inl (UInt8.ofInt (gL (m:Int) 5)+1+1,4)):=rfl
  have B:F.Tm out n 8 (UInt8.ofInt (gL (m:Int) 5)+1+1,4)=some (.inl (UInt8.ofInt (gL (m:Int) 5)+1+1+1,8)):=rfl
  have G:F.Tm out n 8 (UInt8.ofInt (gL (m:Int) 5)+1+1+1,8)=some (.inr (out++UInt8.ofNat (32*m+24+3) :: be 8 n)):=by
   have e:=Ku ⟨m,hm⟩
   simp only at e
   rw[Ma,e,g8 (by simp[oL]; omega)]; rfl
  rw[bp j,bp A,bp B,bI G]; rfl
abbrev Wr:=Nat->Option (L01×Nat)
def cW (rec:Wr) (pr:Bool):Nat->Bool->Option L01->Wr
 | 0,_,_,i=>some ([],i)
 | r+1,key,last,i=>match rec i with
  | none=>none
  | some (t,j)=>
   if (pr&&key&&!jL last t)=true then none
   else match cW rec pr r (!key) (if (pr&&key)=true then some t else last) j with
    | none=>none
    | some (u,k)=>some (t++u,k)
def cu (x:It):Prop:=
 if x.1=0\/x.1=1 then x.2.2.1=[]/\x.2.2.2=0
 else if x.1=2 then x.2.1=0/\x.2.2.2=0
 else if x.1=3 then x.2.1=0/\x.2.2.2=0/\Lib.validD x.2.2.1=true
 else if x.1=4 then x.2.1=0/\x.2.2.1=[]/\0<=x.2.2.2
 else if x.1=5 then x.2.1=0/\x.2.2.1=[]/\0<=x.2.2.2/\x.2.2.2%2=0
 else if x.1=6 then x.2.2.1=[]/\x.2.2.2=1
 else if x.1=7 then x.2.2.1=[]/\x.2.2.2=0/\20<=x.2.1.toNat/\x.2.1.toNat<=22
 else False
instance (x:It):Decidable (cu x):=by unfold cu; infer_instance
def dK (x:It):UInt64:=
 if x.1=2\/x.1=3 then UInt64.ofNat x.2.2.1.length else if x.1=4 then UInt64.ofInt x.2.2.2 else if x.1=5 then UInt64.ofInt (x.2.2.2 / 2) else x.2.1
def fF (v:List It) (sub:Option Wr):Wr:=fun i=>match v[i]? with
 | none=>none
 | some x=>
  if ¬cu x then none
  else if x.1=4\/x.1=5\/x.1=6 then match sub with
   | none=>none
   | some rec=>match cW rec (x.1 == 5) x.2.2.2.toNat true none (i+1) with
    | none=>none
    | some (t,j)=>some (hd x.1.toNat (dK x)++t,j)
  else some (hd x.1.toNat (dK x)++x.2.2.1,i+1)
def cz:Nat->List It->Wr
 | 0,v=>fF v none
 | d+1,v=>fF v (some (cz d v))
def wt:List It->Nat
 | []=>0
 | x :: r=>9+x.2.2.1.length+wt r
theorem wR {v:List It} {i:Nat} (h:i<v.length):wt (v.drop i)=9+v[i].2.2.1.length+wt (v.drop (i+1)):=by
 rw[bc h]; rfl
def Put (v:List It) (rec:Wr):Prop:=∀i t j,rec i=some (t,j)->i<j/\j<=v.length/\t.length+wt (v.drop j)<=wt (v.drop i)
theorem kZ {v:List It} {rec:Wr} (h:Put v rec) (B:Bool):∀(r:Nat) (A:Bool) (last:Option L01) (i:Nat) (t:L01) (j:Nat),i<=v.length ->
  cW rec B r A last i=some (t,j)->i+r<=j/\j<=v.length/\t.length+wt (v.drop j)<=wt (v.drop i)
 | 0,A,last,i,t,j,hi,h1=>by
  simp only[cW]at h1; cases h1; simp; exact hi
 | r+1,A,last,i,t,j,hi,h1=>by
  simp only[cW]at h1
  cases h2:rec i with
  | none=>rw[h2]at h1; cases h1
  | some a=>
   obtain⟨I,G⟩:=a
   rw[h2]at h1
   simp only at h1
   obtain⟨N,J,O⟩:=h i I G h2
   split at h1
   ·cases h1
   ·cases h6:cW rec B r (!A) (if (B&&A)=true then some I else last) G with
    | none=>rw[h6]at h1; cases h1
    | some b=>
     obtain⟨u,k⟩:=b
     rw[h6]at h1
     simp only at h1
     cases h1
     have:=kZ h B r _ _ G u j J h6
     simp only[aE]; omega
theorem yi {v:List It} {sub:Option Wr} (h:∀rec,sub=some rec->Put v rec):Put v (fF v sub):=by
 intro i t j A
 unfold fF at A
 split at A
 ·cases A
 ·rename_i x hx
  obtain⟨hi,rfl⟩:=aF.1 hx
  have hw:=wR hi
  have G:=jn v[i].1.toNat (dK v[i])
  split at A
  ·cases A
  ·split at A
   ·cases sub with
    | none=>cases A
    | some rec=>
     simp only at A
     split at A
     ·cases A
     ·rename_i I J B
      cases A
      have:=kZ (h rec rfl) _ _ _ _ _ _ _ (by omega) B
      simp only[aE]; omega
   ·cases A
    simp only[aE]; omega
theorem iN (v:List It):∀d,Put v (cz d v)
 | 0=>yi (by simp)
 | d+1=>yi (by intro rec h; cases h; exact iN v d)
def dT (out:L01):Option (L01×Nat)->L01×Int
 | none=>([],-1)
 | some (t,j)=>(out++t,(j:Int))
def Bd (v:List It) (rc:L01->List It->Int->Int->Option (L01×Int)) (w:Int) (rec:Wr):Prop:=
 ∀(out:L01) (i:Nat),i<=v.length->out.length+wt (v.drop i)<=4000000000000->rc out v (i:Int) w=some (dT out (rec i))
theorem Kz (l:L01) (h:l.length<=4000000000000):F.Zg l=some l:=by
 unfold F.Zg
 rw[g8 (by simp; omega)]; rfl
theorem zw (i:Nat):(Int.tmod (i:Int) 2 == 0)=decide (i%2=0):=by
 have:Int.tmod (i:Int) 2=((i%2:Nat):Int):=by
  rw[cn (by omega)]; simp
 rw[this]
 rcases gF i with h | h <;> simp[h]
section
variable {v:List It} {rc:L01->List It->Int->Int->Option (L01×Int)} {w:Int} {rec:Wr}
theorem Mg (hv:v.length<=4000000000000) (hm:Put v rec) (ab:Bd v rc (wI (w+1)) rec) (x:It) (hx:x.2.2.2<=9223372036854775807) :
  ∀(r i:Nat) (out last:L01) (L:Option L01) (a:Nat),((i+r:Nat):Int)=x.2.2.2->a<=v.length->out.length+wt (v.drop a)<=4000000000000->last.length<=out.length ->
   ((x.1 == 5)=true->(i=0/\L=none\/0<i/\L=some last)) ->
   loop (F.T5 v w rc x) (out,(a:Int),last,(i:Int))=some (dT out (cW rec (x.1 == 5) r (decide (i%2=0)) L a)):=by
 intro r
 induction r with
 | zero=>
  intro i out last L a h1 h2 h3 h4 Y
  refine bI ?_
  have:decide ((i:Int)<x.2.2.2)=false:=by simp; omega
  simp only[F.T5,this,ah,aj,cW,dT,bM]
  rfl
 | succ r ih=>
  intro i out last L a h1 h2 h3 h4 Y
  have O:decide ((i:Int)<x.2.2.2)=true:=by simp; omega
  have G:wI ((i:Int)+1)=((i+1:Nat):Int):=by rw[aD (by omega) (by omega)]; simp
  have R:(!decide (i%2=0))=decide ((i+1)%2=0):=by
   rcases gF i with h | h
   ·have:(i+1)%2=1:=by omega
    simp[h,this]
   ·have:(i+1)%2=0:=by omega
    simp[h,this]
  simp only[cW]
  have J:=ab out a h2 h3
  cases hx1:rec a with
  | none=>
   rw[hx1]at J
   refine bI ?_
   simp only[F.T5,O,am,J,aa,dT]
   rfl
  | some y=>
   obtain⟨t,j⟩:=y
   rw[hx1]at J
   simp only[dT]at J
   obtain⟨h6,h7,h8⟩:=hm a t j hx1
   have hj:decide ((j:Int)<0)=false:=by simp
   simp only
   have hT:t.length<=4000000000000:=by omega
   have b2:last.length<=4000000000000:=by omega
   have step:(x.1 == 5&&decide (i%2=0))=false->F.T5 v w rc x (out,(a:Int),last,(i:Int))=some (.inl (out++t,(j:Int),last,((i+1:Nat):Int))):=by
    intro N
    rw[Bool.and_eq_false_iff]at N
    simp only[F.T5,O,am,J,aa,hj,ah,aj]
    rcases N with N | N
    ·simp only[N,ah,aj,F.U7,F.U1,G]; rfl
    ·split
     ·simp only[zw,N,ah,aj,F.U7,F.U1,G]; rfl
     ·simp only[ah,aj,F.U7,F.U1,G]; rfl
   by_cases hpk:(x.1 == 5&&decide (i%2=0))=true
   ·rw[aO]at hpk
    obtain⟨I,U⟩:=hpk
    simp only[I,U,Bool.and_self,eE,am]
    have bx:drO (out++t) ((out.length:Int))=some t:=by rw[te (by simp)]; simp
    have V:∀q,(q=true->jL L t=false)->(q=false->jL L t=true)->F.VD (out++t,(j:Int)) t (i:Int) q =
      some (if q=true then .inr ([],-1) else .inl (out++t,(j:Int),t,((i+1:Nat):Int))):=by
     intro q _ _
     cases q
     ·simp only[F.VD,ah,aj,Kz t hT,aa,F.U1,G]; rfl
     ·simp only[F.VD,am]; rfl
    have A:F.T5 v w rc x (out,(a:Int),last,(i:Int))=some (if jL L t=false then .inr ([],-1) else .inl (out++t,(j:Int),t,((i+1:Nat):Int))):=by
     simp only[F.T5,O,am,J,aa,hj,ah,aj,I,zw,U,F.U7,bx]
     rcases Y I with⟨rfl,rfl⟩ | ⟨Z,rfl⟩
     ·simp only[show (decide ((0:Int)<((0:Nat):Int)))=false from rfl,ah,aj]
      rw[V false (by simp) (by simp[jL])]
      simp[jL]
     ·have:decide ((0:Int)<(i:Int))=true:=by simp; omega
      simp only[this,am,vD last t (by omega),aa,tR]
      rw[V _ (by simp[jL]) (by simp[jL])]
      cases hlx:jV last t <;> simp[jL,hlx]
    cases hko:jL L t
    ·rw[hko]at A
     simp only[am]at A
     rw[bI A]
     simp[dT]
    ·rw[hko]at A
     simp only[Bool.true_eq_false,aj]at A
     rw[bp A]
     simp only[db,ah,aj]
     rw[ih (i+1) (out++t) t (some t) j (by omega) h7 (by simp; omega) (by simp) (fun _=>.inr ⟨by omega,rfl⟩),<-R,U]
     simp only[I,db]
     cases cW rec true r false (some t) j with
     | none=>rfl
     | some z=>obtain⟨u,k⟩:=z; simp[dT]
   ·have B:(x.1 == 5&&decide (i%2=0))=false:=by simpa using hpk
    rw[bp (step B)]
    simp only[B,ea,ah,aj]
    rw[ih (i+1) (out++t) last L j (by omega) h7 (by simp; omega) (by simp; omega) ?_,<-R]
    ·cases cW rec (x.1 == 5) r (!decide (i%2=0)) L j with
     | none=>rfl
     | some z=>obtain⟨u,k⟩:=z; simp[dT]
    ·intro X
     rcases Y X with⟨rfl,rfl⟩ | ⟨Z,rfl⟩
     ·exfalso; rw[X]at B; simp at B
     ·exact .inr ⟨by omega,rfl⟩
theorem qD (J:v.length<=4000000000000) (x:It) (m:Nat) (G:m<8) (B:x.1=(m:Int)) (n:UInt64) (out:L01) (a:Nat) (ha:a<v.length) (I:v[a]=x) (N:out.length+wt (v.drop a)<=4000000000000)
  (hx:x.2.2.2<=9223372036854775807) (R:0<=x.2.2.2) (A:x.2.2.2=0\/Put v rec/\Bd v rc (wI (w+1)) rec) :
  F.Ud out (a:Int) x n v w rc false=some (dT out (match cW rec (x.1 == 5) x.2.2.2.toNat true none (a+1) with
   | none=>none
   | some (t,j)=>some (hd m n++x.2.2.1++t,j))):=by
 have hw:=wR ha
 have hh:=jn m n
 rw[I]at hw
 unfold F.Ud
 simp only[ah,aj]
 rw[B,CZ out m G n (by omega),aa,g8 (by simp; omega),aa,aD (by omega) (by omega)]
 rcases A with A | ⟨hp,O⟩
 ·rw[A]
  refine bI ?_
  simp only[F.T5,A,eD,dr,ah,aj,Int.toNat_zero,cW,dT]
  simp only[bk,bL,aS,bM]
  rfl
 ·have:=Mg J hp O x hx x.2.2.2.toNat 0 (out++hd m n++x.2.2.1) [] none (a+1) (by omega) (by omega) (by simp; omega) (by simp) (fun _=>.inl ⟨rfl,rfl⟩)
  rw[show ((a:Int)+1)=((a+1:Nat):Int) by simp,show (0:Int)=((0:Nat):Int) from rfl,this,<-B]
  simp only[jC,ir]
  cases cW rec (x.1 == 5) x.2.2.2.toNat true none (a+1) with
  | none=>rfl
  | some z=>obtain⟨t,j⟩:=z; simp[dT]
theorem nL (m:Int):m<0\/7<m\/m=0\/m=1\/m=2\/m=3\/m=4\/m=5\/m=6\/m=7:=by omega
end
theorem vT {v:List It} {rc:L01->List It->Int->Int->Option (L01×Int)} {w:Nat} {sub:Option Wr} (hv:v.length<=4000000000000) (hI:∀x∈v,x.2.2.2<=9223372036854775807)
  (c0:w<=32) (J:sub=none↔w=32) (B:∀rec,sub=some rec->Put v rec/\Bd v rc ((w+1:Nat):Int) rec) :
  Bd v (F.Yp rc) (w:Int) (fF v sub):=by
 intro out a h1 h2
 unfold F.Yp fF
 rcases bY a v.length with G | cm
 ·have d1:decide ((v.length:Int)<=(a:Int))=false:=by simp; omega
  simp only[d1,ah,aj,bX G,aa,aA G]
  have hx:=hI v[a] (cM G)
  have c1:v[a]=v[a]:=rfl
  generalize O:v[a]=x at hx
  obtain⟨m,n,d,k⟩:=x
  simp only at hx
  have c2:d.length<=4000000000000:=by have:=wR G; rw[O]at this; simp only at this; omega
  have V:wI ((w:Int)+1)=((w+1:Nat):Int):=by rw[aD (by omega) (by omega)]; simp
  have X:∀(rec:Wr) (Y:Nat) (b2:Y<8) (b3:m=(Y:Int)) (nn:UInt64) (I:k=0),F.Ud out (a:Int) (m,n,d,k) nn v (w:Int) rc false=some (dT out (some (hd Y nn++d,a+1))):=by
   intro rec Y b2 b3 nn I
   have:=qD (w:=(w:Int)) (rc:=rc) (rec:=rec) hv (m,n,d,k) Y b2 b3 nn out a G O h2 hx (by simp only; omega) (.inl I)
   simpa [I,cW] using this
  have A:Wr:=fun _=>none
  have c3:∀{m:Int},(m=5)=((m == 5)=true):=by simp
  rcases nL m with hm | hm | rfl | rfl | rfl | rfl | rfl | rfl | rfl | rfl
  ·have e2:(m == 2)=false:=by simp; omega
   have e3:(m == 3)=false:=by simp; omega
   have l0:decide (m<0)=true:=by simp; omega
   have U:decide (m<2)=true:=by simp; omega
   have l7:decide ((7:Int)<m)=false:=by simp; omega
   have hf:¬cu (m,n,d,k):=by
    unfold cu
    simp only
    rw[ae (by omega),ae (by omega),ae (by omega),ae (by omega),ae (by omega),ae (by omega),ae (by omega)]; simp
   rw[ag hf]
   simp only[e2,e3,l0,U,l7,ah,aj,am,F.S0,F.SX,aG,jf,dT]
  ·have e2:(m == 2)=false:=by simp; omega
   have e3:(m == 3)=false:=by simp; omega
   have l0:decide (m<0)=false:=by simp; omega
   have U:decide (m<2)=false:=by simp; omega
   have l7:decide ((7:Int)<m)=true:=by simp; omega
   have hf:¬cu (m,n,d,k):=by
    unfold cu
    simp only
    rw[ae (by omega),ae (by omega),ae (by omega),ae (by omega),ae (by omega),ae (by omega),ae (by omega)]; simp
   rw[ag hf]
   simp only[e2,e3,l0,U,l7,ah,aj,am,F.S0,F.SX,aG,jf,dT]
  ·rw[ae (show ¬(((0:Int)=4)\/((0:Int)=5)\/((0:Int)=6)) by decide)]
   by_cases hg:d=[]/\k=0
   ·obtain⟨rfl,rfl⟩:=hg
    have K:=X A 0 (by omega) rfl n rfl
    simp[F.S0,F.SX,F.S2,F.Tn,F.Tq,F.Tk,cu,dK,aG,K]
   ·by_cases hd:d=[] <;> by_cases hn:n=0 <;> by_cases I:k=0 <;> by_cases j:k<0 <;> (try omega) <;>  simp_all [F.S0,F.SX,F.S2,F.Tn,F.Tq,F.Tk,cu,dK,aG,dT]
  ·rw[ae (show ¬(((1:Int)=4)\/((1:Int)=5)\/((1:Int)=6)) by decide)]
   by_cases hg:d=[]/\k=0
   ·obtain⟨rfl,rfl⟩:=hg
    have K:=X A 1 (by omega) rfl n rfl
    simp[F.S0,F.SX,F.S2,F.Tn,F.Tq,F.Tk,cu,dK,aG,K]
   ·by_cases hd:d=[] <;> by_cases hn:n=0 <;> by_cases I:k=0 <;> by_cases j:k<0 <;> (try omega) <;>  simp_all [F.S0,F.SX,F.S2,F.Tn,F.Tq,F.Tk,cu,dK,aG,dT]
  ·rw[ae (show ¬(((2:Int)=4)\/((2:Int)=5)\/((2:Int)=6)) by decide)]
   by_cases hg:n=0/\k=0
   ·obtain⟨rfl,rfl⟩:=hg
    have K:=X A 2 (by omega) rfl (UInt64.ofNat d.length) rfl
    simp[F.S0,F.SX,F.S2,F.Tn,F.Tq,cu,dK,aG,gr,K]
   ·by_cases hd:d=[] <;> by_cases hn:n=0 <;> by_cases I:k=0 <;> by_cases j:k<0 <;> (try omega) <;>  simp_all [F.S0,F.SX,F.S2,F.Tn,F.Tq,F.Tk,cu,dK,aG,dT]
  ·rw[ae (show ¬(((3:Int)=4)\/((3:Int)=5)\/((3:Int)=6)) by decide)]
   by_cases hg:n=0/\k=0/\Lib.validD d=true
   ·obtain⟨rfl,rfl,hu⟩:=hg
    have Z:F.Tk d=some true:=by unfold F.Tk; rw[ag (by omega),hu]
    have K:=X A 3 (by omega) rfl (UInt64.ofNat d.length) rfl
    simp[F.S0,F.SX,F.S2,F.Tn,F.Tq,cu,dK,aG,gr,Z,aa,hu,K]
   ·have Z:F.Tk d=some (Lib.validD d):=by unfold F.Tk; rw[ag (by omega)]
    by_cases hu:Lib.validD d=true <;> by_cases hd:d=[] <;> by_cases hn:n=0 <;> by_cases I:k=0 <;> by_cases j:k<0 <;> (try omega) <;>  simp_all [F.S0,F.SX,F.S2,F.Tn,F.Tq,Z,aa,cu,dK,aG,dT]
  ·by_cases hg:n=0/\d=[]/\0<=k
   ·obtain⟨rfl,rfl,N⟩:=hg
    have j:¬k<0:=by omega
    have hf:cu (4,0,[],k):=by simp[cu,N]
    rw[ae (show ¬¬cu (4,0,[],k) from fun h=>h hf),ag (show (4:Int)=4\/(4:Int)=5\/(4:Int)=6 by decide)]
    have e1:dK (4,0,[],k)=(UInt64.ofInt k):=by simp[dK]
    rw[e1]
    cases hs:sub with
    | none=>
     have hw:=J.1 hs
     subst hw
     simp[F.S0,F.SX,F.S2,F.Ud,aG,j,dT]
    | some rec=>
     have hw:w≠32:=fun h=>by have:=J.2 h; rw[hs]at this; cases this
     have R:((w:Int) == 32)=false:=by simp; omega
     have K:=qD (w:=(w:Int)) (rc:=rc) (rec:=rec) hv (4,0,[],k) 4 (by omega) rfl (UInt64.ofInt k) out a G O h2 hx N (.inr ⟨(B rec hs).1,by rw[V]; exact (B rec hs).2⟩)
     simp only[bM]at K
     simp[F.S0,F.SX,F.S2,aG,j,R]
     exact K
   ·have hf:¬cu (4,n,d,k):=by simpa [cu] using hg
    rw[ag hf]
    by_cases hd:d=[] <;> by_cases hn:n=0 <;> by_cases I:k=0 <;> by_cases j:k<0 <;> (try omega) <;>  simp_all [F.S0,F.SX,F.S2,F.Tn,F.Tq,F.Tk,cu,dK,aG,dT]
  ·by_cases hg:n=0/\d=[]/\0<=k/\k%2=0
   ·obtain⟨rfl,rfl,N,b4⟩:=hg
    have ac:Int.tmod k 2=0:=by rw[cn N]; exact b4
    have ad:wI (Int.tdiv k 2)=k / 2:=by rw[bN N,aD (by omega) (by omega)]
    have j:¬k<0:=by omega
    have hf:cu (5,0,[],k):=by simp[cu,N,b4]
    rw[ae (show ¬¬cu (5,0,[],k) from fun h=>h hf),ag (show (5:Int)=4\/(5:Int)=5\/(5:Int)=6 by decide)]
    have e1:dK (5,0,[],k)=(UInt64.ofInt (k / 2)):=by simp[dK]
    rw[e1]
    cases hs:sub with
    | none=>
     have hw:=J.1 hs
     subst hw
     simp[F.S0,F.SX,F.S2,F.Ud,aG,j,dT,ac,ad]
    | some rec=>
     have hw:w≠32:=fun h=>by have:=J.2 h; rw[hs]at this; cases this
     have R:((w:Int) == 32)=false:=by simp; omega
     have K:=qD (w:=(w:Int)) (rc:=rc) (rec:=rec) hv (5,0,[],k) 5 (by omega) rfl (UInt64.ofInt (k / 2)) out a G O h2 hx N (.inr ⟨(B rec hs).1,by rw[V]; exact (B rec hs).2⟩)
     simp only[bM]at K
     simp[F.S0,F.SX,F.S2,aG,j,R,ac,ad]
     exact K
   ·have hf:¬cu (5,n,d,k):=by simpa [cu] using hg
    rw[ag hf]
    have hq:0<=k->Int.tmod k 2=k%2:=fun h=>cn h
    by_cases hd:d=[] <;> by_cases hn:n=0 <;> by_cases I:k=0 <;> by_cases j:k<0 <;> (try omega) <;>  simp_all [F.S0,F.SX,F.S2,F.Tn,F.Tq,F.Tk,cu,dK,aG,dT]
  ·by_cases hg:d=[]/\k=1
   ·obtain⟨rfl,rfl⟩:=hg
    have N:(0:Int)<=1:=by omega
    have hf:cu (6,n,[],1):=by simp[cu]
    rw[ae (show ¬¬cu (6,n,[],1) from fun h=>h hf),ag (show (6:Int)=4\/(6:Int)=5\/(6:Int)=6 by decide)]
    have e1:dK (6,n,[],1)=n:=by simp[dK]
    rw[e1]
    cases hs:sub with
    | none=>
     have hw:=J.1 hs
     subst hw
     simp[F.S0,F.SX,F.S2,F.Ud,aG,dT]
    | some rec=>
     have hw:w≠32:=fun h=>by have:=J.2 h; rw[hs]at this; cases this
     have R:((w:Int) == 32)=false:=by simp; omega
     have K:=qD (w:=(w:Int)) (rc:=rc) (rec:=rec) hv (6,n,[],1) 6 (by omega) rfl n out a G O h2 hx N (.inr ⟨(B rec hs).1,by rw[V]; exact (B rec hs).2⟩)
     simp only[bM]at K
     simp[F.S0,F.SX,F.S2,aG,R]
     exact K
   ·have hf:¬cu (6,n,d,k):=by simpa [cu] using hg
    rw[ag hf]
    by_cases hd:d=[] <;> by_cases hn:n=0 <;> by_cases I:k=0 <;> by_cases j:k<0 <;> (try omega) <;>  simp_all [F.S0,F.SX,F.S2,F.Tn,F.Tq,F.Tk,cu,dK,aG,dT]
  ·rw[ae (show ¬(((7:Int)=4)\/((7:Int)=5)\/((7:Int)=6)) by decide)]
   by_cases hg:d=[]/\k=0/\20<=n.toNat/\n.toNat<=22
   ·obtain⟨rfl,rfl,b5,b6⟩:=hg
    have K:=X A 7 (by omega) rfl n rfl
    have l1:¬n<20:=by simp only[bd]; simpa using b5
    have U:¬22<n:=by simp only[bd]; simpa using b6
    simp[F.S0,F.SX,F.S2,F.Tn,F.Tq,F.Tk,cu,dK,aG,K,l1,U,b5,b6]
   ·have hf:¬cu (7,n,d,k):=by simpa [cu] using hg
    rw[ag hf]
    have l3:¬n<20->20<=n.toNat:=by simp only[bd]; simp
    have l4:¬22<n->n.toNat<=22:=by simp only[bd]; simp
    by_cases l1:n<20 <;> by_cases U:22<n <;> by_cases hd:d=[] <;> by_cases hn:n=0 <;> by_cases I:k=0 <;> by_cases j:k<0 <;> (try omega) <;>  simp_all [F.S0,F.SX,F.S2,F.Tn,F.Tq,F.Tk,cu,dK,aG,dT]
 ·have d1:decide ((v.length:Int)<=(a:Int))=true:=by simp; omega
  simp only[d1,am,dC cm,dT]
def Kd (v:List It):Prop:=∀x∈v,x.2.2.2<=9223372036854775807
theorem mz (v:List It):9*v.length<=wt v:=by
 induction v with
 | nil=>simp[wt]
 | cons x r ih=>simp only[wt,ca]; omega
theorem Fk (v:List It) (i:Nat):wt (v.drop i)<=wt v:=by
 induction v generalizing i with
 | nil=>simp
 | cons x r ih=>cases i with
  | zero=>simp
  | succ i=>simp only[List.drop_succ_cons,wt]; have:=ih i; omega
theorem vh {v:List It} (j:v.length<=4000000000000) (A:Kd v):∀(d k:Nat),d<=32->d<k->Bd v (F.UU k) ((32 - d:Nat):Int) (cz d v)
 | 0,k+1,_,_=>by
  simp only[F.UU,cz]
  exact vT j A (by omega) (by simp) (by simp)
 | d+1,k+1,h1,h2=>by
  simp only[F.UU,cz]
  refine vT j A (by omega) (by simp; omega) (fun rec B=>?_)
  cases B
  rw[show 32 - (d+1)+1=32 - d by omega]
  exact⟨iN v d,vh j A d k (by omega) (by omega)⟩
 | 0,0,_,h=>by omega
 | _+1,0,_,h=>by omega
theorem ud {v:List It} (hw:wt v<=4000000000000) (j:Kd v):F.ZQ [] v 0 0=some (dT [] (cz 32 v 0)):=by
 have:=mz v
 exact vh (by omega) j 32 64 (by omega) (by omega) [] 0 (by omega) (by simp; exact hw)
def iA (v:List It):Bool:=match cz 32 v 0 with
 | none=>false
 | some (_,j)=>decide (j=v.length)
def pb (v:List It):L01×Int:=match cz 32 v 0 with
 | none=>([],220)
 | some (t,j)=>if j=v.length then (if 65536<t.length then ([],10) else (t,0)) else ([],220)
theorem nT {v:List It} (hw:wt v<=4000000000000) (A:Kd v):F.VC v=some (iA v):=by
 unfold F.VC iA
 rw[ud hw A,aa]
 cases h:cz 32 v 0 with
 | none=>
  have:((-1:Int) == (v.length:Int))=false:=by simp
  simp only[dT,this,ah,aj]
 | some a=>
  obtain⟨t,j⟩:=a
  obtain⟨B,G,_⟩:=iN v 32 0 t j h
  simp only[dT]
  by_cases hj:j=v.length
  ·have:decide ((0:Int)<(j:Int))=true:=by simp; omega
   simp only[hj,dL,am,ir]
   simp; omega
  ·have:((j:Int) == (v.length:Int))=false:=by simp; omega
   simp[this,hj]
theorem Kj {v:List It} (hw:wt v<=4000000000000) (B:Kd v):F.Un v=some (pb v):=by
 unfold F.Un pb
 rw[ud hw B,aa]
 cases h:cz 32 v 0 with
 | none=>
  have:((-1:Int) != (v.length:Int))=true:=by simp
  simp only[dT,this,am,F.W3]
 | some a=>
  obtain⟨t,j⟩:=a
  obtain⟨N,G,_⟩:=iN v 32 0 t j h
  simp only[dT,bT]
  by_cases hj:j=v.length
  ·have I:decide ((j:Int)<=0)=false:=by simp; omega
   have A:v≠[]:=by rintro rfl; simp at G; omega
   have J:((j:Int) != (v.length:Int))=false:=by simp; omega
   simp only[J,ah,aj,I,F.W3,hj,am]
   by_cases hl:65536<t.length
   ·have:decide ((65536:Int)<(t.length:Int))=true:=by simp; omega
    simp[this,hl,A]
   ·have:decide ((65536:Int)<(t.length:Int))=false:=by simp; omega
    simp[this,hl,A]
  ·have:((j:Int) != (v.length:Int))=true:=by simp; omega
   simp only[this,am,hj,aj,F.W3]
def Ch (v:List It) (rc:List It->Int->Int->Option (L01×Int)) (w:Int) (rec:Wr):Prop:=
 ∀(i:Nat),i<=v.length->rc v (i:Int) w=some (dT [] (rec i))
theorem f7:F.UW=some ([],-1):=rfl
section
variable {v:List It} {rc:List It->Int->Int->Option (L01×Int)} {w:Int} {rec:Wr}
theorem Jk (hv:wt v<=4000000000000) (hm:Put v rec) (ac:Ch v rc (wI (w+1)) rec) (x:It) (hx:x.2.2.2<=9223372036854775807) :
  ∀(r i:Nat) (out last:L01) (L:Option L01) (a:Nat),((i+r:Nat):Int)=x.2.2.2->a<=v.length->out.length+wt (v.drop a)<=4000000000100->last.length<=out.length ->
   ((x.1 == 5)=true->(i=0/\L=none\/0<i/\L=some last)) ->
   loop (F.UR v w rc x) (last,(i:Int),out,(a:Int))=some (dT out (cW rec (x.1 == 5) r (decide (i%2=0)) L a)):=by
 intro r
 induction r with
 | zero=>
  intro i out last L a h1 h2 h3 h4 Y
  refine bI ?_
  have:decide ((i:Int)<x.2.2.2)=false:=by simp; omega
  simp only[F.UR,this,ah,aj,cW,dT,bM]
  rfl
 | succ r ih=>
  intro i out last L a h1 h2 h3 h4 Y
  have O:decide ((i:Int)<x.2.2.2)=true:=by simp; omega
  have al:wI ((i:Int)+1)=((i+1:Nat):Int):=by rw[aD (by omega) (by omega)]; simp
  have R:(!decide (i%2=0))=decide ((i+1)%2=0):=by
   rcases gF i with h | h
   ·have:(i+1)%2=1:=by omega
    simp[h,this]
   ·have:(i+1)%2=0:=by omega
    simp[h,this]
  simp only[cW]
  have J:=ac a h2
  cases hx1:rec a with
  | none=>
   rw[hx1]at J
   refine bI ?_
   simp only[F.UR,O,am,J,aa,dT,f7]
   rfl
  | some y=>
   obtain⟨t,j⟩:=y
   rw[hx1]at J
   simp only[dT,bT]at J
   obtain⟨h6,h7,h8⟩:=hm a t j hx1
   have hj:decide ((j:Int)<0)=false:=by simp
   simp only
   have Z:qa out t=some (out++t):=by unfold qa; rw[ag (by omega)]
   have G:∀l,F.ZT (i:Int) out (t,(j:Int)) l=some (.inl (l,((i+1:Nat):Int),out++t,(j:Int))):=by
    intro l
    simp only[F.ZT,Z,aa,al]; rfl
   have step:(x.1 == 5&&decide (i%2=0))=false->F.UR v w rc x (last,(i:Int),out,(a:Int))=some (.inl (last,((i+1:Nat):Int),out++t,(j:Int))):=by
    intro N
    rw[Bool.and_eq_false_iff]at N
    simp only[F.UR,O,am,J,aa,hj,ah,aj]
    rcases N with N | N
    ·simp only[N,ah,aj,F.WA,G]
    ·split
     ·simp only[zw,N,ah,aj,F.WA,G]
     ·simp only[ah,aj,F.WA,G]
   by_cases hpk:(x.1 == 5&&decide (i%2=0))=true
   ·rw[aO]at hpk
    obtain⟨I,U⟩:=hpk
    simp only[I,U,Bool.and_self,eE,am]
    have V:∀q,F.YN (t,(j:Int)) (i:Int) out q=some (if q=true then .inr ([],-1) else .inl (t,((i+1:Nat):Int),out++t,(j:Int))):=by
     intro q
     cases q
     ·simp only[F.YN,ah,aj,G]
     ·simp only[F.YN,am,f7,aa]; rfl
    have A:F.UR v w rc x (last,(i:Int),out,(a:Int))=some (if jL L t=false then .inr ([],-1) else .inl (t,((i+1:Nat):Int),out++t,(j:Int))):=by
     simp only[F.UR,O,am,J,aa,hj,ah,aj,I,zw,U,F.WA]
     rcases Y I with⟨rfl,rfl⟩ | ⟨ab,rfl⟩
     ·simp only[show (decide ((0:Int)<((0:Nat):Int)))=false from rfl,ah,aj]
      rw[V false]
      simp[jL]
     ·have:decide ((0:Int)<(i:Int))=true:=by simp; omega
      simp only[this,am,NR last t (by omega),aa]
      rw[V _]
      cases hlx:jV last t <;> simp[jL,hlx]
    cases hko:jL L t
    ·rw[hko]at A
     simp only[am]at A
     rw[bI A]
     simp[dT]
    ·rw[hko]at A
     simp only[Bool.true_eq_false,aj]at A
     rw[bp A]
     simp only[db,ah,aj]
     rw[ih (i+1) (out++t) t (some t) j (by omega) h7 (by simp; omega) (by simp) (fun _=>.inr ⟨by omega,rfl⟩),<-R,U]
     simp only[I,db]
     cases cW rec true r false (some t) j with
     | none=>rfl
     | some z=>obtain⟨u,k⟩:=z; simp[dT]
   ·have B:(x.1 == 5&&decide (i%2=0))=false:=by simpa using hpk
    rw[bp (step B)]
    simp only[B,ea,ah,aj]
    rw[ih (i+1) (out++t) last L j (by omega) h7 (by simp; omega) (by simp; omega) ?_,<-R]
    ·cases cW rec (x.1 == 5) r (!decide (i%2=0)) L j with
     | none=>rfl
     | some z=>obtain⟨u,k⟩:=z; simp[dT]
    ·intro X
     rcases Y X with⟨rfl,rfl⟩ | ⟨ab,rfl⟩
     ·exfalso; rw[X]at B; simp at B
     ·exact .inr ⟨by omega,rfl⟩
theorem wL (G:wt v<=4000000000000) (x:It) (m:Nat) (B:m<8) (A:x.1=(m:Int)) (n:UInt64) (a:Nat) (ha:a<v.length)
  (hx:x.2.2.2<=9223372036854775807) (J:0<=x.2.2.2) (hp:Put v rec) (I:Ch v rc (wI (w+1)) rec) :
  F.Z7 (a:Int) x v w rc n=some (dT [] (match cW rec (x.1 == 5) x.2.2.2.toNat true none (a+1) with
   | none=>none
   | some (t,j)=>some (hd m n++t,j))):=by
 have hl:=mz v
 have hh:=jn m n
 have hw:=Fk v (a+1)
 simp only[F.Z7]
 rw[A,lZ m B n,aa,aD (by omega) (by omega)]
 have:=Jk G hp I x hx x.2.2.2.toNat 0 (hd m n) [] none (a+1) (by omega) (by omega) (by omega) (by simp) (fun _=>.inl ⟨rfl,rfl⟩)
 rw[show ((a:Int)+1)=((a+1:Nat):Int) by simp,show (0:Int)=((0:Nat):Int) from rfl,this,<-A]
 simp only[jC,ir]
 cases cW rec (x.1 == 5) x.2.2.2.toNat true none (a+1) with
 | none=>rfl
 | some z=>obtain⟨t,j⟩:=z; simp[dT]
end
theorem Ou (k:Int) (A:0<=k) (hx:k<=9223372036854775807):UInt64.ofInt k / 2=UInt64.ofInt (k / 2):=by
 obtain⟨j,rfl⟩:=eN A
 rw[show ((j:Int) / 2)=((j / 2:Nat):Int) by simp,gr,gr]
 apply cx.1
 rw[fp]
 simp
 omega
theorem yl {v:List It} {rc:List It->Int->Int->Option (L01×Int)} {w:Nat} {sub:Option Wr} (hv:wt v<=4000000000000) (hI:Kd v) (hU:∀x∈v,x.2.2.1.length<=2000000)
  (cf:w<=32) (G:sub=none↔w=32) (A:∀rec,sub=some rec->Put v rec/\Ch v rc ((w+1:Nat):Int) rec) :
  Ch v (F.aaO rc) (w:Int) (fF v sub):=by
 intro a h1
 have cm:=mz v
 unfold F.aaO fF
 rcases bY a v.length with B | b7
 ·have d1:decide ((v.length:Int)<=(a:Int))=false:=by simp; omega
  simp only[d1,ah,aj,bX B,aa,aA B]
  have hx:=hI v[a] (cM B)
  have U:=hU v[a] (cM B)
  generalize ct:v[a]=x at hx U
  obtain⟨m,n,d,k⟩:=x
  simp only at hx U
  have V:wI ((w:Int)+1)=((w+1:Nat):Int):=by rw[aD (by omega) (by omega)]; simp
  have J:wI ((a:Int)+1)=(a:Int)+1:=by rw[aD (by omega) (by omega)]
  rcases nL m with hm | hm | rfl | rfl | rfl | rfl | rfl | rfl | rfl | rfl
  ·have e0:(m == 0)=false:=by simp; omega
   have O:(m == 1)=false:=by simp; omega
   have e2:(m == 2)=false:=by simp; omega
   have e3:(m == 3)=false:=by simp; omega
   have l0:decide (m<0)=true:=by simp; omega
   have l7:decide ((7:Int)<m)=false:=by simp; omega
   have hf:¬cu (m,n,d,k):=by
    unfold cu
    simp only
    rw[ae (by omega),ae (by omega),ae (by omega),ae (by omega),ae (by omega),ae (by omega),ae (by omega)]; simp
   rw[ag hf]
   simp only[e2,e3,l0,l7,ah,aj,am,F.S7,F.SW,aG,jf,dT,f7,aa]
  ·have e0:(m == 0)=false:=by simp; omega
   have O:(m == 1)=false:=by simp; omega
   have e2:(m == 2)=false:=by simp; omega
   have e3:(m == 3)=false:=by simp; omega
   have l0:decide (m<0)=false:=by simp; omega
   have l7:decide ((7:Int)<m)=true:=by simp; omega
   have hf:¬cu (m,n,d,k):=by
    unfold cu
    simp only
    rw[ae (by omega),ae (by omega),ae (by omega),ae (by omega),ae (by omega),ae (by omega),ae (by omega)]; simp
   rw[ag hf]
   simp only[e2,e3,l0,l7,ah,aj,am,F.S7,F.SW,aG,jf,dT,f7,aa]
  ·rw[ae (show ¬(((0:Int)=4)\/((0:Int)=5)\/((0:Int)=6)) by decide)]
   have K:=lZ 0 (by omega) n
   by_cases hg:d=[]/\k=0
   ·obtain⟨rfl,rfl⟩:=hg
    simp only[show ((0:Nat):Int)=0 from rfl]at K
    simp[F.S7,F.SW,F.Te,F.Ty,F.Ta,F.Tx,F.S3,F.Td,f7,aa,cu,dK,aG,gr,K,J,dT]
   ·by_cases hd:d=[] <;> by_cases hn:n=0 <;> by_cases hk:k=0 <;> by_cases j:k<0 <;> (try omega) <;>  simp_all [F.S7,F.SW,F.Te,F.Ty,F.Ta,F.Tx,F.S3,F.Td,f7,aa,cu,dK,aG,gr,dT]
  ·rw[ae (show ¬(((1:Int)=4)\/((1:Int)=5)\/((1:Int)=6)) by decide)]
   have K:=lZ 1 (by omega) n
   by_cases hg:d=[]/\k=0
   ·obtain⟨rfl,rfl⟩:=hg
    simp only[show ((1:Nat):Int)=1 from rfl]at K
    simp[F.S7,F.SW,F.Te,F.Ty,F.Ta,F.Tx,F.S3,F.Td,f7,aa,cu,dK,aG,gr,K,J,dT]
   ·by_cases hd:d=[] <;> by_cases hn:n=0 <;> by_cases hk:k=0 <;> by_cases j:k<0 <;> (try omega) <;>  simp_all [F.S7,F.SW,F.Te,F.Ty,F.Ta,F.Tx,F.S3,F.Td,f7,aa,cu,dK,aG,gr,dT]
  ·rw[ae (show ¬(((2:Int)=4)\/((2:Int)=5)\/((2:Int)=6)) by decide)]
   have K:=lZ 2 (by omega) (UInt64.ofNat d.length)
   by_cases hg:n=0/\k=0
   ·obtain⟨rfl,rfl⟩:=hg
    have R:qa (hd 2 (UInt64.ofNat d.length)) d=some (hd 2 (UInt64.ofNat d.length)++d):=by unfold qa; rw[ag (by have:=jn 2 (UInt64.ofNat d.length); omega)]
    simp only[show ((2:Nat):Int)=2 from rfl]at K
    simp[F.S7,F.SW,F.Te,F.Ty,F.Ta,F.Tx,F.S3,F.Td,f7,aa,cu,dK,aG,gr,K,J,dT,R]
   ·by_cases hd:d=[] <;> by_cases hn:n=0 <;> by_cases hk:k=0 <;> by_cases j:k<0 <;> (try omega) <;>  simp_all [F.S7,F.SW,F.Te,F.Ty,F.Ta,F.Tx,F.S3,F.Td,f7,aa,cu,dK,aG,gr,dT]
  ·rw[ae (show ¬(((3:Int)=4)\/((3:Int)=5)\/((3:Int)=6)) by decide)]
   have K:=lZ 3 (by omega) (UInt64.ofNat d.length)
   have ab:F.Z6 d=some (Lib.validD d):=ND U
   by_cases hg:n=0/\k=0/\Lib.validD d=true
   ·obtain⟨rfl,rfl,hu⟩:=hg
    have R:qa (hd 3 (UInt64.ofNat d.length)) d=some (hd 3 (UInt64.ofNat d.length)++d):=by unfold qa; rw[ag (by have:=jn 3 (UInt64.ofNat d.length); omega)]
    simp only[show ((3:Nat):Int)=3 from rfl]at K
    simp[F.S7,F.SW,F.Te,F.Ty,F.Ta,F.Tx,F.S3,F.Td,f7,aa,cu,dK,aG,gr,K,J,dT,R,ab,hu]
   ·by_cases hu:Lib.validD d=true <;> by_cases hd:d=[] <;> by_cases hn:n=0 <;> by_cases hk:k=0 <;> by_cases j:k<0 <;> (try omega) <;>  simp_all [F.S7,F.SW,F.Te,F.Ty,F.Ta,F.Tx,F.S3,F.Td,f7,aa,cu,dK,aG,gr,ab,dT]
  ·by_cases hg:n=0/\d=[]/\0<=k
   ·obtain⟨rfl,rfl,I⟩:=hg
    have j:¬k<0:=by omega
    have hf:cu (4,0,[],k):=by simp[cu,I]
    rw[ae (show ¬¬cu (4,0,[],k) from fun h=>h hf),ag (show (4:Int)=4\/(4:Int)=5\/(4:Int)=6 by decide)]
    have O:dK (4,0,[],k)=(UInt64.ofInt k):=by simp[dK]
    rw[O]
    cases hs:sub with
    | none=>
     have hw:=G.1 hs
     subst hw
     simp[F.S7,F.SW,F.Te,F.Ta,F.S3,F.Td,f7,aa,aG,j,dT]
    | some rec=>
     have hw:w≠32:=fun h=>by have:=G.2 h; rw[hs]at this; cases this
     have N:((w:Int) == 32)=false:=by simp; omega
     have K:=wL (w:=(w:Int)) (rc:=rc) (rec:=rec) hv (4,0,[],k) 4 (by omega) rfl (UInt64.ofInt k) a B hx I (A rec hs).1 (by rw[V]; exact (A rec hs).2)
     simp[F.S7,F.SW,F.Te,F.Ta,F.S3,F.Td,f7,aa,aG,j,N]
     exact K
   ·have hf:¬cu (4,n,d,k):=by simpa [cu] using hg
    rw[ag hf]
    have X:0<=k->Int.tmod k 2=k%2:=fun h=>cn h
    have ac:¬k%2=0->k%2=1:=by omega
    by_cases hd:d=[] <;> by_cases hn:n=0 <;> by_cases hk:k=0 <;> by_cases j:k<0 <;> (try omega) <;>  (try rw[X (by omega)]) <;> simp_all [F.S7,F.SW,F.Te,F.Ty,F.Ta,F.Tx,F.S3,F.Td,f7,aa,cu,dK,aG,gr,dT]
  ·by_cases hg:n=0/\d=[]/\0<=k/\k%2=0
   ·obtain⟨rfl,rfl,I,ad⟩:=hg
    have Y:Int.tmod k 2=0:=by rw[cn I]; exact ad
    have Z:UInt64.ofInt k / 2=UInt64.ofInt (k / 2):=Ou k I hx
    have j:¬k<0:=by omega
    have hf:cu (5,0,[],k):=by simp[cu,I,ad]
    rw[ae (show ¬¬cu (5,0,[],k) from fun h=>h hf),ag (show (5:Int)=4\/(5:Int)=5\/(5:Int)=6 by decide)]
    have O:dK (5,0,[],k)=(UInt64.ofInt (k / 2)):=by simp[dK]
    rw[O]
    cases hs:sub with
    | none=>
     have hw:=G.1 hs
     subst hw
     simp[F.S7,F.SW,F.Te,F.Ta,F.S3,F.Td,f7,aa,aG,j,dT,Y,Z]
    | some rec=>
     have hw:w≠32:=fun h=>by have:=G.2 h; rw[hs]at this; cases this
     have N:((w:Int) == 32)=false:=by simp; omega
     have K:=wL (w:=(w:Int)) (rc:=rc) (rec:=rec) hv (5,0,[],k) 5 (by omega) rfl (UInt64.ofInt (k / 2)) a B hx I (A rec hs).1 (by rw[V]; exact (A rec hs).2)
     simp[F.S7,F.SW,F.Te,F.Ta,F.S3,F.Td,f7,aa,aG,j,N,Y,Z]
     exact K
   ·have hf:¬cu (5,n,d,k):=by simpa [cu] using hg
    rw[ag hf]
    have X:0<=k->Int.tmod k 2=k%2:=fun h=>cn h
    have ac:¬k%2=0->k%2=1:=by omega
    by_cases hd:d=[] <;> by_cases hn:n=0 <;> by_cases hk:k=0 <;> by_cases j:k<0 <;> (try omega) <;>  (try rw[X (by omega)]) <;> simp_all [F.S7,F.SW,F.Te,F.Ty,F.Ta,F.Tx,F.S3,F.Td,f7,aa,cu,dK,aG,gr,dT]
  ·by_cases hg:d=[]/\k=1
   ·obtain⟨rfl,rfl⟩:=hg
    have I:(0:Int)<=1:=by omega
    have hf:cu (6,n,[],1):=by simp[cu]
    rw[ae (show ¬¬cu (6,n,[],1) from fun h=>h hf),ag (show (6:Int)=4\/(6:Int)=5\/(6:Int)=6 by decide)]
    have O:dK (6,n,[],1)=n:=by simp[dK]
    rw[O]
    cases hs:sub with
    | none=>
     have hw:=G.1 hs
     subst hw
     simp[F.S7,F.SW,F.Te,F.Ta,F.S3,F.Td,f7,aa,aG,dT]
    | some rec=>
     have hw:w≠32:=fun h=>by have:=G.2 h; rw[hs]at this; cases this
     have N:((w:Int) == 32)=false:=by simp; omega
     have K:=wL (w:=(w:Int)) (rc:=rc) (rec:=rec) hv (6,n,[],1) 6 (by omega) rfl n a B hx I (A rec hs).1 (by rw[V]; exact (A rec hs).2)
     simp[F.S7,F.SW,F.Te,F.Ta,F.S3,F.Td,f7,aa,aG,N]
     exact K
   ·have hf:¬cu (6,n,d,k):=by simpa [cu] using hg
    rw[ag hf]
    have X:0<=k->Int.tmod k 2=k%2:=fun h=>cn h
    have ac:¬k%2=0->k%2=1:=by omega
    by_cases hd:d=[] <;> by_cases hn:n=0 <;> by_cases hk:k=0 <;> by_cases j:k<0 <;> (try omega) <;>  (try rw[X (by omega)]) <;> simp_all [F.S7,F.SW,F.Te,F.Ty,F.Ta,F.Tx,F.S3,F.Td,f7,aa,cu,dK,aG,gr,dT]
  ·rw[ae (show ¬(((7:Int)=4)\/((7:Int)=5)\/((7:Int)=6)) by decide)]
   have K:=lZ 7 (by omega) n
   simp only[show ((7:Nat):Int)=7 from rfl]at K
   by_cases hg:d=[]/\k=0/\20<=n.toNat/\n.toNat<=22
   ·obtain⟨rfl,rfl,al,ap⟩:=hg
    have l1:¬n<20:=by simp only[bd]; simpa using al
    have l2:¬22<n:=by simp only[bd]; simpa using ap
    simp[F.S7,F.SW,F.Te,F.Ty,F.Ta,F.Tx,F.S3,F.Td,f7,aa,cu,dK,aG,gr,K,J,dT,l1,l2,al,ap]
   ·have hf:¬cu (7,n,d,k):=by simpa [cu] using hg
    rw[ag hf]
    have l3:¬n<20->20<=n.toNat:=by simp only[bd]; simp
    have l4:¬22<n->n.toNat<=22:=by simp only[bd]; simp
    by_cases l1:n<20 <;> by_cases l2:22<n <;> by_cases hd:d=[] <;> by_cases hn:n=0 <;> by_cases hk:k=0 <;> by_cases j:k<0 <;> (try omega) <;>  simp_all [F.S7,F.SW,F.Te,F.Ty,F.Ta,F.Tx,F.S3,F.Td,f7,aa,cu,dK,aG,gr,dT]
 ·have d1:decide ((v.length:Int)<=(a:Int))=true:=by simp; omega
  simp only[d1,am,dC b7,dT,f7,aa]
theorem xN {v:List It} (j:wt v<=4000000000000) (A:Kd v) (hU:∀x∈v,x.2.2.1.length<=2000000):∀(d k:Nat),d<=32->d<k->Ch v (F.XB k) ((32 - d:Nat):Int) (cz d v)
 | 0,k+1,_,_=>by
  simp only[F.XB,cz]
  exact yl j A hU (by omega) (by simp) (by simp)
 | d+1,k+1,h1,h2=>by
  simp only[F.XB,cz]
  refine yl j A hU (by omega) (by simp; omega) (fun rec B=>?_)
  cases B
  rw[show 32 - (d+1)+1=32 - d by omega]
  exact⟨iN v d,xN j A hU d k (by omega) (by omega)⟩
 | 0,0,_,h=>by omega
 | _+1,0,_,h=>by omega
theorem Nb {v:List It} (j:wt v<=4000000000000) (A:Kd v) (hU:∀x∈v,x.2.2.1.length<=2000000):F.abz v 0 0=some (dT [] (cz 32 v 0)):=
 xN j A hU 32 64 (by omega) (by omega) 0 (by omega)
theorem Br {v:List It} (j:wt v<=4000000000000) (A:Kd v) (hU:∀x∈v,x.2.2.1.length<=2000000):F.aaN v=some (iA v):=by
 rw[<-nT j A]
 unfold F.aaN F.VC
 rw[Nb j A hU,ud j A]
def nbN (l:L01):Nat:=l.foldl (fun a c=>256*a+c.toNat) 0
theorem Mj (l:L01):∀(N:Nat),l.foldl (fun a c=>256*a+c.toUInt64) (UInt64.ofNat N)=UInt64.ofNat (l.foldl (fun a c=>256*a+c.toNat) N):=by
 induction l with
 | nil=>intro N; rfl
 | cons c r ih=>
  intro N
  simp only[eo]
  rw[<-ih]
  congr 1
  apply cx.1
  rw[fN,i7]
  simp
theorem LZ (l:L01):nbe l=UInt64.ofNat (nbN l):=Mj l 0
theorem Mz (l:L01):∀a,l.foldl (fun a c=>256*a+c.toNat) a=a*256^l.length+nbN l:=by
 induction l with
 | nil=>intro a; simp[nbN]
 | cons c r ih=>
  intro a
  simp only[nbN,eo,ca]
  rw[ih,ih (256*0+c.toNat),bo]
  simp only[cp,bm,aW]
  have:256*a*256^r.length=a*(256^r.length*256):=by rw[aP 256 a,aK,aP 256]
  omega
theorem I5 (c:UInt8) (r:L01):nbN (c :: r)=c.toNat*256^r.length+nbN r:=by
 have:=Mz r (256*0+c.toNat)
 simp only[nbN,eo]
 simpa [nbN] using this
theorem Hu:∀(k:Nat) (n:UInt64),k<=8->nbN (be k n)=n.toNat%256^k
 | 0,n,_=>by simp[be,nbN,Nat.mod_one]
 | k+1,n,h=>by
  rw[be,I5,oL,Hu k n (by omega)]
  have e:((bb n (8*k)).toUInt8).toNat=n.toNat / 256^k%256:=by
   have:min (8*k) 64=8*k:=by omega
   rw[gZ,i6,this,cr]
  rw[e,bo,Nat.mod_mul,aP (256^k),cw]
theorem PE (k:Nat) (n:UInt64) (j:k<=8) (h:n.toNat<256^k):nbe (be k n)=n:=by
 rw[LZ,Hu k n j,az h]; simp
theorem Qy (n:UInt64):wd n=0\/n.toNat<256^wd n:=by
 have:=n.toNat_lt
 unfold wd
 repeat' split
 all_goals first
  | exact .inl rfl
  | (right; rename_i h; simp only[bd]at h; simpa using h)
  | (right; simpa using this)
theorem OI {k:Nat} (h:k=1\/k=2\/k=4\/k=8):2^lg k=k/\lg k<=3:=by
 rcases h with rfl | rfl | rfl | rfl <;> simp[lg]
theorem zS (p q:L01) (m:Nat) (n:UInt64) (hm:m<8) (I:m=7->20<=n.toNat/\n.toNat<=22) :
  mD (p++hd m n++q) p.length=.ok (m,n,p.length+(hd m n).length):=by
 have hl:=Ac m n
 unfold mD
 by_cases h0:wd n=0
 ·have hn:=wd0 h0
  have hh:hd m n=[UInt8.ofNat (32*m)+n.toUInt8]:=by unfold hd; rw[ag h0]
  have hg:(p++hd m n++q)[p.length]? = some (UInt8.ofNat (32*m)+n.toUInt8):=by rw[hh]; simp
  have hc:(UInt8.ofNat (32*m)+n.toUInt8).toNat=32*m+n.toNat:=by
   rw[UInt8.toNat_add]; simp; omega
  simp only[hg]
  generalize (UInt8.ofNat (32*m)+n.toUInt8)=c at hc
  rw[hl,h0,hc]
  have j:(32*m+n.toNat)%32=n.toNat:=by omega
  have A:(32*m+n.toNat) / 32=m:=by omega
  rw[j,A,ae (by omega),ag hn]
  simp
 ·have U:=ux n
  have B:wd n=1\/wd n=2\/wd n=4\/wd n=8:=by omega
  obtain⟨G,J⟩:=OI B
  have hh:hd m n=UInt8.ofNat (32*m+24+lg (wd n)) :: be (wd n) n:=by unfold hd; rw[ae h0]
  have R:m≠7:=by
   intro h
   have:=I h
   apply h0
   unfold wd
   rw[ag (by simp only[bd]; simp; omega)]
  have hg:(p++hd m n++q)[p.length]? = some (UInt8.ofNat (32*m+24+lg (wd n))):=by rw[hh]; simp
  have hc:(UInt8.ofNat (32*m+24+lg (wd n))).toNat=32*m+24+lg (wd n):=by simp; omega
  have N:((p++hd m n++q).drop (p.length+1)).take (wd n)=be (wd n) n:=by
   rw[hh,aS,List.drop_append,gz (by omega)]
   simp[oL]
  have O:(p++hd m n++q).length=p.length+(1+wd n)+q.length:=by simp only[aE,hl]
  simp only[hg]
  generalize (UInt8.ofNat (32*m+24+lg (wd n)))=c at hc
  rw[hc]
  have j:(32*m+24+lg (wd n))%32=24+lg (wd n):=by omega
  have A:(32*m+24+lg (wd n)) / 32=m:=by omega
  rw[j,A,ae (by omega),ae (by omega),show 24+lg (wd n) - 24=lg (wd n) by omega,G,ae (by omega),N,
   PE _ _ (Lp n) ((Qy n).resolve_left h0),ae (by simp),hl]
  simp; omega
def seg (v:List It) (i j:Nat):List It:=(v.drop i).take (j - i)
theorem oF {b:List It} {i j k:Nat} (h:i<=j) (A:j<=k):seg b i j++seg b j k=seg b i k:=by
 unfold seg
 rw[show k - i=(j - i)+(k - j) by omega,List.take_add,gk,show i+(j - i)=j by omega]
theorem B5 (b:List It) (i:Nat):seg b i i=[]:=by simp[seg]
theorem M7 {v:List It} {i:Nat} (h:i<v.length):seg v i (i+1)=[v[i]]:=by
 unfold seg; rw[bc h,show i+1 - i=1 by omega,List.take_succ_cons,gq]
def Pos (wr:Wr):Prop:=∀i t j,wr i=some (t,j)->1<=t.length
theorem O2 (m:Nat) (n:UInt64):1<=(hd m n).length:=by rw[Ac]; omega
theorem Hn (v:List It) (sub:Option Wr):Pos (fF v sub):=by
 intro i t j h
 unfold fF at h
 split at h
 ·cases h
 ·rename_i x hx
  have:=O2 x.1.toNat (dK x)
  split at h
  ·cases h
  ·split at h
   ·cases sub with
    | none=>cases h
    | some rec=>
     simp only at h
     split at h
     ·cases h
     ·cases h; simp only[aE]; omega
   ·cases h; simp only[aE]; omega
theorem Kh (v:List It) (d:Nat):Pos (cz d v):=by cases d <;> exact Hn v _
def WT (v:List It) (wr:Wr) (rd:L01->Rd):Prop:=
 ∀(i:Nat) (t:L01) (j:Nat) (p q:L01),wr i=some (t,j)->rd (p++t++q) p.length=.ok (p.length+t.length,seg v i j)
theorem wz {v:List It} {G:Wr} {N:L01->Rd} (hp:Put v G) (I:Pos G) (h:WT v G N) (last:Option L01):∀(r f i:Nat) (t:L01) (j:Nat) (p q:L01) (A:Bool),
  cW G false r A last i=some (t,j)->i<=v.length->r<=f->gS (N (p++t++q)) f r p.length=.ok (p.length+t.length,seg v i j)/\r<=t.length
 | 0,f,i,t,j,p,q,A,h1,hi,h2=>by
  simp only[cW]at h1
  cases h1
  cases f <;> simp[gS,B5]
 | r+1,0,i,t,j,p,q,A,h1,hi,h2=>by omega
 | r+1,f+1,i,t,j,p,q,A,h1,hi,h2=>by
  simp only[cW]at h1
  cases h3:G i with
  | none=>rw[h3]at h1; cases h1
  | some a=>
   obtain⟨B,J⟩:=a
   rw[h3]at h1
   simp only[ea,ah,aj]at h1
   cases h4:cW G false r (!A) last J with
   | none=>rw[h4]at h1; cases h1
   | some b=>
    obtain⟨u,k⟩:=b
    rw[h4]at h1
    simp only at h1
    cases h1
    obtain⟨X,O,_⟩:=hp i B J h3
    have Y:=kZ hp _ _ _ _ _ _ _ O h4
    have U:=h i B J p (u++q) h3
    have V:=wz hp I h last r f J u j (p++B) q (!A) h4 O (by omega)
    have Z:=I i B J h3
    simp only[gS]
    rw[show p++(B++u)++q=p++B++(u++q) by simp,U]
    simp only
    have R:=V.1
    rw[show p++B++u++q=p++B++(u++q) by simp,aE]at R
    rw[R]
    simp only
    rw[oF (by omega) (by omega)]
    refine⟨by simp; omega,by simp; omega⟩
theorem B6 (p t q:L01):part (p++t++q) p.length (p.length+t.length)=t:=by
 unfold part
 rw[aS,List.drop_left,show p.length+t.length - p.length=t.length by omega,gi]
theorem uy {v:List It} {G:Wr} {R:L01->Rd} (hp:Put v G) (J:Pos G) (h:WT v G R):∀(r f i:Nat) (t:L01) (j:Nat) (p q:L01) (last:Option L01),
  cW G true (2*r) true last i=some (t,j)->i<=v.length->r<=f->gA (R (p++t++q)) (p++t++q) f r last p.length=.ok (p.length+t.length,seg v i j)/\r<=t.length
 | 0,f,i,t,j,p,q,last,h1,hi,h2=>by
  simp only[cW]at h1
  cases h1
  cases f <;> simp[gA,B5]
 | r+1,0,i,t,j,p,q,last,h1,hi,h2=>by omega
 | r+1,f+1,i,t,j,p,q,last,h1,hi,h2=>by
  rw[show 2*(r+1)=2*r+1+1 by omega]at h1
  simp only[cW]at h1
  cases h3:G i with
  | none=>rw[h3]at h1; cases h1
  | some a=>
   obtain⟨A,I⟩:=a
   rw[h3]at h1
   simp only[eE,db,ea,Bool.and_false,ah,aj,am]at h1
   split at h1
   ·cases h1
   ·rename_i U
    have O:jL last A=true:=by simpa using U
    cases h4:G I with
    | none=>rw[h4]at h1; cases h1
    | some b=>
     obtain⟨B,N⟩:=b
     rw[h4]at h1
     simp only[iU]at h1
     cases h5:cW G true (2*r) true (some A) N with
     | none=>rw[h5]at h1; cases h1
     | some c=>
      obtain⟨u,k⟩:=c
      rw[h5]at h1
      simp only at h1
      cases h1
      obtain⟨m1,m2,_⟩:=hp i A I h3
      obtain⟨m3,V,_⟩:=hp I B N h4
      have m5:=kZ hp _ _ _ _ _ _ _ V h5
      have Z:=h i A I p (B++(u++q)) h3
      have X:=h I B N (p++A) (u++q) h4
      have e3:=uy hp J h r f N u j (p++A++B) q (some A) h5 V (by omega)
      have e5:=J i A I h3
      have ek:=B6 p A (B++(u++q))
      simp only[gA]
      have b1:p++(A++(B++u))++q=p++A++(B++(u++q)):=by simp
      have b2:p++A++B++(u++q)=p++A++(B++(u++q)):=by simp
      have b3:p++A++B++u++q=p++A++(B++(u++q)):=by simp
      rw[b1,Z]
      simp only
      rw[ek,O]
      simp only[Bool.true_eq_false,aj]
      rw[b2,aE]at X
      rw[X]
      simp only
      have Y:=e3.1
      rw[b3,aE,aE]at Y
      rw[Y]
      simp only
      rw[oF (by omega) (by omega),oF (by omega) (by omega)]
      refine⟨by simp; omega,by simp; omega⟩
theorem Eh {v:List It} {sw:Option Wr} {sd:L01->Option Rd} (hK:∀x∈v,x.2.2.2<=9223372036854775807) (hB:∀x∈v,x.2.2.1.length<18446744073709551616)
  (h:∀O,sw=some O->Put v O/\Pos O/\∃rd,(∀b,sd b=some (rd b))/\WT v O rd):WT v (fF v sw) (fun b=>l9 b (sd b)):=by
 intro i t j p q G
 unfold fF at G
 cases hx:v[i]? with
 | none=>rw[hx]at G; cases G
 | some x=>
  obtain⟨hi,Y⟩:=aF.1 hx
  have b3:=hK x (Y ▸ cM hi)
  have b4:=hB x (Y ▸ cM hi)
  have J:=M7 hi
  rw[hx]at G
  obtain⟨m,n,d,k⟩:=x
  rw[Y]at J
  simp only at G b3 b4
  split at G
  ·cases G
  ·rename_i hf
   have A:cu (m,n,d,k):=Classical.not_not.1 hf
   have hm:0<=m/\m<8:=by
    rcases nL m with hm | hm | rfl | rfl | rfl | rfl | rfl | rfl | rfl | rfl <;> first | omega | (exfalso; revert A; unfold cu; simp only; rw[ae (by omega),ae (by omega),ae (by omega),ae (by omega),ae (by omega),ae (by omega),ae (by omega)]; simp)
   obtain⟨M,rfl⟩:=eN hm.1
   have h7:M=7->20<=(dK ((M:Int),n,d,k)).toNat/\(dK ((M:Int),n,d,k)).toNat<=22:=by
    rintro rfl
    have:dK (((7:Nat):Int),n,d,k)=n:=rfl
    rw[this]
    have:=A
    unfold cu at this
    simp at this
    exact⟨this.2.2.1,this.2.2.2⟩
   simp only[aq]at G
   split at G
   ·rename_i Z
    cases sw with
    | none=>cases G
    | some O=>
     obtain⟨hp,N,rd,b6,R⟩:=h O rfl
     simp only at G
     cases h2:cW O ((M:Int) == 5) k.toNat true none (i+1) with
     | none=>rw[h2]at G; cases G
     | some a=>
      obtain⟨u,j1⟩:=a
      rw[h2]at G
      simp only at G
      cases G
      have hh:=zS p (u++q) M (dK ((M:Int),n,d,k)) (by omega) h7
      rw[show p++hd M (dK ((M:Int),n,d,k))++(u++q)=p++(hd M (dK ((M:Int),n,d,k))++u)++q by simp]at hh
      simp only[l9,hh]
      rw[ag (show M=4\/M=5\/M=6 by omega),b6]
      simp only[BM]
      have m5:=kZ hp _ _ _ _ _ _ _ (by omega) h2
      have U:(p++(hd M (dK ((M:Int),n,d,k))++u)++q).length=p.length+(hd M (dK ((M:Int),n,d,k))).length+u.length+q.length:=by simp; omega
      by_cases h4:M=4
      ·subst h4
       have hc:n=0/\d=[]/\0<=k:=by simpa [cu] using A
       obtain⟨rfl,rfl,h0⟩:=hc
       have ha:dK (((4:Nat):Int),(0:UInt64),([]:L01),k)=UInt64.ofInt k:=rfl
       have V:(UInt64.ofInt k).toNat=k.toNat:=by
        obtain⟨B,rfl⟩:=eN h0
        rw[gr]; simp; omega
       have X:(((4:Nat):Int) == 5)=false:=rfl
       rw[X]at h2
       rw[ha]at U ⊢
       have e1:=wz hp N R none _ k.toNat _ _ _ (p++hd 4 (UInt64.ofInt k)) q true h2 (by omega) (by omega)
       have I:=wz hp N R none _ ((p++(hd 4 (UInt64.ofInt k)++u)++q).length+1) _ _ _ (p++hd 4 (UInt64.ofInt k)) q true h2 (by omega) (by omega)
       rw[show p++hd 4 (UInt64.ofInt k)++u++q=p++(hd 4 (UInt64.ofInt k)++u)++q by simp]at I
       rw[ag rfl,V]
       rw[show (p++hd 4 (UInt64.ofInt k)).length=p.length+(hd 4 (UInt64.ofInt k)).length from aE]at I
       rw[I.1]
       simp only
       have:((k.toNat:Nat):Int)=k:=by omega
       rw[this,show (((4:Nat):Int),(0:UInt64),([]:L01),k)=((4:Int),(0:UInt64),([]:L01),k) from rfl]at *
       rw[show (4,0,[],k) :: seg v (i+1) j=[(4,0,[],k)]++seg v (i+1) j from rfl,<-J,oF (by omega) (by omega)]
       simp; omega
      ·by_cases h5:M=5
       ·subst h5
        have hc:n=0/\d=[]/\0<=k/\k%2=0:=by simpa [cu] using A
        obtain⟨rfl,rfl,h0,cm⟩:=hc
        have ha:dK (((5:Nat):Int),(0:UInt64),([]:L01),k)=UInt64.ofInt (k / 2):=rfl
        obtain⟨B,rfl⟩:=eN h0
        have V:(UInt64.ofInt ((B:Int) / 2)).toNat=B / 2:=by
         rw[show ((B:Int) / 2)=((B / 2:Nat):Int) by simp,gr]; simp; omega
        have X:(((5:Nat):Int) == 5)=true:=rfl
        have b7:((B:Int)).toNat=2*(B / 2):=by simp; omega
        rw[X,b7]at h2
        rw[ha]at U ⊢
        have e1:=uy hp N R _ (B / 2) _ _ _ (p++hd 5 (UInt64.ofInt ((B:Int) / 2))) q none h2 (by omega) (by omega)
        have I:=uy hp N R _ ((p++(hd 5 (UInt64.ofInt ((B:Int) / 2))++u)++q).length+1) _ _ _ (p++hd 5 (UInt64.ofInt ((B:Int) / 2))) q none h2 (by omega) (by omega)
        rw[show p++hd 5 (UInt64.ofInt ((B:Int) / 2))++u++q=p++(hd 5 (UInt64.ofInt ((B:Int) / 2))++u)++q by simp]at I
        rw[ae (by decide),ag rfl,V]
        rw[show (p++hd 5 (UInt64.ofInt ((B:Int) / 2))).length=p.length+(hd 5 (UInt64.ofInt ((B:Int) / 2))).length from aE]at I
        rw[I.1]
        simp only
        have:2*((B / 2:Nat):Int)=(B:Int):=by omega
        rw[this]
        rw[show ((5:Int),(0:UInt64),([]:L01),(B:Int)) :: seg v (i+1) j=[((5:Int),(0:UInt64),([]:L01),(B:Int))]++seg v (i+1) j from rfl,
         show [((5:Int),(0:UInt64),([]:L01),(B:Int))]=seg v i (i+1) from J.symm,oF (by omega) (by omega)]
        simp; omega
       ·have h6:M=6:=by omega
        subst h6
        have hc:d=[]/\k=1:=by simpa [cu] using A
        obtain⟨rfl,rfl⟩:=hc
        have ha:dK (((6:Nat):Int),n,([]:L01),1)=n:=rfl
        have X:(((6:Nat):Int) == 5)=false:=rfl
        rw[X,show (1:Int).toNat=1 from rfl]at h2
        rw[ha]at U ⊢
        simp only[cW]at h2
        cases h8:O (i+1) with
        | none=>rw[h8]at h2; cases h2
        | some c=>
         obtain⟨t1,j2⟩:=c
         rw[h8]at h2
         simp only[ea,ah,aj,bM]at h2
         cases h2
         have I:=R _ _ _ (p++hd 6 n) q h8
         rw[show p++hd 6 n++u++q=p++(hd 6 n++u)++q by simp,aE]at I
         rw[ae (by decide),ae (by decide),I]
         simp only
         rw[show ((6:Int),n,([]:L01),(1:Int)) :: seg v (i+1) j=[((6:Int),n,([]:L01),(1:Int))]++seg v (i+1) j from rfl,
          show [((6:Int),n,([]:L01),(1:Int))]=seg v i (i+1) from J.symm,oF (by omega) (by omega)]
         simp; omega
   ·rename_i Z
    cases G
    have hh:=zS p (d++q) M (dK ((M:Int),n,d,k)) (by omega) h7
    rw[show p++hd M (dK ((M:Int),n,d,k))++(d++q)=p++(hd M (dK ((M:Int),n,d,k))++d)++q by simp]at hh
    simp only[l9,hh]
    rw[ae (show ¬(M=4\/M=5\/M=6) by omega)]
    have U:(p++(hd M (dK ((M:Int),n,d,k))++d)++q).length=p.length+(hd M (dK ((M:Int),n,d,k))).length+d.length+q.length:=by simp; omega
    by_cases h23:M=2\/M=3
    ·have ha:dK ((M:Int),n,d,k)=UInt64.ofNat d.length:=by
      simp only[dK]; rw[ag (by omega)]
     have V:(UInt64.ofNat d.length).toNat=d.length:=by simp; omega
     have hc:n=0/\k=0/\(M=3->Lib.validD d=true):=by
      rcases h23 with rfl | rfl
      ·have:=A; simp[cu]at this; exact⟨this.1,this.2,by omega⟩
      ·have:=A; simp[cu]at this; exact⟨this.1,this.2.1,fun _=>this.2.2⟩
     obtain⟨rfl,rfl,bx⟩:=hc
     rw[ha]at U ⊢
     have ac:=B6 (p++hd M (UInt64.ofNat d.length)) d q
     rw[show p++hd M (UInt64.ofNat d.length)++d++q=p++(hd M (UInt64.ofNat d.length)++d)++q by simp,aE]at ac
     rw[ag h23,V,ae (by omega),ac,ae (by rintro⟨h3,h4⟩; rw[bx h3]at h4; cases h4),J]
     simp; omega
    ·have b2:M=0\/M=1\/M=7:=by omega
     have ha:dK ((M:Int),n,d,k)=n:=by
      simp only[dK]; rw[ae (by omega),ae (by omega),ae (by omega)]
     have hc:d=[]/\k=0:=by
      rcases b2 with rfl | rfl | rfl
      ·simpa [cu] using A
      ·simpa [cu] using A
      ·have:=A; simp[cu]at this; exact⟨this.1,this.2.1⟩
     obtain⟨rfl,rfl⟩:=hc
     rw[ae h23,ha,J]
     simp
theorem DF (v:List It) (hK:∀x∈v,x.2.2.2<=9223372036854775807) (j:∀x∈v,x.2.2.1.length<18446744073709551616):∀d,WT v (cz d v) (fun b=>mc d b)
 | 0=>Eh (sd:=fun _=>none) hK j (by simp)
 | d+1=>Eh (sd:=fun b=>some (mc d b)) hK j (by intro A h; cases h; exact⟨iN v d,Kh v d,_,fun _=>rfl,DF v hK j d⟩)
def uY (b:L01) (rd:Rd):Prop:=∀i j is,i<=b.length->rd i=.ok (j,is)->∀x∈is,x.2.2.1.length<=b.length/\x.2.2.2<=2*(b.length:Int)
theorem wh {b:L01} {A:Rd} (hm:ni b A) (h:uY b A):∀(f n i j:Nat) (is:List It),i<=b.length->gS A f n i=.ok (j,is)->∀x∈is,x.2.2.1.length<=b.length/\x.2.2.2<=2*(b.length:Int)
 | f,0,i,j,is,hi,h1=>by
  have:(i,([]:List It))=(j,is):=by cases f <;> (simp only[gS]at h1; cases h1; rfl)
  cases this; simp
 | 0,n+1,i,j,is,hi,h1=>by simp only[gS]at h1; cases h1
 | f+1,n+1,i,j,is,hi,h1=>by
  simp only[gS]at h1
  cases h2:A i with
  | error e=>rw[h2]at h1; cases h1
  | ok p=>
   obtain⟨B,J⟩:=p
   rw[h2]at h1
   simp only at h1
   obtain⟨N,G,_⟩:=hm.1 _ _ _ h2
   cases h3:gS A f n B with
   | error e=>rw[h3]at h1; cases h1
   | ok q=>
    obtain⟨k,I⟩:=q
    rw[h3]at h1
    cases h1
    intro x hx
    rcases bE.1 hx with hx | hx
    ·exact h _ _ _ hi h2 x hx
    ·exact wh hm h f n B _ I G h3 x hx
theorem tF {b:L01} {A:Rd} (hm:ni b A) (h:uY b A):∀(f n:Nat) (last:Option L01) (i j:Nat) (is:List It),i<=b.length->gA A b f n last i=.ok (j,is)->∀x∈is,x.2.2.1.length<=b.length/\x.2.2.2<=2*(b.length:Int)
 | f,0,last,i,j,is,hi,h1=>by
  have:(i,([]:List It))=(j,is):=by cases f <;> (simp only[gA]at h1; cases h1; rfl)
  cases this; simp
 | 0,n+1,last,i,j,is,hi,h1=>by simp only[gA]at h1; cases h1
 | f+1,n+1,last,i,j,is,hi,h1=>by
  simp only[gA]at h1
  cases h2:A i with
  | error e=>rw[h2]at h1; cases h1
  | ok p=>
   obtain⟨B,J⟩:=p
   rw[h2]at h1
   simp only at h1
   obtain⟨N,G,_⟩:=hm.1 _ _ _ h2
   split at h1
   ·cases h1
   ·cases h3:A B with
    | error e=>rw[h3]at h1; cases h1
    | ok r=>
     obtain⟨k,O⟩:=r
     rw[h3]at h1
     simp only at h1
     obtain⟨R,I,_⟩:=hm.1 _ _ _ h3
     cases h4:gA A b f n (some (part b i B)) k with
     | error e=>rw[h4]at h1; cases h1
     | ok s=>
      obtain⟨l,ks⟩:=s
      rw[h4]at h1
      cases h1
      intro x hx
      rcases bE.1 hx with hx | hx
      ·rcases bE.1 hx with hx | hx
       ·exact h _ _ _ hi h2 x hx
       ·exact h _ _ _ G h3 x hx
      ·exact tF hm h f n _ k _ ks I h4 x hx
theorem u7 {b:L01} {sub:Option Rd} (h:∀B,sub=some B->ni b B/\uY b B):uY b (l9 b sub):=by
 intro i j is hi A
 unfold l9 at A
 cases h2:mD b i with
 | error e=>rw[h2]at A; cases A
 | ok p=>
  obtain⟨m,n,I⟩:=p
  rw[h2]at A
  obtain⟨O,G,R⟩:=uw h2
  simp only at A
  split at A
  ·cases sub with
   | none=>cases A
   | some B=>
    obtain⟨hm,hs⟩:=h B rfl
    simp only[BM]at A
    split at A
    ·cases h5:gS B (b.length+1) n.toNat I with
     | error e=>rw[h5]at A; cases A
     | ok r=>
      obtain⟨k,J⟩:=r
      rw[h5]at A; cases A
      have N:=(pL hm _ _ _ G).1 _ _ h5
      intro x hx
      rcases aM.1 hx with rfl | hx
      ·simp; omega
      ·exact wh hm hs _ _ _ _ _ G h5 x hx
    ·split at A
     ·cases h5:gA B b (b.length+1) n.toNat none I with
      | error e=>rw[h5]at A; cases A
      | ok r=>
       obtain⟨k,J⟩:=r
       rw[h5]at A; cases A
       have N:=(oO hm _ _ _ _ G).1 _ _ h5
       intro x hx
       rcases aM.1 hx with rfl | hx
       ·simp; omega
       ·exact tF hm hs _ _ _ _ _ _ G h5 x hx
     ·cases h5:B I with
      | error e=>rw[h5]at A; cases A
      | ok r=>
       obtain⟨k,J⟩:=r
       rw[h5]at A; cases A
       intro x hx
       rcases aM.1 hx with rfl | hx
       ·simp; omega
       ·exact hs _ _ _ G h5 x hx
  ·split at A
   ·split at A
    ·cases A
    ·split at A
     ·cases A
     ·cases A
      intro x hx
      obtain rfl:=List.mem_singleton.1 hx
      simp[part]; omega
   ·cases A
    intro x hx
    obtain rfl:=List.mem_singleton.1 hx
    exact⟨by simp,by simp only; omega⟩
theorem tL (b:L01):∀d,uY b (mc d b)
 | 0=>u7 (by simp)
 | d+1=>u7 (by intro j h; cases h; exact⟨kP b d,tL b d⟩)
theorem Qr {v:List It} {D:Nat} (h:∀x∈v,x.2.2.1.length<=D):wt v<=v.length*(9+D):=by
 induction v with
 | nil=>simp[wt]
 | cons x r ih=>
  have j:=ih (fun y hy=>h y (eM _ hy))
  have A:=h x (by simp)
  simp only[wt,ca,aW]
  omega
def uE (v:List It):Prop:=wt v<=5000000000/\(∀x∈v,x.2.2.2<=131072)/\(∀x∈v,x.2.2.1.length<=65536)
theorem uE.kd {v:List It} (h:uE v):Kd v:=fun x hx=>by have:=h.2.1 x hx; omega
theorem uE.wt {v:List It} (h:uE v):wt v<=4000000000000:=by have:=h.1; omega
theorem uE.bt {v:List It} (h:uE v):∀x∈v,x.2.2.1.length<18446744073709551616:=fun x hx=>by have:=h.2.2 x hx; omega
theorem NT {b:L01} {d j:Nat} {is:List It} (hb:b.length<=65536) (h:mc d b 0=.ok (j,is)):uE is:=by
 have hs:=tL b d 0 j is (by omega) h
 have hm:=(kP b d).1 _ _ _ h
 have hw:=Qr (v:=is) (D:=65536) (fun x hx=>by have:=(hs x hx).1; omega)
 have A:is.length*(9+65536)<=65536*(9+65536):=aT _ (by omega)
 exact⟨by omega,fun x hx=>by have:=(hs x hx).2; omega,fun x hx=>by have:=(hs x hx).1; omega⟩
theorem CT (b:L01):(∃is,b.length<=65536/\mc 32 b 0=.ok (b.length,is)/\kj b=(is,0,0))\/(∃e p,e≠0/\0<=p/\p<=(b.length:Int)/\kj b=([],e,p)):=by
 unfold kj
 split
 ·exact .inr ⟨10,0,by simp,by omega,by omega,rfl⟩
 ·rename_i hb
  cases h:mc 32 b 0 with
  | error e=>
   have:=(kP b 32).2 0 e h (by omega)
   exact .inr ⟨e.1,e.2,this.1,this.2.1,this.2.2,rfl⟩
  | ok p=>
   obtain⟨j,is⟩:=p
   have:=(kP b 32).1 _ _ _ h
   simp only
   by_cases hj:j<b.length
   ·rw[ag hj]; exact .inr ⟨220,j,by simp,by omega,by omega,rfl⟩
   ·rw[ae hj]
    have:j=b.length:=by omega
    subst this
    exact .inl ⟨is,by omega,rfl,rfl⟩
theorem C2 {v:List It} {d j:Nat} {t:L01} (hK:Kd v) (A:∀x∈v,x.2.2.1.length<18446744073709551616) (h:cz d v 0=some (t,j)):mc d t 0=.ok (t.length,v.take j):=by
 have:=DF v hK A d 0 t j [] [] h
 simpa [seg] using this
theorem zg {v:List It} {t:L01} (hK:Kd v) (B:∀x∈v,x.2.2.1.length<18446744073709551616) (h:pb v=(t,0)):kj t=(v,0,0)/\t.length<=65536:=by
 unfold pb at h
 cases h1:cz 32 v 0 with
 | none=>rw[h1]at h; cases h
 | some a=>
  obtain⟨u,j⟩:=a
  rw[h1]at h
  simp only at h
  split at h
  ·rename_i G
   split at h
   ·cases h
   ·cases h
    have A:=C2 hK B h1
    rw[G,cO]at A
    refine⟨?_,by omega⟩
    unfold kj
    rw[ae (by omega),A]
    simp
  ·cases h
def Beh (v:List It) (f:Int×Int->Option ((Int×Int)⊕Int)) (wr:Wr) (N:Nat):Prop:=
 ∀i t j (n:Nat),wr i=some (t,j)->n<=N->loop f ((i:Int),((n+1:Nat):Int))=loop f ((j:Int),(n:Int))
def zk (v:List It) (f:Int×Int->Option ((Int×Int)⊕Int)):Prop:=
 ∀(i n k:Nat) (hi:i<v.length),v[i].2.2.2=(k:Int)->n+k<=1000000000000000000->i<=1000000000000000000->f ((i:Int),((n+1:Nat):Int))=some (.inl (((i+1:Nat):Int),((n+k:Nat):Int)))
theorem H7 (v:List It):zk v (F.ZM v):=by
 intro i n k hi j I J
 have hd:decide ((0:Int)<((n+1:Nat):Int))=true:=by simp only[ak]; omega
 simp only[F.ZM,hd,am,bX hi,aa,aG,j]
 have A:wI ((k:Int) - 1)=(k:Int) - 1:=aD (by omega) (by omega)
 have B:wI (((n+1:Nat):Int)+((k:Int) - 1))=((n+k:Nat):Int):=by rw[aD (by omega) (by omega)]; omega
 have G:wI ((i:Int)+1)=((i+1:Nat):Int):=by rw[aD (by omega) (by omega)]; simp
 rw[A,B,G]; rfl
theorem J0 (v:List It):zk v (F.aa9 v):=by
 intro i n k hi j I J
 have hd:decide ((0:Int)<((n+1:Nat):Int))=true:=by simp only[ak]; omega
 simp only[F.aa9,hd,am,bX hi,aa,aG,j]
 have A:wI (((n+1:Nat):Int) - 1)=(n:Int):=by rw[aD (by omega) (by omega)]; omega
 have B:wI ((n:Int)+(k:Int))=((n+k:Nat):Int):=by rw[aD (by omega) (by omega)]; omega
 have G:wI ((i:Int)+1)=((i+1:Nat):Int):=by rw[aD (by omega) (by omega)]; simp
 rw[A,B,G]; rfl
theorem Ax {v:List It} {f:Int×Int->Option ((Int×Int)⊕Int)} {B:Wr} {N:Nat} (hp:Put v B) (h:Beh v f B N) (G:Bool):∀(r:Nat) (A:Bool) (last:Option L01) (i:Nat) (t:L01) (j n:Nat),
  cW B G r A last i=some (t,j)->n+r<=N->loop f ((i:Int),((n+r:Nat):Int))=loop f ((j:Int),(n:Int))
 | 0,A,last,i,t,j,n,h1,h2=>by
  simp only[cW]at h1; cases h1; rfl
 | r+1,A,last,i,t,j,n,h1,h2=>by
  simp only[cW]at h1
  cases h3:B i with
  | none=>rw[h3]at h1; cases h1
  | some a=>
   obtain⟨J,I⟩:=a
   rw[h3]at h1
   simp only at h1
   split at h1
   ·cases h1
   ·cases h4:cW B G r (!A) (if (G&&A)=true then some J else last) I with
    | none=>rw[h4]at h1; cases h1
    | some b=>
     obtain⟨u,k⟩:=b
     rw[h4]at h1
     cases h1
     rw[show n+(r+1)=(n+r)+1 by omega,h i J I (n+r) h3 (by omega)]
     exact Ax hp h G r _ _ I u j n h4 (by omega)
theorem Ay {x:It} (h:cu x):0<=x.2.2.2/\(¬(x.1=4\/x.1=5\/x.1=6)->x.2.2.2=0):=by
 obtain⟨m,n,d,k⟩:=x
 simp only
 rcases nL m with hm | hm | rfl | rfl | rfl | rfl | rfl | rfl | rfl | rfl <;> first
  | (exfalso; revert h; unfold cu; simp only; rw[ae (by omega),ae (by omega),ae (by omega),ae (by omega),ae (by omega),ae (by omega),ae (by omega)]; simp; done)
  | (simp[cu]at h; omega)
theorem BU {v:List It} {f:Int×Int->Option ((Int×Int)⊕Int)} {sub:Option Wr} {N:Nat} (hs:zk v f) (U:v.length<=1000000000000000) (V:N+v.length<=1000000000000000000)
  (h:∀B,sub=some B->Put v B/\Beh v f B (N+v.length)):Beh v f (fF v sub) N:=by
 intro i t j n A hn
 unfold fF at A
 cases hx:v[i]? with
 | none=>rw[hx]at A; cases A
 | some x=>
  rw[hx]at A
  obtain⟨hi,I⟩:=aF.1 hx
  simp only at A
  split at A
  ·cases A
  ·rename_i hf
   obtain⟨O,R⟩:=Ay (Classical.not_not.1 hf)
   obtain⟨k,J⟩:=eN O
   split at A
   ·cases sub with
    | none=>cases A
    | some B=>
     obtain⟨hp,hb⟩:=h B rfl
     simp only at A
     cases h2:cW B (x.1 == 5) x.2.2.2.toNat true none (i+1) with
     | none=>rw[h2]at A; cases A
     | some a=>
      obtain⟨u,X⟩:=a
      rw[h2]at A
      cases A
      rw[J,aq]at h2
      have Y:=kZ hp _ _ _ _ _ _ _ (by omega) h2
      rw[bp (hs i n k hi (by rw[I]; exact J) (by omega) (by omega))]
      exact Ax hp hb _ k true none (i+1) u j n h2 (by omega)
   ·rename_i G
    cases A
    have:k=0:=by have:=R G; omega
    subst this
    rw[bp (hs i n 0 hi (by rw[I]; exact J) (by omega) (by omega))]
    rfl
theorem uN {v:List It} {f:Int×Int->Option ((Int×Int)⊕Int)} (hs:zk v f) (j:v.length<=1000000000000000):∀(d N:Nat),N+(d+1)*v.length<=1000000000000000000->Beh v f (cz d v) N
 | 0,N,h=>BU hs j (by omega) (by simp)
 | d+1,N,h=>by
  rw[aW]at h
  refine BU hs j (by omega) (fun A hw=>?_)
  cases hw
  exact⟨iN v d,uN hs j d (N+v.length) (by omega)⟩
theorem nM {v:List It} {d i j:Nat} {t:L01} (A:v.length<=1000000000000000) (hd:d<=32) (h:cz d v i=some (t,j)):F.U9 v (i:Int)=some (j:Int):=by
 have hm:(d+1)*v.length<=33*v.length:=aT _ (by omega)
 have:=uN (H7 v) A d 0 (by omega) i t j 0 h (by omega)
 unfold F.U9
 rw[show ((1:Int))=((0+1:Nat):Int) from rfl,this]
 exact bI rfl
theorem EW {v:List It} {d i j:Nat} {t:L01} (A:v.length<=1000000000000000) (hd:d<=32) (h:cz d v i=some (t,j)):F.abe v (i:Int)=some (j:Int):=by
 have hm:(d+1)*v.length<=33*v.length:=aT _ (by omega)
 have:=uN (J0 v) A d 0 (by omega) i t j 0 h (by omega)
 unfold F.abe
 rw[show ((1:Int))=((0+1:Nat):Int) from rfl,this]
 exact bI rfl
def Inn (v:List It) (D:Nat) (wr:Wr):Prop:=∀i t j a,wr i=some (t,j)->i<=a->a<j->∃d t' k,d<=D/\cz d v a=some (t',k)/\k<=j
theorem AH {v:List It} {D:Nat} {B:Wr} (hp:Put v B) (h:Inn v D B) (G:Bool):∀(r:Nat) (A:Bool) (last:Option L01) (i:Nat) (t:L01) (j a:Nat),i<=v.length ->
  cW B G r A last i=some (t,j)->i<=a->a<j->∃d J k,d<=D/\cz d v a=some (J,k)/\k<=j
 | 0,A,last,i,t,j,a,hi,h1,h2,h3=>by simp only[cW]at h1; cases h1; omega
 | r+1,A,last,i,t,j,a,hi,h1,h2,h3=>by
  simp only[cW]at h1
  cases h4:B i with
  | none=>rw[h4]at h1; cases h1
  | some b=>
   obtain⟨N,I⟩:=b
   rw[h4]at h1
   simp only at h1
   obtain⟨V,O,_⟩:=hp _ _ _ h4
   split at h1
   ·cases h1
   ·cases h5:cW B G r (!A) (if (G&&A)=true then some N else last) I with
    | none=>rw[h5]at h1; cases h1
    | some c=>
     obtain⟨u,k⟩:=c
     rw[h5]at h1
     cases h1
     have X:=kZ hp _ _ _ _ _ _ _ O h5
     rcases bY a I with ha | ha
     ·obtain⟨d,J,R,hd,U,Y⟩:=h i N I a h4 h2 ha
      exact⟨d,J,R,hd,U,by omega⟩
     ·exact AH hp h G r _ _ I u j a O h5 ha h3
theorem I9 (v:List It):∀d,Inn v d (cz d v):=by
 have G:∀(d:Nat) (sub:Option Wr) (hs:∀B,sub=some B->Put v B/\Inn v d B) (he:cz d v=fF v sub),Inn v d (fF v sub):=by
  intro d sub hs he i t j a A I J
  rcases Nat.eq_or_lt_of_le I with rfl | R
  ·exact⟨d,t,j,by omega,by rw[he]; exact A,by omega⟩
  ·unfold fF at A
   cases hx:v[i]? with
   | none=>rw[hx]at A; cases A
   | some x=>
    rw[hx]at A
    obtain⟨hi,U⟩:=aF.1 hx
    simp only at A
    split at A
    ·cases A
    ·split at A
     ·cases sub with
      | none=>cases A
      | some B=>
       obtain⟨hp,hn⟩:=hs B rfl
       simp only at A
       cases h4:cW B (x.1 == 5) x.2.2.2.toNat true none (i+1) with
       | none=>rw[h4]at A; cases A
       | some b=>
        obtain⟨u,V⟩:=b
        rw[h4]at A
        cases A
        exact AH hp hn _ _ _ _ _ _ _ a (by omega) h4 (by omega) J
     ·cases A; omega
 intro d
 induction d with
 | zero=>exact G 0 none (by simp) rfl
 | succ d ih=>
  refine G (d+1) (some (cz d v)) (fun B hw=>?_) rfl
  cases hw
  refine⟨iN v d,fun i t j a A I J=>?_⟩
  obtain⟨N,O,k,hd,e⟩:=ih i t j a A I J
  exact⟨N,O,k,by omega,e⟩
def ii (v:List It) (wr:Wr) (key:List It):Nat->Nat->Int
 | 0,_=>-1
 | r+1,i=>match wr i with
  | none=>-1
  | some (_,j)=>if seg v i j=key then (j:Int) else match wr j with
   | none=>-1
   | some (_,k)=>ii v wr key r k
theorem K8 {τ:Type} [DecidableEq τ] {f:Int->Option (Int⊕Bool)} {a b:List τ} {m:Nat} (hm:m<=a.length) (O:m<=b.length) (hb:m<9223372036854775807) (R:Bool)
  (A:f (m:Int)=some (.inr R)) (j:∀i:Nat,(h:i<m)->f (i:Int)=some (if a[i]=b[i] then .inl (((i+1:Nat)):Int) else .inr false)) :
  loop f 0=some (if a.take m=b.take m then R else false):=by
 have G:∀k i,m - i=k->i<=m->a.take i=b.take i->loop f (i:Int)=some (if a.take m=b.take m then R else false):=by
  intro k
  induction k with
  | zero=>
   intro i I J B
   have:i=m:=by omega
   subst this
   rw[bI A,ag B]
  | succ k ih=>
   intro i I J B
   have hi:i<m:=by omega
   have hs:=j i hi
   by_cases he:a[i]=b[i]
   ·rw[ag he]at hs
    rw[bp hs]
    refine ih (i+1) (by omega) (by omega) ?_
    rw[dR (by omega),dR (by omega),B,he]
   ·rw[ae he]at hs
    rw[bI hs,ae]
    intro N
    apply he
    have:=da (fun l=>l[i]?) N
    simp only[bP,ag hi]at this
    rw[aA (by omega),aA (by omega)]at this
    exact dW this
 exact G m 0 (by omega) (by omega) (by simp)
theorem xG (a b:List It) (ha:a.length<9223372036854775807):F.YB a b=some (a == b):=by
 unfold F.YB
 have j:(min (a.length:Int) (b.length:Int))=((min a.length b.length:Nat):Int):=by omega
 rw[K8 (a:=a) (b:=b) (m:=min a.length b.length) (by omega) (by omega) (by omega) ((a.length:Int) == (b.length:Int))]
 ·congr 1
  by_cases hl:a.length=b.length
  ·rw[hl]
   simp only[Nat.min_self,dL]
   rw[aC (by omega),aC (by omega)]
   by_cases h:a=b <;> simp[h]
  ·have G:((a.length:Int) == (b.length:Int))=false:=by simp; omega
   have I:a≠b:=fun h=>hl (by rw[h])
   simp[G,I]
 ·simp only[F.YJ,j]
  simp only[eD,dr,ah,aj]; rfl
 ·intro i hi
  have hd:decide ((i:Int)<((min a.length b.length:Nat):Int))=true:=by simp; omega
  have J:wI ((i:Int)+1)=((i+1:Nat):Int):=by rw[aD (by omega) (by omega)]; simp
  have A:i<a.length:=by omega
  have B:i<b.length:=by omega
  simp only[F.YJ,j,hd,am,bX A,bX B,aa,J]
  by_cases he:a[i]=b[i]
  ·rw[ag he,he]; simp only[dn,ah,aj]; rfl
  ·have:(a[i] != b[i])=true:=by simpa using he
   simp only[this,am,ae he]; rfl
section
variable {v:List It} {d:Nat}
theorem M6 {i j:Nat} (h:i<=j) (A:j<=v.length):slO v (i:Int) (j:Int)=some (seg v i j):=lP h A
theorem pI (O:v.length<=1000000000000000) (hd:d<=32) (A:List It) (x:It) (K:Nat) (hx:wI (Int.tdiv x.2.2.2 2)=(K:Int)) (R:K<=4611686018427387904):∀(r c i:Nat) (last:Option L01) (t:L01) (j:Nat),
  cW (cz d v) true (2*r) true last i=some (t,j)->c+r=K->i<=v.length->loop (F.VQ v A x) ((i:Int),(c:Int))=some (ii v (cz d v) A r i)
 | 0,c,i,last,t,j,h1,h2,h3=>by
  refine bI ?_
  have:decide ((c:Int)<(K:Int))=false:=by simp; omega
  simp only[F.VQ,hx,this,ah,aj,ii]; rfl
 | r+1,c,i,last,t,j,h1,h2,h3=>by
  rw[show 2*(r+1)=2*r+1+1 by omega]at h1
  simp only[cW]at h1
  cases h4:cz d v i with
  | none=>rw[h4]at h1; cases h1
  | some a=>
   obtain⟨U,B⟩:=a
   rw[h4]at h1
   obtain⟨m1,m2,m3⟩:=iN v d i U B h4
   simp only[eE,db,ea,Bool.and_false,ah,aj,am]at h1
   split at h1
   ·cases h1
   ·cases h5:cz d v B with
    | none=>rw[h5]at h1; cases h1
    | some b=>
     obtain⟨Y,I⟩:=b
     rw[h5]at h1
     obtain⟨m4,Z,m6⟩:=iN v d B Y I h5
     simp only[iU]at h1
     cases h6:cW (cz d v) true (2*r) true (some U) I with
     | none=>rw[h6]at h1; cases h1
     | some e=>
      obtain⟨u,k⟩:=e
      have J:decide ((c:Int)<(K:Int))=true:=by simp; omega
      have V:=nM O hd h4
      have e2:=nM O hd h5
      have N:=M6 (v:=v) (i:=i) (j:=B) (by omega) (by omega)
      have G:(seg v i B).length<9223372036854775807:=by simp[seg]; omega
      have X:wI ((c:Int)+1)=((c+1:Nat):Int):=by rw[aD (by omega) (by omega)]; simp
      simp only[ii,h4,h5]
      by_cases hk:seg v i B=A
      ·refine bI ?_
       have hb:(seg v i B == A)=true:=by simpa using hk
       simp only[F.VQ,hx,J,am,V,aa,N,xG _ _ G,hb,ag hk]; rfl
      ·have hb:(seg v i B == A)=false:=by simpa using hk
       have hs:F.VQ v A x ((i:Int),(c:Int))=some (.inl ((I:Int),((c+1:Nat):Int))):=by
        simp only[F.VQ,hx,J,am,V,aa,N,xG _ _ G,hb,ah,aj,e2,X]; rfl
       rw[bp hs,ae hk]
       exact pI O hd A x K hx R r (c+1) I _ u k h6 (by omega) Z
end
theorem rM {v:List It} (hs:iA v=true) {a:Nat} (ha:a<v.length):∃d t k,d<=32/\cz d v a=some (t,k):=by
 unfold iA at hs
 cases h:cz 32 v 0 with
 | none=>rw[h]at hs; cases hs
 | some b=>
  obtain⟨t,j⟩:=b
  rw[h]at hs
  have:j=v.length:=by simpa using hs
  subst this
  obtain⟨d,A,k,B,G,_⟩:=I9 v 32 0 t v.length a h (by omega) ha
  exact⟨d,A,k,B,G⟩
theorem KI {v:List It} {d a k:Nat} {t:L01} (h:cz d v a=some (t,k)) (ha:a<v.length) (G:v[a].1=5) :
  ∃I u,d=I+1/\cW (cz I v) true v[a].2.2.2.toNat true none (a+1)=some (u,k)/\0<=v[a].2.2.2/\v[a].2.2.2%2=0:=by
 have B:∀sub,fF v sub a=some (t,k)->∃A u,sub=some A/\cW A true v[a].2.2.2.toNat true none (a+1)=some (u,k)/\0<=v[a].2.2.2/\v[a].2.2.2%2=0:=by
  intro sub j
  unfold fF at j
  rw[aA ha]at j
  simp only at j
  split at j
  ·cases j
  ·rename_i hf
   have J:=Classical.not_not.1 hf
   rw[ag (by omega)]at j
   cases sub with
   | none=>cases j
   | some A=>
    simp only at j
    have N:(v[a].1 == 5)=true:=by simpa using G
    rw[N]at j
    split at j
    ·cases j
    ·rename_i O X R
     cases j
     have:0<=v[a].2.2.2/\v[a].2.2.2%2=0:=by
      revert J
      unfold cu
      rw[G]
      simp
     exact⟨A,O,rfl,R,this.1,this.2⟩
 cases d with
 | zero=>obtain⟨A,u,j,_⟩:=B none h; cases j
 | succ d=>
  obtain⟨A,u,j,U,V⟩:=B _ h
  cases j
  exact⟨d,u,rfl,U,V⟩
theorem p1:kj [161,97,97,130,1,245]=([(5,0,[],2),(3,0,[97],0),(4,0,[],2),(0,1,[],0),(7,21,[],0)],0,0):=by kernel_rfl
theorem p2:pb [(4,0,[],2),(1,99,[],0),(2,0,[120,121],0)]=([130,56,99,66,120,121],0):=by kernel_rfl
theorem p3:kj [130,24,23,0]=([],220,1):=by kernel_rfl
theorem p4:iA [(5,0,[],2),(3,0,[97],0),(4,0,[],2),(0,1,[],0),(7,21,[],0)]=true:=by kernel_rfl
theorem p5:cz 31 [(5,0,[],2),(3,0,[97],0),(4,0,[],2),(0,1,[],0),(7,21,[],0)] 1=some ([97,97],2):=by kernel_rfl
theorem p6:cz 31 [(5,0,[],2),(3,0,[97],0),(4,0,[],2),(0,1,[],0),(7,21,[],0)] 2=some ([130,1,245],5):=by kernel_rfl
theorem DZ {v:List It} {A:Wr} (B:List It):∀(r i:Nat) (last:Option L01) (t:L01) (j:Nat),cW A true (2*r) true last i=some (t,j) ->
  ii v A B r i=-1\/∃(k:Nat) (J:L01) (N:Nat),ii v A B r i=(k:Int)/\A k=some (J,N)
 | 0,i,last,t,j,h=>.inl rfl
 | r+1,i,last,t,j,h1=>by
  rw[show 2*(r+1)=2*r+1+1 by omega]at h1
  simp only[cW]at h1
  cases h4:A i with
  | none=>rw[h4]at h1; cases h1
  | some a=>
   obtain⟨O,I⟩:=a
   rw[h4]at h1
   simp only[eE,db,ea,Bool.and_false,ah,aj,am]at h1
   split at h1
   ·cases h1
   ·cases h5:A I with
    | none=>rw[h5]at h1; cases h1
    | some b=>
     obtain⟨R,G⟩:=b
     rw[h5]at h1
     simp only[iU]at h1
     cases h6:cW A true (2*r) true (some O) G with
     | none=>rw[h6]at h1; cases h1
     | some e=>
      obtain⟨u,k⟩:=e
      simp only[ii,h4,h5]
      split
      ·exact .inr ⟨I,R,G,rfl,h5⟩
      ·exact DZ B r G _ u k h6
theorem DP {v:List It} {d k j:Nat} {t:L01} (h:cz d v k=some (t,j)):∃N:k<v.length,cu v[k]/\0<=v[k].2.2.2/\k+1+v[k].2.2.2.toNat<=j/\j<=v.length:=by
 have hp:=iN v d k t j h
 have N:k<v.length:=by omega
 have J:∀sub,(∀B,sub=some B->Put v B)->fF v sub k=some (t,j)->cu v[k]/\0<=v[k].2.2.2/\k+1+v[k].2.2.2.toNat<=j:=by
  intro sub O A
  unfold fF at A
  rw[aA N]at A
  simp only at A
  split at A
  ·cases A
  ·rename_i hf
   have G:=Classical.not_not.1 hf
   obtain⟨R,U⟩:=Ay G
   split at A
   ·cases sub with
    | none=>cases A
    | some B=>
     simp only at A
     split at A
     ·cases A
     ·rename_i V X I
      cases A
      have:=kZ (O B rfl) _ _ _ _ _ _ _ (by omega) I
      exact⟨G,R,by omega⟩
   ·rename_i I
    cases A
    have:=U I
    exact⟨G,R,by omega⟩
 refine⟨N,?_⟩
 cases d with
 | zero=>
  obtain⟨a,b,c⟩:=J none (by simp) h
  exact⟨a,b,c,by omega⟩
 | succ d=>
  obtain⟨a,b,c⟩:=J (some (cz d v)) (by intro B hw; cases hw; exact iN v d) h
  exact⟨a,b,c,by omega⟩
theorem Iv (a x:Int):F.UG [a] x=some (x == a):=by
 unfold F.UG F.Za
 by_cases h:x=a
 ·have hs:F.Ts [a] x 0=some (.inr 0):=by
   simp[F.Ts,ax,h]; rfl
  rw[bI hs,aa]; simp[h]
 ·have hs:F.Ts [a] x 0=some (.inl 1):=by
   simp[F.Ts,ax,h]; rfl
  have j:F.Ts [a] x 1=some (.inr (-1)):=rfl
  rw[bp hs,bI j,aa]; simp[h]
theorem GQ (a b x:Int):F.UG [a,b] x=some (x == a || x == b):=by
 unfold F.UG F.Za
 by_cases h:x=a
 ·have hs:F.Ts [a,b] x 0=some (.inr 0):=by
   simp[F.Ts,ax,h]; rfl
  rw[bI hs,aa]; simp[h]
 ·have hs:F.Ts [a,b] x 0=some (.inl 1):=by
   simp[F.Ts,ax,h]; rfl
  by_cases h2:x=b
  ·have j:F.Ts [a,b] x 1=some (.inr 1):=by
    simp[F.Ts,ax,h2]; rfl
   rw[bp hs,bI j,aa]; simp[h2]
  ·have j:F.Ts [a,b] x 1=some (.inl 2):=by
    simp[F.Ts,ax,h2]; rfl
   have A:F.Ts [a,b] x 2=some (.inr (-1)):=rfl
   rw[bp hs,bp j,bI A,aa]; simp[h,h2]
section
variable {v:List It} (hw:wt v<=4000000000000) (hK:Kd v) (hU:∀x∈v,x.2.2.1.length<=2000000)
include hw hK hU
end
section
variable {v:List It}
end
section
variable {v:List It} (hw:wt v<=4000000000000) (hK:Kd v) (hU:∀x∈v,x.2.2.1.length<=2000000)
include hw hK hU
end
theorem OV:F.TG=F.Yu:=rfl
section
variable {v:List It} (hw:wt v<=4000000000000) (hK:Kd v) (hU:∀x∈v,x.2.2.1.length<=2000000)
include hw hK hU
end
theorem JY {v:List It} {d a k:Nat} {t:L01} (h:cz d v a=some (t,k)) (ha:a<v.length) (I:v[a].1=4) :
  ∃G u,d=G+1/\cW (cz G v) false v[a].2.2.2.toNat true none (a+1)=some (u,k):=by
 have B:∀sub,fF v sub a=some (t,k)->∃A u,sub=some A/\cW A false v[a].2.2.2.toNat true none (a+1)=some (u,k):=by
  intro sub j
  unfold fF at j
  rw[aA ha]at j
  simp only at j
  split at j
  ·cases j
  ·rw[ag (by omega)]at j
   cases sub with
   | none=>cases j
   | some A=>
    simp only at j
    have J:(v[a].1 == 5)=false:=by rw[I]; rfl
    rw[J]at j
    split at j
    ·cases j
    ·rename_i N U O
     cases j
     exact⟨A,N,rfl,O⟩
 cases d with
 | zero=>obtain⟨A,u,j,_⟩:=B none h; cases j
 | succ d=>
  obtain⟨A,u,j,R⟩:=B _ h
  cases j
  exact⟨d,u,rfl,R⟩
theorem Gd {v:List It} {d a k:Nat} {t:L01} (h:cz d v a=some (t,k)) (ha:a<v.length) (B:v[a].1=2):k=a+1:=by
 have A:∀sub,fF v sub a=some (t,k)->k=a+1:=by
  intro sub j
  unfold fF at j
  rw[aA ha]at j
  simp only at j
  split at j
  ·cases j
  ·rw[ae (by omega)]at j
   cases j; rfl
 cases d with
 | zero=>exact A none h
 | succ d=>exact A _ h
theorem ox {rec:Wr} {r:Nat} {b:Bool} {l:Option L01} {i k:Nat} {u:L01} (h:cW rec false (r+1) b l i=some (u,k)):∃t j A,rec i=some (t,j)/\cW rec false r (!b) l j=some (A,k):=by
 simp only[cW,ea,ah,aj]at h
 cases h1:rec i with
 | none=>rw[h1]at h; cases h
 | some a=>
  obtain⟨t,j⟩:=a
  rw[h1]at h
  simp only at h
  cases h2:cW rec false r (!b) l j with
  | none=>rw[h2]at h; cases h
  | some e=>
   obtain⟨A,B⟩:=e
   rw[h2]at h
   cases h
   exact⟨t,j,A,rfl,h2⟩
theorem JL {v:List It} (hs:iA v=true) {a:Nat} (ha:a<v.length) (I:v[a].1=4) (hn:v[a].2.2.2=4) (J:a+1<v.length) (N:v[a+1].1=2) :
  ∃d t j,d<=32/\cz d v (a+2)=some (t,j)/\j+1<v.length/\a+2<v.length:=by
 obtain⟨d,t,k,hd,he⟩:=rM hs ha
 obtain⟨A,u,rfl,B⟩:=JY he ha I
 rw[hn]at B
 obtain⟨t1,j1,u1,O,R⟩:=ox (r:=3) B
 obtain⟨U,V,u2,G,X⟩:=ox (r:=2) R
 obtain⟨t3,j3,u3,Y,Z⟩:=ox (r:=1) X
 obtain⟨t4,j4,u4,e4,k4⟩:=ox (r:=0) Z
 have:=Gd O J N
 subst this
 have p2:=iN v A _ _ _ G
 have p3:=iN v A _ _ _ Y
 have p4:=iN v A _ _ _ e4
 exact⟨A,U,V,by omega,G,by omega,by omega⟩
theorem AJ {v:List It} (hs:iA v=true) {a:Nat} (ha:a<v.length):0<=v[a].2.2.2/\a+1+v[a].2.2.2.toNat<=v.length/\cu v[a]:=by
 obtain⟨d,t,k,hd,he⟩:=rM hs ha
 obtain⟨_,b,c,e,f⟩:=DP he
 exact⟨c,by omega,b⟩
section
variable {v:List It} (hw:wt v<=4000000000000) (hK:Kd v) (hU:∀x∈v,x.2.2.1.length<=2000000)
include hw hK hU
theorem yk (hs:iA v=true) {a d j:Nat} {t:L01} (ha:a<v.length) (hd:d<=32) (he:cz d v a=some (t,j)):F.Ui v (a:Int)=some (j:Int)/\F.abI v (a:Int)=some (j:Int):=by
 have hl:=mz v
 unfold F.Ui F.abI
 rw[nT hw hK,Br hw hK hU]
 simp only[aa,hs,db,ah,aj]
 have A:decide ((a:Int)<0)=false:=av (by omega)
 have:decide ((v.length:Int)<=(a:Int))=false:=by simp; omega
 exact⟨by simp only[A,this,ah,aj,F.Wy,nM (by omega) hd he,aa],by simp only[A,this,ah,aj,F.aag,EW (by omega) hd he,aa]⟩
end
theorem OS (n:Nat):UInt8.ofInt (n:Int)=UInt8.ofNat n:=by
 apply et.1
 simp[UInt8.ofInt]
 omega
theorem qc (n k:Nat) (j:k<=64) (hn:n<4294967296):UInt8.ofInt (jx (n:Int) k)=(bb (UInt64.ofNat n) k).toUInt8:=by
 have e:jx (n:Int) k=((n / 2^k:Nat):Int):=by
  unfold jx
  have A:(2:Int)^k=((2^k:Nat):Int):=by simp
  rw[bg j,A,fQ _ (dv _),Int.natCast_ediv]
 rw[e,OS]
 apply et.1
 have B:n / 2^k<=n:=dw _ _
 unfold bb
 rw[bg j]
 simp only[dY,gZ,bQ]
 rw[az (show n<2^64 by omega),az (show n / 2^k<2^64 by omega)]
theorem zO (n:Nat) (hn:n<4294967296):UInt8.ofInt (n:Int)=(bb (UInt64.ofNat n) 0).toUInt8:=by
 have:=qc n 0 (by omega) hn
 rwa [show jx (n:Int) 0=(n:Int) by simp[jx]]at this
theorem lf0:∀(m:Fin 8) (k:Fin 24),(oI (UInt8.ofNat m.val) 5) ||| (UInt8.ofInt (k.val:Int))=UInt8.ofNat (32*m.val)+(UInt64.ofNat k.val).toUInt8:=by decide
theorem lf1:∀(m:Fin 8),(oI (UInt8.ofNat m.val) 5) ||| 24=UInt8.ofNat (32*m.val+24+0):=by decide
theorem lf2:∀(m:Fin 8),(oI (UInt8.ofNat m.val) 5) ||| 25=UInt8.ofNat (32*m.val+24+1):=by decide
theorem lf3:∀(m:Fin 8),(oI (UInt8.ofNat m.val) 5) ||| 26=UInt8.ofNat (32*m.val+24+2):=by decide
theorem wg (n c:Nat) (hn:n<4294967296) (hc:c<18446744073709551616):(UInt64.ofNat n<UInt64.ofNat c)=(n<c):=by
 rw[bd,bQ,bQ,az (by omega),az (by omega)]
theorem ny (m:Fin 8) (out b:L01) (U:out.length<=1000000000) (hb:b.length<1000000000):F.TV out (UInt8.ofNat m.val) b=some (out++hd m.val (UInt64.ofNat b.length)++b):=by
 have B:=wg b.length 24 (by omega) (by omega)
 have A:=wg b.length 256 (by omega) (by omega)
 have j:=wg b.length 65536 (by omega) (by omega)
 have N:=wg b.length 4294967296 (by omega) (by omega)
 have c:∀(h:L01),h.length<=10->af (apO 1 out h) (fun x=>F.Xs b x)=some (out++h++b):=fun h hh=>by
  rw[g8 (by simp; omega),aa]
  show af (apO 1 (out++h) b) (fun x=>some x)=_
  rw[g8 (by simp; omega),aa]
 unfold F.TV hd wd
 by_cases h1:b.length<24
 ·have G:decide ((b.length:Int)<24)=true:=ai (by omega)
  rw[G,ag rfl,c _ (by simp)]
  have:(UInt64.ofNat b.length<24):=by rw[show (24:UInt64)=UInt64.ofNat 24 from rfl,B]; exact h1
  rw[ag this,ag rfl,lf0 m ⟨b.length,h1⟩]
 have G:decide ((b.length:Int)<24)=false:=av (by omega)
 have n1:¬(UInt64.ofNat b.length<24):=by rw[show (24:UInt64)=UInt64.ofNat 24 from rfl,B]; exact h1
 rw[G,ae n1]
 simp only[ah,aj]
 by_cases h2:b.length<256
 ·have I:decide ((b.length:Int)<256)=true:=ai (by omega)
  rw[I,ag rfl,c _ (by simp)]
  have:(UInt64.ofNat b.length<256):=by rw[show (256:UInt64)=UInt64.ofNat 256 from rfl,A]; exact h2
  rw[ag this,ae (by omega),lf1 m,zO _ (by omega)]
  rfl
 have I:decide ((b.length:Int)<256)=false:=av (by omega)
 have O:¬(UInt64.ofNat b.length<256):=by rw[show (256:UInt64)=UInt64.ofNat 256 from rfl,A]; exact h2
 rw[I,ae O]
 simp only[ah,aj]
 by_cases h3:b.length<65536
 ·have J:decide ((b.length:Int)<65536)=true:=ai (by omega)
  rw[J,ag rfl,c _ (by simp)]
  have:(UInt64.ofNat b.length<65536):=by rw[show (65536:UInt64)=UInt64.ofNat 65536 from rfl,j]; exact h3
  rw[ag this,ae (by omega),lf2 m,zO _ (by omega),qc _ 8 (by omega) (by omega)]
  rfl
 have J:decide ((b.length:Int)<65536)=false:=av (by omega)
 have R:¬(UInt64.ofNat b.length<65536):=by rw[show (65536:UInt64)=UInt64.ofNat 65536 from rfl,j]; exact h3
 rw[J,ae R]
 simp only[ah,aj]
 have:(UInt64.ofNat b.length<4294967296):=by rw[show (4294967296:UInt64)=UInt64.ofNat 4294967296 from rfl,N]; omega
 rw[c _ (by simp),ag this,ae (by omega),lf3 m,zO _ (by omega),qc _ 8 (by omega) (by omega),qc _ 16 (by omega) (by omega),qc _ 24 (by omega) (by omega)]
 rfl
theorem w0:wI (2*0)=0:=by decide
theorem w2:wI (2*1)=2:=by decide
theorem w4:wI (2*2)=4:=by decide
def RB (x:Option (Int×L01×L01×L01×L01×Int)) (y:Option (L01×L01×L01×L01×Int×Int)):Prop:=
 ∃alg p k z s st,x=some (alg,p,k,z,s,st)/\y=some (p,k,z,s,alg,st)/\p.length<=2000000/\k.length<=2000000/\z.length<=2000000/\s.length<=2000000
theorem RB.fail (e:Int):RB (some (0,[],[],[],[],e)) (some ([],[],[],[],0,e)):=⟨0,[],[],[],[],e,rfl,rfl,by simp,by simp,by simp,by simp⟩
section
variable {v:List It} (hw:wt v<=4000000000000) (hK:Kd v) (hU:∀x∈v,x.2.2.1.length<=2000000)
include hw hK hU
end
theorem a1:kj [210,132,67,161,1,38,161,4,65,107,65,97,64]=([(6,18,[],1),(4,0,[],4),(2,0,[161,1,38],0),(5,0,[],2),(0,4,[],0),(2,0,[107],0),(2,0,[97],0),(2,0,[],0)],0,0):=by kernel_rfl
theorem a2:kj [161,1,38]=([(5,0,[],2),(0,1,[],0),(1,6,[],0)],0,0):=by kernel_rfl
theorem a3:kj [132,67,161,1,36,160,64,64]=([(4,0,[],4),(2,0,[161,1,36],0),(5,0,[],0),(2,0,[],0),(2,0,[],0)],0,0):=by kernel_rfl
theorem a4:kj [161,1,36]=([(5,0,[],2),(0,1,[],0),(1,4,[],0)],0,0):=by kernel_rfl
theorem a5:kj [162,1,97,105,4,10]=([(5,0,[],4),(0,1,[],0),(3,0,[105],0),(0,4,[],0),(0,10,[],0)],0,0):=by kernel_rfl
theorem a6:kj [128]=([(4,0,[],0)],0,0):=by kernel_rfl
theorem sJ {v:List It} (hw:wt v<=4000000000000) (hK:Kd v) (hs:iA v=true) {a K:Nat} (ha:a<v.length) (I:v[a].1=5) (hn:v[a].2.2.2=((2*K:Nat):Int))
  (B:(cW (cz 8 v) true (2*K) true none (a+1)).isSome=true) (U:K<=1000000) (j:List It):F.TA v (a:Int) j=some (ii v (cz 8 v) j K (a+1)):=by
 have hl:=mz v
 obtain⟨⟨u,k⟩,J⟩:=Option.isSome_iff_exists.1 B
 unfold F.TA
 rw[nT hw hK,aa]
 have N:decide ((a:Int)<0)=false:=av (by omega)
 have O:decide ((v.length:Int)<=(a:Int))=false:=by simp; omega
 have R:(v[a].1 != 5)=false:=by simp[I]
 have A:wI (Int.tdiv v[a].2.2.2 2)=(K:Int):=by
  rw[hn,bN (by omega),aD (by omega) (by omega)]; omega
 have G:wI ((a:Int)+1)=((a+1:Nat):Int):=by rw[aD (by omega) (by omega)]; simp
 simp only[N,O,ah,aj,bX ha,aa,R,hs,db,F.T3,G]
 exact pI (by omega) (by omega) j v[a] K A (by omega) K 0 (a+1) none u k J (by omega) (by omega)
def V1:List It:=[(6,18,[],1),(4,0,[],4),(2,0,[161,1,38],0),(5,0,[],2),(0,4,[],0),(2,0,[107],0),(2,0,[97],0),(2,0,[],0)]
def V2:List It:=[(5,0,[],2),(0,1,[],0),(1,6,[],0)]
def V3:List It:=[(4,0,[],4),(2,0,[161,1,36],0),(5,0,[],0),(2,0,[],0),(2,0,[],0)]
def V4:List It:=[(5,0,[],2),(0,1,[],0),(1,4,[],0)]
def V5:List It:=[(5,0,[],4),(0,1,[],0),(3,0,[105],0),(0,4,[],0),(0,10,[],0)]
theorem rn {v:List It} (h:v.all (fun x=>decide (x.2.2.2<=1000))=true):Kd v:=fun x hx=>by
 have:=ci.1 h x hx
 have:x.2.2.2<=1000:=by simpa using this
 omega
theorem mV1 (j:List It):F.TA V1 3 j=some (ii V1 (cz 8 V1) j 1 4):=sJ (v:=V1) (a:=3) (K:=1) (by decide) (rn (by decide)) (by kernel_rfl) (by decide) rfl rfl (by kernel_rfl) (by omega) j
theorem mV2 (j:List It):F.TA V2 0 j=some (ii V2 (cz 8 V2) j 1 1):=sJ (v:=V2) (a:=0) (K:=1) (by decide) (rn (by decide)) (by kernel_rfl) (by decide) rfl rfl (by kernel_rfl) (by omega) j
theorem mV3 (j:List It):F.TA V3 2 j=some (ii V3 (cz 8 V3) j 0 3):=sJ (v:=V3) (a:=2) (K:=0) (by decide) (rn (by decide)) (by kernel_rfl) (by decide) rfl rfl (by kernel_rfl) (by omega) j
theorem mV4 (j:List It):F.TA V4 0 j=some (ii V4 (cz 8 V4) j 1 1):=sJ (v:=V4) (a:=0) (K:=1) (by decide) (rn (by decide)) (by kernel_rfl) (by decide) rfl rfl (by kernel_rfl) (by omega) j
theorem mV5 (j:List It):F.TA V5 0 j=some (ii V5 (cz 8 V5) j 2 1):=sJ (v:=V5) (a:=0) (K:=2) (by decide) (rn (by decide)) (by kernel_rfl) (by decide) rfl rfl (by kernel_rfl) (by omega) j
theorem Rl:ii V1 (cz 8 V1) [(0,1,[],0)] 1 4=-1:=by kernel_rfl
theorem R9:ii V1 (cz 8 V1) [(0,4,[],0)] 1 4=5:=by kernel_rfl
theorem Sy:ii V2 (cz 8 V2) [(0,1,[],0)] 1 1=2:=by kernel_rfl
theorem RX:ii V2 (cz 8 V2) [(0,4,[],0)] 1 1=-1:=by kernel_rfl
theorem PP (j:List It):ii V3 (cz 8 V3) j 0 3=-1:=rfl
theorem Sk:ii V4 (cz 8 V4) [(0,1,[],0)] 1 1=2:=by kernel_rfl
theorem R4:ii V4 (cz 8 V4) [(0,4,[],0)] 1 1=-1:=by kernel_rfl
theorem SJ:ii V5 (cz 8 V5) [(0,1,[],0)] 2 1=2:=by kernel_rfl
theorem SB:ii V5 (cz 8 V5) [(0,2,[],0)] 2 1=-1:=by kernel_rfl
theorem Sp:ii V5 (cz 8 V5) [(0,3,[],0)] 2 1=-1:=by kernel_rfl
theorem RJ:ii V5 (cz 8 V5) [(0,4,[],0)] 2 1=4:=by kernel_rfl
theorem RI:ii V5 (cz 8 V5) [(0,5,[],0)] 2 1=-1:=by kernel_rfl
theorem Si:ii V5 (cz 8 V5) [(0,6,[],0)] 2 1=-1:=by kernel_rfl
theorem Rz:ii V5 (cz 8 V5) [(0,7,[],0)] 2 1=-1:=by kernel_rfl
theorem bV1:F.Ui V1 3=some 6:=by
 have hK:Kd V1:=rn (by decide)
 have he:∃t,cz 8 V1 3=some (t,6):=by
  have:(cz 8 V1 3).map Prod.snd=some 6:=by kernel_rfl
  obtain⟨⟨t,j⟩,B,A⟩:=Option.map_eq_some_iff.1 this
  simp only at A; subst A; exact⟨t,B⟩
 obtain⟨t,he⟩:=he
 exact (yk (v:=V1) (by decide) hK (by decide) (by kernel_rfl) (a:=3) (by decide) (by omega) he).1
theorem bV3:F.Ui V3 2=some 3:=by
 have hK:Kd V3:=rn (by decide)
 have he:∃t,cz 8 V3 2=some (t,3):=by
  have:(cz 8 V3 2).map Prod.snd=some 3:=by kernel_rfl
  obtain⟨⟨t,j⟩,B,A⟩:=Option.map_eq_some_iff.1 this
  simp only at A; subst A; exact⟨t,B⟩
 obtain⟨t,he⟩:=he
 exact (yk (v:=V3) (by decide) hK (by decide) (by kernel_rfl) (a:=2) (by decide) (by omega) he).1
theorem hV1:F.Tg V1 3=some (-1,5,true):=by
 have j:F.S1 1 V1 3 0=some (-1,3,0):=by unfold F.S1; rw[mV1,Rl]; rfl
 have A:F.S1 4 V1 3 0=some (5,3,1):=by unfold F.S1; rw[mV1,R9]; rfl
 unfold F.Tg
 rw[j,aa,A,aa]
 rfl
theorem hV2:F.Tg V2 0=some (2,-1,true):=by
 have j:F.S1 1 V2 0 0=some (2,0,1):=by unfold F.S1; rw[mV2,Sy]; rfl
 have A:F.S1 4 V2 0 1=some (-1,0,1):=by unfold F.S1; rw[mV2,RX]; rfl
 unfold F.Tg
 rw[j,aa,A,aa]
 rfl
theorem hV3:F.Tg V3 2=some (-1,-1,true):=by
 have j:F.S1 1 V3 2 0=some (-1,2,0):=by unfold F.S1; rw[mV3,PP]; rfl
 have A:F.S1 4 V3 2 0=some (-1,2,0):=by unfold F.S1; rw[mV3,PP]; rfl
 unfold F.Tg
 rw[j,aa,A,aa]
 rfl
theorem hV4:F.Tg V4 0=some (2,-1,true):=by
 have j:F.S1 1 V4 0 0=some (2,0,1):=by unfold F.S1; rw[mV4,Sk]; rfl
 have A:F.S1 4 V4 0 1=some (-1,0,1):=by unfold F.S1; rw[mV4,R4]; rfl
 unfold F.Tg
 rw[j,aa,A,aa]
 rfl
theorem rV1:F.TE V1=some (10,[161,1,38],[107],[97],[],0):=by
 have j:F.T7 V1 1 6 false=some (10,[161,1,38],[107],[97],[],0):=by
  have g:ax V1 (wI ((1:Int)+1):Int)=some (2,0,[161,1,38],0):=rfl
  unfold F.T7
  simp only[ah,aj]
  rw[g,aa,show ax V1 (6:Int)=some (2,0,[97],0) from rfl,aa,show ax V1 (wI ((6:Int)+1))=some (2,0,[],0) from rfl,aa]
  simp only
  rw[lQ,a2,aa]
  show (if ((0:Int) != 0)=true then _ else af (ax V2 (0:Int)) _)=_
  rw[ae (by decide),show ax V2 (0:Int)=some (5,0,[],2) from rfl,aa]
  show (if ((5:Int) != 5)=true then _ else af (F.Tg V2 0) _)=_
  rw[ae (by decide),hV2,aa,show wI ((1:Int)+2)=3 from rfl,hV1,aa]
  rfl
 unfold F.TE
 rw[show ax V1 (0:Int)=some (6,18,[],1) from rfl,aa]
 show F.Ue V1 1=_
 show F.TM V1 1 false=_
 unfold F.TM
 simp only[ah,aj]
 rw[show wI ((1:Int)+2)=3 from rfl,bV1,aa]
 exact j
theorem rV3:F.TE V3=some (0,[],[],[],[],111):=by
 have j:F.T7 V3 0 3 false=some (0,[],[],[],[],111):=by
  have g:ax V3 (wI ((0:Int)+1):Int)=some (2,0,[161,1,36],0):=rfl
  unfold F.T7
  simp only[ah,aj]
  rw[g,aa,show ax V3 (3:Int)=some (2,0,[],0) from rfl,aa,show ax V3 (wI ((3:Int)+1))=some (2,0,[],0) from rfl,aa]
  simp only
  rw[lQ,a4,aa]
  show (if ((0:Int) != 0)=true then _ else af (ax V4 (0:Int)) _)=_
  rw[ae (by decide),show ax V4 (0:Int)=some (5,0,[],2) from rfl,aa]
  show (if ((5:Int) != 5)=true then _ else af (F.Tg V4 0) _)=_
  rw[ae (by decide),hV4,aa,show wI ((0:Int)+2)=2 from rfl,hV3,aa]
  rfl
 unfold F.TE
 rw[show ax V3 (0:Int)=some (4,0,[],4) from rfl,aa]
 show F.Ue V3 0=_
 show F.TM V3 0 false=_
 unfold F.TM
 simp only[ah,aj]
 rw[show wI ((0:Int)+2)=2 from rfl,bV3,aa]
 exact j
def X1:L01:=[132,106,83,105,103,110,97,116,117,114,101,49,67,161,1,38,64,65,97]
theorem QB:F.Tf [210,132,67,161,1,38,161,4,65,107,65,97,64] []=some (10,[107],[97],[],X1,0):=by
 unfold F.Tf
 show F.Ua _ _ false=_
 unfold F.Ua
 simp only[ah,aj]
 rw[lQ,a1,aa]
 show (if ((0:Int) != 0)=true then _ else af (F.TE V1) _)=_
 rw[ae (by decide),rV1,aa]
 have A:F.TV [132] 3 [83,105,103,110,97,116,117,114,101,49]=some ([132]++hd 3 (UInt64.ofNat 10)++[83,105,103,110,97,116,117,114,101,49]):=ny 3 _ _ (by simp) (by simp)
 have j:∀o x:L01,o.length<=1000000000->x.length<1000000000->F.TV o 2 x=some (o++hd 2 (UInt64.ofNat x.length)++x):=fun o x B hx=>ny 2 o x B hx
 have G:([132]++hd 3 (UInt64.ofNat 10)++[83,105,103,110,97,116,117,114,101,49]:L01)=[132,106,83,105,103,110,97,116,117,114,101,49]:=by kernel_rfl
 have I:([132,106,83,105,103,110,97,116,117,114,101,49]++hd 2 (UInt64.ofNat [161,1,(38:UInt8)].length)++[161,1,38]:L01)=[132,106,83,105,103,110,97,116,117,114,101,49,67,161,1,38]:=by kernel_rfl
 have J:([132,106,83,105,103,110,97,116,117,114,101,49,67,161,1,38]++hd 2 (UInt64.ofNat ([]:L01).length)++[]:L01)=[132,106,83,105,103,110,97,116,117,114,101,49,67,161,1,38,64]:=by kernel_rfl
 have N:([132,106,83,105,103,110,97,116,117,114,101,49,67,161,1,38,64]++hd 2 (UInt64.ofNat [(97:UInt8)].length)++[97]:L01)=X1:=by kernel_rfl
 rw[ae (by decide),A,G,aa,j _ _ (by simp) (by simp),I,aa,j _ _ (by simp) (by simp),J,aa,j _ _ (by simp) (by simp),N,aa]
 rw[grd_true _ (by simp),grd_true _ (by simp),grd_true _ (by simp)]
theorem QF:F.Tf [132,67,161,1,36,160,64,64] []=some (0,[],[],[],[],111):=by
 unfold F.Tf
 show F.Ua _ _ false=_
 unfold F.Ua
 simp only[ah,aj]
 rw[lQ,a3,aa]
 show (if ((0:Int) != 0)=true then _ else af (F.TE V3) _)=_
 rw[ae (by decide),rV3,aa]
 rfl
theorem C1 (n:UInt64) (a:List Int) (A:Bool):F.Uu n a V5 A=af (some (ii V5 (cz 8 V5) [(0,n,[],0)] 2 1)) fun j=>
  if A=true then F.VX j true else if (decide ((0:Int)<=j))=true then af (ax V5 (j:Int)) fun B=>af (F.UG a B.1) fun G=>F.VX j (!G) else F.VX j false:=by
 unfold F.Uu
 rw[mV5]
theorem DR (n:UInt64) (m:Int) (h:ii V5 (cz 8 V5) [(0,n,[],0)] 2 1=-1):F.TQ n m V5 false=some ([],false,false):=by
 unfold F.TQ
 rw[C1,h]; rfl
theorem DS (n:UInt64) (h:ii V5 (cz 8 V5) [(0,n,[],0)] 2 1=-1):F.TR n false V5=some (false,0,false):=by
 unfold F.TR
 rw[C1,h]; rfl
theorem SG:F.TQ 1 3 V5 false=some ([105],true,false):=by
 unfold F.TQ
 rw[C1,SJ,aa,ae (by decide),ag (by decide),show ax V5 (2:Int)=some (3,0,[105],0) from rfl,aa,Iv]
 rfl
theorem Rw:F.TR 4 false V5=some (true,10,false):=by
 unfold F.TR
 rw[C1,RJ,aa,ae (by decide),ag (by decide),show ax V5 (4:Int)=some (0,10,[],0) from rfl,aa,GQ]
 rfl
theorem So:F.Uu 3 [3,4] V5 false=some (-1,false):=by rw[C1,Sp]; rfl
theorem Pi:F.U4 [162,1,97,105,4,10]=some ([],[105],true,[],false,[],false,[],false,true,10,false,0,false,0,0):=by
 unfold F.U4
 rw[lQ,a5,aa]
 show (if ((0:Int) != 0)=true then _ else af (ax V5 (0:Int)) _)=_
 rw[ae (by decide),show ax V5 (0:Int)=some (5,0,[],4) from rfl,aa]
 show (if ((5:Int) != 5)=true then _ else af (F.TQ 1 3 V5 false) _)=_
 rw[ae (by decide),SG,aa]
 show af (F.TQ 2 3 V5 false) _=_
 rw[DR 2 3 SB,aa]
 show af (F.TR 4 false V5) _=_
 rw[Rw,aa]
 show af (F.TR 5 false V5) _=_
 rw[DS 5 RI,aa]
 show af (F.TR 6 false V5) _=_
 rw[DS 6 Si,aa]
 show af (F.TQ 7 2 V5 false) _=_
 rw[DR 7 2 Rz,aa]
 show af (F.Uu 3 [3,4] V5 false) _=_
 rw[So,aa]
 rfl
theorem OA:F.U4 [128]=some ([],[],false,[],false,[],false,[],false,false,0,false,0,false,0,130):=by
 unfold F.U4
 rw[lQ,a6,aa]
 rfl
theorem Fs:F.Wv=some true:=by
 unfold F.Wv
 rw[QB,aa]
 show (if ((0:Int) != 0)=true then _ else _)=_
 rw[ae (by decide)]
 show (if ((10:Int) != 10)=true then _ else _)=_
 rw[ae (by decide),OV]
 show af (F.Yu [107] [107]) _=_
 rw[um _ _ (by simp),aa,ae (by decide)]
 show af (F.Yu [97] [97]) _=_
 rw[um _ _ (by simp),aa,ae (by decide)]
 show F.TX false=_
 unfold F.TX
 rw[ae (by decide),QF,aa,Pi,aa,OA]
 rfl
section
variable {v:List It} (hw:wt v<=4000000000000) (hK:Kd v) (hU:∀x∈v,x.2.2.1.length<=2000000)
include hw hK hU
end
def jS (p z s k:L01) (kid tag:Bool):List It:=
 (if tag then [(6,18,[],1)] else [])++([(4,0,[],4),(2,0,p,0)]++((if kid then [(5,0,[],2),(0,4,[],0),(2,0,k,0)] else [(5,0,[],0)])++[(2,0,z,0),(2,0,s,0)]))
theorem Fw (p z s k:L01) (kid j:Bool):F.VL p z s k kid j=some (jS p z s k kid j):=by
 have e:∀l m:List It,l.length<=100->m.length<=100->apO 40 l m=some (l++m):=fun l m A B=>g8 (by omega)
 cases j <;> cases kid <;>
  simp only[F.VL,F.aar,F.ZW,am,aj,ah,e _ _ (show ([]:List It).length<=100 by decide) (show [((6:Int),(18:UInt64),([]:L01),(1:Int))].length<=100 by simp),aa,bT] <;>
  (rw[e _ _ (by simp) (by simp),aa,e _ _ (by simp) (by simp),aa,e _ _ (by simp) (by simp),aa]; rfl)
section
variable {v:List It} (hw:wt v<=4000000000000) (hK:Kd v) (hU:∀x∈v,x.2.2.1.length<=2000000)
include hw hK hU
end
theorem py (p z s k:L01) (kid j:Bool) (hp:p.length<=2000000) (hz:z.length<=2000000) (hs:s.length<=2000000) (A:k.length<=2000000) :
  wt (jS p z s k kid j)<=4000000000000/\Kd (jS p z s k kid j):=by
 refine⟨by cases kid <;> cases j <;> simp[jS,wt] <;> omega,by cases kid <;> cases j <;> simp[jS,Kd]⟩
section
variable {v:List It} (hw:wt v<=4000000000000) (hK:Kd v)
include hw hK
theorem zM (hs:iA v=true) {a d j:Nat} {t:L01} (ha:a<v.length) (hd:d<=32) (he:cz d v a=some (t,j)):F.Ui v (a:Int)=some (j:Int):=by
 have hl:=mz v
 unfold F.Ui
 rw[nT hw hK,hs]
 have A:decide ((a:Int)<0)=false:=av (by omega)
 have B:decide ((v.length:Int)<=(a:Int))=false:=av (by omega)
 simp only[aa,db,ah,aj,A,B,F.Wy,nM (by omega) hd he]
theorem zU (p:Int):((∀j,F.TA v p j=some (-1))/\(iA v=true->∀(a:Nat) (ha:a<v.length),p=(a:Int)->v[a].1≠5)) \/
  ∃(a d K k:Nat) (u:L01) (ha:a<v.length),p=(a:Int)/\v[a].1=5/\v[a].2.2.2=((2*K:Nat):Int)/\d<=32/\cW (cz d v) true (2*K) true none (a+1)=some (u,k) /\
   ∀j,F.TA v p j=some (ii v (cz d v) j K (a+1)):=by
 have hl:=mz v
 unfold F.TA
 rw[nT hw hK]
 simp only[aa]
 by_cases h0:p<0
 ·have B:decide (p<0)=true:=by simpa using h0
  exact .inl ⟨fun j=>by simp only[B,am,F.T3],fun _ a ha e=>by omega⟩
 have B:decide (p<0)=false:=by simpa using h0
 obtain⟨a,rfl⟩:=eN (Int.not_lt.1 h0)
 by_cases h1:v.length<=a
 ·have G:decide ((v.length:Int)<=(a:Int))=true:=by simp; omega
  exact .inl ⟨fun j=>by simp only[B,G,am,ah,aj,F.T3],fun _ O R e=>by omega⟩
 have G:decide ((v.length:Int)<=(a:Int))=false:=by simp; omega
 have ha:a<v.length:=by omega
 simp only[B,G,ah,aj,bX ha,aa]
 by_cases h5:v[a].1=5
 ·have I:(v[a].1 != 5)=false:=by simp[h5]
  simp only[I,ah,aj]
  cases hs:iA v with
  | false=>exact .inl ⟨fun j=>by simp only[iU,F.T3,am],fun h=>by cases h⟩
  | true=>
   obtain⟨d,t,k,hd,he⟩:=rM hs ha
   obtain⟨V,u,rfl,J,X,Y⟩:=KI he ha h5
   obtain⟨K,A⟩:∃K:Nat,v[a].2.2.2=((2*K:Nat):Int):=⟨(v[a].2.2.2 / 2).toNat,by omega⟩
   rw[A,aq]at J
   have Z:=hK v[a] (cM ha)
   have N:wI (Int.tdiv v[a].2.2.2 2)=(K:Int):=by
    rw[A,bN (by omega),aD (by omega) (by omega)]; omega
   have U:wI ((a:Int)+1)=((a+1:Nat):Int):=by rw[aD (by omega) (by omega)]; simp
   refine .inr ⟨a,V,K,k,u,ha,rfl,h5,A,by omega,J,fun j=>?_⟩
   simp only[db,F.T3,ah,aj,bX ha,aa,U]
   exact pI (by omega) (by omega) j v[a] K N (by omega) K 0 (a+1) none u k J (by omega) (by omega)
 ·have I:(v[a].1 != 5)=true:=by simpa using h5
  refine .inl ⟨fun j=>by simp only[I,am,F.T3],fun _ O R e=>?_⟩
  have:O=a:=by omega
  subst this
  exact h5
def KS (v:List It) (q:Int):Prop:=q=-1\/∃k:Nat,k<v.length/\q=(k:Int)
theorem LR (p:Int) (j:List It):∃q,F.TA v p j=some q/\KS v q:=by
 rcases zU hw hK p with h | ⟨a,d,K,k,u,ha,rfl,J,I,hd,A,h⟩
 ·exact⟨-1,h.1 j,.inl rfl⟩
 ·refine⟨_,h j,?_⟩
  rcases DZ j K (a+1) none u k A with h | ⟨B,N,O,h,G⟩
  ·exact .inl h
  ·exact .inr ⟨B,(DP G).1,h⟩
theorem BH (a:Nat) (ha:a<v.length):∃j q4 ok,F.Tg v (a:Int)=some (j,q4,ok)/\KS v j/\KS v q4:=by
 obtain⟨j,I,A⟩:=LR hw hK (a:Int) [(0,1,[],0)]
 obtain⟨q4,J,B⟩:=LR hw hK (a:Int) [(0,4,[],0)]
 have N:∀n:Int,∃m,F.S1 1 v (a:Int) n=some (j,(a:Int),m):=fun n=>by
  unfold F.S1
  rw[I,aa]
  split <;> exact⟨_,rfl⟩
 have O:∀n:Int,∃m,F.S1 4 v (a:Int) n=some (q4,(a:Int),m):=fun n=>by
  unfold F.S1
  rw[J,aa]
  split <;> exact⟨_,rfl⟩
 obtain⟨R,U⟩:=N 0
 obtain⟨X,V⟩:=O R
 unfold F.Tg
 rw[U,aa,V,aa,bX ha,aa]
 split
 ·rcases B with rfl | ⟨k,G,rfl⟩
  ·exact⟨j,-1,true,rfl,A,.inl rfl⟩
  ·have:decide ((k:Int)<0)=false:=av (by omega)
   simp only[this,ah,aj,bX G,aa]
   exact⟨_,_,_,rfl,A,.inr ⟨k,G,rfl⟩⟩
 ·exact⟨_,_,_,rfl,A,B⟩
end
abbrev Rd6:=Int×L01×L01×L01×L01×Int
def Rok (x:Option Rd6):Prop:=∃r,x=some r/\r.2.1.length<=2000000/\r.2.2.1.length<=2000000/\r.2.2.2.1.length<=2000000/\r.2.2.2.2.1.length<=2000000
theorem Rok.fail (e:Int):Rok (some (0,[],[],[],[],e)):=⟨_,rfl,by simp,by simp,by simp,by simp⟩
theorem Kr {G:List It} {j A B:It} {n1 V:Int} {I:Nat} (J:I<G.length) {q4:Int} {ok:Bool} {K:L01} (hK:K.length<=2000000) (N:j.2.2.1.length<=2000000) (O:A.2.2.1.length<=2000000) (R:B.2.2.1.length<=2000000) :
  Rok (F.TN (G,n1,V) ((I:Int),q4,ok) j A B K):=by
 have U:∀n,Rok (F.Uw j A B K n):=fun n=>by
  unfold F.Uw
  dsimp only
  split
  ·exact .fail 111
  ·exact⟨_,rfl,N,hK,O,R⟩
 simp only[F.TN,bX J,aa]
 split
 ·obtain⟨r,X⟩:∃r,F.aae G[I].2.1=some r:=⟨_,rfl⟩
  rw[X,aa]
  exact U r
 ·exact U 0
section
variable {v:List It} (hw:wt v<=4000000000000) (hK:Kd v) (hU:∀x∈v,x.2.2.1.length<=2000000)
include hw hK hU
theorem Ox (a j:Nat) (h1:a+1<v.length) (h2:a+2<v.length) (hj:j+1<v.length) (b:Bool):Rok (F.T7 v (a:Int) (j:Int) b):=by
 have hl:=mz v
 cases b
 ·have a1:wI ((a:Int)+1)=((a+1:Nat):Int):=by rw[aD (by omega) (by omega)]; simp
  have a2:wI ((a:Int)+2)=((a+2:Nat):Int):=by rw[aD (by omega) (by omega)]; simp
  have j1:wI ((j:Int)+1)=((j+1:Nat):Int):=by rw[aD (by omega) (by omega)]; simp
  have V:=hU v[a+1] (cM h1)
  have X:=hU v[j] (cM (by omega))
  have Y:=hU v[j+1] (cM hj)
  simp only[F.T7,ah,aj,a1,a2,j1,bX h1,bX (show j<v.length by omega),bX hj,aa]
  rw[lQ]
  simp only[aa]
  rcases CT v[a+1].2.2.1 with⟨B,ad,O,G⟩ | ⟨e,p,he,cf,cm,G⟩
  ·have Z:=NT ad O
   have hm:=(kP v[a+1].2.2.1 32).1 _ _ _ O
   rw[G]
   have h0:0<B.length:=by omega
   have g0:ax B (0:Int)=some B[0]:=bX (i:=0) h0
   have ap:∀x∈B,x.2.2.1.length<=2000000:=fun x hx=>by have:=Z.2.2 x hx; omega
   obtain⟨N,q4,ok,hh,p1,p4⟩:=BH Z.wt Z.kd 0 h0
   obtain⟨s1,s4,bx,b2,ct,b3⟩:=BH hw hK (a+2) h2
   rw[show ((0:Nat):Int)=0 from rfl]at hh
   simp only[dn,ah,aj,g0,aa,hh,b2]
   have A:∀b:Bool,(b=false->0<=N)->Rok (F.TH v (B,0,0) (N,q4,ok) (s1,s4,bx) v[a+1] v[j] v[j+1] b):=fun b hb=>by
    cases b
    ·obtain⟨k1,I,rfl⟩:∃k:Nat,k<B.length/\N=(k:Int):=by
      rcases p1 with rfl | h
      ·exact absurd (hb rfl) (by omega)
      ·exact h
     simp only[F.TH,ah,aj]
     rcases p4 with rfl | ⟨A,R,rfl⟩
     ·rw[ae (by simp)]
      rcases b3 with rfl | ⟨c0,J,rfl⟩
      ·rw[ae (by simp)]
       exact Kr I (by simp) V X Y
      ·rw[ag (by simp),bX J,aa]
       exact Kr I (hU _ (cM J)) V X Y
     ·rw[ag (by simp),bX R,aa]
      exact Kr I (ap _ (cM R)) V X Y
    ·exact .fail 221
   split
   ·exact .fail 221
   ·split
    ·exact A true (by simp)
    ·split
     ·exact A true (by simp)
     ·split
      ·exact A true (by simp)
      ·rename_i hq
       have U:0<=N:=by simpa using hq
       split
       ·exact A true (by simp)
       ·split
        ·exact A _ fun _=>U
        ·exact A false fun _=>U
  ·have e1:(e != 0)=true:=by simpa using he
   rw[G]
   simp only[e1,am]
   exact .fail e
 ·exact .fail 221
theorem Oa (hs:iA v=true) (a:Nat) (ha:a<v.length):Rok (F.Ue v (a:Int)):=by
 have hl:=mz v
 have a1:wI ((a:Int)+1)=((a+1:Nat):Int):=by rw[aD (by omega) (by omega)]; simp
 have a2:wI ((a:Int)+2)=((a+2:Nat):Int):=by rw[aD (by omega) (by omega)]; simp
 obtain⟨O,R,U⟩:=AJ hs ha
 have T:Rok (F.TM v (a:Int) true):=.fail 221
 unfold F.Ue
 simp only[bX ha,aa]
 by_cases h4:v[a].1=4
 ·have B:(v[a].1 != 4)=false:=by simp[h4]
  simp only[B,ah,aj]
  by_cases hn:v[a].2.2.2=4
  ·have G:(v[a].2.2.2 != 4)=false:=by simp[hn]
   have l1:a+1<v.length:=by omega
   have A:a+2<v.length:=by omega
   simp only[G,ah,aj,a1,a2,bX l1,bX A,aa]
   by_cases h2:v[a+1].1=2
   ·have I:(v[a+1].1 != 2)=false:=by simp[h2]
    simp only[I,ah,aj]
    cases (v[a+2].1 != 5)
    ·obtain⟨d,t,j,hd,he,J,_⟩:=JL hs ha h4 hn l1 h2
     have N:wI ((j:Int)+1)=((j+1:Nat):Int):=by rw[aD (by omega) (by omega)]; simp
     simp only[F.TM,ah,aj,a2,zM hw hK hs A hd he,aa,bX (show j<v.length by omega),N,bX J]
     split
     ·exact Ox hw hK hU a j l1 A J true
     ·exact Ox hw hK hU a j l1 A J _
    ·exact T
   ·have I:(v[a+1].1 != 2)=true:=by simpa using h2
    simp only[I,am]; exact T
  ·have G:(v[a].2.2.2 != 4)=true:=by simpa using hn
   simp only[G,am]; exact T
 ·have B:(v[a].1 != 4)=true:=by simpa using h4
  simp only[B,am]; exact T
theorem NY (hs:iA v=true) (A:0<v.length):Rok (F.TE v):=by
 have G:ax v (0:Int)=some v[0]:=bX (i:=0) A
 have z:Rok (F.Ue v 0):=Oa hw hK hU hs 0 A
 unfold F.TE
 simp only[G,aa]
 by_cases h6:v[0].1=6
 ·have B:(v[0].1 == 6)=true:=by simpa using h6
  obtain⟨I,J,j⟩:=AJ hs A
  have N:v[0].2.2.2=1:=by
   unfold cu at j
   rw[h6]at j
   simp at j
   exact j.2
  simp only[B,am]
  cases (v[0].2.1 == 18)
  ·exact z
  ·exact Oa hw hK hU hs 1 (by omega)
 ·have B:(v[0].1 == 6)=false:=by simpa using h6
  simp only[B,ah,aj]
  exact z
end
def sgn (p c z:L01):L01:=[132]++hd 3 (UInt64.ofNat 10)++[83,105,103,110,97,116,117,114,101,49]++hd 2 (UInt64.ofNat p.length)++p++hd 2 (UInt64.ofNat c.length)++c++hd 2 (UInt64.ofNat z.length)++z
theorem Om (a:Int):∃s,F.Vm a=some s:=by
 unfold F.Vm
 split
 ·exact⟨_,rfl⟩
 ·rename_i j
  unfold F.aah
  dsimp only
  split
  ·exact⟨_,rfl⟩
  ·rename_i A
   simp only[ak,Int.not_lt,Int.not_le]at j A
   obtain⟨n,rfl⟩:=eN j
   rw[bX (l:=F.Vi) (i:=n) (by show n<13; omega)]
   exact⟨_,rfl⟩
theorem Gb {f:Int->Option (Int⊕Int)} {l:List L01} {s:L01} (hl:l.length<9223372036854775807)
  (j:∀(i:Nat) (h:i<l.length),f (i:Int)=if (s == l[i])=true then some (.inr (i:Int)) else some (.inl ((i+1:Nat):Int))) (B:f (l.length:Int)=some (.inr (-1))) :
  ∃q,loop f 0=some q/\decide (0<=q)=l.contains s:=by
 have G:∀k i,l.length - i=k->i<=l.length->∃q,loop f (i:Int)=some q/\decide (0<=q)=(l.drop i).contains s:=by
  intro k
  induction k with
  | zero=>
   intro i I J
   have hi:i=l.length:=by omega
   subst hi
   exact⟨-1,bI B,by simp⟩
  | succ k ih=>
   intro i I J
   have A:i<l.length:=by omega
   rw[bc A,List.contains_cons]
   have hs:=j i A
   cases he:(s == l[i])
   ·rw[he]at hs
    obtain⟨q,N,O⟩:=ih (i+1) (by omega) (by omega)
    exact⟨q,by rw[bp hs,N],by rw[O,Bool.false_or]⟩
   ·rw[he]at hs
    exact⟨i,bI hs,by simp⟩
 have:=G l.length 0 (by omega) (by omega)
 simpa using this
theorem Dh (l:List L01) (s:L01) (hl:l.length<9223372036854775807):F.ZD l s=some (l.contains s):=by
 unfold F.ZD F.aan
 obtain⟨q,A,B⟩:=Gb (f:=F.Zo l s) (l:=l) (s:=s) hl (fun i h=>by
  have j:decide ((i:Int)<(l.length:Int))=true:=ai (by omega)
  simp only[F.Zo,j,am,bX h,aa,aD (show -9223372036854775808<=(i:Int)+1 by omega) (by omega)]
  rfl) (by
  have j:decide ((l.length:Int)<(l.length:Int))=false:=by simp
  simp only[F.Zo,j,ah,aj]
  rfl)
 rw[A,aa,B]
theorem rP (a b:L01) (ha:a.length<9223372036854775807):F.TG a b=some (a == b):=um a b ha
end Go.Gk.Cb
end
section
namespace Go.Gk.Cb
open Go Go.Gk Go.Gk.Bn
def sg1:L01:=[83,105,103,110,97,116,117,114,101,49]
def v5 (p c z:L01):List It:=[(4,0,[],4),(3,0,sg1,0),(2,0,p,0),(2,0,c,0),(2,0,z,0)]
theorem uP {v:List It} (d i:Nat) {x:L01} (h:v[i]? = some (2,0,x,0)):cz d v i=some (hd 2 (UInt64.ofNat x.length)++x,i+1):=by
 have j:∀sub,fF v sub i=some (hd 2 (UInt64.ofNat x.length)++x,i+1):=fun sub=>by
  unfold fF
  rw[h]
  rfl
 cases d
 ·exact j _
 ·exact j _
theorem zW (b c:L01) (kty crv:Int) (s n e x y:L01) (l:List L01) (hb:b.length<=LB) (hc:c.length<=LB) (hs:s.length<=LB) (hn:n.length<=LB) (he:e.length<=LB) (hx:x.length<=LB) (hy:y.length<=LB) (hl:l.length<9223372036854775807)
  {R:Rd6} {j:L01} (A:F.Tf b c=some R) (B:R.2.2.2.2.2=0) (G:F.Vm R.1=some j) (I:R.2.2.2.2.1.length<=LB) (J:R.2.2.2.1.length<=LB) :
  F.Vs b c kty crv s n e x y l=some (if l.contains j=true then (if qe R.1 kty crv s n e x y R.2.2.2.2.1 R.2.2.2.1=0 then (R.2.2.1,0) else ([],qe R.1 kty crv s n e x y R.2.2.2.2.1 R.2.2.2.1)) else ([],112)):=by
 unfold F.Vs
 rw[A,aa]
 have N:(R.2.2.2.2.2 != 0)=false:=by simp[B]
 simp only[N,ah,aj,G,aa,Dh l j hl]
 cases hcn:l.contains j
 ·simp
 ·simp only[db,ah,aj,am,H3 R.1 kty crv s n e x y _ _ hs hn he hx hy I J,aa]
  by_cases hz:qe R.1 kty crv s n e x y R.2.2.2.2.1 R.2.2.2.1=0
  ·simp[hz]
  ·have:(qe R.1 kty crv s n e x y R.2.2.2.2.1 R.2.2.2.1 != 0)=true:=by simpa using hz
   rw[this,ag rfl,ae hz]
theorem Lr {v:List It} (d i:Nat) (h:v[i]? = some (0,4,[],0)):cz d v i=some ([4],i+1):=by
 have hf:cu (0,4,[],0):=by simp[cu]
 have j:∀sub,fF v sub i=some ([4],i+1):=fun sub=>by
  unfold fF
  rw[h]
  simp only[hf,iW,aj]
  rfl
 cases d
 ·exact j _
 ·exact j _
def un (k:L01) (kid:Bool):L01:=if kid then [161]++([4]++(hd 2 (UInt64.ofNat k.length)++k)) else [160]
theorem OH {v:List It} (d i:Nat) (h:v[i]? = some (5,0,[],0)):cz (d+1) v i=some ([160],i+1):=by
 have hf:cu (5,0,[],0):=by simp[cu]
 show fF v (some (cz d v)) i=_
 unfold fF
 rw[h]
 simp only[hf,iW,aj]
 rfl
theorem Py {v:List It} (d i:Nat) {k:L01} (h:v[i]? = some (5,0,[],2)) (j:v[i+1]? = some (0,4,[],0)) (A:v[i+2]? = some (2,0,k,0)):cz (d+1) v i=some (un k true,i+3):=by
 have hf:cu (5,0,[],2):=by simp[cu]
 show fF v (some (cz d v)) i=_
 unfold fF
 rw[h]
 simp only[hf,iW,aj]
 have B:cW (cz d v) true 2 true none (i+1)=some ([4]++((hd 2 (UInt64.ofNat k.length)++k)++[]),i+3):=by
  have G:=Lr d (i+1) j
  have I:=uP d (i+2) A
  simp only[cW,G,show i+1+1=i+2 by omega,I,show i+2+1=i+3 by omega]
  rfl
 rw[ag (Or.inr (Or.inl trivial)),show ((5:Int) == 5)=true from rfl,show ((2:Int).toNat)=2 from rfl,B]
 simp only[bM]
 rfl
def Msg (v:List It) (a:Nat) (p z s k:L01) (kid:Bool):Prop:=
 v[a]? = some (4,0,[],4)/\v[a+1]? = some (2,0,p,0)/\(if kid=true then v[a+2]? = some (5,0,[],2)/\v[a+3]? = some (0,4,[],0)/\v[a+4]? = some (2,0,k,0) else v[a+2]? = some (5,0,[],0)) /\
  v[a+(if kid then 5 else 3)]? = some (2,0,z,0)/\v[a+(if kid then 6 else 4)]? = some (2,0,s,0)/\v.length=a+(if kid then 7 else 5)
theorem G8 (p z s k:L01) (kid j:Bool):Msg (jS p z s k kid j) (if j then 1 else 0) p z s k kid:=by
 cases kid <;> cases j <;> simp[Msg,jS]
def zC (p z s k:L01) (kid:Bool):L01:=[132]++((hd 2 (UInt64.ofNat p.length)++p)++(un k kid++((hd 2 (UInt64.ofNat z.length)++z)++((hd 2 (UInt64.ofNat s.length)++s)++[]))))
theorem In {v:List It} {a:Nat} {p z s k:L01} {kid:Bool} (h:Msg v a p z s k kid) (d:Nat):cz (d+1) v (a+2)=some (un k kid,a+(if kid then 5 else 3)):=by
 obtain⟨A,B,j,G,I,J⟩:=h
 cases kid
 ·simp only[ah,aj]at j ⊢
  exact OH d (a+2) j
 ·simp only[am]at j ⊢
  exact Py d (a+2) j.1 j.2.1 j.2.2
theorem Bs {v:List It} {a:Nat} {p z s k:L01} {kid:Bool} (h:Msg v a p z s k kid) (d:Nat):cz (d+2) v a=some (zC p z s k kid,v.length):=by
 have hu:=In h d
 obtain⟨j,A,U,B,G,I⟩:=h
 have hf:cu (4,0,[],4):=by simp[cu]
 show fF v (some (cz (d+1) v)) a=_
 unfold fF
 rw[j]
 simp only[hf,iW,aj]
 have J:=uP (d+1) (a+1) A
 have N:=uP (d+1) _ B
 have O:=uP (d+1) _ G
 have hn:a+(if kid then 5 else 3)+1=a+(if kid then 6 else 4):=by cases kid <;> rfl
 have hl:a+(if kid then 6 else 4)+1=v.length:=by rw[I]; cases kid <;> rfl
 have R:cW (cz (d+1) v) false 4 true none (a+1)=some ((hd 2 (UInt64.ofNat p.length)++p)++(un k kid++((hd 2 (UInt64.ofNat z.length)++z)++((hd 2 (UInt64.ofNat s.length)++s)++[]))),v.length):=by
  simp only[cW,J,show a+1+1=a+2 by omega,hu,N,hn,O,hl,ea,ah,aj]
 rw[ag (Or.inl trivial),show ((4:Int) == 5)=false from rfl,show ((4:Int).toNat)=4 from rfl,R]
 rfl
def kI (p z s k:L01) (kid tag:Bool):L01:=(if tag then [210] else [])++zC p z s k kid
theorem xg (p z s k:L01) (kid j:Bool):cz 32 (jS p z s k kid j) 0=some (kI p z s k kid j,(jS p z s k kid j).length):=by
 have h:=G8 p z s k kid j
 cases j
 ·exact Bs (a:=0) h 30
 ·have hf:cu (6,18,[],1):=by simp[cu]
  have e:=Bs (a:=1) h 29
  show fF (jS p z s k kid true) (some (cz 31 (jS p z s k kid true))) 0=_
  unfold fF
  rw[show (jS p z s k kid true)[0]? = some (6,18,[],1) from rfl]
  simp only[hf,iW,aj]
  rw[ag (Or.inr (Or.inr trivial)),show ((6:Int) == 5)=false from rfl,show ((1:Int).toNat)=1 from rfl]
  have A:cW (cz 31 (jS p z s k kid true)) false 1 true none 1=some (zC p z s k kid++[],(jS p z s k kid true).length):=by
   simp only[cW,e,ea,ah,aj]
  rw[A]
  simp only[bM]
  rfl
theorem uX (p z s k:L01) (kid j:Bool):iA (jS p z s k kid j)=true:=by
 unfold iA
 rw[xg]
 simp
theorem sc (p z s k:L01) (kid j:Bool) (hp:p.length<=2000000) (hz:z.length<=2000000) (hs:s.length<=2000000) (A:k.length<=2000000) :
  F.Un (jS p z s k kid j)=some (if 65536<(kI p z s k kid j).length then ([],10) else (kI p z s k kid j,0)):=by
 obtain⟨hw,hK⟩:=py p z s k kid j hp hz hs A
 rw[Kj hw hK]
 unfold pb
 rw[xg]
 simp
theorem HG (p z s k:L01) (kid j:Bool) (hp:p.length<=2000000) (hz:z.length<=2000000) (hs:s.length<=2000000) (A:k.length<=2000000) (hl:¬65536<(kI p z s k kid j).length) :
  F.T9 (kI p z s k kid j)=some (jS p z s k kid j,0,0):=by
 obtain⟨hw,hK⟩:=py p z s k kid j hp hz hs A
 have h:=zg (v:=jS p z s k kid j) (t:=kI p z s k kid j) hK (fun x hx=>by
  have:x.2.2.1.length<=2000000:=by
   cases kid <;> cases j <;> simp[jS]at hx <;> rcases hx with rfl | rfl | rfl | rfl | rfl | rfl | rfl | rfl <;> simp <;> omega
  omega) (by unfold pb; rw[xg]; simp[hl])
 rw[lQ,h.1]
theorem MA (p z s k:L01) (kid j:Bool):(kI p z s k kid j).length<=50+p.length+z.length+s.length+(if kid then k.length else 0):=by
 have hP:=jn 2 (UInt64.ofNat p.length)
 have hZ:=jn 2 (UInt64.ofNat z.length)
 have hS:=jn 2 (UInt64.ofNat s.length)
 have hK:=jn 2 (UInt64.ofNat k.length)
 cases kid <;> cases j <;> simp[kI,zC,un] <;> omega
abbrev E6 (e:Int):Option Rd6:=some (0,[],[],[],[],e)
noncomputable def tlT (x:List It×Int×Int) (h:Int×Int×Bool) (p z s k:L01) (kid:Bool):Option Rd6:=
 if h.2.2=true/\0<=h.1 then
  (if 0<=h.2.1 then (if kid=true then E6 221 else af (ax x.1 h.2.1) fun u=>F.TN x h (2,0,p,0) (2,0,z,0) (2,0,s,0) u.2.2.1)
   else F.TN x h (2,0,p,0) (2,0,z,0) (2,0,s,0) (if kid=true then k else []))
 else E6 221
noncomputable def rdT (p z s k:L01) (kid:Bool):Option Rd6:=
 af (F.T9 p) fun x=>if (x.2.1 != 0)=true then E6 x.2.1 else af (ax x.1 (0:Int)) fun y=>if (y.1 != 5)=true then E6 221 else af (F.Tg x.1 0) fun h=>tlT x h p z s k kid
section
variable {v:List It} (hw:wt v<=4000000000000) (hK:Kd v) (hs:iA v=true) {a:Nat} {p z s k:L01} {kid:Bool} (hm:Msg v a p z s k kid)
include hw hK hs hm
theorem GJ:a+5<=v.length/\v.length<=4000000000000:=by
 have:=mz v
 obtain⟨_,_,_,_,_,h⟩:=hm
 cases kid <;> simp at h <;> omega
theorem Ke:F.Tg v ((a+2:Nat):Int)=some (-1,(if kid=true then ((a+4:Nat):Int) else -1),true):=by
 obtain⟨hl,Z⟩:=GJ hw hK hs hm
 have ab:=hm
 obtain⟨h0,h1,j,h3,h4,h5⟩:=hm
 have ha:a+2<v.length:=by omega
 rcases zU hw hK ((a+2:Nat):Int) with⟨_,h⟩ | ⟨O,d,K,q,u,ac,e,ad,A,hd,hk,h⟩
 ·exfalso
  refine h hs (a+2) ha rfl ?_
  cases kid
  ·simp only[ah,aj]at j
   rw[(aF.1 j).2]
  ·simp only[am]at j
   rw[(aF.1 j.1).2]
 ·have:O=a+2:=by omega
  subst this
  cases kid
  ·simp only[ah,aj]at j ⊢
   have hx:=(aF.1 j).2
   rw[hx]at A
   have:K=0:=by simp at A; omega
   subst this
   have N:∀n:UInt64,F.S1 n v ((a+2:Nat):Int) 0=some (-1,((a+2:Nat):Int),0):=fun n=>by
    unfold F.S1
    rw[h,aa]
    rfl
   unfold F.Tg
   rw[N,aa,N,aa,bX ha,aa,hx]
   rfl
  ·simp only[am]at j ⊢
   obtain⟨j,G,I⟩:=j
   have hx:=(aF.1 j).2
   rw[hx]at A
   have:K=1:=by simp at A; omega
   subst this
   have R:=Lr d (a+3) G
   have U:=uP d (a+4) I
   have J:seg v (a+3) (a+4)=[(0,4,[],0)]:=by
    unfold seg
    rw[show a+4 - (a+3)=1 by omega,bc (show a+3<v.length by omega),(aF.1 G).2]
    rfl
   have m:∀B,ii v (cz d v) B 1 (a+2+1)=if [((0:Int),(4:UInt64),([]:L01),(0:Int))]=B then ((a+4:Nat):Int) else -1:=fun B=>by
    rw[show a+2+1=a+3 by omega]
    simp only[ii,R,show a+3+1=a+4 by omega,U,J]
   have V:F.S1 1 v ((a+2:Nat):Int) 0=some (-1,((a+2:Nat):Int),0):=by
    unfold F.S1
    rw[h,aa,m,ae (by simp)]
    rfl
   have X:F.S1 4 v ((a+2:Nat):Int) 0=some (((a+4:Nat):Int),((a+2:Nat):Int),1):=by
    unfold F.S1
    rw[h,aa,m,ag rfl]
    have:decide ((0:Int)<=((a+4:Nat):Int))=true:=ai (by omega)
    rw[this,ag rfl]
    rfl
   unfold F.Tg
   rw[V,aa,X,aa,bX ha,aa,hx]
   have g4:ax v ((a+4:Nat):Int)=some (2,0,k,0):=by rw[bX (show a+4<v.length by omega),(aF.1 I).2]
   have Y:decide (((a+4:Nat):Int)<0)=false:=av (by omega)
   rw[show (2:Int) == wI (2*1) from rfl]
   simp only[am,Y,ah,aj,g4,aa]
   rfl
theorem FM:F.Ue v (a:Int)=rdT p z s k kid:=by
 obtain⟨hl,ap⟩:=GJ hw hK hs hm
 have hh:=Ke hw hK hs hm
 have hu:=In hm 1
 obtain⟨Z,h1,I,V,O,h5⟩:=hm
 have a1:wI ((a:Int)+1)=((a+1:Nat):Int):=by rw[aD (by omega) (by omega)]; simp
 have a2:wI ((a:Int)+2)=((a+2:Nat):Int):=by rw[aD (by omega) (by omega)]; simp
 have G:∀{i:Nat} {x:It},v[i]? = some x->ax v (i:Int)=some x:=fun {i x} h=>by
  obtain⟨hi,he⟩:=aF.1 h
  rw[bX hi,he]
 have R:∃x:It,ax v ((a+2:Nat):Int)=some x/\x.1=5:=by
  cases kid
  ·simp only[ah,aj]at I
   exact⟨_,G I,rfl⟩
  ·simp only[am]at I
   exact⟨_,G I.1,rfl⟩
 obtain⟨x2,R,x5⟩:=R
 have X:=zM hw hK hs (show a+2<v.length by omega) (by omega) hu
 have Y:a+(if kid then 5 else 3)+1=a+(if kid then 6 else 4):=by cases kid <;> rfl
 generalize a+(if kid then 5 else 3)=j at V X Y
 rw[<-Y]at O
 have bx:j+1<v.length:=(aF.1 O).1
 have j1:wI ((j:Int)+1)=((j+1:Nat):Int):=by rw[aD (by omega) (by omega)]; simp
 simp only[F.Ue,G Z,aa,a1,G h1,a2,R,x5,dn,ah,aj,F.TM,X,G V,j1,G O,F.T7,hh]
 unfold rdT
 congr 1
 funext x
 congr 1
 congr 1
 funext y
 congr 1
 congr 1
 funext h
 unfold tlT
 have N:∀(h':Int×Int×Bool) (A B C:It),F.TH v x h h' A B C true=E6 221:=fun _ _ _ _=>rfl
 have hn:decide ((0:Int)<=-1)=false:=rfl
 cases ho:h.2.2
 ·simp only[iU,am,N,ah,false_and,aj]
 ·simp only[db,ah,aj,jb]
  by_cases hq:h.1<0
  ·have U:decide (h.1<0)=true:=ai hq
   simp only[U,am,N]
   rw[ae (show ¬0<=h.1 by omega)]
  ·have U:decide (h.1<0)=false:=av hq
   simp only[U,hn,ah,aj]
   rw[ag (show 0<=h.1 by omega)]
   by_cases h4':0<=h.2.1
   ·have J:decide (0<=h.2.1)=true:=ai h4'
    rw[J,ag rfl,ag h4']
    cases kid
    ·simp only[ah,aj,hn,F.TH,J,am]
    ·have:decide ((0:Int)<=((a+4:Nat):Int))=true:=ai (by omega)
     simp only[am,this,N]
   ·have J:decide (0<=h.2.1)=false:=av h4'
    rw[J,ae h4']
    cases kid
    ·simp only[ah,aj,F.TH,J,hn]
    ·simp only[am]at I ⊢
     have:decide ((0:Int)<=((a+4:Nat):Int))=true:=ai (by omega)
     simp only[ah,aj,F.TH,J,this,am,G I.2.2,aa]
end
theorem Ao (p z s k:L01) (kid j:Bool) (hp:p.length<=2000000) (hz:z.length<=2000000) (hs:s.length<=2000000) (A:k.length<=2000000):F.TE (jS p z s k kid j)=rdT p z s k kid:=by
 obtain⟨hw,hK⟩:=py p z s k kid j hp hz hs A
 have h:=FM hw hK (uX p z s k kid j) (G8 p z s k kid j)
 cases j
 ·unfold F.TE
  rw[show ax (jS p z s k kid false) 0=some (4,0,[],4) from rfl,aa]
  exact h
 ·unfold F.TE
  rw[show ax (jS p z s k kid true) 0=some (6,18,[],1) from rfl,aa]
  exact h
theorem zm (p z s k:L01) (kid:Bool) (hp:p.length<=2000000) (hz:z.length<=2000000) (hs:s.length<=2000000) (j:k.length<=2000000):Rok (rdT p z s k kid):=by
 obtain⟨hw,hK⟩:=py p z s k kid false hp hz hs j
 have h:=NY hw hK (fun x hx=>by cases kid <;> simp[jS]at hx <;> rcases hx with rfl | rfl | rfl | rfl | rfl | rfl | rfl <;> simp <;> omega) (uX p z s k kid false) (by cases kid <;> simp[jS])
 rwa [Ao p z s k kid false hp hz hs j]at h
theorem Gn {x:List It×Int×Int} {h:Int×Int×Bool} {p z s:L01} {K:L01} {r:Rd6} (A:F.TN x h (2,0,p,0) (2,0,z,0) (2,0,s,0) K=some r) :
  (r=(0,[],[],[],[],111)/\∀j,F.TN x h (2,0,p,0) (2,0,z,0) (2,0,s,0) j=E6 111)\/∃B:Int,r=(B,p,K,z,s,0)/\∀j,F.TN x h (2,0,p,0) (2,0,z,0) (2,0,s,0) j=some (B,p,j,z,s,0):=by
 unfold F.TN at A ⊢
 dsimp only at A ⊢
 have N:∀n:Int,F.Uw (2,0,p,0) (2,0,z,0) (2,0,s,0) K n=some r->(r=(0,[],[],[],[],111)/\∀j,F.Uw (2,0,p,0) (2,0,z,0) (2,0,s,0) j n=E6 111)\/∃B:Int,r=(B,p,K,z,s,0)/\∀j,F.Uw (2,0,p,0) (2,0,z,0) (2,0,s,0) j n=some (B,p,j,z,s,0):=fun n G=>by
  unfold F.Uw at G ⊢
  dsimp only at G ⊢
  split at G
  ·rename_i hn
   exact .inl ⟨(dW G).symm,fun j=>by rw[ag hn]⟩
  ·rename_i hn
   exact .inr ⟨n,(dW G).symm,fun j=>by rw[ae hn]⟩
 obtain⟨u,hu,A⟩:=dq A
 rw[hu]
 simp only[aa]
 split at A
 ·rename_i hc
  obtain⟨B,I,A⟩:=dq A
  simp only[hc,am,aa,hu]
  rw[hu]at I
  cases I
  obtain⟨R,J,O⟩:=dq A
  rw[J]
  simp only[aa]
  exact N _ O
 ·rename_i hc
  simp only[hc,ah,aj]
  exact N 0 A
theorem Oe (p z s k:L01) (hp:p.length<=2000000) (hz:z.length<=2000000) (hs:s.length<=2000000) :
  (∃e:Int,e≠0/\rdT p z s [] false=E6 e/\(rdT p z s k true=E6 e\/rdT p z s k true=E6 221)) \/
  ∃(A:Int) (K:L01),rdT p z s [] false=some (A,p,K,z,s,0)/\(rdT p z s k true=some (A,p,k,z,s,0)\/rdT p z s k true=E6 221):=by
 obtain⟨r,j,_⟩:=zm p z s [] false hp hz hs (by simp)
 unfold rdT at j ⊢
 obtain⟨x,hx,j⟩:=dq j
 rw[hx]
 simp only[aa]
 split at j
 ·rename_i hc
  simp only[hc,am]
  exact .inl ⟨x.2.1,by simpa using hc,rfl,.inl rfl⟩
 ·rename_i hc
  simp only[hc,ah,aj]
  obtain⟨y,hy,j⟩:=dq j
  rw[hy]
  simp only[aa]
  split at j
  ·rename_i G
   simp only[G,am]
   exact .inl ⟨221,by omega,rfl,.inl rfl⟩
  ·rename_i G
   simp only[G,ah,aj]
   obtain⟨h,hh,j⟩:=dq j
   rw[hh]
   simp only[aa]
   unfold tlT at j ⊢
   by_cases hc1:h.2.2=true/\0<=h.1
   ·rw[ag hc1]at j
    rw[ag hc1,ag hc1]
    by_cases h4:0<=h.2.1
    ·rw[ag h4]at j
     rw[ag h4,ag h4]
     simp only[ah,aj,am]at j ⊢
     rw[j]
     obtain⟨u,hu,j⟩:=dq j
     rcases Gn j with⟨rfl,B⟩ | ⟨A,rfl,B⟩
     ·exact .inl ⟨111,by omega,rfl,.inr trivial⟩
     ·exact .inr ⟨A,_,rfl,.inr trivial⟩
    ·rw[ae h4]at j
     rw[ae h4,ae h4]
     simp only[ah,aj,am]at j ⊢
     rcases Gn j with⟨rfl,B⟩ | ⟨A,rfl,B⟩
     ·exact .inl ⟨111,by omega,j,.inl (B _)⟩
     ·exact .inr ⟨A,_,j,.inl (B _)⟩
   ·rw[ae hc1,ae hc1]
    exact .inl ⟨221,by omega,rfl,.inl rfl⟩
def wQ (c:L01) (r:Rd6):Rd6:=if r.2.2.2.2.2=0 then (r.1,r.2.2.1,r.2.2.2.1,r.2.2.2.2.1,sgn r.2.1 c r.2.2.2.1,0) else (0,[],[],[],[],r.2.2.2.2.2)
theorem sK (p z s k c:L01) (kid j:Bool) (hp:p.length<=2000000) (hz:z.length<=2000000) (hs:s.length<=2000000) (B:k.length<=2000000) (hl:¬65536<(kI p z s k kid j).length) {r:Rd6} (N:rdT p z s k kid=some r) :
  F.Tf (kI p z s k kid j) c=some (if 65536<c.length then (0,[],[],[],[],10) else wQ c r):=by
 have O:∀e:Int,(af (F.Xa e) fun x=>some (x.1,x.2.1,x.2.2.1,x.2.2.2.1,x.2.2.2.2.1,x.2.2.2.2.2))=some ((0:Int),([]:L01),([]:L01),([]:L01),([]:L01),e):=fun e=>rfl
 have R:=HG p z s k kid j hp hz hs B hl
 have U:=Ao p z s k kid j hp hz hs B
 obtain⟨Z,A,l1,l2,l3,l4⟩:=zm p z s k kid hp hz hs B
 rw[N]at A
 cases A
 generalize kI p z s k kid j=b at *
 unfold F.Tf
 have V:decide ((65536:Int)<(b.length:Int))=false:=av (by omega)
 simp only[V,ah,aj]
 by_cases h2:65536<c.length
 ·have G:decide ((65536:Int)<(c.length:Int))=true:=ai (by omega)
  simp only[G,am,F.Ua,h2]
  exact O 10
 have G:decide ((65536:Int)<(c.length:Int))=false:=av (by omega)
 simp only[G,ah,aj,F.Ua,h2,R,aa,dn,U,N]
 unfold wQ
 by_cases hst:r.2.2.2.2.2=0
 ·have I:(r.2.2.2.2.2 != 0)=false:=by simp[hst]
  simp only[I,ah,aj,hst,am]
  have hP:=jn 2 (UInt64.ofNat r.2.1.length)
  have hC:=jn 2 (UInt64.ofNat c.length)
  have hS:(hd 3 (UInt64.ofNat 10)).length<=9:=jn _ _
  have X:F.TV [132] 3 [83,105,103,110,97,116,117,114,101,49]=some ([132]++hd 3 (UInt64.ofNat 10)++[83,105,103,110,97,116,117,114,101,49]):=ny 3 _ _ (by simp) (by simp)
  have J:∀o x:L01,o.length<=1000000000->x.length<1000000000->F.TV o 2 x=some (o++hd 2 (UInt64.ofNat x.length)++x):=fun o x Y hx=>ny 2 o x Y hx
  rw[X,aa,J _ r.2.1 (by simp only[aE,ca,eu]; omega) (by omega),aa,J _ c (by simp only[aE,ca,eu]; omega) (by omega),aa,J _ r.2.2.2.1 (by simp only[aE,ca,eu]; omega) (by omega),aa]
  rw[grd_true _ (show r.2.2.1.length<=225000000000000 by omega),grd_true _ (show r.2.2.2.1.length<=225000000000000 by omega),grd_true _ (show r.2.2.2.2.1.length<=225000000000000 by omega)]
  rfl
 ·have I:(r.2.2.2.2.2 != 0)=true:=by simpa using hst
  simp only[I,am,hst,aj]
  exact O _
section
variable {c:L01} {kty crv:Int} {s n e x y:L01} {l:List L01} (hc:c.length<=LB) (hs:s.length<=LB) (hn:n.length<=LB) (he:e.length<=LB) (hx:x.length<=LB) (hy:y.length<=LB) (hl:l.length<9223372036854775807)
include hc hs hn he hx hy hl
theorem Ef {a b:L01} (ha:a.length<=LB) (hb:b.length<=LB) {R j:Rd6} (U:F.Tf a c=some R) (G:F.Tf b c=some j) (I:R.2.2.2.2.1.length<=LB) (J:R.2.2.2.1.length<=LB) (X:R.2.2.1.length<=LB)
  (h:R.2.2.2.2.2=0->j.2.2.2.2.2=0->j.1=R.1/\j.2.2=R.2.2):F.Wi a b c kty crv s n e x y l=some true:=by
 unfold F.Wi
 rw[U,aa,G,aa]
 by_cases h0:R.2.2.2.2.2=0
 ·have N:(R.2.2.2.2.2 != 0)=false:=by simp[h0]
  simp only[N,ah,aj]
  by_cases h0':j.2.2.2.2.2=0
  ·have A:(j.2.2.2.2.2 != 0)=false:=by simp[h0']
   obtain⟨O,B⟩:=h h0 h0'
   obtain⟨Z,Y⟩:=Om R.1
   have V:=zW a c kty crv s n e x y l ha hc hs hn he hx hy hl U h0 Y I J
   have V':=zW b c kty crv s n e x y l hb hc hs hn he hx hy hl G h0' (by rw[O]; exact Y) (by rw[B]; exact I) (by rw[B]; exact J)
   rw[O,B]at V'
   simp only[A,F.Ws,ah,aj,V,V',aa,O,B,dL,am]
   rw[rP _ _ (show R.2.2.1.length<9223372036854775807 by unfold LB at X; omega),aa,dL,ag rfl,rP _ _ (show R.2.2.2.1.length<9223372036854775807 by unfold LB at J; omega),aa,dL,ag rfl,rP _ _ (show R.2.2.2.2.1.length<9223372036854775807 by unfold LB at I; omega),aa,dL,ag rfl,rP _ _ (by unfold LB at X; split <;> (try split) <;> simp <;> omega),aa,dL]
   simp
  ·have A:(j.2.2.2.2.2 != 0)=true:=by simpa using h0'
   simp only[A,F.Ws,am]
 ·have N:(R.2.2.2.2.2 != 0)=true:=by simpa using h0
  simp only[N,am,F.Ws]
end
theorem law31_CoseOthers_eq (p z g k c:L01) (kty crv:Int) (s n e x y:L01) (l:List L01) (hp:p.length<=2000000) (hz:z.length<=2000000) (hg:g.length<=2000000) (hk:k.length<=2000000) (hc:c.length<=140737488351232) (hs:s.length<=140737488351232) (hn:n.length<=140737488351232) (he:e.length<=140737488351232) (hx:x.length<=140737488351232) (hy:y.length<=140737488351232) (hl:l.length<9223372036854775807) :
  F.Z5 p z g k c kty crv s n e x y l=some true:=by
 unfold F.Z5
 rw[Fs,aa]
 simp only[db,ah,aj,Fw,aa,sc p z g [] false false hp hz hg (by simp),sc p z g [] false true hp hz hg (by simp),sc p z g k true false hp hz hg hk]
 have N:∀(U:L01) (kid V:Bool),U.length<=k.length->65536<(kI p z g U kid V).length->∀A B C,F.Vc p z g k c A B C kty crv s n e x y l true=some true:=fun U kid V c5 h A B C=>by
  have j:=MA p z g U kid V
  have I:(if kid=true then U.length else 0)<=k.length:=by split <;> omega
  unfold F.Vc
  simp only[am]
  rw[aD (show -9223372036854775808<=(p.length:Int)+(z.length:Int) by omega) (by omega),aD (show -9223372036854775808<=(p.length:Int)+(z.length:Int)+(g.length:Int) by omega) (by omega),aD (show -9223372036854775808<=(p.length:Int)+(z.length:Int)+(g.length:Int)+(k.length:Int) by omega) (by omega)]
  rw[ai (by omega)]
 by_cases hA:65536<(kI p z g [] false false).length
 ·simp only[ag hA,show ((10:Int) != 0)=true from rfl,am]
  exact N [] false false (by simp) hA _ _ _
 by_cases hB:65536<(kI p z g [] false true).length
 ·simp only[ae hA,ag hB,show ((10:Int) != 0)=true from rfl,am,dn,ah,aj]
  exact N [] false true (by simp) hB _ _ _
 by_cases X:65536<(kI p z g k true false).length
 ·simp only[ae hA,ae hB,ag X,show ((10:Int) != 0)=true from rfl,dn,ah,aj]
  exact N k true false (by omega) X _ _ _
 simp only[ae hA,ae hB,ae X,dn,ah,aj]
 obtain⟨r,hr,_⟩:=zm p z g [] false hp hz hg (by simp)
 obtain⟨r',Y,_⟩:=zm p z g k true hp hz hg hk
 have PA:=sK p z g [] c false false hp hz hg (by simp) hA hr
 have PB:=sK p z g [] c false true hp hz hg (by simp) hB hr
 have PC:=sK p z g k c true false hp hz hg hk X Y
 have hsg:∀q w:L01,q.length<=2000000->w.length<=2000000->¬65536<c.length->(sgn q c w).length<=LB:=fun q w hq hw J=>by
  have hP:=jn 2 (UInt64.ofNat q.length)
  have X:=jn 2 (UInt64.ofNat c.length)
  have hZ:=jn 2 (UInt64.ofNat w.length)
  have hS:(hd 3 (UInt64.ofNat 10)).length<=9:=jn _ _
  unfold sgn LB
  simp only[aE,ca,eu]
  omega
 have la:(kI p z g [] false false).length<=LB:=by unfold LB; omega
 have lb:(kI p z g [] false true).length<=LB:=by unfold LB; omega
 have lc:(kI p z g k true false).length<=LB:=by unfold LB; omega
 -- what is read,in three cases
 have b4:∃R G:Rd6,(if 65536<c.length then ((0,[],[],[],[],10):Rd6) else wQ c r)=R/\(if 65536<c.length then ((0,[],[],[],[],10):Rd6) else wQ c r')=G/\R.2.2.2.2.1.length<=LB/\R.2.2.2.1.length<=LB/\R.2.2.1.length<=LB /\
   (R.2.2.2.2.2≠0/\(G.2.2.2.2.2=R.2.2.2.2.2\/G.2.2.2.2.2=221)\/R.2.2.2.2.2=0/\(G.2.2.2.2.2=221\/G.2.2.2.2.2=0/\G.1=R.1/\G.2.2=R.2.2/\G.2.1=k)):=by
  by_cases J:65536<c.length
  ·rw[ag J,ag J]
   exact⟨_,_,rfl,rfl,by simp,by simp,by simp,.inl ⟨by simp,.inl rfl⟩⟩
  ·rw[ae J,ae J]
   refine⟨_,_,rfl,rfl,?_⟩
   rcases Oe p z g k hp hz hg with⟨e,e0,j,I⟩ | ⟨al,K,j,I⟩
   ·rw[hr]at j
    cases j
    rw[Y]at I
    have p1:wQ c ((0,[],[],[],[],e):Rd6)=(0,[],[],[],[],e):=by unfold wQ; rw[ae e0]
    rw[p1]
    refine⟨by simp,by simp,by simp,.inl ⟨e0,?_⟩⟩
    rcases I with I | I
    ·cases I; rw[p1]; exact .inl rfl
    ·cases I; exact .inr rfl
   ·rw[hr]at j
    cases j
    rw[Y]at I
    refine⟨hsg p z hp hz J,?_,?_,.inr ⟨rfl,?_⟩⟩
    ·show g.length<=LB; unfold LB; omega
    ·show z.length<=LB; unfold LB; omega
    rcases I with I | I
    ·cases I; exact .inr ⟨rfl,rfl,rfl,rfl⟩
    ·cases I; exact .inl rfl
 obtain⟨R,G,eR,b6,l1,l2,l3,Z⟩:=b4
 rw[eR]at PA PB
 rw[b6]at PC
 have AB:=Ef (kty:=kty) (crv:=crv) hc hs hn he hx hy hl la lb PA PB l1 l2 l3 fun _ _=>⟨rfl,rfl⟩
 have AC:=Ef (kty:=kty) (crv:=crv) hc hs hn he hx hy hl la lc PA PC l1 l2 l3 fun h h'=>by
  rcases Z with⟨j,_⟩ | ⟨_,I | ⟨_,q1,q2,_⟩⟩
  ·exact absurd h j
  ·omega
  ·exact⟨q1,q2⟩
 have K2:F.Uk c kty crv s n e x y l (kI p z g [] false false,0) (kI p z g [] false true,0) (kI p z g k true false,0) false=some true:=by
  unfold F.Uk
  simp only[ah,aj,AB,aa,am,AC]
 unfold F.Vc
 simp only[ah,aj,PA,PB,PC,aa,dn]
 rcases Z with⟨h0,j⟩ | ⟨h0,j | ⟨j,_,_,ce⟩⟩
 ·have z0:¬G.2.2.2.2.2=0:=by rcases j with j | j <;> omega
  have O:(G.2.2.2.2.2 == 0)=false:=by simpa using z0
  rcases j with j | j
  ·have:(G.2.2.2.2.2 != R.2.2.2.2.2)=false:=by simp[j]
   simp only[this,ah,aj,O]
   exact K2
  ·have:(G.2.2.2.2.2 != 221)=false:=by simp[j]
   simp only[this,ah,aj,O,jf]
   exact K2
 ·have:(G.2.2.2.2.2 != 221)=false:=by simp[j]
  have O:(G.2.2.2.2.2 == 0)=false:=by simp[j]
  simp only[this,ah,aj,O,jf]
  exact K2
 ·have:(G.2.2.2.2.2 != R.2.2.2.2.2)=false:=by simp[j,h0]
  have O:(G.2.2.2.2.2 == 0)=true:=by simp[j]
  simp only[this,ah,aj,O,am,ce,rP k k (by omega),aa,dL,db]
  exact K2
end Go.Gk.Cb
end
