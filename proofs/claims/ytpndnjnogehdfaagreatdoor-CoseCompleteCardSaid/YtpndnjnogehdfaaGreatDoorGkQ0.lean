import Derived.Test.YtpndnjnogehdfaaGreatDoorGkP0
import Derived.Lib.ValidU
import Derived.Test.YtpndnjnogehdfaaGreatDoorGkFman
import Derived.Lib.ValidLaws
import Derived.KernelRfl
import Derived.Test.YtpndnjnogehdfaaGreatDoorGkUL
set_option linter.unusedVariables false
set_option linter.unusedSimpArgs false
set_option linter.unusedSectionVars false
section
namespace Go.Gk.Cb
open Go Go.Gk
abbrev It:=Int×UInt64×Y3×Int
abbrev Er:=Int×Int
def wd (n:UInt64):Nat:=if n<24 then 0 else if n<256 then 1 else if n<65536 then 2 else if n<4294967296 then 4 else 8
def be:Nat->UInt64->Y3
 | 0,_=>[]
 | k+1,n=>(bb n (8*k)).toUInt8 :: be k n
def nbe (l:Y3):UInt64:=l.foldl (fun a c=>256*a+c.toUInt64) 0
def lg (w:Nat):Nat:=if w=1 then 0 else if w=2 then 1 else if w=4 then 2 else 3
def hd (m:Nat) (n:UInt64):Y3:=
 if wd n=0 then [UInt8.ofNat (32*m)+n.toUInt8] else UInt8.ofNat (32*m+24+lg (wd n)) :: be (wd n) n
def lT (b:Y3) (i:Nat):Except Er (Nat×UInt64×Nat):=
 match b[i]? with
 | none=>.error (220,b.length)
 | some c=>
  if 27<c.toNat%32\/c.toNat / 32=7/\(c.toNat%32<20\/22<c.toNat%32) then .error (220,i)
  else if c.toNat%32<24 then .ok (c.toNat / 32,UInt64.ofNat (c.toNat%32),i+1)
  else if b.length - (i+1)<2^(c.toNat%32 - 24) then .error (220,b.length)
  else if wd (nbe ((b.drop (i+1)).take (2^(c.toNat%32 - 24))))≠2^(c.toNat%32 - 24) then .error (220,i)
  else .ok (c.toNat / 32,nbe ((b.drop (i+1)).take (2^(c.toNat%32 - 24))),i+1+2^(c.toNat%32 - 24))
def jF:Y3->Y3->Bool
 | [],[]=>false
 | [],_ :: _=>true
 | _ :: _,[]=>false
 | a :: r,b :: s=>if a=b then jF r s else decide (a<b)
abbrev Rd:=Nat->Except Er (Nat×List It)
def gE (rec:Rd):Nat->Nat->Rd
 | _,0,i=>.ok (i,[])
 | 0,_+1,_=>.error (220,0)
 | f+1,n+1,i=>match rec i with
  | .error e=>.error e
  | .ok (j,is)=>match gE rec f n j with
   | .error e=>.error e
   | .ok (k,js)=>.ok (k,is++js)
def part (b:Y3) (i j:Nat):Y3:=(b.drop i).take (j - i)
def ju (last:Option Y3) (key:Y3):Bool:=match last with
 | none=>true
 | some l=>jF l key
def gk (rec:Rd) (b:Y3):Nat->Nat->Option Y3->Rd
 | _,0,_,i=>.ok (i,[])
 | 0,_+1,_,_=>.error (220,0)
 | f+1,n+1,last,i=>match rec i with
  | .error e=>.error e
  | .ok (j,is)=>
   if ju last (part b i j)=false then .error (220,i)
   else match rec j with
    | .error e=>.error e
    | .ok (k,js)=>match gk rec b f n (some (part b i j)) k with
     | .error e=>.error e
     | .ok (l,ks)=>.ok (l,is++js++ks)
def AT (b:Y3) (sub:Rd) (m:Nat) (n:UInt64) (i:Nat):Except Er (Nat×List It):=
 if m=4 then match gE sub (b.length+1) n.toNat i with
  | .error e=>.error e
  | .ok (j,is)=>.ok (j,(4,0,[],(n.toNat:Int)) :: is)
 else if m=5 then match gk sub b (b.length+1) n.toNat none i with
  | .error e=>.error e
  | .ok (j,is)=>.ok (j,(5,0,[],2*(n.toNat:Int)) :: is)
 else match sub i with
  | .error e=>.error e
  | .ok (j,is)=>.ok (j,(6,n,[],1) :: is)
def ld (b:Y3) (sub:Option Rd):Rd:=fun i=>
 match lT b i with
 | .error e=>.error e
 | .ok (m,n,j)=>
  if m=4\/m=5\/m=6 then match sub with
   | none=>.error (11,i)
   | some rec=>AT b rec m n j
  else if m=2\/m=3 then
   if b.length - j<n.toNat then .error (220,b.length)
   else if m=3/\Lib.validD (part b j (j+n.toNat))=false then .error (32,i)
   else .ok (j+n.toNat,[((m:Int),0,part b j (j+n.toNat),0)])
  else .ok (j,[((m:Int),n,[],0)])
def li:Nat->Y3->Rd
 | 0,b=>ld b none
 | d+1,b=>ld b (some (li d b))
def jP (b:Y3):List It×Int×Int:=
 if 65536<b.length then ([],10,0) else match li 32 b 0 with
  | .error e=>([],e.1,e.2)
  | .ok (j,is)=>if j<b.length then ([],220,(j:Int)) else (is,0,0)
theorem tH {b:Y3} {i m j:Nat} {n:UInt64} (h:lT b i=.ok (m,n,j)):i<j/\j<=b.length/\m<8:=by
 unfold lT at h
 split at h
 ·cases h
 ·rename_i c hc
  have hi:i<b.length:=(aD.1 hc).1
  have q:c.toNat<256:=c.toNat_lt
  split at h
  ·cases h
  ·split at h
   ·cases h; omega
   ·split at h
    ·cases h
    ·split at h
     ·cases h
     ·cases h
      have:1<=2^(c.toNat%32 - 24):=Nat.one_le_two_pow
      omega
theorem FM {b:Y3} {i:Nat} {e:Er} (h:lT b i=.error e):e=(220,(b.length:Int))\/e=(220,(i:Int))/\i<b.length:=by
 unfold lT at h
 split at h
 ·cases h; exact .inl rfl
 ·rename_i c hc
  have hi:i<b.length:=(aD.1 hc).1
  split at h
  ·cases h; exact .inr ⟨rfl,hi⟩
  ·split at h
   ·cases h
   ·split at h
    ·cases h; exact .inl rfl
    ·split at h
     ·cases h; exact .inr ⟨rfl,hi⟩
     ·cases h
def mx (b:Y3) (rec:Rd):Prop:=(∀i j is,rec i=.ok (j,is)->i<j/\j<=b.length/\1<=is.length/\i+is.length<=j)/\(∀i e,rec i=.error e->i<=b.length->e.1≠0/\0<=e.2/\e.2<=b.length)
theorem pn {b:Y3} {rec:Rd} (h:mx b rec):∀(f n i:Nat),i<=b.length->(∀j is,gE rec f n i=.ok (j,is)->i<=j/\j<=b.length/\i+is.length<=j/\n<=is.length/\i+n<=j) /\
  (∀e,gE rec f n i=.error e->e.1≠0/\0<=e.2/\e.2<=b.length)
 | f,0,i,hi=>by
  constructor
  ·intro j is y
   cases f <;> (simp only[gE]at y; cases y; simp; exact hi)
  ·intro e y
   cases f <;> (simp only[gE]at y; cases y)
 | 0,n+1,i,hi=>by
  constructor
  ·intro j is y; simp only[gE]at y; cases y
  ·intro e y; simp only[gE]at y; cases y; simp
 | f+1,n+1,i,hi=>by
  simp only[gE]
  cases y:rec i with
  | error e=>
   refine⟨fun j is A=>(by cases A),fun B A=>?_⟩
   cases A
   exact h.2 i e y hi
  | ok p=>
   obtain⟨j,is⟩:=p
   obtain⟨O,I,R,U⟩:=h.1 i j is y
   have G:=pn h f n j I
   simp only
   cases h7:gE rec f n j with
   | error e=>exact⟨fun j is A=>(by cases A),fun B A=>by cases A; exact G.2 e h7⟩
   | ok q=>
    obtain⟨k,J⟩:=q
    refine⟨fun V N A=>?_,fun B A=>(by cases A)⟩
    cases A
    have:=G.1 k J h7
    simp only[ay]
    omega
theorem ox {b:Y3} {rec:Rd} (h:mx b rec):∀(f n:Nat) (last:Option Y3) (i:Nat),i<=b.length->(∀j is,gk rec b f n last i=.ok (j,is)->i<=j/\j<=b.length/\i+is.length<=j/\2*n<=is.length/\i+2*n<=j) /\
  (∀e,gk rec b f n last i=.error e->e.1≠0/\0<=e.2/\e.2<=b.length)
 | f,0,last,i,hi=>by
  constructor
  ·intro j is A
   cases f <;> (simp only[gk]at A; cases A; simp; exact hi)
  ·intro e A
   cases f <;> (simp only[gk]at A; cases A)
 | 0,n+1,last,i,hi=>by
  constructor
  ·intro j is A; simp only[gk]at A; cases A
  ·intro e A; simp only[gk]at A; cases A; simp
 | f+1,n+1,last,i,hi=>by
  simp only[gk]
  cases A:rec i with
  | error e=>
   refine⟨fun j is y=>(by cases y),fun B y=>?_⟩
   cases y
   exact h.2 i e A hi
  | ok p=>
   obtain⟨j,is⟩:=p
   obtain⟨V,I,X,Y⟩:=h.1 i j is A
   simp only
   split
   ·exact⟨fun j is y=>(by cases y),fun B y=>by cases y; simp; omega⟩
   ·cases h7:rec j with
    | error e=>exact⟨fun j is y=>(by cases y),fun B y=>by cases y; exact h.2 j e h7 I⟩
    | ok q=>
     obtain⟨k,J⟩:=q
     obtain⟨Z,N,O,R⟩:=h.1 j k J h7
     have G:=ox h f n (some (part b i j)) k N
     simp only
     cases h12:gk rec b f n (some (part b i j)) k with
     | error e=>exact⟨fun j is y=>(by cases y),fun B y=>by cases y; exact G.2 e h12⟩
     | ok s=>
      obtain⟨l,ks⟩:=s
      refine⟨fun j' U y=>?_,fun B y=>(by cases y)⟩
      cases y
      have:=G.1 l ks h12
      simp only[ay]
      omega
theorem sZ {b:Y3} {sub:Option Rd} (h:∀rec,sub=some rec->mx b rec):mx b (ld b sub):=by
 have G:∀i,(∀j is,ld b sub i=.ok (j,is)->i<j/\j<=b.length/\1<=is.length/\i+is.length<=j)/\(∀e,ld b sub i=.error e->i<=b.length->e.1≠0/\0<=e.2/\e.2<=b.length):=by
  intro i
  unfold ld
  cases B:lT b i with
  | error e=>
   refine⟨fun j is y=>(by cases y),fun A y hi=>?_⟩
   cases y
   rcases FM B with rfl | ⟨rfl,_⟩ <;> simp <;> omega
  | ok p=>
   obtain⟨m,n,j⟩:=p
   obtain⟨J,I,_⟩:=tH B
   simp only
   split
   ·cases sub with
    | none=>
     refine⟨fun j is y=>(by cases y),fun A y hi=>?_⟩
     cases y; simp; omega
    | some rec=>
     have hm:=h rec rfl
     simp only[AT]
     split
     ·have:=pn hm (b.length+1) n.toNat j I
      cases h5:gE rec (b.length+1) n.toNat j with
      | error e=>exact⟨fun j is y=>(by cases y),fun A y hi=>by cases y; exact this.2 e h5⟩
      | ok q=>
       obtain⟨k,is⟩:=q
       have:=this.1 k is h5
       refine⟨fun j is y=>?_,fun A y hi=>(by cases y)⟩
       cases y; simp; omega
     ·split
      ·have:=ox hm (b.length+1) n.toNat none j I
       cases h5:gk rec b (b.length+1) n.toNat none j with
       | error e=>exact⟨fun j is y=>(by cases y),fun A y hi=>by cases y; exact this.2 e h5⟩
       | ok q=>
        obtain⟨k,is⟩:=q
        have:=this.1 k is h5
        refine⟨fun j is y=>?_,fun A y hi=>(by cases y)⟩
        cases y; simp; omega
      ·cases h5:rec j with
       | error e=>exact⟨fun j is y=>(by cases y),fun A y hi=>by cases y; exact hm.2 j e h5 I⟩
       | ok q=>
        obtain⟨k,is⟩:=q
        have:=hm.1 j k is h5
        refine⟨fun j is y=>?_,fun A y hi=>(by cases y)⟩
        cases y; simp; omega
   ·split
    ·split
     ·exact⟨fun j is y=>(by cases y),fun A y hi=>by cases y; simp⟩
     ·split
      ·exact⟨fun j is y=>(by cases y),fun A y hi=>by cases y; simp; omega⟩
      ·refine⟨fun j is y=>?_,fun A y hi=>(by cases y)⟩
       cases y; simp; omega
    ·refine⟨fun j is y=>?_,fun A y hi=>(by cases y)⟩
     cases y; simp; omega
 exact⟨fun i j is B=>(G i).1 j is B,fun i e B hi=>(G i).2 e B hi⟩
theorem km (b:Y3):∀d,mx b (li d b)
 | 0=>sZ (by simp)
 | d+1=>sZ (by intro rec h; cases h; exact km b d)
theorem uC (a b:UInt8) (r s:Y3):jF (a :: r) (b :: s)=if a=b then jF r s else decide (a<b):=rfl
theorem F5 (l:Y3):jF l []=false:=by cases l <;> rfl
theorem Lw (a b:Y3) (U:a.length<9223372036854775807):F.Yo a b=some (jF a b):=by
 have A:∀k i,a.length - i=k->i<=a.length->i<=b.length->loop (F.S3 a b) (i:Int)=some (jF (a.drop i) (b.drop i)):=by
  intro k
  induction k with
  | zero=>
   intro i J N O
   have hi:i=a.length:=by omega
   subst hi
   refine bP ?_
   simp only[F.S3,F.Ug,ej,dq,ai,ak,bj,bQ]
   congr 2
   rw[ew]
   rcases cj a.length b.length with j | j
   ·rw[bk j]
    simp[jF,j]
   ·rw[gj j]
    simp[jF]; omega
  | succ k ih=>
   intro i J N O
   have j:i<a.length:=by omega
   have q:decide ((i:Int)<(a.length:Int))=true:=by simp; omega
   rcases cj i b.length with y | y
   ·have B:decide ((i:Int)<(b.length:Int))=true:=by simp; omega
    have G:au a (i:Int)=some a[i]:=cd j
    have I:au b (i:Int)=some b[i]:=cd y
    rw[bk j,bk y,uC]
    by_cases he:a[i]=b[i]
    ·have hs:F.S3 a b (i:Int)=some (.inl ((i:Int)+1)):=by
      simp only[F.S3,F.Ug,q,B,G,I,he,am,aa,d5,ai,ak]
      rw[aO (by omega) (by omega)]; rfl
     rw[bB hs,ah he]
     have:=ih (i+1) (by omega) (by omega) (by omega)
     simpa using this
    ·rw[ae he]
     refine bP ?_
     have R:(a[i] != b[i])=true:=by simpa using he
     simp only[F.S3,F.Ug,q,B,G,I,R,am,aa]
     rfl
   ·have hi:i=b.length:=by omega
    subst hi
    refine bP ?_
    simp only[F.S3,F.Ug,q,am,ej,dq,ai,ak,bj,bQ]
    congr 2
    rw[ew,F5]
    simp; omega
 exact A a.length 0 (by omega) (by omega) (by omega)
theorem NC (a:UInt8):F.Uy a=some false:=by simp[F.Uy]
def pA (a b:Y3):Int:=if jF a b then -1 else if a=b then 0 else 1
theorem wN (x y:UInt8) (r s:Y3):pA (x :: r) (y :: s)=if x=y then pA r s else if x<y then -1 else 1:=by
 unfold pA
 rw[uC]
 by_cases h:x=y
 ·subst h; simp
 ·by_cases h2:x<y <;> simp[h,h2]
theorem Nm (a b:UInt8):F.Wa a b=some (if a<b then -1 else if b<a then 1 else 0):=by
 simp only[F.Wa,NC,aa,ai,ak]
 by_cases h1:a<b
 ·simp[h1]
 ·by_cases h2:b<a <;> simp[h1,h2]
theorem uO (a b:Y3) (V:a.length<9223372036854775807):F.Vd a b=some (pA a b):=by
 have G:∀k i,a.length - i=k->i<=a.length->i<=b.length->loop (F.Sp a b) (i:Int)=some (pA (a.drop i) (b.drop i)):=by
  intro k
  induction k with
  | zero=>
   intro i O R U
   have hi:i=a.length:=by omega
   subst hi
   refine bP ?_
   simp only[F.Sp,ej,dq,ai,ak]
   rw[ew]
   rcases cj a.length b.length with q | q
   ·rw[bk q]
    have:decide ((a.length:Int)<(b.length:Int))=true:=by simp; omega
    simp only[this,pA,jF,bj,am,bQ]
   ·rw[gj q]
    have:¬((a.length:Int)<(b.length:Int)):=by omega
    simp[this,pA,jF,bj]
  | succ k ih=>
   intro i O R U
   have q:i<a.length:=by omega
   have y:decide ((i:Int)<(a.length:Int))=true:=by simp; omega
   have A:au a (i:Int)=some a[i]:=cd q
   rcases cj i b.length with B | B
   ·have I:¬((b.length:Int)<=(i:Int)):=by omega
    have J:au b (i:Int)=some b[i]:=cd B
    rw[bk q,bk B]
    by_cases he:a[i]=b[i]
    ·have hs:F.Sp a b (i:Int)=some (.inl ((i:Int)+1)):=by
      have j:¬(b[i]<b[i]):=UInt8.lt_irrefl _
      simp only[F.Sp,y,I,A,J,he,Nm,j,am,aa,d5,ai,ak,dq]
      rw[aO (by omega) (by omega)]; rfl
     rw[bB hs]
     have:=ih (i+1) (by omega) (by omega) (by omega)
     rw[show ((i:Int)+1)=((i+1:Nat):Int) by simp,this,wN,ah he]
    ·refine bP ?_
     simp only[F.Sp,y,I,A,J,Nm,am,aa,ai,ak,dq]
     rw[wN,ae he]
     by_cases j:a[i]<b[i]
     ·simp only[j,am,bj,bQ]; rfl
     ·have N:b[i]<a[i]:=by
       rcases UInt8.lt_or_lt_of_ne he with h | h
       ·exact absurd h j
       ·exact h
      simp only[j,N,am,ak,bj,bQ]; rfl
   ·have hi:i=b.length:=by omega
    subst hi
    refine bP ?_
    rw[bk q,ew]
    simp only[F.Sp,y,A,aa,am,Int.le_refl,ib,pA,jF,bj,bQ]
    rfl
 exact G a.length 0 (by omega) (by omega) (by omega)
theorem s9 (a b:Y3):decide ((0:Int)<=pA a b) = !jF a b:=by
 unfold pA
 cases h:jF a b
 ·by_cases he:a=b <;> simp[he]
 ·simp
theorem B8 (n:UInt64):F.XW n=some (wd n:Int):=by
 unfold F.XW wd
 split
 ·rename_i h; simp at h; simp[h]
 ·rename_i h; simp only[ar]at h; simp only[h,ak]
  split
  ·rename_i h; simp at h; simp[h]
  ·rename_i h; simp only[ar]at h; simp only[h,ak]
   split
   ·rename_i h; simp at h; simp[h]
   ·rename_i h; simp only[ar]at h; simp only[h,ak]
    split
    ·rename_i h; simp at h; simp[h]
    ·rename_i h; simp only[ar]at h; simp[h]
theorem Aa (n:UInt64):F.V0 n=some (wd n:Int):=by
 rw[<-B8]; rfl
theorem Jv (n:UInt64):wd n<=8:=by
 unfold wd
 repeat' split
 all_goals omega
theorem I2 (l:Y3) (c:UInt8):nbe (l++[c])=256*nbe l+c.toUInt64:=by simp[nbe]
theorem O9 (c:UInt8):((qt c 5).toNat:Int)=((c.toNat / 32:Nat):Int):=by rw[ES]; rfl
theorem N7 (c:UInt8):((c &&& 31).toNat:Int)=((c.toNat%32:Nat):Int):=by
 rw[UInt8.toNat_and]
 have:=Ad c.toNat 5
 simp at this
 simp[this]
theorem NJ (x:UInt64) (c:UInt8):(c9 x 8) ||| c.toUInt64=256*x+c.toUInt64:=by
 apply cA.1
 have hc:c.toNat<256:=c.toNat_lt
 rw[UInt64.toNat_or,na,fI,iQ]
 have j:c.toUInt64.toNat=c.toNat:=by simp
 have q:(2:Nat)^(min 8 64)=256:=by decide
 rw[j,q,uJ 8 (by omega) (by omega)]
 simp
 omega
theorem sm (k:Nat) (h:24<=k) (j:k<=27):gA 1 (k - 24)=((2^(k - 24):Nat):Int):=by
 have:k=24\/k=25\/k=26\/k=27:=by omega
 rcases this with rfl | rfl | rfl | rfl <;> decide
theorem Lt (k:Nat) (j:k<=27):2^(k - 24)<=8:=by
 have:k - 24=0\/k - 24=1\/k - 24=2\/k - 24=3:=by omega
 rcases this with h | h | h | h <;> rw[h] <;> decide
abbrev Fr_:=Int×Int×UInt64×Bool×Int×Option (Nat×Nat)
theorem xK (l:Y3) (k:Nat) (h:k<l.length):nbe (l.take (k+1))=256*nbe (l.take k)+l[k].toUInt64:=by
 rw[dL h,I2]
theorem gd (n:Nat):UInt64.ofInt (n:Int)=UInt64.ofNat n:=by
 apply cA.1
 simp[UInt64.ofInt]
 omega
theorem BF (b:Y3) (i:Nat) (out:List It) (op:List Fr_) (hb:b.length<=65536) (hi:i<=b.length) :
  ∃j:Int,F.Vk b i out op=some (match lT b i with
   | .ok (m,n,k)=>((m:Int),n,none,(k:Int),out,op)
   | .error e=>(0,0,some e,j,out,op)):=by
 unfold F.Vk lT
 by_cases hl:i=b.length
 ·subst hl
  refine⟨(b.length:Int),?_⟩
  simp
 ·have G:i<b.length:=by omega
  have h0:((i:Int) == (b.length:Int))=false:=by simp; omega
  simp only[h0,ai,ak,cd G,aa,aM,O9,N7,aE G]
  have hc:=(b[i]).toNat_lt
  generalize b[i]=c at hc ⊢
  have hw:wI ((i:Int)+1)=((i+1:Nat):Int):=by rw[aO (by omega) (by omega)]; simp
  -- what comes behind the first test
  have y:∃j:Int,F.Sq b i out op ((c.toNat / 32:Nat):Int) ((c.toNat%32:Nat):Int) true=some ((0:Int),(0:UInt64),some ((220:Int),(i:Int)),j,out,op):=⟨_,rfl⟩
  have U:c.toNat%32<=27->∃j:Int,F.Sq b i out op ((c.toNat / 32:Nat):Int) ((c.toNat%32:Nat):Int) false=some (match (if c.toNat%32<24 then .ok (c.toNat / 32,UInt64.ofNat (c.toNat%32),i+1)
    else if b.length - (i+1)<2^(c.toNat%32 - 24) then .error (220,(b.length:Int))
    else if wd (nbe ((b.drop (i+1)).take (2^(c.toNat%32 - 24))))≠2^(c.toNat%32 - 24) then .error (220,(i:Int))
    else .ok (c.toNat / 32,nbe ((b.drop (i+1)).take (2^(c.toNat%32 - 24))),i+1+2^(c.toNat%32 - 24)):Except Er (Nat×UInt64×Nat)) with
   | .ok (m,n,k)=>((m:Int),n,none,(k:Int),out,op)
   | .error e=>(0,0,some e,j,out,op)):=by
   intro V
   unfold F.Sq
   simp only[ai,ak]
   by_cases h24:c.toNat%32<24
   ·have J:decide (((c.toNat%32:Nat):Int)<24)=true:=by simp; omega
    refine⟨0,?_⟩
    simp only[J,h24,am,hw,gd]
   ·have J:decide (((c.toNat%32:Nat):Int)<24)=false:=by simp; omega
    have e1:wI (((c.toNat%32:Nat):Int) - 24)=((c.toNat%32 - 24:Nat):Int):=by rw[aO (by omega) (by omega)]; omega
    simp only[J,h24,ak,ai,e1,aq,hw]
    rw[grd_true _ (by omega),aM,sm _ (by omega) V]
    have hp:=Lt _ V
    generalize 2^(c.toNat%32 - 24)=s at hp ⊢
    have e2:wI ((b.length:Int) - ((i+1:Nat):Int))=((b.length - (i+1):Nat):Int):=by rw[aO (by omega) (by omega)]; omega
    rw[e2]
    by_cases hs:b.length - (i+1)<s
    ·have N:decide (((b.length - (i+1):Nat):Int)<(s:Int))=true:=by simp; omega
     refine⟨((i+1:Nat):Int),?_⟩
     simp only[N,hs,am]
    ·have N:decide (((b.length - (i+1):Nat):Int)<(s:Int))=false:=by simp; omega
     have X:wI (((i+1:Nat):Int)+(s:Int))=((i+1+s:Nat):Int):=by rw[aO (by omega) (by omega)]; simp
     simp only[N,hs,ak,ai,X]
     rw[kU (by omega) (by omega),aa,show i+1+s - (i+1)=s by omega]
     have hL:((b.drop (i+1)).take s).length=s:=by simp; omega
     generalize (b.drop (i+1)).take s=L at hL ⊢
     have Y:∀q k,s - k=q->k<=s->loop (F.S1 i out op ((c.toNat / 32:Nat):Int) s L) (nbe (L.take k),(k:Int)) =
       some (if wd (nbe L)≠s then ((0:Int),(0:UInt64),some ((220:Int),(i:Int)),((i+1+s:Nat):Int),out,op) else (((c.toNat / 32:Nat):Int),nbe L,none,((i+1+s:Nat):Int),out,op)):=by
      intro q
      induction q with
      | zero=>
       intro k h1 h2
       have:k=s:=by omega
       subst this
       refine bP ?_
       have O:decide (((k:Nat):Int)<(L.length:Int))=false:=by simp; omega
       simp only[F.S1,O,ai,ak,Aa,aa,hw,X]
       rw[aA (by omega)]
       by_cases hwd:wd (nbe L)=k
       ·simp only[hwd,d5,ai,ak,bj,ne_eq,not_true,bQ]
       ·have:((wd (nbe L):Int) != (k:Int))=true:=by simp; omega
        simp only[this,am,bj,hwd,ne_eq,iD,bQ]
      | succ q ih=>
       intro k h1 h2
       have I:k<L.length:=by omega
       have O:decide (((k:Nat):Int)<(L.length:Int))=true:=by simp; omega
       have e4:wI ((k:Int)+1)=((k+1:Nat):Int):=by rw[aO (by omega) (by omega)]; simp
       have Z:F.S1 i out op ((c.toNat / 32:Nat):Int) s L (nbe (L.take k),(k:Int))=some (.inl (nbe (L.take (k+1)),((k+1:Nat):Int))):=by
        simp only[F.S1,O,am,cd I,aa,aM,e4,NJ,xK L k I]
        rfl
       rw[bB Z]
       exact ih (k+1) (by omega) (by omega)
     have:=Y s 0 (by omega) (by omega)
     simp only[gS]at this
     have this:loop (F.S1 i out op ((c.toNat / 32:Nat):Int) s L) (0,0)=_:=this
     refine⟨((i+1+s:Nat):Int),?_⟩
     rw[this]
     by_cases hwd:wd (nbe L)=s <;> simp[hwd]
  by_cases h27:27<c.toNat%32
  ·have d:decide ((27:Int)<((c.toNat%32:Nat):Int))=true:=by simp; omega
   simp only[d,am,h27,true_or]
   exact y
  ·have d:decide ((27:Int)<((c.toNat%32:Nat):Int))=false:=by simp; omega
   simp only[d,ak,h27,false_or,ai]
   by_cases h7:c.toNat / 32=7
   ·have R:(((c.toNat / 32:Nat):Int) == 7)=true:=by simp; omega
    simp only[R,am,h7,iU]
    by_cases h20:c.toNat%32<20
    ·have A:decide (((c.toNat%32:Nat):Int)<20)=true:=by simp; omega
     simp only[A,am,h20,true_or]
     rw[h7]at y
     exact y
    ·have A:decide (((c.toNat%32:Nat):Int)<20)=false:=by simp; omega
     simp only[A,ak,h20,false_or,ai]
     by_cases h22:22<c.toNat%32
     ·have B:decide ((22:Int)<((c.toNat%32:Nat):Int))=true:=by simp; omega
      simp only[B,am,h22]
      rw[h7]at y
      exact y
     ·have B:decide ((22:Int)<((c.toNat%32:Nat):Int))=false:=by simp; omega
      simp only[B,ak,h22]
      have:=U (by omega)
      rw[h7]at this
      exact this
   ·have R:(((c.toNat / 32:Nat):Int) == 7)=false:=by simp; omega
    simp only[R,ak,h7,false_and,ai]
    exact U (by omega)
abbrev RR:=Y3×Int×List It×Int×Int
section
variable {b:Y3} {rec:Rd} {rc:Y3->Int->List It->Int->Int->Int->Option RR} {w:Int}
end
theorem yz (l m:List It) (h:l.length+m.length<=1000000):apO 40 l m=some (l++m):=ir (by omega)
theorem Ba (out is:List It) (x y:It):(out++x :: is).set out.length y=out++y :: is:=by simp
theorem y7 (out is:List It) (x:It):(out++x :: is)[out.length]? = some x:=by simp
section
variable {b:Y3} {rc:Y3->Int->List It->Int->Int->Int->Option RR}
end
abbrev PR:=List It×Int×Int
abbrev Sg:=Int×List It×List Fr_
noncomputable def Dn (b:Y3) (i:Int) (out:List It) (op:List Fr_):Option (Sg⊕PR):=
 af (F.Rr b i out op) fun x=>gm x.1 (loop (F.QV b) (x.2.1,x.2.2.1,x.2.2.2)) (fun f=>bj (some ([],f.1,f.2)))
noncomputable def run (b:Y3) (x:Option (Sg⊕PR)):Option PR:=match x with
 | none=>none
 | some (.inl s)=>loop (F.RF b) s
 | some (.inr r)=>some r
theorem HF (b:Y3) (s:Sg):loop (F.RF b) s=run b (F.RF b s):=by
 rw[mP]
 unfold run
 cases F.RF b s with
 | none=>rfl
 | some x=>cases x <;> rfl
section
variable {b:Y3}
theorem oh (op:List Fr_) (g:Fr_) (_h:op.length<1000):au (op++[g]) (op.length:Int)=some g:=by
 rw[mJ]; simp
theorem nW (op:List Fr_) (g:Fr_) (h:op.length<1000):wI (((op++[g]).length:Int) - 1)=(op.length:Int):=by
 simp; rw[aO (by omega) (by omega)]
theorem tg (op:List Fr_) (g j:Fr_):(op++[g]).set op.length j=op++[j]:=by simp
theorem Cn (i:Int) (out:List It) (op:List Fr_) (g:Fr_) (h:op.length<1000) (j:g.2.2.1=0):loop (F.QV b) (i,out,op++[g])=Dn b i out op:=by
 rw[mP]
 have q:decide ((0:Int)<((op++[g]).length:Int))=true:=by simp
 have y:(g.2.2.1 == 0)=true:=by rw[j]; rfl
 have A:(op++[g]).take ((op.length:Int)).toNat=op:=by simp
 simp only[F.QV,q,am,oh op g h,aa,y,F.Vs,nW op g h]
 rw[grd_true _ (by simp),A]
 unfold Dn
 cases hd:F.Rr b i out op with
 | none=>rfl
 | some x=>
  simp only[aa]
  cases hx:x.1 with
  | none=>simp only[gm,bV]
  | some f=>simp only[gm,bj,bQ]
theorem wn (i:Int) (out:List It) (op:List Fr_) (g:Fr_) (h:op.length<1000) (j:g.2.2.1≠0):run b (loop (F.QV b) (i,out,op++[g]))=loop (F.RF b) (i,out,op++[g]):=by
 have q:decide ((0:Int)<((op++[g]).length:Int))=true:=by simp
 have y:(g.2.2.1 == 0)=false:=by simpa using j
 have A:(((op++[g]).length:Int) == 0)=false:=by simp; omega
 have:F.QV b (i,out,op++[g])=some (.inr (.inl (i,out,op++[g]))):=by
  simp only[F.QV,q,am,nW op g h,oh op g h,aa,y,F.Vs,ai,ak,A]
  rfl
 rw[bP this]
 rfl
theorem MX (i:Nat) (out:List It):run b (loop (F.QV b) ((i:Int),out,[]))=some (if i<b.length then ([],220,(i:Int)) else (out,0,0)):=by
 have:F.QV b ((i:Int),out,[])=some (.inr (.inr (if i<b.length then ([],220,(i:Int)) else (out,0,0)))):=by
  have q:decide ((0:Int)<((([]:List Fr_)).length:Int))=false:=by simp
  have y:(((([]:List Fr_)).length:Int) == 0)=true:=by simp
  simp only[F.QV,q,ai,ak,F.Vs,y,am]
  by_cases h:i<b.length
  ·have j:decide ((i:Int)<(b.length:Int))=true:=by simp; omega
   simp only[j,am,h]; rfl
  ·have j:decide ((i:Int)<(b.length:Int))=false:=by simp; omega
   simp only[j,ai,ak,h]; rfl
 rw[bP this]
 rfl
theorem Jb (i:Int) (out:List It):Dn b i out []=loop (F.QV b) (i,out,[]):=by
 unfold Dn F.Rr
 simp[gm]
theorem HG (i:Int) (out ks:List It) (op:List Fr_) (x:It) (g:Fr_) (h:op.length<1000) (j:g.1=(out.length:Int)) (hm:g.2.1≠5) (A:wI (x.2.2.2+1)=x.2.2.2+1) :
  Dn b i (out++x :: ks) (op++[g])=loop (F.QV b) (i,out++(x.1,x.2.1,x.2.2.1,x.2.2.2+1) :: ks,op++[(g.1,g.2.1,g.2.2.1 - 1,g.2.2.2.1,g.2.2.2.2.1,g.2.2.2.2.2)]):=by
 have B:(((op++[g]).length:Int) == 0)=false:=by simp; omega
 have q:au (out++x :: ks) (g.1:Int)=some x:=by rw[j,mJ,y7]
 have y:(g.2.1 != 5)=true:=by simpa using hm
 unfold Dn F.Rr
 simp only[B,ai,ak,oh op g h,aa,q,aM,y,am,nW op g h,aq,tg,F.SY,gm]
 rw[j,aq,Ba,A]
theorem Hn (i:Int) (out ks:List It) (op:List Fr_) (x:It) (g:Fr_) (h:op.length<1000) (j:g.1=(out.length:Int)) (hm:g.2.1=5) (A:g.2.2.2.1=true) (B:wI (x.2.2.2+1)=x.2.2.2+1) :
  Dn b i (out++x :: ks) (op++[g])=loop (F.QV b) (i,out++(x.1,x.2.1,x.2.2.1,x.2.2.2+1) :: ks,op++[(g.1,g.2.1,g.2.2.1 - 1,false,i,g.2.2.2.2.2)]):=by
 have G:(((op++[g]).length:Int) == 0)=false:=by simp; omega
 have q:au (out++x :: ks) (g.1:Int)=some x:=by rw[j,mJ,y7]
 have y:(g.2.1 != 5)=false:=by simp[hm]
 unfold Dn F.Rr
 simp only[G,ai,ak,oh op g h,aa,q,aM,y,am,A,nW op g h,aq,tg,F.SY,gm]
 rw[j,aq,Ba,B]
def qp (b:Y3) (l:Option (Nat×Nat)):Option Y3:=l.map fun p=>vwL b p
theorem Im (i:Nat) (out ks:List It) (op:List Fr_) (x:It) (g:Fr_) (k:Nat) (Z:b.length<=65536) (B:b≠[]) (h:op.length<1000) (y:g.1=(out.length:Int)) (hm:g.2.1=5) (V:g.2.2.2.1=false) (X:wI (x.2.2.2+1)=x.2.2.2+1)
  (j:g.2.2.2.2.1=(k:Int)) (G:k<=i) (hi:i<=b.length) (hl:∀p,g.2.2.2.2.2=some p->p.1<=p.2/\p.2<=b.length) :
  Dn b (i:Int) (out++x :: ks) (op++[g])=if ju (qp b g.2.2.2.2.2) (part b k i)=false then some (.inr ([],220,(k:Int))) else
   loop (F.QV b) ((i:Int),out++(x.1,x.2.1,x.2.2.1,x.2.2.2+1) :: ks,op++[(g.1,g.2.1,g.2.2.1,true,(k:Int),some (k,i))]):=by
 have Y:(((op++[g]).length:Int) == 0)=false:=by simp; omega
 have I:au (out++x :: ks) (g.1:Int)=some x:=by rw[y,mJ,y7]
 have J:(g.2.1 != 5)=false:=by simp[hm]
 have N:slO b (k:Int) (i:Int)=some (part b k i):=kU G hi
 unfold Dn F.Rr
 simp only[Y,ai,ak,oh op g h,aa,I,aM,J,V,nW op g h,aq,j,N]
 rw[grd_true _ B]
 have A:∀t,F.T0 (i:Int) (op++[g]) g ((out++x :: ks).set (g.1).toNat (x.1,x.2.1,x.2.2.1,wI (x.2.2.2+1))) t =
   some (if t=true then (some (220,(k:Int)),(i:Int),out++(x.1,x.2.1,x.2.2.1,x.2.2.2+1) :: ks,op++[g]) else (none,(i:Int),out++(x.1,x.2.1,x.2.2.1,x.2.2.2+1) :: ks,op++[(g.1,g.2.1,g.2.2.1,true,(k:Int),some (k,i))])):=by
  intro t
  rw[y,aq,Ba,X]
  cases t
  ·simp only[F.T0,ai,ak,aM,nW op g h,aq,tg,j,F.SY]
   rw[y]
  ·simp only[F.T0,am,j]
 cases hla:g.2.2.2.2.2 with
 | none=>
  simp only[Option.isSome_none,ai,ak,qp,ij,ju,A,aa,gm]
  rfl
 | some p=>
  obtain⟨O,R⟩:=hl p hla
  have U:(vwL b p).length<9223372036854775807:=by simp[vwL]; omega
  simp only[Option.isSome_some,am,aa,qp,bQ,ju]
  rw[grd_true _ ⟨O,R⟩,uO _ _ U,aa,s9,A,aa]
  by_cases q:jF (vwL b p) (part b k i)=false
  ·simp[q,gm,bj]
  ·have q:jF (vwL b p) (part b k i)=true:=by simpa using q
   simp[q,gm,bj]
theorem oz {α ρ:Type} (x:Option ρ) (y:α->Option ρ):gm none x y=x:=rfl
theorem oN {α ρ:Type} (a:α) (x:Option ρ) (y:α->Option ρ):gm (some a) x y=y a:=rfl
def Act (b:Y3) (len:Nat) (rec:Rd):Prop:=∀(i:Nat) (out:List It) (op:List Fr_),i<=b.length->out.length<=i->op.length=len ->
 loop (F.RF b) ((i:Int),out,op)=match rec i with
  | .error e=>some ([],e.1,e.2)
  | .ok (j,is)=>run b (Dn b (j:Int) (out++is) op)
theorem wZ {rec:Rd} (hb:b.length<=65536) (hm:mx b rec) {len:Nat} (hA:Act b (len+1) rec) (O:len<100) (m:Int) (q:m≠5) (x:It) (A:Bool) (B:Int) (last:Option (Nat×Nat)) :
  ∀(f k n:Nat) (i:Nat) (out ks:List It) (op:List Fr_),i<=b.length->out.length+1+ks.length<=i->b.length+1<=f+i->op.length=len->n<18446744073709551616->k<=b.length->n=0\/k+1<=i ->
   run b (loop (F.QV b) ((i:Int),out++(x.1,x.2.1,x.2.2.1,(k:Int)) :: ks,op++[((out.length:Int),m,UInt64.ofNat n,A,B,last)])) =
    match gE rec f n i with
    | .error e=>some ([],e.1,e.2)
    | .ok (j,is)=>run b (Dn b (j:Int) (out++(x.1,x.2.1,x.2.2.1,((k+n:Nat):Int)) :: (ks++is)) op):=by
 intro f
 induction f with
 | zero=>intro k n i out ks op G R U; omega
 | succ f ih=>
  intro k n i out ks op G R U I h5 h6 Z
  cases n with
  | zero=>
   rw[Cn _ _ _ _ (by omega) (by rfl)]
   simp[gE]
  | succ n=>
   have J:UInt64.ofNat (n+1)≠0:=by
    intro h
    have:=cv UInt64.toNat h
    simp at this
    omega
   rw[wn _ _ _ _ (by omega) J]
   rw[hA i _ _ G (by simp; omega) (by simp[I]),gE]
   cases hx:rec i with
   | error e=>rfl
   | ok a=>
    obtain⟨j,is⟩:=a
    obtain⟨h7,V,h9,ab⟩:=hm.1 i j is hx
    simp only
    have N:wI ((k:Int)+1)=(k:Int)+1:=aO (by omega) (by omega)
    rw[aP,di,HG _ _ _ _ _ _ (by omega) rfl q N]
    have X:UInt64.ofNat (n+1) - 1=UInt64.ofNat n:=by
     apply cA.1
     rw[fH _ _ (by rw[db]; simp; omega)]
     simp; omega
    have:=ih (k+1) n j out (ks++is) op V (by simp; omega) (by omega) I (by omega) (by omega) (by omega)
    simp only[X]
    have Y:((k+1:Nat):Int)=(k:Int)+1:=by simp
    rw[Y]at this
    rw[this]
    cases hz:gE rec f n j with
    | error e=>rfl
    | ok y=>
     obtain⟨z,js⟩:=y
     simp only
     rw[show k+1+n=k+(n+1) by omega,aP]
theorem D7 {rec:Rd} (U:b.length<=65536) (hm:mx b rec) {len:Nat} (hA:Act b (len+1) rec) (V:len<100) (x:It) :
  ∀(f k n:Nat) (i:Nat) (out ks:List It) (op:List Fr_) (last:Option (Nat×Nat)),i<=b.length->out.length+1+ks.length<=i->b.length+1<=f+i->op.length=len->n<18446744073709551616->2*k<=i ->
   (∀p,last=some p->p.1<=p.2/\p.2<=b.length) ->
   run b (loop (F.QV b) ((i:Int),out++(x.1,x.2.1,x.2.2.1,((2*k:Nat):Int)) :: ks,op++[((out.length:Int),5,UInt64.ofNat n,false,(i:Int),last)])) =
    match gk rec b f n (qp b last) i with
    | .error e=>some ([],e.1,e.2)
    | .ok (j,is)=>run b (Dn b (j:Int) (out++(x.1,x.2.1,x.2.2.1,((2*(k+n):Nat):Int)) :: (ks++is)) op):=by
 intro f
 induction f with
 | zero=>intro k n i out ks op last G X Y; omega
 | succ f ih=>
  intro k n i out ks op last G X Y A h5 h6 Z
  cases n with
  | zero=>
   rw[Cn _ _ _ _ (by omega) (by rfl)]
   simp[gk]
  | succ n=>
   have q:UInt64.ofNat (n+1)≠0:=by
    intro h
    have:=cv UInt64.toNat h
    simp at this
    omega
   rw[wn _ _ _ _ (by omega) q]
   rw[hA i _ _ G (by simp; omega) (by simp[A]),gk]
   cases hx:rec i with
   | error e=>rfl
   | ok a=>
    obtain⟨j,is⟩:=a
    obtain⟨h8,B,ag,ap⟩:=hm.1 i j is hx
    have I:b≠[]:=by rintro rfl; simp at B; omega
    simp only
    have J:wI (((2*k:Nat):Int)+1)=((2*k:Nat):Int)+1:=aO (by omega) (by omega)
    rw[aP,di,Im j _ _ _ _ _ i U I (by omega) rfl rfl rfl J rfl (by omega) B Z]
    by_cases hko:ju (qp b last) (part b i j)=false
    ·rw[ah hko,ah hko]
     rfl
    ·rw[ae hko,ae hko]
     rw[wn _ _ _ _ (by omega) q]
     rw[hA j _ _ B (by simp; omega) (by simp[A])]
     cases hy:rec j with
     | error e=>rfl
     | ok c=>
      obtain⟨l,N⟩:=c
      obtain⟨aS,O,bx,bT⟩:=hm.1 j l N hy
      simp only
      have R:wI (((2*k:Nat):Int)+1+1)=((2*k:Nat):Int)+1+1:=aO (by omega) (by omega)
      rw[aP,di,Hn _ _ _ _ _ _ (by omega) rfl rfl rfl R]
      have e1:UInt64.ofNat (n+1) - 1=UInt64.ofNat n:=by
       apply cA.1
       rw[fH _ _ (by rw[db]; simp; omega)]
       simp; omega
      have:=ih (k+1) n l out (ks++is++N) op (some (i,j)) O (by simp; omega) (by omega) A (by omega) (by omega) (by intro p hp; cases hp; simp; omega)
      simp only[e1]
      have e2:((2*(k+1):Nat):Int)=((2*k:Nat):Int)+1+1:=by simp; omega
      rw[e2]at this
      rw[this]
      have hv:qp b (some (i,j))=some (part b i j):=rfl
      rw[hv]
      cases hz:gk rec b f n (some (part b i j)) l with
      | error e=>rfl
      | ok y=>
       obtain⟨z,ls⟩:=y
       simp only
       rw[show 2*(k+1+n)=2*(k+(n+1)) by omega]
       simp only[aP]
theorem Bl (O:b.length<=65536) (d:Nat) (hd:d<=32) (sub:Option Rd) (ab:∀rec,sub=some rec->mx b rec) (V:sub=none↔d=0)
  (hA:∀rec,sub=some rec->Act b (32 - d+1) rec):Act b (32 - d) (ld b sub):=by
 intro i out op h1 h2 h3
 rw[HF]
 obtain⟨jj,hh⟩:=BF b i out op O h1
 unfold ld
 simp only[F.RF,F.Xq,hh,aa]
 cases hx:lT b i with
 | error e=>
  simp only[oN,aa]
  rfl
 | ok a=>
  obtain⟨m,n,j⟩:=a
  obtain⟨h4,h5,h6⟩:=tH hx
  simp only[oz]
  -- what a A comes to
  have A:∀(k:Int) (R:UInt64) (s:Y3),run b (af (F.Ur b ((m:Int),n,(none:Option (Int×Int)),(j:Int),out,op) (k,R,s)) fun B=>
    gm B.1 (loop (F.QV b) (B.2.1,B.2.2.1,B.2.2.2)) (fun G=>bj (some ([],G.1,G.2))))=run b (Dn b k (out++[((m:Int),R,s,0)]) op):=by
   intro k R s
   simp only[F.Ur]
   rw[yz _ _ (by simp; omega),aa]
   unfold Dn
   cases hq:F.Rr b k (out++[((m:Int),R,s,0)]) op with
   | none=>rfl
   | some x=>
    simp only[aa]
    cases hy:x.1 with
    | none=>simp only[oz,aa]
    | some f=>simp only[oN,aa]
  by_cases hcon:m=4\/m=5\/m=6
  ·rw[ah hcon]
   have n0:((m:Int) == 0)=false:=by simp; omega
   have n1:((m:Int) == 1)=false:=by simp; omega
   have n2:((m:Int) == 2)=false:=by simp; omega
   have n3:((m:Int) == 3)=false:=by simp; omega
   have n7:((m:Int) == 7)=false:=by simp; omega
   simp only[n0,n1,n2,n3,n7,ai,ak,F.Rw,F.R3]
   cases hs:sub with
   | none=>
    have ct:d=0:=V.1 hs
    have:(((op.length:Nat):Int) == 32)=true:=by simp; omega
    simp only[this,am,aa,oN]
    rfl
   | some rec=>
    have c1:d≠0:=fun h=>by rw[V.2 h]at hs; cases hs
    have I:=ab rec hs
    have J:=hA rec hs
    have:(((op.length:Nat):Int) == 32)=false:=by simp; omega
    simp only[this,ai,ak]
    have X:apO 64 op [(((out.length:Nat):Int),(m:Int),n,false,(j:Int),(none:Option (Nat×Nat)))]=some (op++[(((out.length:Nat):Int),(m:Int),n,false,(j:Int),none)]):=ir (by simp; omega)
    have ap:apO 64 op [(((out.length:Nat):Int),(m:Int),(1:UInt64),false,(j:Int),(none:Option (Nat×Nat)))]=some (op++[(((out.length:Nat):Int),(m:Int),(1:UInt64),false,(j:Int),none)]):=ir (by simp; omega)
    have hn:=n.toNat_lt
    have Y:UInt64.ofNat n.toNat=n:=by simp
    unfold AT
    by_cases hm4:m=4
    ·subst hm4
     have N:(((4:Nat):Int) == 6)=false:=by decide
     simp only[N,ai,ak,F.T9,am]
     rw[yz _ _ (by simp; omega),aa,X,aa,aa]
     simp only[oz]
     have:=wZ O I J (by omega) ((4:Nat):Int) (by decide) (((4:Nat):Int),0,[],0) false (j:Int) none (b.length+1) 0 n.toNat j out [] op h5 (by simp; omega) (by omega) h3 hn (by omega) (by omega)
     rw[Y]at this
     have this:run b (loop (F.QV b) ((j:Int),out++[(((4:Nat):Int),0,[],0)],op++[((out.length:Int),((4:Nat):Int),n,false,(j:Int),none)]))=_:=this
     rw[this]
     cases hl:gE rec (b.length+1) n.toNat j with
     | error e=>rfl
     | ok y=>
      obtain⟨k,is⟩:=y
      simp only[bh,bJ]
      rfl
    ·by_cases hm5:m=5
     ·subst hm5
      have N:(((5:Nat):Int) == 6)=false:=by decide
      simp only[N,ai,ak,F.T9,am,hm4]
      rw[yz _ _ (by simp; omega),aa,X,aa,aa]
      simp only[oz]
      have:=D7 O I J (by omega) (((5:Nat):Int),0,[],0) (b.length+1) 0 n.toNat j out [] op none h5 (by simp; omega) (by omega) h3 hn (by omega) (by simp)
      rw[Y]at this
      have this:run b (loop (F.QV b) ((j:Int),out++[(((5:Nat):Int),0,[],0)],op++[((out.length:Int),((5:Nat):Int),n,false,(j:Int),none)]))=_:=this
      rw[this]
      have hv:qp b none=none:=rfl
      rw[hv]
      cases hl:gk rec b (b.length+1) n.toNat none j with
      | error e=>rfl
      | ok y=>
       obtain⟨k,is⟩:=y
       simp only[bh,bJ]
       rw[show ((2*n.toNat:Nat):Int)=2*(n.toNat:Int) by simp]
       rfl
     ·have b2:m=6:=by omega
      subst b2
      have N:(((6:Nat):Int) == 6)=true:=by decide
      simp only[N,am,F.T9,hm4,hm5,ak]
      rw[yz _ _ (by simp; omega),aa,ap,aa,aa]
      simp only[oz]
      have:=wZ O I J (by omega) ((6:Nat):Int) (by decide) (((6:Nat):Int),n,[],0) false (j:Int) none (b.length+1) 0 1 j out [] op h5 (by simp; omega) (by omega) h3 (by omega) (by omega) (by omega)
      have this:run b (loop (F.QV b) ((j:Int),out++[(((6:Nat):Int),n,[],0)],op++[((out.length:Int),((6:Nat):Int),(1:UInt64),false,(j:Int),none)]))=_:=this
      rw[this,gE]
      cases hl:rec j with
      | error e=>rfl
      | ok y=>
       obtain⟨k,is⟩:=y
       simp only
       cases hbl:b.length with
       | zero=>simp only[gE,bR,bJ]; rfl
       | succ q=>simp only[gE,bR,bJ]; rfl
  ·rw[ae hcon]
   by_cases hstr:m=2\/m=3
   ·rw[ah hstr]
    have n0:((m:Int) == 0)=false:=by simp; omega
    have n1:((m:Int) == 1)=false:=by simp; omega
    have n7:((m:Int) == 7)=false:=by simp; omega
    have b3:(if ((m:Int) == 2)=true then F.R3 b (i:Int) ((m:Int),n,none,(j:Int),out,op) ((m:Int) == 2) else F.R3 b (i:Int) ((m:Int),n,none,(j:Int),out,op) ((m:Int) == 3)) =
      F.R3 b (i:Int) ((m:Int),n,none,(j:Int),out,op) true:=by
     rcases hstr with h | h <;> subst h <;> rfl
    simp only[n0,n1,n7,ai,ak,F.Rw,b3]
    simp only[F.R3,am]
    have e1:wI ((b.length:Int) - (j:Int))=((b.length - j:Nat):Int):=by rw[aO (by omega) (by omega)]; omega
    have e2:(UInt64.ofNat (b.length - j)).toNat=b.length - j:=by simp; omega
    rw[e1,gd]
    by_cases hlen:b.length - j<n.toNat
    ·have d1:decide (UInt64.ofNat (b.length - j)<n)=true:=by simp only[ar,bq,e2]; exact hlen
     simp only[d1,am,hlen,aa,oN]
     rfl
    ·have d1:decide (UInt64.ofNat (b.length - j)<n)=false:=by simp only[decide_eq_false_iff_not,bq,e2]; omega
     have e3:wI (n.toNat:Int)=(n.toNat:Int):=aO (by omega) (by omega)
     have e4:wI ((j:Int)+(n.toNat:Int))=((j+n.toNat:Nat):Int):=by rw[aO (by omega) (by omega)]; simp
     simp only[d1,ai,ak,hlen,e3,e4]
     rw[kU (by omega) (by omega),aa]
     have b7:(b.drop j).take (j+n.toNat - j)=part b j (j+n.toNat):=rfl
     rw[b7]
     have hpl:(part b j (j+n.toNat)).length<=b.length:=by simp[part]; omega
     have Z:F.Ui (i:Int) ((m:Int),n,none,(j:Int),out,op) (part b j (j+n.toNat)) b false=F.Ur b ((m:Int),n,none,(j:Int),out,op) (((j+n.toNat:Nat):Int),0,part b j (j+n.toNat)):=by
      simp only[F.Ui,ai,ak,e3,e4]
     by_cases hm3:m=3
     ·subst hm3
      have e5:(((3:Nat):Int) == 3)=true:=by decide
      have hv:F.QZ (part b j (j+n.toNat))=some (Lib.validD (part b j (j+n.toNat))):=ah (by omega)
      simp only[e5,am,hv,aa,iU]
      cases Lib.validD (part b j (j+n.toNat)) with
      | false=>
       simp only[iJ,F.Ui,am,aa,oN]
       rfl
      | true=>
       simp only[dB,Z,Bool.true_eq_false,ak]
       exact A _ _ _
     ·have e5:((m:Int) == 3)=false:=by simp; omega
      simp only[e5,ai,ak,Z,A,hm3,false_and]
   ·rw[ae hstr]
    have U:m=0\/m=1\/m=7:=by omega
    have b8:(if ((m:Int) == 0)=true then F.Rw ((m:Int),n,none,(j:Int),out,op) b (i:Int) ((m:Int) == 0) else if ((m:Int) == 1)=true then F.Rw ((m:Int),n,none,(j:Int),out,op) b (i:Int) ((m:Int) == 1) else F.Rw ((m:Int),n,none,(j:Int),out,op) b (i:Int) ((m:Int) == 7)) =
      F.Rw ((m:Int),n,none,(j:Int),out,op) b (i:Int) true:=by
     rcases U with h | h | h <;> subst h <;> rfl
    rw[b8]
    simp only[F.Rw,am,A]
theorem wK (j:b.length<=65536):∀d,d<=32->Act b (32 - d) (li d b)
 | 0,hd=>Bl j 0 hd none (by simp) (by simp) (by simp)
 | d+1,hd=>by
  refine Bl j (d+1) hd (some (li d b)) (by intro rec h; cases h; exact km b d) (by simp) ?_
  intro rec h
  cases h
  have:=wK j d (by omega)
  rw[show 32 - (d+1)+1=32 - d by omega]
  exact this
theorem kB (b:Y3):F.RL b=some (jP b):=by
 unfold F.RL jP
 by_cases hb:65536<b.length
 ·have:decide ((65536:Int)<(b.length:Int))=true:=by simp; omega
  simp only[this,am,hb]
 ·have q:decide ((65536:Int)<(b.length:Int))=false:=by simp; omega
  simp only[q,ai,ak,hb]
  have:=wK (b:=b) (by omega) 32 (by omega) 0 [] [] (by omega) (by simp) (by simp)
  have this:loop (F.RF b) (0,[],[])=_:=this
  rw[this]
  cases hx:li 32 b 0 with
  | error e=>rfl
  | ok y=>
   obtain⟨j,is⟩:=y
   simp only[bJ]
   rw[Jb,MX]
end
theorem pX {σ ρ:Type} {f:σ->Option (σ⊕ρ)} (I:σ->Prop) (μ:σ->Nat) (T:ρ->Prop) (q:∀s,I s->(∃j,f s=some (.inl j)/\I j/\μ j<μ s)\/(∃r,f s=some (.inr r)/\T r)) (s:σ) (hs:I s):∃r,loop f s=some r/\T r:=by
 obtain⟨r,y,A⟩:=zV I μ (fun _ r=>T r) (fun s h=>by
  rcases q s h with⟨j,a,b,c⟩ | ⟨r,a,b⟩
  ·exact .inl ⟨j,a,b,c,fun r h=>h⟩
  ·exact .inr ⟨r,a,b⟩) s hs
 exact⟨r,y,A⟩
section
variable {s:Y3}
theorem Hr (i:Nat):∃b,F.Yh s i=some b/\(b=true->i<s.length):=by
 unfold F.Yh
 by_cases h:i<s.length
 ·have d:decide ((i:Int)<(s.length:Int))=true:=by simp; omega
  simp only[d,am,cd h,aa]
  split
  ·exact⟨_,rfl,fun _=>h⟩
  ·exact⟨_,rfl,fun _=>h⟩
 ·have d:decide ((i:Int)<(s.length:Int))=false:=by simp; omega
  simp only[d,ai,ak]
  exact⟨false,rfl,by simp⟩
theorem vM (hs:s.length<=2000000) (i:Nat) (hi:i<=s.length):∃j:Nat,F.WE s i=some (j:Int)/\i<=j/\j<=s.length:=by
 obtain⟨r,q,j,y,G,I⟩:=pX (f:=F.Xv s) (fun x:Int=>∃j:Nat,x=(j:Int)/\i<=j/\j<=s.length) (fun x=>s.length - x.toNat) (fun r:Int=>∃j:Nat,r=(j:Int)/\i<=j/\j<=s.length) (by
  rintro x ⟨j,rfl,q,y⟩
  obtain⟨b,A,B⟩:=Hr (s:=s) j
  cases b
  ·right
   exact⟨(j:Int),by simp only[F.Xv,A,aa,ai,ak]; rfl,j,rfl,q,y⟩
  ·left
   have:=B rfl
   refine⟨((j+1:Nat):Int),?_,⟨j+1,rfl,by omega,by omega⟩,by simp; omega⟩
   simp only[F.Xv,A,aa,am]
   rw[aO (by omega) (by omega)]
   rfl) (i:Int) ⟨i,rfl,by omega,hi⟩
 subst y
 exact⟨j,q,G,I⟩
abbrev IH:=Bool×List Int×Int×Bool×List Int×Bool×Y3×Bool
def kO (s:Y3) (x:Option IH):Prop:=∃r:IH,x=some r/\r.2.2.2.2.2.2.1.length<=s.length
theorem kO.mk {r:IH} (h:r.2.2.2.2.2.2.1.length<=s.length):kO s (some r):=⟨r,rfl,h⟩
theorem K0 (a:Bool) (t:Y3) (c:Bool) (d:List Int) (e:Bool) (g:Int) (q:t.length<=s.length) (ds:List Int) (y:ds.length<=100000000):kO s (loop (F.WR a t c d e g) ds):=by
 obtain⟨r,B,G⟩:=pX (f:=F.WR a t c d e g) (fun l=>l.length<=100000000) (fun l=>l.length) (fun r=>r.2.2.2.2.2.2.1.length<=s.length) (by
  intro l hl
  unfold F.WR
  by_cases h0:0<l.length
  ·have j:decide ((0:Int)<(l.length:Int))=true:=by simp; omega
   have A:wI ((l.length:Int) - 1)=((l.length - 1:Nat):Int):=by rw[aO (by omega) (by omega)]; omega
   simp only[j,am,A]
   rw[cd (show l.length - 1<l.length by omega),aa]
   by_cases hz:(l[l.length - 1] == 0)=true
   ·left
    refine⟨l.take (l.length - 1),?_,by simp; omega,by simp; omega⟩
    simp only[hz,F.Vo,am,A]
    rw[grd_true _ (by simp)]
    simp[bV]
   ·right
    refine⟨(a,l,g,c,d,e,t,true),?_,q⟩
    simp only[hz,F.Vo,ai,ak]
    rfl
  ·have j:decide ((0:Int)<(l.length:Int))=false:=az (by omega)
   right
   refine⟨(a,l,g,c,d,e,t,true),?_,q⟩
   simp only[j,F.Vo,ai,ak]
   rfl) ds y
 exact⟨r,B,G⟩
theorem J0 (all:Y3) (U:all.length<=4000000) (a:Bool) (t:Y3) (c:Bool) (d:List Int) (e:Bool) (V:t.length<=s.length) (g:Int):kO s (loop (F.WZ all a t c d e) (0,[],g)):=by
 obtain⟨r,G,N⟩:=pX (f:=F.WZ all a t c d e) (fun x=>∃j:Nat,x.1=(j:Int)/\j<=all.length/\x.2.1.length<=j) (fun x=>all.length - x.1.toNat) (fun r=>r.2.2.2.2.2.2.1.length<=s.length) (by
  rintro⟨x,ds,y⟩ ⟨j,G,N,X⟩
  simp only at G X
  subst G
  unfold F.WZ
  by_cases hj:j<all.length
  ·left
   have I:decide ((j:Int)<(all.length:Int))=true:=by simp; omega
   have O:wI ((j:Int)+1)=((j+1:Nat):Int):=by rw[aO (by omega) (by omega)]; rfl
   simp only[I,am,cd hj,aa,aM]
   have R:∀t,∃q J,F.Ve ds y (((all[j] - 48).toNat:Int)) j t=some (.inl (((j+1:Nat):Int),q,J))/\q.length<=j+1:=by
    intro t
    cases t
    ·refine⟨ds,wI (y - 1),?_,by omega⟩
     simp only[F.Ve,ai,ak,F.Xr,O]
     rfl
    ·refine⟨ds++[((all[j] - 48).toNat:Int)],y,?_,by simp; omega⟩
     simp only[F.Ve,am]
     rw[ir (by simp; omega),aa]
     simp only[F.Xr,O]
     rfl
   split
   ·obtain⟨q,J,A,B⟩:=R true
    exact⟨_,A,⟨j+1,rfl,by omega,B⟩,by simp; omega⟩
   ·obtain⟨q,J,A,B⟩:=R (decide ((0:Int)<(ds.length:Int)))
    exact⟨_,A,⟨j+1,rfl,by omega,B⟩,by simp; omega⟩
  ·right
   have I:decide ((j:Int)<(all.length:Int))=false:=by simp; omega
   obtain⟨r,A,B⟩:=K0 (s:=s) a t c d e y V ds (by omega)
   refine⟨r,?_,B⟩
   simp only[I,ai,ak,A]
   rfl) (0,[],g) ⟨0,rfl,by omega,by simp⟩
 exact⟨r,G,N⟩
theorem C4 (q:Int) (a:Bool) (A:Int) (t all:Y3) (B:t.length<=s.length) (j:all.length<=4000000) (y:Int×Bool×List Int×Bool):kO s (F.Xu s q a A t all y):=by
 obtain⟨y1,y2,y3,G⟩:=y
 simp only[F.Xu]
 split
 ·exact kO.mk B
 ·exact J0 all j a t y2 y3 G B _
theorem Cd (hs:s.length<=2000000) (A:Int) (a:Bool) (B:Int) (t all:Y3) (U:t.length<=s.length) (O:all.length<=4000000) (i:Nat) (hi:i<=s.length) (q:Bool):kO s (F.Xa s A a B t all ((i:Int),q)):=by
 obtain⟨j,Z,h2,h3⟩:=vM hs i hi
 simp only[F.Xa,Z,aa]
 split
 ·exact kO.mk U
 ·obtain⟨r,J,V⟩:=pX (f:=F.XJ s q (j:Int) A a B t all) (fun x=>∃k:Nat,x.1=(k:Int)/\k<=j/\x.2.length<=k) (fun x=>j - x.1.toNat) (fun r=>r.2.2.2.2.2.2.1.length<=s.length) (by
   rintro⟨x,ds⟩ ⟨k,J,V,h6⟩
   simp only at J h6
   subst J
   unfold F.XJ
   by_cases hk:k<j
   ·left
    have R:decide ((k:Int)<(j:Int))=true:=by simp; omega
    have X:wI ((k:Int)+1)=((k+1:Nat):Int):=by rw[aO (by omega) (by omega)]; rfl
    have N:k<s.length:=by omega
    simp only[R,am,cd N,aa]
    have Y:∀b,∃y,F.Ww s (k:Int) ds b=some (.inl (((k+1:Nat):Int),y))/\y.length<=k+1:=by
     intro b
     cases b
     ·refine⟨ds,?_,by omega⟩
      simp only[F.Ww,ai,ak,F.WB,X]
      rfl
     ·refine⟨ds++[((s[k] - 48).toNat:Int)],?_,by simp; omega⟩
      simp only[F.Ww,am,cd N,aa]
      rw[ir (by simp; omega),aa]
      simp only[F.WB,X]
      rfl
    split
    ·obtain⟨y,G,I⟩:=Y true
     exact⟨_,G,⟨k+1,rfl,by omega,I⟩,by simp; omega⟩
    ·obtain⟨y,G,I⟩:=Y (decide ((0:Int)<(ds.length:Int)))
     exact⟨_,G,⟨k+1,rfl,by omega,I⟩,by simp; omega⟩
   ·right
    have R:decide ((k:Int)<(j:Int))=false:=by simp; omega
    obtain⟨r,G,I⟩:=C4 (s:=s) A a B t all U O ((j:Int),q,ds,false)
    refine⟨r,?_,I⟩
    simp only[R,ai,ak,G]
    rfl) ((i:Int),[]) ⟨i,rfl,by omega,by simp⟩
  exact⟨r,J,V⟩
theorem vv (hs:s.length<=2000000) (i:Nat) (hi:i<=s.length) (O:Bool) (B:Int) (a:Bool) (G:Int) (t all:Y3) (I:t.length<=s.length) (j:all.length<=4000000) (q:Bool) (R:q=true->i<s.length) :
  kO s (F.Um s (i:Int) O B a G t all q):=by
 cases q
 ·simp only[F.Um,ai,ak]
  exact C4 _ _ _ _ _ I j _
 ·have X:=R rfl
  have J:wI ((i:Int)+1)=((i+1:Nat):Int):=by rw[aO (by omega) (by omega)]; rfl
  have y:∀b,(b=true->i+1<s.length)->kO s (F.UN s (i:Int) B a G t all b):=by
   intro b U
   cases b
   ·simp only[F.UN,ai,ak,J]
    exact Cd hs _ _ _ _ _ I j _ (by omega) _
   ·have A:=U rfl
    have V:wI (((i+1:Nat):Int)+1)=((i+2:Nat):Int):=by rw[aO (by omega) (by omega)]; rfl
    simp only[F.UN,am,J,cd A,aa,V]
    exact Cd hs _ _ _ _ _ I j _ (by omega) _
  simp only[F.Um,am,J]
  by_cases A:i+1<s.length
  ·have N:decide (((i+1:Nat):Int)<(s.length:Int))=true:=by simp; omega
   simp only[N,am,cd A,aa]
   split
   ·exact y _ (fun _=>A)
   ·exact y _ (fun _=>A)
  ·have N:decide (((i+1:Nat):Int)<(s.length:Int))=false:=by simp; omega
   simp only[N,ai,ak]
   exact y _ (by simp)
theorem CH (hs:s.length<=2000000) (B:Int) (a:Bool) (G:Int) (t:Y3) (y:t.length<=s.length) (i:Nat) (hi:i<=s.length) (all:Y3) (j:all.length<=4000000) (q:Bool):kO s (F.Xl s B a G t ((i:Int),all,q)):=by
 simp only[F.Xl]
 by_cases h2:i<s.length
 ·have A:decide (((i:Nat):Int)<(s.length:Int))=true:=by simp; omega
  simp only[A,am,cd h2,aa]
  split
  ·exact vv hs i hi _ _ _ _ _ _ y j _ (fun _=>h2)
  ·exact vv hs i hi _ _ _ _ _ _ y j _ (fun _=>h2)
 ·have A:decide (((i:Nat):Int)<(s.length:Int))=false:=by simp; omega
  simp only[A,ai,ak]
  exact vv hs i hi _ _ _ _ _ _ y j _ (by simp)
theorem Cq (hs:s.length<=2000000) (i:Nat) (hi:i<=s.length) (a:Bool):kO s (F.Xo s ((i:Int),a)):=by
 obtain⟨j,O,R,I⟩:=vM hs i hi
 have A:∀b,kO s (F.UM s (i:Int) a (j:Int) b):=by
  intro b
  cases b
  ·simp only[F.UM,ai,ak]
   rw[kU R I,aa,aa]
   have q:((s.drop i).take (j - i)).length<=s.length:=by simp; omega
   have y:∀b,(b=true->j<s.length)->kO s (F.VA s (i:Int) a (j:Int) ((s.drop i).take (j - i)) ((s.drop i).take (j - i)) b):=by
    intro b U
    cases b
    ·simp only[F.VA,ai,ak]
     exact CH hs _ _ _ _ q j I _ (bz q (by omega)) _
    ·have B:=U rfl
     have V:wI ((j:Int)+1)=((j+1:Nat):Int):=by rw[aO (by omega) (by omega)]; rfl
     obtain⟨k,X,Y,J⟩:=vM hs (j+1) (by omega)
     simp only[F.VA,am,V,X,aa]
     split
     ·exact kO.mk q
     ·rw[kU Y J,aa,KS (by simp; omega),aa]
      exact CH hs _ _ _ _ q k J _ (by simp; omega) _
   by_cases B:j<s.length
   ·have G:decide (((j:Nat):Int)<(s.length:Int))=true:=by simp; omega
    simp only[G,am,cd B,aa]
    exact y _ (fun _=>B)
   ·have G:decide (((j:Nat):Int)<(s.length:Int))=false:=by simp; omega
    simp only[G,ai,ak]
    exact y _ (by simp)
  ·simp only[F.UM,am]
   exact kO.mk (by simp)
 simp only[F.Xo,O,aa]
 by_cases hij:j=i
 ·subst hij
  have:(((j:Nat):Int) == (j:Int))=true:=by simp
  simp only[this,am]
  exact A _
 ·have:(((j:Nat):Int) == (i:Int))=false:=by simp; omega
  have N:i<s.length:=by omega
  simp only[this,ai,ak,cd N,aa]
  split
  ·exact A _
  ·exact A _
theorem xw (hs:s.length<=2000000):kO s (F.WS s):=by
 have j:∀b,(b=true->1<=s.length)->kO s (F.Yg s b):=by
  intro b y
  cases b
  ·exact Cq hs 0 (by omega) false
  ·exact Cq hs 1 (y rfl) true
 unfold F.WS
 by_cases h0:0<s.length
 ·have q:decide ((0:Int)<(s.length:Int))=true:=by simp; omega
  have A:au s (0:Int)=some s[0]:=cd h0
  simp only[q,am,A,aa]
  exact j _ (fun _=>h0)
 ·have q:decide ((0:Int)<(s.length:Int))=false:=az (by omega)
  simp only[q,ai,ak]
  exact j _ (by simp)
theorem Ho (hs:s.length<=2000000):∃b,F.Ye s=some b:=by
 obtain⟨r,h,_⟩:=xw hs
 exact⟨_,by unfold F.Ye; rw[h]; rfl⟩
theorem Ic (hs:s.length<=2000000):∃b,F.Yc s=some b:=by
 obtain⟨r,h,hl⟩:=xw hs
 unfold F.Yc
 rw[h,aa]
 have G:∀b,∃x,F.WH r b=some x:=by
  intro b
  cases b
  ·simp only[F.WH,ai,ak]
   obtain⟨q,A,_⟩:=pX (f:=F.XH r) (fun x=>∃j:Nat,x.2=(j:Int)/\j<=r.2.2.2.2.2.2.1.length) (fun x=>r.2.2.2.2.2.2.1.length - x.2.toNat) (fun _=>True) (by
    rintro⟨x,y⟩ ⟨j,A,J⟩
    simp only at A
    subst A
    unfold F.XH
    by_cases hj:j<r.2.2.2.2.2.2.1.length
    ·have B:decide ((j:Int)<(r.2.2.2.2.2.2.1.length:Int))=true:=by simp; omega
     have I:wI ((j:Int)+1)=((j+1:Nat):Int):=by rw[aO (by omega) (by omega)]; rfl
     simp only[B,am,cd hj,aa,aM,I]
     split
     ·right; exact⟨_,rfl,trivial⟩
     ·left; exact⟨_,rfl,⟨j+1,rfl,by omega⟩,by simp; omega⟩
    ·have B:decide ((j:Int)<(r.2.2.2.2.2.2.1.length:Int))=false:=by simp; omega
     simp only[B,ai,ak]
     right
     split
     ·exact⟨_,rfl,trivial⟩
     ·split
      ·exact⟨_,rfl,trivial⟩
      ·exact⟨_,rfl,trivial⟩) (0,0) ⟨0,rfl,by omega⟩
   exact⟨q,A⟩
  ·exact⟨_,rfl⟩
 split
 ·exact G _
 ·exact G _
theorem QA:∀c:Fin 256,128<=c.val->(F.X6 (c.val:Int)=some (-1,0,0)/\¬(Lib.firstT c.val%8=2\/Lib.firstT c.val%8=3\/Lib.firstT c.val%8=4)) \/
  (∃n∈[1,2,3],F.X6 (c.val:Int)=some (((n:Nat):Int),((Lib.accLo (Lib.firstT c.val / 16):Nat):Int),((Lib.accHi (Lib.firstT c.val / 16):Nat):Int))/\Lib.firstT c.val%8=n+1):=by
 decide +kernel
def okB (l:Y3) (j lo hi:Nat):Prop:=j<l.length/\lo<=(l.getD j 0).toNat/\(l.getD j 0).toNat<=hi
instance (l:Y3) (j lo hi:Nat):Decidable (okB l j lo hi):=by unfold okB; infer_instance
abbrev HX:=Int×List (Int×Y3×Y3×Bool×Int×Int)×Y3×Int×Int
theorem qL (hs:s.length<=2000000) (i:Nat) (q:Int×Int×Int) (n j lo hi:Nat) (hx:q.1=(n:Int)) (X:j<=n) (U:j<=10) (V:i<=s.length) :
  (okB (s.drop i) j lo hi->F.Uj s i q ((lo:Int),(hi:Int),(j:Int))=some (.inl (((128:Nat):Int),((191:Nat):Int),((j+1:Nat):Int)))) /\
  (¬okB (s.drop i) j lo hi->∃r:HX,F.Uj s i q ((lo:Int),(hi:Int),(j:Int))=some (.inr r)/\r.2.2.2.1≠0):=by
 have I:decide ((j:Int)<=q.1)=true:=by rw[hx]; simp; omega
 have J:wI ((i:Int)+(j:Int))=((i+j:Nat):Int):=by rw[aO (by omega) (by omega)]; rfl
 have N:wI ((j:Int)+1)=((j+1:Nat):Int):=by rw[aO (by omega) (by omega)]; rfl
 unfold F.Uj
 simp only[I,am,J]
 by_cases hl:i+j<s.length
 ·have y:decide ((s.length:Int)<=((i+j:Nat):Int))=false:=by simp; omega
  have O:(s.drop i).getD j 0=s[i+j]:=by simp[List.getD,hl]
  have hA:F.Vq s ((i+j:Nat):Int)=some ((s[i+j].toNat:Nat):Int):=by
   unfold F.Vq
   simp only[y,ai,ak,cd hl,aa]
  have G:okB (s.drop i) j lo hi↔lo<=s[i+j].toNat/\s[i+j].toNat<=hi:=by
   unfold okB
   rw[O]
   simp; omega
  rw[G,hA,aa]
  have R:decide (((s[i+j].toNat:Nat):Int)<0)=false:=by simp
  simp only[R,ai,ak]
  by_cases hlo:s[i+j].toNat<lo
  ·have A:decide (((s[i+j].toNat:Nat):Int)<(lo:Int))=true:=by simp; omega
   refine⟨fun h=>by omega,fun _=>⟨(0,[],[],32,(i:Int)),?_,(by decide:(32:Int)≠0)⟩⟩
   simp only[A,am,F.VP]
   rfl
  ·have A:decide (((s[i+j].toNat:Nat):Int)<(lo:Int))=false:=by simp; omega
   simp only[A,ai,ak]
   by_cases hhi:hi<s[i+j].toNat
   ·have B:decide ((hi:Int)<((s[i+j].toNat:Nat):Int))=true:=by simp; omega
    refine⟨fun h=>by omega,fun _=>⟨(0,[],[],32,(i:Int)),?_,(by decide:(32:Int)≠0)⟩⟩
    simp only[B,F.VP,am]
    rfl
   ·have B:decide ((hi:Int)<((s[i+j].toNat:Nat):Int))=false:=by simp; omega
    refine⟨fun _=>?_,fun h=>absurd ⟨by omega,by omega⟩ h⟩
    simp only[B,F.VP,ai,ak,N]
    rfl
 ·have y:decide ((s.length:Int)<=((i+j:Nat):Int))=true:=by simp; omega
  have hA:F.Vq s ((i+j:Nat):Int)=some (-1):=by
   unfold F.Vq
   simp only[y,am]
  refine⟨fun h=>?_,fun _=>⟨(0,[],[],31,(s.length:Int)),?_,(by decide:(31:Int)≠0)⟩⟩
  ·have:=h.1
   simp at this; omega
  ·rw[hA,aa]
   rfl
theorem vX (hs:s.length<=2000000) (i:Nat) (j:Int×Int×Int) (n:Nat) (lo hi:Int) (hx:j.1=(n:Int)) (hl:i+n<s.length) :
  ∃r:HX,F.Uj s i j (lo,hi,((n+1:Nat):Int))=some (.inr r)/\r.2.2.2.1=0/\r.1=((i+n+1:Nat):Int):=by
 have q:decide (((n+1:Nat):Int)<=(n:Int))=false:=by simp; omega
 have y:wI ((i:Int)+(n:Int))=((i+n:Nat):Int):=by rw[aO (by omega) (by omega)]; rfl
 have A:wI (((i+n:Nat):Int)+1)=((i+n+1:Nat):Int):=by rw[aO (by omega) (by omega)]; rfl
 refine⟨(((i+n+1:Nat):Int),[],(s.drop i).take (i+n+1 - i),0,0),?_,rfl,rfl⟩
 unfold F.Uj
 simp only[hx,q,ai,ak,y,A]
 rw[kU (by omega) (by omega),aa]
 rfl
theorem Mx (hs:s.length<=2000000) (i:Nat) (hi:i<s.length) (hc:128<=s[i].toNat):∃r:HX,F.XC s i=some r /\
  (match Lib.checkN (s.drop i).length ((s.drop i).getD 1 0).toNat ((s.drop i).getD 2 0).toNat ((s.drop i).getD 3 0).toNat (Lib.firstT s[i].toNat%8) (Lib.accLo (Lib.firstT s[i].toNat / 16)) (Lib.accHi (Lib.firstT s[i].toNat / 16)) with
   | none=>r.2.2.2.1≠0
   | some k=>r.2.2.2.1=0/\r.1=((i+k:Nat):Int)/\2<=k/\i+k<=s.length):=by
 have O:=QA ⟨s[i].toNat,s[i].toNat_lt⟩ hc
 simp only at O
 have X:(s.drop i).length=s.length - i:=by simp
 unfold F.XC
 rw[cd hi,aa]
 rcases O with⟨J,R⟩ | ⟨n,hn,J,R⟩
 ·rw[J,aa]
  refine⟨(0,[],[],32,(i:Int)),rfl,?_⟩
  have:Lib.checkN (s.drop i).length ((s.drop i).getD 1 0).toNat ((s.drop i).getD 2 0).toNat ((s.drop i).getD 3 0).toNat (Lib.firstT s[i].toNat%8) (Lib.accLo (Lib.firstT s[i].toNat / 16)) (Lib.accHi (Lib.firstT s[i].toNat / 16))=none:=by
   unfold Lib.checkN
   rw[ae (by omega),ae (by omega),ae (by omega)]
  rw[this]
  exact (by decide:(32:Int)≠0)
 ·rw[J,aa,R]
  generalize Lib.accLo (Lib.firstT s[i].toNat / 16)=lo
  generalize Lib.accHi (Lib.firstT s[i].toNat / 16)=j
  have Y:decide (((n:Nat):Int)<0)=false:=by simp
  simp only[Y,ai,ak]
  have I:n=1\/n=2\/n=3:=by simpa using hn
  -- step by step
  obtain⟨a1,a2⟩:=qL hs i ((n:Int),(lo:Int),(j:Int)) n 1 lo j rfl (by omega) (by omega) (by omega)
  have U:((lo:Int),(j:Int),(1:Int))=((lo:Int),(j:Int),((1:Nat):Int)):=rfl
  rw[U]
  by_cases o1:okB (s.drop i) 1 lo j
  ·rw[bB (a1 o1)]
   have V:=o1
   unfold okB at V
   rcases I with rfl | rfl | rfl
   ·obtain⟨r,q,y,B⟩:=vX hs i (((1:Nat):Int),(lo:Int),(j:Int)) 1 ((128:Nat):Int) ((191:Nat):Int) rfl (by omega)
    refine⟨r,bP q,?_⟩
    have:Lib.checkN (s.drop i).length ((s.drop i).getD 1 0).toNat ((s.drop i).getD 2 0).toNat ((s.drop i).getD 3 0).toNat (1+1) lo j=some 2:=by
     unfold Lib.checkN
     rw[ah rfl,ae (by omega)]
    rw[this]
    exact⟨y,by rw[B],by omega,by omega⟩
   ·obtain⟨b1,N⟩:=qL hs i (((2:Nat):Int),(lo:Int),(j:Int)) 2 2 128 191 rfl (by omega) (by omega) (by omega)
    by_cases o2:okB (s.drop i) 2 128 191
    ·rw[bB (b1 o2)]
     have A:=o2
     unfold okB at A
     obtain⟨r,q,y,B⟩:=vX hs i (((2:Nat):Int),(lo:Int),(j:Int)) 2 ((128:Nat):Int) ((191:Nat):Int) rfl (by omega)
     refine⟨r,bP q,?_⟩
     have:Lib.checkN (s.drop i).length ((s.drop i).getD 1 0).toNat ((s.drop i).getD 2 0).toNat ((s.drop i).getD 3 0).toNat (2+1) lo j=some 3:=by
      unfold Lib.checkN
      rw[ae (by omega),ah rfl,ae (by omega)]
     rw[this]
     exact⟨y,by rw[B],by omega,by omega⟩
    ·obtain⟨r,q,y⟩:=N o2
     refine⟨r,bP q,?_⟩
     have A:=o2
     unfold okB at A
     have:Lib.checkN (s.drop i).length ((s.drop i).getD 1 0).toNat ((s.drop i).getD 2 0).toNat ((s.drop i).getD 3 0).toNat (2+1) lo j=none:=by
      unfold Lib.checkN
      rw[ae (by omega),ah rfl,ah (by omega)]
     rw[this]
     exact y
   ·obtain⟨b1,N⟩:=qL hs i (((3:Nat):Int),(lo:Int),(j:Int)) 3 2 128 191 rfl (by omega) (by omega) (by omega)
    by_cases o2:okB (s.drop i) 2 128 191
    ·rw[bB (b1 o2)]
     have A:=o2
     unfold okB at A
     obtain⟨Z,c2⟩:=qL hs i (((3:Nat):Int),(lo:Int),(j:Int)) 3 3 128 191 rfl (by omega) (by omega) (by omega)
     by_cases o3:okB (s.drop i) 3 128 191
     ·rw[bB (Z o3)]
      have G:=o3
      unfold okB at G
      obtain⟨r,q,y,B⟩:=vX hs i (((3:Nat):Int),(lo:Int),(j:Int)) 3 ((128:Nat):Int) ((191:Nat):Int) rfl (by omega)
      refine⟨r,bP q,?_⟩
      have:Lib.checkN (s.drop i).length ((s.drop i).getD 1 0).toNat ((s.drop i).getD 2 0).toNat ((s.drop i).getD 3 0).toNat (3+1) lo j=some 4:=by
       unfold Lib.checkN
       rw[ae (by omega),ae (by omega),ah rfl,ae (by omega)]
      rw[this]
      exact⟨y,by rw[B],by omega,by omega⟩
     ·obtain⟨r,q,y⟩:=c2 o3
      refine⟨r,bP q,?_⟩
      have G:=o3
      unfold okB at G
      have:Lib.checkN (s.drop i).length ((s.drop i).getD 1 0).toNat ((s.drop i).getD 2 0).toNat ((s.drop i).getD 3 0).toNat (3+1) lo j=none:=by
       unfold Lib.checkN
       rw[ae (by omega),ae (by omega),ah rfl,ah (by omega)]
      rw[this]
      exact y
    ·obtain⟨r,q,y⟩:=N o2
     refine⟨r,bP q,?_⟩
     have A:=o2
     unfold okB at A
     have:Lib.checkN (s.drop i).length ((s.drop i).getD 1 0).toNat ((s.drop i).getD 2 0).toNat ((s.drop i).getD 3 0).toNat (3+1) lo j=none:=by
      unfold Lib.checkN
      rw[ae (by omega),ae (by omega),ah rfl,ah (by omega)]
     rw[this]
     exact y
  ·obtain⟨r,q,y⟩:=a2 o1
   refine⟨r,bP q,?_⟩
   unfold okB at o1
   have:Lib.checkN (s.drop i).length ((s.drop i).getD 1 0).toNat ((s.drop i).getD 2 0).toNat ((s.drop i).getD 3 0).toNat (n+1) lo j=none:=by
    unfold Lib.checkN
    rcases I with rfl | rfl | rfl
    ·rw[ah rfl,ah (by omega)]
    ·rw[ae (by omega),ah rfl,ah (by omega)]
    ·rw[ae (by omega),ae (by omega),ah rfl,ah (by omega)]
   rw[this]
   exact y
theorem FS (hs:s.length<=2000000):F.WY s=some (Lib.validD s):=by
 have J:∀k i,s.length - i=k->i<=s.length->loop (F.R9 s) (i:Int)=some (Lib.validD (s.drop i)):=by
  intro k
  induction k using Nat.strongRecOn with
  | _ k ih=>
   intro i Z hi
   by_cases hl:i<s.length
   ·have j:decide ((i:Int)<(s.length:Int))=true:=by simp; omega
    have hd:s.drop i=s[i] :: s.drop (i+1):=bk hl
    by_cases hc:s[i].toNat<128
    ·have y:decide (s[i]<128)=true:=by simp only[ar,iM]; exact hc
     have:F.R9 s (i:Int)=some (.inl ((i+1:Nat):Int)):=by
      simp only[F.R9,j,am,cd hl,aa,y]
      rw[aO (by omega) (by omega)]
      rfl
     rw[bB this,ih (s.length - (i+1)) (by omega) (i+1) rfl (by omega),hd,Lib.validD_cons _ _ hc]
    ·have y:decide (s[i]<128)=false:=by simp only[decide_eq_false_iff_not,iM]; exact hc
     obtain⟨r,N,B⟩:=Mx hs i hl (by omega)
     have O:s.drop i≠[]:=by rw[hd]; exact List.cons_ne_nil _ _
     have A:(s.drop i).getD 0 0=s[i]:=by rw[hd]; rfl
     have R:=Lib.validD_lead (s.drop i) O (by rw[A]; omega)
     rw[A]at R
     rw[R]
     split at B
     ·rename_i q
      rw[q]
      refine bP ?_
      have G:(r.2.2.2.1 != 0)=true:=by simpa using B
      simp only[F.R9,j,am,cd hl,aa,y,ai,ak,N,G]
      rfl
     ·rename_i I q
      rw[q]
      obtain⟨V,X,h5,Y⟩:=B
      have G:(r.2.2.2.1 != 0)=false:=by simp[V]
      have:F.R9 s (i:Int)=some (.inl ((i+I:Nat):Int)):=by
       simp only[F.R9,j,am,cd hl,aa,y,ai,ak,N,G,X]
       rfl
      rw[bB this,ih (s.length - (i+I)) (by omega) (i+I) rfl Y]
      simp only[f6]
   ·have U:i=s.length:=by omega
    have j:decide ((i:Int)<(s.length:Int))=false:=by simp; omega
    refine bP ?_
    simp only[F.R9,j,ai,ak]
    rw[U,ew]
    rfl
 have:=J s.length 0 (by omega) (by omega)
 exact this
theorem Li (hs:s.length<=2000000):F.WV s=some (Lib.validD s):=by
 obtain⟨I,j⟩:=Ic (s:=s) hs
 obtain⟨w2,q⟩:=Ho (s:=s) hs
 have hp:F.XD 5 [] s false 0 0=some (Lib.validD s):=by
  simp only[F.XD,F.Ty,F.XA,j,q,FS hs,aa]
  rfl
 have y:F.WY []=some true:=by
  have:=FS (s:=[]) (by simp)
  rw[this]; rfl
 unfold F.WV F.Yv F.Yp
 have A:F.UG 64 [(5,[],s,false,0,0)] 0 false 0=some (if Lib.validD s=true then 1 else -1):=by
  rw[F.UG]
  unfold F.Ym
  have B:decide (((([(5,[],s,false,0,0)]:List (Int×Y3×Y3×Bool×Int×Int)).length:Nat):Int)<=0)=false:=by simp
  have G:au ([(5,[],s,false,0,0)]:List (Int×Y3×Y3×Bool×Int×Int)) (0:Int)=some (5,[],s,false,0,0):=o9 _ _
  simp only[B,ai,ak,G,aa,hp,y]
  cases Lib.validD s
  ·rfl
  ·have hL:loop (F.Yt [(5,[],s,false,0,0)] 0 (F.UG 63) (5,[],s,false,0,0)) (wI (0+1),[],0)=some 1:=by
    refine bP ?_
    rfl
   show F.RU 0 [(5,[],s,false,0,0)] 0 (F.UG 63) (5,[],s,false,0,0) false=_
   unfold F.RU
   rw[ae (by simp),hL]
   rfl
 rw[A]
 cases Lib.validD s <;> rfl
end
theorem Gm {τ:Type} [BEq τ] [LawfulBEq τ] {f:Int->Option (Int⊕Bool)} {a b:List τ} (hl:a.length=b.length)
  (j:∀(i:Nat) (h:i<a.length),f (i:Int)=if (a[i] != b[i])=true then some (.inr false) else some (.inl ((i+1:Nat):Int))) (q:f (a.length:Int)=some (.inr true)):loop f 0=some (a == b):=by
 have y:∀k i,a.length - i=k->i<=a.length->loop f (i:Int)=some (a.drop i == b.drop i):=by
  intro k
  induction k with
  | zero=>
   intro i B G
   have hi:i=a.length:=by omega
   subst hi
   rw[bP q]
   simp[gj,hl]
  | succ k ih=>
   intro i B G
   have A:i<a.length:=by omega
   have I:i<b.length:=by omega
   have hs:=j i A
   rw[bk A,bk I]
   by_cases he:(a[i] != b[i])=true
   ·rw[ah he]at hs
    rw[bP hs]
    have:(a[i] == b[i])=false:=by simpa [bne] using he
    simp only[List.cons_beq_cons,this,dV]
   ·rw[ae he]at hs
    rw[bB hs,ih (i+1) (by omega) (by omega)]
    have:(a[i] == b[i])=true:=by simpa [bne] using he
    simp only[List.cons_beq_cons,this,el]
 have:=y a.length 0 (by omega) (by omega)
 simpa using this
theorem tB (a b:Y3) (y:a.length<9223372036854775807):F.VE a b=some (a == b):=by
 unfold F.VE
 by_cases hl:a.length=b.length
 ·have j:((a.length:Int) != (b.length:Int))=false:=by simp[hl]
  simp only[j,ai,ak]
  refine Gm hl (fun i h=>?_) ?_
  ·have q:decide ((i:Int)<(a.length:Int))=true:=by simp; omega
   simp only[F.XL,q,am,cd h,cd (show i<b.length by omega),aa]
   rw[aO (by omega) (by omega)]
   rfl
  ·have q:decide ((a.length:Int)<(a.length:Int))=false:=by simp
   simp only[F.XL,q,ai,ak]
   rfl
 ·have j:((a.length:Int) != (b.length:Int))=true:=by simp; omega
  simp only[j,am]
  congr 1
  symm
  rw[fF]
  rintro rfl
  exact hl rfl
theorem ou:∀(k:Nat) (n:UInt64),(be k n).length=k
 | 0,_=>rfl
 | k+1,n=>by simp[be,ou k n]
theorem tI (n:UInt64):wd n=0\/wd n=1\/wd n=2\/wd n=4\/wd n=8:=by
 unfold wd
 repeat' split
 all_goals simp
theorem wd0 {n:UInt64} (h:wd n=0):n.toNat<24:=by
 unfold wd at h
 repeat' split at h
 all_goals first | omega | (rename_i j; simpa [bq] using j)
theorem zd (m:Nat) (n:UInt64):(hd m n).length=1+wd n:=by
 unfold hd; split
 ·simp; omega
 ·simp[ou]; omega
theorem i8 (m:Nat) (n:UInt64):(hd m n).length<=9:=by have:=zd m n; have:=Jv n; omega
theorem C6 {n:UInt64} (h:n.toNat<24):∃k:Fin 24,n=UInt64.ofNat k.val:=⟨⟨n.toNat,h⟩,by simp⟩
theorem L2 (x:UInt64):(x &&& 255).toUInt8=x.toUInt8:=by
 apply fX.1
 have:=Ad x.toNat 8
 simp only[UInt64.toNat_toUInt8,UInt64.toNat_and]
 simp at this
 simp[this]
theorem O2 (k:Nat) (h:k<=8):(UInt64.ofInt (wI (8*(k:Int)))).toNat=8*k:=by
 rw[aO (by omega) (by omega),show (8*(k:Int))=((8*k:Nat):Int) by simp,gd]
 simp; omega
theorem GV (f:Y3×Int->Option ((Y3×Int)⊕Y3)) (n:UInt64) (q:∀j (x:Int),x<0->f (j,x)=some (.inr j))
  (y:∀j (k:Nat),k<=8->j.length<=20->f (j,(k:Int))=some (.inl (j++[(bb n (8*k)).toUInt8],(k:Int) - 1))) :
  ∀(k:Nat) (j:Y3),k<=8->j.length+k<=20->loop f (j,(k:Int) - 1)=some (j++be k n)
 | 0,j,_,_=>by
  rw[bP (q j _ (by simp))]; simp[be]
 | k+1,j,h,h2=>by
  have e:((k+1:Nat):Int) - 1=(k:Int):=by simp
  rw[e,bB (y j k (by omega) (by omega)),GV f n q y k _ (by omega) (by simp; omega)]
  simp[be]
theorem yi (n:UInt64) (k:Nat) (j:Y3) (h:k<=8) (q:j.length+k<=20):loop (F.Xn n) (j,(k:Int) - 1)=some (j++be k n):=by
 refine GV _ n (fun j x hx=>?_) (fun j k y A=>?_) k j h q
 ·have:decide ((0:Int)<=x)=false:=by simp; omega
  simp only[F.Xn,this,ai,ak]; rfl
 ·have:decide ((0:Int)<=(k:Int))=true:=by simp
  simp only[F.Xn,this,am,O2 k y,L2]
  rw[ir (by simp; omega),aa,aO (by omega) (by omega)]; rfl
theorem Fy:∀(m:Fin 8) (k:Fin 24),UInt8.ofInt (wI (32*(m.val:Int)))+(UInt64.ofNat k.val).toUInt8=UInt8.ofNat (32*m.val)+(UInt64.ofNat k.val).toUInt8:=by decide
theorem Hp:∀(m:Fin 8) (k:Fin 24),(UInt8.ofInt (gA (m.val:Int) 5)) ||| (UInt64.ofNat k.val).toUInt8=UInt8.ofNat (32*m.val)+(UInt64.ofNat k.val).toUInt8:=by decide
theorem oU:∀(m:Fin 8) (g:Fin 4),UInt8.ofInt (wI (wI (32*(m.val:Int))+(24+(g.val:Int))))=UInt8.ofNat (32*m.val+24+g.val):=by decide
theorem IR:∀(m:Fin 8),(UInt8.ofInt (gA (m.val:Int) 5)) ||| 24=UInt8.ofNat (32*m.val+24+0):=by decide
theorem Jh:∀(m:Fin 8),(UInt8.ofInt (gA (m.val:Int) 5)+1) ||| 24=UInt8.ofNat (32*m.val+24+1):=by decide
theorem Jd:∀(m:Fin 8),(UInt8.ofInt (gA (m.val:Int) 5)+1+1) ||| 24=UInt8.ofNat (32*m.val+24+2):=by decide
theorem IS:∀(m:Fin 8),(UInt8.ofInt (gA (m.val:Int) 5)+1+1+1) ||| 24=UInt8.ofNat (32*m.val+24+3):=by decide
theorem lc (m:Nat) (hm:m<8) (n:UInt64):F.Ul (m:Int) n=some (hd m n):=by
 unfold F.Ul hd
 rw[B8,aa]
 rcases tI n with h | h | h | h | h
 ·obtain⟨k,rfl⟩:=C6 (wd0 h)
  rw[h]
  simp only[show ((0:Nat):Int)=0 from rfl,ez,am]
  rw[show ((m:Int))=(((⟨m,hm⟩:Fin 8).val:Nat):Int) from rfl,Fy]
 ·rw[h]
  simp only[show ((1:Nat):Int)=1 from rfl,show ((1:Int) == 0)=false from rfl,ai,ak,show ¬(1=0) by omega]
  have j:F.Ra (m:Int) 1 n (24,1)=some (.inr (UInt8.ofNat (32*m+24+0) :: be 1 n)):=by
   have:=yi n 1 [UInt8.ofInt (wI (wI (32*(m:Int))+24))] (by omega) (by simp)
   have e:=oU ⟨m,hm⟩ 0
   simp only[F.Ra,ej,dq,ai,ak]
   rw[show wI (1 - 1)=((1:Nat):Int) - 1 from rfl,this]
   simp only[show (24+(((0:Fin 4).val:Nat):Int))=24 from rfl]at e
   simp only[bj,e]; rfl
  rw[bP j]; rfl
 ·rw[h]
  simp only[show ((2:Nat):Int)=2 from rfl,show ((2:Int) == 0)=false from rfl,ai,ak,show ¬(2=0) by omega]
  have j:F.Ra (m:Int) 2 n (24,1)=some (.inl (25,2)):=rfl
  have q:F.Ra (m:Int) 2 n (25,2)=some (.inr (UInt8.ofNat (32*m+24+1) :: be 2 n)):=by
   have:=yi n 2 [UInt8.ofInt (wI (wI (32*(m:Int))+25))] (by omega) (by simp)
   have e:=oU ⟨m,hm⟩ 1
   simp only[F.Ra,ej,dq,ai,ak]
   rw[show wI (2 - 1)=((2:Nat):Int) - 1 from rfl,this]
   simp only[show (24+(((1:Fin 4).val:Nat):Int))=25 from rfl]at e
   simp only[bj,e]; rfl
  rw[bB j,bP q]; rfl
 ·rw[h]
  simp only[show ((4:Nat):Int)=4 from rfl,show ((4:Int) == 0)=false from rfl,ai,ak,show ¬(4=0) by omega]
  have j:F.Ra (m:Int) 4 n (24,1)=some (.inl (25,2)):=rfl
  have q:F.Ra (m:Int) 4 n (25,2)=some (.inl (26,4)):=rfl
  have y:F.Ra (m:Int) 4 n (26,4)=some (.inr (UInt8.ofNat (32*m+24+2) :: be 4 n)):=by
   have:=yi n 4 [UInt8.ofInt (wI (wI (32*(m:Int))+26))] (by omega) (by simp)
   have e:=oU ⟨m,hm⟩ 2
   simp only[F.Ra,ej,dq,ai,ak]
   rw[show wI (4 - 1)=((4:Nat):Int) - 1 from rfl,this]
   simp only[show (24+(((2:Fin 4).val:Nat):Int))=26 from rfl]at e
   simp only[bj,e]; rfl
  rw[bB j,bB q,bP y]; rfl
 ·rw[h]
  simp only[show ((8:Nat):Int)=8 from rfl,show ((8:Int) == 0)=false from rfl,ai,ak,show ¬(8=0) by omega]
  have j:F.Ra (m:Int) 8 n (24,1)=some (.inl (25,2)):=rfl
  have q:F.Ra (m:Int) 8 n (25,2)=some (.inl (26,4)):=rfl
  have y:F.Ra (m:Int) 8 n (26,4)=some (.inl (27,8)):=rfl
  have A:F.Ra (m:Int) 8 n (27,8)=some (.inr (UInt8.ofNat (32*m+24+3) :: be 8 n)):=by
   have:=yi n 8 [UInt8.ofInt (wI (wI (32*(m:Int))+27))] (by omega) (by simp)
   have e:=oU ⟨m,hm⟩ 3
   simp only[F.Ra,ej,dq,ai,ak]
   rw[show wI (8 - 1)=((8:Nat):Int) - 1 from rfl,this]
   simp only[show (24+(((3:Fin 4).val:Nat):Int))=27 from rfl]at e
   simp only[bj,e]; rfl
  rw[bB j,bB q,bB y,bP A]; rfl
theorem sq {τ:Type} {l:List τ} {i:Nat} (h:i<=l.length):drO l (i:Int)=some (l.drop i):=by
 unfold drO; rw[ah (by constructor <;> simp; exact h)]; simp
theorem JN (out:Y3) (n:UInt64) (x:UInt8):F.Q1 out n 2 (x,2)=bj (af (apO 1 out ((x ||| 24) :: be 2 n)) fun x=>some x):=by
 simp only[F.Q1,ej,dq,ai,ak]
 rw[show wI (1+2)=3 from rfl]
 rw[show mkO 1 (3) (3) (0:UInt8)=some [0,0,0] from by simp[mkO,List.replicate]]
 rw[aa,o9,aa,aM,show (0:Int).toNat=0 from rfl,List.set_cons_zero]
 rw[show drO ((x ||| 24) :: [0,0]) (1:Int)=some [0,0] from by simp[drO],aa]
 rw[show wI (8 - 2)=((6:Nat):Int) from rfl,sq (by simp),aa,aM]
 rfl
theorem Ky (out:Y3) (n:UInt64) (x:UInt8):F.Q1 out n 4 (x,4)=bj (af (apO 1 out ((x ||| 24) :: be 4 n)) fun x=>some x):=by
 simp only[F.Q1,ej,dq,ai,ak]
 rw[show wI (1+4)=5 from rfl]
 rw[show mkO 1 (5) (5) (0:UInt8)=some [0,0,0,0,0] from by simp[mkO,List.replicate]]
 rw[aa,o9,aa,aM,show (0:Int).toNat=0 from rfl,List.set_cons_zero]
 rw[show drO ((x ||| 24) :: [0,0,0,0]) (1:Int)=some [0,0,0,0] from by simp[drO],aa]
 rw[show wI (8 - 4)=((4:Nat):Int) from rfl,sq (by simp),aa,aM]
 rfl
theorem JV (out:Y3) (n:UInt64) (x:UInt8):F.Q1 out n 8 (x,8)=bj (af (apO 1 out ((x ||| 24) :: be 8 n)) fun x=>some x):=by
 simp only[F.Q1,ej,dq,ai,ak]
 rw[show wI (1+8)=9 from rfl]
 rw[show mkO 1 (9) (9) (0:UInt8)=some [0,0,0,0,0,0,0,0,0] from by simp[mkO,List.replicate]]
 rw[aa,o9,aa,aM,show (0:Int).toNat=0 from rfl,List.set_cons_zero]
 rw[show drO ((x ||| 24) :: [0,0,0,0,0,0,0,0]) (1:Int)=some [0,0,0,0,0,0,0,0] from by simp[drO],aa]
 rw[show wI (8 - 8)=((0:Nat):Int) from rfl,sq (by simp),aa,aM]
 rfl
theorem BQ (out:Y3) (m:Nat) (hm:m<8) (n:UInt64) (B:out.length<=200000000000000):F.Vl out (m:Int) n=some (out++hd m n):=by
 unfold F.Vl hd
 rw[Aa,aa]
 rcases tI n with h | h | h | h | h
 ·obtain⟨k,rfl⟩:=C6 (wd0 h)
  rw[h]
  simp only[show ((0:Nat):Int)=0 from rfl,ez,am]
  rw[ir (by simp; omega),aa,show ((m:Int))=(((⟨m,hm⟩:Fin 8).val:Nat):Int) from rfl,Hp]
 ·rw[h]
  have e:=IR ⟨m,hm⟩
  simp only at e
  simp only[show ((1:Nat):Int)=1 from rfl,show ((1:Int) == 0)=false from rfl,ez,am,ai,ak,show ¬(1=0) by omega,aM,e]
  rw[ir (by simp; omega),aa]
  simp[be,lg,bb]
 ·rw[h]
  simp only[show ((2:Nat):Int)=2 from rfl,show ((2:Int) == 0)=false from rfl,show ((2:Int) == 1)=false from rfl,ai,ak,show ¬(2=0) by omega]
  have j:F.Q1 out n 2 (UInt8.ofInt (gA (m:Int) 5),1)=some (.inl (UInt8.ofInt (gA (m:Int) 5)+1,2)):=rfl
  have q:F.Q1 out n 2 (UInt8.ofInt (gA (m:Int) 5)+1,2)=some (.inr (out++UInt8.ofNat (32*m+24+1) :: be 2 n)):=by
   have e:=Jh ⟨m,hm⟩
   simp only at e
   rw[JN,e,ir (by simp[ou]; omega)]; rfl
  rw[bB j,bP q]; rfl
 ·rw[h]
  simp only[show ((4:Nat):Int)=4 from rfl,show ((4:Int) == 0)=false from rfl,show ((4:Int) == 1)=false from rfl,ai,ak,show ¬(4=0) by omega]
  have j:F.Q1 out n 4 (UInt8.ofInt (gA (m:Int) 5),1)=some (.inl (UInt8.ofInt (gA (m:Int) 5)+1,2)):=rfl
  have q:F.Q1 out n 4 (UInt8.ofInt (gA (m:Int) 5)+1,2)=some (.inl (UInt8.ofInt (gA (m:Int) 5)+1+1,4)):=rfl
  have y:F.Q1 out n 4 (UInt8.ofInt (gA (m:Int) 5)+1+1,4)=some (.inr (out++UInt8.ofNat (32*m+24+2) :: be 4 n)):=by
   have e:=Jd ⟨m,hm⟩
   simp only at e
   rw[Ky,e,ir (by simp[ou]; omega)]; rfl
  rw[bB j,bB q,bP y]; rfl
 ·rw[h]
  simp only[show ((8:Nat):Int)=8 from rfl,show ((8:Int) == 0)=false from rfl,show ((8:Int) == 1)=false from rfl,ai,ak,show ¬(8=0) by omega]
  have j:F.Q1 out n 8 (UInt8.ofInt (gA (m:Int) 5),1)=some (.inl (UInt8.ofInt (gA (m:Int) 5)+1,2)):=rfl
  have q:F.Q1 out n 8 (UInt8.ofInt (gA (m:Int) 5)+1,2)=some (.inl (UInt8.ofInt (gA (m:Int) 5)+1+1,4)):=rfl
  have y:F.Q1 out n 8 (UInt8.ofInt (gA (m:Int) 5)+1+1,4)=some (.inl (UInt8.ofInt (gA (m:Int) 5)+1+1+1,8)):=rfl
  have A:F.Q1 out n 8 (UInt8.ofInt (gA (m:Int) 5)+1+1+1,8)=some (.inr (out++UInt8.ofNat (32*m+24+3) :: be 8 n)):=by
   have e:=IS ⟨m,hm⟩
   simp only at e
   rw[JV,e,ir (by simp[ou]; omega)]; rfl
  rw[bB j,bB q,bB y,bP A]; rfl
abbrev Wr:=Nat->Option (Y3×Nat)
def cV (rec:Wr) (pr:Bool):Nat->Bool->Option Y3->Wr
 | 0,_,_,i=>some ([],i)
 | r+1,key,last,i=>match rec i with
  | none=>none
  | some (t,j)=>
   if (pr&&key&&!ju last t)=true then none
   else match cV rec pr r (!key) (if (pr&&key)=true then some t else last) j with
    | none=>none
    | some (u,k)=>some (t++u,k)
def cw (x:It):Prop:=
 if x.1=0\/x.1=1 then x.2.2.1=[]/\x.2.2.2=0
 else if x.1=2 then x.2.1=0/\x.2.2.2=0
 else if x.1=3 then x.2.1=0/\x.2.2.2=0/\Lib.validD x.2.2.1=true
 else if x.1=4 then x.2.1=0/\x.2.2.1=[]/\0<=x.2.2.2
 else if x.1=5 then x.2.1=0/\x.2.2.1=[]/\0<=x.2.2.2/\x.2.2.2%2=0
 else if x.1=6 then x.2.2.1=[]/\x.2.2.2=1
 else if x.1=7 then x.2.2.1=[]/\x.2.2.2=0/\20<=x.2.1.toNat/\x.2.1.toNat<=22
 else False
instance (x:It):Decidable (cw x):=by unfold cw; infer_instance
def dI (x:It):UInt64:=
 if x.1=2\/x.1=3 then UInt64.ofNat x.2.2.1.length else if x.1=4 then UInt64.ofInt x.2.2.2 else if x.1=5 then UInt64.ofInt (x.2.2.2 / 2) else x.2.1
def fv (v:List It) (sub:Option Wr):Wr:=fun i=>match v[i]? with
 | none=>none
 | some x=>
  if ¬cw x then none
  else if x.1=4\/x.1=5\/x.1=6 then match sub with
   | none=>none
   | some rec=>match cV rec (x.1 == 5) x.2.2.2.toNat true none (i+1) with
    | none=>none
    | some (t,j)=>some (hd x.1.toNat (dI x)++t,j)
  else some (hd x.1.toNat (dI x)++x.2.2.1,i+1)
def cF:Nat->List It->Wr
 | 0,v=>fv v none
 | d+1,v=>fv v (some (cF d v))
def wt:List It->Nat
 | []=>0
 | x :: r=>9+x.2.2.1.length+wt r
theorem vW {v:List It} {i:Nat} (h:i<v.length):wt (v.drop i)=9+v[i].2.2.1.length+wt (v.drop (i+1)):=by
 rw[bk h]; rfl
def Put (v:List It) (rec:Wr):Prop:=∀i t j,rec i=some (t,j)->i<j/\j<=v.length/\t.length+wt (v.drop j)<=wt (v.drop i)
theorem kw {v:List It} {rec:Wr} (h:Put v rec) (y:Bool):∀(r:Nat) (q:Bool) (last:Option Y3) (i:Nat) (t:Y3) (j:Nat),i<=v.length ->
  cV rec y r q last i=some (t,j)->i+r<=j/\j<=v.length/\t.length+wt (v.drop j)<=wt (v.drop i)
 | 0,q,last,i,t,j,hi,h1=>by
  simp only[cV]at h1; cases h1; simp; exact hi
 | r+1,q,last,i,t,j,hi,h1=>by
  simp only[cV]at h1
  cases h2:rec i with
  | none=>rw[h2]at h1; cases h1
  | some a=>
   obtain⟨B,A⟩:=a
   rw[h2]at h1
   simp only at h1
   obtain⟨I,G,J⟩:=h i B A h2
   split at h1
   ·cases h1
   ·cases h6:cV rec y r (!q) (if (y&&q)=true then some B else last) A with
    | none=>rw[h6]at h1; cases h1
    | some b=>
     obtain⟨u,k⟩:=b
     rw[h6]at h1
     simp only at h1
     cases h1
     have:=kw h y r _ _ A u j G h6
     simp only[ay]; omega
theorem xp {v:List It} {sub:Option Wr} (h:∀rec,sub=some rec->Put v rec):Put v (fv v sub):=by
 intro i t j q
 unfold fv at q
 split at q
 ·cases q
 ·rename_i x hx
  obtain⟨hi,rfl⟩:=aD.1 hx
  have hw:=vW hi
  have A:=i8 v[i].1.toNat (dI v[i])
  split at q
  ·cases q
  ·split at q
   ·cases sub with
    | none=>cases q
    | some rec=>
     simp only at q
     split at q
     ·cases q
     ·rename_i B G y
      cases q
      have:=kw (h rec rfl) _ _ _ _ _ _ _ (by omega) y
      simp only[ay]; omega
   ·cases q
    simp only[ay]; omega
theorem iB (v:List It):∀d,Put v (cF d v)
 | 0=>xp (by simp)
 | d+1=>xp (by intro rec h; cases h; exact iB v d)
def dJ (out:Y3):Option (Y3×Nat)->Y3×Int
 | none=>([],-1)
 | some (t,j)=>(out++t,(j:Int))
def Al (v:List It) (rc:Y3->List It->Int->Int->Option (Y3×Int)) (w:Int) (rec:Wr):Prop:=
 ∀(out:Y3) (i:Nat),i<=v.length->out.length+wt (v.drop i)<=4000000000000->rc out v (i:Int) w=some (dJ out (rec i))
theorem IX (l:Y3) (h:l.length<=4000000000000):F.Wh l=some l:=by
 unfold F.Wh
 rw[ir (by simp; omega)]; rfl
theorem yp (i:Nat):(Int.tmod (i:Int) 2 == 0)=decide (i%2=0):=by
 have:Int.tmod (i:Int) 2=((i%2:Nat):Int):=by
  rw[cI (by omega)]; simp
 rw[this]
 rcases Nat.mod_two_eq_zero_or_one i with h | h <;> simp[h]
section
variable {v:List It} {rc:Y3->List It->Int->Int->Option (Y3×Int)} {w:Int} {rec:Wr}
theorem J2 (hv:v.length<=4000000000000) (hm:Put v rec) (ab:Al v rc (wI (w+1)) rec) (x:It) (hx:x.2.2.2<=9223372036854775807) :
  ∀(r i:Nat) (out last:Y3) (L:Option Y3) (a:Nat),((i+r:Nat):Int)=x.2.2.2->a<=v.length->out.length+wt (v.drop a)<=4000000000000->last.length<=out.length ->
   ((x.1 == 5)=true->(i=0/\L=none\/0<i/\L=some last)) ->
   loop (F.Rv v w rc x) (out,(a:Int),last,(i:Int))=some (dJ out (cV rec (x.1 == 5) r (decide (i%2=0)) L a)):=by
 intro r
 induction r with
 | zero=>
  intro i out last L a h1 h2 h3 h4 Y
  refine bP ?_
  have:decide ((i:Int)<x.2.2.2)=false:=by simp; omega
  simp only[F.Rv,this,ai,ak,cV,dJ,bR]
  rfl
 | succ r ih=>
  intro i out last L a h1 h2 h3 h4 Y
  have O:decide ((i:Int)<x.2.2.2)=true:=by simp; omega
  have G:wI ((i:Int)+1)=((i+1:Nat):Int):=by rw[aO (by omega) (by omega)]; simp
  have R:(!decide (i%2=0))=decide ((i+1)%2=0):=by
   rcases Nat.mod_two_eq_zero_or_one i with h | h
   ·have:(i+1)%2=1:=by omega
    simp[h,this]
   ·have:(i+1)%2=0:=by omega
    simp[h,this]
  simp only[cV]
  have J:=ab out a h2 h3
  cases hx1:rec a with
  | none=>
   rw[hx1]at J
   refine bP ?_
   simp only[F.Rv,O,am,J,aa,dJ]
   rfl
  | some y=>
   obtain⟨t,j⟩:=y
   rw[hx1]at J
   simp only[dJ]at J
   obtain⟨h6,h7,h8⟩:=hm a t j hx1
   have hj:decide ((j:Int)<0)=false:=by simp
   simp only
   have hT:t.length<=4000000000000:=by omega
   have bx:last.length<=4000000000000:=by omega
   have step:(x.1 == 5&&decide (i%2=0))=false->F.Rv v w rc x (out,(a:Int),last,(i:Int))=some (.inl (out++t,(j:Int),last,((i+1:Nat):Int))):=by
    intro N
    rw[Bool.and_eq_false_iff]at N
    simp only[F.Rv,O,am,J,aa,hj,ai,ak]
    rcases N with N | N
    ·simp only[N,ai,ak,F.SI,F.SA,G]; rfl
    ·split
     ·simp only[yp,N,ai,ak,F.SI,F.SA,G]; rfl
     ·simp only[ai,ak,F.SI,F.SA,G]; rfl
   by_cases hpk:(x.1 == 5&&decide (i%2=0))=true
   ·rw[aK]at hpk
    obtain⟨I,U⟩:=hpk
    simp only[I,U,Bool.and_self,el,am]
    have aS:drO (out++t) ((out.length:Int))=some t:=by rw[sq (by simp)]; simp
    have V:∀q,(q=true->ju L t=false)->(q=false->ju L t=true)->F.S8 (out++t,(j:Int)) t (i:Int) q =
      some (if q=true then .inr ([],-1) else .inl (out++t,(j:Int),t,((i+1:Nat):Int))):=by
     intro q _ _
     cases q
     ·simp only[F.S8,ai,ak,IX t hT,aa,F.SA,G]; rfl
     ·simp only[F.S8,am]; rfl
    have A:F.Rv v w rc x (out,(a:Int),last,(i:Int))=some (if ju L t=false then .inr ([],-1) else .inl (out++t,(j:Int),t,((i+1:Nat):Int))):=by
     simp only[F.Rv,O,am,J,aa,hj,ai,ak,I,yp,U,F.SI,aS]
     rcases Y I with⟨rfl,rfl⟩ | ⟨Z,rfl⟩
     ·simp only[show (decide ((0:Int)<((0:Nat):Int)))=false from rfl,ai,ak]
      rw[V false (by simp) (by simp[ju])]
      simp[ju]
     ·have:decide ((0:Int)<(i:Int))=true:=by simp; omega
      simp only[this,am,uO last t (by omega),aa,s9]
      rw[V _ (by simp[ju]) (by simp[ju])]
      cases hlx:jF last t <;> simp[ju,hlx]
    cases hko:ju L t
    ·rw[hko]at A
     simp only[am]at A
     rw[bP A]
     simp[dJ]
    ·rw[hko]at A
     simp only[Bool.true_eq_false,ak]at A
     rw[bB A]
     simp only[dB,ai,ak]
     rw[ih (i+1) (out++t) t (some t) j (by omega) h7 (by simp; omega) (by simp) (fun _=>.inr ⟨by omega,rfl⟩),<-R,U]
     simp only[I,dB]
     cases cV rec true r false (some t) j with
     | none=>rfl
     | some z=>obtain⟨u,k⟩:=z; simp[dJ]
   ·have B:(x.1 == 5&&decide (i%2=0))=false:=by simpa using hpk
    rw[bB (step B)]
    simp only[B,dV,ai,ak]
    rw[ih (i+1) (out++t) last L j (by omega) h7 (by simp; omega) (by simp; omega) ?_,<-R]
    ·cases cV rec (x.1 == 5) r (!decide (i%2=0)) L j with
     | none=>rfl
     | some z=>obtain⟨u,k⟩:=z; simp[dJ]
    ·intro X
     rcases Y X with⟨rfl,rfl⟩ | ⟨Z,rfl⟩
     ·exfalso; rw[X]at B; simp at B
     ·exact .inr ⟨by omega,rfl⟩
theorem qn (G:v.length<=4000000000000) (x:It) (m:Nat) (A:m<8) (y:x.1=(m:Int)) (n:UInt64) (out:Y3) (a:Nat) (I:a<v.length) (B:v[a]=x) (J:out.length+wt (v.drop a)<=4000000000000)
  (hx:x.2.2.2<=9223372036854775807) (O:0<=x.2.2.2) (q:x.2.2.2=0\/Put v rec/\Al v rc (wI (w+1)) rec) :
  F.RG out (a:Int) x n v w rc false=some (dJ out (match cV rec (x.1 == 5) x.2.2.2.toNat true none (a+1) with
   | none=>none
   | some (t,j)=>some (hd m n++x.2.2.1++t,j))):=by
 have hw:=vW I
 have hh:=i8 m n
 rw[B]at hw
 unfold F.RG
 simp only[ai,ak]
 rw[y,BQ out m A n (by omega),aa,ir (by simp; omega),aa,aO (by omega) (by omega)]
 rcases q with q | ⟨hp,N⟩
 ·rw[q]
  refine bP ?_
  simp only[F.Rv,q,ej,dq,ai,ak,Int.toNat_zero,cV,dJ]
  simp only[bj,bQ,aP,bR]
  rfl
 ·have:=J2 G hp N x hx x.2.2.2.toNat 0 (out++hd m n++x.2.2.1) [] none (a+1) (by omega) (by omega) (by simp; omega) (by simp) (fun _=>.inl ⟨rfl,rfl⟩)
  rw[show ((a:Int)+1)=((a+1:Nat):Int) by simp,show (0:Int)=((0:Nat):Int) from rfl,this,<-y]
  simp only[jl,ib]
  cases cV rec (x.1 == 5) x.2.2.2.toNat true none (a+1) with
  | none=>rfl
  | some z=>obtain⟨t,j⟩:=z; simp[dJ]
theorem mW (m:Int):m<0\/7<m\/m=0\/m=1\/m=2\/m=3\/m=4\/m=5\/m=6\/m=7:=by omega
end
theorem u5 {v:List It} {rc:Y3->List It->Int->Int->Option (Y3×Int)} {w:Nat} {sub:Option Wr} (hv:v.length<=4000000000000) (hI:∀x∈v,x.2.2.2<=9223372036854775807)
  (cm:w<=32) (G:sub=none↔w=32) (y:∀rec,sub=some rec->Put v rec/\Al v rc ((w+1:Nat):Int) rec) :
  Al v (F.Vy rc) (w:Int) (fv v sub):=by
 intro out a h1 h2
 unfold F.Vy fv
 rcases cj a v.length with A | b8
 ·have d1:decide ((v.length:Int)<=(a:Int))=false:=by simp; omega
  simp only[d1,ai,ak,cd A,aa,aE A]
  have hx:=hI v[a] (cC A)
  have ct:v[a]=v[a]:=rfl
  generalize J:v[a]=x at hx
  obtain⟨m,n,d,k⟩:=x
  simp only at hx
  have c0:d.length<=4000000000000:=by have:=vW A; rw[J]at this; simp only at this; omega
  have R:wI ((w:Int)+1)=((w+1:Nat):Int):=by rw[aO (by omega) (by omega)]; simp
  have U:∀(rec:Wr) (V:Nat) (ap:V<8) (aS:m=(V:Int)) (nn:UInt64) (B:k=0),F.RG out (a:Int) (m,n,d,k) nn v (w:Int) rc false=some (dJ out (some (hd V nn++d,a+1))):=by
   intro rec V ap aS nn B
   have:=qn (w:=(w:Int)) (rc:=rc) (rec:=rec) hv (m,n,d,k) V ap aS nn out a A J h2 hx (by simp only; omega) (.inl B)
   simpa [B,cV] using this
  have q:Wr:=fun _=>none
  have c1:∀{m:Int},(m=5)=((m == 5)=true):=by simp
  rcases mW m with hm | hm | rfl | rfl | rfl | rfl | rfl | rfl | rfl | rfl
  ·have e2:(m == 2)=false:=by simp; omega
   have e3:(m == 3)=false:=by simp; omega
   have l0:decide (m<0)=true:=by simp; omega
   have O:decide (m<2)=true:=by simp; omega
   have l7:decide ((7:Int)<m)=false:=by simp; omega
   have hf:¬cw (m,n,d,k):=by
    unfold cw
    simp only
    rw[ae (by omega),ae (by omega),ae (by omega),ae (by omega),ae (by omega),ae (by omega),ae (by omega)]; simp
   rw[ah hf]
   simp only[e2,e3,l0,O,l7,ai,ak,am,F.QK,F.QI,aM,ite_self,dJ]
  ·have e2:(m == 2)=false:=by simp; omega
   have e3:(m == 3)=false:=by simp; omega
   have l0:decide (m<0)=false:=by simp; omega
   have O:decide (m<2)=false:=by simp; omega
   have l7:decide ((7:Int)<m)=true:=by simp; omega
   have hf:¬cw (m,n,d,k):=by
    unfold cw
    simp only
    rw[ae (by omega),ae (by omega),ae (by omega),ae (by omega),ae (by omega),ae (by omega),ae (by omega)]; simp
   rw[ah hf]
   simp only[e2,e3,l0,O,l7,ai,ak,am,F.QK,F.QI,aM,ite_self,dJ]
  ·rw[ae (show ¬(((0:Int)=4)\/((0:Int)=5)\/((0:Int)=6)) by decide)]
   by_cases hg:d=[]/\k=0
   ·obtain⟨rfl,rfl⟩:=hg
    have K:=U q 0 (by omega) rfl n rfl
    simp[F.QK,F.QI,F.QM,F.Q2,F.Q3,F.QZ,cw,dI,aM,K]
   ·by_cases hd:d=[] <;> by_cases hn:n=0 <;> by_cases B:k=0 <;> by_cases j:k<0 <;> (try omega) <;>  simp_all [F.QK,F.QI,F.QM,F.Q2,F.Q3,F.QZ,cw,dI,aM,dJ]
  ·rw[ae (show ¬(((1:Int)=4)\/((1:Int)=5)\/((1:Int)=6)) by decide)]
   by_cases hg:d=[]/\k=0
   ·obtain⟨rfl,rfl⟩:=hg
    have K:=U q 1 (by omega) rfl n rfl
    simp[F.QK,F.QI,F.QM,F.Q2,F.Q3,F.QZ,cw,dI,aM,K]
   ·by_cases hd:d=[] <;> by_cases hn:n=0 <;> by_cases B:k=0 <;> by_cases j:k<0 <;> (try omega) <;>  simp_all [F.QK,F.QI,F.QM,F.Q2,F.Q3,F.QZ,cw,dI,aM,dJ]
  ·rw[ae (show ¬(((2:Int)=4)\/((2:Int)=5)\/((2:Int)=6)) by decide)]
   by_cases hg:n=0/\k=0
   ·obtain⟨rfl,rfl⟩:=hg
    have K:=U q 2 (by omega) rfl (UInt64.ofNat d.length) rfl
    simp[F.QK,F.QI,F.QM,F.Q2,F.Q3,cw,dI,aM,gd,K]
   ·by_cases hd:d=[] <;> by_cases hn:n=0 <;> by_cases B:k=0 <;> by_cases j:k<0 <;> (try omega) <;>  simp_all [F.QK,F.QI,F.QM,F.Q2,F.Q3,F.QZ,cw,dI,aM,dJ]
  ·rw[ae (show ¬(((3:Int)=4)\/((3:Int)=5)\/((3:Int)=6)) by decide)]
   by_cases hg:n=0/\k=0/\Lib.validD d=true
   ·obtain⟨rfl,rfl,hu⟩:=hg
    have X:F.QZ d=some true:=by unfold F.QZ; rw[ah (by omega),hu]
    have K:=U q 3 (by omega) rfl (UInt64.ofNat d.length) rfl
    simp[F.QK,F.QI,F.QM,F.Q2,F.Q3,cw,dI,aM,gd,X,aa,hu,K]
   ·have X:F.QZ d=some (Lib.validD d):=by unfold F.QZ; rw[ah (by omega)]
    by_cases hu:Lib.validD d=true <;> by_cases hd:d=[] <;> by_cases hn:n=0 <;> by_cases B:k=0 <;> by_cases j:k<0 <;> (try omega) <;>  simp_all [F.QK,F.QI,F.QM,F.Q2,F.Q3,X,aa,cw,dI,aM,dJ]
  ·by_cases hg:n=0/\d=[]/\0<=k
   ·obtain⟨rfl,rfl,I⟩:=hg
    have j:¬k<0:=by omega
    have hf:cw (4,0,[],k):=by simp[cw,I]
    rw[ae (show ¬¬cw (4,0,[],k) from fun h=>h hf),ah (show (4:Int)=4\/(4:Int)=5\/(4:Int)=6 by decide)]
    have Y:dI (4,0,[],k)=(UInt64.ofInt k):=by simp[dI]
    rw[Y]
    cases hs:sub with
    | none=>
     have hw:=G.1 hs
     subst hw
     simp[F.QK,F.QI,F.QM,F.RG,aM,j,dJ]
    | some rec=>
     have hw:w≠32:=fun h=>by have:=G.2 h; rw[hs]at this; cases this
     have N:((w:Int) == 32)=false:=by simp; omega
     have K:=qn (w:=(w:Int)) (rc:=rc) (rec:=rec) hv (4,0,[],k) 4 (by omega) rfl (UInt64.ofInt k) out a A J h2 hx I (.inr ⟨(y rec hs).1,by rw[R]; exact (y rec hs).2⟩)
     simp only[bR]at K
     simp[F.QK,F.QI,F.QM,aM,j,N]
     exact K
   ·have hf:¬cw (4,n,d,k):=by simpa [cw] using hg
    rw[ah hf]
    by_cases hd:d=[] <;> by_cases hn:n=0 <;> by_cases B:k=0 <;> by_cases j:k<0 <;> (try omega) <;>  simp_all [F.QK,F.QI,F.QM,F.Q2,F.Q3,F.QZ,cw,dI,aM,dJ]
  ·by_cases hg:n=0/\d=[]/\0<=k/\k%2=0
   ·obtain⟨rfl,rfl,I,bx⟩:=hg
    have Z:Int.tmod k 2=0:=by rw[cI I]; exact bx
    have ab:wI (Int.tdiv k 2)=k / 2:=by rw[ce I,aO (by omega) (by omega)]
    have j:¬k<0:=by omega
    have hf:cw (5,0,[],k):=by simp[cw,I,bx]
    rw[ae (show ¬¬cw (5,0,[],k) from fun h=>h hf),ah (show (5:Int)=4\/(5:Int)=5\/(5:Int)=6 by decide)]
    have Y:dI (5,0,[],k)=(UInt64.ofInt (k / 2)):=by simp[dI]
    rw[Y]
    cases hs:sub with
    | none=>
     have hw:=G.1 hs
     subst hw
     simp[F.QK,F.QI,F.QM,F.RG,aM,j,dJ,Z,ab]
    | some rec=>
     have hw:w≠32:=fun h=>by have:=G.2 h; rw[hs]at this; cases this
     have N:((w:Int) == 32)=false:=by simp; omega
     have K:=qn (w:=(w:Int)) (rc:=rc) (rec:=rec) hv (5,0,[],k) 5 (by omega) rfl (UInt64.ofInt (k / 2)) out a A J h2 hx I (.inr ⟨(y rec hs).1,by rw[R]; exact (y rec hs).2⟩)
     simp only[bR]at K
     simp[F.QK,F.QI,F.QM,aM,j,N,Z,ab]
     exact K
   ·have hf:¬cw (5,n,d,k):=by simpa [cw] using hg
    rw[ah hf]
    have hq:0<=k->Int.tmod k 2=k%2:=fun h=>cI h
    by_cases hd:d=[] <;> by_cases hn:n=0 <;> by_cases B:k=0 <;> by_cases j:k<0 <;> (try omega) <;>  simp_all [F.QK,F.QI,F.QM,F.Q2,F.Q3,F.QZ,cw,dI,aM,dJ]
  ·by_cases hg:d=[]/\k=1
   ·obtain⟨rfl,rfl⟩:=hg
    have I:(0:Int)<=1:=by omega
    have hf:cw (6,n,[],1):=by simp[cw]
    rw[ae (show ¬¬cw (6,n,[],1) from fun h=>h hf),ah (show (6:Int)=4\/(6:Int)=5\/(6:Int)=6 by decide)]
    have Y:dI (6,n,[],1)=n:=by simp[dI]
    rw[Y]
    cases hs:sub with
    | none=>
     have hw:=G.1 hs
     subst hw
     simp[F.QK,F.QI,F.QM,F.RG,aM,dJ]
    | some rec=>
     have hw:w≠32:=fun h=>by have:=G.2 h; rw[hs]at this; cases this
     have N:((w:Int) == 32)=false:=by simp; omega
     have K:=qn (w:=(w:Int)) (rc:=rc) (rec:=rec) hv (6,n,[],1) 6 (by omega) rfl n out a A J h2 hx I (.inr ⟨(y rec hs).1,by rw[R]; exact (y rec hs).2⟩)
     simp only[bR]at K
     simp[F.QK,F.QI,F.QM,aM,N]
     exact K
   ·have hf:¬cw (6,n,d,k):=by simpa [cw] using hg
    rw[ah hf]
    by_cases hd:d=[] <;> by_cases hn:n=0 <;> by_cases B:k=0 <;> by_cases j:k<0 <;> (try omega) <;>  simp_all [F.QK,F.QI,F.QM,F.Q2,F.Q3,F.QZ,cw,dI,aM,dJ]
  ·rw[ae (show ¬(((7:Int)=4)\/((7:Int)=5)\/((7:Int)=6)) by decide)]
   by_cases hg:d=[]/\k=0/\20<=n.toNat/\n.toNat<=22
   ·obtain⟨rfl,rfl,bT,b2⟩:=hg
    have K:=U q 7 (by omega) rfl n rfl
    have l1:¬n<20:=by simp only[bq]; simpa using bT
    have O:¬22<n:=by simp only[bq]; simpa using b2
    simp[F.QK,F.QI,F.QM,F.Q2,F.Q3,F.QZ,cw,dI,aM,K,l1,O,bT,b2]
   ·have hf:¬cw (7,n,d,k):=by simpa [cw] using hg
    rw[ah hf]
    have l3:¬n<20->20<=n.toNat:=by simp only[bq]; simp
    have l4:¬22<n->n.toNat<=22:=by simp only[bq]; simp
    by_cases l1:n<20 <;> by_cases O:22<n <;> by_cases hd:d=[] <;> by_cases hn:n=0 <;> by_cases B:k=0 <;> by_cases j:k<0 <;> (try omega) <;>  simp_all [F.QK,F.QI,F.QM,F.Q2,F.Q3,F.QZ,cw,dI,aM,dJ]
 ·have d1:decide ((v.length:Int)<=(a:Int))=true:=by simp; omega
  simp only[d1,am,dA b8,dJ]
def Kd (v:List It):Prop:=∀x∈v,x.2.2.2<=9223372036854775807
theorem lP (v:List It):9*v.length<=wt v:=by
 induction v with
 | nil=>simp[wt]
 | cons x r ih=>simp only[wt,cg]; omega
theorem Ee (v:List It) (i:Nat):wt (v.drop i)<=wt v:=by
 induction v generalizing i with
 | nil=>simp
 | cons x r ih=>cases i with
  | zero=>simp
  | succ i=>simp only[List.drop_succ_cons,wt]; have:=ih i; omega
theorem uw {v:List It} (j:v.length<=4000000000000) (q:Kd v):∀(d k:Nat),d<=32->d<k->Al v (F.Sn k) ((32 - d:Nat):Int) (cF d v)
 | 0,k+1,_,_=>by
  simp only[F.Sn,cF]
  exact u5 j q (by omega) (by simp) (by simp)
 | d+1,k+1,h1,h2=>by
  simp only[F.Sn,cF]
  refine u5 j q (by omega) (by simp; omega) (fun rec y=>?_)
  cases y
  rw[show 32 - (d+1)+1=32 - d by omega]
  exact⟨iB v d,uw j q d k (by omega) (by omega)⟩
 | 0,0,_,h=>by omega
 | _+1,0,_,h=>by omega
theorem tl {v:List It} (hw:wt v<=4000000000000) (j:Kd v):F.WJ [] v 0 0=some (dJ [] (cF 32 v 0)):=by
 have:=lP v
 exact uw (by omega) j 32 64 (by omega) (by omega) [] 0 (by omega) (by simp; exact hw)
def io (v:List It):Bool:=match cF 32 v 0 with
 | none=>false
 | some (_,j)=>decide (j=v.length)
def oM (v:List It):Y3×Int:=match cF 32 v 0 with
 | none=>([],220)
 | some (t,j)=>if j=v.length then (if 65536<t.length then ([],10) else (t,0)) else ([],220)
theorem nf {v:List It} (hw:wt v<=4000000000000) (q:Kd v):F.S7 v=some (io v):=by
 unfold F.S7 io
 rw[tl hw q,aa]
 cases h:cF 32 v 0 with
 | none=>
  have:((-1:Int) == (v.length:Int))=false:=by simp
  simp only[dJ,this,ai,ak]
 | some a=>
  obtain⟨t,j⟩:=a
  obtain⟨y,A,_⟩:=iB v 32 0 t j h
  simp only[dJ]
  by_cases hj:j=v.length
  ·have:decide ((0:Int)<(j:Int))=true:=by simp; omega
   simp only[hj,ez,am,ib]
   simp; omega
  ·have:((j:Int) == (v.length:Int))=false:=by simp; omega
   simp[this,hj]
theorem IG {v:List It} (hw:wt v<=4000000000000) (y:Kd v):F.T8 v=some (oM v):=by
 unfold F.T8 oM
 rw[tl hw y,aa]
 cases h:cF 32 v 0 with
 | none=>
  have:((-1:Int) != (v.length:Int))=true:=by simp
  simp only[dJ,this,am,F.Uq]
 | some a=>
  obtain⟨t,j⟩:=a
  obtain⟨I,A,_⟩:=iB v 32 0 t j h
  simp only[dJ,bJ]
  by_cases hj:j=v.length
  ·have B:decide ((j:Int)<=0)=false:=by simp; omega
   have q:v≠[]:=by rintro rfl; simp at A; omega
   have G:((j:Int) != (v.length:Int))=false:=by simp; omega
   simp only[G,ai,ak,B,F.Uq,hj,am]
   by_cases hl:65536<t.length
   ·have:decide ((65536:Int)<(t.length:Int))=true:=by simp; omega
    simp[this,hl,q]
   ·have:decide ((65536:Int)<(t.length:Int))=false:=by simp; omega
    simp[this,hl,q]
  ·have:((j:Int) != (v.length:Int))=true:=by simp; omega
   simp only[this,am,hj,ak,F.Uq]
def Bh (v:List It) (rc:List It->Int->Int->Option (Y3×Int)) (w:Int) (rec:Wr):Prop:=
 ∀(i:Nat),i<=v.length->rc v (i:Int) w=some (dJ [] (rec i))
theorem fU:F.So=some ([],-1):=rfl
section
variable {v:List It} {rc:List It->Int->Int->Option (Y3×Int)} {w:Int} {rec:Wr}
theorem HN (hv:wt v<=4000000000000) (hm:Put v rec) (ac:Bh v rc (wI (w+1)) rec) (x:It) (hx:x.2.2.2<=9223372036854775807) :
  ∀(r i:Nat) (out last:Y3) (L:Option Y3) (a:Nat),((i+r:Nat):Int)=x.2.2.2->a<=v.length->out.length+wt (v.drop a)<=4000000000100->last.length<=out.length ->
   ((x.1 == 5)=true->(i=0/\L=none\/0<i/\L=some last)) ->
   loop (F.Se v w rc x) (last,(i:Int),out,(a:Int))=some (dJ out (cV rec (x.1 == 5) r (decide (i%2=0)) L a)):=by
 intro r
 induction r with
 | zero=>
  intro i out last L a h1 h2 h3 h4 Y
  refine bP ?_
  have:decide ((i:Int)<x.2.2.2)=false:=by simp; omega
  simp only[F.Se,this,ai,ak,cV,dJ,bR]
  rfl
 | succ r ih=>
  intro i out last L a h1 h2 h3 h4 Y
  have O:decide ((i:Int)<x.2.2.2)=true:=by simp; omega
  have ag:wI ((i:Int)+1)=((i+1:Nat):Int):=by rw[aO (by omega) (by omega)]; simp
  have R:(!decide (i%2=0))=decide ((i+1)%2=0):=by
   rcases Nat.mod_two_eq_zero_or_one i with h | h
   ·have:(i+1)%2=1:=by omega
    simp[h,this]
   ·have:(i+1)%2=0:=by omega
    simp[h,this]
  simp only[cV]
  have J:=ac a h2
  cases hx1:rec a with
  | none=>
   rw[hx1]at J
   refine bP ?_
   simp only[F.Se,O,am,J,aa,dJ,fU]
   rfl
  | some y=>
   obtain⟨t,j⟩:=y
   rw[hx1]at J
   simp only[dJ,bJ]at J
   obtain⟨h6,h7,h8⟩:=hm a t j hx1
   have hj:decide ((j:Int)<0)=false:=by simp
   simp only
   have Z:pK out t=some (out++t):=by unfold pK; rw[ah (by omega)]
   have G:∀l,F.WL (i:Int) out (t,(j:Int)) l=some (.inl (l,((i+1:Nat):Int),out++t,(j:Int))):=by
    intro l
    simp only[F.WL,Z,aa,ag]; rfl
   have step:(x.1 == 5&&decide (i%2=0))=false->F.Se v w rc x (last,(i:Int),out,(a:Int))=some (.inl (last,((i+1:Nat):Int),out++t,(j:Int))):=by
    intro N
    rw[Bool.and_eq_false_iff]at N
    simp only[F.Se,O,am,J,aa,hj,ai,ak]
    rcases N with N | N
    ·simp only[N,ai,ak,F.TV,G]
    ·split
     ·simp only[yp,N,ai,ak,F.TV,G]
     ·simp only[ai,ak,F.TV,G]
   by_cases hpk:(x.1 == 5&&decide (i%2=0))=true
   ·rw[aK]at hpk
    obtain⟨I,U⟩:=hpk
    simp only[I,U,Bool.and_self,el,am]
    have V:∀q,F.VO (t,(j:Int)) (i:Int) out q=some (if q=true then .inr ([],-1) else .inl (t,((i+1:Nat):Int),out++t,(j:Int))):=by
     intro q
     cases q
     ·simp only[F.VO,ai,ak,G]
     ·simp only[F.VO,am,fU,aa]; rfl
    have A:F.Se v w rc x (last,(i:Int),out,(a:Int))=some (if ju L t=false then .inr ([],-1) else .inl (t,((i+1:Nat):Int),out++t,(j:Int))):=by
     simp only[F.Se,O,am,J,aa,hj,ai,ak,I,yp,U,F.TV]
     rcases Y I with⟨rfl,rfl⟩ | ⟨ab,rfl⟩
     ·simp only[show (decide ((0:Int)<((0:Nat):Int)))=false from rfl,ai,ak]
      rw[V false]
      simp[ju]
     ·have:decide ((0:Int)<(i:Int))=true:=by simp; omega
      simp only[this,am,Lw last t (by omega),aa]
      rw[V _]
      cases hlx:jF last t <;> simp[ju,hlx]
    cases hko:ju L t
    ·rw[hko]at A
     simp only[am]at A
     rw[bP A]
     simp[dJ]
    ·rw[hko]at A
     simp only[Bool.true_eq_false,ak]at A
     rw[bB A]
     simp only[dB,ai,ak]
     rw[ih (i+1) (out++t) t (some t) j (by omega) h7 (by simp; omega) (by simp) (fun _=>.inr ⟨by omega,rfl⟩),<-R,U]
     simp only[I,dB]
     cases cV rec true r false (some t) j with
     | none=>rfl
     | some z=>obtain⟨u,k⟩:=z; simp[dJ]
   ·have B:(x.1 == 5&&decide (i%2=0))=false:=by simpa using hpk
    rw[bB (step B)]
    simp only[B,dV,ai,ak]
    rw[ih (i+1) (out++t) last L j (by omega) h7 (by simp; omega) (by simp; omega) ?_,<-R]
    ·cases cV rec (x.1 == 5) r (!decide (i%2=0)) L j with
     | none=>rfl
     | some z=>obtain⟨u,k⟩:=z; simp[dJ]
    ·intro X
     rcases Y X with⟨rfl,rfl⟩ | ⟨ab,rfl⟩
     ·exfalso; rw[X]at B; simp at B
     ·exact .inr ⟨by omega,rfl⟩
theorem vN (A:wt v<=4000000000000) (x:It) (m:Nat) (y:m<8) (q:x.1=(m:Int)) (n:UInt64) (a:Nat) (G:a<v.length)
  (hx:x.2.2.2<=9223372036854775807) (I:0<=x.2.2.2) (hp:Put v rec) (B:Bh v rc (wI (w+1)) rec) :
  F.WW (a:Int) x v w rc n=some (dJ [] (match cV rec (x.1 == 5) x.2.2.2.toNat true none (a+1) with
   | none=>none
   | some (t,j)=>some (hd m n++t,j))):=by
 have hl:=lP v
 have hh:=i8 m n
 have hw:=Ee v (a+1)
 simp only[F.WW]
 rw[q,lc m y n,aa,aO (by omega) (by omega)]
 have:=HN A hp B x hx x.2.2.2.toNat 0 (hd m n) [] none (a+1) (by omega) (by omega) (by omega) (by simp) (fun _=>.inl ⟨rfl,rfl⟩)
 rw[show ((a:Int)+1)=((a+1:Nat):Int) by simp,show (0:Int)=((0:Nat):Int) from rfl,this,<-q]
 simp only[jl,ib]
 cases cV rec (x.1 == 5) x.2.2.2.toNat true none (a+1) with
 | none=>rfl
 | some z=>obtain⟨t,j⟩:=z; simp[dJ]
end
theorem L8 (k:Int) (q:0<=k) (hx:k<=9223372036854775807):UInt64.ofInt k / 2=UInt64.ofInt (k / 2):=by
 obtain⟨j,rfl⟩:=fw q
 rw[show ((j:Int) / 2)=((j / 2:Nat):Int) by simp,gd,gd]
 apply cA.1
 rw[fh]
 simp
 omega
theorem xt {v:List It} {rc:List It->Int->Int->Option (Y3×Int)} {w:Nat} {sub:Option Wr} (hv:wt v<=4000000000000) (hI:Kd v) (hU:∀x∈v,x.2.2.1.length<=2000000)
  (b8:w<=32) (A:sub=none↔w=32) (q:∀rec,sub=some rec->Put v rec/\Bh v rc ((w+1:Nat):Int) rec) :
  Bh v (F.XG rc) (w:Int) (fv v sub):=by
 intro a h1
 have b9:=lP v
 unfold F.XG fv
 rcases cj a v.length with y | b3
 ·have d1:decide ((v.length:Int)<=(a:Int))=false:=by simp; omega
  simp only[d1,ai,ak,cd y,aa,aE y]
  have hx:=hI v[a] (cC y)
  have O:=hU v[a] (cC y)
  generalize cf:v[a]=x at hx O
  obtain⟨m,n,d,k⟩:=x
  simp only at hx O
  have R:wI ((w:Int)+1)=((w+1:Nat):Int):=by rw[aO (by omega) (by omega)]; simp
  have G:wI ((a:Int)+1)=(a:Int)+1:=by rw[aO (by omega) (by omega)]
  rcases mW m with hm | hm | rfl | rfl | rfl | rfl | rfl | rfl | rfl | rfl
  ·have e0:(m == 0)=false:=by simp; omega
   have J:(m == 1)=false:=by simp; omega
   have e2:(m == 2)=false:=by simp; omega
   have e3:(m == 3)=false:=by simp; omega
   have l0:decide (m<0)=true:=by simp; omega
   have l7:decide ((7:Int)<m)=false:=by simp; omega
   have hf:¬cw (m,n,d,k):=by
    unfold cw
    simp only
    rw[ae (by omega),ae (by omega),ae (by omega),ae (by omega),ae (by omega),ae (by omega),ae (by omega)]; simp
   rw[ah hf]
   simp only[e2,e3,l0,l7,ai,ak,am,F.QR,F.QH,aM,ite_self,dJ,fU,aa]
  ·have e0:(m == 0)=false:=by simp; omega
   have J:(m == 1)=false:=by simp; omega
   have e2:(m == 2)=false:=by simp; omega
   have e3:(m == 3)=false:=by simp; omega
   have l0:decide (m<0)=false:=by simp; omega
   have l7:decide ((7:Int)<m)=true:=by simp; omega
   have hf:¬cw (m,n,d,k):=by
    unfold cw
    simp only
    rw[ae (by omega),ae (by omega),ae (by omega),ae (by omega),ae (by omega),ae (by omega),ae (by omega)]; simp
   rw[ah hf]
   simp only[e2,e3,l0,l7,ai,ak,am,F.QR,F.QH,aM,ite_self,dJ,fU,aa]
  ·rw[ae (show ¬(((0:Int)=4)\/((0:Int)=5)\/((0:Int)=6)) by decide)]
   have K:=lc 0 (by omega) n
   by_cases hg:d=[]/\k=0
   ·obtain⟨rfl,rfl⟩:=hg
    simp only[show ((0:Nat):Int)=0 from rfl]at K
    simp[F.QR,F.QH,F.QY,F.Q8,F.QU,F.Q7,F.QN,F.QX,fU,aa,cw,dI,aM,gd,K,G,dJ]
   ·by_cases hd:d=[] <;> by_cases hn:n=0 <;> by_cases hk:k=0 <;> by_cases j:k<0 <;> (try omega) <;>  simp_all [F.QR,F.QH,F.QY,F.Q8,F.QU,F.Q7,F.QN,F.QX,fU,aa,cw,dI,aM,gd,dJ]
  ·rw[ae (show ¬(((1:Int)=4)\/((1:Int)=5)\/((1:Int)=6)) by decide)]
   have K:=lc 1 (by omega) n
   by_cases hg:d=[]/\k=0
   ·obtain⟨rfl,rfl⟩:=hg
    simp only[show ((1:Nat):Int)=1 from rfl]at K
    simp[F.QR,F.QH,F.QY,F.Q8,F.QU,F.Q7,F.QN,F.QX,fU,aa,cw,dI,aM,gd,K,G,dJ]
   ·by_cases hd:d=[] <;> by_cases hn:n=0 <;> by_cases hk:k=0 <;> by_cases j:k<0 <;> (try omega) <;>  simp_all [F.QR,F.QH,F.QY,F.Q8,F.QU,F.Q7,F.QN,F.QX,fU,aa,cw,dI,aM,gd,dJ]
  ·rw[ae (show ¬(((2:Int)=4)\/((2:Int)=5)\/((2:Int)=6)) by decide)]
   have K:=lc 2 (by omega) (UInt64.ofNat d.length)
   by_cases hg:n=0/\k=0
   ·obtain⟨rfl,rfl⟩:=hg
    have N:pK (hd 2 (UInt64.ofNat d.length)) d=some (hd 2 (UInt64.ofNat d.length)++d):=by unfold pK; rw[ah (by have:=i8 2 (UInt64.ofNat d.length); omega)]
    simp only[show ((2:Nat):Int)=2 from rfl]at K
    simp[F.QR,F.QH,F.QY,F.Q8,F.QU,F.Q7,F.QN,F.QX,fU,aa,cw,dI,aM,gd,K,G,dJ,N]
   ·by_cases hd:d=[] <;> by_cases hn:n=0 <;> by_cases hk:k=0 <;> by_cases j:k<0 <;> (try omega) <;>  simp_all [F.QR,F.QH,F.QY,F.Q8,F.QU,F.Q7,F.QN,F.QX,fU,aa,cw,dI,aM,gd,dJ]
  ·rw[ae (show ¬(((3:Int)=4)\/((3:Int)=5)\/((3:Int)=6)) by decide)]
   have K:=lc 3 (by omega) (UInt64.ofNat d.length)
   have Y:F.WV d=some (Lib.validD d):=Li O
   by_cases hg:n=0/\k=0/\Lib.validD d=true
   ·obtain⟨rfl,rfl,hu⟩:=hg
    have N:pK (hd 3 (UInt64.ofNat d.length)) d=some (hd 3 (UInt64.ofNat d.length)++d):=by unfold pK; rw[ah (by have:=i8 3 (UInt64.ofNat d.length); omega)]
    simp only[show ((3:Nat):Int)=3 from rfl]at K
    simp[F.QR,F.QH,F.QY,F.Q8,F.QU,F.Q7,F.QN,F.QX,fU,aa,cw,dI,aM,gd,K,G,dJ,N,Y,hu]
   ·by_cases hu:Lib.validD d=true <;> by_cases hd:d=[] <;> by_cases hn:n=0 <;> by_cases hk:k=0 <;> by_cases j:k<0 <;> (try omega) <;>  simp_all [F.QR,F.QH,F.QY,F.Q8,F.QU,F.Q7,F.QN,F.QX,fU,aa,cw,dI,aM,gd,Y,dJ]
  ·by_cases hg:n=0/\d=[]/\0<=k
   ·obtain⟨rfl,rfl,B⟩:=hg
    have j:¬k<0:=by omega
    have hf:cw (4,0,[],k):=by simp[cw,B]
    rw[ae (show ¬¬cw (4,0,[],k) from fun h=>h hf),ah (show (4:Int)=4\/(4:Int)=5\/(4:Int)=6 by decide)]
    have J:dI (4,0,[],k)=(UInt64.ofInt k):=by simp[dI]
    rw[J]
    cases hs:sub with
    | none=>
     have hw:=A.1 hs
     subst hw
     simp[F.QR,F.QH,F.QY,F.QU,F.QN,F.QX,fU,aa,aM,j,dJ]
    | some rec=>
     have hw:w≠32:=fun h=>by have:=A.2 h; rw[hs]at this; cases this
     have I:((w:Int) == 32)=false:=by simp; omega
     have K:=vN (w:=(w:Int)) (rc:=rc) (rec:=rec) hv (4,0,[],k) 4 (by omega) rfl (UInt64.ofInt k) a y hx B (q rec hs).1 (by rw[R]; exact (q rec hs).2)
     simp[F.QR,F.QH,F.QY,F.QU,F.QN,F.QX,fU,aa,aM,j,I]
     exact K
   ·have hf:¬cw (4,n,d,k):=by simpa [cw] using hg
    rw[ah hf]
    have U:0<=k->Int.tmod k 2=k%2:=fun h=>cI h
    have Z:¬k%2=0->k%2=1:=by omega
    by_cases hd:d=[] <;> by_cases hn:n=0 <;> by_cases hk:k=0 <;> by_cases j:k<0 <;> (try omega) <;>  (try rw[U (by omega)]) <;> simp_all [F.QR,F.QH,F.QY,F.Q8,F.QU,F.Q7,F.QN,F.QX,fU,aa,cw,dI,aM,gd,dJ]
  ·by_cases hg:n=0/\d=[]/\0<=k/\k%2=0
   ·obtain⟨rfl,rfl,B,ab⟩:=hg
    have V:Int.tmod k 2=0:=by rw[cI B]; exact ab
    have X:UInt64.ofInt k / 2=UInt64.ofInt (k / 2):=L8 k B hx
    have j:¬k<0:=by omega
    have hf:cw (5,0,[],k):=by simp[cw,B,ab]
    rw[ae (show ¬¬cw (5,0,[],k) from fun h=>h hf),ah (show (5:Int)=4\/(5:Int)=5\/(5:Int)=6 by decide)]
    have J:dI (5,0,[],k)=(UInt64.ofInt (k / 2)):=by simp[dI]
    rw[J]
    cases hs:sub with
    | none=>
     have hw:=A.1 hs
     subst hw
     simp[F.QR,F.QH,F.QY,F.QU,F.QN,F.QX,fU,aa,aM,j,dJ,V,X]
    | some rec=>
     have hw:w≠32:=fun h=>by have:=A.2 h; rw[hs]at this; cases this
     have I:((w:Int) == 32)=false:=by simp; omega
     have K:=vN (w:=(w:Int)) (rc:=rc) (rec:=rec) hv (5,0,[],k) 5 (by omega) rfl (UInt64.ofInt (k / 2)) a y hx B (q rec hs).1 (by rw[R]; exact (q rec hs).2)
     simp[F.QR,F.QH,F.QY,F.QU,F.QN,F.QX,fU,aa,aM,j,I,V,X]
     exact K
   ·have hf:¬cw (5,n,d,k):=by simpa [cw] using hg
    rw[ah hf]
    have U:0<=k->Int.tmod k 2=k%2:=fun h=>cI h
    have Z:¬k%2=0->k%2=1:=by omega
    by_cases hd:d=[] <;> by_cases hn:n=0 <;> by_cases hk:k=0 <;> by_cases j:k<0 <;> (try omega) <;>  (try rw[U (by omega)]) <;> simp_all [F.QR,F.QH,F.QY,F.Q8,F.QU,F.Q7,F.QN,F.QX,fU,aa,cw,dI,aM,gd,dJ]
  ·by_cases hg:d=[]/\k=1
   ·obtain⟨rfl,rfl⟩:=hg
    have B:(0:Int)<=1:=by omega
    have hf:cw (6,n,[],1):=by simp[cw]
    rw[ae (show ¬¬cw (6,n,[],1) from fun h=>h hf),ah (show (6:Int)=4\/(6:Int)=5\/(6:Int)=6 by decide)]
    have J:dI (6,n,[],1)=n:=by simp[dI]
    rw[J]
    cases hs:sub with
    | none=>
     have hw:=A.1 hs
     subst hw
     simp[F.QR,F.QH,F.QY,F.QU,F.QN,F.QX,fU,aa,aM,dJ]
    | some rec=>
     have hw:w≠32:=fun h=>by have:=A.2 h; rw[hs]at this; cases this
     have I:((w:Int) == 32)=false:=by simp; omega
     have K:=vN (w:=(w:Int)) (rc:=rc) (rec:=rec) hv (6,n,[],1) 6 (by omega) rfl n a y hx B (q rec hs).1 (by rw[R]; exact (q rec hs).2)
     simp[F.QR,F.QH,F.QY,F.QU,F.QN,F.QX,fU,aa,aM,I]
     exact K
   ·have hf:¬cw (6,n,d,k):=by simpa [cw] using hg
    rw[ah hf]
    have U:0<=k->Int.tmod k 2=k%2:=fun h=>cI h
    have Z:¬k%2=0->k%2=1:=by omega
    by_cases hd:d=[] <;> by_cases hn:n=0 <;> by_cases hk:k=0 <;> by_cases j:k<0 <;> (try omega) <;>  (try rw[U (by omega)]) <;> simp_all [F.QR,F.QH,F.QY,F.Q8,F.QU,F.Q7,F.QN,F.QX,fU,aa,cw,dI,aM,gd,dJ]
  ·rw[ae (show ¬(((7:Int)=4)\/((7:Int)=5)\/((7:Int)=6)) by decide)]
   have K:=lc 7 (by omega) n
   simp only[show ((7:Nat):Int)=7 from rfl]at K
   by_cases hg:d=[]/\k=0/\20<=n.toNat/\n.toNat<=22
   ·obtain⟨rfl,rfl,ac,ad⟩:=hg
    have l1:¬n<20:=by simp only[bq]; simpa using ac
    have l2:¬22<n:=by simp only[bq]; simpa using ad
    simp[F.QR,F.QH,F.QY,F.Q8,F.QU,F.Q7,F.QN,F.QX,fU,aa,cw,dI,aM,gd,K,G,dJ,l1,l2,ac,ad]
   ·have hf:¬cw (7,n,d,k):=by simpa [cw] using hg
    rw[ah hf]
    have l3:¬n<20->20<=n.toNat:=by simp only[bq]; simp
    have l4:¬22<n->n.toNat<=22:=by simp only[bq]; simp
    by_cases l1:n<20 <;> by_cases l2:22<n <;> by_cases hd:d=[] <;> by_cases hn:n=0 <;> by_cases hk:k=0 <;> by_cases j:k<0 <;> (try omega) <;>  simp_all [F.QR,F.QH,F.QY,F.Q8,F.QU,F.Q7,F.QN,F.QX,fU,aa,cw,dI,aM,gd,dJ]
 ·have d1:decide ((v.length:Int)<=(a:Int))=true:=by simp; omega
  simp only[d1,am,dA b3,dJ,fU,aa]
theorem wS {v:List It} (j:wt v<=4000000000000) (q:Kd v) (hU:∀x∈v,x.2.2.1.length<=2000000):∀(d k:Nat),d<=32->d<k->Bh v (F.UQ k) ((32 - d:Nat):Int) (cF d v)
 | 0,k+1,_,_=>by
  simp only[F.UQ,cF]
  exact xt j q hU (by omega) (by simp) (by simp)
 | d+1,k+1,h1,h2=>by
  simp only[F.UQ,cF]
  refine xt j q hU (by omega) (by simp; omega) (fun rec y=>?_)
  cases y
  rw[show 32 - (d+1)+1=32 - d by omega]
  exact⟨iB v d,wS j q hU d k (by omega) (by omega)⟩
 | 0,0,_,h=>by omega
 | _+1,0,_,h=>by omega
theorem KQ {v:List It} (j:wt v<=4000000000000) (q:Kd v) (hU:∀x∈v,x.2.2.1.length<=2000000):F.Yn v 0 0=some (dJ [] (cF 32 v 0)):=
 wS j q hU 32 64 (by omega) (by omega) 0 (by omega)
theorem Aw {v:List It} (j:wt v<=4000000000000) (q:Kd v) (hU:∀x∈v,x.2.2.1.length<=2000000):F.XE v=some (io v):=by
 rw[<-nf j q]
 unfold F.XE F.S7
 rw[KQ j q hU,tl j q]
def nbN (l:Y3):Nat:=l.foldl (fun a c=>256*a+c.toNat) 0
theorem J6 (l:Y3):∀(N:Nat),l.foldl (fun a c=>256*a+c.toUInt64) (UInt64.ofNat N)=UInt64.ofNat (l.foldl (fun a c=>256*a+c.toNat) N):=by
 induction l with
 | nil=>intro N; rfl
 | cons c r ih=>
  intro N
  simp only[d9]
  rw[<-ih]
  congr 1
  apply cA.1
  rw[fI,iQ]
  simp
theorem JP (l:Y3):nbe l=UInt64.ofNat (nbN l):=J6 l 0
theorem Kn (l:Y3):∀a,l.foldl (fun a c=>256*a+c.toNat) a=a*256^l.length+nbN l:=by
 induction l with
 | nil=>intro a; simp[nbN]
 | cons c r ih=>
  intro a
  simp only[nbN,d9,cg]
  rw[ih,ih (256*0+c.toNat),bn]
  simp only[cK,bh,aW]
  have:256*a*256^r.length=a*(256^r.length*256):=by rw[aN 256 a,aF,aN 256]
  omega
theorem HA (c:UInt8) (r:Y3):nbN (c :: r)=c.toNat*256^r.length+nbN r:=by
 have:=Kn r (256*0+c.toNat)
 simp only[nbN,d9]
 simpa [nbN] using this
theorem F2:∀(k:Nat) (n:UInt64),k<=8->nbN (be k n)=n.toNat%256^k
 | 0,n,_=>by simp[be,nbN,Nat.mod_one]
 | k+1,n,h=>by
  rw[be,HA,ou,F2 k n (by omega)]
  have e:((bb n (8*k)).toUInt8).toNat=n.toNat / 256^k%256:=by
   have:min (8*k) 64=8*k:=by omega
   rw[UInt64.toNat_toUInt8,iO,this,dh]
  rw[e,bn,Nat.mod_mul,aN (256^k),ch]
theorem Nb (k:Nat) (n:UInt64) (j:k<=8) (h:n.toNat<256^k):nbe (be k n)=n:=by
 rw[JP,F2 k n j,ax h]; simp
theorem Oj (n:UInt64):wd n=0\/n.toNat<256^wd n:=by
 have:=n.toNat_lt
 unfold wd
 repeat' split
 all_goals first
  | exact .inl rfl
  | (right; rename_i h; simp only[bq]at h; simpa using h)
  | (right; simpa using this)
theorem Mk {k:Nat} (h:k=1\/k=2\/k=4\/k=8):2^lg k=k/\lg k<=3:=by
 rcases h with rfl | rfl | rfl | rfl <;> simp[lg]
theorem yM (p q:Y3) (m:Nat) (n:UInt64) (hm:m<8) (I:m=7->20<=n.toNat/\n.toNat<=22) :
  lT (p++hd m n++q) p.length=.ok (m,n,p.length+(hd m n).length):=by
 have hl:=zd m n
 unfold lT
 by_cases h0:wd n=0
 ·have hn:=wd0 h0
  have hh:hd m n=[UInt8.ofNat (32*m)+n.toUInt8]:=by unfold hd; rw[ah h0]
  have j:(p++hd m n++q)[p.length]? = some (UInt8.ofNat (32*m)+n.toUInt8):=by rw[hh]; simp
  have hc:(UInt8.ofNat (32*m)+n.toUInt8).toNat=32*m+n.toNat:=by
   rw[UInt8.toNat_add]; simp; omega
  simp only[j]
  generalize (UInt8.ofNat (32*m)+n.toUInt8)=c at hc
  rw[hl,h0,hc]
  have y:(32*m+n.toNat)%32=n.toNat:=by omega
  have A:(32*m+n.toNat) / 32=m:=by omega
  rw[y,A,ae (by omega),ah hn]
  simp
 ·have U:=tI n
  have B:wd n=1\/wd n=2\/wd n=4\/wd n=8:=by omega
  obtain⟨G,J⟩:=Mk B
  have hh:hd m n=UInt8.ofNat (32*m+24+lg (wd n)) :: be (wd n) n:=by unfold hd; rw[ae h0]
  have R:m≠7:=by
   intro h
   have:=I h
   apply h0
   unfold wd
   rw[ah (by simp only[bq]; simp; omega)]
  have j:(p++hd m n++q)[p.length]? = some (UInt8.ofNat (32*m+24+lg (wd n))):=by rw[hh]; simp
  have hc:(UInt8.ofNat (32*m+24+lg (wd n))).toNat=32*m+24+lg (wd n):=by simp; omega
  have N:((p++hd m n++q).drop (p.length+1)).take (wd n)=be (wd n) n:=by
   rw[hh,aP,List.drop_append,gj (by omega)]
   simp[ou]
  have O:(p++hd m n++q).length=p.length+(1+wd n)+q.length:=by simp only[ay,hl]
  simp only[j]
  generalize (UInt8.ofNat (32*m+24+lg (wd n)))=c at hc
  rw[hc]
  have y:(32*m+24+lg (wd n))%32=24+lg (wd n):=by omega
  have A:(32*m+24+lg (wd n)) / 32=m:=by omega
  rw[y,A,ae (by omega),ae (by omega),show 24+lg (wd n) - 24=lg (wd n) by omega,G,ae (by omega),N,
   Nb _ _ (Jv n) ((Oj n).resolve_left h0),ae (by simp),hl]
  simp; omega
def seg (v:List It) (i j:Nat):List It:=(v.drop i).take (j - i)
theorem og {b:List It} {i j k:Nat} (h:i<=j) (q:j<=k):seg b i j++seg b j k=seg b i k:=by
 unfold seg
 rw[show k - i=(j - i)+(k - j) by omega,List.take_add,f6,show i+(j - i)=j by omega]
theorem A7 (b:List It) (i:Nat):seg b i i=[]:=by simp[seg]
theorem KN {v:List It} {i:Nat} (h:i<v.length):seg v i (i+1)=[v[i]]:=by
 unfold seg; rw[bk h,show i+1 - i=1 by omega,List.take_succ_cons,gS]
def Pos (wr:Wr):Prop:=∀i t j,wr i=some (t,j)->1<=t.length
theorem MH (m:Nat) (n:UInt64):1<=(hd m n).length:=by rw[zd]; omega
theorem FU (v:List It) (sub:Option Wr):Pos (fv v sub):=by
 intro i t j h
 unfold fv at h
 split at h
 ·cases h
 ·rename_i x hx
  have:=MH x.1.toNat (dI x)
  split at h
  ·cases h
  ·split at h
   ·cases sub with
    | none=>cases h
    | some rec=>
     simp only at h
     split at h
     ·cases h
     ·cases h; simp only[ay]; omega
   ·cases h; simp only[ay]; omega
theorem IF (v:List It) (d:Nat):Pos (cF d v):=by cases d <;> exact FU v _
def WT (v:List It) (wr:Wr) (rd:Y3->Rd):Prop:=
 ∀(i:Nat) (t:Y3) (j:Nat) (p q:Y3),wr i=some (t,j)->rd (p++t++q) p.length=.ok (p.length+t.length,seg v i j)
theorem vA {v:List It} {B:Wr} {J:Y3->Rd} (hp:Put v B) (G:Pos B) (h:WT v B J) (last:Option Y3):∀(r f i:Nat) (t:Y3) (j:Nat) (p q:Y3) (y:Bool),
  cV B false r y last i=some (t,j)->i<=v.length->r<=f->gE (J (p++t++q)) f r p.length=.ok (p.length+t.length,seg v i j)/\r<=t.length
 | 0,f,i,t,j,p,q,y,h1,hi,h2=>by
  simp only[cV]at h1
  cases h1
  cases f <;> simp[gE,A7]
 | r+1,0,i,t,j,p,q,y,h1,hi,h2=>by omega
 | r+1,f+1,i,t,j,p,q,y,h1,hi,h2=>by
  simp only[cV]at h1
  cases h3:B i with
  | none=>rw[h3]at h1; cases h1
  | some a=>
   obtain⟨A,I⟩:=a
   rw[h3]at h1
   simp only[dV,ai,ak]at h1
   cases h4:cV B false r (!y) last I with
   | none=>rw[h4]at h1; cases h1
   | some b=>
    obtain⟨u,k⟩:=b
    rw[h4]at h1
    simp only at h1
    cases h1
    obtain⟨V,N,_⟩:=hp i A I h3
    have X:=kw hp _ _ _ _ _ _ _ N h4
    have R:=h i A I p (u++q) h3
    have U:=vA hp G h last r f I u j (p++A) q (!y) h4 N (by omega)
    have Y:=G i A I h3
    simp only[gE]
    rw[show p++(A++u)++q=p++A++(u++q) by simp,R]
    simp only
    have O:=U.1
    rw[show p++A++u++q=p++A++(u++q) by simp,ay]at O
    rw[O]
    simp only
    rw[og (by omega) (by omega)]
    refine⟨by simp; omega,by simp; omega⟩
theorem A8 (p t q:Y3):part (p++t++q) p.length (p.length+t.length)=t:=by
 unfold part
 rw[aP,List.drop_left,show p.length+t.length - p.length=t.length by omega,eD]
theorem tJ {v:List It} {B:Wr} {O:Y3->Rd} (hp:Put v B) (I:Pos B) (h:WT v B O):∀(r f i:Nat) (t:Y3) (j:Nat) (p q:Y3) (last:Option Y3),
  cV B true (2*r) true last i=some (t,j)->i<=v.length->r<=f->gk (O (p++t++q)) (p++t++q) f r last p.length=.ok (p.length+t.length,seg v i j)/\r<=t.length
 | 0,f,i,t,j,p,q,last,h1,hi,h2=>by
  simp only[cV]at h1
  cases h1
  cases f <;> simp[gk,A7]
 | r+1,0,i,t,j,p,q,last,h1,hi,h2=>by omega
 | r+1,f+1,i,t,j,p,q,last,h1,hi,h2=>by
  rw[show 2*(r+1)=2*r+1+1 by omega]at h1
  simp only[cV]at h1
  cases h3:B i with
  | none=>rw[h3]at h1; cases h1
  | some a=>
   obtain⟨y,G⟩:=a
   rw[h3]at h1
   simp only[el,dB,dV,Bool.and_false,ai,ak,am]at h1
   split at h1
   ·cases h1
   ·rename_i R
    have N:ju last y=true:=by simpa using R
    cases h4:B G with
    | none=>rw[h4]at h1; cases h1
    | some b=>
     obtain⟨A,J⟩:=b
     rw[h4]at h1
     simp only[iJ]at h1
     cases h5:cV B true (2*r) true (some y) J with
     | none=>rw[h5]at h1; cases h1
     | some c=>
      obtain⟨u,k⟩:=c
      rw[h5]at h1
      simp only at h1
      cases h1
      obtain⟨m1,m2,_⟩:=hp i y G h3
      obtain⟨m3,U,_⟩:=hp G A J h4
      have m5:=kw hp _ _ _ _ _ _ _ U h5
      have Y:=h i y G p (A++(u++q)) h3
      have V:=h G A J (p++y) (u++q) h4
      have Z:=tJ hp I h r f J u j (p++y++A) q (some y) h5 U (by omega)
      have e5:=I i y G h3
      have ek:=A8 p y (A++(u++q))
      simp only[gk]
      have b1:p++(y++(A++u))++q=p++y++(A++(u++q)):=by simp
      have b2:p++y++A++(u++q)=p++y++(A++(u++q)):=by simp
      have b3:p++y++A++u++q=p++y++(A++(u++q)):=by simp
      rw[b1,Y]
      simp only
      rw[ek,N]
      simp only[Bool.true_eq_false,ak]
      rw[b2,ay]at V
      rw[V]
      simp only
      have X:=Z.1
      rw[b3,ay,ay]at X
      rw[X]
      simp only
      rw[og (by omega) (by omega),og (by omega) (by omega)]
      refine⟨by simp; omega,by simp; omega⟩
theorem C8 {v:List It} {sw:Option Wr} {sd:Y3->Option Rd} (hK:∀x∈v,x.2.2.2<=9223372036854775807) (hB:∀x∈v,x.2.2.1.length<18446744073709551616)
  (h:∀O,sw=some O->Put v O/\Pos O/\∃rd,(∀b,sd b=some (rd b))/\WT v O rd):WT v (fv v sw) (fun b=>ld b (sd b)):=by
 intro i t j p q B
 unfold fv at B
 cases hx:v[i]? with
 | none=>rw[hx]at B; cases B
 | some x=>
  obtain⟨hi,Y⟩:=aD.1 hx
  have bT:=hK x (Y ▸ cC hi)
  have b2:=hB x (Y ▸ cC hi)
  have I:=KN hi
  rw[hx]at B
  obtain⟨m,n,d,k⟩:=x
  rw[Y]at I
  simp only at B bT b2
  split at B
  ·cases B
  ·rename_i hf
   have y:cw (m,n,d,k):=Classical.not_not.1 hf
   have hm:0<=m/\m<8:=by
    rcases mW m with hm | hm | rfl | rfl | rfl | rfl | rfl | rfl | rfl | rfl <;> first | omega | (exfalso; revert y; unfold cw; simp only; rw[ae (by omega),ae (by omega),ae (by omega),ae (by omega),ae (by omega),ae (by omega),ae (by omega)]; simp)
   obtain⟨M,rfl⟩:=fw hm.1
   have h7:M=7->20<=(dI ((M:Int),n,d,k)).toNat/\(dI ((M:Int),n,d,k)).toNat<=22:=by
    rintro rfl
    have:dI (((7:Nat):Int),n,d,k)=n:=rfl
    rw[this]
    have:=y
    unfold cw at this
    simp at this
    exact⟨this.2.2.1,this.2.2.2⟩
   simp only[aq]at B
   split at B
   ·rename_i Z
    cases sw with
    | none=>cases B
    | some O=>
     obtain⟨hp,J,rd,b4,R⟩:=h O rfl
     simp only at B
     cases h2:cV O ((M:Int) == 5) k.toNat true none (i+1) with
     | none=>rw[h2]at B; cases B
     | some a=>
      obtain⟨u,j1⟩:=a
      rw[h2]at B
      simp only at B
      cases B
      have hh:=yM p (u++q) M (dI ((M:Int),n,d,k)) (by omega) h7
      rw[show p++hd M (dI ((M:Int),n,d,k))++(u++q)=p++(hd M (dI ((M:Int),n,d,k))++u)++q by simp]at hh
      simp only[ld,hh]
      rw[ah (show M=4\/M=5\/M=6 by omega),b4]
      simp only[AT]
      have m5:=kw hp _ _ _ _ _ _ _ (by omega) h2
      have U:(p++(hd M (dI ((M:Int),n,d,k))++u)++q).length=p.length+(hd M (dI ((M:Int),n,d,k))).length+u.length+q.length:=by simp; omega
      by_cases h4:M=4
      ·subst h4
       have hc:n=0/\d=[]/\0<=k:=by simpa [cw] using y
       obtain⟨rfl,rfl,h0⟩:=hc
       have N:dI (((4:Nat):Int),(0:UInt64),([]:Y3),k)=UInt64.ofInt k:=rfl
       have V:(UInt64.ofInt k).toNat=k.toNat:=by
        obtain⟨A,rfl⟩:=fw h0
        rw[gd]; simp; omega
       have X:(((4:Nat):Int) == 5)=false:=rfl
       rw[X]at h2
       rw[N]at U ⊢
       have e1:=vA hp J R none _ k.toNat _ _ _ (p++hd 4 (UInt64.ofInt k)) q true h2 (by omega) (by omega)
       have G:=vA hp J R none _ ((p++(hd 4 (UInt64.ofInt k)++u)++q).length+1) _ _ _ (p++hd 4 (UInt64.ofInt k)) q true h2 (by omega) (by omega)
       rw[show p++hd 4 (UInt64.ofInt k)++u++q=p++(hd 4 (UInt64.ofInt k)++u)++q by simp]at G
       rw[ah rfl,V]
       rw[show (p++hd 4 (UInt64.ofInt k)).length=p.length+(hd 4 (UInt64.ofInt k)).length from ay]at G
       rw[G.1]
       simp only
       have:((k.toNat:Nat):Int)=k:=by omega
       rw[this,show (((4:Nat):Int),(0:UInt64),([]:Y3),k)=((4:Int),(0:UInt64),([]:Y3),k) from rfl]at *
       rw[show (4,0,[],k) :: seg v (i+1) j=[(4,0,[],k)]++seg v (i+1) j from rfl,<-I,og (by omega) (by omega)]
       simp; omega
      ·by_cases h5:M=5
       ·subst h5
        have hc:n=0/\d=[]/\0<=k/\k%2=0:=by simpa [cw] using y
        obtain⟨rfl,rfl,h0,cf⟩:=hc
        have N:dI (((5:Nat):Int),(0:UInt64),([]:Y3),k)=UInt64.ofInt (k / 2):=rfl
        obtain⟨A,rfl⟩:=fw h0
        have V:(UInt64.ofInt ((A:Int) / 2)).toNat=A / 2:=by
         rw[show ((A:Int) / 2)=((A / 2:Nat):Int) by simp,gd]; simp; omega
        have X:(((5:Nat):Int) == 5)=true:=rfl
        have b5:((A:Int)).toNat=2*(A / 2):=by simp; omega
        rw[X,b5]at h2
        rw[N]at U ⊢
        have e1:=tJ hp J R _ (A / 2) _ _ _ (p++hd 5 (UInt64.ofInt ((A:Int) / 2))) q none h2 (by omega) (by omega)
        have G:=tJ hp J R _ ((p++(hd 5 (UInt64.ofInt ((A:Int) / 2))++u)++q).length+1) _ _ _ (p++hd 5 (UInt64.ofInt ((A:Int) / 2))) q none h2 (by omega) (by omega)
        rw[show p++hd 5 (UInt64.ofInt ((A:Int) / 2))++u++q=p++(hd 5 (UInt64.ofInt ((A:Int) / 2))++u)++q by simp]at G
        rw[ae (by decide),ah rfl,V]
        rw[show (p++hd 5 (UInt64.ofInt ((A:Int) / 2))).length=p.length+(hd 5 (UInt64.ofInt ((A:Int) / 2))).length from ay]at G
        rw[G.1]
        simp only
        have:2*((A / 2:Nat):Int)=(A:Int):=by omega
        rw[this]
        rw[show ((5:Int),(0:UInt64),([]:Y3),(A:Int)) :: seg v (i+1) j=[((5:Int),(0:UInt64),([]:Y3),(A:Int))]++seg v (i+1) j from rfl,
         show [((5:Int),(0:UInt64),([]:Y3),(A:Int))]=seg v i (i+1) from I.symm,og (by omega) (by omega)]
        simp; omega
       ·have h6:M=6:=by omega
        subst h6
        have hc:d=[]/\k=1:=by simpa [cw] using y
        obtain⟨rfl,rfl⟩:=hc
        have N:dI (((6:Nat):Int),n,([]:Y3),1)=n:=rfl
        have X:(((6:Nat):Int) == 5)=false:=rfl
        rw[X,show (1:Int).toNat=1 from rfl]at h2
        rw[N]at U ⊢
        simp only[cV]at h2
        cases h8:O (i+1) with
        | none=>rw[h8]at h2; cases h2
        | some c=>
         obtain⟨t1,j2⟩:=c
         rw[h8]at h2
         simp only[dV,ai,ak,bR]at h2
         cases h2
         have G:=R _ _ _ (p++hd 6 n) q h8
         rw[show p++hd 6 n++u++q=p++(hd 6 n++u)++q by simp,ay]at G
         rw[ae (by decide),ae (by decide),G]
         simp only
         rw[show ((6:Int),n,([]:Y3),(1:Int)) :: seg v (i+1) j=[((6:Int),n,([]:Y3),(1:Int))]++seg v (i+1) j from rfl,
          show [((6:Int),n,([]:Y3),(1:Int))]=seg v i (i+1) from I.symm,og (by omega) (by omega)]
         simp; omega
   ·rename_i Z
    cases B
    have hh:=yM p (d++q) M (dI ((M:Int),n,d,k)) (by omega) h7
    rw[show p++hd M (dI ((M:Int),n,d,k))++(d++q)=p++(hd M (dI ((M:Int),n,d,k))++d)++q by simp]at hh
    simp only[ld,hh]
    rw[ae (show ¬(M=4\/M=5\/M=6) by omega)]
    have U:(p++(hd M (dI ((M:Int),n,d,k))++d)++q).length=p.length+(hd M (dI ((M:Int),n,d,k))).length+d.length+q.length:=by simp; omega
    by_cases h23:M=2\/M=3
    ·have N:dI ((M:Int),n,d,k)=UInt64.ofNat d.length:=by
      simp only[dI]; rw[ah (by omega)]
     have V:(UInt64.ofNat d.length).toNat=d.length:=by simp; omega
     have hc:n=0/\k=0/\(M=3->Lib.validD d=true):=by
      rcases h23 with rfl | rfl
      ·have:=y; simp[cw]at this; exact⟨this.1,this.2,by omega⟩
      ·have:=y; simp[cw]at this; exact⟨this.1,this.2.1,fun _=>this.2.2⟩
     obtain⟨rfl,rfl,aS⟩:=hc
     rw[N]at U ⊢
     have ac:=A8 (p++hd M (UInt64.ofNat d.length)) d q
     rw[show p++hd M (UInt64.ofNat d.length)++d++q=p++(hd M (UInt64.ofNat d.length)++d)++q by simp,ay]at ac
     rw[ah h23,V,ae (by omega),ac,ae (by rintro⟨h3,h4⟩; rw[aS h3]at h4; cases h4),I]
     simp; omega
    ·have bx:M=0\/M=1\/M=7:=by omega
     have N:dI ((M:Int),n,d,k)=n:=by
      simp only[dI]; rw[ae (by omega),ae (by omega),ae (by omega)]
     have hc:d=[]/\k=0:=by
      rcases bx with rfl | rfl | rfl
      ·simpa [cw] using y
      ·simpa [cw] using y
      ·have:=y; simp[cw]at this; exact⟨this.1,this.2.1⟩
     obtain⟨rfl,rfl⟩:=hc
     rw[ae h23,N,I]
     simp
theorem Cr (v:List It) (hK:∀x∈v,x.2.2.2<=9223372036854775807) (j:∀x∈v,x.2.2.1.length<18446744073709551616):∀d,WT v (cF d v) (fun b=>li d b)
 | 0=>C8 (sd:=fun _=>none) hK j (by simp)
 | d+1=>C8 (sd:=fun b=>some (li d b)) hK j (by intro q h; cases h; exact⟨iB v d,IF v d,_,fun _=>rfl,Cr v hK j d⟩)
def uj (b:Y3) (rd:Rd):Prop:=∀i j is,i<=b.length->rd i=.ok (j,is)->∀x∈is,x.2.2.1.length<=b.length/\x.2.2.2<=2*(b.length:Int)
theorem vi {b:Y3} {y:Rd} (hm:mx b y) (h:uj b y):∀(f n i j:Nat) (is:List It),i<=b.length->gE y f n i=.ok (j,is)->∀x∈is,x.2.2.1.length<=b.length/\x.2.2.2<=2*(b.length:Int)
 | f,0,i,j,is,hi,h1=>by
  have:(i,([]:List It))=(j,is):=by cases f <;> (simp only[gE]at h1; cases h1; rfl)
  cases this; simp
 | 0,n+1,i,j,is,hi,h1=>by simp only[gE]at h1; cases h1
 | f+1,n+1,i,j,is,hi,h1=>by
  simp only[gE]at h1
  cases h2:y i with
  | error e=>rw[h2]at h1; cases h1
  | ok p=>
   obtain⟨A,I⟩:=p
   rw[h2]at h1
   simp only at h1
   obtain⟨J,B,_⟩:=hm.1 _ _ _ h2
   cases h3:gE y f n A with
   | error e=>rw[h3]at h1; cases h1
   | ok q=>
    obtain⟨k,G⟩:=q
    rw[h3]at h1
    cases h1
    intro x hx
    rcases bG.1 hx with hx | hx
    ·exact h _ _ _ hi h2 x hx
    ·exact vi hm h f n A _ G B h3 x hx
theorem sS {b:Y3} {q:Rd} (hm:mx b q) (h:uj b q):∀(f n:Nat) (last:Option Y3) (i j:Nat) (is:List It),i<=b.length->gk q b f n last i=.ok (j,is)->∀x∈is,x.2.2.1.length<=b.length/\x.2.2.2<=2*(b.length:Int)
 | f,0,last,i,j,is,hi,h1=>by
  have:(i,([]:List It))=(j,is):=by cases f <;> (simp only[gk]at h1; cases h1; rfl)
  cases this; simp
 | 0,n+1,last,i,j,is,hi,h1=>by simp only[gk]at h1; cases h1
 | f+1,n+1,last,i,j,is,hi,h1=>by
  simp only[gk]at h1
  cases h2:q i with
  | error e=>rw[h2]at h1; cases h1
  | ok p=>
   obtain⟨y,G⟩:=p
   rw[h2]at h1
   simp only at h1
   obtain⟨I,A,_⟩:=hm.1 _ _ _ h2
   split at h1
   ·cases h1
   ·cases h3:q y with
    | error e=>rw[h3]at h1; cases h1
    | ok r=>
     obtain⟨k,J⟩:=r
     rw[h3]at h1
     simp only at h1
     obtain⟨N,B,_⟩:=hm.1 _ _ _ h3
     cases h4:gk q b f n (some (part b i y)) k with
     | error e=>rw[h4]at h1; cases h1
     | ok s=>
      obtain⟨l,ks⟩:=s
      rw[h4]at h1
      cases h1
      intro x hx
      rcases bG.1 hx with hx | hx
      ·rcases bG.1 hx with hx | hx
       ·exact h _ _ _ hi h2 x hx
       ·exact h _ _ _ A h3 x hx
      ·exact sS hm h f n _ k _ ks B h4 x hx
theorem ul {b:Y3} {sub:Option Rd} (h:∀y,sub=some y->mx b y/\uj b y):uj b (ld b sub):=by
 intro i j is hi q
 unfold ld at q
 cases h2:lT b i with
 | error e=>rw[h2]at q; cases q
 | ok p=>
  obtain⟨m,n,B⟩:=p
  rw[h2]at q
  obtain⟨J,A,N⟩:=tH h2
  simp only at q
  split at q
  ·cases sub with
   | none=>cases q
   | some y=>
    obtain⟨hm,hs⟩:=h y rfl
    simp only[AT]at q
    split at q
    ·cases h5:gE y (b.length+1) n.toNat B with
     | error e=>rw[h5]at q; cases q
     | ok r=>
      obtain⟨k,G⟩:=r
      rw[h5]at q; cases q
      have I:=(pn hm _ _ _ A).1 _ _ h5
      intro x hx
      rcases aJ.1 hx with rfl | hx
      ·simp; omega
      ·exact vi hm hs _ _ _ _ _ A h5 x hx
    ·split at q
     ·cases h5:gk y b (b.length+1) n.toNat none B with
      | error e=>rw[h5]at q; cases q
      | ok r=>
       obtain⟨k,G⟩:=r
       rw[h5]at q; cases q
       have I:=(ox hm _ _ _ _ A).1 _ _ h5
       intro x hx
       rcases aJ.1 hx with rfl | hx
       ·simp; omega
       ·exact sS hm hs _ _ _ _ _ _ A h5 x hx
     ·cases h5:y B with
      | error e=>rw[h5]at q; cases q
      | ok r=>
       obtain⟨k,G⟩:=r
       rw[h5]at q; cases q
       intro x hx
       rcases aJ.1 hx with rfl | hx
       ·simp; omega
       ·exact hs _ _ _ A h5 x hx
  ·split at q
   ·split at q
    ·cases q
    ·split at q
     ·cases q
     ·cases q
      intro x hx
      obtain rfl:=List.mem_singleton.1 hx
      simp[part]; omega
   ·cases q
    intro x hx
    obtain rfl:=List.mem_singleton.1 hx
    exact⟨by simp,by simp only; omega⟩
theorem sX (b:Y3):∀d,uj b (li d b)
 | 0=>ul (by simp)
 | d+1=>ul (by intro j h; cases h; exact⟨km b d,sX b d⟩)
theorem Oa {v:List It} {D:Nat} (h:∀x∈v,x.2.2.1.length<=D):wt v<=v.length*(9+D):=by
 induction v with
 | nil=>simp[wt]
 | cons x r ih=>
  have q:=ih (fun y j=>h y (dS _ j))
  have A:=h x (by simp)
  simp only[wt,cg,aW]
  omega
def tO (v:List It):Prop:=wt v<=5000000000/\(∀x∈v,x.2.2.2<=131072)/\(∀x∈v,x.2.2.1.length<=65536)
theorem tO.kd {v:List It} (h:tO v):Kd v:=fun x hx=>by have:=h.2.1 x hx; omega
theorem tO.wt {v:List It} (h:tO v):wt v<=4000000000000:=by have:=h.1; omega
theorem tO.bt {v:List It} (h:tO v):∀x∈v,x.2.2.1.length<18446744073709551616:=fun x hx=>by have:=h.2.2 x hx; omega
theorem Lz {b:Y3} {d j:Nat} {is:List It} (q:b.length<=65536) (h:li d b 0=.ok (j,is)):tO is:=by
 have hs:=sX b d 0 j is (by omega) h
 have hm:=(km b d).1 _ _ _ h
 have hw:=Oa (v:=is) (D:=65536) (fun x hx=>by have:=(hs x hx).1; omega)
 have y:is.length*(9+65536)<=65536*(9+65536):=aR _ (by omega)
 exact⟨by omega,fun x hx=>by have:=(hs x hx).2; omega,fun x hx=>by have:=(hs x hx).1; omega⟩
theorem BJ (b:Y3):(∃is,b.length<=65536/\li 32 b 0=.ok (b.length,is)/\jP b=(is,0,0))\/(∃e p,e≠0/\0<=p/\p<=(b.length:Int)/\jP b=([],e,p)):=by
 unfold jP
 split
 ·exact .inr ⟨10,0,by simp,by omega,by omega,rfl⟩
 ·rename_i q
  cases h:li 32 b 0 with
  | error e=>
   have:=(km b 32).2 0 e h (by omega)
   exact .inr ⟨e.1,e.2,this.1,this.2.1,this.2.2,rfl⟩
  | ok p=>
   obtain⟨j,is⟩:=p
   have:=(km b 32).1 _ _ _ h
   simp only
   by_cases hj:j<b.length
   ·rw[ah hj]; exact .inr ⟨220,j,by simp,by omega,by omega,rfl⟩
   ·rw[ae hj]
    have:j=b.length:=by omega
    subst this
    exact .inl ⟨is,by omega,rfl,rfl⟩
theorem BS {v:List It} {d j:Nat} {t:Y3} (hK:Kd v) (q:∀x∈v,x.2.2.1.length<18446744073709551616) (h:cF d v 0=some (t,j)):li d t 0=.ok (t.length,v.take j):=by
 have:=Cr v hK q d 0 t j [] [] h
 simpa [seg] using this
theorem ye {v:List It} {t:Y3} (hK:Kd v) (y:∀x∈v,x.2.2.1.length<18446744073709551616) (h:oM v=(t,0)):jP t=(v,0,0)/\t.length<=65536:=by
 unfold oM at h
 cases h1:cF 32 v 0 with
 | none=>rw[h1]at h; cases h
 | some a=>
  obtain⟨u,j⟩:=a
  rw[h1]at h
  simp only at h
  split at h
  ·rename_i A
   split at h
   ·cases h
   ·cases h
    have q:=BS hK y h1
    rw[A,dk]at q
    refine⟨?_,by omega⟩
    unfold jP
    rw[ae (by omega),q]
    simp
  ·cases h
def Beh (v:List It) (f:Int×Int->Option ((Int×Int)⊕Int)) (wr:Wr) (N:Nat):Prop:=
 ∀i t j (n:Nat),wr i=some (t,j)->n<=N->loop f ((i:Int),((n+1:Nat):Int))=loop f ((j:Int),(n:Int))
def yh (v:List It) (f:Int×Int->Option ((Int×Int)⊕Int)):Prop:=
 ∀(i n k:Nat) (hi:i<v.length),v[i].2.2.2=(k:Int)->n+k<=1000000000000000000->i<=1000000000000000000->f ((i:Int),((n+1:Nat):Int))=some (.inl (((i+1:Nat):Int),((n+k:Nat):Int)))
theorem GH (v:List It):yh v (F.WG v):=by
 intro i n k hi j B G
 have hd:decide ((0:Int)<((n+1:Nat):Int))=true:=by simp only[ar]; omega
 simp only[F.WG,hd,am,cd hi,aa,aM,j]
 have q:wI ((k:Int) - 1)=(k:Int) - 1:=aO (by omega) (by omega)
 have y:wI (((n+1:Nat):Int)+((k:Int) - 1))=((n+k:Nat):Int):=by rw[aO (by omega) (by omega)]; omega
 have A:wI ((i:Int)+1)=((i+1:Nat):Int):=by rw[aO (by omega) (by omega)]; simp
 rw[q,y,A]; rfl
theorem Is (v:List It):yh v (F.X5 v):=by
 intro i n k hi j B G
 have hd:decide ((0:Int)<((n+1:Nat):Int))=true:=by simp only[ar]; omega
 simp only[F.X5,hd,am,cd hi,aa,aM,j]
 have q:wI (((n+1:Nat):Int) - 1)=(n:Int):=by rw[aO (by omega) (by omega)]; omega
 have y:wI ((n:Int)+(k:Int))=((n+k:Nat):Int):=by rw[aO (by omega) (by omega)]; omega
 have A:wI ((i:Int)+1)=((i+1:Nat):Int):=by rw[aO (by omega) (by omega)]; simp
 rw[q,y,A]; rfl
theorem zD {v:List It} {f:Int×Int->Option ((Int×Int)⊕Int)} {y:Wr} {N:Nat} (hp:Put v y) (h:Beh v f y N) (A:Bool):∀(r:Nat) (q:Bool) (last:Option Y3) (i:Nat) (t:Y3) (j n:Nat),
  cV y A r q last i=some (t,j)->n+r<=N->loop f ((i:Int),((n+r:Nat):Int))=loop f ((j:Int),(n:Int))
 | 0,q,last,i,t,j,n,h1,h2=>by
  simp only[cV]at h1; cases h1; rfl
 | r+1,q,last,i,t,j,n,h1,h2=>by
  simp only[cV]at h1
  cases h3:y i with
  | none=>rw[h3]at h1; cases h1
  | some a=>
   obtain⟨G,B⟩:=a
   rw[h3]at h1
   simp only at h1
   split at h1
   ·cases h1
   ·cases h4:cV y A r (!q) (if (A&&q)=true then some G else last) B with
    | none=>rw[h4]at h1; cases h1
    | some b=>
     obtain⟨u,k⟩:=b
     rw[h4]at h1
     cases h1
     rw[show n+(r+1)=(n+r)+1 by omega,h i G B (n+r) h3 (by omega)]
     exact zD hp h A r _ _ B u j n h4 (by omega)
theorem zE {x:It} (h:cw x):0<=x.2.2.2/\(¬(x.1=4\/x.1=5\/x.1=6)->x.2.2.2=0):=by
 obtain⟨m,n,d,k⟩:=x
 simp only
 rcases mW m with hm | hm | rfl | rfl | rfl | rfl | rfl | rfl | rfl | rfl <;> first
  | (exfalso; revert h; unfold cw; simp only; rw[ae (by omega),ae (by omega),ae (by omega),ae (by omega),ae (by omega),ae (by omega),ae (by omega)]; simp; done)
  | (simp[cw]at h; omega)
theorem A1 {v:List It} {f:Int×Int->Option ((Int×Int)⊕Int)} {sub:Option Wr} {N:Nat} (hs:yh v f) (R:v.length<=1000000000000000) (U:N+v.length<=1000000000000000000)
  (h:∀y,sub=some y->Put v y/\Beh v f y (N+v.length)):Beh v f (fv v sub) N:=by
 intro i t j n q hn
 unfold fv at q
 cases hx:v[i]? with
 | none=>rw[hx]at q; cases q
 | some x=>
  rw[hx]at q
  obtain⟨hi,B⟩:=aD.1 hx
  simp only at q
  split at q
  ·cases q
  ·rename_i hf
   obtain⟨I,J⟩:=zE (Classical.not_not.1 hf)
   obtain⟨k,G⟩:=fw I
   split at q
   ·cases sub with
    | none=>cases q
    | some y=>
     obtain⟨hp,O⟩:=h y rfl
     simp only at q
     cases h2:cV y (x.1 == 5) x.2.2.2.toNat true none (i+1) with
     | none=>rw[h2]at q; cases q
     | some a=>
      obtain⟨u,V⟩:=a
      rw[h2]at q
      cases q
      rw[G,aq]at h2
      have X:=kw hp _ _ _ _ _ _ _ (by omega) h2
      rw[bB (hs i n k hi (by rw[B]; exact G) (by omega) (by omega))]
      exact zD hp O _ k true none (i+1) u j n h2 (by omega)
   ·rename_i A
    cases q
    have:k=0:=by have:=J A; omega
    subst this
    rw[bB (hs i n 0 hi (by rw[B]; exact G) (by omega) (by omega))]
    rfl
theorem tW {v:List It} {f:Int×Int->Option ((Int×Int)⊕Int)} (hs:yh v f) (j:v.length<=1000000000000000):∀(d N:Nat),N+(d+1)*v.length<=1000000000000000000->Beh v f (cF d v) N
 | 0,N,h=>A1 hs j (by omega) (by simp)
 | d+1,N,h=>by
  rw[aW]at h
  refine A1 hs j (by omega) (fun q hw=>?_)
  cases hw
  exact⟨iB v d,tW hs j d (N+v.length) (by omega)⟩
theorem mX {v:List It} {d i j:Nat} {t:Y3} (q:v.length<=1000000000000000) (hd:d<=32) (h:cF d v i=some (t,j)):F.SK v (i:Int)=some (j:Int):=by
 have hm:(d+1)*v.length<=33*v.length:=aR _ (by omega)
 have:=tW (GH v) q d 0 (by omega) i t j 0 h (by omega)
 unfold F.SK
 rw[show ((1:Int))=((0+1:Nat):Int) from rfl,this]
 exact bP rfl
theorem DK {v:List It} {d i j:Nat} {t:Y3} (q:v.length<=1000000000000000) (hd:d<=32) (h:cF d v i=some (t,j)):F.X9 v (i:Int)=some (j:Int):=by
 have hm:(d+1)*v.length<=33*v.length:=aR _ (by omega)
 have:=tW (Is v) q d 0 (by omega) i t j 0 h (by omega)
 unfold F.X9
 rw[show ((1:Int))=((0+1:Nat):Int) from rfl,this]
 exact bP rfl
def Inn (v:List It) (D:Nat) (wr:Wr):Prop:=∀i t j a,wr i=some (t,j)->i<=a->a<j->∃d t' k,d<=D/\cF d v a=some (t',k)/\k<=j
theorem zK {v:List It} {D:Nat} {y:Wr} (hp:Put v y) (h:Inn v D y) (A:Bool):∀(r:Nat) (q:Bool) (last:Option Y3) (i:Nat) (t:Y3) (j a:Nat),i<=v.length ->
  cV y A r q last i=some (t,j)->i<=a->a<j->∃d G k,d<=D/\cF d v a=some (G,k)/\k<=j
 | 0,q,last,i,t,j,a,hi,h1,h2,h3=>by simp only[cV]at h1; cases h1; omega
 | r+1,q,last,i,t,j,a,hi,h1,h2,h3=>by
  simp only[cV]at h1
  cases h4:y i with
  | none=>rw[h4]at h1; cases h1
  | some b=>
   obtain⟨J,B⟩:=b
   rw[h4]at h1
   simp only at h1
   obtain⟨U,N,_⟩:=hp _ _ _ h4
   split at h1
   ·cases h1
   ·cases h5:cV y A r (!q) (if (A&&q)=true then some J else last) B with
    | none=>rw[h5]at h1; cases h1
    | some c=>
     obtain⟨u,k⟩:=c
     rw[h5]at h1
     cases h1
     have V:=kw hp _ _ _ _ _ _ _ N h5
     rcases cj a B with I | I
     ·obtain⟨d,G,O,hd,R,X⟩:=h i J B a h4 h2 I
      exact⟨d,G,O,hd,R,by omega⟩
     ·exact zK hp h A r _ _ B u j a N h5 I h3
theorem HD (v:List It):∀d,Inn v d (cF d v):=by
 have A:∀(d:Nat) (sub:Option Wr) (hs:∀y,sub=some y->Put v y/\Inn v d y) (I:cF d v=fv v sub),Inn v d (fv v sub):=by
  intro d sub hs I i t j a q B G
  rcases Nat.eq_or_lt_of_le B with rfl | O
  ·exact⟨d,t,j,by omega,by rw[I]; exact q,by omega⟩
  ·unfold fv at q
   cases hx:v[i]? with
   | none=>rw[hx]at q; cases q
   | some x=>
    rw[hx]at q
    obtain⟨hi,R⟩:=aD.1 hx
    simp only at q
    split at q
    ·cases q
    ·split at q
     ·cases sub with
      | none=>cases q
      | some y=>
       obtain⟨hp,hn⟩:=hs y rfl
       simp only at q
       cases h4:cV y (x.1 == 5) x.2.2.2.toNat true none (i+1) with
       | none=>rw[h4]at q; cases q
       | some b=>
        obtain⟨u,U⟩:=b
        rw[h4]at q
        cases q
        exact zK hp hn _ _ _ _ _ _ _ a (by omega) h4 (by omega) G
     ·cases q; omega
 intro d
 induction d with
 | zero=>exact A 0 none (by simp) rfl
 | succ d ih=>
  refine A (d+1) (some (cF d v)) (fun y hw=>?_) rfl
  cases hw
  refine⟨iB v d,fun i t j a q B G=>?_⟩
  obtain⟨J,N,k,hd,e⟩:=ih i t j a q B G
  exact⟨J,N,k,by omega,e⟩
def g8 (v:List It) (wr:Wr) (key:List It):Nat->Nat->Int
 | 0,_=>-1
 | r+1,i=>match wr i with
  | none=>-1
  | some (_,j)=>if seg v i j=key then (j:Int) else match wr j with
   | none=>-1
   | some (_,k)=>g8 v wr key r k
theorem Jo {τ:Type} [DecidableEq τ] {f:Int->Option (Int⊕Bool)} {a b:List τ} {m:Nat} (hm:m<=a.length) (J:m<=b.length) (N:m<9223372036854775807) (R:Bool)
  (q:f (m:Int)=some (.inr R)) (j:∀i:Nat,(h:i<m)->f (i:Int)=some (if a[i]=b[i] then .inl (((i+1:Nat)):Int) else .inr false)) :
  loop f 0=some (if a.take m=b.take m then R else false):=by
 have A:∀k i,m - i=k->i<=m->a.take i=b.take i->loop f (i:Int)=some (if a.take m=b.take m then R else false):=by
  intro k
  induction k with
  | zero=>
   intro i B G y
   have:i=m:=by omega
   subst this
   rw[bP q,ah y]
  | succ k ih=>
   intro i B G y
   have hi:i<m:=by omega
   have hs:=j i hi
   by_cases he:a[i]=b[i]
   ·rw[ah he]at hs
    rw[bB hs]
    refine ih (i+1) (by omega) (by omega) ?_
    rw[dL (by omega),dL (by omega),y,he]
   ·rw[ae he]at hs
    rw[bP hs,ae]
    intro I
    apply he
    have:=cv (fun l=>l[i]?) I
    simp only[bK,ah hi]at this
    rw[aE (by omega),aE (by omega)]at this
    exact eQ this
 exact A m 0 (by omega) (by omega) (by simp)
theorem wL (a b:List It) (I:a.length<9223372036854775807):F.VK a b=some (a == b):=by
 unfold F.VK
 have j:(min (a.length:Int) (b.length:Int))=((min a.length b.length:Nat):Int):=by omega
 rw[Jo (a:=a) (b:=b) (m:=min a.length b.length) (by omega) (by omega) (by omega) ((a.length:Int) == (b.length:Int))]
 ·congr 1
  by_cases hl:a.length=b.length
  ·rw[hl]
   simp only[Nat.min_self,ez]
   rw[aA (by omega),aA (by omega)]
   by_cases h:a=b <;> simp[h]
  ·have A:((a.length:Int) == (b.length:Int))=false:=by simp; omega
   have B:a≠b:=fun h=>hl (by rw[h])
   simp[A,B]
 ·simp only[F.VL,j]
  simp only[ej,dq,ai,ak]; rfl
 ·intro i hi
  have hd:decide ((i:Int)<((min a.length b.length:Nat):Int))=true:=by simp; omega
  have G:wI ((i:Int)+1)=((i+1:Nat):Int):=by rw[aO (by omega) (by omega)]; simp
  have q:i<a.length:=by omega
  have y:i<b.length:=by omega
  simp only[F.VL,j,hd,am,cd q,cd y,aa,G]
  by_cases he:a[i]=b[i]
  ·rw[ah he,he]; simp only[d5,ai,ak]; rfl
  ·have:(a[i] != b[i])=true:=by simpa using he
   simp only[this,am,ae he]; rfl
section
variable {v:List It} {d:Nat}
theorem KM {i j:Nat} (h:i<=j) (q:j<=v.length):slO v (i:Int) (j:Int)=some (seg v i j):=kU h q
theorem pg (J:v.length<=1000000000000000) (hd:d<=32) (q:List It) (x:It) (K:Nat) (hx:wI (Int.tdiv x.2.2.2 2)=(K:Int)) (O:K<=4611686018427387904):∀(r c i:Nat) (last:Option Y3) (t:Y3) (j:Nat),
  cV (cF d v) true (2*r) true last i=some (t,j)->c+r=K->i<=v.length->loop (F.Tj v q x) ((i:Int),(c:Int))=some (g8 v (cF d v) q r i)
 | 0,c,i,last,t,j,h1,h2,h3=>by
  refine bP ?_
  have:decide ((c:Int)<(K:Int))=false:=by simp; omega
  simp only[F.Tj,hx,this,ai,ak,g8]; rfl
 | r+1,c,i,last,t,j,h1,h2,h3=>by
  rw[show 2*(r+1)=2*r+1+1 by omega]at h1
  simp only[cV]at h1
  cases h4:cF d v i with
  | none=>rw[h4]at h1; cases h1
  | some a=>
   obtain⟨R,y⟩:=a
   rw[h4]at h1
   obtain⟨m1,m2,m3⟩:=iB v d i R y h4
   simp only[el,dB,dV,Bool.and_false,ai,ak,am]at h1
   split at h1
   ·cases h1
   ·cases h5:cF d v y with
    | none=>rw[h5]at h1; cases h1
    | some b=>
     obtain⟨X,B⟩:=b
     rw[h5]at h1
     obtain⟨m4,Y,m6⟩:=iB v d y X B h5
     simp only[iJ]at h1
     cases h6:cV (cF d v) true (2*r) true (some R) B with
     | none=>rw[h6]at h1; cases h1
     | some e=>
      obtain⟨u,k⟩:=e
      have G:decide ((c:Int)<(K:Int))=true:=by simp; omega
      have U:=mX J hd h4
      have Z:=mX J hd h5
      have I:=KM (v:=v) (i:=i) (j:=y) (by omega) (by omega)
      have A:(seg v i y).length<9223372036854775807:=by simp[seg]; omega
      have V:wI ((c:Int)+1)=((c+1:Nat):Int):=by rw[aO (by omega) (by omega)]; simp
      simp only[g8,h4,h5]
      by_cases hk:seg v i y=q
      ·refine bP ?_
       have N:(seg v i y == q)=true:=by simpa using hk
       simp only[F.Tj,hx,G,am,U,aa,I,wL _ _ A,N,ah hk]; rfl
      ·have N:(seg v i y == q)=false:=by simpa using hk
       have hs:F.Tj v q x ((i:Int),(c:Int))=some (.inl ((B:Int),((c+1:Nat):Int))):=by
        simp only[F.Tj,hx,G,am,U,aa,I,wL _ _ A,N,ai,ak,Z,V]; rfl
       rw[bB hs,ae hk]
       exact pg J hd q x K hx O r (c+1) B _ u k h6 (by omega) Y
end
theorem rg {v:List It} (hs:io v=true) {a:Nat} (q:a<v.length):∃d t k,d<=32/\cF d v a=some (t,k):=by
 unfold io at hs
 cases h:cF 32 v 0 with
 | none=>rw[h]at hs; cases hs
 | some b=>
  obtain⟨t,j⟩:=b
  rw[h]at hs
  have:j=v.length:=by simpa using hs
  subst this
  obtain⟨d,y,k,A,B,_⟩:=HD v 32 0 t v.length a h (by omega) q
  exact⟨d,y,k,A,B⟩
theorem I5 {v:List It} {d a k:Nat} {t:Y3} (h:cF d v a=some (t,k)) (I:a<v.length) (A:v[a].1=5) :
  ∃B u,d=B+1/\cV (cF B v) true v[a].2.2.2.toNat true none (a+1)=some (u,k)/\0<=v[a].2.2.2/\v[a].2.2.2%2=0:=by
 have y:∀sub,fv v sub a=some (t,k)->∃q u,sub=some q/\cV q true v[a].2.2.2.toNat true none (a+1)=some (u,k)/\0<=v[a].2.2.2/\v[a].2.2.2%2=0:=by
  intro sub j
  unfold fv at j
  rw[aE I]at j
  simp only at j
  split at j
  ·cases j
  ·rename_i hf
   have G:=Classical.not_not.1 hf
   rw[ah (by omega)]at j
   cases sub with
   | none=>cases j
   | some q=>
    simp only at j
    have J:(v[a].1 == 5)=true:=by simpa using A
    rw[J]at j
    split at j
    ·cases j
    ·rename_i N V O
     cases j
     have:0<=v[a].2.2.2/\v[a].2.2.2%2=0:=by
      revert G
      unfold cw
      rw[A]
      simp
     exact⟨q,N,rfl,O,this.1,this.2⟩
 cases d with
 | zero=>obtain⟨q,u,j,_⟩:=y none h; cases j
 | succ d=>
  obtain⟨q,u,j,R,U⟩:=y _ h
  cases j
  exact⟨d,u,rfl,R,U⟩
theorem p1:jP [161,97,97,130,1,245]=([(5,0,[],2),(3,0,[97],0),(4,0,[],2),(0,1,[],0),(7,21,[],0)],0,0):=by kernel_rfl
theorem p2:oM [(4,0,[],2),(1,99,[],0),(2,0,[120,121],0)]=([130,56,99,66,120,121],0):=by kernel_rfl
theorem p3:jP [130,24,23,0]=([],220,1):=by kernel_rfl
theorem p4:io [(5,0,[],2),(3,0,[97],0),(4,0,[],2),(0,1,[],0),(7,21,[],0)]=true:=by kernel_rfl
theorem p5:cF 31 [(5,0,[],2),(3,0,[97],0),(4,0,[],2),(0,1,[],0),(7,21,[],0)] 1=some ([97,97],2):=by kernel_rfl
theorem p6:cF 31 [(5,0,[],2),(3,0,[97],0),(4,0,[],2),(0,1,[],0),(7,21,[],0)] 2=some ([130,1,245],5):=by kernel_rfl
theorem CS {v:List It} {q:Wr} (y:List It):∀(r i:Nat) (last:Option Y3) (t:Y3) (j:Nat),cV q true (2*r) true last i=some (t,j) ->
  g8 v q y r i=-1\/∃(k:Nat) (G:Y3) (I:Nat),g8 v q y r i=(k:Int)/\q k=some (G,I)
 | 0,i,last,t,j,h=>.inl rfl
 | r+1,i,last,t,j,h1=>by
  rw[show 2*(r+1)=2*r+1+1 by omega]at h1
  simp only[cV]at h1
  cases h4:q i with
  | none=>rw[h4]at h1; cases h1
  | some a=>
   obtain⟨J,B⟩:=a
   rw[h4]at h1
   simp only[el,dB,dV,Bool.and_false,ai,ak,am]at h1
   split at h1
   ·cases h1
   ·cases h5:q B with
    | none=>rw[h5]at h1; cases h1
    | some b=>
     obtain⟨N,A⟩:=b
     rw[h5]at h1
     simp only[iJ]at h1
     cases h6:cV q true (2*r) true (some J) A with
     | none=>rw[h6]at h1; cases h1
     | some e=>
      obtain⟨u,k⟩:=e
      simp only[g8,h4,h5]
      split
      ·exact .inr ⟨B,N,A,rfl,h5⟩
      ·exact CS y r A _ u k h6
theorem CE {v:List It} {d k j:Nat} {t:Y3} (h:cF d v k=some (t,j)):∃I:k<v.length,cw v[k]/\0<=v[k].2.2.2/\k+1+v[k].2.2.2.toNat<=j/\j<=v.length:=by
 have hp:=iB v d k t j h
 have I:k<v.length:=by omega
 have G:∀sub,(∀y,sub=some y->Put v y)->fv v sub k=some (t,j)->cw v[k]/\0<=v[k].2.2.2/\k+1+v[k].2.2.2.toNat<=j:=by
  intro sub J q
  unfold fv at q
  rw[aE I]at q
  simp only at q
  split at q
  ·cases q
  ·rename_i hf
   have A:=Classical.not_not.1 hf
   obtain⟨N,O⟩:=zE A
   split at q
   ·cases sub with
    | none=>cases q
    | some y=>
     simp only at q
     split at q
     ·cases q
     ·rename_i R U B
      cases q
      have:=kw (J y rfl) _ _ _ _ _ _ _ (by omega) B
      exact⟨A,N,by omega⟩
   ·rename_i B
    cases q
    have:=O B
    exact⟨A,N,by omega⟩
 refine⟨I,?_⟩
 cases d with
 | zero=>
  obtain⟨a,b,c⟩:=G none (by simp) h
  exact⟨a,b,c,by omega⟩
 | succ d=>
  obtain⟨a,b,c⟩:=G (some (cF d v)) (by intro y hw; cases hw; exact iB v d) h
  exact⟨a,b,c,by omega⟩
theorem G6 (a x:Int):F.R1 [a] x=some (x == a):=by
 unfold F.R1 F.Wb
 by_cases h:x=a
 ·have hs:F.Q5 [a] x 0=some (.inr 0):=by
   simp[F.Q5,au,h]; rfl
  rw[bP hs,aa]; simp[h]
 ·have hs:F.Q5 [a] x 0=some (.inl 1):=by
   simp[F.Q5,au,h]; rfl
  have j:F.Q5 [a] x 1=some (.inr (-1)):=rfl
  rw[bB hs,bP j,aa]; simp[h]
theorem Fo (a b x:Int):F.R1 [a,b] x=some (x == a || x == b):=by
 unfold F.R1 F.Wb
 by_cases h:x=a
 ·have hs:F.Q5 [a,b] x 0=some (.inr 0):=by
   simp[F.Q5,au,h]; rfl
  rw[bP hs,aa]; simp[h]
 ·have hs:F.Q5 [a,b] x 0=some (.inl 1):=by
   simp[F.Q5,au,h]; rfl
  by_cases h2:x=b
  ·have j:F.Q5 [a,b] x 1=some (.inr 1):=by
    simp[F.Q5,au,h2]; rfl
   rw[bB hs,bP j,aa]; simp[h2]
  ·have j:F.Q5 [a,b] x 1=some (.inl 2):=by
    simp[F.Q5,au,h2]; rfl
   have q:F.Q5 [a,b] x 2=some (.inr (-1)):=rfl
   rw[bB hs,bB j,bP q,aa]; simp[h,h2]
section
variable {v:List It} (hw:wt v<=4000000000000) (hK:Kd v) (hU:∀x∈v,x.2.2.1.length<=2000000)
include hw hK hU
end
section
variable {v:List It}
end
section
variable {v:List It} (hw:wt v<=4000000000000) (hK:Kd v) (hU:∀x∈v,x.2.2.1.length<=2000000)
include hw hK hU
end
theorem My:F.Ro=F.VE:=rfl
section
variable {v:List It} (hw:wt v<=4000000000000) (hK:Kd v) (hU:∀x∈v,x.2.2.1.length<=2000000)
include hw hK hU
end
theorem Ip {v:List It} {d a k:Nat} {t:Y3} (h:cF d v a=some (t,k)) (B:a<v.length) (G:v[a].1=4) :
  ∃A u,d=A+1/\cV (cF A v) false v[a].2.2.2.toNat true none (a+1)=some (u,k):=by
 have y:∀sub,fv v sub a=some (t,k)->∃q u,sub=some q/\cV q false v[a].2.2.2.toNat true none (a+1)=some (u,k):=by
  intro sub j
  unfold fv at j
  rw[aE B]at j
  simp only at j
  split at j
  ·cases j
  ·rw[ah (by omega)]at j
   cases sub with
   | none=>cases j
   | some q=>
    simp only at j
    have I:(v[a].1 == 5)=false:=by rw[G]; rfl
    rw[I]at j
    split at j
    ·cases j
    ·rename_i J R N
     cases j
     exact⟨q,J,rfl,N⟩
 cases d with
 | zero=>obtain⟨q,u,j,_⟩:=y none h; cases j
 | succ d=>
  obtain⟨q,u,j,O⟩:=y _ h
  cases j
  exact⟨d,u,rfl,O⟩
theorem ET {v:List It} {d a k:Nat} {t:Y3} (h:cF d v a=some (t,k)) (y:a<v.length) (A:v[a].1=2):k=a+1:=by
 have q:∀sub,fv v sub a=some (t,k)->k=a+1:=by
  intro sub j
  unfold fv at j
  rw[aE y]at j
  simp only at j
  split at j
  ·cases j
  ·rw[ae (by omega)]at j
   cases j; rfl
 cases d with
 | zero=>exact q none h
 | succ d=>exact q _ h
theorem nT {rec:Wr} {r:Nat} {b:Bool} {l:Option Y3} {i k:Nat} {u:Y3} (h:cV rec false (r+1) b l i=some (u,k)):∃t j q,rec i=some (t,j)/\cV rec false r (!b) l j=some (q,k):=by
 simp only[cV,dV,ai,ak]at h
 cases h1:rec i with
 | none=>rw[h1]at h; cases h
 | some a=>
  obtain⟨t,j⟩:=a
  rw[h1]at h
  simp only at h
  cases h2:cV rec false r (!b) l j with
  | none=>rw[h2]at h; cases h
  | some e=>
   obtain⟨q,y⟩:=e
   rw[h2]at h
   cases h
   exact⟨t,j,q,rfl,h2⟩
theorem Ie {v:List It} (hs:io v=true) {a:Nat} (y:a<v.length) (G:v[a].1=4) (hn:v[a].2.2.2=4) (I:a+1<v.length) (J:v[a+1].1=2) :
  ∃d t j,d<=32/\cF d v (a+2)=some (t,j)/\j+1<v.length/\a+2<v.length:=by
 obtain⟨d,t,k,hd,N⟩:=rg hs y
 obtain⟨q,u,rfl,A⟩:=Ip N y G
 rw[hn]at A
 obtain⟨t1,j1,u1,O,R⟩:=nT (r:=3) A
 obtain⟨U,V,u2,B,X⟩:=nT (r:=2) R
 obtain⟨t3,j3,u3,Y,Z⟩:=nT (r:=1) X
 obtain⟨t4,j4,u4,e4,k4⟩:=nT (r:=0) Z
 have:=ET O I J
 subst this
 have p2:=iB v q _ _ _ B
 have p3:=iB v q _ _ _ Y
 have p4:=iB v q _ _ _ e4
 exact⟨q,U,V,by omega,B,by omega,by omega⟩
theorem zM {v:List It} (hs:io v=true) {a:Nat} (j:a<v.length):0<=v[a].2.2.2/\a+1+v[a].2.2.2.toNat<=v.length/\cw v[a]:=by
 obtain⟨d,t,k,hd,q⟩:=rg hs j
 obtain⟨_,b,c,e,f⟩:=CE q
 exact⟨c,by omega,b⟩
section
variable {v:List It} (hw:wt v<=4000000000000) (hK:Kd v) (hU:∀x∈v,x.2.2.1.length<=2000000)
include hw hK hU
theorem xr (hs:io v=true) {a d j:Nat} {t:Y3} (A:a<v.length) (hd:d<=32) (q:cF d v a=some (t,j)):F.RK v (a:Int)=some (j:Int)/\F.Yu v (a:Int)=some (j:Int):=by
 have hl:=lP v
 unfold F.RK F.Yu
 rw[nf hw hK,Aw hw hK hU]
 simp only[aa,hs,dB,ai,ak]
 have y:decide ((a:Int)<0)=false:=az (by omega)
 have:decide ((v.length:Int)<=(a:Int))=false:=by simp; omega
 exact⟨by simp only[y,this,ai,ak,F.TT,mX (by omega) hd q,aa],by simp only[y,this,ai,ak,F.W7,DK (by omega) hd q,aa]⟩
end
theorem Mw (n:Nat):UInt8.ofInt (n:Int)=UInt8.ofNat n:=by
 apply fX.1
 simp[UInt8.ofInt]
 omega
theorem pO (n k:Nat) (j:k<=64) (hn:n<4294967296):UInt8.ofInt (nA (n:Int) k)=(bb (UInt64.ofNat n) k).toUInt8:=by
 have e:nA (n:Int) k=((n / 2^k:Nat):Int):=by
  unfold nA
  have q:(2:Int)^k=((2^k:Nat):Int):=by simp
  rw[bm j,q,gw _ (dG _),Int.natCast_ediv]
 rw[e,Mw]
 apply fX.1
 have y:n / 2^k<=n:=dO _ _
 unfold bb
 rw[bm j]
 simp only[dQ,UInt64.toNat_toUInt8,bL]
 rw[ax (show n<2^64 by omega),ax (show n / 2^k<2^64 by omega)]
theorem yJ (n:Nat) (hn:n<4294967296):UInt8.ofInt (n:Int)=(bb (UInt64.ofNat n) 0).toUInt8:=by
 have:=pO n 0 (by omega) hn
 rwa [show nA (n:Int) 0=(n:Int) by simp[nA]]at this
theorem lf0:∀(m:Fin 8) (k:Fin 24),(oo (UInt8.ofNat m.val) 5) ||| (UInt8.ofInt (k.val:Int))=UInt8.ofNat (32*m.val)+(UInt64.ofNat k.val).toUInt8:=by decide
theorem lf1:∀(m:Fin 8),(oo (UInt8.ofNat m.val) 5) ||| 24=UInt8.ofNat (32*m.val+24+0):=by decide
theorem lf2:∀(m:Fin 8),(oo (UInt8.ofNat m.val) 5) ||| 25=UInt8.ofNat (32*m.val+24+1):=by decide
theorem lf3:∀(m:Fin 8),(oo (UInt8.ofNat m.val) 5) ||| 26=UInt8.ofNat (32*m.val+24+2):=by decide
theorem vh (n c:Nat) (hn:n<4294967296) (hc:c<18446744073709551616):(UInt64.ofNat n<UInt64.ofNat c)=(n<c):=by
 rw[bq,bL,bL,ax (by omega),ax (by omega)]
theorem mH (m:Fin 8) (out b:Y3) (O:out.length<=1000000000) (R:b.length<1000000000):F.Rp out (UInt8.ofNat m.val) b=some (out++hd m.val (UInt64.ofNat b.length)++b):=by
 have y:=vh b.length 24 (by omega) (by omega)
 have q:=vh b.length 256 (by omega) (by omega)
 have j:=vh b.length 65536 (by omega) (by omega)
 have I:=vh b.length 4294967296 (by omega) (by omega)
 have c:∀(h:Y3),h.length<=10->af (apO 1 out h) (fun x=>F.UH b x)=some (out++h++b):=fun h hh=>by
  rw[ir (by simp; omega),aa]
  show af (apO 1 (out++h) b) (fun x=>some x)=_
  rw[ir (by simp; omega),aa]
 unfold F.Rp hd wd
 by_cases h1:b.length<24
 ·have A:decide ((b.length:Int)<24)=true:=aj (by omega)
  rw[A,ah rfl,c _ (by simp)]
  have:(UInt64.ofNat b.length<24):=by rw[show (24:UInt64)=UInt64.ofNat 24 from rfl,y]; exact h1
  rw[ah this,ah rfl,lf0 m ⟨b.length,h1⟩]
 have A:decide ((b.length:Int)<24)=false:=az (by omega)
 have n1:¬(UInt64.ofNat b.length<24):=by rw[show (24:UInt64)=UInt64.ofNat 24 from rfl,y]; exact h1
 rw[A,ae n1]
 simp only[ai,ak]
 by_cases h2:b.length<256
 ·have B:decide ((b.length:Int)<256)=true:=aj (by omega)
  rw[B,ah rfl,c _ (by simp)]
  have:(UInt64.ofNat b.length<256):=by rw[show (256:UInt64)=UInt64.ofNat 256 from rfl,q]; exact h2
  rw[ah this,ae (by omega),lf1 m,yJ _ (by omega)]
  rfl
 have B:decide ((b.length:Int)<256)=false:=az (by omega)
 have J:¬(UInt64.ofNat b.length<256):=by rw[show (256:UInt64)=UInt64.ofNat 256 from rfl,q]; exact h2
 rw[B,ae J]
 simp only[ai,ak]
 by_cases h3:b.length<65536
 ·have G:decide ((b.length:Int)<65536)=true:=aj (by omega)
  rw[G,ah rfl,c _ (by simp)]
  have:(UInt64.ofNat b.length<65536):=by rw[show (65536:UInt64)=UInt64.ofNat 65536 from rfl,j]; exact h3
  rw[ah this,ae (by omega),lf2 m,yJ _ (by omega),pO _ 8 (by omega) (by omega)]
  rfl
 have G:decide ((b.length:Int)<65536)=false:=az (by omega)
 have N:¬(UInt64.ofNat b.length<65536):=by rw[show (65536:UInt64)=UInt64.ofNat 65536 from rfl,j]; exact h3
 rw[G,ae N]
 simp only[ai,ak]
 have:(UInt64.ofNat b.length<4294967296):=by rw[show (4294967296:UInt64)=UInt64.ofNat 4294967296 from rfl,I]; omega
 rw[c _ (by simp),ah this,ae (by omega),lf3 m,yJ _ (by omega),pO _ 8 (by omega) (by omega),pO _ 16 (by omega) (by omega),pO _ 24 (by omega) (by omega)]
 rfl
theorem w0:wI (2*0)=0:=by decide
theorem w2:wI (2*1)=2:=by decide
theorem w4:wI (2*2)=4:=by decide
def RB (x:Option (Int×Y3×Y3×Y3×Y3×Int)) (y:Option (Y3×Y3×Y3×Y3×Int×Int)):Prop:=
 ∃alg p k z s st,x=some (alg,p,k,z,s,st)/\y=some (p,k,z,s,alg,st)/\p.length<=2000000/\k.length<=2000000/\z.length<=2000000/\s.length<=2000000
theorem RB.fail (e:Int):RB (some (0,[],[],[],[],e)) (some ([],[],[],[],0,e)):=⟨0,[],[],[],[],e,rfl,rfl,by simp,by simp,by simp,by simp⟩
section
variable {v:List It} (hw:wt v<=4000000000000) (hK:Kd v) (hU:∀x∈v,x.2.2.1.length<=2000000)
include hw hK hU
end
theorem a1:jP [210,132,67,161,1,38,161,4,65,107,65,97,64]=([(6,18,[],1),(4,0,[],4),(2,0,[161,1,38],0),(5,0,[],2),(0,4,[],0),(2,0,[107],0),(2,0,[97],0),(2,0,[],0)],0,0):=by kernel_rfl
theorem a2:jP [161,1,38]=([(5,0,[],2),(0,1,[],0),(1,6,[],0)],0,0):=by kernel_rfl
theorem a3:jP [132,67,161,1,36,160,64,64]=([(4,0,[],4),(2,0,[161,1,36],0),(5,0,[],0),(2,0,[],0),(2,0,[],0)],0,0):=by kernel_rfl
theorem a4:jP [161,1,36]=([(5,0,[],2),(0,1,[],0),(1,4,[],0)],0,0):=by kernel_rfl
theorem a5:jP [162,1,97,105,4,10]=([(5,0,[],4),(0,1,[],0),(3,0,[105],0),(0,4,[],0),(0,10,[],0)],0,0):=by kernel_rfl
theorem a6:jP [128]=([(4,0,[],0)],0,0):=by kernel_rfl
theorem rU {v:List It} (hw:wt v<=4000000000000) (hK:Kd v) (hs:io v=true) {a K:Nat} (B:a<v.length) (G:v[a].1=5) (hn:v[a].2.2.2=((2*K:Nat):Int))
  (y:(cV (cF 8 v) true (2*K) true none (a+1)).isSome=true) (R:K<=1000000) (j:List It):F.Q9 v (a:Int) j=some (g8 v (cF 8 v) j K (a+1)):=by
 have hl:=lP v
 obtain⟨⟨u,k⟩,I⟩:=Option.isSome_iff_exists.1 y
 unfold F.Q9
 rw[nf hw hK,aa]
 have J:decide ((a:Int)<0)=false:=az (by omega)
 have N:decide ((v.length:Int)<=(a:Int))=false:=by simp; omega
 have O:(v[a].1 != 5)=false:=by simp[G]
 have q:wI (Int.tdiv v[a].2.2.2 2)=(K:Int):=by
  rw[hn,ce (by omega),aO (by omega) (by omega)]; omega
 have A:wI ((a:Int)+1)=((a+1:Nat):Int):=by rw[aO (by omega) (by omega)]; simp
 simp only[J,N,ai,ak,cd B,aa,O,hs,dB,F.Rs,A]
 exact pg (by omega) (by omega) j v[a] K q (by omega) K 0 (a+1) none u k I (by omega) (by omega)
def V1:List It:=[(6,18,[],1),(4,0,[],4),(2,0,[161,1,38],0),(5,0,[],2),(0,4,[],0),(2,0,[107],0),(2,0,[97],0),(2,0,[],0)]
def V2:List It:=[(5,0,[],2),(0,1,[],0),(1,6,[],0)]
def V3:List It:=[(4,0,[],4),(2,0,[161,1,36],0),(5,0,[],0),(2,0,[],0),(2,0,[],0)]
def V4:List It:=[(5,0,[],2),(0,1,[],0),(1,4,[],0)]
def V5:List It:=[(5,0,[],4),(0,1,[],0),(3,0,[105],0),(0,4,[],0),(0,10,[],0)]
theorem qQ {v:List It} (h:v.all (fun x=>decide (x.2.2.2<=1000))=true):Kd v:=fun x hx=>by
 have:=cq.1 h x hx
 have:x.2.2.2<=1000:=by simpa using this
 omega
theorem mV1 (j:List It):F.Q9 V1 3 j=some (g8 V1 (cF 8 V1) j 1 4):=rU (v:=V1) (a:=3) (K:=1) (by decide) (qQ (by decide)) (by kernel_rfl) (by decide) rfl rfl (by kernel_rfl) (by omega) j
theorem mV2 (j:List It):F.Q9 V2 0 j=some (g8 V2 (cF 8 V2) j 1 1):=rU (v:=V2) (a:=0) (K:=1) (by decide) (qQ (by decide)) (by kernel_rfl) (by decide) rfl rfl (by kernel_rfl) (by omega) j
theorem mV3 (j:List It):F.Q9 V3 2 j=some (g8 V3 (cF 8 V3) j 0 3):=rU (v:=V3) (a:=2) (K:=0) (by decide) (qQ (by decide)) (by kernel_rfl) (by decide) rfl rfl (by kernel_rfl) (by omega) j
theorem mV4 (j:List It):F.Q9 V4 0 j=some (g8 V4 (cF 8 V4) j 1 1):=rU (v:=V4) (a:=0) (K:=1) (by decide) (qQ (by decide)) (by kernel_rfl) (by decide) rfl rfl (by kernel_rfl) (by omega) j
theorem mV5 (j:List It):F.Q9 V5 0 j=some (g8 V5 (cF 8 V5) j 2 1):=rU (v:=V5) (a:=0) (K:=2) (by decide) (qQ (by decide)) (by kernel_rfl) (by decide) rfl rfl (by kernel_rfl) (by omega) j
theorem O3:g8 V1 (cF 8 V1) [(0,1,[],0)] 1 4=-1:=by kernel_rfl
theorem PY:g8 V1 (cF 8 V1) [(0,4,[],0)] 1 4=5:=by kernel_rfl
theorem Qf:g8 V2 (cF 8 V2) [(0,1,[],0)] 1 1=2:=by kernel_rfl
theorem PN:g8 V2 (cF 8 V2) [(0,4,[],0)] 1 1=-1:=by kernel_rfl
theorem Nn (j:List It):g8 V3 (cF 8 V3) j 0 3=-1:=rfl
theorem P4:g8 V4 (cF 8 V4) [(0,1,[],0)] 1 1=2:=by kernel_rfl
theorem PT:g8 V4 (cF 8 V4) [(0,4,[],0)] 1 1=-1:=by kernel_rfl
theorem Qu:g8 V5 (cF 8 V5) [(0,1,[],0)] 2 1=2:=by kernel_rfl
theorem Qi:g8 V5 (cF 8 V5) [(0,2,[],0)] 2 1=-1:=by kernel_rfl
theorem P7:g8 V5 (cF 8 V5) [(0,3,[],0)] 2 1=-1:=by kernel_rfl
theorem PA:g8 V5 (cF 8 V5) [(0,4,[],0)] 2 1=4:=by kernel_rfl
theorem Pz:g8 V5 (cF 8 V5) [(0,5,[],0)] 2 1=-1:=by kernel_rfl
theorem P2:g8 V5 (cF 8 V5) [(0,6,[],0)] 2 1=-1:=by kernel_rfl
theorem Pm:g8 V5 (cF 8 V5) [(0,7,[],0)] 2 1=-1:=by kernel_rfl
theorem bV1:F.RK V1 3=some 6:=by
 have hK:Kd V1:=qQ (by decide)
 have q:∃t,cF 8 V1 3=some (t,6):=by
  have:(cF 8 V1 3).map Prod.snd=some 6:=by kernel_rfl
  obtain⟨⟨t,j⟩,A,y⟩:=Option.map_eq_some_iff.1 this
  simp only at y; subst y; exact⟨t,A⟩
 obtain⟨t,q⟩:=q
 exact (xr (v:=V1) (by decide) hK (by decide) (by kernel_rfl) (a:=3) (by decide) (by omega) q).1
theorem bV3:F.RK V3 2=some 3:=by
 have hK:Kd V3:=qQ (by decide)
 have q:∃t,cF 8 V3 2=some (t,3):=by
  have:(cF 8 V3 2).map Prod.snd=some 3:=by kernel_rfl
  obtain⟨⟨t,j⟩,A,y⟩:=Option.map_eq_some_iff.1 this
  simp only at y; subst y; exact⟨t,A⟩
 obtain⟨t,q⟩:=q
 exact (xr (v:=V3) (by decide) hK (by decide) (by kernel_rfl) (a:=2) (by decide) (by omega) q).1
theorem hV1:F.QW V1 3=some (-1,5,true):=by
 have j:F.QL 1 V1 3 0=some (-1,3,0):=by unfold F.QL; rw[mV1,O3]; rfl
 have q:F.QL 4 V1 3 0=some (5,3,1):=by unfold F.QL; rw[mV1,PY]; rfl
 unfold F.QW
 rw[j,aa,q,aa]
 rfl
theorem hV2:F.QW V2 0=some (2,-1,true):=by
 have j:F.QL 1 V2 0 0=some (2,0,1):=by unfold F.QL; rw[mV2,Qf]; rfl
 have q:F.QL 4 V2 0 1=some (-1,0,1):=by unfold F.QL; rw[mV2,PN]; rfl
 unfold F.QW
 rw[j,aa,q,aa]
 rfl
theorem hV3:F.QW V3 2=some (-1,-1,true):=by
 have j:F.QL 1 V3 2 0=some (-1,2,0):=by unfold F.QL; rw[mV3,Nn]; rfl
 have q:F.QL 4 V3 2 0=some (-1,2,0):=by unfold F.QL; rw[mV3,Nn]; rfl
 unfold F.QW
 rw[j,aa,q,aa]
 rfl
theorem hV4:F.QW V4 0=some (2,-1,true):=by
 have j:F.QL 1 V4 0 0=some (2,0,1):=by unfold F.QL; rw[mV4,P4]; rfl
 have q:F.QL 4 V4 0 1=some (-1,0,1):=by unfold F.QL; rw[mV4,PT]; rfl
 unfold F.QW
 rw[j,aa,q,aa]
 rfl
theorem rV1:F.Rc V1=some (10,[161,1,38],[107],[97],[],0):=by
 have j:F.Rx V1 1 6 false=some (10,[161,1,38],[107],[97],[],0):=by
  have g:au V1 (wI ((1:Int)+1):Int)=some (2,0,[161,1,38],0):=rfl
  unfold F.Rx
  simp only[ai,ak]
  rw[g,aa,show au V1 (6:Int)=some (2,0,[97],0) from rfl,aa,show au V1 (wI ((6:Int)+1))=some (2,0,[],0) from rfl,aa]
  simp only
  rw[kB,a2,aa]
  show (if ((0:Int) != 0)=true then _ else af (au V2 (0:Int)) _)=_
  rw[ae (by decide),show au V2 (0:Int)=some (5,0,[],2) from rfl,aa]
  show (if ((5:Int) != 5)=true then _ else af (F.QW V2 0) _)=_
  rw[ae (by decide),hV2,aa,show wI ((1:Int)+2)=3 from rfl,hV1,aa]
  rfl
 unfold F.Rc
 rw[show au V1 (0:Int)=some (6,18,[],1) from rfl,aa]
 show F.RH V1 1=_
 show F.Rh V1 1 false=_
 unfold F.Rh
 simp only[ai,ak]
 rw[show wI ((1:Int)+2)=3 from rfl,bV1,aa]
 exact j
theorem rV3:F.Rc V3=some (0,[],[],[],[],111):=by
 have j:F.Rx V3 0 3 false=some (0,[],[],[],[],111):=by
  have g:au V3 (wI ((0:Int)+1):Int)=some (2,0,[161,1,36],0):=rfl
  unfold F.Rx
  simp only[ai,ak]
  rw[g,aa,show au V3 (3:Int)=some (2,0,[],0) from rfl,aa,show au V3 (wI ((3:Int)+1))=some (2,0,[],0) from rfl,aa]
  simp only
  rw[kB,a4,aa]
  show (if ((0:Int) != 0)=true then _ else af (au V4 (0:Int)) _)=_
  rw[ae (by decide),show au V4 (0:Int)=some (5,0,[],2) from rfl,aa]
  show (if ((5:Int) != 5)=true then _ else af (F.QW V4 0) _)=_
  rw[ae (by decide),hV4,aa,show wI ((0:Int)+2)=2 from rfl,hV3,aa]
  rfl
 unfold F.Rc
 rw[show au V3 (0:Int)=some (4,0,[],4) from rfl,aa]
 show F.RH V3 0=_
 show F.Rh V3 0 false=_
 unfold F.Rh
 simp only[ai,ak]
 rw[show wI ((0:Int)+2)=2 from rfl,bV3,aa]
 exact j
def X1:Y3:=[132,106,83,105,103,110,97,116,117,114,101,49,67,161,1,38,64,65,97]
theorem Oo:F.Re [210,132,67,161,1,38,161,4,65,107,65,97,64] []=some (10,[107],[97],[],X1,0):=by
 unfold F.Re
 show F.Rz _ _ false=_
 unfold F.Rz
 simp only[ai,ak]
 rw[kB,a1,aa]
 show (if ((0:Int) != 0)=true then _ else af (F.Rc V1) _)=_
 rw[ae (by decide),rV1,aa]
 have q:F.Rp [132] 3 [83,105,103,110,97,116,117,114,101,49]=some ([132]++hd 3 (UInt64.ofNat 10)++[83,105,103,110,97,116,117,114,101,49]):=mH 3 _ _ (by simp) (by simp)
 have j:∀o x:Y3,o.length<=1000000000->x.length<1000000000->F.Rp o 2 x=some (o++hd 2 (UInt64.ofNat x.length)++x):=fun o x y hx=>mH 2 o x y hx
 have A:([132]++hd 3 (UInt64.ofNat 10)++[83,105,103,110,97,116,117,114,101,49]:Y3)=[132,106,83,105,103,110,97,116,117,114,101,49]:=by kernel_rfl
 have B:([132,106,83,105,103,110,97,116,117,114,101,49]++hd 2 (UInt64.ofNat [161,1,(38:UInt8)].length)++[161,1,38]:Y3)=[132,106,83,105,103,110,97,116,117,114,101,49,67,161,1,38]:=by kernel_rfl
 have G:([132,106,83,105,103,110,97,116,117,114,101,49,67,161,1,38]++hd 2 (UInt64.ofNat ([]:Y3).length)++[]:Y3)=[132,106,83,105,103,110,97,116,117,114,101,49,67,161,1,38,64]:=by kernel_rfl
 have I:([132,106,83,105,103,110,97,116,117,114,101,49,67,161,1,38,64]++hd 2 (UInt64.ofNat [(97:UInt8)].length)++[97]:Y3)=X1:=by kernel_rfl
 rw[ae (by decide),q,A,aa,j _ _ (by simp) (by simp),B,aa,j _ _ (by simp) (by simp),G,aa,j _ _ (by simp) (by simp),I,aa]
 rw[grd_true _ (by simp),grd_true _ (by simp),grd_true _ (by simp)]
theorem Ou:F.Re [132,67,161,1,36,160,64,64] []=some (0,[],[],[],[],111):=by
 unfold F.Re
 show F.Rz _ _ false=_
 unfold F.Rz
 simp only[ai,ak]
 rw[kB,a3,aa]
 show (if ((0:Int) != 0)=true then _ else af (F.Rc V3) _)=_
 rw[ae (by decide),rV3,aa]
 rfl
theorem C1 (n:UInt64) (a:List Int) (q:Bool):F.RT n a V5 q=af (some (g8 V5 (cF 8 V5) [(0,n,[],0)] 2 1)) fun j=>
  if q=true then F.Tq j true else if (decide ((0:Int)<=j))=true then af (au V5 (j:Int)) fun y=>af (F.R1 a y.1) fun A=>F.Tq j (!A) else F.Tq j false:=by
 unfold F.RT
 rw[mV5]
theorem CJ (n:UInt64) (m:Int) (h:g8 V5 (cF 8 V5) [(0,n,[],0)] 2 1=-1):F.Rj n m V5 false=some ([],false,false):=by
 unfold F.Rj
 rw[C1,h]; rfl
theorem CK (n:UInt64) (h:g8 V5 (cF 8 V5) [(0,n,[],0)] 2 1=-1):F.Rk n false V5=some (false,0,false):=by
 unfold F.Rk
 rw[C1,h]; rfl
theorem Qq:F.Rj 1 3 V5 false=some ([105],true,false):=by
 unfold F.Rj
 rw[C1,Qu,aa,ae (by decide),ah (by decide),show au V5 (2:Int)=some (3,0,[105],0) from rfl,aa,G6]
 rfl
theorem Pg:F.Rk 4 false V5=some (true,10,false):=by
 unfold F.Rk
 rw[C1,PA,aa,ae (by decide),ah (by decide),show au V5 (4:Int)=some (0,10,[],0) from rfl,aa,Fo]
 rfl
theorem P6:F.RT 3 [3,4] V5 false=some (-1,false):=by rw[C1,P7]; rfl
theorem MW:F.SE [162,1,97,105,4,10]=some ([],[105],true,[],false,[],false,[],false,true,10,false,0,false,0,0):=by
 unfold F.SE
 rw[kB,a5,aa]
 show (if ((0:Int) != 0)=true then _ else af (au V5 (0:Int)) _)=_
 rw[ae (by decide),show au V5 (0:Int)=some (5,0,[],4) from rfl,aa]
 show (if ((5:Int) != 5)=true then _ else af (F.Rj 1 3 V5 false) _)=_
 rw[ae (by decide),Qq,aa]
 show af (F.Rj 2 3 V5 false) _=_
 rw[CJ 2 3 Qi,aa]
 show af (F.Rk 4 false V5) _=_
 rw[Pg,aa]
 show af (F.Rk 5 false V5) _=_
 rw[CK 5 Pz,aa]
 show af (F.Rk 6 false V5) _=_
 rw[CK 6 P2,aa]
 show af (F.Rj 7 2 V5 false) _=_
 rw[CJ 7 2 Pm,aa]
 show af (F.RT 3 [3,4] V5 false) _=_
 rw[P6,aa]
 rfl
theorem Md:F.SE [128]=some ([],[],false,[],false,[],false,[],false,false,0,false,0,false,0,130):=by
 unfold F.SE
 rw[kB,a6,aa]
 rfl
theorem Ek:F.Vh=some true:=by
 unfold F.Vh
 rw[Oo,aa]
 show (if ((0:Int) != 0)=true then _ else _)=_
 rw[ae (by decide)]
 show (if ((10:Int) != 10)=true then _ else _)=_
 rw[ae (by decide),My]
 show af (F.VE [107] [107]) _=_
 rw[tB _ _ (by simp),aa,ae (by decide)]
 show af (F.VE [97] [97]) _=_
 rw[tB _ _ (by simp),aa,ae (by decide)]
 show F.Rq false=_
 unfold F.Rq
 rw[ae (by decide),Ou,aa,MW,aa,Md]
 rfl
section
variable {v:List It} (hw:wt v<=4000000000000) (hK:Kd v) (hU:∀x∈v,x.2.2.1.length<=2000000)
include hw hK hU
end
def jB (p z s k:Y3) (kid tag:Bool):List It:=
 (if tag then [(6,18,[],1)] else [])++([(4,0,[],4),(2,0,p,0)]++((if kid then [(5,0,[],2),(0,4,[],0),(2,0,k,0)] else [(5,0,[],0)])++[(2,0,z,0),(2,0,s,0)]))
theorem Em (p z s k:Y3) (kid j:Bool):F.VX p z s k kid j=some (jB p z s k kid j):=by
 have e:∀l m:List It,l.length<=100->m.length<=100->apO 40 l m=some (l++m):=fun l m q y=>ir (by omega)
 cases j <;> cases kid <;>
  simp only[F.VX,F.Xf,F.WO,am,ak,ai,e _ _ (show ([]:List It).length<=100 by decide) (show [((6:Int),(18:UInt64),([]:Y3),(1:Int))].length<=100 by simp),aa,bJ] <;>
  (rw[e _ _ (by simp) (by simp),aa,e _ _ (by simp) (by simp),aa,e _ _ (by simp) (by simp),aa]; rfl)
section
variable {v:List It} (hw:wt v<=4000000000000) (hK:Kd v) (hU:∀x∈v,x.2.2.1.length<=2000000)
include hw hK hU
end
theorem oZ (p z s k:Y3) (kid j:Bool) (hp:p.length<=2000000) (hz:z.length<=2000000) (hs:s.length<=2000000) (q:k.length<=2000000) :
  wt (jB p z s k kid j)<=4000000000000/\Kd (jB p z s k kid j):=by
 refine⟨by cases kid <;> cases j <;> simp[jB,wt] <;> omega,by cases kid <;> cases j <;> simp[jB,Kd]⟩
section
variable {v:List It} (hw:wt v<=4000000000000) (hK:Kd v)
include hw hK
theorem yH (hs:io v=true) {a d j:Nat} {t:Y3} (B:a<v.length) (hd:d<=32) (q:cF d v a=some (t,j)):F.RK v (a:Int)=some (j:Int):=by
 have hl:=lP v
 unfold F.RK
 rw[nf hw hK,hs]
 have y:decide ((a:Int)<0)=false:=az (by omega)
 have A:decide ((v.length:Int)<=(a:Int))=false:=az (by omega)
 simp only[aa,dB,ai,ak,y,A,F.TT,mX (by omega) hd q]
theorem yO (p:Int):((∀j,F.Q9 v p j=some (-1))/\(io v=true->∀(a:Nat) (q:a<v.length),p=(a:Int)->v[a].1≠5)) \/
  ∃(a d K k:Nat) (u:Y3) (q:a<v.length),p=(a:Int)/\v[a].1=5/\v[a].2.2.2=((2*K:Nat):Int)/\d<=32/\cV (cF d v) true (2*K) true none (a+1)=some (u,k) /\
   ∀j,F.Q9 v p j=some (g8 v (cF d v) j K (a+1)):=by
 have hl:=lP v
 unfold F.Q9
 rw[nf hw hK]
 simp only[aa]
 by_cases h0:p<0
 ·have A:decide (p<0)=true:=by simpa using h0
  exact .inl ⟨fun j=>by simp only[A,am,F.Rs],fun _ a q e=>by omega⟩
 have A:decide (p<0)=false:=by simpa using h0
 obtain⟨a,rfl⟩:=fw (Int.not_lt.1 h0)
 by_cases h1:v.length<=a
 ·have B:decide ((v.length:Int)<=(a:Int))=true:=by simp; omega
  exact .inl ⟨fun j=>by simp only[A,B,am,ai,ak,F.Rs],fun _ N O e=>by omega⟩
 have B:decide ((v.length:Int)<=(a:Int))=false:=by simp; omega
 have q:a<v.length:=by omega
 simp only[A,B,ai,ak,cd q,aa]
 by_cases h5:v[a].1=5
 ·have G:(v[a].1 != 5)=false:=by simp[h5]
  simp only[G,ai,ak]
  cases hs:io v with
  | false=>exact .inl ⟨fun j=>by simp only[iJ,F.Rs,am],fun h=>by cases h⟩
  | true=>
   obtain⟨d,t,k,hd,U⟩:=rg hs q
   obtain⟨V,u,rfl,I,X,Y⟩:=I5 U q h5
   obtain⟨K,y⟩:∃K:Nat,v[a].2.2.2=((2*K:Nat):Int):=⟨(v[a].2.2.2 / 2).toNat,by omega⟩
   rw[y,aq]at I
   have Z:=hK v[a] (cC q)
   have J:wI (Int.tdiv v[a].2.2.2 2)=(K:Int):=by
    rw[y,ce (by omega),aO (by omega) (by omega)]; omega
   have R:wI ((a:Int)+1)=((a+1:Nat):Int):=by rw[aO (by omega) (by omega)]; simp
   refine .inr ⟨a,V,K,k,u,q,rfl,h5,y,by omega,I,fun j=>?_⟩
   simp only[dB,F.Rs,ai,ak,cd q,aa,R]
   exact pg (by omega) (by omega) j v[a] K J (by omega) K 0 (a+1) none u k I (by omega) (by omega)
 ·have G:(v[a].1 != 5)=true:=by simpa using h5
  refine .inl ⟨fun j=>by simp only[G,am,F.Rs],fun _ N O e=>?_⟩
  have:N=a:=by omega
  subst this
  exact h5
def Jf (v:List It) (q:Int):Prop:=q=-1\/∃k:Nat,k<v.length/\q=(k:Int)
theorem JK (p:Int) (j:List It):∃q,F.Q9 v p j=some q/\Jf v q:=by
 rcases yO hw hK p with h | ⟨a,d,K,k,u,I,rfl,J,G,hd,y,h⟩
 ·exact⟨-1,h.1 j,.inl rfl⟩
 ·refine⟨_,h j,?_⟩
  rcases CS j K (a+1) none u k y with h | ⟨A,N,O,h,B⟩
  ·exact .inl h
  ·exact .inr ⟨A,(CE B).1,h⟩
theorem AP (a:Nat) (G:a<v.length):∃j q ok,F.QW v (a:Int)=some (j,q,ok)/\Jf v j/\Jf v q:=by
 obtain⟨j,I,y⟩:=JK hw hK (a:Int) [(0,1,[],0)]
 obtain⟨q,J,A⟩:=JK hw hK (a:Int) [(0,4,[],0)]
 have N:∀n:Int,∃m,F.QL 1 v (a:Int) n=some (j,(a:Int),m):=fun n=>by
  unfold F.QL
  rw[I,aa]
  split <;> exact⟨_,rfl⟩
 have O:∀n:Int,∃m,F.QL 4 v (a:Int) n=some (q,(a:Int),m):=fun n=>by
  unfold F.QL
  rw[J,aa]
  split <;> exact⟨_,rfl⟩
 obtain⟨R,U⟩:=N 0
 obtain⟨X,V⟩:=O R
 unfold F.QW
 rw[U,aa,V,aa,cd G,aa]
 split
 ·rcases A with rfl | ⟨k,B,rfl⟩
  ·exact⟨j,-1,true,rfl,y,.inl rfl⟩
  ·have:decide ((k:Int)<0)=false:=az (by omega)
   simp only[this,ai,ak,cd B,aa]
   exact⟨_,_,_,rfl,y,.inr ⟨k,B,rfl⟩⟩
 ·exact⟨_,_,_,rfl,y,A⟩
end
abbrev Rd6:=Int×Y3×Y3×Y3×Y3×Int
def Rok (x:Option Rd6):Prop:=∃r,x=some r/\r.2.1.length<=2000000/\r.2.2.1.length<=2000000/\r.2.2.2.1.length<=2000000/\r.2.2.2.2.1.length<=2000000
theorem Rok.fail (e:Int):Rok (some (0,[],[],[],[],e)):=⟨_,rfl,by simp,by simp,by simp,by simp⟩
theorem IQ {A:List It} {j q y:It} {n1 R:Int} {B:Nat} (G:B<A.length) {U:Int} {ok:Bool} {K:Y3} (hK:K.length<=2000000) (I:j.2.2.1.length<=2000000) (J:q.2.2.1.length<=2000000) (N:y.2.2.1.length<=2000000) :
  Rok (F.Sk (A,n1,R) ((B:Int),U,ok) j q y K):=by
 have O:∀n,Rok (F.Wj j q y K n):=fun n=>by
  unfold F.Wj
  dsimp only
  split
  ·exact .fail 111
  ·exact⟨_,rfl,I,hK,J,N⟩
 simp only[F.Sk,cd G,aa]
 split
 ·obtain⟨r,V⟩:∃r,F.W5 A[B].2.1=some r:=⟨_,rfl⟩
  rw[V,aa]
  exact O r
 ·exact O 0
section
variable {v:List It} (hw:wt v<=4000000000000) (hK:Kd v) (hU:∀x∈v,x.2.2.1.length<=2000000)
include hw hK hU
theorem Mb (a j:Nat) (Y:a+1<v.length) (h2:a+2<v.length) (Z:j+1<v.length) (b:Bool):Rok (F.Rx v (a:Int) (j:Int) b):=by
 have hl:=lP v
 cases b
 ·have a1:wI ((a:Int)+1)=((a+1:Nat):Int):=by rw[aO (by omega) (by omega)]; simp
  have a2:wI ((a:Int)+2)=((a+2:Nat):Int):=by rw[aO (by omega) (by omega)]; simp
  have j1:wI ((j:Int)+1)=((j+1:Nat):Int):=by rw[aO (by omega) (by omega)]; simp
  have R:=hU v[a+1] (cC Y)
  have U:=hU v[j] (cC (by omega))
  have V:=hU v[j+1] (cC Z)
  simp only[F.Rx,ai,ak,a1,a2,j1,cd Y,cd (show j<v.length by omega),cd Z,aa]
  rw[kB]
  simp only[aa]
  rcases BJ v[a+1].2.2.1 with⟨y,ab,J,A⟩ | ⟨e,p,he,cf,cm,A⟩
  ·have X:=Lz ab J
   have hm:=(km v[a+1].2.2.1 32).1 _ _ _ J
   rw[A]
   have h0:0<y.length:=by omega
   have g0:au y (0:Int)=some y[0]:=cd (i:=0) h0
   have ad:∀x∈y,x.2.2.1.length<=2000000:=fun x hx=>by have:=X.2.2 x hx; omega
   obtain⟨I,q4,ok,hh,p1,p4⟩:=AP X.wt X.kd 0 h0
   obtain⟨s1,s4,ag,ap,ct,aS⟩:=AP hw hK (a+2) h2
   rw[show ((0:Nat):Int)=0 from rfl]at hh
   simp only[d5,ai,ak,g0,aa,hh,ap]
   have q:∀b:Bool,(b=false->0<=I)->Rok (F.Rf v (y,0,0) (I,q4,ok) (s1,s4,ag) v[a+1] v[j] v[j+1] b):=fun b hb=>by
    cases b
    ·obtain⟨k1,B,rfl⟩:∃k:Nat,k<y.length/\I=(k:Int):=by
      rcases p1 with rfl | h
      ·exact absurd (hb rfl) (by omega)
      ·exact h
     simp only[F.Rf,ai,ak]
     rcases p4 with rfl | ⟨q,N,rfl⟩
     ·rw[ae (by simp)]
      rcases aS with rfl | ⟨c0,G,rfl⟩
      ·rw[ae (by simp)]
       exact IQ B (by simp) R U V
      ·rw[ah (by simp),cd G,aa]
       exact IQ B (hU _ (cC G)) R U V
     ·rw[ah (by simp),cd N,aa]
      exact IQ B (ad _ (cC N)) R U V
    ·exact .fail 221
   split
   ·exact .fail 221
   ·split
    ·exact q true (by simp)
    ·split
     ·exact q true (by simp)
     ·split
      ·exact q true (by simp)
      ·rename_i hq
       have O:0<=I:=by simpa using hq
       split
       ·exact q true (by simp)
       ·split
        ·exact q _ fun _=>O
        ·exact q false fun _=>O
  ·have e1:(e != 0)=true:=by simpa using he
   rw[A]
   simp only[e1,am]
   exact .fail e
 ·exact .fail 221
theorem LS (hs:io v=true) (a:Nat) (A:a<v.length):Rok (F.RH v (a:Int)):=by
 have hl:=lP v
 have a1:wI ((a:Int)+1)=((a+1:Nat):Int):=by rw[aO (by omega) (by omega)]; simp
 have a2:wI ((a:Int)+2)=((a+2:Nat):Int):=by rw[aO (by omega) (by omega)]; simp
 obtain⟨R,U,V⟩:=zM hs A
 have T:Rok (F.Rh v (a:Int) true):=.fail 221
 unfold F.RH
 simp only[cd A,aa]
 by_cases h4:v[a].1=4
 ·have B:(v[a].1 != 4)=false:=by simp[h4]
  simp only[B,ai,ak]
  by_cases hn:v[a].2.2.2=4
  ·have G:(v[a].2.2.2 != 4)=false:=by simp[hn]
   have q:a+1<v.length:=by omega
   have y:a+2<v.length:=by omega
   simp only[G,ai,ak,a1,a2,cd q,cd y,aa]
   by_cases h2:v[a+1].1=2
   ·have I:(v[a+1].1 != 2)=false:=by simp[h2]
    simp only[I,ai,ak]
    cases (v[a+2].1 != 5)
    ·obtain⟨d,t,j,hd,N,J,_⟩:=Ie hs A h4 hn q h2
     have O:wI ((j:Int)+1)=((j+1:Nat):Int):=by rw[aO (by omega) (by omega)]; simp
     simp only[F.Rh,ai,ak,a2,yH hw hK hs y hd N,aa,cd (show j<v.length by omega),O,cd J]
     split
     ·exact Mb hw hK hU a j q y J true
     ·exact Mb hw hK hU a j q y J _
    ·exact T
   ·have I:(v[a+1].1 != 2)=true:=by simpa using h2
    simp only[I,am]; exact T
  ·have G:(v[a].2.2.2 != 4)=true:=by simpa using hn
   simp only[G,am]; exact T
 ·have B:(v[a].1 != 4)=true:=by simpa using h4
  simp only[B,am]; exact T
theorem LJ (hs:io v=true) (q:0<v.length):Rok (F.Rc v):=by
 have A:au v (0:Int)=some v[0]:=cd (i:=0) q
 have z:Rok (F.RH v 0):=LS hw hK hU hs 0 q
 unfold F.Rc
 simp only[A,aa]
 by_cases h6:v[0].1=6
 ·have y:(v[0].1 == 6)=true:=by simpa using h6
  obtain⟨B,G,j⟩:=zM hs q
  have I:v[0].2.2.2=1:=by
   unfold cw at j
   rw[h6]at j
   simp at j
   exact j.2
  simp only[y,am]
  cases (v[0].2.1 == 18)
  ·exact z
  ·exact LS hw hK hU hs 1 (by omega)
 ·have y:(v[0].1 == 6)=false:=by simpa using h6
  simp only[y,ai,ak]
  exact z
end
def sgn (p c z:Y3):Y3:=[132]++hd 3 (UInt64.ofNat 10)++[83,105,103,110,97,116,117,114,101,49]++hd 2 (UInt64.ofNat p.length)++p++hd 2 (UInt64.ofNat c.length)++c++hd 2 (UInt64.ofNat z.length)++z
theorem ER {f:Int->Option (Int⊕Int)} {l:List Y3} {s:Y3} (hl:l.length<9223372036854775807)
  (j:∀(i:Nat) (h:i<l.length),f (i:Int)=if (s == l[i])=true then some (.inr (i:Int)) else some (.inl ((i+1:Nat):Int))) (A:f (l.length:Int)=some (.inr (-1))) :
  ∃q,loop f 0=some q/\decide (0<=q)=l.contains s:=by
 have B:∀k i,l.length - i=k->i<=l.length->∃q,loop f (i:Int)=some q/\decide (0<=q)=(l.drop i).contains s:=by
  intro k
  induction k with
  | zero=>
   intro i G I
   have hi:i=l.length:=by omega
   subst hi
   exact⟨-1,bP A,by simp⟩
  | succ k ih=>
   intro i G I
   have y:i<l.length:=by omega
   rw[bk y,List.contains_cons]
   have hs:=j i y
   cases he:(s == l[i])
   ·rw[he]at hs
    obtain⟨q,J,N⟩:=ih (i+1) (by omega) (by omega)
    exact⟨q,by rw[bB hs,J],by rw[N,Bool.false_or]⟩
   ·rw[he]at hs
    exact⟨i,bP hs,by simp⟩
 have:=B l.length 0 (by omega) (by omega)
 simpa using this
theorem B6 (l:List Y3) (s:Y3) (hl:l.length<9223372036854775807):F.Wx l s=some (l.contains s):=by
 unfold F.Wx F.Xc
 obtain⟨q,y,A⟩:=ER (f:=F.Wn l s) (l:=l) (s:=s) hl (fun i h=>by
  have j:decide ((i:Int)<(l.length:Int))=true:=aj (by omega)
  simp only[F.Wn,j,am,cd h,aa,aO (show -9223372036854775808<=(i:Int)+1 by omega) (by omega)]
  rfl) (by
  have j:decide ((l.length:Int)<(l.length:Int))=false:=by simp
  simp only[F.Wn,j,ai,ak]
  rfl)
 rw[y,aa,A]
theorem rj (a b:Y3) (j:a.length<9223372036854775807):F.Ro a b=some (a == b):=tB a b j
end Go.Gk.Cb
end
section
namespace Go.Gk.Cb
open Go Go.Gk Go.Gk.Bn
theorem t7 {v:List It} (d i:Nat) {x:Y3} (h:v[i]? = some (2,0,x,0)):cF d v i=some (hd 2 (UInt64.ofNat x.length)++x,i+1):=by
 have j:∀sub,fv v sub i=some (hd 2 (UInt64.ofNat x.length)++x,i+1):=fun sub=>by
  unfold fv
  rw[h]
  rfl
 cases d
 ·exact j _
 ·exact j _
theorem Jx {v:List It} (d i:Nat) (h:v[i]? = some (0,4,[],0)):cF d v i=some ([4],i+1):=by
 have hf:cw (0,4,[],0):=by simp[cw]
 have j:∀sub,fv v sub i=some ([4],i+1):=fun sub=>by
  unfold fv
  rw[h]
  simp only[hf,iK,ak]
  rfl
 cases d
 ·exact j _
 ·exact j _
def un (k:Y3) (kid:Bool):Y3:=if kid then [161]++([4]++(hd 2 (UInt64.ofNat k.length)++k)) else [160]
theorem Mj {v:List It} (d i:Nat) (h:v[i]? = some (5,0,[],0)):cF (d+1) v i=some ([160],i+1):=by
 have hf:cw (5,0,[],0):=by simp[cw]
 show fv v (some (cF d v)) i=_
 unfold fv
 rw[h]
 simp only[hf,iK,ak]
 rfl
theorem M7 {v:List It} (d i:Nat) {k:Y3} (h:v[i]? = some (5,0,[],2)) (j:v[i+1]? = some (0,4,[],0)) (q:v[i+2]? = some (2,0,k,0)):cF (d+1) v i=some (un k true,i+3):=by
 have hf:cw (5,0,[],2):=by simp[cw]
 show fv v (some (cF d v)) i=_
 unfold fv
 rw[h]
 simp only[hf,iK,ak]
 have y:cV (cF d v) true 2 true none (i+1)=some ([4]++((hd 2 (UInt64.ofNat k.length)++k)++[]),i+3):=by
  have A:=Jx d (i+1) j
  have B:=t7 d (i+2) q
  simp only[cV,A,show i+1+1=i+2 by omega,B,show i+2+1=i+3 by omega]
  rfl
 rw[ah (Or.inr (Or.inl trivial)),show ((5:Int) == 5)=true from rfl,show ((2:Int).toNat)=2 from rfl,y]
 simp only[bR]
 rfl
def Msg (v:List It) (a:Nat) (p z s k:Y3) (kid:Bool):Prop:=
 v[a]? = some (4,0,[],4)/\v[a+1]? = some (2,0,p,0)/\(if kid=true then v[a+2]? = some (5,0,[],2)/\v[a+3]? = some (0,4,[],0)/\v[a+4]? = some (2,0,k,0) else v[a+2]? = some (5,0,[],0)) /\
  v[a+(if kid then 5 else 3)]? = some (2,0,z,0)/\v[a+(if kid then 6 else 4)]? = some (2,0,s,0)/\v.length=a+(if kid then 7 else 5)
theorem FI (p z s k:Y3) (kid j:Bool):Msg (jB p z s k kid j) (if j then 1 else 0) p z s k kid:=by
 cases kid <;> cases j <;> simp[Msg,jB]
def yt (p z s k:Y3) (kid:Bool):Y3:=[132]++((hd 2 (UInt64.ofNat p.length)++p)++(un k kid++((hd 2 (UInt64.ofNat z.length)++z)++((hd 2 (UInt64.ofNat s.length)++s)++[]))))
theorem GW {v:List It} {a:Nat} {p z s k:Y3} {kid:Bool} (h:Msg v a p z s k kid) (d:Nat):cF (d+1) v (a+2)=some (un k kid,a+(if kid then 5 else 3)):=by
 obtain⟨q,y,j,A,B,G⟩:=h
 cases kid
 ·simp only[ai,ak]at j ⊢
  exact Mj d (a+2) j
 ·simp only[am]at j ⊢
  exact M7 d (a+2) j.1 j.2.1 j.2.2
theorem Ax {v:List It} {a:Nat} {p z s k:Y3} {kid:Bool} (h:Msg v a p z s k kid) (d:Nat):cF (d+2) v a=some (yt p z s k kid,v.length):=by
 have hu:=GW h d
 obtain⟨j,q,O,y,A,B⟩:=h
 have hf:cw (4,0,[],4):=by simp[cw]
 show fv v (some (cF (d+1) v)) a=_
 unfold fv
 rw[j]
 simp only[hf,iK,ak]
 have G:=t7 (d+1) (a+1) q
 have I:=t7 (d+1) _ y
 have J:=t7 (d+1) _ A
 have hn:a+(if kid then 5 else 3)+1=a+(if kid then 6 else 4):=by cases kid <;> rfl
 have hl:a+(if kid then 6 else 4)+1=v.length:=by rw[B]; cases kid <;> rfl
 have N:cV (cF (d+1) v) false 4 true none (a+1)=some ((hd 2 (UInt64.ofNat p.length)++p)++(un k kid++((hd 2 (UInt64.ofNat z.length)++z)++((hd 2 (UInt64.ofNat s.length)++s)++[]))),v.length):=by
  simp only[cV,G,show a+1+1=a+2 by omega,hu,I,hn,J,hl,dV,ai,ak]
 rw[ah (Or.inl trivial),show ((4:Int) == 5)=false from rfl,show ((4:Int).toNat)=4 from rfl,N]
 rfl
def mI (p z s k:Y3) (kid tag:Bool):Y3:=(if tag then [210] else [])++yt p z s k kid
theorem wo (p z s k:Y3) (kid j:Bool):cF 32 (jB p z s k kid j) 0=some (mI p z s k kid j,(jB p z s k kid j).length):=by
 have h:=FI p z s k kid j
 cases j
 ·exact Ax (a:=0) h 30
 ·have hf:cw (6,18,[],1):=by simp[cw]
  have e:=Ax (a:=1) h 29
  show fv (jB p z s k kid true) (some (cF 31 (jB p z s k kid true))) 0=_
  unfold fv
  rw[show (jB p z s k kid true)[0]? = some (6,18,[],1) from rfl]
  simp only[hf,iK,ak]
  rw[ah (Or.inr (Or.inr trivial)),show ((6:Int) == 5)=false from rfl,show ((1:Int).toNat)=1 from rfl]
  have q:cV (cF 31 (jB p z s k kid true)) false 1 true none 1=some (yt p z s k kid++[],(jB p z s k kid true).length):=by
   simp only[cV,e,dV,ai,ak]
  rw[q]
  simp only[bR]
  rfl
theorem ui (p z s k:Y3) (kid j:Bool):io (jB p z s k kid j)=true:=by
 unfold io
 rw[wo]
 simp
theorem FL (p z s k:Y3) (kid j:Bool) (hp:p.length<=2000000) (hz:z.length<=2000000) (hs:s.length<=2000000) (q:k.length<=2000000) :
  F.T8 (jB p z s k kid j)=some (if 65536<(mI p z s k kid j).length then ([],10) else (mI p z s k kid j,0)):=by
 obtain⟨hw,hK⟩:=oZ p z s k kid j hp hz hs q
 rw[IG hw hK]
 unfold oM
 rw[wo]
 simp
theorem Ge (p z s k:Y3) (kid j:Bool) (hp:p.length<=2000000) (hz:z.length<=2000000) (hs:s.length<=2000000) (q:k.length<=2000000) (hl:¬65536<(mI p z s k kid j).length) :
  F.RL (mI p z s k kid j)=some (jB p z s k kid j,0,0):=by
 obtain⟨hw,hK⟩:=oZ p z s k kid j hp hz hs q
 have h:=ye (v:=jB p z s k kid j) (t:=mI p z s k kid j) hK (fun x hx=>by
  have:x.2.2.1.length<=2000000:=by
   cases kid <;> cases j <;> simp[jB]at hx <;> rcases hx with rfl | rfl | rfl | rfl | rfl | rfl | rfl | rfl <;> simp <;> omega
  omega) (by unfold oM; rw[wo]; simp[hl])
 rw[kB,h.1]
theorem Ko (p z s k:Y3) (kid j:Bool):(mI p z s k kid j).length<=50+p.length+z.length+s.length+(if kid then k.length else 0):=by
 have hP:=i8 2 (UInt64.ofNat p.length)
 have hZ:=i8 2 (UInt64.ofNat z.length)
 have hS:=i8 2 (UInt64.ofNat s.length)
 have hK:=i8 2 (UInt64.ofNat k.length)
 cases kid <;> cases j <;> simp[mI,yt,un] <;> omega
abbrev E6 (e:Int):Option Rd6:=some (0,[],[],[],[],e)
noncomputable def tlT (x:List It×Int×Int) (h:Int×Int×Bool) (p z s k:Y3) (kid:Bool):Option Rd6:=
 if h.2.2=true/\0<=h.1 then
  (if 0<=h.2.1 then (if kid=true then E6 221 else af (au x.1 h.2.1) fun u=>F.Sk x h (2,0,p,0) (2,0,z,0) (2,0,s,0) u.2.2.1)
   else F.Sk x h (2,0,p,0) (2,0,z,0) (2,0,s,0) (if kid=true then k else []))
 else E6 221
noncomputable def rdT (p z s k:Y3) (kid:Bool):Option Rd6:=
 af (F.RL p) fun x=>if (x.2.1 != 0)=true then E6 x.2.1 else af (au x.1 (0:Int)) fun y=>if (y.1 != 5)=true then E6 221 else af (F.QW x.1 0) fun h=>tlT x h p z s k kid
section
variable {v:List It} (hw:wt v<=4000000000000) (hK:Kd v) (hs:io v=true) {a:Nat} {p z s k:Y3} {kid:Bool} (hm:Msg v a p z s k kid)
include hw hK hs hm
theorem Fh:a+5<=v.length/\v.length<=4000000000000:=by
 have:=lP v
 obtain⟨_,_,_,_,_,h⟩:=hm
 cases kid <;> simp at h <;> omega
theorem IC:F.QW v ((a+2:Nat):Int)=some (-1,(if kid=true then ((a+4:Nat):Int) else -1),true):=by
 obtain⟨hl,Z⟩:=Fh hw hK hs hm
 have ab:=hm
 obtain⟨h0,h1,j,h3,h4,h5⟩:=hm
 have I:a+2<v.length:=by omega
 rcases yO hw hK ((a+2:Nat):Int) with⟨_,h⟩ | ⟨O,d,K,q,u,ac,e,ad,y,hd,hk,h⟩
 ·exfalso
  refine h hs (a+2) I rfl ?_
  cases kid
  ·simp only[ai,ak]at j
   rw[(aD.1 j).2]
  ·simp only[am]at j
   rw[(aD.1 j.1).2]
 ·have:O=a+2:=by omega
  subst this
  cases kid
  ·simp only[ai,ak]at j ⊢
   have hx:=(aD.1 j).2
   rw[hx]at y
   have:K=0:=by simp at y; omega
   subst this
   have N:∀n:UInt64,F.QL n v ((a+2:Nat):Int) 0=some (-1,((a+2:Nat):Int),0):=fun n=>by
    unfold F.QL
    rw[h,aa]
    rfl
   unfold F.QW
   rw[N,aa,N,aa,cd I,aa,hx]
   rfl
  ·simp only[am]at j ⊢
   obtain⟨j,B,G⟩:=j
   have hx:=(aD.1 j).2
   rw[hx]at y
   have:K=1:=by simp at y; omega
   subst this
   have R:=Jx d (a+3) B
   have U:=t7 d (a+4) G
   have J:seg v (a+3) (a+4)=[(0,4,[],0)]:=by
    unfold seg
    rw[show a+4 - (a+3)=1 by omega,bk (show a+3<v.length by omega),(aD.1 B).2]
    rfl
   have m:∀A,g8 v (cF d v) A 1 (a+2+1)=if [((0:Int),(4:UInt64),([]:Y3),(0:Int))]=A then ((a+4:Nat):Int) else -1:=fun A=>by
    rw[show a+2+1=a+3 by omega]
    simp only[g8,R,show a+3+1=a+4 by omega,U,J]
   have V:F.QL 1 v ((a+2:Nat):Int) 0=some (-1,((a+2:Nat):Int),0):=by
    unfold F.QL
    rw[h,aa,m,ae (by simp)]
    rfl
   have X:F.QL 4 v ((a+2:Nat):Int) 0=some (((a+4:Nat):Int),((a+2:Nat):Int),1):=by
    unfold F.QL
    rw[h,aa,m,ah rfl]
    have:decide ((0:Int)<=((a+4:Nat):Int))=true:=aj (by omega)
    rw[this,ah rfl]
    rfl
   unfold F.QW
   rw[V,aa,X,aa,cd I,aa,hx]
   have g4:au v ((a+4:Nat):Int)=some (2,0,k,0):=by rw[cd (show a+4<v.length by omega),(aD.1 G).2]
   have Y:decide (((a+4:Nat):Int)<0)=false:=az (by omega)
   rw[show (2:Int) == wI (2*1) from rfl]
   simp only[am,Y,ai,ak,g4,aa]
   rfl
theorem Ey:F.RH v (a:Int)=rdT p z s k kid:=by
 obtain⟨hl,ap⟩:=Fh hw hK hs hm
 have hh:=IC hw hK hs hm
 have hu:=GW hm 1
 obtain⟨Y,Z,G,U,N,h5⟩:=hm
 have a1:wI ((a:Int)+1)=((a+1:Nat):Int):=by rw[aO (by omega) (by omega)]; simp
 have a2:wI ((a:Int)+2)=((a+2:Nat):Int):=by rw[aO (by omega) (by omega)]; simp
 have q:∀{i:Nat} {x:It},v[i]? = some x->au v (i:Int)=some x:=fun {i x} h=>by
  obtain⟨hi,he⟩:=aD.1 h
  rw[cd hi,he]
 have O:∃x:It,au v ((a+2:Nat):Int)=some x/\x.1=5:=by
  cases kid
  ·simp only[ai,ak]at G
   exact⟨_,q G,rfl⟩
  ·simp only[am]at G
   exact⟨_,q G.1,rfl⟩
 obtain⟨x2,O,x5⟩:=O
 have V:=yH hw hK hs (show a+2<v.length by omega) (by omega) hu
 have X:a+(if kid then 5 else 3)+1=a+(if kid then 6 else 4):=by cases kid <;> rfl
 generalize a+(if kid then 5 else 3)=j at U V X
 rw[<-X]at N
 have aS:j+1<v.length:=(aD.1 N).1
 have j1:wI ((j:Int)+1)=((j+1:Nat):Int):=by rw[aO (by omega) (by omega)]; simp
 simp only[F.RH,q Y,aa,a1,q Z,a2,O,x5,d5,ai,ak,F.Rh,V,q U,j1,q N,F.Rx,hh]
 unfold rdT
 congr 1
 funext x
 congr 1
 congr 1
 funext y
 congr 1
 congr 1
 funext h
 unfold tlT
 have J:∀(h':Int×Int×Bool) (A B C:It),F.Rf v x h h' A B C true=E6 221:=fun _ _ _ _=>rfl
 have hn:decide ((0:Int)<=-1)=false:=rfl
 cases ho:h.2.2
 ·simp only[iJ,am,J,ai,false_and,ak]
 ·simp only[dB,ai,ak,iU]
  by_cases hq:h.1<0
  ·have R:decide (h.1<0)=true:=aj hq
   simp only[R,am,J]
   rw[ae (show ¬0<=h.1 by omega)]
  ·have R:decide (h.1<0)=false:=az hq
   simp only[R,hn,ai,ak]
   rw[ah (show 0<=h.1 by omega)]
   by_cases h4':0<=h.2.1
   ·have I:decide (0<=h.2.1)=true:=aj h4'
    rw[I,ah rfl,ah h4']
    cases kid
    ·simp only[ai,ak,hn,F.Rf,I,am]
    ·have:decide ((0:Int)<=((a+4:Nat):Int))=true:=aj (by omega)
     simp only[am,this,J]
   ·have I:decide (0<=h.2.1)=false:=az h4'
    rw[I,ae h4']
    cases kid
    ·simp only[ai,ak,F.Rf,I,hn]
    ·simp only[am]at G ⊢
     have:decide ((0:Int)<=((a+4:Nat):Int))=true:=aj (by omega)
     simp only[ai,ak,F.Rf,I,this,am,q G.2.2,aa]
end
theorem zo (p z s k:Y3) (kid j:Bool) (hp:p.length<=2000000) (hz:z.length<=2000000) (hs:s.length<=2000000) (q:k.length<=2000000):F.Rc (jB p z s k kid j)=rdT p z s k kid:=by
 obtain⟨hw,hK⟩:=oZ p z s k kid j hp hz hs q
 have h:=Ey hw hK (ui p z s k kid j) (FI p z s k kid j)
 cases j
 ·unfold F.Rc
  rw[show au (jB p z s k kid false) 0=some (4,0,[],4) from rfl,aa]
  exact h
 ·unfold F.Rc
  rw[show au (jB p z s k kid true) 0=some (6,18,[],1) from rfl,aa]
  exact h
theorem N8 (p z s k:Y3) (kid:Bool) (hp:p.length<=2000000) (hz:z.length<=2000000) (hs:s.length<=2000000) (j:k.length<=2000000):Rok (rdT p z s k kid):=by
 obtain⟨hw,hK⟩:=oZ p z s k kid false hp hz hs j
 have h:=LJ hw hK (fun x hx=>by cases kid <;> simp[jB]at hx <;> rcases hx with rfl | rfl | rfl | rfl | rfl | rfl | rfl <;> simp <;> omega) (ui p z s k kid false) (by cases kid <;> simp[jB])
 rwa [zo p z s k kid false hp hz hs j]at h
def If (c:Y3) (r:Rd6):Rd6:=if r.2.2.2.2.2=0 then (r.1,r.2.2.1,r.2.2.2.1,r.2.2.2.2.1,sgn r.2.1 c r.2.2.2.1,0) else (0,[],[],[],[],r.2.2.2.2.2)
theorem G0 (p z s k c:Y3) (kid j:Bool) (hp:p.length<=2000000) (hz:z.length<=2000000) (hs:s.length<=2000000) (y:k.length<=2000000) (hl:¬65536<(mI p z s k kid j).length) {r:Rd6} (I:rdT p z s k kid=some r) :
  F.Re (mI p z s k kid j) c=some (if 65536<c.length then (0,[],[],[],[],10) else If c r):=by
 have J:∀e:Int,(af (F.Uw e) fun x=>some (x.1,x.2.1,x.2.2.1,x.2.2.2.1,x.2.2.2.2.1,x.2.2.2.2.2))=some ((0:Int),([]:Y3),([]:Y3),([]:Y3),([]:Y3),e):=fun e=>rfl
 have N:=Ge p z s k kid j hp hz hs y hl
 have O:=zo p z s k kid j hp hz hs y
 obtain⟨X,q,Y,Z,l3,l4⟩:=N8 p z s k kid hp hz hs y
 rw[I]at q
 cases q
 generalize mI p z s k kid j=b at *
 unfold F.Re
 have R:decide ((65536:Int)<(b.length:Int))=false:=az (by omega)
 simp only[R,ai,ak]
 by_cases h2:65536<c.length
 ·have A:decide ((65536:Int)<(c.length:Int))=true:=aj (by omega)
  simp only[A,am,F.Rz,h2]
  exact J 10
 have A:decide ((65536:Int)<(c.length:Int))=false:=az (by omega)
 simp only[A,ai,ak,F.Rz,h2,N,aa,d5,O,I]
 unfold If
 by_cases hst:r.2.2.2.2.2=0
 ·have B:(r.2.2.2.2.2 != 0)=false:=by simp[hst]
  simp only[B,ai,ak,hst,am]
  have hP:=i8 2 (UInt64.ofNat r.2.1.length)
  have hC:=i8 2 (UInt64.ofNat c.length)
  have hS:(hd 3 (UInt64.ofNat 10)).length<=9:=i8 _ _
  have U:F.Rp [132] 3 [83,105,103,110,97,116,117,114,101,49]=some ([132]++hd 3 (UInt64.ofNat 10)++[83,105,103,110,97,116,117,114,101,49]):=mH 3 _ _ (by simp) (by simp)
  have G:∀o x:Y3,o.length<=1000000000->x.length<1000000000->F.Rp o 2 x=some (o++hd 2 (UInt64.ofNat x.length)++x):=fun o x V hx=>mH 2 o x V hx
  rw[U,aa,G _ r.2.1 (by simp only[ay,cg,dw]; omega) (by omega),aa,G _ c (by simp only[ay,cg,dw]; omega) (by omega),aa,G _ r.2.2.2.1 (by simp only[ay,cg,dw]; omega) (by omega),aa]
  rw[grd_true _ (show r.2.2.1.length<=225000000000000 by omega),grd_true _ (show r.2.2.2.1.length<=225000000000000 by omega),grd_true _ (show r.2.2.2.2.1.length<=225000000000000 by omega)]
  rfl
 ·have B:(r.2.2.2.2.2 != 0)=true:=by simpa using hst
  simp only[B,am,hst,ak]
  exact J _
end Go.Gk.Cb
end
section
namespace Go.Gk.Bn
open Go Go.Gk Go.Gk.Sh Go.Gk.Ec Go.Gk.Pr
theorem Lm {h c:Int} {m:Y3} {r s:Nat} {X Y:Y0} {A:Bool} {x y:Y3} (j:vr h c m r s X Y A=(x,y,0)) :
  isC c/\x.length=nS c/\y.length=nS c/\(lD c x y).2.2.2=0/\rM h c x y m (beB (nS c) r++beB (nS c) s)=0:=by
 have B:∀e:Int,e≠0->((([]:Y3),([]:Y3),e):Y3×Y3×Int)=(x,y,0)->False:=fun e R q=>R (cv (fun t=>t.2.2) q)
 unfold vr at j
 by_cases hh:isH h
 ·rw[ae (dp hh)]at j
  by_cases hc:isC c
  ·rw[ae (dp hc)]at j
   by_cases hp:A=false/\onS c X Y A=true
   ·rw[ae (dp hp)]at j
    by_cases hf:inN c r/\inN c s/\val X%cN c=r
    ·rw[ae (dp hf)]at j
     obtain⟨hi,N⟩:=hp
     subst hi
     obtain⟨O,hs,hx⟩:=hf
     have I:=AX N
     have U:=qH c hc
     have J:On (-3) (bF c) (qq (zN h c m) r s (ke c X Y false)):=(ccv c).on_add ((ccv c).on_mul U _) ((ccv c).on_mul I _)
     have G:=JZ (z:=zN h c m) hc I O hs
     rw[L6 N,aj hx]at G
     cases hq:qq (zN h c m) r s (ke c X Y false) with
     | none=>rw[hq]at j; exact (B 91 (by decide) j).elim
     | some q=>
      obtain⟨u,v⟩:=q
      rw[hq]at j J G
      have V:beB (nS c) u.val=x:=cv Prod.fst j
      have Z:beB (nS c) v.val=y:=cv (fun t=>t.2.1) j
      subst V Z
      refine⟨hc,il _ _,il _ _,?_,?_⟩
      ·rw[CB hc J]
      ·rw[KR hh hc J m O hs,ah G]
    ·rw[ah hf]at j; exact (B 91 (by decide) j).elim
   ·rw[ah hp]at j; exact (B 93 (by decide) j).elim
  ·rw[ah hc]at j; exact (B 90 (by decide) j).elim
 ·rw[ah hh]at j; exact (B 111 (by decide) j).elim
end Go.Gk.Bn
end
section
namespace Go.Gk.Cb
open Go Go.Gk Go.Gk.Bn
theorem OO (z s:Y3):rdT [161,1,38] z s [] false=some (10,[161,1,38],[],z,s,0):=by
 unfold rdT
 rw[kB,a2,aa]
 show (if ((0:Int) != 0)=true then _ else af (au V2 (0:Int)) _)=_
 rw[ae (by decide),show au V2 (0:Int)=some (5,0,[],2) from rfl,aa]
 show (if ((5:Int) != 5)=true then _ else af (F.QW V2 0) _)=_
 rw[ae (by decide),hV2,aa]
 rfl
abbrev my:Y3:=[69,83,50,53,54]
theorem Qt (b c x y:Y3) (l:List Y3) (hl:l.length<9223372036854775807) {z j m:Y3} (q:F.Re b c=some (10,[],z,j,m,0)) (hm:m.length<=900000000000000) (A:j.length<=LB) (hd:(lD 1 x y).2.2.2=0) (B:rM 1 1 x y m j=0) :
  F.Si b c 3 1 [] [] [] x y l=some (if l.contains my=true then (z,0) else ([],112)):=by
 unfold F.Si
 rw[q,aa]
 have G:F.WM 10=some my:=rfl
 simp only[d5,ai,ak,G,aa,B6 l my hl]
 cases l.contains my
 ·rfl
 ·simp only[dB,ai,ak,jES x y m j hm A hd B,aa,d5,am]
theorem BB (a:Y3) (j:a.length<=100000):F.TF a a a=some true:=by
 unfold F.TF
 rw[xF (c:=71) (fun i l=>rfl) a (by omega),rj a a (by omega),aa,ae (by simp),xF (c:=72) (fun i l=>rfl) a (by omega)]
 rw[xg (c:=81) (bytes:=1) (fun l k=>rfl) _ (by simp; omega),xg (c:=82) (bytes:=1) (fun l k=>rfl) _ (by simp; omega)]
 refine Ca a.length 71 81 (fun x=>x != 71) (fun x=>x != 81) rfl rfl (by omega) (fun i=>rfl) ?_
 refine Ca a.length 72 82 (fun x=>x != 72) (fun x=>x != 82) rfl rfl (by omega) (fun i=>rfl) ?_
 rfl
theorem law31_CoseComplete_eq (p c:Y3) (r s X Y:Y0) (j:Bool) (b2:p.length<=140737488351232) (b3:c.length<=140737488351232) (I:r.length<=35184372087808) (J:s.length<=35184372087808) (Z:X.length<=35184372087808) (lY:Y.length<=35184372087808) :
  F.Xm p c r s X Y j=some true:=by
 have A:∀x4 x7,F.SR p c x4 x7 r s X Y j true=some true:=fun _ _=>rfl
 have f1:F.RC r 32=_:=Cl r 32 I (by decide)
 have f2:F.RC s 32=_:=Cl s 32 J (by decide)
 unfold F.Xm
 rw[Ek,aa,ae (by decide),f1,aa,f2,aa]
 by_cases hr:val r<256^32
 ·rw[ah hr]
  dsimp only
  rw[ae (by decide)]
  by_cases hs:val s<256^32
  ·rw[ah hs]
   dsimp only
   rw[ae (by decide)]
   by_cases hp:65000<p.length
   ·rw[ah (aj (by omega))]; exact A _ _
   rw[ae (by rw[ar]; omega)]
   by_cases hc:65536<c.length
   ·rw[aj (by omega)]; exact A _ _
   rw[az (by omega)]
   have G:(beB 32 (val r)).length=32:=il _ _
   have N:(beB 32 (val s)).length=32:=il _ _
   have lg:(beB 32 (val r)++beB 32 (val s)).length=64:=by rw[ay,G,N]
   have a1:apO 1 [] (beB 32 (val r))=some (beB 32 (val r)):=by
    unfold apO
    rw[ah (by rw[G,dw]; omega),bJ]
   have a2:apO 1 (beB 32 (val r)) (beB 32 (val s))=some (beB 32 (val r)++beB 32 (val s)):=by
    unfold apO
    rw[ah (by rw[G,N]; omega)]
   unfold F.SR
   dsimp only
   rw[ae (by decide),a1,aa,a2,aa]
   have O:∀(m:Y3) (x y:Y3),vr 1 1 m (val r) (val s) X Y j=(x,y,0)->(lD 1 x y).2.2.2=0/\rM 1 1 x y m (beB 32 (val r)++beB 32 (val s))=0:=fun m x y q=>by
    have:=Lm q
    exact⟨this.2.2.2.1,this.2.2.2.2⟩
   generalize beB 32 (val r)++beB 32 (val s)=g at lg O
   have lm:=Ko [161,1,38] p g [] false true
   have hl:¬65536<(mI [161,1,38] p g [] false true).length:=by
    simp only[cg,dw,ai,ak]at lm
    omega
   rw[Em,aa,FL _ _ _ _ _ _ (by simp) (by omega) (by omega) (by simp),aa,ae hl]
   dsimp only
   rw[ae (by decide)]
   have hP:=G0 [161,1,38] p g [] c false true (by simp) (by omega) (by omega) (by simp) hl (OO p g)
   rw[ae hc,show If c (10,[161,1,38],[],p,g,0)=(10,[],p,g,sgn [161,1,38] c p,0) from rfl]at hP
   have U:(sgn [161,1,38] c p).length<=1000000:=by
    have hP:=i8 2 (UInt64.ofNat ([161,1,38]:Y3).length)
    have hC:=i8 2 (UInt64.ofNat c.length)
    have hZ:=i8 2 (UInt64.ofNat p.length)
    have hS:(hd 3 (UInt64.ofNat 10)).length<=9:=i8 _ _
    unfold sgn
    simp only[ay,cg,dw]at *
    omega
   generalize sgn [161,1,38] c p=m at hP U
   generalize mI [161,1,38] p g [] false true=b at hP hl
   rw[hP,aa]
   dsimp only
   rw[ae (by decide),rj p p (by omega),aa,ez,ae (by decide),rj g g (by omega),aa,ez]
   unfold F.Vu
   rw[ae (by decide)]
   dsimp only
   rw[BN 1 1 m r s X Y j (by omega) I J Z lY,aa]
   have B:=O m
   generalize vr 1 1 m (val r) (val s) X Y j=R at B ⊢
   obtain⟨x,y,e⟩:=R
   dsimp only
   by_cases he:e=0
   ·subst he
    obtain⟨q1,q2⟩:=B x y rfl
    have V:=fun (l:List Y3) (hl:l.length<9223372036854775807)=>Qt b c x y l hl hP (show m.length<=900000000000000 by omega) (show g.length<=LB by unfold LB; omega) q1 q2
    have tr:F.TF p p p=some true:=BB p (by omega)
    rw[ae (by decide),V _ (by decide),aa,V _ (by decide),aa,V _ (by decide),aa]
    rw[ah (show [[69,100,68,83,65],my].contains my=true by decide),ah (show [my].contains my=true by decide),ae (show ¬[[69,83,51,56,52]].contains my=true by decide)]
    dsimp only
    rw[ae (by decide),ae (by decide),rj p p (by omega),aa,ez,ae (by decide),aa,ae (by decide),ae (by decide),tr,aa]
    unfold F.SH
    rw[ae (by decide)]
    dsimp only
    rw[V _ (by decide),aa,ah (show [my].contains my=true by decide)]
    dsimp only
    rw[ah (by decide),rj p p (by omega),aa,ez]
   ·rw[ah (by rw[iE]; exact he)]
  ·rw[ae hs]; dsimp only; rw[ah (by decide)]; exact A _ _
 ·rw[ae hr]; dsimp only; rw[ah (by decide)]; exact A _ _
end Go.Gk.Cb
end
