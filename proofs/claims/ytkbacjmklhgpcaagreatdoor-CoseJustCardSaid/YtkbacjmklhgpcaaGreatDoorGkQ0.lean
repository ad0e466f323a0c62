import Derived.Test.YtkbacjmklhgpcaaGreatDoorGkP0
import Derived.Lib.ValidU
import Derived.Test.YtkbacjmklhgpcaaGreatDoorGkFman
import Derived.Lib.ValidLaws
import Derived.KernelRfl
import Derived.Test.YtkbacjmklhgpcaaGreatDoorGkUL
set_option linter.unusedVariables false
set_option linter.unusedSimpArgs false
set_option linter.unusedSectionVars false
section
namespace Go.Gk.Cb
open Go Go.Gk
abbrev It:=Int×UInt64×L01×Int
abbrev Er:=Int×Int
def wd (n:UInt64):Nat:=if n<24 then 0 else if n<256 then 1 else if n<65536 then 2 else if n<4294967296 then 4 else 8
def be:Nat->UInt64->L01
 | 0,_=>[]
 | k+1,n=>(bb n (8*k)).toUInt8 :: be k n
def nbe (l:L01):UInt64:=l.foldl (fun a c=>256*a+c.toUInt64) 0
def lg (w:Nat):Nat:=if w=1 then 0 else if w=2 then 1 else if w=4 then 2 else 3
def hd (m:Nat) (n:UInt64):L01:=
 if wd n=0 then [UInt8.ofNat (32*m)+n.toUInt8] else UInt8.ofNat (32*m+24+lg (wd n)) :: be (wd n) n
def me (b:L01) (i:Nat):Except Er (Nat×UInt64×Nat):=
 match b[i]? with
 | none=>.error (220,b.length)
 | some c=>
  if 27<c.toNat%32\/c.toNat / 32=7/\(c.toNat%32<20\/22<c.toNat%32) then .error (220,i)
  else if c.toNat%32<24 then .ok (c.toNat / 32,UInt64.ofNat (c.toNat%32),i+1)
  else if b.length - (i+1)<2^(c.toNat%32 - 24) then .error (220,b.length)
  else if wd (nbe ((b.drop (i+1)).take (2^(c.toNat%32 - 24))))≠2^(c.toNat%32 - 24) then .error (220,i)
  else .ok (c.toNat / 32,nbe ((b.drop (i+1)).take (2^(c.toNat%32 - 24))),i+1+2^(c.toNat%32 - 24))
def jV:L01->L01->Bool
 | [],[]=>false
 | [],_ :: _=>true
 | _ :: _,[]=>false
 | a :: r,b :: s=>if a=b then jV r s else decide (a<b)
abbrev Rd:=Nat->Except Er (Nat×List It)
def gA (rec:Rd):Nat->Nat->Rd
 | _,0,i=>.ok (i,[])
 | 0,_+1,_=>.error (220,0)
 | f+1,n+1,i=>match rec i with
  | .error e=>.error e
  | .ok (j,is)=>match gA rec f n j with
   | .error e=>.error e
   | .ok (k,js)=>.ok (k,is++js)
def part (b:L01) (i j:Nat):L01:=(b.drop i).take (j - i)
def jL (last:Option L01) (key:L01):Bool:=match last with
 | none=>true
 | some l=>jV l key
def gg (rec:Rd) (b:L01):Nat->Nat->Option L01->Rd
 | _,0,_,i=>.ok (i,[])
 | 0,_+1,_,_=>.error (220,0)
 | f+1,n+1,last,i=>match rec i with
  | .error e=>.error e
  | .ok (j,is)=>
   if jL last (part b i j)=false then .error (220,i)
   else match rec j with
    | .error e=>.error e
    | .ok (k,js)=>match gg rec b f n (some (part b i j)) k with
     | .error e=>.error e
     | .ok (l,ks)=>.ok (l,is++js++ks)
def BP (b:L01) (sub:Rd) (m:Nat) (n:UInt64) (i:Nat):Except Er (Nat×List It):=
 if m=4 then match gA sub (b.length+1) n.toNat i with
  | .error e=>.error e
  | .ok (j,is)=>.ok (j,(4,0,[],(n.toNat:Int)) :: is)
 else if m=5 then match gg sub b (b.length+1) n.toNat none i with
  | .error e=>.error e
  | .ok (j,is)=>.ok (j,(5,0,[],2*(n.toNat:Int)) :: is)
 else match sub i with
  | .error e=>.error e
  | .ok (j,is)=>.ok (j,(6,n,[],1) :: is)
def mF (b:L01) (sub:Option Rd):Rd:=fun i=>
 match me b i with
 | .error e=>.error e
 | .ok (m,n,j)=>
  if m=4\/m=5\/m=6 then match sub with
   | none=>.error (11,i)
   | some rec=>BP b rec m n j
  else if m=2\/m=3 then
   if b.length - j<n.toNat then .error (220,b.length)
   else if m=3/\Lib.validD (part b j (j+n.toNat))=false then .error (32,i)
   else .ok (j+n.toNat,[((m:Int),0,part b j (j+n.toNat),0)])
  else .ok (j,[((m:Int),n,[],0)])
def mc:Nat->L01->Rd
 | 0,b=>mF b none
 | d+1,b=>mF b (some (mc d b))
def kU (b:L01):List It×Int×Int:=
 if 65536<b.length then ([],10,0) else match mc 32 b 0 with
  | .error e=>([],e.1,e.2)
  | .ok (j,is)=>if j<b.length then ([],220,(j:Int)) else (is,0,0)
theorem qR {b:L01} {i m j:Nat} {n:UInt64} (h:me b i=.ok (m,n,j)):i<j/\j<=b.length/\m<8:=by
 unfold me at h
 split at h
 ·cases h
 ·rename_i c hc
  have hi:i<b.length:=(aP.1 hc).1
  have hb:c.toNat<256:=c.toNat_lt
  split at h
  ·cases h
  ·split at h
   ·cases h; omega
   ·split at h
    ·cases h
    ·split at h
     ·cases h
     ·cases h
      have:1<=2^(c.toNat%32 - 24):=Nat.one_le_two_pow
      omega
theorem Hd {b:L01} {i:Nat} {e:Er} (h:me b i=.error e):e=(220,(b.length:Int))\/e=(220,(i:Int))/\i<b.length:=by
 unfold me at h
 split at h
 ·cases h; exact .inl rfl
 ·rename_i c hc
  have hi:i<b.length:=(aP.1 hc).1
  split at h
  ·cases h; exact .inr ⟨rfl,hi⟩
  ·split at h
   ·cases h
   ·split at h
    ·cases h; exact .inl rfl
    ·split at h
     ·cases h; exact .inr ⟨rfl,hi⟩
     ·cases h
def lL (b:L01) (rec:Rd):Prop:=(∀i j is,rec i=.ok (j,is)->i<j/\j<=b.length/\1<=is.length/\i+is.length<=j)/\(∀i e,rec i=.error e->i<=b.length->e.1≠0/\0<=e.2/\e.2<=b.length)
theorem mu {b:L01} {rec:Rd} (h:lL b rec):∀(f n i:Nat),i<=b.length->(∀j is,gA rec f n i=.ok (j,is)->i<=j/\j<=b.length/\i+is.length<=j/\n<=is.length/\i+n<=j) /\
  (∀e,gA rec f n i=.error e->e.1≠0/\0<=e.2/\e.2<=b.length)
 | f,0,i,hi=>by
  constructor
  ·intro j is y
   cases f <;> (simp only[gA]at y; cases y; simp; exact hi)
  ·intro e y
   cases f <;> (simp only[gA]at y; cases y)
 | 0,n+1,i,hi=>by
  constructor
  ·intro j is y; simp only[gA]at y; cases y
  ·intro e y; simp only[gA]at y; cases y; simp
 | f+1,n+1,i,hi=>by
  simp only[gA]
  cases y:rec i with
  | error e=>
   refine⟨fun j is z=>(by cases z),fun A z=>?_⟩
   cases z
   exact h.2 i e y hi
  | ok p=>
   obtain⟨j,is⟩:=p
   obtain⟨N,G,O,R⟩:=h.1 i j is y
   have B:=mu h f n j G
   simp only
   cases h7:gA rec f n j with
   | error e=>exact⟨fun j is z=>(by cases z),fun A z=>by cases z; exact B.2 e h7⟩
   | ok q=>
    obtain⟨k,I⟩:=q
    refine⟨fun U J z=>?_,fun A z=>(by cases z)⟩
    cases z
    have:=B.1 k I h7
    simp only[aQ]
    omega
theorem lR {b:L01} {rec:Rd} (h:lL b rec):∀(f n:Nat) (last:Option L01) (i:Nat),i<=b.length->(∀j is,gg rec b f n last i=.ok (j,is)->i<=j/\j<=b.length/\i+is.length<=j/\2*n<=is.length/\i+2*n<=j) /\
  (∀e,gg rec b f n last i=.error e->e.1≠0/\0<=e.2/\e.2<=b.length)
 | f,0,last,i,hi=>by
  constructor
  ·intro j is z
   cases f <;> (simp only[gg]at z; cases z; simp; exact hi)
  ·intro e z
   cases f <;> (simp only[gg]at z; cases z)
 | 0,n+1,last,i,hi=>by
  constructor
  ·intro j is z; simp only[gg]at z; cases z
  ·intro e z; simp only[gg]at z; cases z; simp
 | f+1,n+1,last,i,hi=>by
  simp only[gg]
  cases z:rec i with
  | error e=>
   refine⟨fun j is y=>(by cases y),fun A y=>?_⟩
   cases y
   exact h.2 i e z hi
  | ok p=>
   obtain⟨j,is⟩:=p
   obtain⟨U,G,V,X⟩:=h.1 i j is z
   simp only
   split
   ·exact⟨fun j is y=>(by cases y),fun A y=>by cases y; simp; omega⟩
   ·cases h7:rec j with
    | error e=>exact⟨fun j is y=>(by cases y),fun A y=>by cases y; exact h.2 j e h7 G⟩
    | ok q=>
     obtain⟨k,I⟩:=q
     obtain⟨Y,J,N,O⟩:=h.1 j k I h7
     have B:=lR h f n (some (part b i j)) k J
     simp only
     cases h12:gg rec b f n (some (part b i j)) k with
     | error e=>exact⟨fun j is y=>(by cases y),fun A y=>by cases y; exact B.2 e h12⟩
     | ok s=>
      obtain⟨l,ks⟩:=s
      refine⟨fun Z R y=>?_,fun A y=>(by cases y)⟩
      cases y
      have:=B.1 l ks h12
      simp only[aQ]
      omega
theorem tW {b:L01} {sub:Option Rd} (h:∀rec,sub=some rec->lL b rec):lL b (mF b sub):=by
 have G:∀i,(∀j is,mF b sub i=.ok (j,is)->i<j/\j<=b.length/\1<=is.length/\i+is.length<=j)/\(∀e,mF b sub i=.error e->i<=b.length->e.1≠0/\0<=e.2/\e.2<=b.length):=by
  intro i
  unfold mF
  cases A:me b i with
  | error e=>
   refine⟨fun j is y=>(by cases y),fun z y hi=>?_⟩
   cases y
   rcases Hd A with rfl | ⟨rfl,_⟩ <;> simp <;> omega
  | ok p=>
   obtain⟨m,n,j⟩:=p
   obtain⟨J,I,_⟩:=qR A
   simp only
   split
   ·cases sub with
    | none=>
     refine⟨fun j is y=>(by cases y),fun z y hi=>?_⟩
     cases y; simp; omega
    | some rec=>
     have B:=h rec rfl
     simp only[BP]
     split
     ·have:=mu B (b.length+1) n.toNat j I
      cases h5:gA rec (b.length+1) n.toNat j with
      | error e=>exact⟨fun j is y=>(by cases y),fun z y hi=>by cases y; exact this.2 e h5⟩
      | ok q=>
       obtain⟨k,is⟩:=q
       have:=this.1 k is h5
       refine⟨fun j is y=>?_,fun z y hi=>(by cases y)⟩
       cases y; simp; omega
     ·split
      ·have:=lR B (b.length+1) n.toNat none j I
       cases h5:gg rec b (b.length+1) n.toNat none j with
       | error e=>exact⟨fun j is y=>(by cases y),fun z y hi=>by cases y; exact this.2 e h5⟩
       | ok q=>
        obtain⟨k,is⟩:=q
        have:=this.1 k is h5
        refine⟨fun j is y=>?_,fun z y hi=>(by cases y)⟩
        cases y; simp; omega
      ·cases h5:rec j with
       | error e=>exact⟨fun j is y=>(by cases y),fun z y hi=>by cases y; exact B.2 j e h5 I⟩
       | ok q=>
        obtain⟨k,is⟩:=q
        have:=B.1 j k is h5
        refine⟨fun j is y=>?_,fun z y hi=>(by cases y)⟩
        cases y; simp; omega
   ·split
    ·split
     ·exact⟨fun j is y=>(by cases y),fun z y hi=>by cases y; simp⟩
     ·split
      ·exact⟨fun j is y=>(by cases y),fun z y hi=>by cases y; simp; omega⟩
      ·refine⟨fun j is y=>?_,fun z y hi=>(by cases y)⟩
       cases y; simp; omega
    ·refine⟨fun j is y=>?_,fun z y hi=>(by cases y)⟩
     cases y; simp; omega
 exact⟨fun i j is A=>(G i).1 j is A,fun i e A hi=>(G i).2 e A hi⟩
theorem jE (b:L01):∀d,lL b (mc d b)
 | 0=>tW (by simp)
 | d+1=>tW (by intro rec h; cases h; exact jE b d)
theorem vw (a b:UInt8) (r s:L01):jV (a :: r) (b :: s)=if a=b then jV r s else decide (a<b):=rfl
theorem Hx (l:L01):jV l []=false:=by cases l <;> rfl
theorem NR (a b:L01) (ha:a.length<9223372036854775807):F.abI a b=some (jV a b):=by
 have A:∀k i,a.length - i=k->i<=a.length->i<=b.length->loop (F.Vy a b) (i:Int)=some (jV (a.drop i) (b.drop i)):=by
  intro k
  induction k with
  | zero=>
   intro i J N O
   have hi:i=a.length:=by omega
   subst hi
   refine bD ?_
   simp only[F.Vy,F.WT,eE,dg,ah,aj,bc,bO]
   congr 2
   rw[eH]
   rcases bX a.length b.length with j | j
   ·rw[aS j]
    simp[jV,j]
   ·rw[gE j]
    simp[jV]; omega
  | succ k ih=>
   intro i J N O
   have j:i<a.length:=by omega
   have y:decide ((i:Int)<(a.length:Int))=true:=by simp; omega
   rcases bX i b.length with z | z
   ·have B:decide ((i:Int)<(b.length:Int))=true:=by simp; omega
    have G:aw a (i:Int)=some a[i]:=bz j
    have I:aw b (i:Int)=some b[i]:=bz z
    rw[aS j,aS z,vw]
    by_cases he:a[i]=b[i]
    ·have hs:F.Vy a b (i:Int)=some (.inl ((i:Int)+1)):=by
      simp only[F.Vy,F.WT,y,B,G,I,he,al,aa,dh,ah,aj]
      rw[aC (by omega) (by omega)]; rfl
     rw[bn hs,ag he]
     have:=ih (i+1) (by omega) (by omega) (by omega)
     simpa using this
    ·rw[ae he]
     refine bD ?_
     have hb:(a[i] != b[i])=true:=by simpa using he
     simp only[F.Vy,F.WT,y,B,G,I,hb,al,aa]
     rfl
   ·have hi:i=b.length:=by omega
    subst hi
    refine bD ?_
    simp only[F.Vy,F.WT,y,al,eE,dg,ah,aj,bc,bO]
    congr 2
    rw[eH,Hx]
    simp; omega
 exact A a.length 0 (by omega) (by omega) (by omega)
theorem P0 (a:UInt8):F.Xh a=some false:=by simp[F.Xh]
def pY (a b:L01):Int:=if jV a b then -1 else if a=b then 0 else 1
theorem xO (x y:UInt8) (r s:L01):pY (x :: r) (y :: s)=if x=y then pY r s else if x<y then -1 else 1:=by
 unfold pY
 rw[vw]
 by_cases h:x=y
 ·subst h; simp
 ·by_cases h2:x<y <;> simp[h,h2]
theorem PK (a b:UInt8):F.Zd a b=some (if a<b then -1 else if b<a then 1 else 0):=by
 simp only[F.Zd,P0,aa,ah,aj]
 by_cases h1:a<b
 ·simp[h1]
 ·by_cases h2:b<a <;> simp[h1,h2]
theorem vL (a b:L01) (ha:a.length<9223372036854775807):F.X4 a b=some (pY a b):=by
 have G:∀k i,a.length - i=k->i<=a.length->i<=b.length->loop (F.U1 a b) (i:Int)=some (pY (a.drop i) (b.drop i)):=by
  intro k
  induction k with
  | zero=>
   intro i O R U
   have hi:i=a.length:=by omega
   subst hi
   refine bD ?_
   simp only[F.U1,eE,dg,ah,aj]
   rw[eH]
   rcases bX a.length b.length with y | y
   ·rw[aS y]
    have:decide ((a.length:Int)<(b.length:Int))=true:=by simp; omega
    simp only[this,pY,jV,bc,al,bO]
   ·rw[gE y]
    have:¬((a.length:Int)<(b.length:Int)):=by omega
    simp[this,pY,jV,bc]
  | succ k ih=>
   intro i O R U
   have y:i<a.length:=by omega
   have z:decide ((i:Int)<(a.length:Int))=true:=by simp; omega
   have A:aw a (i:Int)=some a[i]:=bz y
   rcases bX i b.length with B | B
   ·have I:¬((b.length:Int)<=(i:Int)):=by omega
    have J:aw b (i:Int)=some b[i]:=bz B
    rw[aS y,aS B]
    by_cases he:a[i]=b[i]
    ·have hs:F.U1 a b (i:Int)=some (.inl ((i:Int)+1)):=by
      have j:¬(b[i]<b[i]):=UInt8.lt_irrefl _
      simp only[F.U1,z,I,A,J,he,PK,j,al,aa,dh,ah,aj,dg]
      rw[aC (by omega) (by omega)]; rfl
     rw[bn hs]
     have:=ih (i+1) (by omega) (by omega) (by omega)
     rw[show ((i:Int)+1)=((i+1:Nat):Int) by simp,this,xO,ag he]
    ·refine bD ?_
     simp only[F.U1,z,I,A,J,PK,al,aa,ah,aj,dg]
     rw[xO,ae he]
     by_cases j:a[i]<b[i]
     ·simp only[j,al,bc,bO]; rfl
     ·have N:b[i]<a[i]:=by
       rcases UInt8.lt_or_lt_of_ne he with h | h
       ·exact absurd h j
       ·exact h
      simp only[j,N,al,aj,bc,bO]; rfl
   ·have hi:i=b.length:=by omega
    subst hi
    refine bD ?_
    rw[aS y,eH]
    simp only[F.U1,z,A,aa,al,Int.le_refl,gp,pY,jV,bc,bO]
    rfl
 exact G a.length 0 (by omega) (by omega) (by omega)
theorem t7 (a b:L01):decide ((0:Int)<=pY a b) = !jV a b:=by
 unfold pY
 cases h:jV a b
 ·by_cases he:a=b <;> simp[he]
 ·simp
theorem wz (n:UInt64):F.aa9 n=some (wd n:Int):=by
 unfold F.aa9 wd
 split
 ·rename_i h; simp at h; simp[h]
 ·rename_i h; simp only[ak]at h; simp only[h,aj]
  split
  ·rename_i h; simp at h; simp[h]
  ·rename_i h; simp only[ak]at h; simp only[h,aj]
   split
   ·rename_i h; simp at h; simp[h]
   ·rename_i h; simp only[ak]at h; simp only[h,aj]
    split
    ·rename_i h; simp at h; simp[h]
    ·rename_i h; simp only[ak]at h; simp[h]
theorem A1 (n:UInt64):F.Y8 n=some (wd n:Int):=by
 rw[<-wz]; rfl
theorem Qw (n:UInt64):wd n<=8:=by
 unfold wd
 repeat' split
 all_goals omega
theorem KI (l:L01) (c:UInt8):nbe (l++[c])=256*nbe l+c.toUInt64:=by simp[nbe]
theorem Rp (c:UInt8):((oS c 5).toNat:Int)=((c.toNat / 32:Nat):Int):=by rw[Ge]; rfl
theorem Qn (c:UInt8):((c &&& 31).toNat:Int)=((c.toNat%32:Nat):Int):=by
 rw[UInt8.toNat_and]
 have:=uG c.toNat 5
 simp at this
 simp[this]
theorem P4 (x:UInt64) (c:UInt8):(c8 x 8) ||| c.toUInt64=256*x+c.toUInt64:=by
 apply cx.1
 have hc:c.toNat<256:=c.toNat_lt
 rw[jr,kM,fQ,ja]
 have j:c.toUInt64.toNat=c.toNat:=by simp
 have k:(2:Nat)^(min 8 64)=256:=by decide
 rw[j,k,sB 8 (by omega) (by omega)]
 simp
 omega
theorem tf (k:Nat) (h:24<=k) (j:k<=27):gU 1 (k - 24)=((2^(k - 24):Nat):Int):=by
 have:k=24\/k=25\/k=26\/k=27:=by omega
 rcases this with rfl | rfl | rfl | rfl <;> decide
theorem NO (k:Nat) (j:k<=27):2^(k - 24)<=8:=by
 have:k - 24=0\/k - 24=1\/k - 24=2\/k - 24=3:=by omega
 rcases this with h | h | h | h <;> rw[h] <;> decide
abbrev Fr_:=Int×Int×UInt64×Bool×Int×Option (Nat×Nat)
theorem yR (l:L01) (k:Nat) (h:k<l.length):nbe (l.take (k+1))=256*nbe (l.take k)+l[k].toUInt64:=by
 rw[dT h,KI]
theorem gI (n:Nat):UInt64.ofInt (n:Int)=UInt64.ofNat n:=by
 apply cx.1
 simp[UInt64.ofInt]
 omega
theorem CR (b:L01) (i:Nat) (out:List It) (op:List Fr_) (hb:b.length<=65536) (hi:i<=b.length) :
  ∃j:Int,F.Yb b i out op=some (match me b i with
   | .ok (m,n,k)=>((m:Int),n,none,(k:Int),out,op)
   | .error e=>(0,0,some e,j,out,op)):=by
 unfold F.Yb me
 by_cases hl:i=b.length
 ·subst hl
  refine⟨(b.length:Int),?_⟩
  simp
 ·have B:i<b.length:=by omega
  have Z:((i:Int) == (b.length:Int))=false:=by simp; omega
  simp only[Z,ah,aj,bz B,aa,aD,Rp,Qn,av B]
  have hc:=(b[i]).toNat_lt
  generalize b[i]=c at hc ⊢
  have hw:wI ((i:Int)+1)=((i+1:Nat):Int):=by rw[aC (by omega) (by omega)]; simp
  -- what comes behind the first test
  have y:∃j:Int,F.U2 b i out op ((c.toNat / 32:Nat):Int) ((c.toNat%32:Nat):Int) true=some ((0:Int),(0:UInt64),some ((220:Int),(i:Int)),j,out,op):=⟨_,rfl⟩
  have R:c.toNat%32<=27->∃j:Int,F.U2 b i out op ((c.toNat / 32:Nat):Int) ((c.toNat%32:Nat):Int) false=some (match (if c.toNat%32<24 then .ok (c.toNat / 32,UInt64.ofNat (c.toNat%32),i+1)
    else if b.length - (i+1)<2^(c.toNat%32 - 24) then .error (220,(b.length:Int))
    else if wd (nbe ((b.drop (i+1)).take (2^(c.toNat%32 - 24))))≠2^(c.toNat%32 - 24) then .error (220,(i:Int))
    else .ok (c.toNat / 32,nbe ((b.drop (i+1)).take (2^(c.toNat%32 - 24))),i+1+2^(c.toNat%32 - 24)):Except Er (Nat×UInt64×Nat)) with
   | .ok (m,n,k)=>((m:Int),n,none,(k:Int),out,op)
   | .error e=>(0,0,some e,j,out,op)):=by
   intro U
   unfold F.U2
   simp only[ah,aj]
   by_cases h24:c.toNat%32<24
   ·have I:decide (((c.toNat%32:Nat):Int)<24)=true:=by simp; omega
    refine⟨0,?_⟩
    simp only[I,h24,al,hw,gI]
   ·have I:decide (((c.toNat%32:Nat):Int)<24)=false:=by simp; omega
    have e1:wI (((c.toNat%32:Nat):Int) - 24)=((c.toNat%32 - 24:Nat):Int):=by rw[aC (by omega) (by omega)]; omega
    simp only[I,h24,aj,ah,e1,am,hw]
    rw[grd_true _ (by omega),aD,tf _ (by omega) U]
    have hp:=NO _ U
    generalize 2^(c.toNat%32 - 24)=s at hp ⊢
    have e2:wI ((b.length:Int) - ((i+1:Nat):Int))=((b.length - (i+1):Nat):Int):=by rw[aC (by omega) (by omega)]; omega
    rw[e2]
    by_cases hs:b.length - (i+1)<s
    ·have J:decide (((b.length - (i+1):Nat):Int)<(s:Int))=true:=by simp; omega
     refine⟨((i+1:Nat):Int),?_⟩
     simp only[J,hs,al]
    ·have J:decide (((b.length - (i+1):Nat):Int)<(s:Int))=false:=by simp; omega
     have V:wI (((i+1:Nat):Int)+(s:Int))=((i+1+s:Nat):Int):=by rw[aC (by omega) (by omega)]; simp
     simp only[J,hs,aj,ah,V]
     rw[lP (by omega) (by omega),aa,show i+1+s - (i+1)=s by omega]
     have hL:((b.drop (i+1)).take s).length=s:=by simp; omega
     generalize (b.drop (i+1)).take s=L at hL ⊢
     have X:∀q k,s - k=q->k<=s->loop (F.Vw i out op ((c.toNat / 32:Nat):Int) s L) (nbe (L.take k),(k:Int)) =
       some (if wd (nbe L)≠s then ((0:Int),(0:UInt64),some ((220:Int),(i:Int)),((i+1+s:Nat):Int),out,op) else (((c.toNat / 32:Nat):Int),nbe L,none,((i+1+s:Nat):Int),out,op)):=by
      intro q
      induction q with
      | zero=>
       intro k h1 h2
       have:k=s:=by omega
       subst this
       refine bD ?_
       have N:decide (((k:Nat):Int)<(L.length:Int))=false:=by simp; omega
       simp only[F.Vw,N,ah,aj,A1,aa,hw,V]
       rw[aA (by omega)]
       by_cases hwd:wd (nbe L)=k
       ·simp only[hwd,dh,ah,aj,bc,ne_eq,not_true,bO]
       ·have:((wd (nbe L):Int) != (k:Int))=true:=by simp; omega
        simp only[this,al,bc,hwd,ne_eq,iW,bO]
      | succ q ih=>
       intro k h1 h2
       have G:k<L.length:=by omega
       have N:decide (((k:Nat):Int)<(L.length:Int))=true:=by simp; omega
       have e4:wI ((k:Int)+1)=((k+1:Nat):Int):=by rw[aC (by omega) (by omega)]; simp
       have Y:F.Vw i out op ((c.toNat / 32:Nat):Int) s L (nbe (L.take k),(k:Int))=some (.inl (nbe (L.take (k+1)),((k+1:Nat):Int))):=by
        simp only[F.Vw,N,al,bz G,aa,aD,e4,P4,yR L k G]
        rfl
       rw[bn Y]
       exact ih (k+1) (by omega) (by omega)
     have:=X s 0 (by omega) (by omega)
     simp only[fX]at this
     have this:loop (F.Vw i out op ((c.toNat / 32:Nat):Int) s L) (0,0)=_:=this
     refine⟨((i+1+s:Nat):Int),?_⟩
     rw[this]
     by_cases hwd:wd (nbe L)=s <;> simp[hwd]
  by_cases h27:27<c.toNat%32
  ·have d:decide ((27:Int)<((c.toNat%32:Nat):Int))=true:=by simp; omega
   simp only[d,al,h27,true_or]
   exact y
  ·have d:decide ((27:Int)<((c.toNat%32:Nat):Int))=false:=by simp; omega
   simp only[d,aj,h27,false_or,ah]
   by_cases h7:c.toNat / 32=7
   ·have O:(((c.toNat / 32:Nat):Int) == 7)=true:=by simp; omega
    simp only[O,al,h7,true_and]
    by_cases h20:c.toNat%32<20
    ·have z:decide (((c.toNat%32:Nat):Int)<20)=true:=by simp; omega
     simp only[z,al,h20,true_or]
     rw[h7]at y
     exact y
    ·have z:decide (((c.toNat%32:Nat):Int)<20)=false:=by simp; omega
     simp only[z,aj,h20,false_or,ah]
     by_cases h22:22<c.toNat%32
     ·have A:decide ((22:Int)<((c.toNat%32:Nat):Int))=true:=by simp; omega
      simp only[A,al,h22]
      rw[h7]at y
      exact y
     ·have A:decide ((22:Int)<((c.toNat%32:Nat):Int))=false:=by simp; omega
      simp only[A,aj,h22]
      have:=R (by omega)
      rw[h7]at this
      exact this
   ·have O:(((c.toNat / 32:Nat):Int) == 7)=false:=by simp; omega
    simp only[O,aj,h7,false_and,ah]
    exact R (by omega)
abbrev RR:=L01×Int×List It×Int×Int
section
variable {b:L01} {rec:Rd} {rc:L01->Int->List It->Int->Int->Int->Option RR} {w:Int}
end
theorem Lz (n:UInt64) (h:n.toNat<=65536):wI ((n &&& 4294967295).toNat:Int)=(n.toNat:Int):=by
 rw[jh]
 have j:=uG n.toNat 32
 have k:(4294967295:UInt64).toNat=2^32 - 1:=by decide
 rw[k,j,az (by omega),aC (by omega) (by omega)]
theorem zL (l m:List It) (h:l.length+m.length<=1000000):apO 40 l m=some (l++m):=im (by omega)
theorem B9 (out is:List It) (x y:It):(out++x :: is).set out.length y=out++y :: is:=by simp
theorem Aa (out is:List It) (x:It):(out++x :: is)[out.length]? = some x:=by simp
section
variable {b:L01} {rc:L01->Int->List It->Int->Int->Int->Option RR}
end
abbrev PR:=List It×Int×Int
abbrev Sg:=Int×List It×List Fr_
noncomputable def Dn (b:L01) (i:Int) (out:List It) (op:List Fr_):Option (Sg⊕PR):=
 af (F.T7 b i out op) fun x=>gW x.1 (loop (F.Tf b) (x.2.1,x.2.2.1,x.2.2.2)) (fun f=>bc (some ([],f.1,f.2)))
noncomputable def run (b:L01) (x:Option (Sg⊕PR)):Option PR:=match x with
 | none=>none
 | some (.inl s)=>loop (F.Ug b) s
 | some (.inr r)=>some r
theorem Jf (b:L01) (s:Sg):loop (F.Ug b) s=run b (F.Ug b s):=by
 rw[nJ]
 unfold run
 cases F.Ug b s with
 | none=>rfl
 | some x=>cases x <;> rfl
section
variable {b:L01}
theorem oK (op:List Fr_) (g:Fr_) (_h:op.length<1000):aw (op++[g]) (op.length:Int)=some g:=by
 rw[lj]; simp
theorem oD (op:List Fr_) (g:Fr_) (h:op.length<1000):wI (((op++[g]).length:Int) - 1)=(op.length:Int):=by
 simp; rw[aC (by omega) (by omega)]
theorem uh (op:List Fr_) (g j:Fr_):(op++[g]).set op.length j=op++[j]:=by simp
theorem DD (i:Int) (out:List It) (op:List Fr_) (g:Fr_) (h:op.length<1000) (hg:g.2.2.1=0):loop (F.Tf b) (i,out,op++[g])=Dn b i out op:=by
 rw[nJ]
 have j:decide ((0:Int)<((op++[g]).length:Int))=true:=by simp
 have k:(g.2.2.1 == 0)=true:=by rw[hg]; rfl
 have y:(op++[g]).take ((op.length:Int)).toNat=op:=by simp
 simp only[F.Tf,j,al,oK op g h,aa,k,F.Yl,oD op g h]
 rw[grd_true _ (by simp),y]
 unfold Dn
 cases hd:F.T7 b i out op with
 | none=>rfl
 | some x=>
  simp only[aa]
  cases hx:x.1 with
  | none=>simp only[gW,bM]
  | some f=>simp only[gW,bc,bO]
theorem xp (i:Int) (out:List It) (op:List Fr_) (g:Fr_) (h:op.length<1000) (hg:g.2.2.1≠0):run b (loop (F.Tf b) (i,out,op++[g]))=loop (F.Ug b) (i,out,op++[g]):=by
 have j:decide ((0:Int)<((op++[g]).length:Int))=true:=by simp
 have k:(g.2.2.1 == 0)=false:=by simpa using hg
 have y:(((op++[g]).length:Int) == 0)=false:=by simp; omega
 have:F.Tf b (i,out,op++[g])=some (.inr (.inl (i,out,op++[g]))):=by
  simp only[F.Tf,j,al,oD op g h,oK op g h,aa,k,F.Yl,ah,aj,y]
  rfl
 rw[bD this]
 rfl
theorem Pk (i:Nat) (out:List It):run b (loop (F.Tf b) ((i:Int),out,[]))=some (if i<b.length then ([],220,(i:Int)) else (out,0,0)):=by
 have:F.Tf b ((i:Int),out,[])=some (.inr (.inr (if i<b.length then ([],220,(i:Int)) else (out,0,0)))):=by
  have k:decide ((0:Int)<((([]:List Fr_)).length:Int))=false:=by simp
  have y:(((([]:List Fr_)).length:Int) == 0)=true:=by simp
  simp only[F.Tf,k,ah,aj,F.Yl,y,al]
  by_cases h:i<b.length
  ·have j:decide ((i:Int)<(b.length:Int))=true:=by simp; omega
   simp only[j,al,h]; rfl
  ·have j:decide ((i:Int)<(b.length:Int))=false:=by simp; omega
   simp only[j,ah,aj,h]; rfl
 rw[bD this]
 rfl
theorem KR (i:Int) (out:List It):Dn b i out []=loop (F.Tf b) (i,out,[]):=by
 unfold Dn F.T7
 simp[gW]
theorem Jg (i:Int) (out ks:List It) (op:List Fr_) (x:It) (g:Fr_) (h:op.length<1000) (j:g.1=(out.length:Int)) (z:g.2.1≠5) (A:wI (x.2.2.2+1)=x.2.2.2+1) :
  Dn b i (out++x :: ks) (op++[g])=loop (F.Tf b) (i,out++(x.1,x.2.1,x.2.2.1,x.2.2.2+1) :: ks,op++[(g.1,g.2.1,g.2.2.1 - 1,g.2.2.2.1,g.2.2.2.2.1,g.2.2.2.2.2)]):=by
 have B:(((op++[g]).length:Int) == 0)=false:=by simp; omega
 have k:aw (out++x :: ks) (g.1:Int)=some x:=by rw[j,lj,Aa]
 have y:(g.2.1 != 5)=true:=by simpa using z
 unfold Dn F.T7
 simp only[B,ah,aj,oK op g h,aa,k,aD,y,al,oD op g h,am,uh,F.Vq,gW]
 rw[j,am,B9,A]
theorem IP (i:Int) (out ks:List It) (op:List Fr_) (x:It) (g:Fr_) (h:op.length<1000) (j:g.1=(out.length:Int)) (z:g.2.1=5) (A:g.2.2.2.1=true) (B:wI (x.2.2.2+1)=x.2.2.2+1) :
  Dn b i (out++x :: ks) (op++[g])=loop (F.Tf b) (i,out++(x.1,x.2.1,x.2.2.1,x.2.2.2+1) :: ks,op++[(g.1,g.2.1,g.2.2.1 - 1,false,i,g.2.2.2.2.2)]):=by
 have G:(((op++[g]).length:Int) == 0)=false:=by simp; omega
 have k:aw (out++x :: ks) (g.1:Int)=some x:=by rw[j,lj,Aa]
 have y:(g.2.1 != 5)=false:=by simp[z]
 unfold Dn F.T7
 simp only[G,ah,aj,oK op g h,aa,k,aD,y,al,A,oD op g h,am,uh,F.Vq,gW]
 rw[j,am,B9,B]
def qP (b:L01) (l:Option (Nat×Nat)):Option L01:=l.map fun p=>vwL b p
theorem JZ (i:Nat) (out ks:List It) (op:List Fr_) (x:It) (g:Fr_) (k:Nat) (hb:b.length<=65536) (B:b≠[]) (h:op.length<1000) (z:g.1=(out.length:Int)) (V:g.2.1=5) (X:g.2.2.2.1=false) (Y:wI (x.2.2.2+1)=x.2.2.2+1)
  (j:g.2.2.2.2.1=(k:Int)) (G:k<=i) (hi:i<=b.length) (hl:∀p,g.2.2.2.2.2=some p->p.1<=p.2/\p.2<=b.length) :
  Dn b (i:Int) (out++x :: ks) (op++[g])=if jL (qP b g.2.2.2.2.2) (part b k i)=false then some (.inr ([],220,(k:Int))) else
   loop (F.Tf b) ((i:Int),out++(x.1,x.2.1,x.2.2.1,x.2.2.2+1) :: ks,op++[(g.1,g.2.1,g.2.2.1,true,(k:Int),some (k,i))]):=by
 have Z:(((op++[g]).length:Int) == 0)=false:=by simp; omega
 have I:aw (out++x :: ks) (g.1:Int)=some x:=by rw[z,lj,Aa]
 have J:(g.2.1 != 5)=false:=by simp[V]
 have N:slO b (k:Int) (i:Int)=some (part b k i):=lP G hi
 unfold Dn F.T7
 simp only[Z,ah,aj,oK op g h,aa,I,aD,J,X,oD op g h,am,j,N]
 rw[grd_true _ B]
 have A:∀t,F.WG (i:Int) (op++[g]) g ((out++x :: ks).set (g.1).toNat (x.1,x.2.1,x.2.2.1,wI (x.2.2.2+1))) t =
   some (if t=true then (some (220,(k:Int)),(i:Int),out++(x.1,x.2.1,x.2.2.1,x.2.2.2+1) :: ks,op++[g]) else (none,(i:Int),out++(x.1,x.2.1,x.2.2.1,x.2.2.2+1) :: ks,op++[(g.1,g.2.1,g.2.2.1,true,(k:Int),some (k,i))])):=by
  intro t
  rw[z,am,B9,Y]
  cases t
  ·simp only[F.WG,ah,aj,aD,oD op g h,am,uh,j,F.Vq]
   rw[z]
  ·simp only[F.WG,al,j]
 cases hla:g.2.2.2.2.2 with
 | none=>
  simp only[Option.isSome_none,ah,aj,qP,iD,jL,A,aa,gW]
  rfl
 | some p=>
  obtain⟨O,R⟩:=hl p hla
  have U:(vwL b p).length<9223372036854775807:=by simp[vwL]; omega
  simp only[Option.isSome_some,al,aa,qP,bO,jL]
  rw[grd_true _ ⟨O,R⟩,vL _ _ U,aa,t7,A,aa]
  by_cases y:jV (vwL b p) (part b k i)=false
  ·simp[y,gW,bc]
  ·have y:jV (vwL b p) (part b k i)=true:=by simpa using y
   simp[y,gW,bc]
theorem oU {α ρ:Type} (x:Option ρ) (y:α->Option ρ):gW none x y=x:=rfl
theorem pg {α ρ:Type} (a:α) (x:Option ρ) (y:α->Option ρ):gW (some a) x y=y a:=rfl
def Act (b:L01) (len:Nat) (rec:Rd):Prop:=∀(i:Nat) (out:List It) (op:List Fr_),i<=b.length->out.length<=i->op.length=len ->
 loop (F.Ug b) ((i:Int),out,op)=match rec i with
  | .error e=>some ([],e.1,e.2)
  | .ok (j,is)=>run b (Dn b (j:Int) (out++is) op)
theorem yc {rec:Rd} (hb:b.length<=65536) (R:lL b rec) {len:Nat} (hA:Act b (len+1) rec) (U:len<100) (m:Int) (A:m≠5) (x:It) (B:Bool) (G:Int) (last:Option (Nat×Nat)) :
  ∀(f k n:Nat) (i:Nat) (out ks:List It) (op:List Fr_),i<=b.length->out.length+1+ks.length<=i->b.length+1<=f+i->op.length=len->n<18446744073709551616->k<=b.length->n=0\/k+1<=i ->
   run b (loop (F.Tf b) ((i:Int),out++(x.1,x.2.1,x.2.2.1,(k:Int)) :: ks,op++[((out.length:Int),m,UInt64.ofNat n,B,G,last)])) =
    match gA rec f n i with
    | .error e=>some ([],e.1,e.2)
    | .ok (j,is)=>run b (Dn b (j:Int) (out++(x.1,x.2.1,x.2.2.1,((k+n:Nat):Int)) :: (ks++is)) op):=by
 intro f
 induction f with
 | zero=>intro k n i out ks op I V X; omega
 | succ f ih=>
  intro k n i out ks op I V X J h5 h6 ac
  cases n with
  | zero=>
   rw[DD _ _ _ _ (by omega) (by rfl)]
   simp[gA]
  | succ n=>
   have N:UInt64.ofNat (n+1)≠0:=by
    intro h
    have:=da UInt64.toNat h
    simp at this
    omega
   rw[xp _ _ _ _ (by omega) N]
   rw[hA i _ _ I (by simp; omega) (by simp[J]),gA]
   cases hx:rec i with
   | error e=>rfl
   | ok a=>
    obtain⟨j,is⟩:=a
    obtain⟨h7,Y,h9,ad⟩:=R.1 i j is hx
    simp only
    have O:wI ((k:Int)+1)=(k:Int)+1:=aC (by omega) (by omega)
    rw[aN,cW,Jg _ _ _ _ _ _ (by omega) rfl A O]
    have Z:UInt64.ofNat (n+1) - 1=UInt64.ofNat n:=by
     apply cx.1
     rw[eg _ _ (by rw[cL]; simp; omega)]
     simp; omega
    have:=ih (k+1) n j out (ks++is) op Y (by simp; omega) (by omega) J (by omega) (by omega) (by omega)
    simp only[Z]
    have e2:((k+1:Nat):Int)=(k:Int)+1:=by simp
    rw[e2]at this
    rw[this]
    cases hz:gA rec f n j with
    | error e=>rfl
    | ok y=>
     obtain⟨z,js⟩:=y
     simp only
     rw[show k+1+n=k+(n+1) by omega,aN]
theorem Fg {rec:Rd} (hb:b.length<=65536) (I:lL b rec) {len:Nat} (hA:Act b (len+1) rec) (X:len<100) (x:It) :
  ∀(f k n:Nat) (i:Nat) (out ks:List It) (op:List Fr_) (last:Option (Nat×Nat)),i<=b.length->out.length+1+ks.length<=i->b.length+1<=f+i->op.length=len->n<18446744073709551616->2*k<=i ->
   (∀p,last=some p->p.1<=p.2/\p.2<=b.length) ->
   run b (loop (F.Tf b) ((i:Int),out++(x.1,x.2.1,x.2.2.1,((2*k:Nat):Int)) :: ks,op++[((out.length:Int),5,UInt64.ofNat n,false,(i:Int),last)])) =
    match gg rec b f n (qP b last) i with
    | .error e=>some ([],e.1,e.2)
    | .ok (j,is)=>run b (Dn b (j:Int) (out++(x.1,x.2.1,x.2.2.1,((2*(k+n):Nat):Int)) :: (ks++is)) op):=by
 intro f
 induction f with
 | zero=>intro k n i out ks op last J Y Z; omega
 | succ f ih=>
  intro k n i out ks op last J Y Z B h5 h6 h7
  cases n with
  | zero=>
   rw[DD _ _ _ _ (by omega) (by rfl)]
   simp[gg]
  | succ n=>
   have A:UInt64.ofNat (n+1)≠0:=by
    intro h
    have:=da UInt64.toNat h
    simp at this
    omega
   rw[xp _ _ _ _ (by omega) A]
   rw[hA i _ _ J (by simp; omega) (by simp[B]),gg]
   cases hx:rec i with
   | error e=>rfl
   | ok a=>
    obtain⟨j,is⟩:=a
    obtain⟨h8,G,bx,b2⟩:=I.1 i j is hx
    have N:b≠[]:=by rintro rfl; simp at G; omega
    simp only
    have O:wI (((2*k:Nat):Int)+1)=((2*k:Nat):Int)+1:=aC (by omega) (by omega)
    rw[aN,cW,JZ j _ _ _ _ _ i hb N (by omega) rfl rfl rfl O rfl (by omega) G h7]
    by_cases hko:jL (qP b last) (part b i j)=false
    ·rw[ag hko,ag hko]
     rfl
    ·rw[ae hko,ae hko]
     rw[xp _ _ _ _ (by omega) A]
     rw[hA j _ _ G (by simp; omega) (by simp[B])]
     cases hy:rec j with
     | error e=>rfl
     | ok c=>
      obtain⟨l,R⟩:=c
      obtain⟨b3,U,b4,b5⟩:=I.1 j l R hy
      simp only
      have V:wI (((2*k:Nat):Int)+1+1)=((2*k:Nat):Int)+1+1:=aC (by omega) (by omega)
      rw[aN,cW,IP _ _ _ _ _ _ (by omega) rfl rfl rfl V]
      have e1:UInt64.ofNat (n+1) - 1=UInt64.ofNat n:=by
       apply cx.1
       rw[eg _ _ (by rw[cL]; simp; omega)]
       simp; omega
      have:=ih (k+1) n l out (ks++is++R) op (some (i,j)) U (by simp; omega) (by omega) B (by omega) (by omega) (by intro p hp; cases hp; simp; omega)
      simp only[e1]
      have e2:((2*(k+1):Nat):Int)=((2*k:Nat):Int)+1+1:=by simp; omega
      rw[e2]at this
      rw[this]
      have hv:qP b (some (i,j))=some (part b i j):=rfl
      rw[hv]
      cases hz:gg rec b f n (some (part b i j)) l with
      | error e=>rfl
      | ok y=>
       obtain⟨z,ls⟩:=y
       simp only
       rw[show 2*(k+1+n)=2*(k+(n+1)) by omega]
       simp only[aN]
theorem Cs (hb:b.length<=65536) (d:Nat) (hd:d<=32) (sub:Option Rd) (Y:∀rec,sub=some rec->lL b rec) (R:sub=none↔d=0)
  (hA:∀rec,sub=some rec->Act b (32 - d+1) rec):Act b (32 - d) (mF b sub):=by
 intro i out op h1 h2 Z
 rw[Jf]
 obtain⟨jj,hh⟩:=CR b i out op hb h1
 unfold mF
 simp only[F.Ug,F.aaI,hh,aa]
 cases hx:me b i with
 | error e=>
  simp only[pg,aa]
  rfl
 | ok a=>
  obtain⟨m,n,j⟩:=a
  obtain⟨h4,h5,h6⟩:=qR hx
  simp only[oU]
  -- what a z comes to
  have z:∀(k:Int) (N:UInt64) (s:L01),run b (af (F.W6 b ((m:Int),n,(none:Option (Int×Int)),(j:Int),out,op) (k,N,s)) fun A=>
    gW A.1 (loop (F.Tf b) (A.2.1,A.2.2.1,A.2.2.2)) (fun B=>bc (some ([],B.1,B.2))))=run b (Dn b k (out++[((m:Int),N,s,0)]) op):=by
   intro k N s
   simp only[F.W6]
   rw[zL _ _ (by simp; omega),aa]
   unfold Dn
   cases hq:F.T7 b k (out++[((m:Int),N,s,0)]) op with
   | none=>rfl
   | some x=>
    simp only[aa]
    cases hy:x.1 with
    | none=>simp only[oU,aa]
    | some f=>simp only[pg,aa]
  by_cases hcon:m=4\/m=5\/m=6
  ·rw[ag hcon]
   have n0:((m:Int) == 0)=false:=by simp; omega
   have n1:((m:Int) == 1)=false:=by simp; omega
   have n2:((m:Int) == 2)=false:=by simp; omega
   have n3:((m:Int) == 3)=false:=by simp; omega
   have n7:((m:Int) == 7)=false:=by simp; omega
   simp only[n0,n1,n2,n3,n7,ah,aj,F.Ub,F.UJ]
   cases hs:sub with
   | none=>
    have ct:d=0:=R.1 hs
    have:(((op.length:Nat):Int) == 32)=true:=by simp; omega
    simp only[this,al,aa,pg]
    rfl
   | some rec=>
    have c1:d≠0:=fun h=>by rw[R.2 h]at hs; cases hs
    have G:=Y rec hs
    have I:=hA rec hs
    have:(((op.length:Nat):Int) == 32)=false:=by simp; omega
    simp only[this,ah,aj]
    have U:apO 64 op [(((out.length:Nat):Int),(m:Int),n,false,(j:Int),(none:Option (Nat×Nat)))]=some (op++[(((out.length:Nat):Int),(m:Int),n,false,(j:Int),none)]):=im (by simp; omega)
    have ad:apO 64 op [(((out.length:Nat):Int),(m:Int),(1:UInt64),false,(j:Int),(none:Option (Nat×Nat)))]=some (op++[(((out.length:Nat):Int),(m:Int),(1:UInt64),false,(j:Int),none)]):=im (by simp; omega)
    have hn:=n.toNat_lt
    have V:UInt64.ofNat n.toNat=n:=by simp
    unfold BP
    by_cases hm4:m=4
    ·subst hm4
     have J:(((4:Nat):Int) == 6)=false:=by decide
     simp only[J,ah,aj,F.WM,al]
     rw[zL _ _ (by simp; omega),aa,U,aa,aa]
     simp only[oU]
     have:=yc hb G I (by omega) ((4:Nat):Int) (by decide) (((4:Nat):Int),0,[],0) false (j:Int) none (b.length+1) 0 n.toNat j out [] op h5 (by simp; omega) (by omega) Z hn (by omega) (by omega)
     rw[V]at this
     have this:run b (loop (F.Tf b) ((j:Int),out++[(((4:Nat):Int),0,[],0)],op++[((out.length:Int),((4:Nat):Int),n,false,(j:Int),none)]))=_:=this
     rw[this]
     cases hl:gA rec (b.length+1) n.toNat j with
     | error e=>rfl
     | ok y=>
      obtain⟨k,is⟩:=y
      simp only[bk,bN]
      rfl
    ·by_cases hm5:m=5
     ·subst hm5
      have J:(((5:Nat):Int) == 6)=false:=by decide
      simp only[J,ah,aj,F.WM,al,hm4]
      rw[zL _ _ (by simp; omega),aa,U,aa,aa]
      simp only[oU]
      have:=Fg hb G I (by omega) (((5:Nat):Int),0,[],0) (b.length+1) 0 n.toNat j out [] op none h5 (by simp; omega) (by omega) Z hn (by omega) (by simp)
      rw[V]at this
      have this:run b (loop (F.Tf b) ((j:Int),out++[(((5:Nat):Int),0,[],0)],op++[((out.length:Int),((5:Nat):Int),n,false,(j:Int),none)]))=_:=this
      rw[this]
      have hv:qP b none=none:=rfl
      rw[hv]
      cases hl:gg rec b (b.length+1) n.toNat none j with
      | error e=>rfl
      | ok y=>
       obtain⟨k,is⟩:=y
       simp only[bk,bN]
       rw[show ((2*n.toNat:Nat):Int)=2*(n.toNat:Int) by simp]
       rfl
     ·have b3:m=6:=by omega
      subst b3
      have J:(((6:Nat):Int) == 6)=true:=by decide
      simp only[J,al,F.WM,hm4,hm5,aj]
      rw[zL _ _ (by simp; omega),aa,ad,aa,aa]
      simp only[oU]
      have:=yc hb G I (by omega) ((6:Nat):Int) (by decide) (((6:Nat):Int),n,[],0) false (j:Int) none (b.length+1) 0 1 j out [] op h5 (by simp; omega) (by omega) Z (by omega) (by omega) (by omega)
      have this:run b (loop (F.Tf b) ((j:Int),out++[(((6:Nat):Int),n,[],0)],op++[((out.length:Int),((6:Nat):Int),(1:UInt64),false,(j:Int),none)]))=_:=this
      rw[this,gA]
      cases hl:rec j with
      | error e=>rfl
      | ok y=>
       obtain⟨k,is⟩:=y
       simp only
       cases hbl:b.length with
       | zero=>simp only[gA,bP,bN]; rfl
       | succ q=>simp only[gA,bP,bN]; rfl
  ·rw[ae hcon]
   by_cases hstr:m=2\/m=3
   ·rw[ag hstr]
    have n0:((m:Int) == 0)=false:=by simp; omega
    have n1:((m:Int) == 1)=false:=by simp; omega
    have n7:((m:Int) == 7)=false:=by simp; omega
    have b4:(if ((m:Int) == 2)=true then F.UJ b (i:Int) ((m:Int),n,none,(j:Int),out,op) ((m:Int) == 2) else F.UJ b (i:Int) ((m:Int),n,none,(j:Int),out,op) ((m:Int) == 3)) =
      F.UJ b (i:Int) ((m:Int),n,none,(j:Int),out,op) true:=by
     rcases hstr with h | h <;> subst h <;> rfl
    simp only[n0,n1,n7,ah,aj,F.Ub,b4]
    simp only[F.UJ,al]
    have e1:wI ((b.length:Int) - (j:Int))=((b.length - j:Nat):Int):=by rw[aC (by omega) (by omega)]; omega
    have e2:(UInt64.ofNat (b.length - j)).toNat=b.length - j:=by simp; omega
    rw[e1,gI]
    by_cases hlen:b.length - j<n.toNat
    ·have d1:decide (UInt64.ofNat (b.length - j)<n)=true:=by simp only[ak,bh,e2]; exact hlen
     simp only[d1,al,hlen,aa,pg]
     rfl
    ·have d1:decide (UInt64.ofNat (b.length - j)<n)=false:=by simp only[iA,bh,e2]; omega
     have e3:wI (n.toNat:Int)=(n.toNat:Int):=aC (by omega) (by omega)
     have e4:wI ((j:Int)+(n.toNat:Int))=((j+n.toNat:Nat):Int):=by rw[aC (by omega) (by omega)]; simp
     simp only[d1,ah,aj,hlen,e3,e4]
     rw[lP (by omega) (by omega),aa]
     have b8:(b.drop j).take (j+n.toNat - j)=part b j (j+n.toNat):=rfl
     rw[b8]
     have hpl:(part b j (j+n.toNat)).length<=b.length:=by simp[part]; omega
     have X:F.WW (i:Int) ((m:Int),n,none,(j:Int),out,op) (part b j (j+n.toNat)) b false=F.W6 b ((m:Int),n,none,(j:Int),out,op) (((j+n.toNat:Nat):Int),0,part b j (j+n.toNat)):=by
      simp only[F.WW,ah,aj,e3,e4]
     by_cases hm3:m=3
     ·subst hm3
      have e5:(((3:Nat):Int) == 3)=true:=by decide
      have hv:F.Tn (part b j (j+n.toNat))=some (Lib.validD (part b j (j+n.toNat))):=ag (by omega)
      simp only[e5,al,hv,aa,true_and]
      cases Lib.validD (part b j (j+n.toNat)) with
      | false=>
       simp only[gr,F.WW,al,aa,pg]
       rfl
      | true=>
       simp only[cF,X,Bool.true_eq_false,aj]
       exact z _ _ _
     ·have e5:((m:Int) == 3)=false:=by simp; omega
      simp only[e5,ah,aj,X,z,hm3,false_and]
   ·rw[ae hstr]
    have O:m=0\/m=1\/m=7:=by omega
    have b9:(if ((m:Int) == 0)=true then F.Ub ((m:Int),n,none,(j:Int),out,op) b (i:Int) ((m:Int) == 0) else if ((m:Int) == 1)=true then F.Ub ((m:Int),n,none,(j:Int),out,op) b (i:Int) ((m:Int) == 1) else F.Ub ((m:Int),n,none,(j:Int),out,op) b (i:Int) ((m:Int) == 7)) =
      F.Ub ((m:Int),n,none,(j:Int),out,op) b (i:Int) true:=by
     rcases O with h | h | h <;> subst h <;> rfl
    rw[b9]
    simp only[F.Ub,al,z]
theorem xL (hb:b.length<=65536):∀d,d<=32->Act b (32 - d) (mc d b)
 | 0,hd=>Cs hb 0 hd none (by simp) (by simp) (by simp)
 | d+1,hd=>by
  refine Cs hb (d+1) hd (some (mc d b)) (by intro rec h; cases h; exact jE b d) (by simp) ?_
  intro rec h
  cases h
  have:=xL hb d (by omega)
  rw[show 32 - (d+1)+1=32 - d by omega]
  exact this
theorem lQ (b:L01):F.Ue b=some (kU b):=by
 unfold F.Ue kU
 by_cases hb:65536<b.length
 ·have:decide ((65536:Int)<(b.length:Int))=true:=by simp; omega
  simp only[this,al,hb]
 ·have k:decide ((65536:Int)<(b.length:Int))=false:=by simp; omega
  simp only[k,ah,aj,hb]
  have:=xL (b:=b) (by omega) 32 (by omega) 0 [] [] (by omega) (by simp) (by simp)
  have this:loop (F.Ug b) (0,[],[])=_:=this
  rw[this]
  cases hx:mc 32 b 0 with
  | error e=>rfl
  | ok y=>
   obtain⟨j,is⟩:=y
   simp only[bN]
   rw[KR,Pk]
end
theorem qn {σ ρ:Type} {f:σ->Option (σ⊕ρ)} (I:σ->Prop) (μ:σ->Nat) (T:ρ->Prop) (k:∀s,I s->(∃j,f s=some (.inl j)/\I j/\μ j<μ s)\/(∃r,f s=some (.inr r)/\T r)) (s:σ) (hs:I s):∃r,loop f s=some r/\T r:=by
 obtain⟨r,y,z⟩:=AO I μ (fun _ r=>T r) (fun s h=>by
  rcases k s h with⟨j,a,b,c⟩ | ⟨r,a,b⟩
  ·exact .inl ⟨j,a,b,c,fun r h=>h⟩
  ·exact .inr ⟨r,a,b⟩) s hs
 exact⟨r,y,z⟩
section
variable {s:L01}
theorem IV (i:Nat):∃b,F.abv s i=some b/\(b=true->i<s.length):=by
 unfold F.abv
 by_cases h:i<s.length
 ·have d:decide ((i:Int)<(s.length:Int))=true:=by simp; omega
  simp only[d,al,bz h,aa]
  split
  ·exact⟨_,rfl,fun _=>h⟩
  ·exact⟨_,rfl,fun _=>h⟩
 ·have d:decide ((i:Int)<(s.length:Int))=false:=by simp; omega
  simp only[d,ah,aj]
  exact⟨false,rfl,by simp⟩
theorem wR (hs:s.length<=2000000) (i:Nat) (hi:i<=s.length):∃j:Nat,F.ZP s i=some (j:Int)/\i<=j/\j<=s.length:=by
 obtain⟨r,k,j,y,A,B⟩:=qn (f:=F.aaL s) (fun x:Int=>∃j:Nat,x=(j:Int)/\i<=j/\j<=s.length) (fun x=>s.length - x.toNat) (fun r:Int=>∃j:Nat,r=(j:Int)/\i<=j/\j<=s.length) (by
  rintro x ⟨j,rfl,k,y⟩
  obtain⟨b,hb,z⟩:=IV (s:=s) j
  cases b
  ·right
   exact⟨(j:Int),by simp only[F.aaL,hb,aa,ah,aj]; rfl,j,rfl,k,y⟩
  ·left
   have:=z rfl
   refine⟨((j+1:Nat):Int),?_,⟨j+1,rfl,by omega,by omega⟩,by simp; omega⟩
   simp only[F.aaL,hb,aa,al]
   rw[aC (by omega) (by omega)]
   rfl) (i:Int) ⟨i,rfl,by omega,hi⟩
 subst y
 exact⟨j,k,A,B⟩
abbrev Kn:=Bool×List Int×Int×Bool×List Int×Bool×L01×Bool
def lJ (s:L01) (x:Option Kn):Prop:=∃r:Kn,x=some r/\r.2.2.2.2.2.2.1.length<=s.length
theorem lJ.mk {r:Kn} (h:r.2.2.2.2.2.2.1.length<=s.length):lJ s (some r):=⟨r,rfl,h⟩
theorem Nk (a:Bool) (t:L01) (c:Bool) (d:List Int) (e:Bool) (g:Int) (k:t.length<=s.length) (ds:List Int) (y:ds.length<=100000000):lJ s (loop (F.Z7 a t c d e g) ds):=by
 obtain⟨r,A,B⟩:=qn (f:=F.Z7 a t c d e g) (fun l=>l.length<=100000000) (fun l=>l.length) (fun r=>r.2.2.2.2.2.2.1.length<=s.length) (by
  intro l hl
  unfold F.Z7
  by_cases h0:0<l.length
  ·have j:decide ((0:Int)<(l.length:Int))=true:=by simp; omega
   have z:wI ((l.length:Int) - 1)=((l.length - 1:Nat):Int):=by rw[aC (by omega) (by omega)]; omega
   simp only[j,al,z]
   rw[bz (show l.length - 1<l.length by omega),aa]
   by_cases hz:(l[l.length - 1] == 0)=true
   ·left
    refine⟨l.take (l.length - 1),?_,by simp; omega,by simp; omega⟩
    simp only[hz,F.Yi,al,z]
    rw[grd_true _ (by simp)]
    simp[bM]
   ·right
    refine⟨(a,l,g,c,d,e,t,true),?_,k⟩
    simp only[hz,F.Yi,ah,aj]
    rfl
  ·have j:decide ((0:Int)<(l.length:Int))=false:=au (by omega)
   right
   refine⟨(a,l,g,c,d,e,t,true),?_,k⟩
   simp only[j,F.Yi,ah,aj]
   rfl) ds y
 exact⟨r,A,B⟩
theorem Mf (all:L01) (R:all.length<=4000000) (a:Bool) (t:L01) (c:Bool) (d:List Int) (e:Bool) (U:t.length<=s.length) (g:Int):lJ s (loop (F.aae all a t c d e) (0,[],g)):=by
 obtain⟨r,B,J⟩:=qn (f:=F.aae all a t c d e) (fun x=>∃j:Nat,x.1=(j:Int)/\j<=all.length/\x.2.1.length<=j) (fun x=>all.length - x.1.toNat) (fun r=>r.2.2.2.2.2.2.1.length<=s.length) (by
  rintro⟨x,ds,y⟩ ⟨j,B,J,V⟩
  simp only at B V
  subst B
  unfold F.aae
  by_cases hj:j<all.length
  ·left
   have G:decide ((j:Int)<(all.length:Int))=true:=by simp; omega
   have N:wI ((j:Int)+1)=((j+1:Nat):Int):=by rw[aC (by omega) (by omega)]; rfl
   simp only[G,al,bz hj,aa,aD]
   have O:∀t,∃k I,F.X5 ds y (((all[j] - 48).toNat:Int)) j t=some (.inl (((j+1:Nat):Int),k,I))/\k.length<=j+1:=by
    intro t
    cases t
    ·refine⟨ds,wI (y - 1),?_,by omega⟩
     simp only[F.X5,ah,aj,F.aaJ,N]
     rfl
    ·refine⟨ds++[((all[j] - 48).toNat:Int)],y,?_,by simp; omega⟩
     simp only[F.X5,al]
     rw[im (by simp; omega),aa]
     simp only[F.aaJ,N]
     rfl
   split
   ·obtain⟨k,I,z,A⟩:=O true
    exact⟨_,z,⟨j+1,rfl,by omega,A⟩,by simp; omega⟩
   ·obtain⟨k,I,z,A⟩:=O (decide ((0:Int)<(ds.length:Int)))
    exact⟨_,z,⟨j+1,rfl,by omega,A⟩,by simp; omega⟩
  ·right
   have G:decide ((j:Int)<(all.length:Int))=false:=by simp; omega
   obtain⟨r,z,A⟩:=Nk (s:=s) a t c d e y U ds (by omega)
   refine⟨r,?_,A⟩
   simp only[G,ah,aj,z]
   rfl) (0,[],g) ⟨0,rfl,by omega,by simp⟩
 exact⟨r,B,J⟩
theorem Eb (k:Int) (a:Bool) (z:Int) (t all:L01) (A:t.length<=s.length) (j:all.length<=4000000) (y:Int×Bool×List Int×Bool):lJ s (F.aaK s k a z t all y):=by
 obtain⟨y1,y2,y3,B⟩:=y
 simp only[F.aaK]
 split
 ·exact lJ.mk A
 ·exact Mf all j a t y2 y3 B A _
theorem Dt (hs:s.length<=2000000) (z:Int) (a:Bool) (A:Int) (t all:L01) (R:t.length<=s.length) (N:all.length<=4000000) (i:Nat) (hi:i<=s.length) (q:Bool):lJ s (F.aar s z a A t all ((i:Int),q)):=by
 obtain⟨j,Y,h2,h3⟩:=wR hs i hi
 simp only[F.aar,Y,aa]
 split
 ·exact lJ.mk R
 ·obtain⟨r,I,U⟩:=qn (f:=F.aaV s q (j:Int) z a A t all) (fun x=>∃k:Nat,x.1=(k:Int)/\k<=j/\x.2.length<=k) (fun x=>j - x.1.toNat) (fun r=>r.2.2.2.2.2.2.1.length<=s.length) (by
   rintro⟨x,ds⟩ ⟨k,I,U,Z⟩
   simp only at I Z
   subst I
   unfold F.aaV
   by_cases hk:k<j
   ·left
    have O:decide ((k:Int)<(j:Int))=true:=by simp; omega
    have V:wI ((k:Int)+1)=((k+1:Nat):Int):=by rw[aC (by omega) (by omega)]; rfl
    have J:k<s.length:=by omega
    simp only[O,al,bz J,aa]
    have X:∀b,∃y,F.ZG s (k:Int) ds b=some (.inl (((k+1:Nat):Int),y))/\y.length<=k+1:=by
     intro b
     cases b
     ·refine⟨ds,?_,by omega⟩
      simp only[F.ZG,ah,aj,F.ZN,V]
      rfl
     ·refine⟨ds++[((s[k] - 48).toNat:Int)],?_,by simp; omega⟩
      simp only[F.ZG,al,bz J,aa]
      rw[im (by simp; omega),aa]
      simp only[F.ZN,V]
      rfl
    split
    ·obtain⟨y,B,G⟩:=X true
     exact⟨_,B,⟨k+1,rfl,by omega,G⟩,by simp; omega⟩
    ·obtain⟨y,B,G⟩:=X (decide ((0:Int)<(ds.length:Int)))
     exact⟨_,B,⟨k+1,rfl,by omega,G⟩,by simp; omega⟩
   ·right
    have O:decide ((k:Int)<(j:Int))=false:=by simp; omega
    obtain⟨r,B,G⟩:=Eb (s:=s) z a A t all R N ((j:Int),q,ds,false)
    refine⟨r,?_,G⟩
    simp only[O,ah,aj,B]
    rfl) ((i:Int),[]) ⟨i,rfl,by omega,by simp⟩
  exact⟨r,I,U⟩
theorem wF (hs:s.length<=2000000) (i:Nat) (hi:i<=s.length) (J:Bool) (z:Int) (a:Bool) (A:Int) (t all:L01) (B:t.length<=s.length) (j:all.length<=4000000) (q:Bool) (N:q=true->i<s.length) :
  lJ s (F.W1 s (i:Int) J z a A t all q):=by
 cases q
 ·simp only[F.W1,ah,aj]
  exact Eb _ _ _ _ _ B j _
 ·have R:=N rfl
  have G:wI ((i:Int)+1)=((i+1:Nat):Int):=by rw[aC (by omega) (by omega)]; rfl
  have k:∀b,(b=true->i+1<s.length)->lJ s (F.Xz s (i:Int) z a A t all b):=by
   intro b hb
   cases b
   ·simp only[F.Xz,ah,aj,G]
    exact Dt hs _ _ _ _ _ B j _ (by omega) _
   ·have y:=hb rfl
    have O:wI (((i+1:Nat):Int)+1)=((i+2:Nat):Int):=by rw[aC (by omega) (by omega)]; rfl
    simp only[F.Xz,al,G,bz y,aa,O]
    exact Dt hs _ _ _ _ _ B j _ (by omega) _
  simp only[F.W1,al,G]
  by_cases y:i+1<s.length
  ·have I:decide (((i+1:Nat):Int)<(s.length:Int))=true:=by simp; omega
   simp only[I,al,bz y,aa]
   split
   ·exact k _ (fun _=>y)
   ·exact k _ (fun _=>y)
  ·have I:decide (((i+1:Nat):Int)<(s.length:Int))=false:=by simp; omega
   simp only[I,ah,aj]
   exact k _ (by simp)
theorem DR (hs:s.length<=2000000) (z:Int) (a:Bool) (A:Int) (t:L01) (k:t.length<=s.length) (i:Nat) (hi:i<=s.length) (all:L01) (j:all.length<=4000000) (q:Bool):lJ s (F.aaE s z a A t ((i:Int),all,q)):=by
 simp only[F.aaE]
 by_cases h2:i<s.length
 ·have y:decide (((i:Nat):Int)<(s.length:Int))=true:=by simp; omega
  simp only[y,al,bz h2,aa]
  split
  ·exact wF hs i hi _ _ _ _ _ _ k j _ (fun _=>h2)
  ·exact wF hs i hi _ _ _ _ _ _ k j _ (fun _=>h2)
 ·have y:decide (((i:Nat):Int)<(s.length:Int))=false:=by simp; omega
  simp only[y,ah,aj]
  exact wF hs i hi _ _ _ _ _ _ k j _ (by simp)
theorem DG (hs:s.length<=2000000) (i:Nat) (hi:i<=s.length) (a:Bool):lJ s (F.aaG s ((i:Int),a)):=by
 obtain⟨j,O,R,I⟩:=wR hs i hi
 have A:∀b,lJ s (F.Xx s (i:Int) a (j:Int) b):=by
  intro b
  cases b
  ·simp only[F.Xx,ah,aj]
   rw[lP R I,aa,aa]
   have y:((s.drop i).take (j - i)).length<=s.length:=by simp; omega
   have z:∀b,(b=true->j<s.length)->lJ s (F.Yu s (i:Int) a (j:Int) ((s.drop i).take (j - i)) ((s.drop i).take (j - i)) b):=by
    intro b hb
    cases b
    ·simp only[F.Yu,ah,aj]
     exact DR hs _ _ _ _ y j I _ (ba y (by omega)) _
    ·have B:=hb rfl
     have U:wI ((j:Int)+1)=((j+1:Nat):Int):=by rw[aC (by omega) (by omega)]; rfl
     obtain⟨k,V,X,J⟩:=wR hs (j+1) (by omega)
     simp only[F.Yu,al,U,V,aa]
     split
     ·exact lJ.mk y
     ·rw[lP X J,aa,Nb (by simp; omega),aa]
      exact DR hs _ _ _ _ y k J _ (by simp; omega) _
   by_cases B:j<s.length
   ·have G:decide (((j:Nat):Int)<(s.length:Int))=true:=by simp; omega
    simp only[G,al,bz B,aa]
    exact z _ (fun _=>B)
   ·have G:decide (((j:Nat):Int)<(s.length:Int))=false:=by simp; omega
    simp only[G,ah,aj]
    exact z _ (by simp)
  ·simp only[F.Xx,al]
   exact lJ.mk (by simp)
 simp only[F.aaG,O,aa]
 by_cases hij:j=i
 ·subst hij
  have:(((j:Nat):Int) == (j:Int))=true:=by simp
  simp only[this,al]
  exact A _
 ·have:(((j:Nat):Int) == (i:Int))=false:=by simp; omega
  have N:i<s.length:=by omega
  simp only[this,ah,aj,bz N,aa]
  split
  ·exact A _
  ·exact A _
theorem yz (hs:s.length<=2000000):lJ s (F.Z8 s):=by
 have j:∀b,(b=true->1<=s.length)->lJ s (F.abp s b):=by
  intro b hb
  cases b
  ·exact DG hs 0 (by omega) false
  ·exact DG hs 1 (hb rfl) true
 unfold F.Z8
 by_cases h0:0<s.length
 ·have k:decide ((0:Int)<(s.length:Int))=true:=by simp; omega
  have y:aw s (0:Int)=some s[0]:=bz h0
  simp only[k,al,y,aa]
  exact j _ (fun _=>h0)
 ·have k:decide ((0:Int)<(s.length:Int))=false:=au (by omega)
  simp only[k,ah,aj]
  exact j _ (by simp)
theorem IQ (hs:s.length<=2000000):∃b,F.abn s=some b:=by
 obtain⟨r,h,_⟩:=yz hs
 exact⟨_,by unfold F.abn; rw[h]; rfl⟩
theorem JO (hs:s.length<=2000000):∃b,F.abl s=some b:=by
 obtain⟨r,h,hl⟩:=yz hs
 unfold F.abl
 rw[h,aa]
 have A:∀b,∃x,F.ZS r b=some x:=by
  intro b
  cases b
  ·simp only[F.ZS,ah,aj]
   obtain⟨q,k,_⟩:=qn (f:=F.aaU r) (fun x=>∃j:Nat,x.2=(j:Int)/\j<=r.2.2.2.2.2.2.1.length) (fun x=>r.2.2.2.2.2.2.1.length - x.2.toNat) (fun _=>True) (by
    rintro⟨x,y⟩ ⟨j,k,G⟩
    simp only at k
    subst k
    unfold F.aaU
    by_cases hj:j<r.2.2.2.2.2.2.1.length
    ·have z:decide ((j:Int)<(r.2.2.2.2.2.2.1.length:Int))=true:=by simp; omega
     have B:wI ((j:Int)+1)=((j+1:Nat):Int):=by rw[aC (by omega) (by omega)]; rfl
     simp only[z,al,bz hj,aa,aD,B]
     split
     ·right; exact⟨_,rfl,trivial⟩
     ·left; exact⟨_,rfl,⟨j+1,rfl,by omega⟩,by simp; omega⟩
    ·have z:decide ((j:Int)<(r.2.2.2.2.2.2.1.length:Int))=false:=by simp; omega
     simp only[z,ah,aj]
     right
     split
     ·exact⟨_,rfl,trivial⟩
     ·split
      ·exact⟨_,rfl,trivial⟩
      ·exact⟨_,rfl,trivial⟩) (0,0) ⟨0,rfl,by omega⟩
   exact⟨q,k⟩
  ·exact⟨_,rfl⟩
 split
 ·exact A _
 ·exact A _
theorem SS:∀c:Fin 256,128<=c.val->(F.abe (c.val:Int)=some (-1,0,0)/\¬(Lib.firstT c.val%8=2\/Lib.firstT c.val%8=3\/Lib.firstT c.val%8=4)) \/
  (∃n∈[1,2,3],F.abe (c.val:Int)=some (((n:Nat):Int),((Lib.accLo (Lib.firstT c.val / 16):Nat):Int),((Lib.accHi (Lib.firstT c.val / 16):Nat):Int))/\Lib.firstT c.val%8=n+1):=by
 decide +kernel
def okB (l:L01) (j lo hi:Nat):Prop:=j<l.length/\lo<=(l.getD j 0).toNat/\(l.getD j 0).toNat<=hi
instance (l:L01) (j lo hi:Nat):Decidable (okB l j lo hi):=by unfold okB; infer_instance
abbrev Jw:=Int×List (Int×L01×L01×Bool×Int×Int)×L01×Int×Int
theorem rv (hs:s.length<=2000000) (i:Nat) (k:Int×Int×Int) (n j lo hi:Nat) (hx:k.1=(n:Int)) (U:j<=n) (O:j<=10) (R:i<=s.length) :
  (okB (s.drop i) j lo hi->F.WX s i k ((lo:Int),(hi:Int),(j:Int))=some (.inl (((128:Nat):Int),((191:Nat):Int),((j+1:Nat):Int)))) /\
  (¬okB (s.drop i) j lo hi->∃r:Jw,F.WX s i k ((lo:Int),(hi:Int),(j:Int))=some (.inr r)/\r.2.2.2.1≠0):=by
 have G:decide ((j:Int)<=k.1)=true:=by rw[hx]; simp; omega
 have I:wI ((i:Int)+(j:Int))=((i+j:Nat):Int):=by rw[aC (by omega) (by omega)]; rfl
 have J:wI ((j:Int)+1)=((j+1:Nat):Int):=by rw[aC (by omega) (by omega)]; rfl
 unfold F.WX
 simp only[G,al,I]
 by_cases hl:i+j<s.length
 ·have y:decide ((s.length:Int)<=((i+j:Nat):Int))=false:=by simp; omega
  have hg:(s.drop i).getD j 0=s[i+j]:=by simp[List.getD,hl]
  have hA:F.Yk s ((i+j:Nat):Int)=some ((s[i+j].toNat:Nat):Int):=by
   unfold F.Yk
   simp only[y,ah,aj,bz hl,aa]
  have B:okB (s.drop i) j lo hi↔lo<=s[i+j].toNat/\s[i+j].toNat<=hi:=by
   unfold okB
   rw[hg]
   simp; omega
  rw[B,hA,aa]
  have N:decide (((s[i+j].toNat:Nat):Int)<0)=false:=by simp
  simp only[N,ah,aj]
  by_cases hlo:s[i+j].toNat<lo
  ·have z:decide (((s[i+j].toNat:Nat):Int)<(lo:Int))=true:=by simp; omega
   refine⟨fun h=>by omega,fun _=>⟨(0,[],[],32,(i:Int)),?_,(by decide:(32:Int)≠0)⟩⟩
   simp only[z,al,F.YS]
   rfl
  ·have z:decide (((s[i+j].toNat:Nat):Int)<(lo:Int))=false:=by simp; omega
   simp only[z,ah,aj]
   by_cases hhi:hi<s[i+j].toNat
   ·have A:decide ((hi:Int)<((s[i+j].toNat:Nat):Int))=true:=by simp; omega
    refine⟨fun h=>by omega,fun _=>⟨(0,[],[],32,(i:Int)),?_,(by decide:(32:Int)≠0)⟩⟩
    simp only[A,F.YS,al]
    rfl
   ·have A:decide ((hi:Int)<((s[i+j].toNat:Nat):Int))=false:=by simp; omega
    refine⟨fun _=>?_,fun h=>absurd ⟨by omega,by omega⟩ h⟩
    simp only[A,F.YS,ah,aj,J]
    rfl
 ·have y:decide ((s.length:Int)<=((i+j:Nat):Int))=true:=by simp; omega
  have hA:F.Yk s ((i+j:Nat):Int)=some (-1):=by
   unfold F.Yk
   simp only[y,al]
  refine⟨fun h=>?_,fun _=>⟨(0,[],[],31,(s.length:Int)),?_,(by decide:(31:Int)≠0)⟩⟩
  ·have:=h.1
   simp at this; omega
  ·rw[hA,aa]
   rfl
theorem wY (hs:s.length<=2000000) (i:Nat) (j:Int×Int×Int) (n:Nat) (lo hi:Int) (hx:j.1=(n:Int)) (hl:i+n<s.length) :
  ∃r:Jw,F.WX s i j (lo,hi,((n+1:Nat):Int))=some (.inr r)/\r.2.2.2.1=0/\r.1=((i+n+1:Nat):Int):=by
 have k:decide (((n+1:Nat):Int)<=(n:Int))=false:=by simp; omega
 have y:wI ((i:Int)+(n:Int))=((i+n:Nat):Int):=by rw[aC (by omega) (by omega)]; rfl
 have z:wI (((i+n:Nat):Int)+1)=((i+n+1:Nat):Int):=by rw[aC (by omega) (by omega)]; rfl
 refine⟨(((i+n+1:Nat):Int),[],(s.drop i).take (i+n+1 - i),0,0),?_,rfl,rfl⟩
 unfold F.WX
 simp only[hx,k,ah,aj,y,z]
 rw[lP (by omega) (by omega),aa]
 rfl
theorem OV (hs:s.length<=2000000) (i:Nat) (hi:i<s.length) (hc:128<=s[i].toNat):∃r:Jw,F.aaR s i=some r /\
  (match Lib.checkN (s.drop i).length ((s.drop i).getD 1 0).toNat ((s.drop i).getD 2 0).toNat ((s.drop i).getD 3 0).toNat (Lib.firstT s[i].toNat%8) (Lib.accLo (Lib.firstT s[i].toNat / 16)) (Lib.accHi (Lib.firstT s[i].toNat / 16)) with
   | none=>r.2.2.2.1≠0
   | some k=>r.2.2.2.1=0/\r.1=((i+k:Nat):Int)/\2<=k/\i+k<=s.length):=by
 have hb:=SS ⟨s[i].toNat,s[i].toNat_lt⟩ hc
 simp only at hb
 have U:(s.drop i).length=s.length - i:=by simp
 unfold F.aaR
 rw[bz hi,aa]
 rcases hb with⟨I,N⟩ | ⟨n,hn,I,N⟩
 ·rw[I,aa]
  refine⟨(0,[],[],32,(i:Int)),rfl,?_⟩
  have:Lib.checkN (s.drop i).length ((s.drop i).getD 1 0).toNat ((s.drop i).getD 2 0).toNat ((s.drop i).getD 3 0).toNat (Lib.firstT s[i].toNat%8) (Lib.accLo (Lib.firstT s[i].toNat / 16)) (Lib.accHi (Lib.firstT s[i].toNat / 16))=none:=by
   unfold Lib.checkN
   rw[ae (by omega),ae (by omega),ae (by omega)]
  rw[this]
  exact (by decide:(32:Int)≠0)
 ·rw[I,aa,N]
  generalize Lib.accLo (Lib.firstT s[i].toNat / 16)=lo
  generalize Lib.accHi (Lib.firstT s[i].toNat / 16)=j
  have V:decide (((n:Nat):Int)<0)=false:=by simp
  simp only[V,ah,aj]
  have G:n=1\/n=2\/n=3:=by simpa using hn
  -- step by step
  obtain⟨a1,a2⟩:=rv hs i ((n:Int),(lo:Int),(j:Int)) n 1 lo j rfl (by omega) (by omega) (by omega)
  have O:((lo:Int),(j:Int),(1:Int))=((lo:Int),(j:Int),((1:Nat):Int)):=rfl
  rw[O]
  by_cases o1:okB (s.drop i) 1 lo j
  ·rw[bn (a1 o1)]
   have R:=o1
   unfold okB at R
   rcases G with rfl | rfl | rfl
   ·obtain⟨r,y,z,r3⟩:=wY hs i (((1:Nat):Int),(lo:Int),(j:Int)) 1 ((128:Nat):Int) ((191:Nat):Int) rfl (by omega)
    refine⟨r,bD y,?_⟩
    have:Lib.checkN (s.drop i).length ((s.drop i).getD 1 0).toNat ((s.drop i).getD 2 0).toNat ((s.drop i).getD 3 0).toNat (1+1) lo j=some 2:=by
     unfold Lib.checkN
     rw[ag rfl,ae (by omega)]
    rw[this]
    exact⟨z,by rw[r3],by omega,by omega⟩
   ·obtain⟨b1,J⟩:=rv hs i (((2:Nat):Int),(lo:Int),(j:Int)) 2 2 128 191 rfl (by omega) (by omega) (by omega)
    by_cases o2:okB (s.drop i) 2 128 191
    ·rw[bn (b1 o2)]
     have A:=o2
     unfold okB at A
     obtain⟨r,y,z,r3⟩:=wY hs i (((2:Nat):Int),(lo:Int),(j:Int)) 2 ((128:Nat):Int) ((191:Nat):Int) rfl (by omega)
     refine⟨r,bD y,?_⟩
     have:Lib.checkN (s.drop i).length ((s.drop i).getD 1 0).toNat ((s.drop i).getD 2 0).toNat ((s.drop i).getD 3 0).toNat (2+1) lo j=some 3:=by
      unfold Lib.checkN
      rw[ae (by omega),ag rfl,ae (by omega)]
     rw[this]
     exact⟨z,by rw[r3],by omega,by omega⟩
    ·obtain⟨r,y,z⟩:=J o2
     refine⟨r,bD y,?_⟩
     have A:=o2
     unfold okB at A
     have:Lib.checkN (s.drop i).length ((s.drop i).getD 1 0).toNat ((s.drop i).getD 2 0).toNat ((s.drop i).getD 3 0).toNat (2+1) lo j=none:=by
      unfold Lib.checkN
      rw[ae (by omega),ag rfl,ag (by omega)]
     rw[this]
     exact z
   ·obtain⟨b1,J⟩:=rv hs i (((3:Nat):Int),(lo:Int),(j:Int)) 3 2 128 191 rfl (by omega) (by omega) (by omega)
    by_cases o2:okB (s.drop i) 2 128 191
    ·rw[bn (b1 o2)]
     have A:=o2
     unfold okB at A
     obtain⟨X,Y⟩:=rv hs i (((3:Nat):Int),(lo:Int),(j:Int)) 3 3 128 191 rfl (by omega) (by omega) (by omega)
     by_cases o3:okB (s.drop i) 3 128 191
     ·rw[bn (X o3)]
      have B:=o3
      unfold okB at B
      obtain⟨r,y,z,r3⟩:=wY hs i (((3:Nat):Int),(lo:Int),(j:Int)) 3 ((128:Nat):Int) ((191:Nat):Int) rfl (by omega)
      refine⟨r,bD y,?_⟩
      have:Lib.checkN (s.drop i).length ((s.drop i).getD 1 0).toNat ((s.drop i).getD 2 0).toNat ((s.drop i).getD 3 0).toNat (3+1) lo j=some 4:=by
       unfold Lib.checkN
       rw[ae (by omega),ae (by omega),ag rfl,ae (by omega)]
      rw[this]
      exact⟨z,by rw[r3],by omega,by omega⟩
     ·obtain⟨r,y,z⟩:=Y o3
      refine⟨r,bD y,?_⟩
      have B:=o3
      unfold okB at B
      have:Lib.checkN (s.drop i).length ((s.drop i).getD 1 0).toNat ((s.drop i).getD 2 0).toNat ((s.drop i).getD 3 0).toNat (3+1) lo j=none:=by
       unfold Lib.checkN
       rw[ae (by omega),ae (by omega),ag rfl,ag (by omega)]
      rw[this]
      exact z
    ·obtain⟨r,y,z⟩:=J o2
     refine⟨r,bD y,?_⟩
     have A:=o2
     unfold okB at A
     have:Lib.checkN (s.drop i).length ((s.drop i).getD 1 0).toNat ((s.drop i).getD 2 0).toNat ((s.drop i).getD 3 0).toNat (3+1) lo j=none:=by
      unfold Lib.checkN
      rw[ae (by omega),ae (by omega),ag rfl,ag (by omega)]
     rw[this]
     exact z
  ·obtain⟨r,y,z⟩:=a2 o1
   refine⟨r,bD y,?_⟩
   unfold okB at o1
   have:Lib.checkN (s.drop i).length ((s.drop i).getD 1 0).toNat ((s.drop i).getD 2 0).toNat ((s.drop i).getD 3 0).toNat (n+1) lo j=none:=by
    unfold Lib.checkN
    rcases G with rfl | rfl | rfl
    ·rw[ag rfl,ag (by omega)]
    ·rw[ae (by omega),ag rfl,ag (by omega)]
    ·rw[ae (by omega),ae (by omega),ag rfl,ag (by omega)]
   rw[this]
   exact z
theorem Hj (hs:s.length<=2000000):F.aad s=some (Lib.validD s):=by
 have J:∀k i,s.length - i=k->i<=s.length->loop (F.UQ s) (i:Int)=some (Lib.validD (s.drop i)):=by
  intro k
  induction k using Nat.strongRecOn with
  | _ k ih=>
   intro i Z hi
   by_cases hl:i<s.length
   ·have j:decide ((i:Int)<(s.length:Int))=true:=by simp; omega
    have hd:s.drop i=s[i] :: s.drop (i+1):=aS hl
    by_cases hc:s[i].toNat<128
    ·have z:decide (s[i]<128)=true:=by simp only[ak,i6]; exact hc
     have:F.UQ s (i:Int)=some (.inl ((i+1:Nat):Int)):=by
      simp only[F.UQ,j,al,bz hl,aa,z]
      rw[aC (by omega) (by omega)]
      rfl
     rw[bn this,ih (s.length - (i+1)) (by omega) (i+1) rfl (by omega),hd,Lib.validD_cons _ _ hc]
    ·have z:decide (s[i]<128)=false:=by simp only[iA,i6]; exact hc
     obtain⟨r,N,B⟩:=OV hs i hl (by omega)
     have O:s.drop i≠[]:=by rw[hd]; exact List.cons_ne_nil _ _
     have A:(s.drop i).getD 0 0=s[i]:=by rw[hd]; rfl
     have R:=Lib.validD_lead (s.drop i) O (by rw[A]; omega)
     rw[A]at R
     rw[R]
     split at B
     ·rename_i y
      rw[y]
      refine bD ?_
      have G:(r.2.2.2.1 != 0)=true:=by simpa using B
      simp only[F.UQ,j,al,bz hl,aa,z,ah,aj,N,G]
      rfl
     ·rename_i I y
      rw[y]
      obtain⟨V,X,h5,Y⟩:=B
      have G:(r.2.2.2.1 != 0)=false:=by simp[V]
      have:F.UQ s (i:Int)=some (.inl ((i+I:Nat):Int)):=by
       simp only[F.UQ,j,al,bz hl,aa,z,ah,aj,N,G,X]
       rfl
      rw[bn this,ih (s.length - (i+I)) (by omega) (i+I) rfl Y]
      simp only[fS]
   ·have U:i=s.length:=by omega
    have j:decide ((i:Int)<(s.length:Int))=false:=by simp; omega
    refine bD ?_
    simp only[F.UQ,j,ah,aj]
    rw[U,eH]
    rfl
 have:=J s.length 0 (by omega) (by omega)
 exact this
theorem ND (hs:s.length<=2000000):F.aab s=some (Lib.validD s):=by
 obtain⟨G,j⟩:=JO (s:=s) hs
 obtain⟨w2,k⟩:=IQ (s:=s) hs
 have hp:F.aaS 5 [] s false 0 0=some (Lib.validD s):=by
  simp only[F.aaS,F.Wf,F.aaP,j,k,Hj hs,aa]
  rfl
 have y:F.aad []=some true:=by
  have:=Hj (s:=[]) (by simp)
  rw[this]; rfl
 unfold F.aab F.abQ F.abJ
 have z:F.Xs 64 [(5,[],s,false,0,0)] 0 false 0=some (if Lib.validD s=true then 1 else -1):=by
  rw[F.Xs]
  unfold F.abG
  have A:decide (((([(5,[],s,false,0,0)]:List (Int×L01×L01×Bool×Int×Int)).length:Nat):Int)<=0)=false:=by simp
  have B:aw ([(5,[],s,false,0,0)]:List (Int×L01×L01×Bool×Int×Int)) (0:Int)=some (5,[],s,false,0,0):=pJ _ _
  simp only[A,ah,aj,B,aa,hp,y]
  cases Lib.validD s
  ·rfl
  ·have hL:loop (F.abO [(5,[],s,false,0,0)] 0 (F.Xs 63) (5,[],s,false,0,0)) (wI (0+1),[],0)=some 1:=by
    refine bD ?_
    rfl
   show F.Uz 0 [(5,[],s,false,0,0)] 0 (F.Xs 63) (5,[],s,false,0,0) false=_
   unfold F.Uz
   rw[ae (by simp),hL]
   rfl
 rw[z]
 cases Lib.validD s <;> rfl
end
theorem yq {τ:Type} [BEq τ] [LawfulBEq τ] {f:Int->Option (Int⊕Bool)} {a b:List τ} (hl:a.length=b.length)
  (j:∀(i:Nat) (h:i<a.length),f (i:Int)=if (a[i] != b[i])=true then some (.inr false) else some (.inl ((i+1:Nat):Int))) (y:f (a.length:Int)=some (.inr true)):loop f 0=some (a == b):=by
 have z:∀k i,a.length - i=k->i<=a.length->loop f (i:Int)=some (a.drop i == b.drop i):=by
  intro k
  induction k with
  | zero=>
   intro i B G
   have hi:i=a.length:=by omega
   subst hi
   rw[bD y]
   simp[gE,hl]
  | succ k ih=>
   intro i B G
   have A:i<a.length:=by omega
   have I:i<b.length:=by omega
   have hs:=j i A
   rw[aS A,aS I]
   by_cases he:(a[i] != b[i])=true
   ·rw[ag he]at hs
    rw[bD hs]
    have:(a[i] == b[i])=false:=by simpa [bne] using he
    simp only[List.cons_beq_cons,this,ee]
   ·rw[ae he]at hs
    rw[bn hs,ih (i+1) (by omega) (by omega)]
    have:(a[i] == b[i])=true:=by simpa [bne] using he
    simp only[List.cons_beq_cons,this,dP]
 have:=z a.length 0 (by omega) (by omega)
 simpa using this
theorem ux (a b:L01) (ha:a.length<9223372036854775807):F.Yw a b=some (a == b):=by
 unfold F.Yw
 by_cases hl:a.length=b.length
 ·have j:((a.length:Int) != (b.length:Int))=false:=by simp[hl]
  simp only[j,ah,aj]
  refine yq hl (fun i h=>?_) ?_
  ·have k:decide ((i:Int)<(a.length:Int))=true:=by simp; omega
   simp only[F.aaY,k,al,bz h,bz (show i<b.length by omega),aa]
   rw[aC (by omega) (by omega)]
   rfl
  ·have k:decide ((a.length:Int)<(a.length:Int))=false:=by simp
   simp only[F.aaY,k,ah,aj]
   rfl
 ·have j:((a.length:Int) != (b.length:Int))=true:=by simp; omega
  simp only[j,al]
  congr 1
  symm
  rw[cR]
  rintro rfl
  exact hl rfl
theorem J4 (a b:List It) (ha:a.length<9223372036854775807):F.abB a b=some (a == b):=by
 unfold F.abB
 by_cases hl:a.length=b.length
 ·have j:((a.length:Int) != (b.length:Int))=false:=by simp[hl]
  simp only[j,ah,aj]
  refine yq hl (fun i h=>?_) ?_
  ·have k:decide ((i:Int)<(a.length:Int))=true:=by simp; omega
   simp only[F.abs,k,al,bz h,bz (show i<b.length by omega),aa]
   rw[aC (by omega) (by omega)]
   rfl
  ·have k:decide ((a.length:Int)<(a.length:Int))=false:=by simp
   simp only[F.abs,k,ah,aj]
   rfl
 ·have j:((a.length:Int) != (b.length:Int))=true:=by simp; omega
  simp only[j,al]
  congr 1
  symm
  rw[cR]
  rintro rfl
  exact hl rfl
theorem oP:∀(k:Nat) (n:UInt64),(be k n).length=k
 | 0,_=>rfl
 | k+1,n=>by simp[be,oP k n]
theorem AV (n:UInt64):wd n=0\/wd n=1\/wd n=2\/wd n=4\/wd n=8:=by
 unfold wd
 repeat' split
 all_goals simp
theorem wd0 {n:UInt64} (h:wd n=0):n.toNat<24:=by
 unfold wd at h
 repeat' split at h
 all_goals first | omega | (rename_i j; simpa [bh] using j)
theorem Ok (m:Nat) (n:UInt64):(hd m n).length=1+wd n:=by
 unfold hd; split
 ·simp; omega
 ·simp[oP]; omega
theorem kB (m:Nat) (n:UInt64):(hd m n).length<=9:=by have:=Ok m n; have:=Qw n; omega
theorem Eh {n:UInt64} (h:n.toNat<24):∃k:Fin 24,n=UInt64.ofNat k.val:=⟨⟨n.toNat,h⟩,by simp⟩
theorem Gw (x:UInt64):(x &&& 255).toUInt8=x.toUInt8:=by
 apply dz.1
 have:=uG x.toNat 8
 simp only[ic,jh]
 simp at this
 simp[this]
theorem Ri (k:Nat) (h:k<=8):(UInt64.ofInt (wI (8*(k:Int)))).toNat=8*k:=by
 rw[aC (by omega) (by omega),show (8*(k:Int))=((8*k:Nat):Int) by simp,gI]
 simp; omega
theorem Ij (f:L01×Int->Option ((L01×Int)⊕L01)) (n:UInt64) (y:∀j (x:Int),x<0->f (j,x)=some (.inr j))
  (z:∀j (k:Nat),k<=8->j.length<=20->f (j,(k:Int))=some (.inl (j++[(bb n (8*k)).toUInt8],(k:Int) - 1))) :
  ∀(k:Nat) (j:L01),k<=8->j.length+k<=20->loop f (j,(k:Int) - 1)=some (j++be k n)
 | 0,j,_,_=>by
  rw[bD (y j _ (by simp))]; simp[be]
 | k+1,j,h,h2=>by
  have e:((k+1:Nat):Int) - 1=(k:Int):=by simp
  rw[e,bn (z j k (by omega) (by omega)),Ij f n y z k _ (by omega) (by simp; omega)]
  simp[be]
theorem zu (n:UInt64) (k:Nat) (j:L01) (h:k<=8) (y:j.length+k<=20):loop (F.aaF n) (j,(k:Int) - 1)=some (j++be k n):=by
 refine Ij _ n (fun j x hx=>?_) (fun j k z ha=>?_) k j h y
 ·have:decide ((0:Int)<=x)=false:=by simp; omega
  simp only[F.aaF,this,ah,aj]; rfl
 ·have:decide ((0:Int)<=(k:Int))=true:=by simp
  simp only[F.aaF,this,al,Ri k z,Gw]
  rw[im (by simp; omega),aa,aC (by omega) (by omega)]; rfl
theorem G2:∀(m:Fin 8) (k:Fin 24),UInt8.ofInt (wI (32*(m.val:Int)))+(UInt64.ofNat k.val).toUInt8=UInt8.ofNat (32*m.val)+(UInt64.ofNat k.val).toUInt8:=by decide
theorem IT:∀(m:Fin 8) (k:Fin 24),(UInt8.ofInt (gU (m.val:Int) 5)) ||| (UInt64.ofNat k.val).toUInt8=UInt8.ofNat (32*m.val)+(UInt64.ofNat k.val).toUInt8:=by decide
theorem pt:∀(m:Fin 8) (g:Fin 4),UInt8.ofInt (wI (wI (32*(m.val:Int))+(24+(g.val:Int))))=UInt8.ofNat (32*m.val+24+g.val):=by decide
theorem Kw:∀(m:Fin 8),(UInt8.ofInt (gU (m.val:Int) 5)) ||| 24=UInt8.ofNat (32*m.val+24+0):=by decide
theorem K0:∀(m:Fin 8),(UInt8.ofInt (gU (m.val:Int) 5)+1) ||| 24=UInt8.ofNat (32*m.val+24+1):=by decide
theorem KU:∀(m:Fin 8),(UInt8.ofInt (gU (m.val:Int) 5)+1+1) ||| 24=UInt8.ofNat (32*m.val+24+2):=by decide
theorem Kx:∀(m:Fin 8),(UInt8.ofInt (gU (m.val:Int) 5)+1+1+1) ||| 24=UInt8.ofNat (32*m.val+24+3):=by decide
theorem l8 (m:Nat) (y:m<8) (n:UInt64):F.W0 (m:Int) n=some (hd m n):=by
 unfold F.W0 hd
 rw[wz,aa]
 rcases AV n with h | h | h | h | h
 ·obtain⟨k,rfl⟩:=Eh (wd0 h)
  rw[h]
  simp only[show ((0:Nat):Int)=0 from rfl,d8,al]
  rw[show ((m:Int))=(((⟨m,y⟩:Fin 8).val:Nat):Int) from rfl,G2]
 ·rw[h]
  simp only[show ((1:Nat):Int)=1 from rfl,show ((1:Int) == 0)=false from rfl,ah,aj,show ¬(1=0) by omega]
  have j:F.TF (m:Int) 1 n (24,1)=some (.inr (UInt8.ofNat (32*m+24+0) :: be 1 n)):=by
   have:=zu n 1 [UInt8.ofInt (wI (wI (32*(m:Int))+24))] (by omega) (by simp)
   have e:=pt ⟨m,y⟩ 0
   simp only[F.TF,eE,dg,ah,aj]
   rw[show wI (1 - 1)=((1:Nat):Int) - 1 from rfl,this]
   simp only[show (24+(((0:Fin 4).val:Nat):Int))=24 from rfl]at e
   simp only[bc,e]; rfl
  rw[bD j]; rfl
 ·rw[h]
  simp only[show ((2:Nat):Int)=2 from rfl,show ((2:Int) == 0)=false from rfl,ah,aj,show ¬(2=0) by omega]
  have j:F.TF (m:Int) 2 n (24,1)=some (.inl (25,2)):=rfl
  have z:F.TF (m:Int) 2 n (25,2)=some (.inr (UInt8.ofNat (32*m+24+1) :: be 2 n)):=by
   have:=zu n 2 [UInt8.ofInt (wI (wI (32*(m:Int))+25))] (by omega) (by simp)
   have e:=pt ⟨m,y⟩ 1
   simp only[F.TF,eE,dg,ah,aj]
   rw[show wI (2 - 1)=((2:Nat):Int) - 1 from rfl,this]
   simp only[show (24+(((1:Fin 4).val:Nat):Int))=25 from rfl]at e
   simp only[bc,e]; rfl
  rw[bn j,bD z]; rfl
 ·rw[h]
  simp only[show ((4:Nat):Int)=4 from rfl,show ((4:Int) == 0)=false from rfl,ah,aj,show ¬(4=0) by omega]
  have j:F.TF (m:Int) 4 n (24,1)=some (.inl (25,2)):=rfl
  have z:F.TF (m:Int) 4 n (25,2)=some (.inl (26,4)):=rfl
  have A:F.TF (m:Int) 4 n (26,4)=some (.inr (UInt8.ofNat (32*m+24+2) :: be 4 n)):=by
   have:=zu n 4 [UInt8.ofInt (wI (wI (32*(m:Int))+26))] (by omega) (by simp)
   have e:=pt ⟨m,y⟩ 2
   simp only[F.TF,eE,dg,ah,aj]
   rw[show wI (4 - 1)=((4:Nat):Int) - 1 from rfl,this]
   simp only[show (24+(((2:Fin 4).val:Nat):Int))=26 from rfl]at e
   simp only[bc,e]; rfl
  rw[bn j,bn z,bD A]; rfl
 ·rw[h]
  simp only[show ((8:Nat):Int)=8 from rfl,show ((8:Int) == 0)=false from rfl,ah,aj,show ¬(8=0) by omega]
  have j:F.TF (m:Int) 8 n (24,1)=some (.inl (25,2)):=rfl
  have z:F.TF (m:Int) 8 n (25,2)=some (.inl (26,4)):=rfl
  have A:F.TF (m:Int) 8 n (26,4)=some (.inl (27,8)):=rfl
  have B:F.TF (m:Int) 8 n (27,8)=some (.inr (UInt8.ofNat (32*m+24+3) :: be 8 n)):=by
   have:=zu n 8 [UInt8.ofInt (wI (wI (32*(m:Int))+27))] (by omega) (by simp)
   have e:=pt ⟨m,y⟩ 3
   simp only[F.TF,eE,dg,ah,aj]
   rw[show wI (8 - 1)=((8:Nat):Int) - 1 from rfl,this]
   simp only[show (24+(((3:Fin 4).val:Nat):Int))=27 from rfl]at e
   simp only[bc,e]; rfl
  rw[bn j,bn z,bn A,bD B]; rfl
theorem tm {τ:Type} {l:List τ} {i:Nat} (h:i<=l.length):drO l (i:Int)=some (l.drop i):=by
 unfold drO; rw[ag (by constructor <;> simp; exact h)]; simp
theorem LW (out:L01) (n:UInt64) (x:UInt8):F.To out n 2 (x,2)=bc (af (apO 1 out ((x ||| 24) :: be 2 n)) fun x=>some x):=by
 simp only[F.To,eE,dg,ah,aj]
 rw[show wI (1+2)=3 from rfl]
 rw[show mkO 1 (3) (3) (0:UInt8)=some [0,0,0] from by simp[mkO,List.replicate]]
 rw[aa,pJ,aa,aD,show (0:Int).toNat=0 from rfl,iJ]
 rw[show drO ((x ||| 24) :: [0,0]) (1:Int)=some [0,0] from by simp[drO],aa]
 rw[show wI (8 - 2)=((6:Nat):Int) from rfl,tm (by simp),aa,aD]
 rfl
theorem MN (out:L01) (n:UInt64) (x:UInt8):F.To out n 4 (x,4)=bc (af (apO 1 out ((x ||| 24) :: be 4 n)) fun x=>some x):=by
 simp only[F.To,eE,dg,ah,aj]
 rw[show wI (1+4)=5 from rfl]
 rw[show mkO 1 (5) (5) (0:UInt8)=some [0,0,0,0,0] from by simp[mkO,List.replicate]]
 rw[aa,pJ,aa,aD,show (0:Int).toNat=0 from rfl,iJ]
 rw[show drO ((x ||| 24) :: [0,0,0,0]) (1:Int)=some [0,0,0,0] from by simp[drO],aa]
 rw[show wI (8 - 4)=((4:Nat):Int) from rfl,tm (by simp),aa,aD]
 rfl
theorem Ma (out:L01) (n:UInt64) (x:UInt8):F.To out n 8 (x,8)=bc (af (apO 1 out ((x ||| 24) :: be 8 n)) fun x=>some x):=by
 simp only[F.To,eE,dg,ah,aj]
 rw[show wI (1+8)=9 from rfl]
 rw[show mkO 1 (9) (9) (0:UInt8)=some [0,0,0,0,0,0,0,0,0] from by simp[mkO,List.replicate]]
 rw[aa,pJ,aa,aD,show (0:Int).toNat=0 from rfl,iJ]
 rw[show drO ((x ||| 24) :: [0,0,0,0,0,0,0,0]) (1:Int)=some [0,0,0,0,0,0,0,0] from by simp[drO],aa]
 rw[show wI (8 - 8)=((0:Nat):Int) from rfl,tm (by simp),aa,aD]
 rfl
theorem CZ (out:L01) (m:Nat) (j:m<8) (n:UInt64) (G:out.length<=200000000000000):F.Yc out (m:Int) n=some (out++hd m n):=by
 unfold F.Yc hd
 rw[A1,aa]
 rcases AV n with h | h | h | h | h
 ·obtain⟨k,rfl⟩:=Eh (wd0 h)
  rw[h]
  simp only[show ((0:Nat):Int)=0 from rfl,d8,al]
  rw[im (by simp; omega),aa,show ((m:Int))=(((⟨m,j⟩:Fin 8).val:Nat):Int) from rfl,IT]
 ·rw[h]
  have e:=Kw ⟨m,j⟩
  simp only at e
  simp only[show ((1:Nat):Int)=1 from rfl,show ((1:Int) == 0)=false from rfl,d8,al,ah,aj,show ¬(1=0) by omega,aD,e]
  rw[im (by simp; omega),aa]
  simp[be,lg,bb]
 ·rw[h]
  simp only[show ((2:Nat):Int)=2 from rfl,show ((2:Int) == 0)=false from rfl,show ((2:Int) == 1)=false from rfl,ah,aj,show ¬(2=0) by omega]
  have y:F.To out n 2 (UInt8.ofInt (gU (m:Int) 5),1)=some (.inl (UInt8.ofInt (gU (m:Int) 5)+1,2)):=rfl
  have z:F.To out n 2 (UInt8.ofInt (gU (m:Int) 5)+1,2)=some (.inr (out++UInt8.ofNat (32*m+24+1) :: be 2 n)):=by
   have e:=K0 ⟨m,j⟩
   simp only at e
   rw[LW,e,im (by simp[oP]; omega)]; rfl
  rw[bn y,bD z]; rfl
 ·rw[h]
  simp only[show ((4:Nat):Int)=4 from rfl,show ((4:Int) == 0)=false from rfl,show ((4:Int) == 1)=false from rfl,ah,aj,show ¬(4=0) by omega]
  have y:F.To out n 4 (UInt8.ofInt (gU (m:Int) 5),1)=some (.inl (UInt8.ofInt (gU (m:Int) 5)+1,2)):=rfl
  have z:F.To out n 4 (UInt8.ofInt (gU (m:Int) 5)+1,2)=some (.inl (UInt8.ofInt (gU (m:Int) 5)+1+1,4)):=rfl
  have A:F.To out n 4 (UInt8.ofInt (gU (m:Int) 5)+1+1,4)=some (.inr (out++UInt8.ofNat (32*m+24+2) :: be 4 n)):=by
   have e:=KU ⟨m,j⟩
   simp only at e
   rw[MN,e,im (by simp[oP]; omega)]; rfl
  rw[bn y,bn z,bD A]; rfl
 ·rw[h]
  simp only[show ((8:Nat):Int)=8 from rfl,show ((8:Int) == 0)=false from rfl,show ((8:Int) == 1)=false from rfl,ah,aj,show ¬(8=0) by omega]
  have y:F.To out n 8 (UInt8.ofInt (gU (m:Int) 5),1)=some (.inl (UInt8.ofInt (gU (m:Int) 5)+1,2)):=rfl
  have z:F.To out n 8 (UInt8.ofInt (gU (m:Int) 5)+1,2)=some (.inl (UInt8.ofInt (gU (m:Int) 5)+1+1,4)):=rfl
  have A:F.To out n 8 (UInt8.ofInt (gU (m:Int) 5)+1+1,4)=some (.inl (UInt8.ofInt (gU (m:Int) 5)+1+1+1,8)):=rfl
  have B:F.To out n 8 (UInt8.ofInt (gU (m:Int) 5)+1+1+1,8)=some (.inr (out++UInt8.ofNat (32*m+24+3) :: be 8 n)):=by
   have e:=Kx ⟨m,j⟩
   simp only at e
   rw[Ma,e,im (by simp[oP]; omega)]; rfl
  rw[bn y,bn z,bn A,bD B]; rfl
abbrev Wr:=Nat->Option (L01×Nat)
def cQ (rec:Wr) (pr:Bool):Nat->Bool->Option L01->Wr
 | 0,_,_,i=>some ([],i)
 | r+1,key,last,i=>match rec i with
  | none=>none
  | some (t,j)=>
   if (pr&&key&&!jL last t)=true then none
   else match cQ rec pr r (!key) (if (pr&&key)=true then some t else last) j with
    | none=>none
    | some (u,k)=>some (t++u,k)
def bZ (x:It):Prop:=
 if x.1=0\/x.1=1 then x.2.2.1=[]/\x.2.2.2=0
 else if x.1=2 then x.2.1=0/\x.2.2.2=0
 else if x.1=3 then x.2.1=0/\x.2.2.2=0/\Lib.validD x.2.2.1=true
 else if x.1=4 then x.2.1=0/\x.2.2.1=[]/\0<=x.2.2.2
 else if x.1=5 then x.2.1=0/\x.2.2.1=[]/\0<=x.2.2.2/\x.2.2.2%2=0
 else if x.1=6 then x.2.2.1=[]/\x.2.2.2=1
 else if x.1=7 then x.2.2.1=[]/\x.2.2.2=0/\20<=x.2.1.toNat/\x.2.1.toNat<=22
 else False
instance (x:It):Decidable (bZ x):=by unfold bZ; infer_instance
def eZ (x:It):UInt64:=
 if x.1=2\/x.1=3 then UInt64.ofNat x.2.2.1.length else if x.1=4 then UInt64.ofInt x.2.2.2 else if x.1=5 then UInt64.ofInt (x.2.2.2 / 2) else x.2.1
def fW (v:List It) (sub:Option Wr):Wr:=fun i=>match v[i]? with
 | none=>none
 | some x=>
  if ¬bZ x then none
  else if x.1=4\/x.1=5\/x.1=6 then match sub with
   | none=>none
   | some rec=>match cQ rec (x.1 == 5) x.2.2.2.toNat true none (i+1) with
    | none=>none
    | some (t,j)=>some (hd x.1.toNat (eZ x)++t,j)
  else some (hd x.1.toNat (eZ x)++x.2.2.1,i+1)
def cq:Nat->List It->Wr
 | 0,v=>fW v none
 | d+1,v=>fW v (some (cq d v))
def wt:List It->Nat
 | []=>0
 | x :: r=>9+x.2.2.1.length+wt r
theorem wX {v:List It} {i:Nat} (h:i<v.length):wt (v.drop i)=9+v[i].2.2.1.length+wt (v.drop (i+1)):=by
 rw[aS h]; rfl
def Put (v:List It) (rec:Wr):Prop:=∀i t j,rec i=some (t,j)->i<j/\j<=v.length/\t.length+wt (v.drop j)<=wt (v.drop i)
theorem nZ {v:List It} {rec:Wr} (h:Put v rec) (z:Bool):∀(r:Nat) (y:Bool) (last:Option L01) (i:Nat) (t:L01) (j:Nat),i<=v.length ->
  cQ rec z r y last i=some (t,j)->i+r<=j/\j<=v.length/\t.length+wt (v.drop j)<=wt (v.drop i)
 | 0,y,last,i,t,j,hi,h1=>by
  simp only[cQ]at h1; cases h1; simp; exact hi
 | r+1,y,last,i,t,j,hi,h1=>by
  simp only[cQ]at h1
  cases h2:rec i with
  | none=>rw[h2]at h1; cases h1
  | some a=>
   obtain⟨B,A⟩:=a
   rw[h2]at h1
   simp only at h1
   obtain⟨I,G,J⟩:=h i B A h2
   split at h1
   ·cases h1
   ·cases h6:cQ rec z r (!y) (if (z&&y)=true then some B else last) A with
    | none=>rw[h6]at h1; cases h1
    | some b=>
     obtain⟨u,k⟩:=b
     rw[h6]at h1
     simp only at h1
     cases h1
     have:=nZ h z r _ _ A u j G h6
     simp only[aQ]; omega
theorem yp {v:List It} {sub:Option Wr} (h:∀rec,sub=some rec->Put v rec):Put v (fW v sub):=by
 intro i t j k
 unfold fW at k
 split at k
 ·cases k
 ·rename_i x hx
  obtain⟨hi,rfl⟩:=aP.1 hx
  have hw:=wX hi
  have z:=kB v[i].1.toNat (eZ v[i])
  split at k
  ·cases k
  ·split at k
   ·cases sub with
    | none=>cases k
    | some rec=>
     simp only at k
     split at k
     ·cases k
     ·rename_i A B y
      cases k
      have:=nZ (h rec rfl) _ _ _ _ _ _ _ (by omega) y
      simp only[aQ]; omega
   ·cases k
    simp only[aQ]; omega
theorem ip (v:List It):∀d,Put v (cq d v)
 | 0=>yp (by simp)
 | d+1=>yp (by intro rec h; cases h; exact ip v d)
def dV (out:L01):Option (L01×Nat)->L01×Int
 | none=>([],-1)
 | some (t,j)=>(out++t,(j:Int))
def Be (v:List It) (rc:L01->List It->Int->Int->Option (L01×Int)) (w:Int) (rec:Wr):Prop:=
 ∀(out:L01) (i:Nat),i<=v.length->out.length+wt (v.drop i)<=4000000000000->rc out v (i:Int) w=some (dV out (rec i))
theorem KC (l:L01) (h:l.length<=4000000000000):F.Zl l=some l:=by
 unfold F.Zl
 rw[im (by simp; omega)]; rfl
theorem zF (i:Nat):(Int.tmod (i:Int) 2 == 0)=decide (i%2=0):=by
 have:Int.tmod (i:Int) 2=((i%2:Nat):Int):=by
  rw[cn (by omega)]; simp
 rw[this]
 rcases gM i with h | h <;> simp[h]
section
variable {v:List It} {rc:L01->List It->Int->Int->Option (L01×Int)} {w:Int} {rec:Wr}
theorem Mh (hv:v.length<=4000000000000) (hm:Put v rec) (ab:Be v rc (wI (w+1)) rec) (x:It) (hx:x.2.2.2<=9223372036854775807) :
  ∀(r i:Nat) (out last:L01) (L:Option L01) (a:Nat),((i+r:Nat):Int)=x.2.2.2->a<=v.length->out.length+wt (v.drop a)<=4000000000000->last.length<=out.length ->
   ((x.1 == 5)=true->(i=0/\L=none\/0<i/\L=some last)) ->
   loop (F.Ua v w rc x) (out,(a:Int),last,(i:Int))=some (dV out (cQ rec (x.1 == 5) r (decide (i%2=0)) L a)):=by
 intro r
 induction r with
 | zero=>
  intro i out last L a h1 h2 h3 h4 Y
  refine bD ?_
  have:decide ((i:Int)<x.2.2.2)=false:=by simp; omega
  simp only[F.Ua,this,ah,aj,cQ,dV,bP]
  rfl
 | succ r ih=>
  intro i out last L a h1 h2 h3 h4 Y
  have O:decide ((i:Int)<x.2.2.2)=true:=by simp; omega
  have G:wI ((i:Int)+1)=((i+1:Nat):Int):=by rw[aC (by omega) (by omega)]; simp
  have R:(!decide (i%2=0))=decide ((i+1)%2=0):=by
   rcases gM i with h | h
   ·have:(i+1)%2=1:=by omega
    simp[h,this]
   ·have:(i+1)%2=0:=by omega
    simp[h,this]
  simp only[cQ]
  have J:=ab out a h2 h3
  cases hx1:rec a with
  | none=>
   rw[hx1]at J
   refine bD ?_
   simp only[F.Ua,O,al,J,aa,dV]
   rfl
  | some y=>
   obtain⟨t,j⟩:=y
   rw[hx1]at J
   simp only[dV]at J
   obtain⟨h6,h7,h8⟩:=hm a t j hx1
   have hj:decide ((j:Int)<0)=false:=by simp
   simp only
   have hT:t.length<=4000000000000:=by omega
   have b3:last.length<=4000000000000:=by omega
   have step:(x.1 == 5&&decide (i%2=0))=false->F.Ua v w rc x (out,(a:Int),last,(i:Int))=some (.inl (out++t,(j:Int),last,((i+1:Nat):Int))):=by
    intro N
    rw[Bool.and_eq_false_iff]at N
    simp only[F.Ua,O,al,J,aa,hj,ah,aj]
    rcases N with N | N
    ·simp only[N,ah,aj,F.Vb,F.U5,G]; rfl
    ·split
     ·simp only[zF,N,ah,aj,F.Vb,F.U5,G]; rfl
     ·simp only[ah,aj,F.Vb,F.U5,G]; rfl
   by_cases hpk:(x.1 == 5&&decide (i%2=0))=true
   ·rw[aK]at hpk
    obtain⟨I,U⟩:=hpk
    simp only[I,U,Bool.and_self,dP,al]
    have b2:drO (out++t) ((out.length:Int))=some t:=by rw[tm (by simp)]; simp
    have V:∀q,(q=true->jL L t=false)->(q=false->jL L t=true)->F.VF (out++t,(j:Int)) t (i:Int) q =
      some (if q=true then .inr ([],-1) else .inl (out++t,(j:Int),t,((i+1:Nat):Int))):=by
     intro q _ _
     cases q
     ·simp only[F.VF,ah,aj,KC t hT,aa,F.U5,G]; rfl
     ·simp only[F.VF,al]; rfl
    have A:F.Ua v w rc x (out,(a:Int),last,(i:Int))=some (if jL L t=false then .inr ([],-1) else .inl (out++t,(j:Int),t,((i+1:Nat):Int))):=by
     simp only[F.Ua,O,al,J,aa,hj,ah,aj,I,zF,U,F.Vb,b2]
     rcases Y I with⟨rfl,rfl⟩ | ⟨Z,rfl⟩
     ·simp only[show (decide ((0:Int)<((0:Nat):Int)))=false from rfl,ah,aj]
      rw[V false (by simp) (by simp[jL])]
      simp[jL]
     ·have:decide ((0:Int)<(i:Int))=true:=by simp; omega
      simp only[this,al,vL last t (by omega),aa,t7]
      rw[V _ (by simp[jL]) (by simp[jL])]
      cases hlx:jV last t <;> simp[jL,hlx]
    cases hko:jL L t
    ·rw[hko]at A
     simp only[al]at A
     rw[bD A]
     simp[dV]
    ·rw[hko]at A
     simp only[Bool.true_eq_false,aj]at A
     rw[bn A]
     simp only[cF,ah,aj]
     rw[ih (i+1) (out++t) t (some t) j (by omega) h7 (by simp; omega) (by simp) (fun _=>.inr ⟨by omega,rfl⟩),<-R,U]
     simp only[I,cF]
     cases cQ rec true r false (some t) j with
     | none=>rfl
     | some z=>obtain⟨u,k⟩:=z; simp[dV]
   ·have B:(x.1 == 5&&decide (i%2=0))=false:=by simpa using hpk
    rw[bn (step B)]
    simp only[B,ee,ah,aj]
    rw[ih (i+1) (out++t) last L j (by omega) h7 (by simp; omega) (by simp; omega) ?_,<-R]
    ·cases cQ rec (x.1 == 5) r (!decide (i%2=0)) L j with
     | none=>rfl
     | some z=>obtain⟨u,k⟩:=z; simp[dV]
    ·intro X
     rcases Y X with⟨rfl,rfl⟩ | ⟨Z,rfl⟩
     ·exfalso; rw[X]at B; simp at B
     ·exact .inr ⟨by omega,rfl⟩
theorem qJ (G:v.length<=4000000000000) (x:It) (m:Nat) (A:m<8) (y:x.1=(m:Int)) (n:UInt64) (out:L01) (a:Nat) (ha:a<v.length) (B:v[a]=x) (I:out.length+wt (v.drop a)<=4000000000000)
  (hx:x.2.2.2<=9223372036854775807) (N:0<=x.2.2.2) (k:x.2.2.2=0\/Put v rec/\Be v rc (wI (w+1)) rec) :
  F.Uh out (a:Int) x n v w rc false=some (dV out (match cQ rec (x.1 == 5) x.2.2.2.toNat true none (a+1) with
   | none=>none
   | some (t,j)=>some (hd m n++x.2.2.1++t,j))):=by
 have hw:=wX ha
 have hh:=kB m n
 rw[B]at hw
 unfold F.Uh
 simp only[ah,aj]
 rw[y,CZ out m A n (by omega),aa,im (by simp; omega),aa,aC (by omega) (by omega)]
 rcases k with k | ⟨hp,J⟩
 ·rw[k]
  refine bD ?_
  simp only[F.Ua,k,eE,dg,ah,aj,Int.toNat_zero,cQ,dV]
  simp only[bc,bO,aN,bP]
  rfl
 ·have:=Mh G hp J x hx x.2.2.2.toNat 0 (out++hd m n++x.2.2.1) [] none (a+1) (by omega) (by omega) (by simp; omega) (by simp) (fun _=>.inl ⟨rfl,rfl⟩)
  rw[show ((a:Int)+1)=((a+1:Nat):Int) by simp,show (0:Int)=((0:Nat):Int) from rfl,this,<-y]
  simp only[jB,gp]
  cases cQ rec (x.1 == 5) x.2.2.2.toNat true none (a+1) with
  | none=>rfl
  | some z=>obtain⟨t,j⟩:=z; simp[dV]
theorem pT (m:Int):m<0\/7<m\/m=0\/m=1\/m=2\/m=3\/m=4\/m=5\/m=6\/m=7:=by omega
end
theorem wa {v:List It} {rc:L01->List It->Int->Int->Option (L01×Int)} {w:Nat} {sub:Option Wr} (hv:v.length<=4000000000000) (hI:∀x∈v,x.2.2.2<=9223372036854775807)
  (c0:w<=32) (G:sub=none↔w=32) (z:∀rec,sub=some rec->Put v rec/\Be v rc ((w+1:Nat):Int) rec) :
  Be v (F.Yr rc) (w:Int) (fW v sub):=by
 intro out a h1 h2
 unfold F.Yr fW
 rcases bX a v.length with A | cf
 ·have d1:decide ((v.length:Int)<=(a:Int))=false:=by simp; omega
  simp only[d1,ah,aj,bz A,aa,av A]
  have hx:=hI v[a] (cV A)
  have c1:v[a]=v[a]:=rfl
  generalize J:v[a]=x at hx
  obtain⟨m,n,d,k⟩:=x
  simp only at hx
  have c2:d.length<=4000000000000:=by have:=wX A; rw[J]at this; simp only at this; omega
  have R:wI ((w:Int)+1)=((w+1:Nat):Int):=by rw[aC (by omega) (by omega)]; simp
  have U:∀(rec:Wr) (V:Nat) (bx:V<8) (b2:m=(V:Int)) (nn:UInt64) (B:k=0),F.Uh out (a:Int) (m,n,d,k) nn v (w:Int) rc false=some (dV out (some (hd V nn++d,a+1))):=by
   intro rec V bx b2 nn B
   have:=qJ (w:=(w:Int)) (rc:=rc) (rec:=rec) hv (m,n,d,k) V bx b2 nn out a A J h2 hx (by simp only; omega) (.inl B)
   simpa [B,cQ] using this
  have y:Wr:=fun _=>none
  have c3:∀{m:Int},(m=5)=((m == 5)=true):=by simp
  rcases pT m with hm | hm | rfl | rfl | rfl | rfl | rfl | rfl | rfl | rfl
  ·have e2:(m == 2)=false:=by simp; omega
   have e3:(m == 3)=false:=by simp; omega
   have l0:decide (m<0)=true:=by simp; omega
   have O:decide (m<2)=true:=by simp; omega
   have l7:decide ((7:Int)<m)=false:=by simp; omega
   have hf:¬bZ (m,n,d,k):=by
    unfold bZ
    simp only
    rw[ae (by omega),ae (by omega),ae (by omega),ae (by omega),ae (by omega),ae (by omega),ae (by omega)]; simp
   rw[ag hf]
   simp only[e2,e3,l0,O,l7,ah,aj,al,F.S2,F.SZ,aD,iM,dV]
  ·have e2:(m == 2)=false:=by simp; omega
   have e3:(m == 3)=false:=by simp; omega
   have l0:decide (m<0)=false:=by simp; omega
   have O:decide (m<2)=false:=by simp; omega
   have l7:decide ((7:Int)<m)=true:=by simp; omega
   have hf:¬bZ (m,n,d,k):=by
    unfold bZ
    simp only
    rw[ae (by omega),ae (by omega),ae (by omega),ae (by omega),ae (by omega),ae (by omega),ae (by omega)]; simp
   rw[ag hf]
   simp only[e2,e3,l0,O,l7,ah,aj,al,F.S2,F.SZ,aD,iM,dV]
  ·rw[ae (show ¬(((0:Int)=4)\/((0:Int)=5)\/((0:Int)=6)) by decide)]
   by_cases hg:d=[]/\k=0
   ·obtain⟨rfl,rfl⟩:=hg
    have K:=U y 0 (by omega) rfl n rfl
    simp[F.S2,F.SZ,F.S4,F.Tp,F.Ts,F.Tn,bZ,eZ,aD,K]
   ·by_cases hd:d=[] <;> by_cases hn:n=0 <;> by_cases B:k=0 <;> by_cases j:k<0 <;> (try omega) <;>  simp_all [F.S2,F.SZ,F.S4,F.Tp,F.Ts,F.Tn,bZ,eZ,aD,dV]
  ·rw[ae (show ¬(((1:Int)=4)\/((1:Int)=5)\/((1:Int)=6)) by decide)]
   by_cases hg:d=[]/\k=0
   ·obtain⟨rfl,rfl⟩:=hg
    have K:=U y 1 (by omega) rfl n rfl
    simp[F.S2,F.SZ,F.S4,F.Tp,F.Ts,F.Tn,bZ,eZ,aD,K]
   ·by_cases hd:d=[] <;> by_cases hn:n=0 <;> by_cases B:k=0 <;> by_cases j:k<0 <;> (try omega) <;>  simp_all [F.S2,F.SZ,F.S4,F.Tp,F.Ts,F.Tn,bZ,eZ,aD,dV]
  ·rw[ae (show ¬(((2:Int)=4)\/((2:Int)=5)\/((2:Int)=6)) by decide)]
   by_cases hg:n=0/\k=0
   ·obtain⟨rfl,rfl⟩:=hg
    have K:=U y 2 (by omega) rfl (UInt64.ofNat d.length) rfl
    simp[F.S2,F.SZ,F.S4,F.Tp,F.Ts,bZ,eZ,aD,gI,K]
   ·by_cases hd:d=[] <;> by_cases hn:n=0 <;> by_cases B:k=0 <;> by_cases j:k<0 <;> (try omega) <;>  simp_all [F.S2,F.SZ,F.S4,F.Tp,F.Ts,F.Tn,bZ,eZ,aD,dV]
  ·rw[ae (show ¬(((3:Int)=4)\/((3:Int)=5)\/((3:Int)=6)) by decide)]
   by_cases hg:n=0/\k=0/\Lib.validD d=true
   ·obtain⟨rfl,rfl,hu⟩:=hg
    have X:F.Tn d=some true:=by unfold F.Tn; rw[ag (by omega),hu]
    have K:=U y 3 (by omega) rfl (UInt64.ofNat d.length) rfl
    simp[F.S2,F.SZ,F.S4,F.Tp,F.Ts,bZ,eZ,aD,gI,X,aa,hu,K]
   ·have X:F.Tn d=some (Lib.validD d):=by unfold F.Tn; rw[ag (by omega)]
    by_cases hu:Lib.validD d=true <;> by_cases hd:d=[] <;> by_cases hn:n=0 <;> by_cases B:k=0 <;> by_cases j:k<0 <;> (try omega) <;>  simp_all [F.S2,F.SZ,F.S4,F.Tp,F.Ts,X,aa,bZ,eZ,aD,dV]
  ·by_cases hg:n=0/\d=[]/\0<=k
   ·obtain⟨rfl,rfl,I⟩:=hg
    have j:¬k<0:=by omega
    have hf:bZ (4,0,[],k):=by simp[bZ,I]
    rw[ae (show ¬¬bZ (4,0,[],k) from fun h=>h hf),ag (show (4:Int)=4\/(4:Int)=5\/(4:Int)=6 by decide)]
    have Y:eZ (4,0,[],k)=(UInt64.ofInt k):=by simp[eZ]
    rw[Y]
    cases hs:sub with
    | none=>
     have hw:=G.1 hs
     subst hw
     simp[F.S2,F.SZ,F.S4,F.Uh,aD,j,dV]
    | some rec=>
     have hw:w≠32:=fun h=>by have:=G.2 h; rw[hs]at this; cases this
     have N:((w:Int) == 32)=false:=by simp; omega
     have K:=qJ (w:=(w:Int)) (rc:=rc) (rec:=rec) hv (4,0,[],k) 4 (by omega) rfl (UInt64.ofInt k) out a A J h2 hx I (.inr ⟨(z rec hs).1,by rw[R]; exact (z rec hs).2⟩)
     simp only[bP]at K
     simp[F.S2,F.SZ,F.S4,aD,j,N]
     exact K
   ·have hf:¬bZ (4,n,d,k):=by simpa [bZ] using hg
    rw[ag hf]
    by_cases hd:d=[] <;> by_cases hn:n=0 <;> by_cases B:k=0 <;> by_cases j:k<0 <;> (try omega) <;>  simp_all [F.S2,F.SZ,F.S4,F.Tp,F.Ts,F.Tn,bZ,eZ,aD,dV]
  ·by_cases hg:n=0/\d=[]/\0<=k/\k%2=0
   ·obtain⟨rfl,rfl,I,b3⟩:=hg
    have Z:Int.tmod k 2=0:=by rw[cn I]; exact b3
    have ab:wI (Int.tdiv k 2)=k / 2:=by rw[bJ I,aC (by omega) (by omega)]
    have j:¬k<0:=by omega
    have hf:bZ (5,0,[],k):=by simp[bZ,I,b3]
    rw[ae (show ¬¬bZ (5,0,[],k) from fun h=>h hf),ag (show (5:Int)=4\/(5:Int)=5\/(5:Int)=6 by decide)]
    have Y:eZ (5,0,[],k)=(UInt64.ofInt (k / 2)):=by simp[eZ]
    rw[Y]
    cases hs:sub with
    | none=>
     have hw:=G.1 hs
     subst hw
     simp[F.S2,F.SZ,F.S4,F.Uh,aD,j,dV,Z,ab]
    | some rec=>
     have hw:w≠32:=fun h=>by have:=G.2 h; rw[hs]at this; cases this
     have N:((w:Int) == 32)=false:=by simp; omega
     have K:=qJ (w:=(w:Int)) (rc:=rc) (rec:=rec) hv (5,0,[],k) 5 (by omega) rfl (UInt64.ofInt (k / 2)) out a A J h2 hx I (.inr ⟨(z rec hs).1,by rw[R]; exact (z rec hs).2⟩)
     simp only[bP]at K
     simp[F.S2,F.SZ,F.S4,aD,j,N,Z,ab]
     exact K
   ·have hf:¬bZ (5,n,d,k):=by simpa [bZ] using hg
    rw[ag hf]
    have hq:0<=k->Int.tmod k 2=k%2:=fun h=>cn h
    by_cases hd:d=[] <;> by_cases hn:n=0 <;> by_cases B:k=0 <;> by_cases j:k<0 <;> (try omega) <;>  simp_all [F.S2,F.SZ,F.S4,F.Tp,F.Ts,F.Tn,bZ,eZ,aD,dV]
  ·by_cases hg:d=[]/\k=1
   ·obtain⟨rfl,rfl⟩:=hg
    have I:(0:Int)<=1:=by omega
    have hf:bZ (6,n,[],1):=by simp[bZ]
    rw[ae (show ¬¬bZ (6,n,[],1) from fun h=>h hf),ag (show (6:Int)=4\/(6:Int)=5\/(6:Int)=6 by decide)]
    have Y:eZ (6,n,[],1)=n:=by simp[eZ]
    rw[Y]
    cases hs:sub with
    | none=>
     have hw:=G.1 hs
     subst hw
     simp[F.S2,F.SZ,F.S4,F.Uh,aD,dV]
    | some rec=>
     have hw:w≠32:=fun h=>by have:=G.2 h; rw[hs]at this; cases this
     have N:((w:Int) == 32)=false:=by simp; omega
     have K:=qJ (w:=(w:Int)) (rc:=rc) (rec:=rec) hv (6,n,[],1) 6 (by omega) rfl n out a A J h2 hx I (.inr ⟨(z rec hs).1,by rw[R]; exact (z rec hs).2⟩)
     simp only[bP]at K
     simp[F.S2,F.SZ,F.S4,aD,N]
     exact K
   ·have hf:¬bZ (6,n,d,k):=by simpa [bZ] using hg
    rw[ag hf]
    by_cases hd:d=[] <;> by_cases hn:n=0 <;> by_cases B:k=0 <;> by_cases j:k<0 <;> (try omega) <;>  simp_all [F.S2,F.SZ,F.S4,F.Tp,F.Ts,F.Tn,bZ,eZ,aD,dV]
  ·rw[ae (show ¬(((7:Int)=4)\/((7:Int)=5)\/((7:Int)=6)) by decide)]
   by_cases hg:d=[]/\k=0/\20<=n.toNat/\n.toNat<=22
   ·obtain⟨rfl,rfl,b4,b5⟩:=hg
    have K:=U y 7 (by omega) rfl n rfl
    have l1:¬n<20:=by simp only[bh]; simpa using b4
    have O:¬22<n:=by simp only[bh]; simpa using b5
    simp[F.S2,F.SZ,F.S4,F.Tp,F.Ts,F.Tn,bZ,eZ,aD,K,l1,O,b4,b5]
   ·have hf:¬bZ (7,n,d,k):=by simpa [bZ] using hg
    rw[ag hf]
    have l3:¬n<20->20<=n.toNat:=by simp only[bh]; simp
    have l4:¬22<n->n.toNat<=22:=by simp only[bh]; simp
    by_cases l1:n<20 <;> by_cases O:22<n <;> by_cases hd:d=[] <;> by_cases hn:n=0 <;> by_cases B:k=0 <;> by_cases j:k<0 <;> (try omega) <;>  simp_all [F.S2,F.SZ,F.S4,F.Tp,F.Ts,F.Tn,bZ,eZ,aD,dV]
 ·have d1:decide ((v.length:Int)<=(a:Int))=true:=by simp; omega
  simp only[d1,al,c9 cf,dV]
def Kd (v:List It):Prop:=∀x∈v,x.2.2.2<=9223372036854775807
theorem mD (v:List It):9*v.length<=wt v:=by
 induction v with
 | nil=>simp[wt]
 | cons x r ih=>simp only[wt,bY]; omega
theorem Fm (v:List It) (i:Nat):wt (v.drop i)<=wt v:=by
 induction v generalizing i with
 | nil=>simp
 | cons x r ih=>cases i with
  | zero=>simp
  | succ i=>simp only[List.drop_succ_cons,wt]; have:=ih i; omega
theorem vn {v:List It} (j:v.length<=4000000000000) (y:Kd v):∀(d k:Nat),d<=32->d<k->Be v (F.UY k) ((32 - d:Nat):Int) (cq d v)
 | 0,k+1,_,_=>by
  simp only[F.UY,cq]
  exact wa j y (by omega) (by simp) (by simp)
 | d+1,k+1,h1,h2=>by
  simp only[F.UY,cq]
  refine wa j y (by omega) (by simp; omega) (fun rec z=>?_)
  cases z
  rw[show 32 - (d+1)+1=32 - d by omega]
  exact⟨ip v d,vn j y d k (by omega) (by omega)⟩
 | 0,0,_,h=>by omega
 | _+1,0,_,h=>by omega
theorem um {v:List It} (hw:wt v<=4000000000000) (j:Kd v):F.ZW [] v 0 0=some (dV [] (cq 32 v 0)):=by
 have:=mD v
 exact vn (by omega) j 32 64 (by omega) (by omega) [] 0 (by omega) (by simp; exact hw)
def gd (v:List It):Bool:=match cq 32 v 0 with
 | none=>false
 | some (_,j)=>decide (j=v.length)
def qw (v:List It):L01×Int:=match cq 32 v 0 with
 | none=>([],220)
 | some (t,j)=>if j=v.length then (if 65536<t.length then ([],10) else (t,0)) else ([],220)
theorem mU {v:List It} (hw:wt v<=4000000000000) (k:Kd v):F.VE v=some (gd v):=by
 unfold F.VE gd
 rw[um hw k,aa]
 cases h:cq 32 v 0 with
 | none=>
  have:((-1:Int) == (v.length:Int))=false:=by simp
  simp only[dV,this,ah,aj]
 | some a=>
  obtain⟨t,j⟩:=a
  obtain⟨y,z,_⟩:=ip v 32 0 t j h
  simp only[dV]
  by_cases hj:j=v.length
  ·have:decide ((0:Int)<(j:Int))=true:=by simp; omega
   simp only[hj,d8,al,gp]
   simp; omega
  ·have:((j:Int) == (v.length:Int))=false:=by simp; omega
   simp[this,hj]
theorem Km {v:List It} (hw:wt v<=4000000000000) (y:Kd v):F.WL v=some (qw v):=by
 unfold F.WL qw
 rw[um hw y,aa]
 cases h:cq 32 v 0 with
 | none=>
  have:((-1:Int) != (v.length:Int))=true:=by simp
  simp only[dV,this,al,F.W4]
 | some a=>
  obtain⟨t,j⟩:=a
  obtain⟨G,z,_⟩:=ip v 32 0 t j h
  simp only[dV,bN]
  by_cases hj:j=v.length
  ·have A:decide ((j:Int)<=0)=false:=by simp; omega
   have k:v≠[]:=by rintro rfl; simp at z; omega
   have B:((j:Int) != (v.length:Int))=false:=by simp; omega
   simp only[B,ah,aj,A,F.W4,hj,al]
   by_cases hl:65536<t.length
   ·have:decide ((65536:Int)<(t.length:Int))=true:=by simp; omega
    simp[this,hl,k]
   ·have:decide ((65536:Int)<(t.length:Int))=false:=by simp; omega
    simp[this,hl,k]
  ·have:((j:Int) != (v.length:Int))=true:=by simp; omega
   simp only[this,al,hj,aj,F.W4]
def Ci (v:List It) (rc:List It->Int->Int->Option (L01×Int)) (w:Int) (rec:Wr):Prop:=
 ∀(i:Nat),i<=v.length->rc v (i:Int) w=some (dV [] (rec i))
theorem gf:F.U0=some ([],-1):=rfl
section
variable {v:List It} {rc:List It->Int->Int->Option (L01×Int)} {w:Int} {rec:Wr}
theorem Jo (hv:wt v<=4000000000000) (hm:Put v rec) (ac:Ci v rc (wI (w+1)) rec) (x:It) (hx:x.2.2.2<=9223372036854775807) :
  ∀(r i:Nat) (out last:L01) (L:Option L01) (a:Nat),((i+r:Nat):Int)=x.2.2.2->a<=v.length->out.length+wt (v.drop a)<=4000000000100->last.length<=out.length ->
   ((x.1 == 5)=true->(i=0/\L=none\/0<i/\L=some last)) ->
   loop (F.UT v w rc x) (last,(i:Int),out,(a:Int))=some (dV out (cQ rec (x.1 == 5) r (decide (i%2=0)) L a)):=by
 intro r
 induction r with
 | zero=>
  intro i out last L a h1 h2 h3 h4 Y
  refine bD ?_
  have:decide ((i:Int)<x.2.2.2)=false:=by simp; omega
  simp only[F.UT,this,ah,aj,cQ,dV,bP]
  rfl
 | succ r ih=>
  intro i out last L a h1 h2 h3 h4 Y
  have O:decide ((i:Int)<x.2.2.2)=true:=by simp; omega
  have ap:wI ((i:Int)+1)=((i+1:Nat):Int):=by rw[aC (by omega) (by omega)]; simp
  have R:(!decide (i%2=0))=decide ((i+1)%2=0):=by
   rcases gM i with h | h
   ·have:(i+1)%2=1:=by omega
    simp[h,this]
   ·have:(i+1)%2=0:=by omega
    simp[h,this]
  simp only[cQ]
  have J:=ac a h2
  cases hx1:rec a with
  | none=>
   rw[hx1]at J
   refine bD ?_
   simp only[F.UT,O,al,J,aa,dV,gf]
   rfl
  | some y=>
   obtain⟨t,j⟩:=y
   rw[hx1]at J
   simp only[dV,bN]at J
   obtain⟨h6,h7,h8⟩:=hm a t j hx1
   have hj:decide ((j:Int)<0)=false:=by simp
   simp only
   have Z:qe out t=some (out++t):=by unfold qe; rw[ag (by omega)]
   have G:∀l,F.ZZ (i:Int) out (t,(j:Int)) l=some (.inl (l,((i+1:Nat):Int),out++t,(j:Int))):=by
    intro l
    simp only[F.ZZ,Z,aa,ap]; rfl
   have step:(x.1 == 5&&decide (i%2=0))=false->F.UT v w rc x (last,(i:Int),out,(a:Int))=some (.inl (last,((i+1:Nat):Int),out++t,(j:Int))):=by
    intro N
    rw[Bool.and_eq_false_iff]at N
    simp only[F.UT,O,al,J,aa,hj,ah,aj]
    rcases N with N | N
    ·simp only[N,ah,aj,F.WA,G]
    ·split
     ·simp only[zF,N,ah,aj,F.WA,G]
     ·simp only[ah,aj,F.WA,G]
   by_cases hpk:(x.1 == 5&&decide (i%2=0))=true
   ·rw[aK]at hpk
    obtain⟨I,U⟩:=hpk
    simp only[I,U,Bool.and_self,dP,al]
    have V:∀q,F.YQ (t,(j:Int)) (i:Int) out q=some (if q=true then .inr ([],-1) else .inl (t,((i+1:Nat):Int),out++t,(j:Int))):=by
     intro q
     cases q
     ·simp only[F.YQ,ah,aj,G]
     ·simp only[F.YQ,al,gf,aa]; rfl
    have A:F.UT v w rc x (last,(i:Int),out,(a:Int))=some (if jL L t=false then .inr ([],-1) else .inl (t,((i+1:Nat):Int),out++t,(j:Int))):=by
     simp only[F.UT,O,al,J,aa,hj,ah,aj,I,zF,U,F.WA]
     rcases Y I with⟨rfl,rfl⟩ | ⟨ab,rfl⟩
     ·simp only[show (decide ((0:Int)<((0:Nat):Int)))=false from rfl,ah,aj]
      rw[V false]
      simp[jL]
     ·have:decide ((0:Int)<(i:Int))=true:=by simp; omega
      simp only[this,al,NR last t (by omega),aa]
      rw[V _]
      cases hlx:jV last t <;> simp[jL,hlx]
    cases hko:jL L t
    ·rw[hko]at A
     simp only[al]at A
     rw[bD A]
     simp[dV]
    ·rw[hko]at A
     simp only[Bool.true_eq_false,aj]at A
     rw[bn A]
     simp only[cF,ah,aj]
     rw[ih (i+1) (out++t) t (some t) j (by omega) h7 (by simp; omega) (by simp) (fun _=>.inr ⟨by omega,rfl⟩),<-R,U]
     simp only[I,cF]
     cases cQ rec true r false (some t) j with
     | none=>rfl
     | some z=>obtain⟨u,k⟩:=z; simp[dV]
   ·have B:(x.1 == 5&&decide (i%2=0))=false:=by simpa using hpk
    rw[bn (step B)]
    simp only[B,ee,ah,aj]
    rw[ih (i+1) (out++t) last L j (by omega) h7 (by simp; omega) (by simp; omega) ?_,<-R]
    ·cases cQ rec (x.1 == 5) r (!decide (i%2=0)) L j with
     | none=>rfl
     | some z=>obtain⟨u,k⟩:=z; simp[dV]
    ·intro X
     rcases Y X with⟨rfl,rfl⟩ | ⟨ab,rfl⟩
     ·exfalso; rw[X]at B; simp at B
     ·exact .inr ⟨by omega,rfl⟩
theorem wS (A:wt v<=4000000000000) (x:It) (m:Nat) (y:m<8) (k:x.1=(m:Int)) (n:UInt64) (a:Nat) (ha:a<v.length)
  (hx:x.2.2.2<=9223372036854775807) (G:0<=x.2.2.2) (hp:Put v rec) (B:Ci v rc (wI (w+1)) rec) :
  F.aac (a:Int) x v w rc n=some (dV [] (match cQ rec (x.1 == 5) x.2.2.2.toNat true none (a+1) with
   | none=>none
   | some (t,j)=>some (hd m n++t,j))):=by
 have hl:=mD v
 have hh:=kB m n
 have hw:=Fm v (a+1)
 simp only[F.aac]
 rw[k,l8 m y n,aa,aC (by omega) (by omega)]
 have:=Jo A hp B x hx x.2.2.2.toNat 0 (hd m n) [] none (a+1) (by omega) (by omega) (by omega) (by simp) (fun _=>.inl ⟨rfl,rfl⟩)
 rw[show ((a:Int)+1)=((a+1:Nat):Int) by simp,show (0:Int)=((0:Nat):Int) from rfl,this,<-k]
 simp only[jB,gp]
 cases cQ rec (x.1 == 5) x.2.2.2.toNat true none (a+1) with
 | none=>rfl
 | some z=>obtain⟨t,j⟩:=z; simp[dV]
end
theorem Ow (k:Int) (y:0<=k) (hx:k<=9223372036854775807):UInt64.ofInt k / 2=UInt64.ofInt (k / 2):=by
 obtain⟨j,rfl⟩:=gw y
 rw[show ((j:Int) / 2)=((j / 2:Nat):Int) by simp,gI,gI]
 apply cx.1
 rw[fi]
 simp
 omega
theorem yt {v:List It} {rc:List It->Int->Int->Option (L01×Int)} {w:Nat} {sub:Option Wr} (hv:wt v<=4000000000000) (hI:Kd v) (hU:∀x∈v,x.2.2.1.length<=2000000)
  (cf:w<=32) (A:sub=none↔w=32) (y:∀rec,sub=some rec->Put v rec/\Ci v rc ((w+1:Nat):Int) rec) :
  Ci v (F.aaT rc) (w:Int) (fW v sub):=by
 intro a h1
 have cm:=mD v
 unfold F.aaT fW
 rcases bX a v.length with z | b6
 ·have d1:decide ((v.length:Int)<=(a:Int))=false:=by simp; omega
  simp only[d1,ah,aj,bz z,aa,av z]
  have hx:=hI v[a] (cV z)
  have O:=hU v[a] (cV z)
  generalize ct:v[a]=x at hx O
  obtain⟨m,n,d,k⟩:=x
  simp only at hx O
  have R:wI ((w:Int)+1)=((w+1:Nat):Int):=by rw[aC (by omega) (by omega)]; simp
  have G:wI ((a:Int)+1)=(a:Int)+1:=by rw[aC (by omega) (by omega)]
  rcases pT m with hm | hm | rfl | rfl | rfl | rfl | rfl | rfl | rfl | rfl
  ·have e0:(m == 0)=false:=by simp; omega
   have J:(m == 1)=false:=by simp; omega
   have e2:(m == 2)=false:=by simp; omega
   have e3:(m == 3)=false:=by simp; omega
   have l0:decide (m<0)=true:=by simp; omega
   have l7:decide ((7:Int)<m)=false:=by simp; omega
   have hf:¬bZ (m,n,d,k):=by
    unfold bZ
    simp only
    rw[ae (by omega),ae (by omega),ae (by omega),ae (by omega),ae (by omega),ae (by omega),ae (by omega)]; simp
   rw[ag hf]
   simp only[e2,e3,l0,l7,ah,aj,al,F.S9,F.SY,aD,iM,dV,gf,aa]
  ·have e0:(m == 0)=false:=by simp; omega
   have J:(m == 1)=false:=by simp; omega
   have e2:(m == 2)=false:=by simp; omega
   have e3:(m == 3)=false:=by simp; omega
   have l0:decide (m<0)=false:=by simp; omega
   have l7:decide ((7:Int)<m)=true:=by simp; omega
   have hf:¬bZ (m,n,d,k):=by
    unfold bZ
    simp only
    rw[ae (by omega),ae (by omega),ae (by omega),ae (by omega),ae (by omega),ae (by omega),ae (by omega)]; simp
   rw[ag hf]
   simp only[e2,e3,l0,l7,ah,aj,al,F.S9,F.SY,aD,iM,dV,gf,aa]
  ·rw[ae (show ¬(((0:Int)=4)\/((0:Int)=5)\/((0:Int)=6)) by decide)]
   have K:=l8 0 (by omega) n
   by_cases hg:d=[]/\k=0
   ·obtain⟨rfl,rfl⟩:=hg
    simp only[show ((0:Nat):Int)=0 from rfl]at K
    simp[F.S9,F.SY,F.Ti,F.TD,F.Td,F.TC,F.S5,F.Tg,gf,aa,bZ,eZ,aD,gI,K,G,dV]
   ·by_cases hd:d=[] <;> by_cases hn:n=0 <;> by_cases hk:k=0 <;> by_cases j:k<0 <;> (try omega) <;>  simp_all [F.S9,F.SY,F.Ti,F.TD,F.Td,F.TC,F.S5,F.Tg,gf,aa,bZ,eZ,aD,gI,dV]
  ·rw[ae (show ¬(((1:Int)=4)\/((1:Int)=5)\/((1:Int)=6)) by decide)]
   have K:=l8 1 (by omega) n
   by_cases hg:d=[]/\k=0
   ·obtain⟨rfl,rfl⟩:=hg
    simp only[show ((1:Nat):Int)=1 from rfl]at K
    simp[F.S9,F.SY,F.Ti,F.TD,F.Td,F.TC,F.S5,F.Tg,gf,aa,bZ,eZ,aD,gI,K,G,dV]
   ·by_cases hd:d=[] <;> by_cases hn:n=0 <;> by_cases hk:k=0 <;> by_cases j:k<0 <;> (try omega) <;>  simp_all [F.S9,F.SY,F.Ti,F.TD,F.Td,F.TC,F.S5,F.Tg,gf,aa,bZ,eZ,aD,gI,dV]
  ·rw[ae (show ¬(((2:Int)=4)\/((2:Int)=5)\/((2:Int)=6)) by decide)]
   have K:=l8 2 (by omega) (UInt64.ofNat d.length)
   by_cases hg:n=0/\k=0
   ·obtain⟨rfl,rfl⟩:=hg
    have N:qe (hd 2 (UInt64.ofNat d.length)) d=some (hd 2 (UInt64.ofNat d.length)++d):=by unfold qe; rw[ag (by have:=kB 2 (UInt64.ofNat d.length); omega)]
    simp only[show ((2:Nat):Int)=2 from rfl]at K
    simp[F.S9,F.SY,F.Ti,F.TD,F.Td,F.TC,F.S5,F.Tg,gf,aa,bZ,eZ,aD,gI,K,G,dV,N]
   ·by_cases hd:d=[] <;> by_cases hn:n=0 <;> by_cases hk:k=0 <;> by_cases j:k<0 <;> (try omega) <;>  simp_all [F.S9,F.SY,F.Ti,F.TD,F.Td,F.TC,F.S5,F.Tg,gf,aa,bZ,eZ,aD,gI,dV]
  ·rw[ae (show ¬(((3:Int)=4)\/((3:Int)=5)\/((3:Int)=6)) by decide)]
   have K:=l8 3 (by omega) (UInt64.ofNat d.length)
   have Y:F.aab d=some (Lib.validD d):=ND O
   by_cases hg:n=0/\k=0/\Lib.validD d=true
   ·obtain⟨rfl,rfl,hu⟩:=hg
    have N:qe (hd 3 (UInt64.ofNat d.length)) d=some (hd 3 (UInt64.ofNat d.length)++d):=by unfold qe; rw[ag (by have:=kB 3 (UInt64.ofNat d.length); omega)]
    simp only[show ((3:Nat):Int)=3 from rfl]at K
    simp[F.S9,F.SY,F.Ti,F.TD,F.Td,F.TC,F.S5,F.Tg,gf,aa,bZ,eZ,aD,gI,K,G,dV,N,Y,hu]
   ·by_cases hu:Lib.validD d=true <;> by_cases hd:d=[] <;> by_cases hn:n=0 <;> by_cases hk:k=0 <;> by_cases j:k<0 <;> (try omega) <;>  simp_all [F.S9,F.SY,F.Ti,F.TD,F.Td,F.TC,F.S5,F.Tg,gf,aa,bZ,eZ,aD,gI,Y,dV]
  ·by_cases hg:n=0/\d=[]/\0<=k
   ·obtain⟨rfl,rfl,B⟩:=hg
    have j:¬k<0:=by omega
    have hf:bZ (4,0,[],k):=by simp[bZ,B]
    rw[ae (show ¬¬bZ (4,0,[],k) from fun h=>h hf),ag (show (4:Int)=4\/(4:Int)=5\/(4:Int)=6 by decide)]
    have J:eZ (4,0,[],k)=(UInt64.ofInt k):=by simp[eZ]
    rw[J]
    cases hs:sub with
    | none=>
     have hw:=A.1 hs
     subst hw
     simp[F.S9,F.SY,F.Ti,F.Td,F.S5,F.Tg,gf,aa,aD,j,dV]
    | some rec=>
     have hw:w≠32:=fun h=>by have:=A.2 h; rw[hs]at this; cases this
     have I:((w:Int) == 32)=false:=by simp; omega
     have K:=wS (w:=(w:Int)) (rc:=rc) (rec:=rec) hv (4,0,[],k) 4 (by omega) rfl (UInt64.ofInt k) a z hx B (y rec hs).1 (by rw[R]; exact (y rec hs).2)
     simp[F.S9,F.SY,F.Ti,F.Td,F.S5,F.Tg,gf,aa,aD,j,I]
     exact K
   ·have hf:¬bZ (4,n,d,k):=by simpa [bZ] using hg
    rw[ag hf]
    have U:0<=k->Int.tmod k 2=k%2:=fun h=>cn h
    have Z:¬k%2=0->k%2=1:=by omega
    by_cases hd:d=[] <;> by_cases hn:n=0 <;> by_cases hk:k=0 <;> by_cases j:k<0 <;> (try omega) <;>  (try rw[U (by omega)]) <;> simp_all [F.S9,F.SY,F.Ti,F.TD,F.Td,F.TC,F.S5,F.Tg,gf,aa,bZ,eZ,aD,gI,dV]
  ·by_cases hg:n=0/\d=[]/\0<=k/\k%2=0
   ·obtain⟨rfl,rfl,B,ab⟩:=hg
    have V:Int.tmod k 2=0:=by rw[cn B]; exact ab
    have X:UInt64.ofInt k / 2=UInt64.ofInt (k / 2):=Ow k B hx
    have j:¬k<0:=by omega
    have hf:bZ (5,0,[],k):=by simp[bZ,B,ab]
    rw[ae (show ¬¬bZ (5,0,[],k) from fun h=>h hf),ag (show (5:Int)=4\/(5:Int)=5\/(5:Int)=6 by decide)]
    have J:eZ (5,0,[],k)=(UInt64.ofInt (k / 2)):=by simp[eZ]
    rw[J]
    cases hs:sub with
    | none=>
     have hw:=A.1 hs
     subst hw
     simp[F.S9,F.SY,F.Ti,F.Td,F.S5,F.Tg,gf,aa,aD,j,dV,V,X]
    | some rec=>
     have hw:w≠32:=fun h=>by have:=A.2 h; rw[hs]at this; cases this
     have I:((w:Int) == 32)=false:=by simp; omega
     have K:=wS (w:=(w:Int)) (rc:=rc) (rec:=rec) hv (5,0,[],k) 5 (by omega) rfl (UInt64.ofInt (k / 2)) a z hx B (y rec hs).1 (by rw[R]; exact (y rec hs).2)
     simp[F.S9,F.SY,F.Ti,F.Td,F.S5,F.Tg,gf,aa,aD,j,I,V,X]
     exact K
   ·have hf:¬bZ (5,n,d,k):=by simpa [bZ] using hg
    rw[ag hf]
    have U:0<=k->Int.tmod k 2=k%2:=fun h=>cn h
    have Z:¬k%2=0->k%2=1:=by omega
    by_cases hd:d=[] <;> by_cases hn:n=0 <;> by_cases hk:k=0 <;> by_cases j:k<0 <;> (try omega) <;>  (try rw[U (by omega)]) <;> simp_all [F.S9,F.SY,F.Ti,F.TD,F.Td,F.TC,F.S5,F.Tg,gf,aa,bZ,eZ,aD,gI,dV]
  ·by_cases hg:d=[]/\k=1
   ·obtain⟨rfl,rfl⟩:=hg
    have B:(0:Int)<=1:=by omega
    have hf:bZ (6,n,[],1):=by simp[bZ]
    rw[ae (show ¬¬bZ (6,n,[],1) from fun h=>h hf),ag (show (6:Int)=4\/(6:Int)=5\/(6:Int)=6 by decide)]
    have J:eZ (6,n,[],1)=n:=by simp[eZ]
    rw[J]
    cases hs:sub with
    | none=>
     have hw:=A.1 hs
     subst hw
     simp[F.S9,F.SY,F.Ti,F.Td,F.S5,F.Tg,gf,aa,aD,dV]
    | some rec=>
     have hw:w≠32:=fun h=>by have:=A.2 h; rw[hs]at this; cases this
     have I:((w:Int) == 32)=false:=by simp; omega
     have K:=wS (w:=(w:Int)) (rc:=rc) (rec:=rec) hv (6,n,[],1) 6 (by omega) rfl n a z hx B (y rec hs).1 (by rw[R]; exact (y rec hs).2)
     simp[F.S9,F.SY,F.Ti,F.Td,F.S5,F.Tg,gf,aa,aD,I]
     exact K
   ·have hf:¬bZ (6,n,d,k):=by simpa [bZ] using hg
    rw[ag hf]
    have U:0<=k->Int.tmod k 2=k%2:=fun h=>cn h
    have Z:¬k%2=0->k%2=1:=by omega
    by_cases hd:d=[] <;> by_cases hn:n=0 <;> by_cases hk:k=0 <;> by_cases j:k<0 <;> (try omega) <;>  (try rw[U (by omega)]) <;> simp_all [F.S9,F.SY,F.Ti,F.TD,F.Td,F.TC,F.S5,F.Tg,gf,aa,bZ,eZ,aD,gI,dV]
  ·rw[ae (show ¬(((7:Int)=4)\/((7:Int)=5)\/((7:Int)=6)) by decide)]
   have K:=l8 7 (by omega) n
   simp only[show ((7:Nat):Int)=7 from rfl]at K
   by_cases hg:d=[]/\k=0/\20<=n.toNat/\n.toNat<=22
   ·obtain⟨rfl,rfl,ac,ad⟩:=hg
    have l1:¬n<20:=by simp only[bh]; simpa using ac
    have l2:¬22<n:=by simp only[bh]; simpa using ad
    simp[F.S9,F.SY,F.Ti,F.TD,F.Td,F.TC,F.S5,F.Tg,gf,aa,bZ,eZ,aD,gI,K,G,dV,l1,l2,ac,ad]
   ·have hf:¬bZ (7,n,d,k):=by simpa [bZ] using hg
    rw[ag hf]
    have l3:¬n<20->20<=n.toNat:=by simp only[bh]; simp
    have l4:¬22<n->n.toNat<=22:=by simp only[bh]; simp
    by_cases l1:n<20 <;> by_cases l2:22<n <;> by_cases hd:d=[] <;> by_cases hn:n=0 <;> by_cases hk:k=0 <;> by_cases j:k<0 <;> (try omega) <;>  simp_all [F.S9,F.SY,F.Ti,F.TD,F.Td,F.TC,F.S5,F.Tg,gf,aa,bZ,eZ,aD,gI,dV]
 ·have d1:decide ((v.length:Int)<=(a:Int))=true:=by simp; omega
  simp only[d1,al,c9 b6,dV,gf,aa]
theorem xW {v:List It} (j:wt v<=4000000000000) (y:Kd v) (hU:∀x∈v,x.2.2.1.length<=2000000):∀(d k:Nat),d<=32->d<k->Ci v (F.XC k) ((32 - d:Nat):Int) (cq d v)
 | 0,k+1,_,_=>by
  simp only[F.XC,cq]
  exact yt j y hU (by omega) (by simp) (by simp)
 | d+1,k+1,h1,h2=>by
  simp only[F.XC,cq]
  refine yt j y hU (by omega) (by simp; omega) (fun rec z=>?_)
  cases z
  rw[show 32 - (d+1)+1=32 - d by omega]
  exact⟨ip v d,xW j y hU d k (by omega) (by omega)⟩
 | 0,0,_,h=>by omega
 | _+1,0,_,h=>by omega
theorem Na {v:List It} (j:wt v<=4000000000000) (k:Kd v) (hU:∀x∈v,x.2.2.1.length<=2000000):F.abH v 0 0=some (dV [] (cq 32 v 0)):=
 xW j k hU 32 64 (by omega) (by omega) 0 (by omega)
theorem sA {v:List It} (j:wt v<=4000000000000) (k:Kd v) (hU:∀x∈v,x.2.2.1.length<=2000000):F.ZU v=some (gd v):=by
 rw[<-mU j k]
 unfold F.ZU F.VE
 rw[Na j k hU,um j k]
def nbN (l:L01):Nat:=l.foldl (fun a c=>256*a+c.toNat) 0
theorem Mk (l:L01):∀(N:Nat),l.foldl (fun a c=>256*a+c.toUInt64) (UInt64.ofNat N)=UInt64.ofNat (l.foldl (fun a c=>256*a+c.toNat) N):=by
 induction l with
 | nil=>intro N; rfl
 | cons c r ih=>
  intro N
  simp only[ep]
  rw[<-ih]
  congr 1
  apply cx.1
  rw[fQ,ja]
  simp
theorem LZ (l:L01):nbe l=UInt64.ofNat (nbN l):=Mk l 0
theorem MB (l:L01):∀a,l.foldl (fun a c=>256*a+c.toNat) a=a*256^l.length+nbN l:=by
 induction l with
 | nil=>intro a; simp[nbN]
 | cons c r ih=>
  intro a
  simp only[nbN,ep,bY]
  rw[ih,ih (256*0+c.toNat),bo]
  simp only[cp,bk,aU]
  have:256*a*256^r.length=a*(256^r.length*256):=by rw[aM 256 a,aF,aM 256]
  omega
theorem qI (c:UInt8) (r:L01):nbN (c :: r)=c.toNat*256^r.length+nbN r:=by
 have:=MB r (256*0+c.toNat)
 simp only[nbN,ep]
 simpa [nbN] using this
theorem AR (l:L01):nbN l<256^l.length:=by
 induction l with
 | nil=>simp[nbN]
 | cons c r ih=>
  rw[qI,bY,bo]
  have:=c.toNat_lt
  calc c.toNat*256^r.length+nbN r<c.toNat*256^r.length+256^r.length:=by omega
   _=(c.toNat+1)*256^r.length:=by rw[aU]; simp
   _<=256*256^r.length:=aT _ (by omega)
   _=256^r.length*256:=aM _ _
theorem D4:∀(a b:L01),a.length=b.length->nbN a=nbN b->a=b
 | [],[],_,_=>rfl
 | [],_ :: _,h,_=>by simp at h
 | _ :: _,[],h,_=>by simp at h
 | x :: r,y :: s,h,h2=>by
  simp only[bY,Nat.add_right_cancel_iff]at h
  rw[qI,qI,h]at h2
  have j:=AR r
  have z:=AR s
  rw[h]at j
  have hp:0<256^s.length:=ew (by omega)
  have k:x.toNat=y.toNat:=by
   have a1:(x.toNat*256^s.length+nbN r) / 256^s.length=x.toNat:=by
    rw[aM,Nat.mul_add_div hp,cA j,bm]
   have a2:(y.toNat*256^s.length+nbN s) / 256^s.length=y.toNat:=by
    rw[aM,Nat.mul_add_div hp,cA z,bm]
   rw[<-a1,h2,a2]
  rw[k]at h2
  rw[dz.1 k,D4 r s h (by omega)]
theorem Hv:∀(k:Nat) (n:UInt64),k<=8->nbN (be k n)=n.toNat%256^k
 | 0,n,_=>by simp[be,nbN,Nat.mod_one]
 | k+1,n,h=>by
  rw[be,qI,oP,Hv k n (by omega)]
  have e:((bb n (8*k)).toUInt8).toNat=n.toNat / 256^k%256:=by
   have:min (8*k) 64=8*k:=by omega
   rw[ic,i9,this,cu]
  rw[e,bo,Nat.mod_mul,aM (256^k),cw]
theorem N7 (l:L01) (h:l.length<=8):be l.length (nbe l)=l:=by
 refine D4 _ _ (oP _ _) ?_
 rw[Hv _ _ h,LZ]
 have j:=AR l
 have y:256^l.length<=256^8:=aZ (by omega) h
 have z:(256:Nat)^8=18446744073709551616:=by decide
 have k:(UInt64.ofNat (nbN l)).toNat=nbN l:=by simp; omega
 rw[k,az j]
theorem N8 {g:Nat} (h:g<=3):lg (2^g)=g/\(2^g=1\/2^g=2\/2^g=4\/2^g=8):=by
 have:g=0\/g=1\/g=2\/g=3:=by omega
 rcases this with rfl | rfl | rfl | rfl <;> simp[lg]
theorem Il {b:L01} {i m j:Nat} {n:UInt64} (h:me b i=.ok (m,n,j)):part b i j=hd m n/\(m=7->20<=n.toNat/\n.toNat<=22):=by
 unfold me at h
 split at h
 ·cases h
 ·rename_i c hc
  obtain⟨hi,B⟩:=aP.1 hc
  have R:=c.toNat_lt
  have k:b.drop i=c :: b.drop (i+1):=by rw[aS hi,B]
  split at h
  ·cases h
  ·rename_i J
   split at h
   ·rename_i y
    cases h
    have hn:(UInt64.ofNat (c.toNat%32)).toNat=c.toNat%32:=by simp; omega
    refine⟨?_,fun N=>by omega⟩
    unfold part hd
    have hw:wd (UInt64.ofNat (c.toNat%32))=0:=by
     unfold wd
     rw[ag (by simp only[bh,hn]; simpa using y)]
    rw[ag hw,k,show i+1 - i=1 by omega]
    simp only[List.take_succ_cons,fX,eQ,and_true]
    apply dz.1
    rw[UInt8.toNat_add]; simp; omega
   ·rename_i y
    split at h
    ·cases h
    ·rename_i O
     split at h
     ·cases h
     ·rename_i G
      cases h
      have A:=Classical.not_not.1 G
      obtain⟨I,U⟩:=N8 (g:=c.toNat%32 - 24) (by omega)
      refine⟨?_,fun N=>by omega⟩
      have hL:((b.drop (i+1)).take (2^(c.toNat%32 - 24))).length=2^(c.toNat%32 - 24):=by simp; omega
      unfold part hd
      rw[A,ae (by omega),I,k,show i+1+2^(c.toNat%32 - 24) - i=2^(c.toNat%32 - 24)+1 by omega,List.take_succ_cons]
      have z:=N7 ((b.drop (i+1)).take (2^(c.toNat%32 - 24))) (by omega)
      rw[hL]at z
      rw[z]
      congr 1
      apply dz.1
      simp; omega
theorem mR {b:L01} {i j k:Nat} (h:i<=j) (y:j<=k):part b i j++part b j k=part b i k:=by
 unfold part
 rw[show k - i=(j - i)+(k - j) by omega,List.take_add,fS,show i+(j - i)=j by omega]
theorem IZ {b:L01} {i j:Nat} (h:i<=j) (k:j<=b.length):(part b i j).length=j - i:=by simp[part]; omega
theorem yi (b:L01) (i:Nat):part b i i=[]:=by simp[part]
theorem pV {τ:Type} {v:List τ} {i:Nat} {a r:List τ} (h:v.drop i=a++r):v.drop (i+a.length)=r:=by
 rw[<-fS,h,List.drop_left]
def RT (b:L01) (v:List It) (rd:Rd) (rw_:Wr):Prop:=
 ∀(i j:Nat) (is:List It) (at_:Nat) (rest:List It),i<=b.length->rd i=.ok (j,is)->v.drop at_=is++rest->rw_ at_=some (part b i j,at_+is.length)
theorem DQ {b:L01} {v:List It} {z:Rd} {N:Wr} (I:lL b z) (h:RT b v z N) (y:Bool) (last:Option L01):∀(f n i j:Nat) (is:List It) (A:Nat) (rest:List It) (y:Bool),i<=b.length ->
  gA z f n i=.ok (j,is)->v.drop A=is++rest->cQ N false n y last A=some (part b i j,A+is.length)
 | f,0,i,j,is,a,rest,y,hi,h1,h2=>by
  have:(i,([]:List It))=(j,is):=by cases f <;> (simp only[gA]at h1; cases h1; rfl)
  cases this
  simp[cQ,yi]
 | 0,n+1,i,j,is,a,rest,y,hi,h1,h2=>by simp only[gA]at h1; cases h1
 | f+1,n+1,i,j,is,a,rest,y,hi,h1,h2=>by
  simp only[gA]at h1
  cases h3:z i with
  | error e=>rw[h3]at h1; cases h1
  | ok p=>
   obtain⟨B,G⟩:=p
   rw[h3]at h1
   simp only at h1
   obtain⟨V,O,X,Y⟩:=I.1 i B G h3
   cases h4:gA z f n B with
   | error e=>rw[h4]at h1; cases h1
   | ok q=>
    obtain⟨k,J⟩:=q
    rw[h4]at h1
    simp only at h1
    cases h1
    rw[aN]at h2
    have R:=h i B G a (J++rest) hi h3 h2
    have U:=DQ I h y last f n B j J (a+G.length) rest (!y) O h4 (pV h2)
    have Z:=(mu I f n B O).1 j J h4
    simp only[cQ,R,ee,ah,aj,U]
    rw[mR (by omega) (by omega)]
    simp; omega
theorem A6 {b:L01} {v:List It} {A:Rd} {N:Wr} (G:lL b A) (h:RT b v A N):∀(f n:Nat) (last:Option L01) (i j:Nat) (is:List It) (B:Nat) (rest:List It),i<=b.length ->
  gg A b f n last i=.ok (j,is)->v.drop B=is++rest->cQ N true (2*n) true last B=some (part b i j,B+is.length)
 | f,0,last,i,j,is,a,rest,hi,h1,h2=>by
  have:(i,([]:List It))=(j,is):=by cases f <;> (simp only[gg]at h1; cases h1; rfl)
  cases this
  simp[cQ,yi]
 | 0,n+1,last,i,j,is,a,rest,hi,h1,h2=>by simp only[gg]at h1; cases h1
 | f+1,n+1,last,i,j,is,a,rest,hi,h1,h2=>by
  simp only[gg]at h1
  cases h3:A i with
  | error e=>rw[h3]at h1; cases h1
  | ok p=>
   obtain⟨y,z⟩:=p
   rw[h3]at h1
   simp only at h1
   obtain⟨m1,V,m3,m4⟩:=G.1 i y z h3
   split at h1
   ·cases h1
   ·rename_i O
    cases h4:A y with
    | error e=>rw[h4]at h1; cases h1
    | ok q=>
     obtain⟨k,I⟩:=q
     rw[h4]at h1
     simp only at h1
     obtain⟨n1,R,n3,n4⟩:=G.1 y k I h4
     cases h5:gg A b f n (some (part b i y)) k with
     | error e=>rw[h5]at h1; cases h1
     | ok r=>
      obtain⟨l,ks⟩:=r
      rw[h5]at h1
      simp only at h1
      cases h1
      rw[aN,aN]at h2
      have X:=h i y z a (I++(ks++rest)) hi h3 h2
      have U:=pV h2
      have Y:=h y k I (a+z.length) (ks++rest) V h4 U
      have Z:=A6 G h f n (some (part b i y)) k j ks (a+z.length+I.length) rest R h5 (pV U)
      have m5:=(lR G f n (some (part b i y)) k R).1 j ks h5
      have J:jL last (part b i y)=true:=by simpa using O
      rw[show 2*(n+1)=2*n+1+1 by omega]
      simp only[cQ,X,dP,J,cF,Bool.and_false,ah,aj,al,Y,gr,Z]
      rw[mR (by omega) (by omega)]
      simp only[ee,ah,aj]
      rw[mR (by omega) (by omega)]
      simp; omega
theorem Eg (n:UInt64):UInt64.ofInt (n.toNat:Int)=n:=by rw[gI]; simp
theorem Do {b:L01} {v:List It} {Y:Option Rd} {sw:Option Wr} (h:∀I,Y=some I->∃Z,sw=some Z/\lL b I/\RT b v I Z):RT b v (mF b Y) (fW v sw):=by
 intro i j is a rest hi y N
 unfold mF at y
 cases h3:me b i with
 | error e=>rw[h3]at y; cases y
 | ok p=>
  obtain⟨m,n,A⟩:=p
  rw[h3]at y
  simp only at y
  obtain⟨q1,O,q3⟩:=qR h3
  obtain⟨q4,q5⟩:=Il h3
  have hn:=n.toNat_lt
  have B:∀x r,is=x :: r->v[a]? = some x/\v.drop (a+1)=r++rest:=by
   intro x r hx
   subst hx
   have ha:a<v.length:=by
    rcases bX a v.length with h | h
    ·exact h
    ·rw[gE h]at N; cases N
   rw[aS ha]at N
   simp only[cW,eQ]at N
   exact⟨by rw[av ha,N.1],N.2⟩
  split at y
  ·rename_i hk
   cases Y with
   | none=>cases y
   | some I=>
    obtain⟨Z,rfl,R,U⟩:=h I rfl
    simp only[BP]at y
    unfold fW
    split at y
    ·rename_i h4
     subst h4
     cases z:gA I (b.length+1) n.toNat A with
     | error e=>rw[z]at y; cases y
     | ok r=>
      obtain⟨k,js⟩:=r
      rw[z]at y
      simp only at y
      cases y
      obtain⟨G,J⟩:=B _ _ rfl
      have V:=DQ R U true none _ _ _ _ _ _ _ true O z J
      have m5:=(mu R _ _ _ O).1 _ _ z
      have hf:bZ ((4:Int),(0:UInt64),([]:L01),(n.toNat:Int)):=by simp[bZ]
      simp only[G]
      rw[ae (show ¬¬bZ _ from fun h=>h hf),ag (by simp)]
      simp only[eZ,show ((4:Int) == 5)=false from rfl,am,V]
      simp only[show ¬((4:Int)=2\/(4:Int)=3) by decide,aj,al,Eg]
      rw[show (4:Int).toNat=4 from rfl,<-q4,mR (by omega) (by omega)]
      simp; omega
    ·split at y
     ·rename_i h4 z
      subst z
      cases z:gg I b (b.length+1) n.toNat none A with
      | error e=>rw[z]at y; cases y
      | ok r=>
       obtain⟨k,js⟩:=r
       rw[z]at y
       simp only at y
       cases y
       obtain⟨G,J⟩:=B _ _ rfl
       have V:=A6 R U _ _ _ _ _ _ _ _ O z J
       have m5:=(lR R _ _ _ _ O).1 _ _ z
       have hf:bZ ((5:Int),(0:UInt64),([]:L01),2*(n.toNat:Int)):=by simp[bZ]; omega
       simp only[G]
       rw[ae (show ¬¬bZ _ from fun h=>h hf),ag (by simp)]
       have e2:(2*(n.toNat:Int)).toNat=2*n.toNat:=by omega
       have e3:(2*(n.toNat:Int)) / 2=(n.toNat:Int):=by omega
       simp only[eZ,d8,e2,V,e3]
       simp only[show ¬((5:Int)=2\/(5:Int)=3) by decide,show ¬((5:Int)=4) by decide,aj,al,Eg]
       rw[show (5:Int).toNat=5 from rfl,<-q4,mR (by omega) (by omega)]
       simp; omega
     ·rename_i h4 z
      have h6:m=6:=by omega
      subst h6
      cases z:I A with
      | error e=>rw[z]at y; cases y
      | ok r=>
       obtain⟨k,js⟩:=r
       rw[z]at y
       simp only at y
       cases y
       obtain⟨G,J⟩:=B _ _ rfl
       have V:=U _ _ _ _ _ O z J
       have m5:=R.1 _ _ _ z
       have hf:bZ ((6:Int),n,([]:L01),1):=by simp[bZ]
       simp only[G]
       rw[ae (show ¬¬bZ _ from fun h=>h hf),ag (by simp)]
       simp only[eZ,show ((6:Int) == 5)=false from rfl,show (1:Int).toNat=1 from rfl,cQ,V,ee,ah,aj]
       simp only[show ¬((6:Int)=2\/(6:Int)=3) by decide,show ¬((6:Int)=4) by decide,show ¬((6:Int)=5) by decide,aj]
       rw[show (6:Int).toNat=6 from rfl,<-q4,bP,mR (by omega) (by omega)]
       simp; omega
  ·rename_i hk
   split at y
   ·rename_i X
    split at y
    ·cases y
    ·rename_i b9
     split at y
     ·cases y
     ·rename_i ac
      cases y
      obtain⟨G,J⟩:=B _ _ rfl
      have hL:(part b A (A+n.toNat)).length=n.toNat:=by rw[IZ (by omega) (by omega)]; omega
      have hf:bZ ((m:Int),(0:UInt64),part b A (A+n.toNat),0):=by
       rcases X with rfl | rfl
       ·simp[bZ]
       ·have:Lib.validD (part b A (A+n.toNat))=true:=by simpa using ac
        simp[bZ,this]
      unfold fW
      simp only[G]
      rw[ae (show ¬¬bZ _ from fun h=>h hf),ae (show ¬((m:Int)=4\/(m:Int)=5\/(m:Int)=6) by omega)]
      have ea:eZ ((m:Int),(0:UInt64),part b A (A+n.toNat),0)=n:=by
       simp only[eZ]
       rw[ag (show (m:Int)=2\/(m:Int)=3 by omega),hL]; simp
      rw[ea]
      simp only[am]
      rw[<-q4,mR (by omega) (by omega)]
      simp
   ·rename_i X
    cases y
    obtain⟨G,J⟩:=B _ _ rfl
    have b3:m=0\/m=1\/m=7:=by omega
    have hf:bZ ((m:Int),n,([]:L01),0):=by
     rcases b3 with rfl | rfl | rfl
     ·simp[bZ]
     ·simp[bZ]
     ·simpa [bZ] using q5 rfl
    unfold fW
    simp only[G]
    rw[ae (show ¬¬bZ _ from fun h=>h hf),ae (show ¬((m:Int)=4\/(m:Int)=5\/(m:Int)=6) by omega)]
    have ea:eZ ((m:Int),n,([]:L01),0)=n:=by
     simp only[eZ]
     rw[ae (show ¬((m:Int)=2\/(m:Int)=3) by omega),ae (show ¬((m:Int)=4) by omega),ae (show ¬((m:Int)=5) by omega)]
    rw[ea]
    simp only[am,bP]
    rw[<-q4]
    simp
theorem Bj (b:L01) (v:List It):∀d,RT b v (mc d b) (cq d v)
 | 0=>Do (by simp)
 | d+1=>Do (by intro j h; cases h; exact⟨_,rfl,jE b d,Bj b v d⟩)
def seg (v:List It) (i j:Nat):List It:=(v.drop i).take (j - i)
def vc (b:L01) (rd:Rd):Prop:=∀i j is,i<=b.length->rd i=.ok (j,is)->∀x∈is,x.2.2.1.length<=b.length/\x.2.2.2<=2*(b.length:Int)
theorem ww {b:L01} {y:Rd} (z:lL b y) (h:vc b y):∀(f n i j:Nat) (is:List It),i<=b.length->gA y f n i=.ok (j,is)->∀x∈is,x.2.2.1.length<=b.length/\x.2.2.2<=2*(b.length:Int)
 | f,0,i,j,is,hi,h1=>by
  have:(i,([]:List It))=(j,is):=by cases f <;> (simp only[gA]at h1; cases h1; rfl)
  cases this; simp
 | 0,n+1,i,j,is,hi,h1=>by simp only[gA]at h1; cases h1
 | f+1,n+1,i,j,is,hi,h1=>by
  simp only[gA]at h1
  cases h2:y i with
  | error e=>rw[h2]at h1; cases h1
  | ok p=>
   obtain⟨A,I⟩:=p
   rw[h2]at h1
   simp only at h1
   obtain⟨J,B,_⟩:=z.1 _ _ _ h2
   cases h3:gA y f n A with
   | error e=>rw[h3]at h1; cases h1
   | ok q=>
    obtain⟨k,G⟩:=q
    rw[h3]at h1
    cases h1
    intro x hx
    rcases bG.1 hx with hx | hx
    ·exact h _ _ _ hi h2 x hx
    ·exact ww z h f n A _ G B h3 x hx
theorem tM {b:L01} {y:Rd} (z:lL b y) (h:vc b y):∀(f n:Nat) (last:Option L01) (i j:Nat) (is:List It),i<=b.length->gg y b f n last i=.ok (j,is)->∀x∈is,x.2.2.1.length<=b.length/\x.2.2.2<=2*(b.length:Int)
 | f,0,last,i,j,is,hi,h1=>by
  have:(i,([]:List It))=(j,is):=by cases f <;> (simp only[gg]at h1; cases h1; rfl)
  cases this; simp
 | 0,n+1,last,i,j,is,hi,h1=>by simp only[gg]at h1; cases h1
 | f+1,n+1,last,i,j,is,hi,h1=>by
  simp only[gg]at h1
  cases h2:y i with
  | error e=>rw[h2]at h1; cases h1
  | ok p=>
   obtain⟨A,I⟩:=p
   rw[h2]at h1
   simp only at h1
   obtain⟨J,B,_⟩:=z.1 _ _ _ h2
   split at h1
   ·cases h1
   ·cases h3:y A with
    | error e=>rw[h3]at h1; cases h1
    | ok r=>
     obtain⟨k,N⟩:=r
     rw[h3]at h1
     simp only at h1
     obtain⟨O,G,_⟩:=z.1 _ _ _ h3
     cases h4:gg y b f n (some (part b i A)) k with
     | error e=>rw[h4]at h1; cases h1
     | ok s=>
      obtain⟨l,ks⟩:=s
      rw[h4]at h1
      cases h1
      intro x hx
      rcases bG.1 hx with hx | hx
      ·rcases bG.1 hx with hx | hx
       ·exact h _ _ _ hi h2 x hx
       ·exact h _ _ _ B h3 x hx
      ·exact tM z h f n _ k _ ks G h4 x hx
theorem vg {b:L01} {sub:Option Rd} (h:∀z,sub=some z->lL b z/\vc b z):vc b (mF b sub):=by
 intro i j is hi y
 unfold mF at y
 cases h2:me b i with
 | error e=>rw[h2]at y; cases y
 | ok p=>
  obtain⟨m,n,G⟩:=p
  rw[h2]at y
  obtain⟨N,A,O⟩:=qR h2
  simp only at y
  split at y
  ·cases sub with
   | none=>cases y
   | some z=>
    obtain⟨B,hs⟩:=h z rfl
    simp only[BP]at y
    split at y
    ·cases h5:gA z (b.length+1) n.toNat G with
     | error e=>rw[h5]at y; cases y
     | ok r=>
      obtain⟨k,I⟩:=r
      rw[h5]at y; cases y
      have J:=(mu B _ _ _ A).1 _ _ h5
      intro x hx
      rcases aG.1 hx with rfl | hx
      ·simp; omega
      ·exact ww B hs _ _ _ _ _ A h5 x hx
    ·split at y
     ·cases h5:gg z b (b.length+1) n.toNat none G with
      | error e=>rw[h5]at y; cases y
      | ok r=>
       obtain⟨k,I⟩:=r
       rw[h5]at y; cases y
       have J:=(lR B _ _ _ _ A).1 _ _ h5
       intro x hx
       rcases aG.1 hx with rfl | hx
       ·simp; omega
       ·exact tM B hs _ _ _ _ _ _ A h5 x hx
     ·cases h5:z G with
      | error e=>rw[h5]at y; cases y
      | ok r=>
       obtain⟨k,I⟩:=r
       rw[h5]at y; cases y
       intro x hx
       rcases aG.1 hx with rfl | hx
       ·simp; omega
       ·exact hs _ _ _ A h5 x hx
  ·split at y
   ·split at y
    ·cases y
    ·split at y
     ·cases y
     ·cases y
      intro x hx
      obtain rfl:=List.mem_singleton.1 hx
      simp[part]; omega
   ·cases y
    intro x hx
    obtain rfl:=List.mem_singleton.1 hx
    exact⟨by simp,by simp only; omega⟩
theorem tU (b:L01):∀d,vc b (mc d b)
 | 0=>vg (by simp)
 | d+1=>vg (by intro j h; cases h; exact⟨jE b d,tU b d⟩)
theorem Qo {v:List It} {D:Nat} (h:∀x∈v,x.2.2.1.length<=D):wt v<=v.length*(9+D):=by
 induction v with
 | nil=>simp[wt]
 | cons x r ih=>
  have k:=ih (fun y j=>h y (fC _ j))
  have z:=h x (by simp)
  simp only[wt,bY,aU]
  omega
def uJ (v:List It):Prop:=wt v<=5000000000/\(∀x∈v,x.2.2.2<=131072)/\(∀x∈v,x.2.2.1.length<=65536)
theorem uJ.kd {v:List It} (h:uJ v):Kd v:=fun x hx=>by have:=h.2.1 x hx; omega
theorem uJ.wt {v:List It} (h:uJ v):wt v<=4000000000000:=by have:=h.1; omega
theorem uJ.bt {v:List It} (h:uJ v):∀x∈v,x.2.2.1.length<18446744073709551616:=fun x hx=>by have:=h.2.2 x hx; omega
theorem Eo {b:L01} {d j:Nat} {is:List It} (hb:b.length<=65536) (h:mc d b 0=.ok (j,is)):uJ is:=by
 have hs:=tU b d 0 j is (by omega) h
 have k:=(jE b d).1 _ _ _ h
 have hw:=Qo (v:=is) (D:=65536) (fun x hx=>by have:=(hs x hx).1; omega)
 have y:is.length*(9+65536)<=65536*(9+65536):=aT _ (by omega)
 exact⟨by omega,fun x hx=>by have:=(hs x hx).2; omega,fun x hx=>by have:=(hs x hx).1; omega⟩
theorem tO (b:L01):(∃is,b.length<=65536/\mc 32 b 0=.ok (b.length,is)/\kU b=(is,0,0))\/(∃e p,e≠0/\0<=p/\p<=(b.length:Int)/\kU b=([],e,p)):=by
 unfold kU
 split
 ·exact .inr ⟨10,0,by simp,by omega,by omega,rfl⟩
 ·rename_i hb
  cases h:mc 32 b 0 with
  | error e=>
   have:=(jE b 32).2 0 e h (by omega)
   exact .inr ⟨e.1,e.2,this.1,this.2.1,this.2.2,rfl⟩
  | ok p=>
   obtain⟨j,is⟩:=p
   have:=(jE b 32).1 _ _ _ h
   simp only
   by_cases hj:j<b.length
   ·rw[ag hj]; exact .inr ⟨220,j,by simp,by omega,by omega,rfl⟩
   ·rw[ae hj]
    have:j=b.length:=by omega
    subst this
    exact .inl ⟨is,by omega,rfl,rfl⟩
theorem Dl {b:L01} {d:Nat} {is:List It} (h:mc d b 0=.ok (b.length,is)):cq d is 0=some (b,is.length):=by
 have:=Bj b is d 0 b.length is 0 [] (by omega) h (by simp)
 simpa [part] using this
theorem sP {b:L01} {is:List It} (hb:b.length<=65536) (h:mc 32 b 0=.ok (b.length,is)):qw is=(b,0)/\gd is=true:=by
 have:=Dl h
 unfold qw gd
 rw[this]
 simp; omega
def Beh (v:List It) (f:Int×Int->Option ((Int×Int)⊕Int)) (wr:Wr) (N:Nat):Prop:=
 ∀i t j (n:Nat),wr i=some (t,j)->n<=N->loop f ((i:Int),((n+1:Nat):Int))=loop f ((j:Int),(n:Int))
def zt (v:List It) (f:Int×Int->Option ((Int×Int)⊕Int)):Prop:=
 ∀(i n k:Nat) (hi:i<v.length),v[i].2.2.2=(k:Int)->n+k<=1000000000000000000->i<=1000000000000000000->f ((i:Int),((n+1:Nat):Int))=some (.inl (((i+1:Nat):Int),((n+k:Nat):Int)))
theorem H5 (v:List It):zt v (F.ZR v):=by
 intro i n k hi j B G
 have hd:decide ((0:Int)<((n+1:Nat):Int))=true:=by simp only[ak]; omega
 simp only[F.ZR,hd,al,bz hi,aa,aD,j]
 have y:wI ((k:Int) - 1)=(k:Int) - 1:=aC (by omega) (by omega)
 have z:wI (((n+1:Nat):Int)+((k:Int) - 1))=((n+k:Nat):Int):=by rw[aC (by omega) (by omega)]; omega
 have A:wI ((i:Int)+1)=((i+1:Nat):Int):=by rw[aC (by omega) (by omega)]; simp
 rw[y,z,A]; rfl
theorem J6 (v:List It):zt v (F.abd v):=by
 intro i n k hi j B G
 have hd:decide ((0:Int)<((n+1:Nat):Int))=true:=by simp only[ak]; omega
 simp only[F.abd,hd,al,bz hi,aa,aD,j]
 have y:wI (((n+1:Nat):Int) - 1)=(n:Int):=by rw[aC (by omega) (by omega)]; omega
 have z:wI ((n:Int)+(k:Int))=((n+k:Nat):Int):=by rw[aC (by omega) (by omega)]; omega
 have A:wI ((i:Int)+1)=((i+1:Nat):Int):=by rw[aC (by omega) (by omega)]; simp
 rw[y,z,A]; rfl
theorem Ay {v:List It} {f:Int×Int->Option ((Int×Int)⊕Int)} {z:Wr} {N:Nat} (hp:Put v z) (h:Beh v f z N) (A:Bool):∀(r:Nat) (y:Bool) (last:Option L01) (i:Nat) (t:L01) (j n:Nat),
  cQ z A r y last i=some (t,j)->n+r<=N->loop f ((i:Int),((n+r:Nat):Int))=loop f ((j:Int),(n:Int))
 | 0,y,last,i,t,j,n,h1,h2=>by
  simp only[cQ]at h1; cases h1; rfl
 | r+1,y,last,i,t,j,n,h1,h2=>by
  simp only[cQ]at h1
  cases h3:z i with
  | none=>rw[h3]at h1; cases h1
  | some a=>
   obtain⟨G,B⟩:=a
   rw[h3]at h1
   simp only at h1
   split at h1
   ·cases h1
   ·cases h4:cQ z A r (!y) (if (A&&y)=true then some G else last) B with
    | none=>rw[h4]at h1; cases h1
    | some b=>
     obtain⟨u,k⟩:=b
     rw[h4]at h1
     cases h1
     rw[show n+(r+1)=(n+r)+1 by omega,h i G B (n+r) h3 (by omega)]
     exact Ay hp h A r _ _ B u j n h4 (by omega)
theorem Az {x:It} (h:bZ x):0<=x.2.2.2/\(¬(x.1=4\/x.1=5\/x.1=6)->x.2.2.2=0):=by
 obtain⟨m,n,d,k⟩:=x
 simp only
 rcases pT m with j | j | rfl | rfl | rfl | rfl | rfl | rfl | rfl | rfl <;> first
  | (exfalso; revert h; unfold bZ; simp only; rw[ae (by omega),ae (by omega),ae (by omega),ae (by omega),ae (by omega),ae (by omega),ae (by omega)]; simp; done)
  | (simp[bZ]at h; omega)
theorem BX {v:List It} {f:Int×Int->Option ((Int×Int)⊕Int)} {sub:Option Wr} {N:Nat} (hs:zt v f) (O:v.length<=1000000000000000) (R:N+v.length<=1000000000000000000)
  (h:∀z,sub=some z->Put v z/\Beh v f z (N+v.length)):Beh v f (fW v sub) N:=by
 intro i t j n y hn
 unfold fW at y
 cases hx:v[i]? with
 | none=>rw[hx]at y; cases y
 | some x=>
  rw[hx]at y
  obtain⟨hi,B⟩:=aP.1 hx
  simp only at y
  split at y
  ·cases y
  ·rename_i hf
   obtain⟨I,J⟩:=Az (Classical.not_not.1 hf)
   obtain⟨k,G⟩:=gw I
   split at y
   ·cases sub with
    | none=>cases y
    | some z=>
     obtain⟨hp,hb⟩:=h z rfl
     simp only at y
     cases h2:cQ z (x.1 == 5) x.2.2.2.toNat true none (i+1) with
     | none=>rw[h2]at y; cases y
     | some a=>
      obtain⟨u,U⟩:=a
      rw[h2]at y
      cases y
      rw[G,am]at h2
      have V:=nZ hp _ _ _ _ _ _ _ (by omega) h2
      rw[bn (hs i n k hi (by rw[B]; exact G) (by omega) (by omega))]
      exact Ay hp hb _ k true none (i+1) u j n h2 (by omega)
   ·rename_i A
    cases y
    have:k=0:=by have:=J A; omega
    subst this
    rw[bn (hs i n 0 hi (by rw[B]; exact G) (by omega) (by omega))]
    rfl
theorem uU {v:List It} {f:Int×Int->Option ((Int×Int)⊕Int)} (hs:zt v f) (j:v.length<=1000000000000000):∀(d N:Nat),N+(d+1)*v.length<=1000000000000000000->Beh v f (cq d v) N
 | 0,N,h=>BX hs j (by omega) (by simp)
 | d+1,N,h=>by
  rw[aU]at h
  refine BX hs j (by omega) (fun k hw=>?_)
  cases hw
  exact⟨ip v d,uU hs j d (N+v.length) (by omega)⟩
theorem nT {v:List It} {d i j:Nat} {t:L01} (k:v.length<=1000000000000000) (hd:d<=32) (h:cq d v i=some (t,j)):F.Vd v (i:Int)=some (j:Int):=by
 have y:(d+1)*v.length<=33*v.length:=aT _ (by omega)
 have:=uU (H5 v) k d 0 (by omega) i t j 0 h (by omega)
 unfold F.Vd
 rw[show ((1:Int))=((0+1:Nat):Int) from rfl,this]
 exact bD rfl
theorem qL {v:List It} {d i j:Nat} {t:L01} (k:v.length<=1000000000000000) (hd:d<=32) (h:cq d v i=some (t,j)):F.Y4 v (i:Int)=some (j:Int):=by
 have y:(d+1)*v.length<=33*v.length:=aT _ (by omega)
 have:=uU (J6 v) k d 0 (by omega) i t j 0 h (by omega)
 unfold F.Y4
 rw[show ((1:Int))=((0+1:Nat):Int) from rfl,this]
 exact bD rfl
def Inn (v:List It) (D:Nat) (wr:Wr):Prop:=∀i t j a,wr i=some (t,j)->i<=a->a<j->∃d t' k,d<=D/\cq d v a=some (t',k)/\k<=j
theorem AG {v:List It} {D:Nat} {z:Wr} (hp:Put v z) (h:Inn v D z) (A:Bool):∀(r:Nat) (y:Bool) (last:Option L01) (i:Nat) (t:L01) (j a:Nat),i<=v.length ->
  cQ z A r y last i=some (t,j)->i<=a->a<j->∃d G k,d<=D/\cq d v a=some (G,k)/\k<=j
 | 0,y,last,i,t,j,a,hi,h1,h2,h3=>by simp only[cQ]at h1; cases h1; omega
 | r+1,y,last,i,t,j,a,hi,h1,h2,h3=>by
  simp only[cQ]at h1
  cases h4:z i with
  | none=>rw[h4]at h1; cases h1
  | some b=>
   obtain⟨I,B⟩:=b
   rw[h4]at h1
   simp only at h1
   obtain⟨R,J,_⟩:=hp _ _ _ h4
   split at h1
   ·cases h1
   ·cases h5:cQ z A r (!y) (if (A&&y)=true then some I else last) B with
    | none=>rw[h5]at h1; cases h1
    | some c=>
     obtain⟨u,k⟩:=c
     rw[h5]at h1
     cases h1
     have U:=nZ hp _ _ _ _ _ _ _ J h5
     rcases bX a B with ha | ha
     ·obtain⟨d,G,N,hd,O,V⟩:=h i I B a h4 h2 ha
      exact⟨d,G,N,hd,O,by omega⟩
     ·exact AG hp h A r _ _ B u j a J h5 ha h3
theorem Jc (v:List It):∀d,Inn v d (cq d v):=by
 have A:∀(d:Nat) (sub:Option Wr) (hs:∀z,sub=some z->Put v z/\Inn v d z) (I:cq d v=fW v sub),Inn v d (fW v sub):=by
  intro d sub hs I i t j a y B G
  rcases Nat.eq_or_lt_of_le B with rfl | O
  ·exact⟨d,t,j,by omega,by rw[I]; exact y,by omega⟩
  ·unfold fW at y
   cases hx:v[i]? with
   | none=>rw[hx]at y; cases y
   | some x=>
    rw[hx]at y
    obtain⟨hi,R⟩:=aP.1 hx
    simp only at y
    split at y
    ·cases y
    ·split at y
     ·cases sub with
      | none=>cases y
      | some z=>
       obtain⟨hp,hn⟩:=hs z rfl
       simp only at y
       cases h4:cQ z (x.1 == 5) x.2.2.2.toNat true none (i+1) with
       | none=>rw[h4]at y; cases y
       | some b=>
        obtain⟨u,U⟩:=b
        rw[h4]at y
        cases y
        exact AG hp hn _ _ _ _ _ _ _ a (by omega) h4 (by omega) G
     ·cases y; omega
 intro d
 induction d with
 | zero=>exact A 0 none (by simp) rfl
 | succ d ih=>
  refine A (d+1) (some (cq d v)) (fun z hw=>?_) rfl
  cases hw
  refine⟨ip v d,fun i t j a y B G=>?_⟩
  obtain⟨J,N,k,hd,e⟩:=ih i t j a y B G
  exact⟨J,N,k,by omega,e⟩
def fH (v:List It) (wr:Wr) (key:List It):Nat->Nat->Int
 | 0,_=>-1
 | r+1,i=>match wr i with
  | none=>-1
  | some (_,j)=>if seg v i j=key then (j:Int) else match wr j with
   | none=>-1
   | some (_,k)=>fH v wr key r k
theorem La {τ:Type} [DecidableEq τ] {f:Int->Option (Int⊕Bool)} {a b:List τ} {m:Nat} (N:m<=a.length) (J:m<=b.length) (hb:m<9223372036854775807) (R:Bool)
  (y:f (m:Int)=some (.inr R)) (j:∀i:Nat,(h:i<m)->f (i:Int)=some (if a[i]=b[i] then .inl (((i+1:Nat)):Int) else .inr false)) :
  loop f 0=some (if a.take m=b.take m then R else false):=by
 have A:∀k i,m - i=k->i<=m->a.take i=b.take i->loop f (i:Int)=some (if a.take m=b.take m then R else false):=by
  intro k
  induction k with
  | zero=>
   intro i B G z
   have:i=m:=by omega
   subst this
   rw[bD y,ag z]
  | succ k ih=>
   intro i B G z
   have hi:i<m:=by omega
   have hs:=j i hi
   by_cases he:a[i]=b[i]
   ·rw[ag he]at hs
    rw[bn hs]
    refine ih (i+1) (by omega) (by omega) ?_
    rw[dT (by omega),dT (by omega),z,he]
   ·rw[ae he]at hs
    rw[bD hs,ae]
    intro I
    apply he
    have:=da (fun l=>l[i]?) I
    simp only[bR,ag hi]at this
    rw[av (by omega),av (by omega)]at this
    exact et this
 exact A m 0 (by omega) (by omega) (by simp)
theorem xM (a b:List It) (ha:a.length<9223372036854775807):F.YE a b=some (a == b):=by
 unfold F.YE
 have j:(min (a.length:Int) (b.length:Int))=((min a.length b.length:Nat):Int):=by omega
 rw[La (a:=a) (b:=b) (m:=min a.length b.length) (by omega) (by omega) (by omega) ((a.length:Int) == (b.length:Int))]
 ·congr 1
  by_cases hl:a.length=b.length
  ·rw[hl]
   simp only[Nat.min_self,d8]
   rw[aA (by omega),aA (by omega)]
   by_cases h:a=b <;> simp[h]
  ·have z:((a.length:Int) == (b.length:Int))=false:=by simp; omega
   have A:a≠b:=fun h=>hl (by rw[h])
   simp[z,A]
 ·simp only[F.YM,j]
  simp only[eE,dg,ah,aj]; rfl
 ·intro i hi
  have hd:decide ((i:Int)<((min a.length b.length:Nat):Int))=true:=by simp; omega
  have B:wI ((i:Int)+1)=((i+1:Nat):Int):=by rw[aC (by omega) (by omega)]; simp
  have k:i<a.length:=by omega
  have y:i<b.length:=by omega
  simp only[F.YM,j,hd,al,bz k,bz y,aa,B]
  by_cases he:a[i]=b[i]
  ·rw[ag he,he]; simp only[dh,ah,aj]; rfl
  ·have:(a[i] != b[i])=true:=by simpa using he
   simp only[this,al,ae he]; rfl
theorem Al (a b:List It) (ha:a.length<9223372036854775807):F.abt a b=some (a == b):=by
 have:F.abt a b=F.abB a b:=rfl
 rw[this,J4 a b ha]
section
variable {v:List It} {d:Nat}
theorem DY {i j:Nat} (h:i<=j) (k:j<=v.length):slO v (i:Int) (j:Int)=some (seg v i j):=lP h k
theorem nP (J:v.length<=1000000000000000) (hd:d<=32) (y:List It) (x:It) (K:Nat) (hx:wI (Int.tdiv x.2.2.2 2)=(K:Int)) (N:K<=4611686018427387904):∀(r c i:Nat) (last:Option L01) (t:L01) (j:Nat),
  cQ (cq d v) true (2*r) true last i=some (t,j)->c+r=K->i<=v.length->loop (F.VR v y x) ((i:Int),(c:Int))=some (fH v (cq d v) y r i)
 | 0,c,i,last,t,j,h1,h2,h3=>by
  refine bD ?_
  have:decide ((c:Int)<(K:Int))=false:=by simp; omega
  simp only[F.VR,hx,this,ah,aj,fH]; rfl
 | r+1,c,i,last,t,j,h1,h2,h3=>by
  rw[show 2*(r+1)=2*r+1+1 by omega]at h1
  simp only[cQ]at h1
  cases h4:cq d v i with
  | none=>rw[h4]at h1; cases h1
  | some a=>
   obtain⟨O,z⟩:=a
   rw[h4]at h1
   obtain⟨Z,m2,m3⟩:=ip v d i O z h4
   simp only[dP,cF,ee,Bool.and_false,ah,aj,al]at h1
   split at h1
   ·cases h1
   ·cases h5:cq d v z with
    | none=>rw[h5]at h1; cases h1
    | some b=>
     obtain⟨V,B⟩:=b
     rw[h5]at h1
     obtain⟨m4,X,m6⟩:=ip v d z V B h5
     simp only[gr]at h1
     cases h6:cQ (cq d v) true (2*r) true (some O) B with
     | none=>rw[h6]at h1; cases h1
     | some e=>
      obtain⟨u,k⟩:=e
      have G:decide ((c:Int)<(K:Int))=true:=by simp; omega
      have R:=nT J hd h4
      have Y:=nT J hd h5
      have I:=DY (v:=v) (i:=i) (j:=z) (by omega) (by omega)
      have A:(seg v i z).length<9223372036854775807:=by simp[seg]; omega
      have U:wI ((c:Int)+1)=((c+1:Nat):Int):=by rw[aC (by omega) (by omega)]; simp
      simp only[fH,h4,h5]
      by_cases hk:seg v i z=y
      ·refine bD ?_
       have hb:(seg v i z == y)=true:=by simpa using hk
       simp only[F.VR,hx,G,al,R,aa,I,xM _ _ A,hb,ag hk]; rfl
      ·have hb:(seg v i z == y)=false:=by simpa using hk
       have hs:F.VR v y x ((i:Int),(c:Int))=some (.inl ((B:Int),((c+1:Nat):Int))):=by
        simp only[F.VR,hx,G,al,R,aa,I,xM _ _ A,hb,ah,aj,Y,U]; rfl
       rw[bn hs,ae hk]
       exact nP J hd y x K hx N r (c+1) B _ u k h6 (by omega) X
theorem vX (J:v.length<=1000000000000000) (hd:d<=32) (y:List It) (p:Nat) (hp:p<v.length) (K:Nat) (hx:wI (Int.tdiv v[p].2.2.2 2)=(K:Int)) (N:K<=4611686018427387904):∀(r c i:Nat) (last:Option L01) (t:L01) (j:Nat),
  cQ (cq d v) true (2*r) true last i=some (t,j)->c+r=K->i<=v.length->loop (F.We v (p:Int) y) ((i:Int),(c:Int))=some (fH v (cq d v) y r i)
 | 0,c,i,last,t,j,h1,h2,h3=>by
  refine bD ?_
  have:decide ((c:Int)<(K:Int))=false:=by simp; omega
  simp only[F.We,bz hp,aa,hx,this,ah,aj,fH]; rfl
 | r+1,c,i,last,t,j,h1,h2,h3=>by
  rw[show 2*(r+1)=2*r+1+1 by omega]at h1
  simp only[cQ]at h1
  cases h4:cq d v i with
  | none=>rw[h4]at h1; cases h1
  | some a=>
   obtain⟨O,z⟩:=a
   rw[h4]at h1
   obtain⟨Z,m2,m3⟩:=ip v d i O z h4
   simp only[dP,cF,ee,Bool.and_false,ah,aj,al]at h1
   split at h1
   ·cases h1
   ·cases h5:cq d v z with
    | none=>rw[h5]at h1; cases h1
    | some b=>
     obtain⟨V,B⟩:=b
     rw[h5]at h1
     obtain⟨m4,X,m6⟩:=ip v d z V B h5
     simp only[gr]at h1
     cases h6:cQ (cq d v) true (2*r) true (some O) B with
     | none=>rw[h6]at h1; cases h1
     | some e=>
      obtain⟨u,k⟩:=e
      have G:decide ((c:Int)<(K:Int))=true:=by simp; omega
      have R:=qL J hd h4
      have Y:=qL J hd h5
      have I:=DY (v:=v) (i:=i) (j:=z) (by omega) (by omega)
      have A:(seg v i z).length<9223372036854775807:=by simp[seg]; omega
      have U:wI ((c:Int)+1)=((c+1:Nat):Int):=by rw[aC (by omega) (by omega)]; simp
      simp only[fH,h4,h5]
      by_cases hk:seg v i z=y
      ·refine bD ?_
       have hb:(seg v i z == y)=true:=by simpa using hk
       simp only[F.We,bz hp,hx,G,al,R,aa,I,Al _ _ A,hb,ag hk]; rfl
      ·have hb:(seg v i z == y)=false:=by simpa using hk
       have hs:F.We v (p:Int) y ((i:Int),(c:Int))=some (.inl ((B:Int),((c+1:Nat):Int))):=by
        simp only[F.We,bz hp,hx,G,al,R,aa,I,Al _ _ A,hb,ah,aj,Y,U]; rfl
       rw[bn hs,ae hk]
       exact vX J hd y p hp K hx N r (c+1) B _ u k h6 (by omega) X
end
theorem pu {v:List It} (hs:gd v=true) {a:Nat} (ha:a<v.length):∃d t k,d<=32/\cq d v a=some (t,k):=by
 unfold gd at hs
 cases h:cq 32 v 0 with
 | none=>rw[h]at hs; cases hs
 | some b=>
  obtain⟨t,j⟩:=b
  rw[h]at hs
  have:j=v.length:=by simpa using hs
  subst this
  obtain⟨d,y,k,z,A,_⟩:=Jc v 32 0 t v.length a h (by omega) ha
  exact⟨d,y,k,z,A⟩
theorem uT {v:List It} {d a k:Nat} {t:L01} (h:cq d v a=some (t,k)) (ha:a<v.length) (A:v[a].1=5) :
  ∃B u,d=B+1/\cQ (cq B v) true v[a].2.2.2.toNat true none (a+1)=some (u,k)/\0<=v[a].2.2.2/\v[a].2.2.2%2=0:=by
 have z:∀sub,fW v sub a=some (t,k)->∃y u,sub=some y/\cQ y true v[a].2.2.2.toNat true none (a+1)=some (u,k)/\0<=v[a].2.2.2/\v[a].2.2.2%2=0:=by
  intro sub j
  unfold fW at j
  rw[av ha]at j
  simp only at j
  split at j
  ·cases j
  ·rename_i hf
   have G:=Classical.not_not.1 hf
   rw[ag (by omega)]at j
   cases sub with
   | none=>cases j
   | some y=>
    simp only at j
    have I:(v[a].1 == 5)=true:=by simpa using A
    rw[I]at j
    split at j
    ·cases j
    ·rename_i J U N
     cases j
     have:0<=v[a].2.2.2/\v[a].2.2.2%2=0:=by
      revert G
      unfold bZ
      rw[A]
      simp
     exact⟨y,J,rfl,N,this.1,this.2⟩
 cases d with
 | zero=>obtain⟨y,u,j,_⟩:=z none h; cases j
 | succ d=>
  obtain⟨y,u,j,O,R⟩:=z _ h
  cases j
  exact⟨d,u,rfl,O,R⟩
theorem p1:kU [161,97,97,130,1,245]=([(5,0,[],2),(3,0,[97],0),(4,0,[],2),(0,1,[],0),(7,21,[],0)],0,0):=by kernel_rfl
theorem p2:qw [(4,0,[],2),(1,99,[],0),(2,0,[120,121],0)]=([130,56,99,66,120,121],0):=by kernel_rfl
theorem p3:kU [130,24,23,0]=([],220,1):=by kernel_rfl
theorem p4:gd [(5,0,[],2),(3,0,[97],0),(4,0,[],2),(0,1,[],0),(7,21,[],0)]=true:=by kernel_rfl
theorem p5:cq 31 [(5,0,[],2),(3,0,[97],0),(4,0,[],2),(0,1,[],0),(7,21,[],0)] 1=some ([97,97],2):=by kernel_rfl
theorem p6:cq 31 [(5,0,[],2),(3,0,[97],0),(4,0,[],2),(0,1,[],0),(7,21,[],0)] 2=some ([130,1,245],5):=by kernel_rfl
theorem xc {v:List It} {y:Wr} (z:List It):∀(r i:Nat) (last:Option L01) (t:L01) (j:Nat),cQ y true (2*r) true last i=some (t,j) ->
  fH v y z r i=-1\/∃(k:Nat) (G:L01) (I:Nat),fH v y z r i=(k:Int)/\y k=some (G,I)
 | 0,i,last,t,j,h=>.inl rfl
 | r+1,i,last,t,j,h1=>by
  rw[show 2*(r+1)=2*r+1+1 by omega]at h1
  simp only[cQ]at h1
  cases h4:y i with
  | none=>rw[h4]at h1; cases h1
  | some a=>
   obtain⟨J,B⟩:=a
   rw[h4]at h1
   simp only[dP,cF,ee,Bool.and_false,ah,aj,al]at h1
   split at h1
   ·cases h1
   ·cases h5:y B with
    | none=>rw[h5]at h1; cases h1
    | some b=>
     obtain⟨N,A⟩:=b
     rw[h5]at h1
     simp only[gr]at h1
     cases h6:cQ y true (2*r) true (some J) A with
     | none=>rw[h6]at h1; cases h1
     | some e=>
      obtain⟨u,k⟩:=e
      simp only[fH,h4,h5]
      split
      ·exact .inr ⟨B,N,A,rfl,h5⟩
      ·exact xc z r A _ u k h6
theorem s8 {v:List It} {d k j:Nat} {t:L01} (h:cq d v k=some (t,j)):∃I:k<v.length,bZ v[k]/\0<=v[k].2.2.2/\k+1+v[k].2.2.2.toNat<=j/\j<=v.length:=by
 have hp:=ip v d k t j h
 have I:k<v.length:=by omega
 have G:∀sub,(∀z,sub=some z->Put v z)->fW v sub k=some (t,j)->bZ v[k]/\0<=v[k].2.2.2/\k+1+v[k].2.2.2.toNat<=j:=by
  intro sub J y
  unfold fW at y
  rw[av I]at y
  simp only at y
  split at y
  ·cases y
  ·rename_i hf
   have A:=Classical.not_not.1 hf
   obtain⟨N,O⟩:=Az A
   split at y
   ·cases sub with
    | none=>cases y
    | some z=>
     simp only at y
     split at y
     ·cases y
     ·rename_i R U B
      cases y
      have:=nZ (J z rfl) _ _ _ _ _ _ _ (by omega) B
      exact⟨A,N,by omega⟩
   ·rename_i B
    cases y
    have:=O B
    exact⟨A,N,by omega⟩
 refine⟨I,?_⟩
 cases d with
 | zero=>
  obtain⟨a,b,c⟩:=G none (by simp) h
  exact⟨a,b,c,by omega⟩
 | succ d=>
  obtain⟨a,b,c⟩:=G (some (cq d v)) (by intro z hw; cases hw; exact ip v d) h
  exact⟨a,b,c,by omega⟩
theorem Is (a x:Int):F.UI [a] x=some (x == a):=by
 unfold F.UI F.Ze
 by_cases h:x=a
 ·have hs:F.Tv [a] x 0=some (.inr 0):=by
   simp[F.Tv,aw,h]; rfl
  rw[bD hs,aa]; simp[h]
 ·have hs:F.Tv [a] x 0=some (.inl 1):=by
   simp[F.Tv,aw,h]; rfl
  have j:F.Tv [a] x 1=some (.inr (-1)):=rfl
  rw[bn hs,bD j,aa]; simp[h]
theorem GS (a b x:Int):F.UI [a,b] x=some (x == a || x == b):=by
 unfold F.UI F.Ze
 by_cases h:x=a
 ·have hs:F.Tv [a,b] x 0=some (.inr 0):=by
   simp[F.Tv,aw,h]; rfl
  rw[bD hs,aa]; simp[h]
 ·have hs:F.Tv [a,b] x 0=some (.inl 1):=by
   simp[F.Tv,aw,h]; rfl
  by_cases h2:x=b
  ·have j:F.Tv [a,b] x 1=some (.inr 1):=by
    simp[F.Tv,aw,h2]; rfl
   rw[bn hs,bD j,aa]; simp[h2]
  ·have j:F.Tv [a,b] x 1=some (.inl 2):=by
    simp[F.Tv,aw,h2]; rfl
   have k:F.Tv [a,b] x 2=some (.inr (-1)):=rfl
   rw[bn hs,bn j,bD k,aa]; simp[h,h2]
section
variable {v:List It} (hw:wt v<=4000000000000) (hK:Kd v) (hU:∀x∈v,x.2.2.1.length<=2000000)
include hw hK hU
end
section
variable {v:List It}
end
section
variable {v:List It} (hw:wt v<=4000000000000) (hK:Kd v) (hU:∀x∈v,x.2.2.1.length<=2000000)
include hw hK hU
end
theorem OW:F.TX=F.Yw:=rfl
theorem KQ {v:List It} {k:Wr} {j:List It}:∀{r i:Nat},0<=fH v k j r i->1<=r
 | 0,i,h=>by simp[fH]at h
 | r+1,i,h=>by omega
theorem I0 {v:List It} {k:Wr} {y z:List It} (A:y≠z):∀{r i:Nat},0<=fH v k y r i->0<=fH v k z r i->2<=r
 | 0,i,h,_=>by simp[fH]at h
 | 1,i,h,h2=>by
  exfalso
  simp only[fH]at h h2
  cases h4:k i with
  | none=>simp[h4]at h
  | some a=>
   obtain⟨t,j⟩:=a
   simp only[h4]at h h2
   cases h5:k j with
   | none=>
    simp only[h5]at h h2
    by_cases e1:seg v i j=y
    ·by_cases e2:seg v i j=z
     ·exact A (e1.symm.trans e2)
     ·simp[e2]at h2
    ·simp[e1]at h
   | some b=>
    obtain⟨B,G⟩:=b
    simp only[h5]at h h2
    by_cases e1:seg v i j=y
    ·by_cases e2:seg v i j=z
     ·exact A (e1.symm.trans e2)
     ·simp[e2]at h2
    ·simp[e1]at h
 | r+2,i,_,_=>by omega
section
variable {v:List It} (hw:wt v<=4000000000000) (hK:Kd v) (hU:∀x∈v,x.2.2.1.length<=2000000)
include hw hK hU
theorem tR (p:Int):(∀j,F.Ta v p j=some (-1)/\F.Z0 v p j=some (-1)) \/
  ∃(a d K k:Nat) (u:L01) (ha:a<v.length),p=(a:Int)/\v[a].1=5/\v[a].2.2.2=((2*K:Nat):Int)/\d<=32/\cQ (cq d v) true (2*K) true none (a+1)=some (u,k) /\
   ∀j,F.Ta v p j=some (fH v (cq d v) j K (a+1))/\F.Z0 v p j=some (fH v (cq d v) j K (a+1)):=by
 have hl:=mD v
 unfold F.Ta F.Z0
 rw[mU hw hK,sA hw hK hU]
 simp only[aa]
 by_cases h0:p<0
 ·have y:decide (p<0)=true:=by simpa using h0
  refine .inl fun j=>⟨by simp only[y,al,F.Ty],?_⟩
  simp only[y,al,F.Um,iM]
 ·have y:decide (p<0)=false:=by simpa using h0
  obtain⟨a,rfl⟩:=gw (Int.not_lt.1 h0)
  by_cases h1:v.length<=a
  ·have B:decide ((v.length:Int)<=(a:Int))=true:=by simp; omega
   refine .inl fun j=>⟨by simp only[y,B,al,ah,aj,F.Ty],?_⟩
   simp only[y,B,al,ah,aj,F.Um,iM]
  ·have B:decide ((v.length:Int)<=(a:Int))=false:=by simp; omega
   have ha:a<v.length:=by omega
   simp only[y,B,ah,aj,bz ha,aa]
   by_cases h5:v[a].1=5
   ·have G:(v[a].1 != 5)=false:=by simp[h5]
    simp only[G,ah,aj]
    cases hs:gd v with
    | false=>exact .inl fun j=>⟨by simp only[gr,F.Ty,al],by simp only[gr,F.Um,al]⟩
    | true=>
     obtain⟨d,t,k,hd,N⟩:=pu hs ha
     obtain⟨O,u,rfl,I,R,U⟩:=uT N ha h5
     obtain⟨K,z⟩:∃K:Nat,v[a].2.2.2=((2*K:Nat):Int):=⟨(v[a].2.2.2 / 2).toNat,by omega⟩
     rw[z,am]at I
     have V:=hK v[a] (cV ha)
     have A:wI (Int.tdiv v[a].2.2.2 2)=(K:Int):=by
      rw[z,bJ (by omega),aC (by omega) (by omega)]; omega
     have J:wI ((a:Int)+1)=((a+1:Nat):Int):=by rw[aC (by omega) (by omega)]; simp
     refine .inr ⟨a,O,K,k,u,ha,rfl,h5,z,by omega,I,fun j=>⟨?_,?_⟩⟩
     ·simp only[cF,F.Ty,ah,aj,bz ha,aa,J]
      exact nP (by omega) (by omega) j v[a] K A (by omega) K 0 (a+1) none u k I (by omega) (by omega)
     ·simp only[cF,F.Um,ah,aj,J]
      exact vX (by omega) (by omega) j a ha K A (by omega) K 0 (a+1) none u k I (by omega) (by omega)
   ·have G:(v[a].1 != 5)=true:=by simpa using h5
    refine .inl fun j=>⟨by simp only[G,al,F.Ty],?_⟩
    simp only[G,F.Um,al,iM]
theorem DB (p:Int):∃q1 q4:Int,F.Ta v p [(0,1,[],0)]=some q1/\F.Uo v p 1=some q1/\F.Ta v p [(0,4,[],0)]=some q4/\F.Uo v p 4=some q4 /\
  (q1=-1\/∃k:Nat,k<v.length/\q1=(k:Int))/\(q4=-1\/∃k:Nat,k<v.length/\q4=(k:Int)) /\
  ∀(a:Nat) (ha:a<v.length),p=(a:Int)->(v[a].1≠5->q1=-1/\q4=-1)/\(0<=q1->2<=v[a].2.2.2)/\(0<=q1->0<=q4->4<=v[a].2.2.2):=by
 rcases tR hw hK hU p with h | ⟨a,d,K,k,u,ha,rfl,A,O,hd,B,h⟩
 ·refine⟨-1,-1,(h _).1,by unfold F.Uo; rw[(h _).2]; rfl,(h _).1,by unfold F.Uo; rw[(h _).2]; rfl,.inl rfl,.inl rfl,fun a ha _=>⟨fun _=>⟨rfl,rfl⟩,fun h=>?_,fun h=>?_⟩⟩ <;> omega
 ·have y:∀j,fH v (cq d v) j K (a+1)=-1\/∃k:Nat,k<v.length/\fH v (cq d v) j K (a+1)=(k:Int):=fun j=>by
   rcases xc j K (a+1) none u k B with h | ⟨G,U,V,h,I⟩
   ·exact .inl h
   ·exact .inr ⟨G,(s8 I).1,h⟩
  refine⟨_,_,(h _).1,by unfold F.Uo; rw[(h _).2]; rfl,(h _).1,by unfold F.Uo; rw[(h _).2]; rfl,y _,y _,fun J R e=>?_⟩
  have:J=a:=by omega
  subst this
  refine⟨fun hn=>absurd A hn,fun z=>?_,fun z N=>?_⟩
  ·have:=KQ z; omega
  ·have:=I0 (by simp) z N; omega
def dat (v:List It) (q:Int):L01:=if 0<=q then ((v[q.toNat]?).map (·.2.2.1)).getD [] else []
theorem Gy (p q4:Int) (h:F.Uo v p 4=some q4) (y:q4=-1\/∃k:Nat,k<v.length/\q4=(k:Int)) :
  ∃ok,F.abC v p=some (dat v q4,decide (0<=q4),ok)/\(q4=-1->ok=true)/\∀(k:Nat) (j:k<v.length),q4=(k:Int)->ok=(v[k].1 == 2):=by
 unfold F.abC
 rw[h,aa]
 rcases y with rfl | ⟨k,j,rfl⟩
 ·refine⟨true,rfl,fun _=>rfl,fun k j e=>?_⟩; omega
 ·have z:decide ((k:Int)<0)=false:=au (by omega)
  have A:decide ((0:Int)<=(k:Int))=true:=ai (by omega)
  have B:dat v (k:Int)=v[k].2.2.1:=by simp[dat,j]
  refine⟨v[k].1 == 2,by simp only[z,ah,aj,bz j,aa,A,B],fun h=>by omega,fun G I e=>?_⟩
  have:G=k:=by omega
  subst this; rfl
theorem Gv (a:Nat) (ha:a<v.length) (hv:v.length<=100000000000):∃j q4 ok,F.Uo v (a:Int) 1=some j/\F.abC v (a:Int)=some (dat v q4,decide (0<=q4),ok) /\
  F.Tj v (a:Int)=some (j,q4,(v[a].2.2.2 == 2*((if 0<=j then 1 else 0)+(if 0<=q4 then 1 else 0)))&&ok) /\
  (j=-1\/∃k:Nat,k<v.length/\j=(k:Int))/\(q4=-1\/∃k:Nat,k<v.length/\q4=(k:Int)) /\
  (v[a].1≠5->j=-1/\q4=-1)/\(0<=j->2<=v[a].2.2.2)/\(0<=j->0<=q4->4<=v[a].2.2.2):=by
 obtain⟨j,q4,J,N,O,R,U,z,hA⟩:=DB hw hK hU (a:Int)
 obtain⟨ok,V,A,B⟩:=Gy hw hK hU (a:Int) q4 R z
 refine⟨j,q4,ok,N,V,?_,U,z,hA a ha rfl⟩
 have X:∀n:Int,0<=n->n<=5->F.S3 1 v (a:Int) n=some (j,(a:Int),n+(if 0<=j then 1 else 0)):=fun n hn G=>by
  unfold F.S3
  rw[J,aa]
  by_cases h:0<=j
  ·simp only[h,gp,al,F.UV,aC (show -9223372036854775808<=n+1 by omega) (by omega)]
  ·simp only[h,dg,ah,aj,F.UV,Int.add_zero]
 have Y:∀n:Int,0<=n->n<=5->F.S3 4 v (a:Int) n=some (q4,(a:Int),n+(if 0<=q4 then 1 else 0)):=fun n hn G=>by
  unfold F.S3
  rw[O,aa]
  by_cases h:0<=q4
  ·simp only[h,gp,al,F.UV,aC (show -9223372036854775808<=n+1 by omega) (by omega)]
  ·simp only[h,dg,ah,aj,F.UV,Int.add_zero]
 unfold F.Tj
 have I:0<=(0:Int)+(if 0<=j then 1 else 0)/\(0:Int)+(if 0<=j then 1 else 0)<=1:=by split <;> omega
 have ab:0<=(0:Int)+(if 0<=j then 1 else 0)+(if 0<=q4 then 1 else 0)/\(0:Int)+(if 0<=j then 1 else 0)+(if 0<=q4 then 1 else 0)<=2:=by
  split <;> split <;> omega
 rw[X 0 (by omega) (by omega),aa,Y _ I.1 (by omega),aa]
 simp only[bz ha,aa]
 rw[aC (by omega) (by omega),Int.zero_add]
 cases he:(v[a].2.2.2 == 2*((if 0<=j then 1 else 0)+(if 0<=q4 then 1 else 0)))
 ·simp
 ·simp only[al,dP]
  rcases z with rfl | ⟨k,y,rfl⟩
  ·rw[A rfl]; rfl
  ·have Z:decide ((k:Int)<0)=false:=au (by omega)
   simp only[Z,ah,aj,bz y,aa,B k y rfl]
end
theorem J2 {v:List It} {d a k:Nat} {t:L01} (h:cq d v a=some (t,k)) (ha:a<v.length) (B:v[a].1=4) :
  ∃A u,d=A+1/\cQ (cq A v) false v[a].2.2.2.toNat true none (a+1)=some (u,k):=by
 have z:∀sub,fW v sub a=some (t,k)->∃y u,sub=some y/\cQ y false v[a].2.2.2.toNat true none (a+1)=some (u,k):=by
  intro sub j
  unfold fW at j
  rw[av ha]at j
  simp only at j
  split at j
  ·cases j
  ·rw[ag (by omega)]at j
   cases sub with
   | none=>cases j
   | some y=>
    simp only at j
    have G:(v[a].1 == 5)=false:=by rw[B]; rfl
    rw[G]at j
    split at j
    ·cases j
    ·rename_i I O J
     cases j
     exact⟨y,I,rfl,J⟩
 cases d with
 | zero=>obtain⟨y,u,j,_⟩:=z none h; cases j
 | succ d=>
  obtain⟨y,u,j,N⟩:=z _ h
  cases j
  exact⟨d,u,rfl,N⟩
theorem oC {v:List It} {d a k:Nat} {t:L01} (h:cq d v a=some (t,k)) (ha:a<v.length) (z:v[a].1=2):k=a+1:=by
 have y:∀sub,fW v sub a=some (t,k)->k=a+1:=by
  intro sub j
  unfold fW at j
  rw[av ha]at j
  simp only at j
  split at j
  ·cases j
  ·rw[ae (by omega)]at j
   cases j; rfl
 cases d with
 | zero=>exact y none h
 | succ d=>exact y _ h
theorem jU {rec:Wr} {r:Nat} {b:Bool} {l:Option L01} {i k:Nat} {u:L01} (h:cQ rec false (r+1) b l i=some (u,k)):∃t j y,rec i=some (t,j)/\cQ rec false r (!b) l j=some (y,k):=by
 simp only[cQ,ee,ah,aj]at h
 cases h1:rec i with
 | none=>rw[h1]at h; cases h
 | some a=>
  obtain⟨t,j⟩:=a
  rw[h1]at h
  simp only at h
  cases h2:cQ rec false r (!b) l j with
  | none=>rw[h2]at h; cases h
  | some e=>
   obtain⟨y,z⟩:=e
   rw[h2]at h
   cases h
   exact⟨t,j,y,rfl,h2⟩
theorem JP {v:List It} (hs:gd v=true) {a:Nat} (ha:a<v.length) (B:v[a].1=4) (hn:v[a].2.2.2=4) (G:a+1<v.length) (I:v[a+1].1=2) :
  ∃d t j,d<=32/\cq d v (a+2)=some (t,j)/\j+1<v.length/\a+2<v.length:=by
 obtain⟨d,t,k,hd,J⟩:=pu hs ha
 obtain⟨y,u,rfl,z⟩:=J2 J ha B
 rw[hn]at z
 obtain⟨t1,j1,u1,N,O⟩:=jU (r:=3) z
 obtain⟨R,U,u2,A,V⟩:=jU (r:=2) O
 obtain⟨t3,j3,u3,X,Y⟩:=jU (r:=1) V
 obtain⟨t4,j4,u4,Z,k4⟩:=jU (r:=0) Y
 have:=oC N G I
 subst this
 have p2:=ip v y _ _ _ A
 have p3:=ip v y _ _ _ X
 have p4:=ip v y _ _ _ Z
 exact⟨y,R,U,by omega,A,by omega,by omega⟩
theorem kI {v:List It} (hs:gd v=true) {a:Nat} (ha:a<v.length):0<=v[a].2.2.2/\a+1+v[a].2.2.2.toNat<=v.length/\bZ v[a]:=by
 obtain⟨d,t,k,hd,j⟩:=pu hs ha
 obtain⟨_,b,c,e,f⟩:=s8 j
 exact⟨c,by omega,b⟩
section
variable {v:List It} (hw:wt v<=4000000000000) (hK:Kd v) (hU:∀x∈v,x.2.2.1.length<=2000000)
include hw hK hU
theorem sE (hs:gd v=true) {a d j:Nat} {t:L01} (ha:a<v.length) (hd:d<=32) (k:cq d v a=some (t,j)):F.Ul v (a:Int)=some (j:Int)/\F.abP v (a:Int)=some (j:Int):=by
 have hl:=mD v
 unfold F.Ul F.abP
 rw[mU hw hK,sA hw hK hU]
 simp only[aa,hs,cF,ah,aj]
 have y:decide ((a:Int)<0)=false:=au (by omega)
 have:decide ((v.length:Int)<=(a:Int))=false:=by simp; omega
 exact⟨by simp only[y,this,ah,aj,F.Wy,nT (by omega) hd k,aa],by simp only[y,this,ah,aj,F.aam,qL (by omega) hd k,aa]⟩
end
theorem OT (n:Nat):UInt8.ofInt (n:Int)=UInt8.ofNat n:=by
 apply dz.1
 simp[UInt8.ofInt]
 omega
theorem qg (n k:Nat) (j:k<=64) (hn:n<4294967296):UInt8.ofInt (jw (n:Int) k)=(bb (UInt64.ofNat n) k).toUInt8:=by
 have e:jw (n:Int) k=((n / 2^k:Nat):Int):=by
  unfold jw
  have y:(2:Int)^k=((2^k:Nat):Int):=by simp
  rw[bf j,y,fT _ (dx _),Int.natCast_ediv]
 rw[e,OT]
 apply dz.1
 have z:n / 2^k<=n:=dy _ _
 unfold bb
 rw[bf j]
 simp only[dZ,ic,bS]
 rw[az (show n<2^64 by omega),az (show n / 2^k<2^64 by omega)]
theorem zT (n:Nat) (hn:n<4294967296):UInt8.ofInt (n:Int)=(bb (UInt64.ofNat n) 0).toUInt8:=by
 have:=qg n 0 (by omega) hn
 rwa [show jw (n:Int) 0=(n:Int) by simp[jw]]at this
theorem lf0:∀(m:Fin 8) (k:Fin 24),(oM (UInt8.ofNat m.val) 5) ||| (UInt8.ofInt (k.val:Int))=UInt8.ofNat (32*m.val)+(UInt64.ofNat k.val).toUInt8:=by decide
theorem lf1:∀(m:Fin 8),(oM (UInt8.ofNat m.val) 5) ||| 24=UInt8.ofNat (32*m.val+24+0):=by decide
theorem lf2:∀(m:Fin 8),(oM (UInt8.ofNat m.val) 5) ||| 25=UInt8.ofNat (32*m.val+24+1):=by decide
theorem lf3:∀(m:Fin 8),(oM (UInt8.ofNat m.val) 5) ||| 26=UInt8.ofNat (32*m.val+24+2):=by decide
theorem wv (n c:Nat) (hn:n<4294967296) (hc:c<18446744073709551616):(UInt64.ofNat n<UInt64.ofNat c)=(n<c):=by
 rw[bh,bS,bS,az (by omega),az (by omega)]
theorem nF (m:Fin 8) (out b:L01) (N:out.length<=1000000000) (hb:b.length<1000000000):F.TY out (UInt8.ofNat m.val) b=some (out++hd m.val (UInt64.ofNat b.length)++b):=by
 have y:=wv b.length 24 (by omega) (by omega)
 have k:=wv b.length 256 (by omega) (by omega)
 have j:=wv b.length 65536 (by omega) (by omega)
 have G:=wv b.length 4294967296 (by omega) (by omega)
 have c:∀(h:L01),h.length<=10->af (apO 1 out h) (fun x=>F.Xt b x)=some (out++h++b):=fun h hh=>by
  rw[im (by simp; omega),aa]
  show af (apO 1 (out++h) b) (fun x=>some x)=_
  rw[im (by simp; omega),aa]
 unfold F.TY hd wd
 by_cases h1:b.length<24
 ·have z:decide ((b.length:Int)<24)=true:=ai (by omega)
  rw[z,ag rfl,c _ (by simp)]
  have:(UInt64.ofNat b.length<24):=by rw[show (24:UInt64)=UInt64.ofNat 24 from rfl,y]; exact h1
  rw[ag this,ag rfl,lf0 m ⟨b.length,h1⟩]
 have z:decide ((b.length:Int)<24)=false:=au (by omega)
 have n1:¬(UInt64.ofNat b.length<24):=by rw[show (24:UInt64)=UInt64.ofNat 24 from rfl,y]; exact h1
 rw[z,ae n1]
 simp only[ah,aj]
 by_cases h2:b.length<256
 ·have A:decide ((b.length:Int)<256)=true:=ai (by omega)
  rw[A,ag rfl,c _ (by simp)]
  have:(UInt64.ofNat b.length<256):=by rw[show (256:UInt64)=UInt64.ofNat 256 from rfl,k]; exact h2
  rw[ag this,ae (by omega),lf1 m,zT _ (by omega)]
  rfl
 have A:decide ((b.length:Int)<256)=false:=au (by omega)
 have I:¬(UInt64.ofNat b.length<256):=by rw[show (256:UInt64)=UInt64.ofNat 256 from rfl,k]; exact h2
 rw[A,ae I]
 simp only[ah,aj]
 by_cases h3:b.length<65536
 ·have B:decide ((b.length:Int)<65536)=true:=ai (by omega)
  rw[B,ag rfl,c _ (by simp)]
  have:(UInt64.ofNat b.length<65536):=by rw[show (65536:UInt64)=UInt64.ofNat 65536 from rfl,j]; exact h3
  rw[ag this,ae (by omega),lf2 m,zT _ (by omega),qg _ 8 (by omega) (by omega)]
  rfl
 have B:decide ((b.length:Int)<65536)=false:=au (by omega)
 have J:¬(UInt64.ofNat b.length<65536):=by rw[show (65536:UInt64)=UInt64.ofNat 65536 from rfl,j]; exact h3
 rw[B,ae J]
 simp only[ah,aj]
 have:(UInt64.ofNat b.length<4294967296):=by rw[show (4294967296:UInt64)=UInt64.ofNat 4294967296 from rfl,G]; omega
 rw[c _ (by simp),ag this,ae (by omega),lf3 m,zT _ (by omega),qg _ 8 (by omega) (by omega),qg _ 16 (by omega) (by omega),qg _ 24 (by omega) (by omega)]
 rfl
theorem w0:wI (2*0)=0:=by decide
theorem w2:wI (2*1)=2:=by decide
theorem w4:wI (2*2)=4:=by decide
def RB (x:Option (Int×L01×L01×L01×L01×Int)) (y:Option (L01×L01×L01×L01×Int×Int)):Prop:=
 ∃alg p k z s st,x=some (alg,p,k,z,s,st)/\y=some (p,k,z,s,alg,st)/\p.length<=2000000/\k.length<=2000000/\z.length<=2000000/\s.length<=2000000
theorem RB.fail (e:Int):RB (some (0,[],[],[],[],e)) (some ([],[],[],[],0,e)):=⟨0,[],[],[],[],e,rfl,rfl,by simp,by simp,by simp,by simp⟩
section
variable {v:List It} (hw:wt v<=4000000000000) (hK:Kd v) (hU:∀x∈v,x.2.2.1.length<=2000000)
include hw hK hU
end
theorem a1:kU [210,132,67,161,1,38,161,4,65,107,65,97,64]=([(6,18,[],1),(4,0,[],4),(2,0,[161,1,38],0),(5,0,[],2),(0,4,[],0),(2,0,[107],0),(2,0,[97],0),(2,0,[],0)],0,0):=by kernel_rfl
theorem a2:kU [161,1,38]=([(5,0,[],2),(0,1,[],0),(1,6,[],0)],0,0):=by kernel_rfl
theorem a3:kU [132,67,161,1,36,160,64,64]=([(4,0,[],4),(2,0,[161,1,36],0),(5,0,[],0),(2,0,[],0),(2,0,[],0)],0,0):=by kernel_rfl
theorem a4:kU [161,1,36]=([(5,0,[],2),(0,1,[],0),(1,4,[],0)],0,0):=by kernel_rfl
theorem a5:kU [162,1,97,105,4,10]=([(5,0,[],4),(0,1,[],0),(3,0,[105],0),(0,4,[],0),(0,10,[],0)],0,0):=by kernel_rfl
theorem a6:kU [128]=([(4,0,[],0)],0,0):=by kernel_rfl
theorem sQ {v:List It} (hw:wt v<=4000000000000) (hK:Kd v) (hs:gd v=true) {a K:Nat} (ha:a<v.length) (B:v[a].1=5) (hn:v[a].2.2.2=((2*K:Nat):Int))
  (z:(cQ (cq 8 v) true (2*K) true none (a+1)).isSome=true) (O:K<=1000000) (j:List It):F.Ta v (a:Int) j=some (fH v (cq 8 v) j K (a+1)):=by
 have hl:=mD v
 obtain⟨⟨u,k⟩,G⟩:=Option.isSome_iff_exists.1 z
 unfold F.Ta
 rw[mU hw hK,aa]
 have I:decide ((a:Int)<0)=false:=au (by omega)
 have J:decide ((v.length:Int)<=(a:Int))=false:=by simp; omega
 have N:(v[a].1 != 5)=false:=by simp[B]
 have y:wI (Int.tdiv v[a].2.2.2 2)=(K:Int):=by
  rw[hn,bJ (by omega),aC (by omega) (by omega)]; omega
 have A:wI ((a:Int)+1)=((a+1:Nat):Int):=by rw[aC (by omega) (by omega)]; simp
 simp only[I,J,ah,aj,bz ha,aa,N,hs,cF,F.Ty,A]
 exact nP (by omega) (by omega) j v[a] K y (by omega) K 0 (a+1) none u k G (by omega) (by omega)
def V1:List It:=[(6,18,[],1),(4,0,[],4),(2,0,[161,1,38],0),(5,0,[],2),(0,4,[],0),(2,0,[107],0),(2,0,[97],0),(2,0,[],0)]
def V2:List It:=[(5,0,[],2),(0,1,[],0),(1,6,[],0)]
def V3:List It:=[(4,0,[],4),(2,0,[161,1,36],0),(5,0,[],0),(2,0,[],0),(2,0,[],0)]
def V4:List It:=[(5,0,[],2),(0,1,[],0),(1,4,[],0)]
def V5:List It:=[(5,0,[],4),(0,1,[],0),(3,0,[105],0),(0,4,[],0),(0,10,[],0)]
theorem rz {v:List It} (h:v.all (fun x=>decide (x.2.2.2<=1000))=true):Kd v:=fun x hx=>by
 have:=ci.1 h x hx
 have:x.2.2.2<=1000:=by simpa using this
 omega
theorem mV1 (j:List It):F.Ta V1 3 j=some (fH V1 (cq 8 V1) j 1 4):=sQ (v:=V1) (a:=3) (K:=1) (by decide) (rz (by decide)) (by kernel_rfl) (by decide) rfl rfl (by kernel_rfl) (by omega) j
theorem mV2 (j:List It):F.Ta V2 0 j=some (fH V2 (cq 8 V2) j 1 1):=sQ (v:=V2) (a:=0) (K:=1) (by decide) (rz (by decide)) (by kernel_rfl) (by decide) rfl rfl (by kernel_rfl) (by omega) j
theorem mV3 (j:List It):F.Ta V3 2 j=some (fH V3 (cq 8 V3) j 0 3):=sQ (v:=V3) (a:=2) (K:=0) (by decide) (rz (by decide)) (by kernel_rfl) (by decide) rfl rfl (by kernel_rfl) (by omega) j
theorem mV4 (j:List It):F.Ta V4 0 j=some (fH V4 (cq 8 V4) j 1 1):=sQ (v:=V4) (a:=0) (K:=1) (by decide) (rz (by decide)) (by kernel_rfl) (by decide) rfl rfl (by kernel_rfl) (by omega) j
theorem mV5 (j:List It):F.Ta V5 0 j=some (fH V5 (cq 8 V5) j 2 1):=sQ (v:=V5) (a:=0) (K:=2) (by decide) (rz (by decide)) (by kernel_rfl) (by decide) rfl rfl (by kernel_rfl) (by omega) j
theorem Rj:fH V1 (cq 8 V1) [(0,1,[],0)] 1 4=-1:=by kernel_rfl
theorem R9:fH V1 (cq 8 V1) [(0,4,[],0)] 1 4=5:=by kernel_rfl
theorem SA:fH V2 (cq 8 V2) [(0,1,[],0)] 1 1=2:=by kernel_rfl
theorem RW:fH V2 (cq 8 V2) [(0,4,[],0)] 1 1=-1:=by kernel_rfl
theorem PL (j:List It):fH V3 (cq 8 V3) j 0 3=-1:=rfl
theorem Sk:fH V4 (cq 8 V4) [(0,1,[],0)] 1 1=2:=by kernel_rfl
theorem R4:fH V4 (cq 8 V4) [(0,4,[],0)] 1 1=-1:=by kernel_rfl
theorem SK:fH V5 (cq 8 V5) [(0,1,[],0)] 2 1=2:=by kernel_rfl
theorem SC:fH V5 (cq 8 V5) [(0,2,[],0)] 2 1=-1:=by kernel_rfl
theorem Sp:fH V5 (cq 8 V5) [(0,3,[],0)] 2 1=-1:=by kernel_rfl
theorem RH:fH V5 (cq 8 V5) [(0,4,[],0)] 2 1=4:=by kernel_rfl
theorem RG:fH V5 (cq 8 V5) [(0,5,[],0)] 2 1=-1:=by kernel_rfl
theorem Si:fH V5 (cq 8 V5) [(0,6,[],0)] 2 1=-1:=by kernel_rfl
theorem Rx:fH V5 (cq 8 V5) [(0,7,[],0)] 2 1=-1:=by kernel_rfl
theorem bV1:F.Ul V1 3=some 6:=by
 have hK:Kd V1:=rz (by decide)
 have k:∃t,cq 8 V1 3=some (t,6):=by
  have:(cq 8 V1 3).map Prod.snd=some 6:=by kernel_rfl
  obtain⟨⟨t,j⟩,z,y⟩:=Option.map_eq_some_iff.1 this
  simp only at y; subst y; exact⟨t,z⟩
 obtain⟨t,k⟩:=k
 exact (sE (v:=V1) (by decide) hK (by decide) (by kernel_rfl) (a:=3) (by decide) (by omega) k).1
theorem bV3:F.Ul V3 2=some 3:=by
 have hK:Kd V3:=rz (by decide)
 have k:∃t,cq 8 V3 2=some (t,3):=by
  have:(cq 8 V3 2).map Prod.snd=some 3:=by kernel_rfl
  obtain⟨⟨t,j⟩,z,y⟩:=Option.map_eq_some_iff.1 this
  simp only at y; subst y; exact⟨t,z⟩
 obtain⟨t,k⟩:=k
 exact (sE (v:=V3) (by decide) hK (by decide) (by kernel_rfl) (a:=2) (by decide) (by omega) k).1
theorem hV1:F.Tj V1 3=some (-1,5,true):=by
 have j:F.S3 1 V1 3 0=some (-1,3,0):=by unfold F.S3; rw[mV1,Rj]; rfl
 have k:F.S3 4 V1 3 0=some (5,3,1):=by unfold F.S3; rw[mV1,R9]; rfl
 unfold F.Tj
 rw[j,aa,k,aa]
 rfl
theorem hV2:F.Tj V2 0=some (2,-1,true):=by
 have j:F.S3 1 V2 0 0=some (2,0,1):=by unfold F.S3; rw[mV2,SA]; rfl
 have k:F.S3 4 V2 0 1=some (-1,0,1):=by unfold F.S3; rw[mV2,RW]; rfl
 unfold F.Tj
 rw[j,aa,k,aa]
 rfl
theorem hV3:F.Tj V3 2=some (-1,-1,true):=by
 have j:F.S3 1 V3 2 0=some (-1,2,0):=by unfold F.S3; rw[mV3,PL]; rfl
 have k:F.S3 4 V3 2 0=some (-1,2,0):=by unfold F.S3; rw[mV3,PL]; rfl
 unfold F.Tj
 rw[j,aa,k,aa]
 rfl
theorem hV4:F.Tj V4 0=some (2,-1,true):=by
 have j:F.S3 1 V4 0 0=some (2,0,1):=by unfold F.S3; rw[mV4,Sk]; rfl
 have k:F.S3 4 V4 0 1=some (-1,0,1):=by unfold F.S3; rw[mV4,R4]; rfl
 unfold F.Tj
 rw[j,aa,k,aa]
 rfl
theorem rV1:F.TK V1=some (10,[161,1,38],[107],[97],[],0):=by
 have j:F.TO V1 1 6 false=some (10,[161,1,38],[107],[97],[],0):=by
  have g:aw V1 (wI ((1:Int)+1):Int)=some (2,0,[161,1,38],0):=rfl
  unfold F.TO
  simp only[ah,aj]
  rw[g,aa,show aw V1 (6:Int)=some (2,0,[97],0) from rfl,aa,show aw V1 (wI ((6:Int)+1))=some (2,0,[],0) from rfl,aa]
  simp only
  rw[lQ,a2,aa]
  show (if ((0:Int) != 0)=true then _ else af (aw V2 (0:Int)) _)=_
  rw[ae (by decide),show aw V2 (0:Int)=some (5,0,[],2) from rfl,aa]
  show (if ((5:Int) != 5)=true then _ else af (F.Tj V2 0) _)=_
  rw[ae (by decide),hV2,aa,show wI ((1:Int)+2)=3 from rfl,hV1,aa]
  rfl
 unfold F.TK
 rw[show aw V1 (0:Int)=some (6,18,[],1) from rfl,aa]
 show F.T9 V1 1=_
 show F.TJ V1 1 false=_
 unfold F.TJ
 simp only[ah,aj]
 rw[show wI ((1:Int)+2)=3 from rfl,bV1,aa]
 exact j
theorem rV3:F.TK V3=some (0,[],[],[],[],111):=by
 have j:F.TO V3 0 3 false=some (0,[],[],[],[],111):=by
  have g:aw V3 (wI ((0:Int)+1):Int)=some (2,0,[161,1,36],0):=rfl
  unfold F.TO
  simp only[ah,aj]
  rw[g,aa,show aw V3 (3:Int)=some (2,0,[],0) from rfl,aa,show aw V3 (wI ((3:Int)+1))=some (2,0,[],0) from rfl,aa]
  simp only
  rw[lQ,a4,aa]
  show (if ((0:Int) != 0)=true then _ else af (aw V4 (0:Int)) _)=_
  rw[ae (by decide),show aw V4 (0:Int)=some (5,0,[],2) from rfl,aa]
  show (if ((5:Int) != 5)=true then _ else af (F.Tj V4 0) _)=_
  rw[ae (by decide),hV4,aa,show wI ((0:Int)+2)=2 from rfl,hV3,aa]
  rfl
 unfold F.TK
 rw[show aw V3 (0:Int)=some (4,0,[],4) from rfl,aa]
 show F.T9 V3 0=_
 show F.TJ V3 0 false=_
 unfold F.TJ
 simp only[ah,aj]
 rw[show wI ((0:Int)+2)=2 from rfl,bV3,aa]
 exact j
def X1:L01:=[132,106,83,105,103,110,97,116,117,114,101,49,67,161,1,38,64,65,97]
theorem Qz:F.Tu [210,132,67,161,1,38,161,4,65,107,65,97,64] []=some (10,[107],[97],[],X1,0):=by
 unfold F.Tu
 show F.T0 _ _ false=_
 unfold F.T0
 simp only[ah,aj]
 rw[lQ,a1,aa]
 show (if ((0:Int) != 0)=true then _ else af (F.TK V1) _)=_
 rw[ae (by decide),rV1,aa]
 have k:F.TY [132] 3 [83,105,103,110,97,116,117,114,101,49]=some ([132]++hd 3 (UInt64.ofNat 10)++[83,105,103,110,97,116,117,114,101,49]):=nF 3 _ _ (by simp) (by simp)
 have j:∀o x:L01,o.length<=1000000000->x.length<1000000000->F.TY o 2 x=some (o++hd 2 (UInt64.ofNat x.length)++x):=fun o x y hx=>nF 2 o x y hx
 have z:([132]++hd 3 (UInt64.ofNat 10)++[83,105,103,110,97,116,117,114,101,49]:L01)=[132,106,83,105,103,110,97,116,117,114,101,49]:=by kernel_rfl
 have A:([132,106,83,105,103,110,97,116,117,114,101,49]++hd 2 (UInt64.ofNat [161,1,(38:UInt8)].length)++[161,1,38]:L01)=[132,106,83,105,103,110,97,116,117,114,101,49,67,161,1,38]:=by kernel_rfl
 have B:([132,106,83,105,103,110,97,116,117,114,101,49,67,161,1,38]++hd 2 (UInt64.ofNat ([]:L01).length)++[]:L01)=[132,106,83,105,103,110,97,116,117,114,101,49,67,161,1,38,64]:=by kernel_rfl
 have G:([132,106,83,105,103,110,97,116,117,114,101,49,67,161,1,38,64]++hd 2 (UInt64.ofNat [(97:UInt8)].length)++[97]:L01)=X1:=by kernel_rfl
 rw[ae (by decide),k,z,aa,j _ _ (by simp) (by simp),A,aa,j _ _ (by simp) (by simp),B,aa,j _ _ (by simp) (by simp),G,aa]
 rw[grd_true _ (by simp),grd_true _ (by simp),grd_true _ (by simp)]
theorem QC:F.Tu [132,67,161,1,36,160,64,64] []=some (0,[],[],[],[],111):=by
 unfold F.Tu
 show F.T0 _ _ false=_
 unfold F.T0
 simp only[ah,aj]
 rw[lQ,a3,aa]
 show (if ((0:Int) != 0)=true then _ else af (F.TK V3) _)=_
 rw[ae (by decide),rV3,aa]
 rfl
theorem C1 (n:UInt64) (a:List Int) (k:Bool):F.Uy n a V5 k=af (some (fH V5 (cq 8 V5) [(0,n,[],0)] 2 1)) fun j=>
  if k=true then F.VY j true else if (decide ((0:Int)<=j))=true then af (aw V5 (j:Int)) fun y=>af (F.UI a y.1) fun z=>F.VY j (!z) else F.VY j false:=by
 unfold F.Uy
 rw[mV5]
theorem DS (n:UInt64) (m:Int) (h:fH V5 (cq 8 V5) [(0,n,[],0)] 2 1=-1):F.TR n m V5 false=some ([],false,false):=by
 unfold F.TR
 rw[C1,h]; rfl
theorem DT (n:UInt64) (h:fH V5 (cq 8 V5) [(0,n,[],0)] 2 1=-1):F.TS n false V5=some (false,0,false):=by
 unfold F.TS
 rw[C1,h]; rfl
theorem SH:F.TR 1 3 V5 false=some ([105],true,false):=by
 unfold F.TR
 rw[C1,SK,aa,ae (by decide),ag (by decide),show aw V5 (2:Int)=some (3,0,[105],0) from rfl,aa,Is]
 rfl
theorem Ru:F.TS 4 false V5=some (true,10,false):=by
 unfold F.TS
 rw[C1,RH,aa,ae (by decide),ag (by decide),show aw V5 (4:Int)=some (0,10,[],0) from rfl,aa,GS]
 rfl
theorem So:F.Uy 3 [3,4] V5 false=some (-1,false):=by rw[C1,Sp]; rfl
theorem Pj:F.U8 [162,1,97,105,4,10]=some ([],[105],true,[],false,[],false,[],false,true,10,false,0,false,0,0):=by
 unfold F.U8
 rw[lQ,a5,aa]
 show (if ((0:Int) != 0)=true then _ else af (aw V5 (0:Int)) _)=_
 rw[ae (by decide),show aw V5 (0:Int)=some (5,0,[],4) from rfl,aa]
 show (if ((5:Int) != 5)=true then _ else af (F.TR 1 3 V5 false) _)=_
 rw[ae (by decide),SH,aa]
 show af (F.TR 2 3 V5 false) _=_
 rw[DS 2 3 SC,aa]
 show af (F.TS 4 false V5) _=_
 rw[Ru,aa]
 show af (F.TS 5 false V5) _=_
 rw[DT 5 RG,aa]
 show af (F.TS 6 false V5) _=_
 rw[DT 6 Si,aa]
 show af (F.TR 7 2 V5 false) _=_
 rw[DS 7 2 Rx,aa]
 show af (F.Uy 3 [3,4] V5 false) _=_
 rw[So,aa]
 rfl
theorem OC:F.U8 [128]=some ([],[],false,[],false,[],false,[],false,false,0,false,0,false,0,130):=by
 unfold F.U8
 rw[lQ,a6,aa]
 rfl
theorem Fu:F.X9=some true:=by
 unfold F.X9
 rw[Qz,aa]
 show (if ((0:Int) != 0)=true then _ else _)=_
 rw[ae (by decide)]
 show (if ((10:Int) != 10)=true then _ else _)=_
 rw[ae (by decide),OW]
 show af (F.Yw [107] [107]) _=_
 rw[ux _ _ (by simp),aa,ae (by decide)]
 show af (F.Yw [97] [97]) _=_
 rw[ux _ _ (by simp),aa,ae (by decide)]
 show F.T1 false=_
 unfold F.T1
 rw[ae (by decide),QC,aa,Pj,aa,OC]
 rfl
theorem F5 {x:It} (h:bZ x) (j:x.1=2):x=(2,0,x.2.2.1,0):=by
 obtain⟨a,b,c,d⟩:=x
 simp only at j
 subst j
 simp[bZ]at h ⊢
 exact h
theorem SU {x:It} (h:bZ x) (j:x.1=4) (hn:x.2.2.2=4):x=(4,0,[],4):=by
 obtain⟨a,b,c,d⟩:=x
 simp only at j hn
 subst j hn
 simp[bZ]at h ⊢
 exact h
theorem Pd {x:It} {n:Int} (h:bZ x) (j:x.1=5) (hn:x.2.2.2=n):x=(5,0,[],n):=by
 obtain⟨a,b,c,d⟩:=x
 simp only at j hn
 subst j hn
 simp[bZ]at h ⊢
 exact⟨h.1,h.2.1⟩
theorem RX {x:It} (h:bZ x) (j:x.1=6) (hn:x.2.1=18):x=(6,18,[],1):=by
 obtain⟨a,b,c,d⟩:=x
 simp only at j hn
 subst j hn
 simp[bZ]at h ⊢
 exact h
theorem BO {v:List It} {d a k:Nat} {t:L01} (h:cq d v a=some (t,k)) (ha:a<v.length) (z:v[a].1=4\/v[a].1=6) :
  ∃B u,d=B+1/\cQ (cq B v) false v[a].2.2.2.toNat true none (a+1)=some (u,k):=by
 have A:∀sub,fW v sub a=some (t,k)->∃y u,sub=some y/\cQ y false v[a].2.2.2.toNat true none (a+1)=some (u,k):=by
  intro sub j
  unfold fW at j
  rw[av ha]at j
  simp only at j
  split at j
  ·cases j
  ·rw[ag (by omega)]at j
   cases sub with
   | none=>cases j
   | some y=>
    simp only at j
    have G:(v[a].1 == 5)=false:=by rcases z with z | z <;> (rw[z]; rfl)
    rw[G]at j
    split at j
    ·cases j
    ·rename_i I O J
     cases j
     exact⟨y,I,rfl,J⟩
 cases d with
 | zero=>obtain⟨y,u,j,_⟩:=A none h; cases j
 | succ d=>
  obtain⟨y,u,j,N⟩:=A _ h
  cases j
  exact⟨d,u,rfl,N⟩
theorem P7 {v:List It} (hs:gd v=true) (k:0<v.length):∃t,cq 32 v 0=some (t,v.length):=by
 unfold gd at hs
 cases h:cq 32 v 0 with
 | none=>rw[h]at hs; cases hs
 | some b=>
  obtain⟨t,j⟩:=b
  rw[h]at hs
  have:j=v.length:=by simpa using hs
  subst this
  exact⟨t,rfl⟩
theorem Om {v:List It} (hs:gd v=true) (j:0<v.length) {a:Nat} (ha:a=0\/a=1/\v[0].1=6/\v[0].2.2.2=1):∃d t,d<=32/\cq d v a=some (t,v.length):=by
 obtain⟨t,k⟩:=P7 hs j
 rcases ha with rfl | ⟨rfl,A,B⟩
 ·exact⟨32,t,by omega,k⟩
 ·obtain⟨G,u,hd,y⟩:=BO k j (.inr A)
  rw[B]at y
  obtain⟨I,N,O,J,z⟩:=jU (r:=0) y
  simp only[cQ]at z
  cases z
  exact⟨G,I,by omega,J⟩
theorem Mn {v:List It} (hs:gd v=true) (B:0<v.length) {a:Nat} (hA:a=0\/a=1/\v[0].1=6/\v[0].2.2.2=1) (ha:a<v.length) (G:v[a].1=4) (hn:v[a].2.2.2=4) (I:a+1<v.length) (J:v[a+1].1=2) :
  ∃d t j,d<=32/\cq d v (a+2)=some (t,j)/\∀(y:j<v.length),v[j].1=2->∀(k:j+1<v.length),v[j+1].1=2->v.length=j+2:=by
 obtain⟨d,t,hd,N⟩:=Om hs B hA
 obtain⟨O,u,rfl,z⟩:=BO N ha (.inl G)
 rw[hn]at z
 obtain⟨t1,j1,u1,R,U⟩:=jU (r:=3) z
 obtain⟨V,X,u2,Y,Z⟩:=jU (r:=2) U
 obtain⟨t3,j3,u3,e3,k3⟩:=jU (r:=1) Z
 obtain⟨t4,j4,u4,e4,A⟩:=jU (r:=0) k3
 simp only[cQ]at A
 have:=oC R I J
 subst this
 refine⟨O,V,X,by omega,Y,fun y b1 k b2=>?_⟩
 have:=oC e3 y b1
 subst this
 have:=oC e4 k b2
 subst this
 simp at A
 omega
theorem II {v:List It} {k:Wr} {y:List It} {i:Nat} {q:Int} (h:fH v k y 1 i=q) (A:0<=q):∃t j,k i=some (t,j)/\seg v i j=y/\q=(j:Int):=by
 simp only[fH]at h
 cases h4:k i with
 | none=>rw[h4]at h; simp only at h; omega
 | some a=>
  obtain⟨t,j⟩:=a
  rw[h4]at h
  simp only at h
  split at h
  ·rename_i z
   exact⟨t,j,rfl,z,h.symm⟩
  ·cases h5:k j with
   | none=>rw[h5]at h; simp only at h; omega
   | some b=>rw[h5]at h; simp only at h; omega
theorem E1 {v:List It} {p:Int} {R:Int×Int×Bool} (h:F.Tj v p=some R):F.Ta v p [(0,4,[],0)]=some R.2.1:=by
 have s:∀n c,∀R,F.S3 n v p c=some R->F.Ta v p [(0,n,[],0)]=some R.1/\R.2.1=p:=by
  intro n c R h
  unfold F.S3 at h
  obtain⟨q,A,h⟩:=cO h
  split at h <;> (simp only[F.UV]at h; cases h; exact⟨A,rfl⟩)
 unfold F.Tj at h
 obtain⟨x,hx,h⟩:=cO h
 obtain⟨y,k,h⟩:=cO h
 obtain⟨_,e⟩:=s _ _ _ hx
 rw[e]at k
 obtain⟨j,B⟩:=s _ _ _ k
 obtain⟨z,hz,h⟩:=cO h
 split at h
 ·split at h
  ·cases h; exact j
  ·obtain⟨u,hu,h⟩:=cO h
   cases h; exact j
 ·cases h; exact j
theorem mo {α:Type} {c:Prop} [Decidable c] {X Y r:α} (h:(if c then X else Y)=r) (hx:X≠r):¬c/\Y=r:=by
 by_cases hc:c
 ·rw[ag hc]at h; exact absurd h hx
 ·rw[ae hc]at h; exact⟨hc,h⟩
theorem BA {x y z:It} {k:L01} {n:Int} {j:Int} {p A l s:L01} (h:F.VZ x y z k n=some (j,p,A,l,s,0)):p=x.2.2.1/\A=k/\l=y.2.2.1/\s=z.2.2.1:=by
 simp only[F.VZ]at h
 split at h
 ·cases h
 ·cases h; exact⟨rfl,rfl,rfl,rfl⟩
theorem uN {j:List It×Int×Int} {A:Int×Int×Bool} {x y z:It} {k:L01} {B:Int} {p G l s:L01} (h:F.UW j A x y z k=some (B,p,G,l,s,0)):p=x.2.2.1/\G=k/\l=y.2.2.1/\s=z.2.2.1:=by
 unfold F.UW at h
 obtain⟨u,hu,h⟩:=cO h
 split at h
 ·obtain⟨u,hu,h⟩:=cO h
  obtain⟨w,hw,h⟩:=cO h
  exact BA h
 ·exact BA h
section
variable {v:List It} (hw:wt v<=4000000000000) (hK:Kd v) (hU:∀x∈v,x.2.2.1.length<=2000000)
include hw hK hU
theorem Jd (a j:Nat) (h1:a+1<v.length) (h2:a+2<v.length) (hj:j+1<v.length) (hv:v.length<=100000000000) {N:Int} {p k z s:L01}
  (h:F.TO v (a:Int) (j:Int) false=some (N,p,k,z,s,0)):p=v[a+1].2.2.1/\z=v[j].2.2.1/\s=v[j+1].2.2.1 /\
  (v[a+2].2.2.2=0\/v[a+2].2.2.2=2/\∃(q:Nat) (I:q<v.length),F.Ta v ((a+2:Nat):Int) [(0,4,[],0)]=some (q:Int)/\v[q].1=2/\v[q].2.2.1=k):=by
 have a1:wI ((a:Int)+1)=((a+1:Nat):Int):=by rw[aC (by omega) (by omega)]; simp
 have a2:wI ((a:Int)+2)=((a+2:Nat):Int):=by rw[aC (by omega) (by omega)]; simp
 have j1:wI ((j:Int)+1)=((j+1:Nat):Int):=by rw[aC (by omega) (by omega)]; simp
 obtain⟨s1,Y,ap,t1,t4,O,c5,R,ce,cf,cm⟩:=Gv hw hK hU (a+2) h2 hv
 have Z:=E1 O
 simp only at Z
 obtain⟨bx,U,e1,e2⟩:=Gy hw hK hU ((a+2:Nat):Int) Y (by
  obtain⟨_,q4,_,_,c4,r4,_⟩:=DB hw hK hU ((a+2:Nat):Int)
  rw[Z]at c4
  cases c4; exact r4) R
 have b3:bx=ap:=by rw[t4]at U; cases U; rfl
 subst b3
 simp only[F.TO,ah,aj,a1,a2,j1,bz h1,bz (show j<v.length by omega),bz hj,aa]at h
 obtain⟨A,c1,h⟩:=cO h
 have J:A.2.1=0:=by
  by_cases J:A.2.1=0
  ·exact J
  ·rw[ag (by simpa using J)]at h
   simp only[dR,iu]at h
   exact h.2.2.2.2.2
 rw[ae (by simp[J])]at h
 obtain⟨c6,c2,h⟩:=cO h
 obtain⟨_,h⟩:=mo h (by intro h; cases h)
 obtain⟨V,c3,h⟩:=cO h
 rw[O,aa]at h
 have T:∀y,F.TV v A V y v[a+1] v[j] v[j+1] true≠some (N,p,k,z,s,0):=fun y h=>by cases h
 obtain⟨_,h⟩:=mo h (T _)
 obtain⟨hB,h⟩:=mo h (T _)
 obtain⟨_,h⟩:=mo h (T _)
 obtain⟨X,h⟩:=mo h (T _)
 simp only[ak]at X
 simp only[Bool.not_eq_true',Bool.not_eq_false,aK,ae X]at hB
 simp only[fo]at hB
 obtain⟨B,b4⟩:=hB
 by_cases hq4:decide (0<=V.2.1)=true
 ·rw[ag hq4]at h
  cases hs4:decide (0<=Y) with
  | true=>rw[hs4]at h; exact absurd h (T _)
  | false=>
   rw[hs4]at h
   simp only[F.TV,ah,aj,hq4,al]at h
   obtain⟨u,hu,h⟩:=cO h
   obtain⟨G,g2,g3,g4⟩:=uN h
   have:¬(0<=Y):=by simpa using hs4
   rw[ae this]at B
   exact⟨G,g3,g4,.inl (by omega)⟩
 ·rw[ae hq4]at h
  simp only[F.TV,ah,aj,hq4]at h
  rcases R with rfl | ⟨q,I,rfl⟩
  ·simp only[show decide ((0:Int)<=-1)=false from rfl,ah,aj]at h
   obtain⟨G,g2,g3,g4⟩:=uN h
   exact⟨G,g3,g4,.inl (by simpa using B)⟩
  ·have ad:decide ((0:Int)<=(q:Int))=true:=ai (by omega)
   simp only[ad,al,bz I,aa]at h
   obtain⟨G,g2,g3,g4⟩:=uN h
   have e:=e2 q I rfl
   rw[b4]at e
   rw[ag (by omega)]at B
   exact⟨G,g3,g4,.inr ⟨by omega,q,I,Z,by simpa using e.symm,g2.symm⟩⟩
end
theorem vD {rec:Wr} {y:Bool} {r:Nat} {b:Bool} {l:Option L01} {i k:Nat} {u:L01} (h:cQ rec y (r+1) b l i=some (u,k)):∃t j A z,rec i=some (t,j)/\cQ rec y r (!b) A j=some (z,k):=by
 simp only[cQ]at h
 cases h1:rec i with
 | none=>rw[h1]at h; cases h
 | some a=>
  obtain⟨t,j⟩:=a
  rw[h1]at h
  simp only at h
  split at h
  ·cases h
  ·cases h2:cQ rec y r (!b) (if (y&&b)=true then some t else l) j with
   | none=>rw[h2]at h; cases h
   | some e=>
    obtain⟨z,B⟩:=e
    rw[h2]at h
    cases h
    exact⟨t,j,_,z,rfl,h2⟩
theorem u9 {v:List It} {d a k:Nat} {t:L01} (h:cq d v a=some (t,k)) (ha:a<v.length) (z:¬(v[a].1=4\/v[a].1=5\/v[a].1=6)):k=a+1:=by
 have y:∀sub,fW v sub a=some (t,k)->k=a+1:=by
  intro sub j
  unfold fW at j
  rw[av ha]at j
  simp only at j
  obtain⟨_,j⟩:=mo j (by intro h; cases h)
  first
   | (rw[ae z]at j; cases j; rfl)
   | (cases j; rfl)
 cases d with
 | zero=>exact y none h
 | succ d=>exact y _ h
def qC (p z s k:L01) (kid tag:Bool):List It:=
 (if tag then [(6,18,[],1)] else [])++([(4,0,[],4),(2,0,p,0)]++((if kid then [(5,0,[],2),(0,4,[],0),(2,0,k,0)] else [(5,0,[],0)])++[(2,0,z,0),(2,0,s,0)]))
section
variable {v:List It} (hw:wt v<=4000000000000) (hK:Kd v) (hU:∀x∈v,x.2.2.1.length<=2000000)
include hw hK hU
theorem BC (hs:gd v=true) (h0:0<v.length) {a:Nat} (hA:a=0\/a=1/\v[0].1=6/\v[0].2.2.2=1) (ha:a<v.length) (hv:v.length<=100000000000) {N:Int} {p k z s:L01}
  (h:F.T9 v (a:Int)=some (N,p,k,z,s,0)):∃b5,v.drop a=qC p z s k b5 false:=by
 have a1:wI ((a:Int)+1)=((a+1:Nat):Int):=by rw[aC (by omega) (by omega)]; simp
 have a2:wI ((a:Int)+2)=((a+2:Nat):Int):=by rw[aC (by omega) (by omega)]; simp
 obtain⟨r0,r1,r2⟩:=kI hs ha
 have T:F.TJ v (a:Int) true≠some (N,p,k,z,s,0):=fun h=>by cases h
 have T3:∀j:Int,F.TO v (a:Int) j true≠some (N,p,k,z,s,0):=fun _ h=>by cases h
 simp only[F.T9,bz ha,aa]at h
 obtain⟨V,h⟩:=mo h T
 obtain⟨hn,h⟩:=mo h T
 have V:v[a].1=4:=by simpa using V
 have hn:v[a].2.2.2=4:=by simpa using hn
 have l1:a+1<v.length:=by omega
 have B:a+2<v.length:=by omega
 simp only[a1,a2,bz l1,bz B,aa]at h
 obtain⟨X,h⟩:=mo h T
 have X:v[a+1].1=2:=by simpa using X
 have Y:v[a+2].1=5:=by
  cases e:(v[a+2].1 != 5) with
  | true=>rw[e]at h; exact absurd h T
  | false=>simpa using e
 obtain⟨d,t,j,hd,he,ap⟩:=Mn hs h0 hA ha V hn l1 X
 obtain⟨b1,b2⟩:=sE hw hK hU hs B hd he
 simp only[Y,dh,F.TJ,ah,aj,a2,b1,aa]at h
 obtain⟨x,hx,h⟩:=cO h
 have G:j<v.length:=by
  obtain⟨_,b7,_⟩:=fO hx
  omega
 rw[bz G]at hx
 cases hx
 have j1:wI ((j:Int)+1)=((j+1:Nat):Int):=by rw[aC (by omega) (by omega)]; simp
 obtain⟨I,h⟩:=mo h (T3 _)
 have I:v[j].1=2:=by simpa using I
 rw[j1]at h
 obtain⟨x,hx,h⟩:=cO h
 have y:j+1<v.length:=by
  obtain⟨_,b7,_⟩:=fO hx
  omega
 rw[bz y]at hx
 cases hx
 have O:v[j+1].1=2:=by
  cases e:(v[j+1].1 != 2) with
  | true=>rw[e]at h; exact absurd h (T3 _)
  | false=>simpa using e
 simp only[O,dh]at h
 have c6:=ap G I y O
 obtain⟨g1,g3,g4,g⟩:=Jd hw hK hU a j l1 B y hv h
 have fA:v[a]=(4,0,[],4):=SU r2 V hn
 have fB:v[a+1]=(2,0,p,0):=g1 ▸ F5 (kI hs l1).2.2 X
 have Z:v[j]=(2,0,z,0):=g3 ▸ F5 (kI hs G).2.2 I
 have fK:v[j+1]=(2,0,s,0):=g4 ▸ F5 (kI hs y).2.2 O
 obtain⟨d',u,_,R,_,_⟩:=uT he B Y
 have ext:∀l:List It,v.length=a+l.length->(∀i,i<l.length->v[a+i]? = l[i]?)->v.drop a=l:=by
  intro l hl hi
  refine iY fun i=>?_
  rw[dL]
  by_cases h:i<l.length
  ·exact hi i h
  ·rw[c9 (by omega),c9 (by omega)]
 rcases g with ac | ⟨ad,q,hq,A,ce,cf⟩
 ·rw[ac]at R
  simp only[Int.toNat_zero,cQ]at R
  cases R
  have f5:v[a+2]=(5,0,[],0):=Pd (kI hs B).2.2 Y ac
  refine⟨false,ext _ (by simp[qC]; omega) fun i hi=>?_⟩
  simp only[qC,ah,aj,bN,cW]at hi ⊢
  match i with
  | 0=>simp[av ha,fA]
  | 1=>simp[av l1,fB]
  | 2=>simp[av B,f5]
  | 3=>simp only[dn]at Z G; simp[av G,Z]
  | 4=>simp only[dn]at fK y; simp[av y,fK]
  | n+5=>simp at hi; omega
 ·rw[ad]at R
  have fq:v[q]=(2,0,k,0):=cf ▸ F5 (kI hs hq).2.2 ce
  have f5:v[a+2]=(5,0,[],2):=Pd (kI hs B).2.2 Y ad
  rcases tR hw hK hU ((a+2:Nat):Int) with hM | ⟨a',D,K,kk,uu,d2,ea,d3,d4,hD,d5,hM⟩
  ·rw[(hM _).1]at A
   cases A
  ·have:a'=a+2:=by omega
   subst this
   have:K=1:=by omega
   subst this
   rw[(hM _).1]at A
   obtain⟨t1,J,w1,w2,w3⟩:=II (et A) (by omega)
   have:J=q:=by omega
   subst this
   obtain⟨l3,_,_,w4,w5⟩:=s8 w1
   have U:seg v (a+2+1) J=(v.drop (a+2+1)).take (J - (a+2+1)):=rfl
   have ct:J=a+4:=by
    have:=da List.length w2
    rw[U]at this
    simp at this
    omega
   subst ct
   have f3:v[a+3]=(0,4,[],0):=by
    rw[U,show a+4 - (a+2+1)=1 by omega]at w2
    rw[aS (by omega),List.take_succ_cons,fX]at w2
    exact List.head_eq_of_cons_eq w2
   obtain⟨x1,x2,x3,x4,x5,x6⟩:=vD (r:=1) R
   have:=u9 x5 l3 (by rw[f3]; simp)
   subst this
   obtain⟨y1,y2,y3,y4,y5,y6⟩:=vD (r:=0) x6
   have:=u9 y5 hq (by rw[fq]; simp)
   subst this
   simp only[cQ]at y6
   cases y6
   refine⟨true,ext _ (by simp[qC]; omega) fun i hi=>?_⟩
   simp only[qC,ah,aj,al,bN,cW]at hi ⊢
   match i with
   | 0=>simp[av ha,fA]
   | 1=>simp[av l1,fB]
   | 2=>simp[av B,f5]
   | 3=>simp[av l3,f3]
   | 4=>simp[av hq,fq]
   | 5=>simp only[dn]at Z G; simp[av G,Z]
   | 6=>simp only[dn]at fK y; simp[av y,fK]
   | n+7=>simp at hi; omega
theorem FX (hs:gd v=true) (y:0<v.length) (O:v.length<=100000000000) {I:Int} {p k z s:L01} (h:F.TK v=some (I,p,k,z,s,0)):∃j A,v=qC p z s k j A:=by
 have R:aw v (0:Int)=some v[0]:=bz (i:=0) y
 have z0:F.T9 v ((0:Nat):Int)=some (I,p,k,z,s,0)->∃j A,v=qC p z s k j A:=fun h=>by
  obtain⟨j,J⟩:=BC hw hK hU hs y (.inl rfl) y O h
  exact⟨j,false,by simpa using J⟩
 unfold F.TK at h
 simp only[R,aa]at h
 by_cases h6:v[0].1=6
 ·have N:(v[0].1 == 6)=true:=by simpa using h6
  obtain⟨V,X,B⟩:=kI hs y
  have U:v[0].2.2.2=1:=by
   unfold bZ at B
   rw[h6]at B
   simp at B
   exact B.2
  simp only[N,al]at h
  by_cases h18:v[0].2.1=18
  ·have G:(v[0].2.1 == 18)=true:=by simpa using h18
   simp only[G,F.WV,al]at h
   obtain⟨j,J⟩:=BC hw hK hU hs y (.inr ⟨rfl,h6,U⟩) (by omega) O (a:=1) h
   refine⟨j,true,?_⟩
   have:v=v[0] :: v.drop 1:=by
    have:=aS y
    simpa using this
   rw[this,J,RX B h6 h18]
   rfl
  ·have G:(v[0].2.1 == 18)=false:=by simpa using h18
   simp only[G,F.WV,al,ah,aj]at h
   exact z0 h
 ·have N:(v[0].1 == 6)=false:=by simpa using h6
  simp only[N,F.WV,ah,aj]at h
  exact z0 h
end
theorem Nr {b p z s k:L01} {j y:Bool} (h:F.Ue b=some (qC p z s k j y,0,0)):F.YD b=some (p,true):=by
 unfold F.YD
 rw[h]
 cases j <;> cases y <;> rfl
section
variable {v:List It} (hw:wt v<=4000000000000) (hK:Kd v)
include hw hK
theorem IC (hs:gd v=true) {a d j:Nat} {t:L01} (ha:a<v.length) (hd:d<=32) (k:cq d v a=some (t,j)):F.Ul v (a:Int)=some (j:Int):=by
 have hl:=mD v
 unfold F.Ul
 rw[mU hw hK,hs]
 have y:decide ((a:Int)<0)=false:=au (by omega)
 have z:decide ((v.length:Int)<=(a:Int))=false:=au (by omega)
 simp only[aa,cF,ah,aj,y,z,F.Wy,nT (by omega) hd k]
theorem IG (p:Int):((∀j,F.Ta v p j=some (-1))/\(gd v=true->∀(a:Nat) (ha:a<v.length),p=(a:Int)->v[a].1≠5)) \/
  ∃(a d K k:Nat) (u:L01) (ha:a<v.length),p=(a:Int)/\v[a].1=5/\v[a].2.2.2=((2*K:Nat):Int)/\d<=32/\cQ (cq d v) true (2*K) true none (a+1)=some (u,k) /\
   ∀j,F.Ta v p j=some (fH v (cq d v) j K (a+1)):=by
 have hl:=mD v
 unfold F.Ta
 rw[mU hw hK]
 simp only[aa]
 by_cases h0:p<0
 ·have z:decide (p<0)=true:=by simpa using h0
  exact .inl ⟨fun j=>by simp only[z,al,F.Ty],fun _ a ha e=>by omega⟩
 have z:decide (p<0)=false:=by simpa using h0
 obtain⟨a,rfl⟩:=gw (Int.not_lt.1 h0)
 by_cases h1:v.length<=a
 ·have A:decide ((v.length:Int)<=(a:Int))=true:=by simp; omega
  exact .inl ⟨fun j=>by simp only[z,A,al,ah,aj,F.Ty],fun _ J N e=>by omega⟩
 have A:decide ((v.length:Int)<=(a:Int))=false:=by simp; omega
 have ha:a<v.length:=by omega
 simp only[z,A,ah,aj,bz ha,aa]
 by_cases h5:v[a].1=5
 ·have B:(v[a].1 != 5)=false:=by simp[h5]
  simp only[B,ah,aj]
  cases hs:gd v with
  | false=>exact .inl ⟨fun j=>by simp only[gr,F.Ty,al],fun h=>by cases h⟩
  | true=>
   obtain⟨d,t,k,hd,R⟩:=pu hs ha
   obtain⟨U,u,rfl,G,V,X⟩:=uT R ha h5
   obtain⟨K,y⟩:∃K:Nat,v[a].2.2.2=((2*K:Nat):Int):=⟨(v[a].2.2.2 / 2).toNat,by omega⟩
   rw[y,am]at G
   have Y:=hK v[a] (cV ha)
   have I:wI (Int.tdiv v[a].2.2.2 2)=(K:Int):=by
    rw[y,bJ (by omega),aC (by omega) (by omega)]; omega
   have O:wI ((a:Int)+1)=((a+1:Nat):Int):=by rw[aC (by omega) (by omega)]; simp
   refine .inr ⟨a,U,K,k,u,ha,rfl,h5,y,by omega,G,fun j=>?_⟩
   simp only[cF,F.Ty,ah,aj,bz ha,aa,O]
   exact nP (by omega) (by omega) j v[a] K I (by omega) K 0 (a+1) none u k G (by omega) (by omega)
 ·have B:(v[a].1 != 5)=true:=by simpa using h5
  refine .inl ⟨fun j=>by simp only[B,al,F.Ty],fun _ J N e=>?_⟩
  have:J=a:=by omega
  subst this
  exact h5
def KW (v:List It) (q:Int):Prop:=q=-1\/∃k:Nat,k<v.length/\q=(k:Int)
theorem LR (p:Int) (j:List It):∃q,F.Ta v p j=some q/\KW v q:=by
 rcases IG hw hK p with h | ⟨a,d,K,k,u,ha,rfl,G,B,hd,y,h⟩
 ·exact⟨-1,h.1 j,.inl rfl⟩
 ·refine⟨_,h j,?_⟩
  rcases xc j K (a+1) none u k y with h | ⟨z,I,J,h,A⟩
  ·exact .inl h
  ·exact .inr ⟨z,(s8 A).1,h⟩
theorem BK (a:Nat) (ha:a<v.length):∃j q4 ok,F.Tj v (a:Int)=some (j,q4,ok)/\KW v j/\KW v q4:=by
 obtain⟨j,B,y⟩:=LR hw hK (a:Int) [(0,1,[],0)]
 obtain⟨q4,G,z⟩:=LR hw hK (a:Int) [(0,4,[],0)]
 have I:∀n:Int,∃m,F.S3 1 v (a:Int) n=some (j,(a:Int),m):=fun n=>by
  unfold F.S3
  rw[B,aa]
  split <;> exact⟨_,rfl⟩
 have J:∀n:Int,∃m,F.S3 4 v (a:Int) n=some (q4,(a:Int),m):=fun n=>by
  unfold F.S3
  rw[G,aa]
  split <;> exact⟨_,rfl⟩
 obtain⟨N,O⟩:=I 0
 obtain⟨U,R⟩:=J N
 unfold F.Tj
 rw[O,aa,R,aa,bz ha,aa]
 split
 ·rcases z with rfl | ⟨k,A,rfl⟩
  ·exact⟨j,-1,true,rfl,y,.inl rfl⟩
  ·have:decide ((k:Int)<0)=false:=au (by omega)
   simp only[this,ah,aj,bz A,aa]
   exact⟨_,_,_,rfl,y,.inr ⟨k,A,rfl⟩⟩
 ·exact⟨_,_,_,rfl,y,z⟩
end
abbrev Rd6:=Int×L01×L01×L01×L01×Int
def Rok (x:Option Rd6):Prop:=∃r,x=some r/\r.2.1.length<=2000000/\r.2.2.1.length<=2000000/\r.2.2.2.1.length<=2000000/\r.2.2.2.2.1.length<=2000000
theorem Rok.fail (e:Int):Rok (some (0,[],[],[],[],e)):=⟨_,rfl,by simp,by simp,by simp,by simp⟩
theorem Kv {z:List It} {j k y:It} {n1 O:Int} {A:Nat} (B:A<z.length) {q4:Int} {ok:Bool} {K:L01} (hK:K.length<=2000000) (G:j.2.2.1.length<=2000000) (I:k.2.2.1.length<=2000000) (J:y.2.2.1.length<=2000000) :
  Rok (F.UW (z,n1,O) ((A:Int),q4,ok) j k y K):=by
 have N:∀n,Rok (F.VZ j k y K n):=fun n=>by
  unfold F.VZ
  dsimp only
  split
  ·exact .fail 111
  ·exact⟨_,rfl,G,hK,I,J⟩
 simp only[F.UW,bz B,aa]
 split
 ·obtain⟨r,R⟩:∃r,F.aak z[A].2.1=some r:=⟨_,rfl⟩
  rw[R,aa]
  exact N r
 ·exact N 0
section
variable {v:List It} (hw:wt v<=4000000000000) (hK:Kd v) (hU:∀x∈v,x.2.2.1.length<=2000000)
include hw hK hU
theorem Oz (a j:Nat) (Y:a+1<v.length) (h2:a+2<v.length) (Z:j+1<v.length) (b:Bool):Rok (F.TO v (a:Int) (j:Int) b):=by
 have hl:=mD v
 cases b
 ·have a1:wI ((a:Int)+1)=((a+1:Nat):Int):=by rw[aC (by omega) (by omega)]; simp
  have a2:wI ((a:Int)+2)=((a+2:Nat):Int):=by rw[aC (by omega) (by omega)]; simp
  have j1:wI ((j:Int)+1)=((j+1:Nat):Int):=by rw[aC (by omega) (by omega)]; simp
  have R:=hU v[a+1] (cV Y)
  have U:=hU v[j] (cV (by omega))
  have V:=hU v[j+1] (cV Z)
  simp only[F.TO,ah,aj,a1,a2,j1,bz Y,bz (show j<v.length by omega),bz Z,aa]
  rw[lQ]
  simp only[aa]
  rcases tO v[a+1].2.2.1 with⟨z,ab,J,A⟩ | ⟨e,p,he,cf,cm,A⟩
  ·have X:=Eo ab J
   have hm:=(jE v[a+1].2.2.1 32).1 _ _ _ J
   rw[A]
   have h0:0<z.length:=by omega
   have g0:aw z (0:Int)=some z[0]:=bz (i:=0) h0
   have ad:∀x∈z,x.2.2.1.length<=2000000:=fun x hx=>by have:=X.2.2 x hx; omega
   obtain⟨I,q4,ok,hh,p1,p4⟩:=BK X.wt X.kd 0 h0
   obtain⟨s1,s4,ap,bx,ct,b2⟩:=BK hw hK (a+2) h2
   rw[show ((0:Nat):Int)=0 from rfl]at hh
   simp only[dh,ah,aj,g0,aa,hh,bx]
   have y:∀b:Bool,(b=false->0<=I)->Rok (F.TV v (z,0,0) (I,q4,ok) (s1,s4,ap) v[a+1] v[j] v[j+1] b):=fun b hb=>by
    cases b
    ·obtain⟨k1,B,rfl⟩:∃k:Nat,k<z.length/\I=(k:Int):=by
      rcases p1 with rfl | h
      ·exact absurd (hb rfl) (by omega)
      ·exact h
     simp only[F.TV,ah,aj]
     rcases p4 with rfl | ⟨y,N,rfl⟩
     ·rw[ae (by simp)]
      rcases b2 with rfl | ⟨c0,G,rfl⟩
      ·rw[ae (by simp)]
       exact Kv B (by simp) R U V
      ·rw[ag (by simp),bz G,aa]
       exact Kv B (hU _ (cV G)) R U V
     ·rw[ag (by simp),bz N,aa]
      exact Kv B (ad _ (cV N)) R U V
    ·exact .fail 221
   split
   ·exact .fail 221
   ·split
    ·exact y true (by simp)
    ·split
     ·exact y true (by simp)
     ·split
      ·exact y true (by simp)
      ·rename_i hq
       have O:0<=I:=by simpa using hq
       split
       ·exact y true (by simp)
       ·split
        ·exact y _ fun _=>O
        ·exact y false fun _=>O
  ·have e1:(e != 0)=true:=by simpa using he
   rw[A]
   simp only[e1,al]
   exact .fail e
 ·exact .fail 221
theorem Ob (hs:gd v=true) (a:Nat) (ha:a<v.length):Rok (F.T9 v (a:Int)):=by
 have hl:=mD v
 have a1:wI ((a:Int)+1)=((a+1:Nat):Int):=by rw[aC (by omega) (by omega)]; simp
 have a2:wI ((a:Int)+2)=((a+2:Nat):Int):=by rw[aC (by omega) (by omega)]; simp
 obtain⟨J,N,O⟩:=kI hs ha
 have T:Rok (F.TJ v (a:Int) true):=.fail 221
 unfold F.T9
 simp only[bz ha,aa]
 by_cases h4:v[a].1=4
 ·have y:(v[a].1 != 4)=false:=by simp[h4]
  simp only[y,ah,aj]
  by_cases hn:v[a].2.2.2=4
  ·have z:(v[a].2.2.2 != 4)=false:=by simp[hn]
   have l1:a+1<v.length:=by omega
   have k:a+2<v.length:=by omega
   simp only[z,ah,aj,a1,a2,bz l1,bz k,aa]
   by_cases h2:v[a+1].1=2
   ·have A:(v[a+1].1 != 2)=false:=by simp[h2]
    simp only[A,ah,aj]
    cases (v[a+2].1 != 5)
    ·obtain⟨d,t,j,hd,G,B,_⟩:=JP hs ha h4 hn l1 h2
     have I:wI ((j:Int)+1)=((j+1:Nat):Int):=by rw[aC (by omega) (by omega)]; simp
     simp only[F.TJ,ah,aj,a2,IC hw hK hs k hd G,aa,bz (show j<v.length by omega),I,bz B]
     split
     ·exact Oz hw hK hU a j l1 k B true
     ·exact Oz hw hK hU a j l1 k B _
    ·exact T
   ·have A:(v[a+1].1 != 2)=true:=by simpa using h2
    simp only[A,al]; exact T
  ·have z:(v[a].2.2.2 != 4)=true:=by simpa using hn
   simp only[z,al]; exact T
 ·have y:(v[a].1 != 4)=true:=by simpa using h4
  simp only[y,al]; exact T
theorem NX (hs:gd v=true) (k:0<v.length):Rok (F.TK v):=by
 have A:aw v (0:Int)=some v[0]:=bz (i:=0) k
 have z:Rok (F.T9 v 0):=Ob hw hK hU hs 0 k
 unfold F.TK
 simp only[A,aa]
 by_cases h6:v[0].1=6
 ·have y:(v[0].1 == 6)=true:=by simpa using h6
  obtain⟨B,G,j⟩:=kI hs k
  have I:v[0].2.2.2=1:=by
   unfold bZ at j
   rw[h6]at j
   simp at j
   exact j.2
  simp only[y,al]
  cases (v[0].2.1 == 18)
  ·exact z
  ·exact Ob hw hK hU hs 1 (by omega)
 ·have y:(v[0].1 == 6)=false:=by simpa using h6
  simp only[y,ah,aj]
  exact z
end
def sgn (p c z:L01):L01:=[132]++hd 3 (UInt64.ofNat 10)++[83,105,103,110,97,116,117,114,101,49]++hd 2 (UInt64.ofNat p.length)++p++hd 2 (UInt64.ofNat c.length)++c++hd 2 (UInt64.ofNat z.length)++z
theorem Md (b c:L01) (hb:b.length<=200000000000000) (hc:c.length<=200000000000000):(∃e:Int,e≠0/\F.Tu b c=some (0,[],[],[],[],e)) \/
  ∃(y:Int) (p k z s:L01) (A B:Bool),F.Tu b c=some (y,k,z,s,sgn p c z,0)/\F.Ue b=some (qC p z s k A B,0,0)/\p.length<=2000000/\k.length<=2000000/\z.length<=2000000/\s.length<=2000000/\c.length<=65536/\b.length<=65536:=by
 have O:∀e:Int,(af (F.Xb e) fun x=>some (x.1,x.2.1,x.2.2.1,x.2.2.2.1,x.2.2.2.2.1,x.2.2.2.2.2))=some ((0:Int),([]:L01),([]:L01),([]:L01),([]:L01),e):=fun e=>rfl
 unfold F.Tu
 by_cases h1:65536<b.length
 ·have G:decide ((65536:Int)<(b.length:Int))=true:=ai (by omega)
  simp only[G,al,F.T0]
  exact .inl ⟨10,by omega,O 10⟩
 have G:decide ((65536:Int)<(b.length:Int))=false:=au (by omega)
 simp only[G,ah,aj]
 by_cases h2:65536<c.length
 ·have R:decide ((65536:Int)<(c.length:Int))=true:=ai (by omega)
  simp only[R,al,F.T0]
  exact .inl ⟨10,by omega,O 10⟩
 have R:decide ((65536:Int)<(c.length:Int))=false:=au (by omega)
 simp only[R,ah,aj,F.T0]
 rw[lQ]
 simp only[aa]
 rcases tO b with⟨v,I,j,J⟩ | ⟨e,p,V,ap,bx,J⟩
 ·have N:=Eo I j
  have hm:=(jE b 32).1 _ _ _ j
  rw[J]
  have X:0<v.length:=by omega
  have hU:∀x∈v,x.2.2.1.length<=2000000:=fun x hx=>by have:=N.2.2 x hx; omega
  simp only[dh,ah,aj]
  obtain⟨⟨y,p,k,z,s,st⟩,hx,Y,lk,lz,Z⟩:=NX N.wt N.kd hU (sP I j).2 X
  simp only at Y lk lz Z
  rw[hx]
  simp only[aa]
  by_cases hst:st=0
  ·subst hst
   simp only[dh,ah,aj]
   obtain⟨A,B,e⟩:=FX N.wt N.kd hU (sP I j).2 X (by omega) hx
   subst e
   have hP:=kB 2 (UInt64.ofNat p.length)
   have hC:=kB 2 (UInt64.ofNat c.length)
   have hS:(hd 3 (UInt64.ofNat 10)).length<=9:=kB _ _
   have m1:F.TY [132] 3 [83,105,103,110,97,116,117,114,101,49]=some ([132]++hd 3 (UInt64.ofNat 10)++[83,105,103,110,97,116,117,114,101,49]):=nF 3 _ _ (by simp) (by simp)
   have U:∀o x:L01,o.length<=1000000000->x.length<1000000000->F.TY o 2 x=some (o++hd 2 (UInt64.ofNat x.length)++x):=fun o x ho hx=>nF 2 o x ho hx
   rw[m1,aa,U _ p (by simp only[aQ,bY,dK]; omega) (by omega),aa,U _ c (by simp only[aQ,bY,dK]; omega) (by omega),aa,U _ z (by simp only[aQ,bY,dK]; omega) (by omega),aa]
   rw[grd_true _ (show k.length<=225000000000000 by omega),grd_true _ (show z.length<=225000000000000 by omega),grd_true _ (show s.length<=225000000000000 by omega)]
   exact .inr ⟨y,p,k,z,s,A,B,rfl,rfl,Y,lk,lz,Z,by omega,by omega⟩
  ·have e3:(st != 0)=true:=by simpa using hst
   simp only[e3,al]
   exact .inl ⟨st,hst,O st⟩
 ·have G:(e != 0)=true:=by simpa using V
  rw[J]
  simp only[G,al]
  exact .inl ⟨e,V,O e⟩
theorem Oq (a:Int):∃s,F.Vp a=some s:=by
 unfold F.Vp
 split
 ·exact⟨_,rfl⟩
 ·rename_i j
  unfold F.aan
  dsimp only
  split
  ·exact⟨_,rfl⟩
  ·rename_i k
   simp only[ak,Int.not_lt,Int.not_le]at j k
   obtain⟨n,rfl⟩:=gw j
   rw[bz (l:=F.Vl) (i:=n) (by show n<13; omega)]
   exact⟨_,rfl⟩
theorem yD {f:Int->Option (Int⊕Bool)} {l:List L01} {s:L01} (hl:l.length<9223372036854775807)
  (j:∀(i:Nat) (h:i<l.length),f (i:Int)=if (l[i] == s)=true then some (.inr true) else some (.inl ((i+1:Nat):Int))) (z:f (l.length:Int)=some (.inr false)):loop f 0=some (l.contains s):=by
 have A:∀k i,l.length - i=k->i<=l.length->loop f (i:Int)=some ((l.drop i).contains s):=by
  intro k
  induction k with
  | zero=>
   intro i B G
   have hi:i=l.length:=by omega
   subst hi
   rw[bD z]
   simp
  | succ k ih=>
   intro i B G
   have y:i<l.length:=by omega
   rw[aS y,List.contains_cons]
   have hs:=j i y
   cases he:(l[i] == s)
   ·rw[he]at hs
    rw[bn hs,ih (i+1) (by omega) (by omega)]
    have:(s == l[i])=false:=by
     rw[<-he]; exact Bool.beq_comm ..
    rw[this,Bool.false_or]
   ·rw[he]at hs
    rw[bD hs]
    have:(s == l[i])=true:=by
     rw[<-he]; exact Bool.beq_comm ..
    rw[this,Bool.true_or]
 have:=A l.length 0 (by omega) (by omega)
 simpa using this
theorem Hc (l:List L01) (s:L01) (hl:l.length<9223372036854775807):F.Zj l s=some (l.contains s):=by
 unfold F.Zj
 refine yD hl (fun i h=>?_) ?_
 ·have j:decide ((i:Int)<(l.length:Int))=true:=ai (by omega)
  simp only[F.aaf,j,al,bz h,aa,aC (show -9223372036854775808<=(i:Int)+1 by omega) (by omega)]
  rfl
 ·have j:decide ((l.length:Int)<(l.length:Int))=false:=by simp
  simp only[F.aaf,j,ah,aj]
  rfl
theorem Gd {f:Int->Option (Int⊕Int)} {l:List L01} {s:L01} (hl:l.length<9223372036854775807)
  (j:∀(i:Nat) (h:i<l.length),f (i:Int)=if (s == l[i])=true then some (.inr (i:Int)) else some (.inl ((i+1:Nat):Int))) (z:f (l.length:Int)=some (.inr (-1))) :
  ∃q,loop f 0=some q/\decide (0<=q)=l.contains s:=by
 have A:∀k i,l.length - i=k->i<=l.length->∃q,loop f (i:Int)=some q/\decide (0<=q)=(l.drop i).contains s:=by
  intro k
  induction k with
  | zero=>
   intro i B G
   have hi:i=l.length:=by omega
   subst hi
   exact⟨-1,bD z,by simp⟩
  | succ k ih=>
   intro i B G
   have y:i<l.length:=by omega
   rw[aS y,List.contains_cons]
   have hs:=j i y
   cases he:(s == l[i])
   ·rw[he]at hs
    obtain⟨q,I,J⟩:=ih (i+1) (by omega) (by omega)
    exact⟨q,by rw[bn hs,I],by rw[J,Bool.false_or]⟩
   ·rw[he]at hs
    exact⟨i,bD hs,by simp⟩
 have:=A l.length 0 (by omega) (by omega)
 simpa using this
theorem Dg (l:List L01) (s:L01) (hl:l.length<9223372036854775807):F.ZI l s=some (l.contains s):=by
 unfold F.ZI F.aat
 obtain⟨q,k,y⟩:=Gd (f:=F.Zt l s) (l:=l) (s:=s) hl (fun i h=>by
  have j:decide ((i:Int)<(l.length:Int))=true:=ai (by omega)
  simp only[F.Zt,j,al,bz h,aa,aC (show -9223372036854775808<=(i:Int)+1 by omega) (by omega)]
  rfl) (by
  have j:decide ((l.length:Int)<(l.length:Int))=false:=by simp
  simp only[F.Zt,j,ah,aj]
  rfl)
 rw[k,aa,y]
theorem Gu (a b:L01) (ha:a.length<9223372036854775807):F.TX a b=some (a == b):=ux a b ha
end Go.Gk.Cb
end
section
namespace Go.Gk.Cb
open Go Go.Gk Go.Gk.Bn
def sg1:L01:=[83,105,103,110,97,116,117,114,101,49]
def v5 (p c z:L01):List It:=[(4,0,[],4),(3,0,sg1,0),(2,0,p,0),(2,0,c,0),(2,0,z,0)]
theorem Ev {v:List It} (d i:Nat) {x:L01} (h:v[i]? = some (2,0,x,0)):cq d v i=some (hd 2 (UInt64.ofNat x.length)++x,i+1):=by
 have j:∀sub,fW v sub i=some (hd 2 (UInt64.ofNat x.length)++x,i+1):=fun sub=>by
  unfold fW
  rw[h]
  rfl
 cases d
 ·exact j _
 ·exact j _
theorem Qr {v:List It} (d i:Nat) (h:v[i]? = some (3,0,sg1,0)):cq d v i=some (hd 3 (UInt64.ofNat 10)++sg1,i+1):=by
 have k:Lib.validD sg1=true:=by kernel_rfl
 have hf:bZ (3,0,sg1,0):=by simp[bZ,k]
 have j:∀sub,fW v sub i=some (hd 3 (UInt64.ofNat 10)++sg1,i+1):=fun sub=>by
  unfold fW
  rw[h]
  simp only[hf,not_true_eq_false,aj]
  rw[ae (by omega)]
  rfl
 cases d
 ·exact j _
 ·exact j _
theorem Ss (p c z:L01):cq 32 (v5 p c z) 0=some (sgn p c z,5):=by
 have hf:bZ (4,0,[],4):=by simp[bZ]
 have j:=Qr (v:=v5 p c z) 31 1 rfl
 have k:=Ev (v:=v5 p c z) 31 2 (x:=p) rfl
 have y:=Ev (v:=v5 p c z) 31 3 (x:=c) rfl
 have A:=Ev (v:=v5 p c z) 31 4 (x:=z) rfl
 show fW (v5 p c z) (some (cq 31 (v5 p c z))) 0=_
 unfold fW
 rw[show (v5 p c z)[0]? = some (4,0,[],4) from rfl]
 simp only[hf,not_true_eq_false,aj]
 rw[ag (Or.inl trivial)]
 have B:cQ (cq 31 (v5 p c z)) false 4 true none 1=some ((hd 3 (UInt64.ofNat 10)++sg1)++((hd 2 (UInt64.ofNat p.length)++p)++((hd 2 (UInt64.ofNat c.length)++c)++((hd 2 (UInt64.ofNat z.length)++z)++[]))),5):=by
  simp only[cQ,j,k,y,A,ee,ah,aj]
 rw[show ((4:Int) == 5)=false from rfl,show ((4:Int).toNat)=4 from rfl,B]
 simp only[]
 rw[show hd 4 (eZ (4,0,[],4))=[132] from rfl]
 unfold sgn
 rw[show sg1=[83,105,103,110,97,116,117,114,101,49] from rfl]
 simp only[aN,bP]
theorem OF (p c z:L01) (hp:p.length<=2000000) (hc:c.length<=2000000) (hz:z.length<=2000000):F.WL (v5 p c z)=some (if 65536<(sgn p c z).length then ([],10) else (sgn p c z,0)):=by
 rw[Km (by simp[v5,wt,sg1]; omega) (by simp[v5,Kd])]
 unfold qw
 rw[Ss]
 simp only[]
 rw[ag (by rfl)]
theorem IL (b c:L01) (j k:Int) (s n e x y:L01) (l:List L01) (hb:b.length<=LB) (hc:c.length<=LB) (hs:s.length<=LB) (hn:n.length<=LB) (A:e.length<=LB) (hx:x.length<=LB) (B:y.length<=LB) (hl:l.length<9223372036854775807)
  {R:Rd6} {z:L01} (G:F.Tu b c=some R) (I:R.2.2.2.2.2=0) (J:F.Vp R.1=some z) (N:R.2.2.2.2.1.length<=LB) (O:R.2.2.2.1.length<=LB) :
  F.Us b c j k s n e x y l=some (if l.contains z=true then (if mr R.1 j k s n e x y R.2.2.2.2.1 R.2.2.2.1=0 then (R.2.2.1,0) else ([],mr R.1 j k s n e x y R.2.2.2.2.1 R.2.2.2.1)) else ([],112)):=by
 unfold F.Us
 rw[G,aa]
 have U:(R.2.2.2.2.2 != 0)=false:=by simp[I]
 simp only[U,ah,aj,J,aa,Dg l z hl]
 cases hcn:l.contains z
 ·simp
 ·simp only[cF,ah,aj,al,yw R.1 j k s n e x y _ _ hs hn A hx B N O,aa]
  by_cases hz:mr R.1 j k s n e x y R.2.2.2.2.1 R.2.2.2.1=0
  ·simp[hz]
  ·have:(mr R.1 j k s n e x y R.2.2.2.2.1 R.2.2.2.1 != 0)=true:=by simpa using hz
   rw[this,ag rfl,ae hz]
theorem law31_CoseJust_eq (b c:L01) (j A:Int) (s n e x y:L01) (l:List L01) (hb:b.length<=140737488351232) (hc:c.length<=140737488351232) (hs:s.length<=140737488351232) (hn:n.length<=140737488351232) (O:e.length<=140737488351232) (hx:x.length<=140737488351232) (R:y.length<=140737488351232) (hl:l.length<9223372036854775807) :
  F.aaA b c j A s n e x y l=some true:=by
 unfold F.aaA
 rw[Fu,aa]
 rcases Md b c (by omega) (by omega) with⟨J,U,hP⟩ | ⟨B,p,k,z,sg,Z,ab,hP,X,Y,lk,lz,ls,lc,lb⟩
 ·have G:F.Us b c j A s n e x y l=some ([],J):=by
   unfold F.Us
   rw[hP,aa]
   have:(J != 0)=true:=by simpa using U
   simp only[this,al]
  rw[hP,G]
  have:(J != 0)=true:=by simpa using U
  simp only[cF,ah,aj,aa,this,al,d8,dK]
  rfl
 ·obtain⟨N,V⟩:=Oq B
  have hsg:(sgn p c z).length<=10000000:=by
   have hP:=kB 2 (UInt64.ofNat p.length)
   have hC:=kB 2 (UInt64.ofNat c.length)
   have hZ:=kB 2 (UInt64.ofNat z.length)
   have hS:(hd 3 (UInt64.ofNat 10)).length<=9:=kB _ _
   unfold sgn
   simp only[aQ,bY,dK]
   omega
  have G:=IL b c j A s n e x y l hb hc hs hn O hx R hl hP rfl V (by show (sgn p c z).length<=LB; unfold LB; omega) (by show sg.length<=LB; unfold LB; omega)
  simp only[]at G
  have hK:F.Uc j A s n e x y l (B,k,z,sg,sgn p c z,0) (if l.contains N=true then (if mr B j A s n e x y (sgn p c z) sg=0 then (z,0) else ([],mr B j A s n e x y (sgn p c z) sg)) else ([],112)) false=some true:=by
   unfold F.Uc
   simp only[ah,aj,V,aa,Hc l N hl,yw B j A s n e x y _ _ hs hn O hx R (show (sgn p c z).length<=LB by unfold LB; omega) (show sg.length<=LB by unfold LB; omega)]
   cases hcn:l.contains N
   ·rfl
   ·simp only[cF,ah,aj,al]
    by_cases hz:mr B j A s n e x y (sgn p c z) sg=0
    ·simp only[hz,dh,ah,aj,al,d8,Gu z z (by omega),aa]
    ·have:(mr B j A s n e x y (sgn p c z) sg != 0)=true:=by simpa using hz
     simp only[this,al,ae hz,d8,dK]
     rfl
  rw[hP,aa,G,aa,Nr X,aa]
  simp only[cF,ah,aj,dh]
  have I:=OF p c z Y (by omega) lz
  unfold v5 sg1 at I
  rw[I,aa]
  by_cases hl6:65536<(sgn p c z).length
  ·rw[ag hl6]
   have d:decide (((sgn p c z).length:Int)<=65536)=false:=au (by omega)
   simp only[d]
   exact hK
  ·rw[ae hl6]
   simp only[d8,al,Gu _ _ (show (sgn p c z).length<9223372036854775807 by omega),aa,cF,ah,aj,dh]
   exact hK
end Go.Gk.Cb
end
