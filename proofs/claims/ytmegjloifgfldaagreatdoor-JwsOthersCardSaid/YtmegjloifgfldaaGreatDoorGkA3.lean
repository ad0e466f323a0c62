import Derived.Test.YtmegjloifgfldaaGreatDoorGkA0
import Derived.Test.YtmegjloifgfldaaGreatDoorGkFb64
import Derived.Test.YtmegjloifgfldaaGreatDoorGkW8
import Derived.Test.YtmegjloifgfldaaGreatDoorGkX9
set_option linter.unusedVariables false
set_option linter.unusedSimpArgs false
set_option linter.unusedSectionVars false

section
namespace Go.Gk.Bn
open Go Go.Gk Go.Gk.Sh
def pE:Nat:=57896044618658097711785492504343953926634992332820282019728792003956564819949
def nE:Nat:=7237005577332262213973186563042994240857116359379907606001950938285454250989
theorem eb:1<pE/\pE%2=1/\pE<2^255/\0<pE:=by decide +kernel
theorem v7:1<nE/\nE<2^253:=by decide +kernel
instance:NeZero pE:=⟨Nat.ne_of_gt eb.2.2.2⟩
theorem qL:nb pE<=255:=gv eb.2.2.1
theorem tc {n k:Nat} (h:n<2^(32*k)):(ao n).length<=k:=ba (by rw[show (4294967296:Nat)=2^32 from rfl,<-Nat.pow_mul]; exact h)
theorem ic:(ao pE).length<=8:=tc (Nat.lt_of_lt_of_le eb.2.2.1 (Nat.pow_le_pow_right (by decide) (by decide)))
abbrev Fe:=Fin pE
def le (x:Fe):Q0:=ao x.val
theorem fC (x:Fe):(le x).length<=8:=Nat.le_trans (da (Nat.le_of_lt x.isLt)) ic
theorem eW (x:Fe):val (le x)=x.val:=aw _
theorem k5 (x:Fe):nb (val (le x))<=255:=by rw[eW]; exact gv (Nat.lt_trans x.isLt eb.2.2.1)
theorem oZ:le 0=[]:=by unfold le; rw[show (0:Fe).val=0 from rfl,bG]
theorem D9:(1:Fe).val=1:=Nat.mod_eq_of_lt eb.1
theorem qk:le 1=[1]:=by
 unfold le; rw[D9,f7 (by decide),show 1 / 4294967296=0 by decide,bG]; rfl
theorem mb {l:Q0} {n:Nat} (h:val l=n) (hc:l.getLast?≠some 0):l=ao n:=uw h hc
theorem gC:F.GV=some (ao pE):=by
 rw[<-mb (l:=F.G8) (n:=pE) (by decide +kernel) (by decide)]; rfl
theorem Bp:F.K0=some (ao nE):=by
 rw[<-mb (l:=F.G9) (n:=nE) (by decide +kernel) (by decide)]; rfl
def dE:Fe:=⟨37095705934669439343138083508754565189542113879843219016388785533085940283555,by decide +kernel⟩
def iE:Fe:=⟨38214883241950591754978413199355411911188925816896391856984770930832735035197,by decide +kernel⟩
def gX:Fe:=⟨15112221349535400772501151409588531511454012693041857206046113283949847762202,by decide +kernel⟩
def gY:Fe:=⟨46316835694926478169428394003475163141307993866256225615783033603165251855960,by decide +kernel⟩
theorem p9:F.It=some (le dE):=by
 unfold le
 rw[<-mb (l:=F.G3) (n:=dE.val) (by decide +kernel) (by decide)]; rfl
theorem Dt:F.Md=some (le iE):=by
 unfold le
 rw[<-mb (l:=F.G6) (n:=iE.val) (by decide +kernel) (by decide)]; rfl
theorem DP:F.L8=some (le gX,le gY,false):=by
 unfold le
 rw[<-mb (l:=F.G5) (n:=gX.val) (by decide +kernel) (by decide),<-mb (l:=F.G1) (n:=gY.val) (by decide +kernel) (by decide)]; rfl
theorem Dp (a b:Q0) (m:Nat) (h:1<m) (hm:nb m<=4096) (ha:nb (val a)<=4096) (hb:nb (val b)<=4096) (f:a.length<=40000000000000) (g:b.length<=40000000000000) (i:(ao m).length<=900) :
  F.Ld a b (ao m)=some (ao ((val a+val b)%m),0):=by
 have l1:=i9 ha; have j:=i9 hb
 have hs:(ao (val a+val b)).length<=200:=Nat.le_trans (iH _ _) (by omega)
 unfold F.Ld
 rw[mL ha hb (by rw[aw]; omega) (by rw[aw]; omega) f g (by omega),ae,if_neg (by decide),oK _ _ f g,ae,fH _ _ (by omega) (by omega) (by rw[aw]; omega),ae,aw,aw]
theorem DL (a b:Q0) (m:Nat) (h:1<m) (hm:nb m<=4096) (ha:nb (val a)<=4096) (hb:nb (val b)<=4096) (f:a.length<=40000000000000) (g:b.length<=40000000000000) (i:(ao m).length<=900) :
  F.LD a b (ao m)=some (ao ((m - val b%m+val a%m)%m),0):=by
 unfold F.LD
 rw[mL ha hb (by rw[aw]; omega) (by rw[aw]; omega) f g (by omega),ae,if_neg (by decide),fH _ _ f (by omega) (by rw[aw]; omega),ae,fH _ _ g (by omega) (by rw[aw]; omega),ae,aw,
  pL (Nat.mod_lt _ (by omega)) (Nat.mod_lt _ (by omega)) (by omega) (ao m) (aw m) (by omega),ae]
theorem uq (x y:Fe):F.GL (le x) (le y)=some (le (x+y)):=by
 have a:=fC x; have b:=fC y; have c:=k5 x; have d:=k5 y; have e:=qL; have f:=ic
 unfold F.GL
 rw[gC,ae,Dp _ _ _ eb.1 (by omega) (by omega) (by omega) (by omega) (by omega) (by omega),ae,eW,eW]; rfl
theorem rU (x y:Fe):F.GR (le x) (le y)=some (le (x - y)):=by
 have a:=fC x; have b:=fC y; have c:=k5 x; have d:=k5 y; have e:=qL; have f:=ic
 unfold F.GR
 rw[gC,ae,DL _ _ _ eb.1 (by omega) (by omega) (by omega) (by omega) (by omega) (by omega),ae,eW,eW,Nat.mod_eq_of_lt x.isLt,Nat.mod_eq_of_lt y.isLt]; rfl
theorem iq (x y:Fe):F.Gz (le x) (le y)=some (le (x*y)):=by
 have a:=fC x; have b:=fC y; have c:=k5 x; have d:=k5 y; have e:=qL; have f:=ic
 unfold F.Gz
 rw[gC,ae,sk _ _ _ eb.1 (by omega) (by omega) (by omega) (by omega) (by omega) (by omega),ae,eW,eW]; rfl
noncomputable def sh (x:Fe):Fe:=⟨nJ pE x.val,DI eb.2.2.2⟩
def pO (x:Fe) (e:Nat):Fe:=⟨x.val^e%pE,Nat.mod_lt _ eb.2.2.2⟩
theorem FF (x:Fe):F.Ka (le x)=some (le (sh x)):=by
 have a:=fC x; have c:=k5 x; have e:=qL; have f:=ic
 unfold F.Ka
 rw[gC,ae,DT _ _ eb.1 eb.2.1 (by omega) (by omega) (by omega) (by omega),ae,eW]
 simp only[le,sh]
theorem Gs (x:Fe) (e:Q0) (g:e.length<=1000) (he:nb (val e)<=4096):F.LP (le x) e=some (le (pO x (val e))):=by
 have a:=fC x; have c:=k5 x; have h:=qL; have f:=ic
 unfold F.LP
 rw[gC,ae,rX _ _ _ eb.1 (by omega) (by omega) (by omega) he (by omega) (by omega),ae,eW]; rfl
theorem Da (x:Fe):F.JV (le x)=some (le x):=by
 unfold F.JV
 rw[<-oZ,uq,ae,Fin.add_zero]
abbrev Q4:=Fe×Fe×Fe×Fe
def q4 (s:Q4):Q0×Q0×Q0×Q0:=(le s.1,le s.2.1,le s.2.2.1,le s.2.2.2)
def twE (s:Q4):Q4:=
 let a:=s.1*s.1; let b:=s.2.1*s.2.1; let c:=s.2.2.1*(s.2.2.1+s.2.2.1); let h:=a+b; let w:=s.1+s.2.1; let e:=h - w*w; let g:=a - b; let f:=c+g
 (e*f,g*h,f*g,e*h)
def plE (s q:Q4):Q4:=
 let a:=(s.2.1 - s.1)*(q.2.1 - q.1); let b:=(s.2.1+s.1)*(q.2.1+q.1); let c:=s.2.2.2*q.2.2.2*(dE+dE); let d:=s.2.2.1*(q.2.2.1+q.2.2.1); let e:=b - a; let f:=d - c; let g:=d+c; let h:=b+a
 (e*f,g*h,f*g,e*h)
theorem A9 (s:Q4):F.Lh (le s.1) (le s.2.1) (le s.2.2.1) (le s.2.2.2)=some (q4 (twE s)):=by
 unfold F.Lh
 simp only[iq,uq,rU,ae]
 rfl
theorem xK (s q:Q4):F.J8 (le s.1) (le s.2.1) (le s.2.2.1) (le s.2.2.2) (le q.1) (le q.2.1) (le q.2.2.1) (le q.2.2.2)=some (q4 (plE s q)):=by
 unfold F.J8
 simp only[iq,uq,rU,p9,ae]
 rfl
def tmE (s:Q4) (k:Nat):Nat->Q4->Q4
 | 0,a=>a
 | i+1,a=>tmE s k i (if k / 2^i%2=1 then plE (twE a) s else twE a)
theorem qS (s:Q4) (k:Q0) (f:k.length<=1000):∀(i:Nat) (a:Q4),i<=1000000->loop (F.Jl (le s.1) (le s.2.1) (le s.2.2.1) (le s.2.2.2) k) ((i:Int) - 1,q4 a)=some (q4 (tmE s (val k) i a))
 | 0,a,_=>by
  refine bu ?_
  unfold F.Jl q4
  dsimp only
  rw[if_neg (by decide)]; rfl
 | i+1,a,hi=>by
  have g:(((i+1:Nat):Int)) - 1=(i:Int):=by omega
  have w:wI ((i:Int) - 1)=(i:Int) - 1:=aI (by omega) (by omega)
  rw[g]
  show _=some (q4 (tmE s (val k) i (if val k / 2^i%2=1 then plE (twE a) s else twE a)))
  rw[<-qS s k f i _ (by omega)]
  refine bB ?_
  unfold F.Jl q4
  dsimp only
  rw[if_pos (decide_eq_true (by omega)),A9,ae,wZ _ _ (by omega) (by omega),ae]
  by_cases h:val k / 2^i%2=1
  ·rw[if_pos (decide_eq_true h),if_pos h]
   have:=xK (twE a) s
   unfold q4 at this ⊢
   rw[this,ae]
   unfold F.Kb
   dsimp only
   rw[w]; rfl
  ·rw[if_neg (by rw[decide_eq_true_eq]; exact h),if_neg h]
   unfold F.Kb q4
   dsimp only
   rw[w]; rfl
def tiE (s:Q4) (k:Nat):Q4:=tmE s k (nb k) (0,1,1,0)
theorem ug (s:Q4) (k:Q0) (f:k.length<=1000):F.J9 (le s.1) (le s.2.1) (le s.2.2.1) (le s.2.2.2) k=some (q4 (tiE s (val k))):=by
 have hb:nb (val k)<=32*k.length:=Nat.le_trans (ib _) (Nat.mul_le_mul_left 32 (ba (bD k)))
 have w:wI (((nb (val k):Nat):Int) - 1)=((nb (val k):Nat):Int) - 1:=aI (by omega) (by omega)
 unfold F.J9
 rw[ew k (by omega),ae,w,<-qk,<-oZ]
 exact qS s k f (nb (val k)) (0,1,1,0) (by omega)
noncomputable def ptE (s:Q4):Fe×Fe:=(s.1*sh s.2.2.1,s.2.1*sh s.2.2.1)
theorem BX (s:Q4):F.Lc (le s.1) (le s.2.1) (le s.2.2.1) (le s.2.2.2)=some (le (ptE s).1,le (ptE s).2,false):=by
 unfold F.Lc
 rw[FF,ae,iq,ae,iq,ae]; rfl
theorem sQ (x y:Fe):F.Ku (le x) (le y) false=some (q4 (x,y,1,x*y)):=by
 unfold F.Ku
 rw[Da,ae,Da,ae,iq,ae,<-qk]; rfl
def onE (x y:Fe):Bool:=decide (y*y - x*x=1+dE*(x*x*(y*y)))
theorem BS (x y:Fe):F.GG (le x) (le y)=some (cD x.val y.val):=by
 have a:=fC x; have b:=fC y
 rw[eN _ _ (by omega) (by omega),eW,eW]
theorem EV (x y:Fe):(cD x.val y.val == 0)=decide (x=y):=by
 rw[Cp,decide_eq_decide]; exact⟨fun h=>Fin.ext h,fun h=>by rw[h]⟩
theorem AJ (x:Fe):F.GG (le x) (ao pE)=some (-1):=by
 have a:=fC x; have f:=ic
 rw[eN _ _ (by omega) (by omega),eW,aw]; unfold cD; rw[if_pos x.isLt]
theorem EA (x y:Fe):F.Lj (le x) (le y) false=some (onE x y):=by
 unfold F.Lj
 rw[if_neg (by decide),gC,ae,AJ,ae,if_neg (by decide),ae,AJ,ae]
 unfold F.JS onE
 dsimp only
 rw[if_neg (by decide),iq,ae,iq,ae,rU,ae,p9,ae,iq,ae,iq,ae,<-qk,uq,ae,BS,ae,EV]
end Go.Gk.Bn
end

section
namespace Go.Gk.Bn
open Go Go.Gk Go.Gk.Sh
theorem uP (l:Q1) (hl:l.length<=1000000):∀(r i:Nat) (x:Q1),l.length - 1 - 2*i<=r->2*i<=l.length->x.length=l.length->(∀j,j<l.length->x.getD j 0=if j<i\/l.length - i<=j then l.getD (l.length - 1 - j) 0 else l.getD j 0) ->
  loop F.J6 ((i:Int),(l.length:Int) - 1 - (i:Int),x)=some l.reverse
 | r,i,x,hr,hi,hx,hj=>by
  by_cases hlt:i+i+1<l.length
  ·match r,hr with
   | 0,hr=>omega
   | r+1,hr=>
    have f:=uP l hl r (i+1) ((x.set i (x.getD (l.length - 1 - i) 0)).set (l.length - 1 - i) (x.getD i 0)) (by omega) (by omega) (by simpa using hx) (fun j h=>by
     by_cases e1:j=l.length - 1 - i
     ·subst e1
      rw[List.getD_eq_getElem?_getD,List.getElem?_set_self (by simp[hx]; omega),if_pos (by omega)]
      show x.getD i 0=_
      rw[hj i (by omega),if_neg (by omega)]; congr 1; omega
     ·by_cases e2:j=i
      ·subst e2
       rw[List.getD_eq_getElem?_getD,List.getElem?_set_ne (by omega),List.getElem?_set_self (by omega),if_pos (by omega)]
       show x.getD (l.length - 1 - j) 0=_
       rw[hj _ (by omega),if_neg (by omega)]
      ·rw[List.getD_eq_getElem?_getD,List.getElem?_set_ne (by omega),List.getElem?_set_ne (by omega),<-List.getD_eq_getElem?_getD,hj j h]
       by_cases e3:j<i\/l.length - i<=j
       ·rw[if_pos e3,if_pos (by omega)]
       ·rw[if_neg e3,if_neg (by omega)])
    rw[<-f]
    refine bB ?_
    have z:(l.length:Int) - 1 - (i:Int)=((l.length - 1 - i:Nat):Int):=by omega
    unfold F.J6
    dsimp only
    rw[z,if_pos (decide_eq_true (by omega)),aT (by omega) 0,ae,aT (by omega) 0,ae,ae,aV,aT (by rw[List.length_set]; omega) 0,ae,aV,Int.toNat_natCast,Int.toNat_natCast,aI (by omega) (by omega),aI (by omega) (by omega)]
    rw[show ((l.length - 1 - i:Nat):Int) - 1=(l.length:Int) - 1 - ((i+1:Nat):Int) by omega]
    rfl
  ·refine bu ?_
   unfold F.J6
   dsimp only
   rw[if_neg (by rw[decide_eq_true_eq]; omega)]
   congr 2
   apply List.ext_getElem (by simp[hx])
   intro j f A
   have g:=hj j (by omega)
   rw[List.getD_eq_getElem?_getD,List.getElem?_eq_getElem f]at g
   simp only[Option.getD_some]at g
   rw[g,List.getElem_reverse]
   have o:∀k (t:k<l.length),l.getD k 0=l[k]:=fun k t=>by rw[List.getD_eq_getElem?_getD,List.getElem?_eq_getElem t]; rfl
   split
   ·rw[o _ (by omega)]
   ·rw[o _ (by omega)]
    have:j=l.length - 1 - j:=by omega
    congr 1
theorem qK (l:Q1) (hl:l.length<=1000000):F.Ke l=some l.reverse:=by
 unfold F.Ke
 rw[aV,aI (by omega) (by omega)]
 have:=uP l hl l.length 0 l (by omega) (by omega) rfl (fun j f=>by rw[if_neg (by omega)])
 rw[<-this]
 congr 3
 omega
def leN (l:Q1):Nat:=beN l.reverse
theorem vH (l:Q1):leN l<256^l.length:=by have:=gk l.reverse; rwa [List.length_reverse]at this
theorem zn (a:Q1) (h:a.length<=225000000000000):F.Ho a=some a:=by
 unfold F.Ho
 rw[show apO 1 [] a=some a by unfold apO; rw[if_pos (by simp; omega)]; rfl,ae]
theorem mq (l:Q1) (hl:l.length<=1000000):F.Ir l=some (ao (leN l)):=by
 unfold F.Ir
 rw[zn l (by omega),ae,qK l hl,ae,cz _ (by rw[List.length_reverse]; omega),ae]; rfl
noncomputable def xxE (y:Fe):Fe:=(y*y - 1)*sh (dE*(y*y)+1)
noncomputable def x1E (y:Fe):Fe:=if pO (xxE y) ((pE+3) / 8)*pO (xxE y) ((pE+3) / 8)=xxE y then pO (xxE y) ((pE+3) / 8) else pO (xxE y) ((pE+3) / 8)*iE
noncomputable def yh (y:Fe) (odd:Bool):Option Fe:=
 if x1E y*x1E y=xxE y/\¬(x1E y=0/\odd=true) then some (if decide ((x1E y).val%2=1)=odd then x1E y else 0 - x1E y) else none
def E3 (o:Option Fe):Q0×Bool:=match o with
 | some x=>(le x,true)
 | none=>([],false)
theorem C6 (x y:Fe):(cD x.val y.val != 0)=decide (¬x=y):=by
 rw[bne,EV]; by_cases h:x=y
 ·rw[decide_eq_true h,decide_eq_false (by simpa using h)]; rfl
 ·rw[decide_eq_false h,decide_eq_true h]; rfl
theorem Db (x:Fe):F.GP (le x) 0=some (decide (x.val%2=1)):=by
 have a:=fC x
 rw[iI _ (by omega),eW]
theorem Aj (f:Bool) (x:Fe):F.Ig f (le x) false=some (le (if decide (x.val%2=1)=f then x else 0 - x),true):=by
 unfold F.Ig
 rw[if_neg (by decide),Db,ae]
 by_cases h:decide (x.val%2=1)=f
 ·rw[if_neg (by rw[h]; simp),if_pos h]; rfl
 ·rw[if_pos (by rw[bne_iff_ne]; exact h),<-oZ,rU,ae,if_neg h]; rfl
theorem zJ (f:Bool) (g x:Fe):F.JU f (le g) (le x)=some (E3 (if x*x=g/\¬(x=0/\f=true) then some (if decide (x.val%2=1)=f then x else 0 - x) else none)):=by
 have a:=fC x
 have hb:(((nb x.val:Nat):Int) == 0)=decide (x=0):=by
  by_cases h:x=0
  ·rw[h,decide_eq_true rfl,show (0:Fe).val=0 from rfl,fR]; rfl
  ·rw[decide_eq_false h,beq_eq_false_iff_ne]
   have i:x.val≠0:=fun q=>h (Fin.ext q)
   have:=(c9 x.val).2 i
   omega
 unfold F.JU
 dsimp only
 rw[iq,ae,BS,ae,C6]
 by_cases h1:x*x=g
 ·rw[if_neg (by rw[decide_eq_true_eq]; exact fun q=>q h1),ew _ (by omega),ae,eW,hb]
  by_cases h2:x=0
  ·rw[if_pos (decide_eq_true h2)]
   cases f with
   | true=>rw[if_neg (fun q=>q.2 ⟨h2,rfl⟩)]; rfl
   | false=>rw[if_pos ⟨h1,fun q=>by cases q.2⟩,Aj]; rfl
  ·rw[if_neg (by rw[decide_eq_true_eq]; exact h2),if_pos ⟨h1,fun q=>h2 q.1⟩,Aj]; rfl
 ·rw[if_pos (decide_eq_true h1),if_neg fun q=>h1 q.1]; rfl
theorem EI:F.GU (ao (pE+3)) 3=some (ao ((pE+3) / 8)):=by
 have h:(ao (pE+3)).length<=9:=Nat.le_trans (iH _ _) (by have:=ic; have:(ao 3).length<=1:=ba (by decide); omega)
 have:=DX (ao (pE+3)) 3 (by decide) (by omega)
 rw[aw]at this
 exact this
theorem Fu (y:Fe) (g:Bool):F.LA (le y) g=some (E3 (yh y g)):=by
 have f:=ic
 have i:val ([3]:Q0)=3:=rfl
 have he:(ao ((pE+3) / 8)).length<=9:=Nat.le_trans (da (Nat.div_le_self _ _)) (Nat.le_trans (iH _ _) (by have:(ao 3).length<=1:=ba (by decide); omega))
 have j:nb ((pE+3) / 8)<=32*9:=Nat.le_trans (ib _) (by omega)
 unfold F.LA
 rw[iq,ae,<-qk,rU,ae,p9,ae,iq,ae,uq,ae,FF,ae,iq,ae,gC,ae,oK _ _ (by omega) (by decide),ae,aw,i,EI,ae,
  Gs _ _ (by omega) (by rw[aw]; omega),ae,aw,iq,ae,BS,ae,C6]
 have hx:(y*y - 1)*sh (dE*(y*y)+1)=xxE y:=rfl
 rw[hx]
 unfold yh x1E
 by_cases h:pO (xxE y) ((pE+3) / 8)*pO (xxE y) ((pE+3) / 8)=xxE y
 ·rw[if_neg (by rw[decide_eq_true_eq]; exact fun q=>q h),if_pos h,zJ]
 ·rw[if_pos (decide_eq_true h),Dt,ae,iq,ae,if_neg h,zJ]
def clr (b:Q1):Q1:=b.set 31 (b.getD 31 0 &&& 127)
noncomputable def nQ (b:Q1):Option (Fe×Fe):=
 if b.length=32 then if h:leN (clr b)<pE then match yh ⟨leN (clr b),h⟩ ((b.getD 31 0 &&& 128) != 0) with
  | some x=>some (x,⟨leN (clr b),h⟩)
  | none=>none else none else none
def Fc (o:Option (Fe×Fe)):Q0×Q0×Bool×Int:=match o with
 | some (x,y)=>(le x,le y,false,0)
 | none=>([],[],false,93)
theorem qI (b:Q1):F.Kg b=some (Fc (nQ b)):=by
 unfold F.Kg nQ
 by_cases h:b.length=32
 ·have hl:(clr b).length=32:=by unfold clr; rw[List.length_set,h]
  have g:=vH (clr b)
  rw[hl]at g
  have k:(ao (leN (clr b))).length<=8:=ba (by rw[show (4294967296:Nat)=256^4 from rfl,<-Nat.pow_mul]; exact g)
  have f:=ic
  rw[if_neg (by rw[h]; simp),if_pos h,zn b (by omega),ae,show (31:Int)=((31:Nat):Int) from rfl,aT (show 31<b.length by omega) 0,ae,ae,ae,aV,Int.toNat_natCast]
  have i:b.set 31 (b.getD 31 0 &&& 127)=clr b:=rfl
  rw[i,mq _ (by omega),ae,gC,ae,eN _ _ (by omega) (by omega),ae,aw,aw]
  by_cases hc:leN (clr b)<pE
  ·have:¬0<=cD (leN (clr b)) pE:=by unfold cD; rw[if_pos hc]; decide
   rw[if_neg (by rw[decide_eq_true_eq]; exact this),dif_pos hc]
   have j:ao (leN (clr b))=le ⟨leN (clr b),hc⟩:=rfl
   rw[j,Fu,ae]
   cases yh ⟨leN (clr b),hc⟩ ((b.getD 31 0 &&& 128) != 0) <;> rfl
  ·have:0<=cD (leN (clr b)) pE:=by unfold cD; rw[if_neg hc]; split <;> decide
   rw[if_pos (decide_eq_true this),dif_neg hc]; rfl
 ·rw[if_pos (by rw[bne_iff_ne]; omega),if_neg h]; rfl
def yM (x y:Fe):Q1:=if x.val%2=1 then (beB 32 y.val).reverse.set 31 ((beB 32 y.val).reverse.getD 31 0 ||| 128) else (beB 32 y.val).reverse
theorem zi (x y:Fe):F.KL (le x) (le y) false=some (if onE x y=true then (yM x y,0) else ([],93)):=by
 have a:=fC y
 have hy:y.val<256^32:=Nat.lt_trans y.isLt (Nat.lt_of_lt_of_le eb.2.2.1 (by decide))
 have hl:((beB 32 y.val).reverse).length=32:=by rw[List.length_reverse,gL]
 unfold F.KL
 rw[EA,ae]
 cases onE x y with
 | false=>rfl
 | true=>
  rw[if_neg (by decide),show (32:Int)=((32:Nat):Int) from rfl,rJ (le y) 32 (by omega) (by decide),eW,if_pos hy,ae,qK _ (by rw[gL]; decide),ae,Db,ae,if_pos rfl]
  unfold yM F.KP
  by_cases h:x.val%2=1
  ·rw[if_pos (decide_eq_true h),if_pos h,show (31:Int)=((31:Nat):Int) from rfl,aT (show 31<_ by rw[hl]; decide) 0,ae,ae,aV,Int.toNat_natCast]
  ·rw[if_neg (by rw[decide_eq_true_eq]; exact h),if_neg h]
noncomputable def rE (x y:Fe) (s k:Nat):Fe×Fe:=ptE (plE (tiE (gX,gY,1,gX*gY) s) (tiE (0 - x,y,1,(0 - x)*y) k))
noncomputable def edT (pub m sig:Q1):Int:=match nQ pub with
 | none=>90
 | some (x,y)=>if sig.length=64/\leN (sig.drop 32)<nE/\onE (rE x y (leN (sig.drop 32)) (leN (cT 3 (sig.take 32++(pub++m)))%nE)).1 (rE x y (leN (sig.drop 32)) (leN (cT 3 (sig.take 32++(pub++m)))%nE)).2=true /\
   yM (rE x y (leN (sig.drop 32)) (leN (cT 3 (sig.take 32++(pub++m)))%nE)).1 (rE x y (leN (sig.drop 32)) (leN (cT 3 (sig.take 32++(pub++m)))%nE)).2=sig.take 32 then 0 else 91
theorem qA (b:Bool):F.KV b=some (if b=true then 91 else 0):=by cases b <;> rfl
theorem BM {b:Q1} {p:Fe×Fe} (h:nQ b=some p):b.length=32:=by
 unfold nQ at h
 split at h
 ·assumption
 ·cases h
theorem yE (f m sig:Q1) (hm:m.length<=800000000000000) (hs:sig.length<=140737488351232):F.Lw f m sig=some (edT f m sig):=by
 unfold F.Lw edT
 rw[qI,ae]
 cases hd:nQ f with
 | none=>rfl
 | some p=>
  obtain⟨x,y⟩:=p
  have M:=BM hd
  show (if ((0:Int) != 0)=true then _ else _)=_
  rw[if_neg (by decide)]
  by_cases h1:sig.length=64
  ·have o:=vH (sig.drop 32)
   rw[List.length_drop,h1]at o
   have I:(ao (leN (sig.drop 32))).length<=8:=ba (by rw[show (4294967296:Nat)=256^4 from rfl,<-Nat.pow_mul]; exact o)
   have hn:(ao nE).length<=8:=tc (Nat.lt_of_lt_of_le v7.2 (Nat.pow_le_pow_right (by decide) (by decide)))
   rw[if_neg (by rw[h1]; simp),show (32:Int)=((32:Nat):Int) from rfl,g9 (by omega),ae,mq _ (by rw[List.length_drop]; omega),ae,Bp,ae,eN _ _ (by omega) (by omega),ae,aw,aw]
   by_cases h2:leN (sig.drop 32)<nE
   ·have:¬0<=cD (leN (sig.drop 32)) nE:=by unfold cD; rw[if_pos h2]; decide
    have g:[sig.take 32,f,m].flatten=sig.take 32++(f++m):=by simp
    have A:F.GK 3 [sig.take 32,f,m]=some (cT 3 (sig.take 32++(f++m))):=by
     rw[ge 3 (by right; right; rfl) _ (by simp) (by rw[g]; simp; omega),g]
    have h:=iB 3 (sig.take 32++(f++m))
    rw[show Sz 3=64 from rfl]at h
    have i:=vH (cT 3 (sig.take 32++(f++m)))
    rw[h]at i
    have J:(ao (leN (cT 3 (sig.take 32++(f++m))))).length<=16:=ba (by rw[show (4294967296:Nat)=256^4 from rfl,<-Nat.pow_mul]; exact i)
    have t:nE≠0:=by have:=v7.1; omega
    have K:(ao (leN (cT 3 (sig.take 32++(f++m)))%nE)).length<=8:=Nat.le_trans (da (Nat.le_of_lt (Nat.mod_lt _ (by omega)))) hn
    rw[if_neg (by rw[decide_eq_true_eq]; exact this),uZ (by omega),ae,A,ae,mq _ (by omega),ae,ae,mU _ _ (by omega) (by omega),ae,aw,aw,if_neg t,<-oZ]
    dsimp only[Fc]
    rw[rU,ae,DP,ae,sQ,ae]
    have j:=ug (gX,gY,1,gX*gY) (ao (leN (sig.drop 32))) (by omega)
    have k:=ug (0 - x,y,1,(0 - x)*y) (ao (leN (cT 3 (sig.take 32++(f++m)))%nE)) (by omega)
    rw[aw]at j k
    dsimp only[q4]at j k ⊢
    rw[j,ae,sQ,ae]
    dsimp only[q4]
    rw[k,ae]
    dsimp only
    have z:=xK (tiE (gX,gY,1,gX*gY) (leN (sig.drop 32))) (tiE (0 - x,y,1,(0 - x)*y) (leN (cT 3 (sig.take 32++(f++m)))%nE))
    dsimp only[q4]at z
    rw[z,ae]
    dsimp only
    rw[BX,ae]
    dsimp only
    rw[zi,ae]
    have B:ptE (plE (tiE (gX,gY,1,gX*gY) (leN (sig.drop 32))) (tiE (0 - x,y,1,(0 - x)*y) (leN (cT 3 (sig.take 32++(f++m)))%nE)))=rE x y (leN (sig.drop 32)) (leN (cT 3 (sig.take 32++(f++m)))%nE):=rfl
    rw[B]
    obtain⟨R,G⟩:∃R,rE x y (leN (sig.drop 32)) (leN (cT 3 (sig.take 32++(f++m)))%nE)=R:=⟨_,rfl⟩
    rw[G]
    cases h3:onE R.1 R.2 with
    | false=>
     rw[if_neg (show ¬false=true by decide)]
     show (if ((93:Int) != 0)=true then _ else _)=_
     rw[if_pos (by decide),qA,if_pos rfl,if_neg fun q=>by cases q.2.2.1]
    | true=>
     rw[if_pos rfl]
     show (if ((0:Int) != 0)=true then _ else _)=_
     rw[if_neg (by decide),ae,uV,ae,qA]
     by_cases h4:yM R.1 R.2=sig.take 32
     ·rw[decide_eq_true h4,if_neg (by decide),if_pos ⟨h1,h2,rfl,h4⟩]
     ·rw[decide_eq_false h4,if_pos (by decide),if_neg fun q=>h4 q.2.2.2]
   ·have:0<=cD (leN (sig.drop 32)) nE:=by unfold cD; rw[if_neg h2]; split <;> decide
    rw[if_pos (decide_eq_true this)]
    show _=some (if _ then _ else _)
    rw[if_neg fun q=>h2 q.2.1]
  ·rw[if_pos (by rw[bne_iff_ne]; omega)]
   show _=some (if _ then _ else _)
   rw[if_neg fun q=>h1 q.1]
end Go.Gk.Bn
end

section
namespace Go.Gk.Bn
open Go Go.Gk Go.Gk.Sh
abbrev LB:Nat:=140737488351232
def eY (l:List Q1):Nat:=(l.map List.length).sum
theorem pr (l:List Q1) (hl:l.length<=10) (hb:∀x∈l,x.length<=LB):∀(r i:Nat),i+r=l.length->loop (F.H9 l) (((eY (l.take i):Nat):Int),(i:Int))=some (decide (eY l=0))
 | 0,i,e=>by
  refine bu ?_
  unfold F.H9
  dsimp only
  rw[if_neg (by rw[decide_eq_true_eq]; omega),List.take_of_length_le (by omega)]
  congr 2
  by_cases h:eY l=0
  ·rw[h,decide_eq_true rfl]; rfl
  ·rw[decide_eq_false h,beq_eq_false_iff_ne]; omega
 | r+1,i,e=>by
  have hi:i<l.length:=by omega
  have k:l.take (i+1)=l.take i++[l[i]]:=by rw[List.take_add_one,List.getElem?_eq_getElem hi]; rfl
  have hs:eY (l.take (i+1))=eY (l.take i)+l[i].length:=by unfold eY; rw[k,List.map_append,List.sum_append]; simp
  have g:∀(m:List Q1),(∀x∈m,x.length<=LB)->eY m<=m.length*LB:=by
   intro m
   induction m with
   | nil=>intro _; simp[eY]
   | cons a m ih=>
    intro h
    have f:=ih fun x hx=>h x (by simp[hx])
    have j:=h a (by simp)
    simp only[eY,List.map_cons,List.sum_cons,List.length_cons,Nat.add_mul]at f ⊢
    omega
  have f:=g (l.take (i+1)) fun x hx=>hb x (List.mem_of_mem_take hx)
  have j:(l.take (i+1)).length<=10:=by rw[List.length_take]; omega
  have o:eY (l.take (i+1))<=10*LB:=Nat.le_trans f (Nat.mul_le_mul_right _ j)
  rw[<-pr l hl hb r (i+1) (by omega)]
  refine bB ?_
  unfold F.H9
  dsimp only
  rw[if_pos (decide_eq_true (by omega)),fO hi,ae,aI (by omega) (by unfold LB at o; omega),aV,aI (by omega) (by omega),hs]
  rfl
theorem ld (l:List Q1) (hl:l.length<=10) (hb:∀x∈l,x.length<=LB):F.GX l=some (decide (eY l=0)):=pr l hl hb l.length 0 (by omega)
noncomputable def o7 (kty crv:Int) (s n e x y:Q1):Bool:=
 if kty=1 then decide (crv=0/\32<=s.length/\s.length<=4096/\eY [n,e,x,y]=0)
 else if kty=2 then decide (crv=0/\eY [s,x,y]=0/\gf n e)
 else if kty=3 then decide ((jR crv x y).2.2.2=0/\eY [s,n,e]=0)
 else if kty=4 then decide (crv=3/\eY [s,n,e,y]=0/\(nQ x).isSome=true) else false
theorem g8 (a b:Int):(a == b)=decide (a=b):=by
 by_cases h:a=b
 ·rw[decide_eq_true h,beq_iff_eq]; exact h
 ·rw[decide_eq_false h,beq_eq_false_iff_ne]; exact h
theorem D8 (kty crv:Int) (s n e x y:Q1) (hs:s.length<=LB) (hn:n.length<=LB) (he:e.length<=LB) (hx:x.length<=LB) (hy:y.length<=LB):F.Kv kty crv s n e x y=some (o7 kty crv s n e x y):=by
 have f:F.GX [n,e,x,y]=some (decide (eY [n,e,x,y]=0)):=ld _ (by simp) (by simp[hn,he,hx,hy])
 have g:F.GX [s,x,y]=some (decide (eY [s,x,y]=0)):=ld _ (by simp) (by simp[hs,hx,hy])
 have h:F.GX [s,n,e]=some (decide (eY [s,n,e]=0)):=ld _ (by simp) (by simp[hs,hn,he])
 have i:F.GX [s,n,e,y]=some (decide (eY [s,n,e,y]=0)):=ld _ (by simp) (by simp[hs,hn,he,hy])
 unfold F.Kv o7
 simp only[g8,decide_eq_true_eq]
 by_cases k1:kty=1
 ·rw[if_pos k1,if_pos k1]
  by_cases c1:crv=0
  ·rw[if_pos c1]
   by_cases c2:32<=s.length
   ·rw[if_pos (by omega)]
    by_cases c3:s.length<=4096
    ·rw[if_pos (by omega),f,ae]; congr 1; rw[decide_eq_decide]; exact⟨fun q=>⟨c1,c2,c3,q⟩,fun q=>q.2.2.2⟩
    ·rw[if_neg (by omega),decide_eq_false fun q=>c3 q.2.2.1]
   ·rw[if_neg (by omega),decide_eq_false fun q=>c2 q.2.1]
  ·rw[if_neg c1,decide_eq_false fun q=>c1 q.1]
 rw[if_neg k1,if_neg k1]
 by_cases k2:kty=2
 ·rw[if_pos k2,if_pos k2]
  by_cases c1:crv=0
  ·rw[if_pos c1,g,ae]
   by_cases c2:eY [s,x,y]=0
   ·rw[if_pos (decide_eq_true c2),vE n e hn he,ae]
    by_cases c3:gf n e
    ·rw[if_pos c3,decide_eq_true (show crv=0/\eY [s,x,y]=0/\gf n e from⟨c1,c2,c3⟩)]; rfl
    ·rw[if_neg c3,decide_eq_false (show ¬(crv=0/\eY [s,x,y]=0/\gf n e) from fun q=>c3 q.2.2)]; rfl
   ·rw[if_neg (by rw[decide_eq_true_eq]; exact c2),decide_eq_false fun q=>c2 q.2.1]
  ·rw[if_neg c1,decide_eq_false fun q=>c1 q.1]
 rw[if_neg k2,if_neg k2]
 by_cases k3:kty=3
 ·rw[if_pos k3,if_pos k3,sr,ae]
  by_cases c1:(jR crv x y).2.2.2=0
  ·rw[if_pos c1,h,ae]; congr 1; rw[decide_eq_decide]; exact⟨fun q=>⟨c1,q⟩,fun q=>q.2⟩
  ·rw[if_neg c1,decide_eq_false fun q=>c1 q.1]
 rw[if_neg k3,if_neg k3]
 by_cases k4:kty=4
 ·rw[if_pos k4,if_pos k4]
  by_cases c1:crv=3
  ·rw[if_neg (by rw[c1]; decide),i,ae]
   by_cases c2:eY [s,n,e,y]=0
   ·rw[decide_eq_true c2]
    unfold F.Lg
    dsimp only
    rw[if_neg (by decide),qI,ae]
    cases hd:nQ x with
    | none=>rw[decide_eq_false fun q=>by cases q.2.2]; rfl
    | some p=>rw[decide_eq_true ⟨c1,c2,rfl⟩]; rfl
   ·rw[decide_eq_false c2,decide_eq_false fun q=>c2 q.2.1]; rfl
  ·rw[if_pos (by rw[bne_iff_ne]; exact c1),decide_eq_false fun q=>c1 q.1]; rfl
 rw[if_neg k4,if_neg k4]
theorem zF (kty crv:Int) (s n e x y:Q1) (hs:s.length<=LB) (hn:n.length<=LB) (he:e.length<=LB) (hx:x.length<=LB) (hy:y.length<=LB):F.Ih kty crv s n e x y=some (if o7 kty crv s n e x y=true then 0 else 90):=by
 unfold F.Ih
 rw[D8 kty crv s n e x y hs hn he hx hy,ae]
 cases o7 kty crv s n e x y <;> rfl
def dT (a:Int):Int×Int×Int:=
 if 1<=a/\a<=3 then (1,a,0) else if 4<=a/\a<=6 then (2,a - 3,0) else if 7<=a/\a<=9 then (3,a - 6,0) else if a=10 then (4,1,1) else if a=11 then (4,2,2) else if a=12 then (5,0,3) else (0,0,0)
theorem nP (a:Int):(a=1\/a=2\/a=3\/a=4\/a=5\/a=6\/a=7\/a=8\/a=9\/a=10\/a=11\/a=12)\/(a<1\/12<a):=by omega
theorem xr (a:Int):F.Hh a=some (dT a):=by
 rcases nP a with (rfl | rfl | rfl | rfl | rfl | rfl | rfl | rfl | rfl | rfl | rfl | rfl) | h
 all_goals first | rfl | skip
 have f:∀k:Int,1<=k->k<=12->(a == k)=false:=fun k i j=>by rw[beq_eq_false_iff_ne]; omega
 have g:dT a=(0,0,0):=by
  unfold dT
  rw[if_neg (by omega),if_neg (by omega),if_neg (by omega),if_neg (by omega),if_neg (by omega),if_neg (by omega)]
 rw[g]
 unfold F.Hh F.Iq F.II F.I6
 simp only[f 1 (by decide) (by decide),f 2 (by decide) (by decide),f 3 (by decide) (by decide),f 4 (by decide) (by decide),f 5 (by decide) (by decide),f 6 (by decide) (by decide),f 7 (by decide) (by decide),f 8 (by decide) (by decide),f 9 (by decide) (by decide),
  f 10 (by decide) (by decide),f 11 (by decide) (by decide),f 12 (by decide) (by decide)]
 rfl
def iZ (a kty crv:Int):Bool:=
 if 1<=a/\a<=3 then decide (kty=1) else if 4<=a/\a<=9 then decide (kty=2) else if a=10\/a=11 then decide (kty=3/\crv=a - 9) else if a=12 then decide (kty=4/\crv=3) else false
theorem oH (a kty crv:Int) (s n e x y:Q1):F.Hu a kty crv s n e x y=some (iZ a kty crv):=by
 unfold F.Hu
 rw[xr,ae]
 have i:∀(p q:Int) (h:¬p=q),decide (p=q)=false:=fun p q h=>decide_eq_false h
 rcases nP a with (rfl | rfl | rfl | rfl | rfl | rfl | rfl | rfl | rfl | rfl | rfl | rfl) | h
 all_goals first
  | (show some (kty == 1)=some (decide (kty=1)); rw[g8])
  | (show some (kty == 2)=some (decide (kty=2)); rw[g8])
  | (show (if (kty == 3)=true then some (crv == 1) else some false)=some (decide (kty=3/\crv=10 - 9)); rw[g8,g8]; by_cases h:kty=3 <;> simp[h])
  | (show (if (kty == 3)=true then some (crv == 2) else some false)=some (decide (kty=3/\crv=11 - 9)); rw[g8,g8]; by_cases h:kty=3 <;> simp[h])
  | (show (if (kty == 4)=true then some (crv == 3) else some false)=some (decide (kty=4/\crv=3)); rw[g8,g8]; by_cases h:kty=4 <;> simp[h])
  | skip
 have f:dT a=(0,0,0):=by
  unfold dT
  rw[if_neg (by omega),if_neg (by omega),if_neg (by omega),if_neg (by omega),if_neg (by omega),if_neg (by omega)]
 have g:iZ a kty crv=false:=by
  unfold iZ
  rw[if_neg (by omega),if_neg (by omega),if_neg (by omega),if_neg (by omega)]
 rw[f,g]
 rfl
noncomputable def zf (k:Int×Int×Int) (s n e x y m sig:Q1):Bool:=
 if k.1=1 then decide (gt k.2.1 s m=sig) else if k.1=2 then decide (CT k.2.1 n e m sig=0) else if k.1=3 then decide (Cb k.2.1 n e m sig=0) else if k.1=4 then decide (Ba k.2.1 k.2.2 x y m sig=0) else decide (edT x m sig=0)
noncomputable def nK (a kty crv:Int) (s n e x y m sig:Q1):Int:=
 if (dT a).1=0 then 111 else if iZ a kty crv=true then if o7 kty crv s n e x y=true/\¬((dT a).1=1/\s.length<Sz (dT a).2.1) then if zf (dT a) s n e x y m sig=true then 0 else 91 else 90 else 105
theorem s9 {a:Int} (h:(dT a).1=1):iR (dT a).2.1:=by
 rcases nP a with (rfl | rfl | rfl | rfl | rfl | rfl | rfl | rfl | rfl | rfl | rfl | rfl) | f
 all_goals first | (exact .inl rfl) | (exact .inr (.inl rfl)) | (exact .inr (.inr rfl)) | (exact absurd h (by decide)) | skip
 unfold dT at h
 rw[if_neg (by omega),if_neg (by omega),if_neg (by omega),if_neg (by omega),if_neg (by omega),if_neg (by omega)]at h
 exact absurd h (by decide)
theorem lc (z:Int):F.Hg z=some (if z=0 then 0 else 91):=by
 unfold F.Hg
 by_cases h:z=0
 ·rw[if_neg (by rw[h]; decide),if_pos h]
 ·rw[if_pos (by rw[bne_iff_ne]; exact h),if_neg h]
theorem oC {p:Prop} [Decidable p]:(if decide p=true then (0:Int) else 91)=if p then 0 else 91:=by simp
theorem ta (a:Int) (s n e x y m sig:Q1) (hs:s.length<=LB) (hn:n.length<=LB) (he:e.length<=LB) (hm:m.length<=LB) (hg:sig.length<=LB):F.Hk s n e x y m sig (dT a) false=some (if zf (dT a) s n e x y m sig=true then 0 else 91):=by
 unfold LB at hs hn he hm hg
 unfold F.Hk zf
 rw[if_neg (by decide)]
 simp only[g8,decide_eq_true_eq]
 by_cases k1:(dT a).1=1
 ·rw[if_pos k1,if_pos k1,ng _ (s9 k1) _ _ _ (by omega) (by omega),ae]
  by_cases h:gt (dT a).2.1 s m=sig
  ·rw[decide_eq_true h]; rfl
  ·rw[decide_eq_false h]; rfl
 rw[if_neg k1,if_neg k1]
 by_cases k2:(dT a).1=2
 ·rw[if_pos k2,if_pos k2,zj _ _ _ _ _ hn he (by omega) hg,ae,lc,oC]
 rw[if_neg k2,if_neg k2]
 by_cases k3:(dT a).1=3
 ·rw[if_pos k3,if_pos k3,x4 _ _ _ _ _ hn he (by omega) hg,ae,lc,oC]
 rw[if_neg k3,if_neg k3]
 by_cases k4:(dT a).1=4
 ·rw[if_pos k4,if_pos k4,BJ _ _ _ _ _ _ (by omega) hg,ae,lc,oC]
 rw[if_neg k4,if_neg k4,yE _ _ _ (by omega) hg,ae,lc,oC]
theorem oo (a kty crv:Int) (s n e x y m sig:Q1) (hs:s.length<=LB) (hn:n.length<=LB) (he:e.length<=LB) (hx:x.length<=LB) (hy:y.length<=LB) (hm:m.length<=LB) (hg:sig.length<=LB):F.G2 a kty crv s n e x y m sig=some (nK a kty crv s n e x y m sig):=by
 unfold F.G2 nK
 rw[xr,ae,g8]
 by_cases k0:(dT a).1=0
 ·rw[if_pos (decide_eq_true k0),if_pos k0]
 rw[if_neg (by rw[decide_eq_true_eq]; exact k0),if_neg k0,oH,ae]
 cases hf:iZ a kty crv with
 | false=>rfl
 | true=>
  rw[if_neg (by decide),if_pos rfl,zF kty crv s n e x y hs hn he hx hy,ae]
  cases hgd:o7 kty crv s n e x y with
  | false=>rw[if_pos (by decide),if_neg (show ¬(false=true/\_) from fun q=>by cases q.1)]; rfl
  | true=>
   rw[if_pos rfl,if_neg (by decide),g8]
   by_cases k1:(dT a).1=1
   ·have g:=s9 k1
    have f:F.GH (dT a).2.1=some ((Sz (dT a).2.1:Nat):Int):=vN _ g
    rw[if_pos (decide_eq_true k1),f,ae]
    by_cases c:s.length<Sz (dT a).2.1
    ·rw[decide_eq_true (by omega),if_neg fun q=>q.2 ⟨k1,c⟩]; rfl
    ·rw[decide_eq_false (by omega),if_pos ⟨rfl,fun q=>c q.2⟩]; exact ta a s n e x y m sig hs hn he hm hg
   ·rw[if_neg (by rw[decide_eq_true_eq]; exact k1),if_pos ⟨rfl,fun q=>k1 q.1⟩]; exact ta a s n e x y m sig hs hn he hm hg
end Go.Gk.Bn
end

section
namespace Go.Gk.Bn
open Go Go.Gk Go.Gk.Sh
section
variable {a kty crv:Int} {s n e x y m sig:Q1} (hs:s.length<=LB) (hn:n.length<=LB) (he:e.length<=LB) (hx:x.length<=LB) (hy:y.length<=LB) (hm:m.length<=LB) (hg:sig.length<=LB)
include hs hn he hx hy in
include hs hn he hx hy hm hg in
end
theorem og {a kty crv:Int} {s n e x y m sig:Q1} (h:nK a kty crv s n e x y m sig=0):iZ a kty crv=true:=by
 unfold nK at h
 split at h
 ·exact absurd h (by decide)
 ·split at h
  ·assumption
  ·exact absurd h (by decide)
theorem xq {a i j k o:Int} (g:iZ a i k=true) (f:iZ a j o=true):j=i:=by
 unfold iZ at g f
 split at g
 ·rename_i h; rw[if_pos h]at f; rw[of_decide_eq_true g,of_decide_eq_true f]
 ·rename_i h; rw[if_neg h]at f
  split at g
  ·rename_i h; rw[if_pos h]at f; rw[of_decide_eq_true g,of_decide_eq_true f]
  ·rename_i h; rw[if_neg h]at f
   split at g
   ·rename_i h; rw[if_pos h]at f; rw[(of_decide_eq_true g).1,(of_decide_eq_true f).1]
   ·rename_i h; rw[if_neg h]at f
    split at g
    ·rename_i h; rw[if_pos h]at f; rw[(of_decide_eq_true g).1,(of_decide_eq_true f).1]
    ·cases g
theorem nR (a kty crv f g:Int) (s n e x y:Q1) (b:Bool) (hb:f≠kty->b=true->iZ a kty crv=true/\iZ a f g=true) (j:f=kty->b=false):F.I2 a kty crv s n e x y f g b=some true:=by
 have i:b=false:=by
  cases hb2:b with
  | false=>rfl
  | true=>
   by_cases h:f=kty
   ·rw[j h]at hb2; cases hb2
   ·have:=hb h hb2
    exact absurd (xq this.1 this.2) h
 unfold F.I2
 rw[i,if_neg (by decide),g8]
 by_cases h:f=kty
 ·rw[if_pos (decide_eq_true h)]
 ·rw[if_neg (by rw[decide_eq_true_eq]; exact h),oH,ae]
  cases hf:iZ a kty crv with
  | false=>rfl
  | true=>
   rw[if_neg (by decide),oH,ae]
   cases hf2:iZ a f g with
   | false=>rfl
   | true=>exact absurd (xq hf hf2) h
theorem pp (a kty crv f g:Int) (s n e x y m sig:Q1) (hs:s.length<=LB) (hn:n.length<=LB) (he:e.length<=LB) (hx:x.length<=LB) (hy:y.length<=LB) (hm:m.length<=LB) (hg:sig.length<=LB):∀(r:Nat) (i:Int),i+r=15->-1<=i ->
  loop (F.Kx a kty crv s n e x y m sig f g) i=some true
 | 0,i,e0,_=>by
  refine bu ?_
  unfold F.Kx
  dsimp only
  rw[if_neg (by rw[decide_eq_true_eq]; omega)]
  congr 1
  by_cases h:f=kty
  ·rw[if_neg (by rw[h]; simp)]; exact nR a kty crv f g s n e x y false (fun _ q=>by cases q) fun _=>rfl
  ·rw[if_pos (by rw[bne_iff_ne]; exact h),oo a f g s n e x y m sig hs hn he hx hy hm hg,ae,g8]
   by_cases h1:nK a f g s n e x y m sig=0
   ·rw[if_pos (decide_eq_true h1),oo a kty crv s n e x y m sig hs hn he hx hy hm hg,ae,g8]
    exact nR a kty crv f g s n e x y _ (fun _ q=>⟨og (of_decide_eq_true q),og h1⟩) fun q=>absurd q h
   ·rw[if_neg (by rw[decide_eq_true_eq]; exact h1)]; exact nR a kty crv f g s n e x y false (fun _ q=>by cases q) fun _=>rfl
 | r+1,i,e0,hi=>by
  rw[<-pp a kty crv f g s n e x y m sig hs hn he hx hy hm hg r (i+1) (by omega) (by omega)]
  refine bB ?_
  have w:wI (i+1)=i+1:=aI (by omega) (by omega)
  have j:F.J7 i false=some (.inl (i+1)):=by unfold F.J7; rw[if_neg (by decide),w]; rfl
  unfold F.Kx
  dsimp only
  rw[if_pos (decide_eq_true (by omega)),oH,ae]
  cases hf:iZ i kty crv with
  | true=>rw[if_neg (by decide),j]
  | false=>
   rw[if_pos (by decide),oo i kty crv s n e x y m sig hs hn he hx hy hm hg,ae,g8,decide_eq_false (fun q=>by rw[og q]at hf; cases hf),j]
theorem law18_JwsOthers_eq (a kty crv:Int) (s n e x y m sig:Q1) (f g:Int) (hs:s.length<=140737488351232) (hn:n.length<=140737488351232) (he:e.length<=140737488351232) (hx:x.length<=140737488351232) (hy:y.length<=140737488351232) (hm:m.length<=140737488351232) (hg:sig.length<=140737488351232) :
  F.LY a kty crv s n e x y m sig f g=some true:=by
 unfold F.LY
 rw[Ca,ae,if_neg (by decide)]
 exact pp a kty crv f g s n e x y m sig hs hn he hx hy hm hg 16 (-1) (by decide) (by decide)
end Go.Gk.Bn
end
