import Derived.Test.YtmegjloifgfldaaGreatDoorGkA0
import Derived.Test.YtmegjloifgfldaaGreatDoorGkFb64
import Derived.Test.YtmegjloifgfldaaGreatDoorGkW8
import Derived.Test.YtmegjloifgfldaaGreatDoorGkX9
set_option linter.unusedVariables false
set_option linter.unusedSimpArgs false
set_option linter.unusedSectionVars false

section
namespace Go.Gk.Bn
open Go Go.Gk Go.Gk.Sh
def pE:Nat:=57896044618658097711785492504343953926634992332820282019728792003956564819949
def nE:Nat:=7237005577332262213973186563042994240857116359379907606001950938285454250989
theorem ef:1<pE/\pE%2=1/\pE<2^255/\0<pE:=by decide +kernel
theorem wh:1<nE/\nE<2^253:=by decide +kernel
instance:NeZero pE:=⟨Nat.ne_of_gt ef.2.2.2⟩
theorem qR:nb pE<=255:=gx ef.2.2.1
theorem th {n k:Nat} (h:n<2^(32*k)):(aq n).length<=k:=bb (by rw[show (4294967296:Nat)=2^32 from rfl,<-Nat.pow_mul]; exact h)
theorem ij:(aq pE).length<=8:=th (Nat.lt_of_lt_of_le ef.2.2.1 (Nat.pow_le_pow_right (by decide) (by decide)))
abbrev Fe:=Fin pE
def le (x:Fe):Q0:=aq x.val
theorem fE (x:Fe):(le x).length<=8:=Nat.le_trans (dg (Nat.le_of_lt x.isLt)) ij
theorem eY (x:Fe):val (le x)=x.val:=aw _
theorem k9 (x:Fe):nb (val (le x))<=255:=by rw[eY]; exact gx (Nat.lt_trans x.isLt ef.2.2.1)
theorem pa:le 0=[]:=by unfold le; rw[show (0:Fe).val=0 from rfl,bI]
theorem Eh:(1:Fe).val=1:=Nat.mod_eq_of_lt ef.1
theorem qo:le 1=[1]:=by
 unfold le; rw[Eh,gc (by decide),show 1 / 4294967296=0 by decide,bI]; rfl
theorem mg {l:Q0} {n:Nat} (h:val l=n) (hc:l.getLast?≠some 0):l=aq n:=uB h hc
theorem gE:F.G0=some (aq pE):=by
 rw[<-mg (l:=F.Hc) (n:=pE) (by decide +kernel) (by decide)]; rfl
theorem Bw:F.Lb=some (aq nE):=by
 rw[<-mg (l:=F.Hd) (n:=nE) (by decide +kernel) (by decide)]; rfl
def dE:Fe:=⟨37095705934669439343138083508754565189542113879843219016388785533085940283555,by decide +kernel⟩
def iE:Fe:=⟨38214883241950591754978413199355411911188925816896391856984770930832735035197,by decide +kernel⟩
def gX:Fe:=⟨15112221349535400772501151409588531511454012693041857206046113283949847762202,by decide +kernel⟩
def gY:Fe:=⟨46316835694926478169428394003475163141307993866256225615783033603165251855960,by decide +kernel⟩
theorem qd:F.Iy=some (le dE):=by
 unfold le
 rw[<-mg (l:=F.G7) (n:=dE.val) (by decide +kernel) (by decide)]; rfl
theorem DB:F.Mm=some (le iE):=by
 unfold le
 rw[<-mg (l:=F.Ha) (n:=iE.val) (by decide +kernel) (by decide)]; rfl
theorem DX:F.Mg=some (le gX,le gY,false):=by
 unfold le
 rw[<-mg (l:=F.G9) (n:=gX.val) (by decide +kernel) (by decide),<-mg (l:=F.G6) (n:=gY.val) (by decide +kernel) (by decide)]; rfl
theorem Dw (a b:Q0) (m:Nat) (h:1<m) (hm:nb m<=4096) (ha:nb (val a)<=4096) (hb:nb (val b)<=4096) (f:a.length<=40000000000000) (g:b.length<=40000000000000) (i:(aq m).length<=900) :
  F.Lq a b (aq m)=some (aq ((val a+val b)%m),0):=by
 have l1:=jc ha; have j:=jc hb
 have hs:(aq (val a+val b)).length<=200:=Nat.le_trans (iL _ _) (by omega)
 unfold F.Lq
 rw[mQ ha hb (by rw[aw]; omega) (by rw[aw]; omega) f g (by omega),ae,if_neg (by decide),oO _ _ f g,ae,fK _ _ (by omega) (by omega) (by rw[aw]; omega),ae,aw,aw]
theorem DT (a b:Q0) (m:Nat) (h:1<m) (hm:nb m<=4096) (ha:nb (val a)<=4096) (hb:nb (val b)<=4096) (f:a.length<=40000000000000) (g:b.length<=40000000000000) (i:(aq m).length<=900) :
  F.LL a b (aq m)=some (aq ((m - val b%m+val a%m)%m),0):=by
 unfold F.LL
 rw[mQ ha hb (by rw[aw]; omega) (by rw[aw]; omega) f g (by omega),ae,if_neg (by decide),fK _ _ f (by omega) (by rw[aw]; omega),ae,fK _ _ g (by omega) (by rw[aw]; omega),ae,aw,
  pQ (Nat.mod_lt _ (by omega)) (Nat.mod_lt _ (by omega)) (by omega) (aq m) (aw m) (by omega),ae]
theorem uw (x y:Fe):F.GP (le x) (le y)=some (le (x+y)):=by
 have a:=fE x; have b:=fE y; have c:=k9 x; have d:=k9 y; have e:=qR; have f:=ij
 unfold F.GP
 rw[gE,ae,Dw _ _ _ ef.1 (by omega) (by omega) (by omega) (by omega) (by omega) (by omega),ae,eY,eY]; rfl
theorem r7 (x y:Fe):F.GW (le x) (le y)=some (le (x - y)):=by
 have a:=fE x; have b:=fE y; have c:=k9 x; have d:=k9 y; have e:=qR; have f:=ij
 unfold F.GW
 rw[gE,ae,DT _ _ _ ef.1 (by omega) (by omega) (by omega) (by omega) (by omega) (by omega),ae,eY,eY,Nat.mod_eq_of_lt x.isLt,Nat.mod_eq_of_lt y.isLt]; rfl
theorem iy (x y:Fe):F.GE (le x) (le y)=some (le (x*y)):=by
 have a:=fE x; have b:=fE y; have c:=k9 x; have d:=k9 y; have e:=qR; have f:=ij
 unfold F.GE
 rw[gE,ae,ss _ _ _ ef.1 (by omega) (by omega) (by omega) (by omega) (by omega) (by omega),ae,eY,eY]; rfl
noncomputable def so (x:Fe):Fe:=⟨nQ pE x.val,DQ ef.2.2.2⟩
def pT (x:Fe) (e:Nat):Fe:=⟨x.val^e%pE,Nat.mod_lt _ ef.2.2.2⟩
theorem FM (x:Fe):F.Km (le x)=some (le (so x)):=by
 have a:=fE x; have c:=k9 x; have e:=qR; have f:=ij
 unfold F.Km
 rw[gE,ae,D3 _ _ ef.1 ef.2.1 (by omega) (by omega) (by omega) (by omega),ae,eY]
 simp only[le,so]
theorem Gx (x:Fe) (e:Q0) (g:e.length<=1000) (he:nb (val e)<=4096):F.LX (le x) e=some (le (pT x (val e))):=by
 have a:=fE x; have c:=k9 x; have h:=qR; have f:=ij
 unfold F.LX
 rw[gE,ae,sa _ _ _ ef.1 (by omega) (by omega) (by omega) he (by omega) (by omega),ae,eY]; rfl
theorem Dh (x:Fe):F.J6 (le x)=some (le x):=by
 unfold F.J6
 rw[<-pa,uw,ae,Fin.add_zero]
abbrev Q4:=Fe×Fe×Fe×Fe
def q4 (s:Q4):Q0×Q0×Q0×Q0:=(le s.1,le s.2.1,le s.2.2.1,le s.2.2.2)
def twE (s:Q4):Q4:=
 let a:=s.1*s.1; let b:=s.2.1*s.2.1; let c:=s.2.2.1*(s.2.2.1+s.2.2.1); let h:=a+b; let w:=s.1+s.2.1; let e:=h - w*w; let g:=a - b; let f:=c+g
 (e*f,g*h,f*g,e*h)
def plE (s q:Q4):Q4:=
 let a:=(s.2.1 - s.1)*(q.2.1 - q.1); let b:=(s.2.1+s.1)*(q.2.1+q.1); let c:=s.2.2.2*q.2.2.2*(dE+dE); let d:=s.2.2.1*(q.2.2.1+q.2.2.1); let e:=b - a; let f:=d - c; let g:=d+c; let h:=b+a
 (e*f,g*h,f*g,e*h)
theorem Bh (s:Q4):F.Lt (le s.1) (le s.2.1) (le s.2.2.1) (le s.2.2.2)=some (q4 (twE s)):=by
 unfold F.Lt
 simp only[iy,uw,r7,ae]
 rfl
theorem xV (s q:Q4):F.Kj (le s.1) (le s.2.1) (le s.2.2.1) (le s.2.2.2) (le q.1) (le q.2.1) (le q.2.2.1) (le q.2.2.2)=some (q4 (plE s q)):=by
 unfold F.Kj
 simp only[iy,uw,r7,qd,ae]
 rfl
def tmE (s:Q4) (k:Nat):Nat->Q4->Q4
 | 0,a=>a
 | i+1,a=>tmE s k i (if k / 2^i%2=1 then plE (twE a) s else twE a)
theorem qY (s:Q4) (k:Q0) (f:k.length<=1000):∀(i:Nat) (a:Q4),i<=1000000->loop (F.Ju (le s.1) (le s.2.1) (le s.2.2.1) (le s.2.2.2) k) ((i:Int) - 1,q4 a)=some (q4 (tmE s (val k) i a))
 | 0,a,_=>by
  refine bv ?_
  unfold F.Ju q4
  dsimp only
  rw[if_neg (by decide)]; rfl
 | i+1,a,hi=>by
  have g:(((i+1:Nat):Int)) - 1=(i:Int):=by omega
  have w:wI ((i:Int) - 1)=(i:Int) - 1:=aJ (by omega) (by omega)
  rw[g]
  show _=some (q4 (tmE s (val k) i (if val k / 2^i%2=1 then plE (twE a) s else twE a)))
  rw[<-qY s k f i _ (by omega)]
  refine bB ?_
  unfold F.Ju q4
  dsimp only
  rw[if_pos (decide_eq_true (by omega)),Bh,ae,xf _ _ (by omega) (by omega),ae]
  by_cases h:val k / 2^i%2=1
  ·rw[if_pos (decide_eq_true h),if_pos h]
   have:=xV (twE a) s
   unfold q4 at this ⊢
   rw[this,ae]
   unfold F.Kn
   dsimp only
   rw[w]; rfl
  ·rw[if_neg (by rw[decide_eq_true_eq]; exact h),if_neg h]
   unfold F.Kn q4
   dsimp only
   rw[w]; rfl
def tiE (s:Q4) (k:Nat):Q4:=tmE s k (nb k) (0,1,1,0)
theorem uk (s:Q4) (k:Q0) (f:k.length<=1000):F.Kk (le s.1) (le s.2.1) (le s.2.2.1) (le s.2.2.2) k=some (q4 (tiE s (val k))):=by
 have hb:nb (val k)<=32*k.length:=Nat.le_trans (ii _) (Nat.mul_le_mul_left 32 (bb (bG k)))
 have w:wI (((nb (val k):Nat):Int) - 1)=((nb (val k):Nat):Int) - 1:=aJ (by omega) (by omega)
 unfold F.Kk
 rw[eA k (by omega),ae,w,<-qo,<-pa]
 exact qY s k f (nb (val k)) (0,1,1,0) (by omega)
noncomputable def ptE (s:Q4):Fe×Fe:=(s.1*so s.2.2.1,s.2.1*so s.2.2.1)
theorem B5 (s:Q4):F.Lp (le s.1) (le s.2.1) (le s.2.2.1) (le s.2.2.2)=some (le (ptE s).1,le (ptE s).2,false):=by
 unfold F.Lp
 rw[FM,ae,iy,ae,iy,ae]; rfl
theorem sW (x y:Fe):F.KH (le x) (le y) false=some (q4 (x,y,1,x*y)):=by
 unfold F.KH
 rw[Dh,ae,Dh,ae,iy,ae,<-qo]; rfl
def onE (x y:Fe):Bool:=decide (y*y - x*x=1+dE*(x*x*(y*y)))
theorem B0 (x y:Fe):F.GK (le x) (le y)=some (cE x.val y.val):=by
 have a:=fE x; have b:=fE y
 rw[eP _ _ (by omega) (by omega),eY,eY]
theorem E2 (x y:Fe):(cE x.val y.val == 0)=decide (x=y):=by
 rw[Cx,decide_eq_decide]; exact⟨fun h=>Fin.ext h,fun h=>by rw[h]⟩
theorem AQ (x:Fe):F.GK (le x) (aq pE)=some (-1):=by
 have a:=fE x; have f:=ij
 rw[eP _ _ (by omega) (by omega),eY,aw]; unfold cE; rw[if_pos x.isLt]
theorem EH (x y:Fe):F.Lv (le x) (le y) false=some (onE x y):=by
 unfold F.Lv
 rw[if_neg (by decide),gE,ae,AQ,ae,if_neg (by decide),ae,AQ,ae]
 unfold F.J2 onE
 dsimp only
 rw[if_neg (by decide),iy,ae,iy,ae,r7,ae,qd,ae,iy,ae,iy,ae,<-qo,uw,ae,B0,ae,E2]
end Go.Gk.Bn
end

section
namespace Go.Gk.Bn
open Go Go.Gk Go.Gk.Sh
theorem uV (l:Q1) (hl:l.length<=1000000):∀(r i:Nat) (x:Q1),l.length - 1 - 2*i<=r->2*i<=l.length->x.length=l.length->(∀j,j<l.length->x.getD j 0=if j<i\/l.length - i<=j then l.getD (l.length - 1 - j) 0 else l.getD j 0) ->
  loop F.Kh ((i:Int),(l.length:Int) - 1 - (i:Int),x)=some l.reverse
 | r,i,x,hr,hi,hx,hj=>by
  by_cases hlt:i+i+1<l.length
  ·match r,hr with
   | 0,hr=>omega
   | r+1,hr=>
    have f:=uV l hl r (i+1) ((x.set i (x.getD (l.length - 1 - i) 0)).set (l.length - 1 - i) (x.getD i 0)) (by omega) (by omega) (by simpa using hx) (fun j h=>by
     by_cases e1:j=l.length - 1 - i
     ·subst e1
      rw[List.getD_eq_getElem?_getD,List.getElem?_set_self (by simp[hx]; omega),if_pos (by omega)]
      show x.getD i 0=_
      rw[hj i (by omega),if_neg (by omega)]; congr 1; omega
     ·by_cases e2:j=i
      ·subst e2
       rw[List.getD_eq_getElem?_getD,List.getElem?_set_ne (by omega),List.getElem?_set_self (by omega),if_pos (by omega)]
       show x.getD (l.length - 1 - j) 0=_
       rw[hj _ (by omega),if_neg (by omega)]
      ·rw[List.getD_eq_getElem?_getD,List.getElem?_set_ne (by omega),List.getElem?_set_ne (by omega),<-List.getD_eq_getElem?_getD,hj j h]
       by_cases e3:j<i\/l.length - i<=j
       ·rw[if_pos e3,if_pos (by omega)]
       ·rw[if_neg e3,if_neg (by omega)])
    rw[<-f]
    refine bB ?_
    have z:(l.length:Int) - 1 - (i:Int)=((l.length - 1 - i:Nat):Int):=by omega
    unfold F.Kh
    dsimp only
    rw[z,if_pos (decide_eq_true (by omega)),aU (by omega) 0,ae,aU (by omega) 0,ae,ae,aV,aU (by rw[List.length_set]; omega) 0,ae,aV,Int.toNat_natCast,Int.toNat_natCast,aJ (by omega) (by omega),aJ (by omega) (by omega)]
    rw[show ((l.length - 1 - i:Nat):Int) - 1=(l.length:Int) - 1 - ((i+1:Nat):Int) by omega]
    rfl
  ·refine bv ?_
   unfold F.Kh
   dsimp only
   rw[if_neg (by rw[decide_eq_true_eq]; omega)]
   congr 2
   apply List.ext_getElem (by simp[hx])
   intro j f A
   have g:=hj j (by omega)
   rw[List.getD_eq_getElem?_getD,List.getElem?_eq_getElem f]at g
   simp only[Option.getD_some]at g
   rw[g,List.getElem_reverse]
   have o:∀k (t:k<l.length),l.getD k 0=l[k]:=fun k t=>by rw[List.getD_eq_getElem?_getD,List.getElem?_eq_getElem t]; rfl
   split
   ·rw[o _ (by omega)]
   ·rw[o _ (by omega)]
    have:j=l.length - 1 - j:=by omega
    congr 1
theorem qQ (l:Q1) (hl:l.length<=1000000):F.Kq l=some l.reverse:=by
 unfold F.Kq
 rw[aV,aJ (by omega) (by omega)]
 have:=uV l hl l.length 0 l (by omega) (by omega) rfl (fun j f=>by rw[if_neg (by omega)])
 rw[<-this]
 congr 3
 omega
def leN (l:Q1):Nat:=beN l.reverse
theorem vO (l:Q1):leN l<256^l.length:=by have:=gn l.reverse; rwa [List.length_reverse]at this
theorem zr (a:Q1) (h:a.length<=225000000000000):F.Hs a=some a:=by
 unfold F.Hs
 rw[show apO 1 [] a=some a by unfold apO; rw[if_pos (by simp; omega)]; rfl,ae]
theorem mw (l:Q1) (hl:l.length<=1000000):F.Iw l=some (aq (leN l)):=by
 unfold F.Iw
 rw[zr l (by omega),ae,qQ l hl,ae,cA _ (by rw[List.length_reverse]; omega),ae]; rfl
noncomputable def xxE (y:Fe):Fe:=(y*y - 1)*so (dE*(y*y)+1)
noncomputable def x1E (y:Fe):Fe:=if pT (xxE y) ((pE+3) / 8)*pT (xxE y) ((pE+3) / 8)=xxE y then pT (xxE y) ((pE+3) / 8) else pT (xxE y) ((pE+3) / 8)*iE
noncomputable def yo (y:Fe) (odd:Bool):Option Fe:=
 if x1E y*x1E y=xxE y/\¬(x1E y=0/\odd=true) then some (if decide ((x1E y).val%2=1)=odd then x1E y else 0 - x1E y) else none
def Fa (o:Option Fe):Q0×Bool:=match o with
 | some x=>(le x,true)
 | none=>([],false)
theorem Dd (x y:Fe):(cE x.val y.val != 0)=decide (¬x=y):=by
 rw[bne,E2]; by_cases h:x=y
 ·rw[decide_eq_true h,decide_eq_false (by simpa using h)]; rfl
 ·rw[decide_eq_false h,decide_eq_true h]; rfl
theorem Di (x:Fe):F.GU (le x) 0=some (decide (x.val%2=1)):=by
 have a:=fE x
 rw[iM _ (by omega),eY]
theorem Ap (f:Bool) (x:Fe):F.Im f (le x) false=some (le (if decide (x.val%2=1)=f then x else 0 - x),true):=by
 unfold F.Im
 rw[if_neg (by decide),Di,ae]
 by_cases h:decide (x.val%2=1)=f
 ·rw[if_neg (by rw[h]; simp),if_pos h]; rfl
 ·rw[if_pos (by rw[bne_iff_ne]; exact h),<-pa,r7,ae,if_neg h]; rfl
theorem zO (f:Bool) (g x:Fe):F.J5 f (le g) (le x)=some (Fa (if x*x=g/\¬(x=0/\f=true) then some (if decide (x.val%2=1)=f then x else 0 - x) else none)):=by
 have a:=fE x
 have hb:(((nb x.val:Nat):Int) == 0)=decide (x=0):=by
  by_cases h:x=0
  ·rw[h,decide_eq_true rfl,show (0:Fe).val=0 from rfl,fU]; rfl
  ·rw[decide_eq_false h,beq_eq_false_iff_ne]
   have i:x.val≠0:=fun q=>h (Fin.ext q)
   have:=(de x.val).2 i
   omega
 unfold F.J5
 dsimp only
 rw[iy,ae,B0,ae,Dd]
 by_cases h1:x*x=g
 ·rw[if_neg (by rw[decide_eq_true_eq]; exact fun q=>q h1),eA _ (by omega),ae,eY,hb]
  by_cases h2:x=0
  ·rw[if_pos (decide_eq_true h2)]
   cases f with
   | true=>rw[if_neg (fun q=>q.2 ⟨h2,rfl⟩)]; rfl
   | false=>rw[if_pos ⟨h1,fun q=>by cases q.2⟩,Ap]; rfl
  ·rw[if_neg (by rw[decide_eq_true_eq]; exact h2),if_pos ⟨h1,fun q=>h2 q.1⟩,Ap]; rfl
 ·rw[if_pos (decide_eq_true h1),if_neg fun q=>h1 q.1]; rfl
theorem EP:F.GZ (aq (pE+3)) 3=some (aq ((pE+3) / 8)):=by
 have h:(aq (pE+3)).length<=9:=Nat.le_trans (iL _ _) (by have:=ij; have:(aq 3).length<=1:=bb (by decide); omega)
 have:=D7 (aq (pE+3)) 3 (by decide) (by omega)
 rw[aw]at this
 exact this
theorem FC (y:Fe) (g:Bool):F.LJ (le y) g=some (Fa (yo y g)):=by
 have f:=ij
 have i:val ([3]:Q0)=3:=rfl
 have he:(aq ((pE+3) / 8)).length<=9:=Nat.le_trans (dg (Nat.div_le_self _ _)) (Nat.le_trans (iL _ _) (by have:(aq 3).length<=1:=bb (by decide); omega))
 have j:nb ((pE+3) / 8)<=32*9:=Nat.le_trans (ii _) (by omega)
 unfold F.LJ
 rw[iy,ae,<-qo,r7,ae,qd,ae,iy,ae,uw,ae,FM,ae,iy,ae,gE,ae,oO _ _ (by omega) (by decide),ae,aw,i,EP,ae,
  Gx _ _ (by omega) (by rw[aw]; omega),ae,aw,iy,ae,B0,ae,Dd]
 have hx:(y*y - 1)*so (dE*(y*y)+1)=xxE y:=rfl
 rw[hx]
 unfold yo x1E
 by_cases h:pT (xxE y) ((pE+3) / 8)*pT (xxE y) ((pE+3) / 8)=xxE y
 ·rw[if_neg (by rw[decide_eq_true_eq]; exact fun q=>q h),if_pos h,zO]
 ·rw[if_pos (decide_eq_true h),DB,ae,iy,ae,if_neg h,zO]
def clr (b:Q1):Q1:=b.set 31 (b.getD 31 0 &&& 127)
noncomputable def mG (b:Q1):Option (Fe×Fe):=
 if b.length=32 then if h:leN (clr b)<pE then match yo ⟨leN (clr b),h⟩ ((b.getD 31 0 &&& 128) != 0) with
  | some x=>some (x,⟨leN (clr b),h⟩)
  | none=>none else none else none
def Fk (o:Option (Fe×Fe)):Q0×Q0×Bool×Int:=match o with
 | some (x,y)=>(le x,le y,false,0)
 | none=>([],[],false,93)
theorem qN (b:Q1):F.Ks b=some (Fk (mG b)):=by
 unfold F.Ks mG
 by_cases h:b.length=32
 ·have hl:(clr b).length=32:=by unfold clr; rw[List.length_set,h]
  have g:=vO (clr b)
  rw[hl]at g
  have k:(aq (leN (clr b))).length<=8:=bb (by rw[show (4294967296:Nat)=256^4 from rfl,<-Nat.pow_mul]; exact g)
  have f:=ij
  rw[if_neg (by rw[h]; simp),if_pos h,zr b (by omega),ae,show (31:Int)=((31:Nat):Int) from rfl,aU (show 31<b.length by omega) 0,ae,ae,ae,aV,Int.toNat_natCast]
  have i:b.set 31 (b.getD 31 0 &&& 127)=clr b:=rfl
  rw[i,mw _ (by omega),ae,gE,ae,eP _ _ (by omega) (by omega),ae,aw,aw]
  by_cases hc:leN (clr b)<pE
  ·have:¬0<=cE (leN (clr b)) pE:=by unfold cE; rw[if_pos hc]; decide
   rw[if_neg (by rw[decide_eq_true_eq]; exact this),dif_pos hc]
   have j:aq (leN (clr b))=le ⟨leN (clr b),hc⟩:=rfl
   rw[j,FC,ae]
   cases yo ⟨leN (clr b),hc⟩ ((b.getD 31 0 &&& 128) != 0) <;> rfl
  ·have:0<=cE (leN (clr b)) pE:=by unfold cE; rw[if_neg hc]; split <;> decide
   rw[if_pos (decide_eq_true this),dif_neg hc]; rfl
 ·rw[if_pos (by rw[bne_iff_ne]; omega),if_neg h]; rfl
def yV (x y:Fe):Q1:=if x.val%2=1 then (beB 32 y.val).reverse.set 31 ((beB 32 y.val).reverse.getD 31 0 ||| 128) else (beB 32 y.val).reverse
theorem zn (x y:Fe):F.KX (le x) (le y) false=some (if onE x y=true then (yV x y,0) else ([],93)):=by
 have a:=fE y
 have hy:y.val<256^32:=Nat.lt_trans y.isLt (Nat.lt_of_lt_of_le ef.2.2.1 (by decide))
 have hl:((beB 32 y.val).reverse).length=32:=by rw[List.length_reverse,gN]
 unfold F.KX
 rw[EH,ae]
 cases onE x y with
 | false=>rfl
 | true=>
  rw[if_neg (by decide),show (32:Int)=((32:Nat):Int) from rfl,rP (le y) 32 (by omega) (by decide),eY,if_pos hy,ae,qQ _ (by rw[gN]; decide),ae,Di,ae,if_pos rfl]
  unfold yV F.K1
  by_cases h:x.val%2=1
  ·rw[if_pos (decide_eq_true h),if_pos h,show (31:Int)=((31:Nat):Int) from rfl,aU (show 31<_ by rw[hl]; decide) 0,ae,ae,aV,Int.toNat_natCast]
  ·rw[if_neg (by rw[decide_eq_true_eq]; exact h),if_neg h]
noncomputable def rE (x y:Fe) (s k:Nat):Fe×Fe:=ptE (plE (tiE (gX,gY,1,gX*gY) s) (tiE (0 - x,y,1,(0 - x)*y) k))
noncomputable def edT (pub m sig:Q1):Int:=match mG pub with
 | none=>90
 | some (x,y)=>if sig.length=64/\leN (sig.drop 32)<nE/\onE (rE x y (leN (sig.drop 32)) (leN (cU 3 (sig.take 32++(pub++m)))%nE)).1 (rE x y (leN (sig.drop 32)) (leN (cU 3 (sig.take 32++(pub++m)))%nE)).2=true /\
   yV (rE x y (leN (sig.drop 32)) (leN (cU 3 (sig.take 32++(pub++m)))%nE)).1 (rE x y (leN (sig.drop 32)) (leN (cU 3 (sig.take 32++(pub++m)))%nE)).2=sig.take 32 then 0 else 91
theorem qE (b:Bool):F.K6 b=some (if b=true then 91 else 0):=by cases b <;> rfl
theorem BU {b:Q1} {p:Fe×Fe} (h:mG b=some p):b.length=32:=by
 unfold mG at h
 split at h
 ·assumption
 ·cases h
theorem qO (f m sig:Q1) (hm:m.length<=800000000000000) (hs:sig.length<=140737488351232):F.Ki f m sig=some (edT f m sig):=by
 unfold F.Ki edT
 rw[qN,ae]
 cases hd:mG f with
 | none=>rfl
 | some p=>
  obtain⟨x,y⟩:=p
  have M:=BU hd
  show (if ((0:Int) != 0)=true then _ else _)=_
  rw[if_neg (by decide)]
  by_cases h1:sig.length=64
  ·have o:=vO (sig.drop 32)
   rw[List.length_drop,h1]at o
   have I:(aq (leN (sig.drop 32))).length<=8:=bb (by rw[show (4294967296:Nat)=256^4 from rfl,<-Nat.pow_mul]; exact o)
   have hn:(aq nE).length<=8:=th (Nat.lt_of_lt_of_le wh.2 (Nat.pow_le_pow_right (by decide) (by decide)))
   rw[if_neg (by rw[h1]; simp),show (32:Int)=((32:Nat):Int) from rfl,ib (by omega),ae,mw _ (by rw[List.length_drop]; omega),ae,Bw,ae,eP _ _ (by omega) (by omega),ae,aw,aw]
   by_cases h2:leN (sig.drop 32)<nE
   ·have:¬0<=cE (leN (sig.drop 32)) nE:=by unfold cE; rw[if_pos h2]; decide
    have g:[sig.take 32,f,m].flatten=sig.take 32++(f++m):=by simp
    have A:F.GO 3 [sig.take 32,f,m]=some (cU 3 (sig.take 32++(f++m))):=by
     rw[gh 3 (by right; right; rfl) _ (by simp) (by rw[g]; simp; omega),g]
    have h:=iG 3 (sig.take 32++(f++m))
    rw[show Sz 3=64 from rfl]at h
    have i:=vO (cU 3 (sig.take 32++(f++m)))
    rw[h]at i
    have J:(aq (leN (cU 3 (sig.take 32++(f++m))))).length<=16:=bb (by rw[show (4294967296:Nat)=256^4 from rfl,<-Nat.pow_mul]; exact i)
    have t:nE≠0:=by have:=wh.1; omega
    have K:(aq (leN (cU 3 (sig.take 32++(f++m)))%nE)).length<=8:=Nat.le_trans (dg (Nat.le_of_lt (Nat.mod_lt _ (by omega)))) hn
    rw[if_neg (by rw[decide_eq_true_eq]; exact this),vc (by omega),ae,A,ae,mw _ (by omega),ae,ae,mY _ _ (by omega) (by omega),ae,aw,aw,if_neg t,<-pa]
    dsimp only[Fk]
    rw[r7,ae,DX,ae,sW,ae]
    have j:=uk (gX,gY,1,gX*gY) (aq (leN (sig.drop 32))) (by omega)
    have k:=uk (0 - x,y,1,(0 - x)*y) (aq (leN (cU 3 (sig.take 32++(f++m)))%nE)) (by omega)
    rw[aw]at j k
    dsimp only[q4]at j k ⊢
    rw[j,ae,sW,ae]
    dsimp only[q4]
    rw[k,ae]
    dsimp only
    have z:=xV (tiE (gX,gY,1,gX*gY) (leN (sig.drop 32))) (tiE (0 - x,y,1,(0 - x)*y) (leN (cU 3 (sig.take 32++(f++m)))%nE))
    dsimp only[q4]at z
    rw[z,ae]
    dsimp only
    rw[B5,ae]
    dsimp only
    rw[zn,ae]
    have B:ptE (plE (tiE (gX,gY,1,gX*gY) (leN (sig.drop 32))) (tiE (0 - x,y,1,(0 - x)*y) (leN (cU 3 (sig.take 32++(f++m)))%nE)))=rE x y (leN (sig.drop 32)) (leN (cU 3 (sig.take 32++(f++m)))%nE):=rfl
    rw[B]
    obtain⟨R,G⟩:∃R,rE x y (leN (sig.drop 32)) (leN (cU 3 (sig.take 32++(f++m)))%nE)=R:=⟨_,rfl⟩
    rw[G]
    cases h3:onE R.1 R.2 with
    | false=>
     rw[if_neg (show ¬false=true by decide)]
     show (if ((93:Int) != 0)=true then _ else _)=_
     rw[if_pos (by decide),qE,if_pos rfl,if_neg fun q=>by cases q.2.2.1]
    | true=>
     rw[if_pos rfl]
     show (if ((0:Int) != 0)=true then _ else _)=_
     rw[if_neg (by decide),ae,u6,ae,qE]
     by_cases h4:yV R.1 R.2=sig.take 32
     ·rw[decide_eq_true h4,if_neg (by decide),if_pos ⟨h1,h2,rfl,h4⟩]
     ·rw[decide_eq_false h4,if_pos (by decide),if_neg fun q=>h4 q.2.2.2]
   ·have:0<=cE (leN (sig.drop 32)) nE:=by unfold cE; rw[if_neg h2]; split <;> decide
    rw[if_pos (decide_eq_true this)]
    show _=some (if _ then _ else _)
    rw[if_neg fun q=>h2 q.2.1]
  ·rw[if_pos (by rw[bne_iff_ne]; omega)]
   show _=some (if _ then _ else _)
   rw[if_neg fun q=>h1 q.1]
end Go.Gk.Bn
end

section
namespace Go.Gk.Bn
open Go Go.Gk Go.Gk.Sh
abbrev LB:Nat:=140737488351232
def fa (l:List Q1):Nat:=(l.map List.length).sum
theorem pu (l:List Q1) (hl:l.length<=10) (hb:∀x∈l,x.length<=LB):∀(r i:Nat),i+r=l.length->loop (F.If l) (((fa (l.take i):Nat):Int),(i:Int))=some (decide (fa l=0))
 | 0,i,e=>by
  refine bv ?_
  unfold F.If
  dsimp only
  rw[if_neg (by rw[decide_eq_true_eq]; omega),List.take_of_length_le (by omega)]
  congr 2
  by_cases h:fa l=0
  ·rw[h,decide_eq_true rfl]; rfl
  ·rw[decide_eq_false h,beq_eq_false_iff_ne]; omega
 | r+1,i,e=>by
  have hi:i<l.length:=by omega
  have k:l.take (i+1)=l.take i++[l[i]]:=by rw[List.take_add_one,List.getElem?_eq_getElem hi]; rfl
  have hs:fa (l.take (i+1))=fa (l.take i)+l[i].length:=by unfold fa; rw[k,List.map_append,List.sum_append]; simp
  have g:∀(m:List Q1),(∀x∈m,x.length<=LB)->fa m<=m.length*LB:=by
   intro m
   induction m with
   | nil=>intro _; simp[fa]
   | cons a m ih=>
    intro h
    have f:=ih fun x hx=>h x (by simp[hx])
    have j:=h a (by simp)
    simp only[fa,List.map_cons,List.sum_cons,List.length_cons,Nat.add_mul]at f ⊢
    omega
  have f:=g (l.take (i+1)) fun x hx=>hb x (List.mem_of_mem_take hx)
  have j:(l.take (i+1)).length<=10:=by rw[List.length_take]; omega
  have o:fa (l.take (i+1))<=10*LB:=Nat.le_trans f (Nat.mul_le_mul_right _ j)
  rw[<-pu l hl hb r (i+1) (by omega)]
  refine bB ?_
  unfold F.If
  dsimp only
  rw[if_pos (decide_eq_true (by omega)),fS hi,ae,aJ (by omega) (by unfold LB at o; omega),aV,aJ (by omega) (by omega),hs]
  rfl
theorem lj (l:List Q1) (hl:l.length<=10) (hb:∀x∈l,x.length<=LB):F.G2 l=some (decide (fa l=0)):=pu l hl hb l.length 0 (by omega)
noncomputable def nf (kty crv:Int) (s n e x y:Q1):Bool:=
 if kty=1 then decide (crv=0/\32<=s.length/\s.length<=4096/\fa [n,e,x,y]=0)
 else if kty=2 then decide (crv=0/\fa [s,x,y]=0/\fI n e)
 else if kty=3 then decide ((jj crv x y).2.2.2=0/\fa [s,n,e]=0)
 else if kty=4 then decide (crv=3/\fa [s,n,e,y]=0/\(mG x).isSome=true) else false
theorem ir (a b:Int):(a == b)=decide (a=b):=by
 by_cases h:a=b
 ·rw[decide_eq_true h,beq_iff_eq]; exact h
 ·rw[decide_eq_false h,beq_eq_false_iff_ne]; exact h
theorem Eg (kty crv:Int) (s n e x y:Q1) (hs:s.length<=LB) (hn:n.length<=LB) (he:e.length<=LB) (hx:x.length<=LB) (hy:y.length<=LB):F.KI kty crv s n e x y=some (nf kty crv s n e x y):=by
 have f:F.G2 [n,e,x,y]=some (decide (fa [n,e,x,y]=0)):=lj _ (by simp) (by simp[hn,he,hx,hy])
 have g:F.G2 [s,x,y]=some (decide (fa [s,x,y]=0)):=lj _ (by simp) (by simp[hs,hx,hy])
 have h:F.G2 [s,n,e]=some (decide (fa [s,n,e]=0)):=lj _ (by simp) (by simp[hs,hn,he])
 have i:F.G2 [s,n,e,y]=some (decide (fa [s,n,e,y]=0)):=lj _ (by simp) (by simp[hs,hn,he,hy])
 unfold F.KI nf
 simp only[ir,decide_eq_true_eq]
 by_cases k1:kty=1
 ·rw[if_pos k1,if_pos k1]
  by_cases c1:crv=0
  ·rw[if_pos c1]
   by_cases c2:32<=s.length
   ·rw[if_pos (by omega)]
    by_cases c3:s.length<=4096
    ·rw[if_pos (by omega),f,ae]; congr 1; rw[decide_eq_decide]; exact⟨fun q=>⟨c1,c2,c3,q⟩,fun q=>q.2.2.2⟩
    ·rw[if_neg (by omega),decide_eq_false fun q=>c3 q.2.2.1]
   ·rw[if_neg (by omega),decide_eq_false fun q=>c2 q.2.1]
  ·rw[if_neg c1,decide_eq_false fun q=>c1 q.1]
 rw[if_neg k1,if_neg k1]
 by_cases k2:kty=2
 ·rw[if_pos k2,if_pos k2]
  by_cases c1:crv=0
  ·rw[if_pos c1,g,ae]
   by_cases c2:fa [s,x,y]=0
   ·rw[if_pos (decide_eq_true c2),vM n e hn he,ae]
    by_cases c3:fI n e
    ·rw[if_pos c3,decide_eq_true (show crv=0/\fa [s,x,y]=0/\fI n e from⟨c1,c2,c3⟩)]; rfl
    ·rw[if_neg c3,decide_eq_false (show ¬(crv=0/\fa [s,x,y]=0/\fI n e) from fun q=>c3 q.2.2)]; rfl
   ·rw[if_neg (by rw[decide_eq_true_eq]; exact c2),decide_eq_false fun q=>c2 q.2.1]
  ·rw[if_neg c1,decide_eq_false fun q=>c1 q.1]
 rw[if_neg k2,if_neg k2]
 by_cases k3:kty=3
 ·rw[if_pos k3,if_pos k3,sC,ae]
  by_cases c1:(jj crv x y).2.2.2=0
  ·rw[if_pos c1,h,ae]; congr 1; rw[decide_eq_decide]; exact⟨fun q=>⟨c1,q⟩,fun q=>q.2⟩
  ·rw[if_neg c1,decide_eq_false fun q=>c1 q.1]
 rw[if_neg k3,if_neg k3]
 by_cases k4:kty=4
 ·rw[if_pos k4,if_pos k4]
  by_cases c1:crv=3
  ·rw[if_neg (by rw[c1]; decide),i,ae]
   by_cases c2:fa [s,n,e,y]=0
   ·rw[decide_eq_true c2]
    unfold F.Ls
    dsimp only
    rw[if_neg (by decide),qN,ae]
    cases hd:mG x with
    | none=>rw[decide_eq_false fun q=>by cases q.2.2]; rfl
    | some p=>rw[decide_eq_true ⟨c1,c2,rfl⟩]; rfl
   ·rw[decide_eq_false c2,decide_eq_false fun q=>c2 q.2.1]; rfl
  ·rw[if_pos (by rw[bne_iff_ne]; exact c1),decide_eq_false fun q=>c1 q.1]; rfl
 rw[if_neg k4,if_neg k4]
theorem sF (kty crv:Int) (s n e x y:Q1) (hs:s.length<=LB) (hn:n.length<=LB) (he:e.length<=LB) (hx:x.length<=LB) (hy:y.length<=LB):F.HM kty crv s n e x y=some (if nf kty crv s n e x y=true then 0 else 90):=by
 unfold F.HM
 rw[Eg kty crv s n e x y hs hn he hx hy,ae]
 cases nf kty crv s n e x y <;> rfl
def bW (a:Int):Int×Int×Int:=
 if 1<=a/\a<=3 then (1,a,0) else if 4<=a/\a<=6 then (2,a - 3,0) else if 7<=a/\a<=9 then (3,a - 6,0) else if a=10 then (4,1,1) else if a=11 then (4,2,2) else if a=12 then (5,0,3) else (0,0,0)
theorem jJ (a:Int):(a=1\/a=2\/a=3\/a=4\/a=5\/a=6\/a=7\/a=8\/a=9\/a=10\/a=11\/a=12)\/(a<1\/12<a):=by omega
theorem xA (a:Int):F.Hl a=some (bW a):=by
 rcases jJ a with (rfl | rfl | rfl | rfl | rfl | rfl | rfl | rfl | rfl | rfl | rfl | rfl) | h
 all_goals first | rfl | skip
 have f:∀k:Int,1<=k->k<=12->(a == k)=false:=fun k i j=>by rw[beq_eq_false_iff_ne]; omega
 have g:bW a=(0,0,0):=by
  unfold bW
  rw[if_neg (by omega),if_neg (by omega),if_neg (by omega),if_neg (by omega),if_neg (by omega),if_neg (by omega)]
 rw[g]
 unfold F.Hl F.Iv F.IO F.Je
 simp only[f 1 (by decide) (by decide),f 2 (by decide) (by decide),f 3 (by decide) (by decide),f 4 (by decide) (by decide),f 5 (by decide) (by decide),f 6 (by decide) (by decide),f 7 (by decide) (by decide),f 8 (by decide) (by decide),f 9 (by decide) (by decide),
  f 10 (by decide) (by decide),f 11 (by decide) (by decide),f 12 (by decide) (by decide)]
 rfl
def eg (a kty crv:Int):Bool:=
 if 1<=a/\a<=3 then decide (kty=1) else if 4<=a/\a<=9 then decide (kty=2) else if a=10\/a=11 then decide (kty=3/\crv=a - 9) else if a=12 then decide (kty=4/\crv=3) else false
theorem xu (a kty crv:Int) (s n e x y:Q1):F.IP a kty crv s n e x y=some (eg a kty crv):=by
 unfold F.IP
 rw[xA,ae]
 have i:∀(p q:Int) (h:¬p=q),decide (p=q)=false:=fun p q h=>decide_eq_false h
 rcases jJ a with (rfl | rfl | rfl | rfl | rfl | rfl | rfl | rfl | rfl | rfl | rfl | rfl) | h
 all_goals first
  | (show some (kty == 1)=some (decide (kty=1)); rw[ir])
  | (show some (kty == 2)=some (decide (kty=2)); rw[ir])
  | (show (if (kty == 3)=true then some (crv == 1) else some false)=some (decide (kty=3/\crv=10 - 9)); rw[ir,ir]; by_cases h:kty=3 <;> simp[h])
  | (show (if (kty == 3)=true then some (crv == 2) else some false)=some (decide (kty=3/\crv=11 - 9)); rw[ir,ir]; by_cases h:kty=3 <;> simp[h])
  | (show (if (kty == 4)=true then some (crv == 3) else some false)=some (decide (kty=4/\crv=3)); rw[ir,ir]; by_cases h:kty=4 <;> simp[h])
  | skip
 have f:bW a=(0,0,0):=by
  unfold bW
  rw[if_neg (by omega),if_neg (by omega),if_neg (by omega),if_neg (by omega),if_neg (by omega),if_neg (by omega)]
 have g:eg a kty crv=false:=by
  unfold eg
  rw[if_neg (by omega),if_neg (by omega),if_neg (by omega),if_neg (by omega)]
 rw[f,g]
 rfl
noncomputable def g9 (k:Int×Int×Int) (s n e x y m sig:Q1):Bool:=
 if k.1=1 then decide (gi k.2.1 s m=sig) else if k.1=2 then decide (wm k.2.1 n e m sig=0) else if k.1=3 then decide (vg k.2.1 n e m sig=0) else if k.1=4 then decide (tU k.2.1 k.2.2 x y m sig=0) else decide (edT x m sig=0)
noncomputable def iV (a kty crv:Int) (s n e x y m sig:Q1):Int:=
 if (bW a).1=0 then 111 else if eg a kty crv=true then if nf kty crv s n e x y=true/\¬((bW a).1=1/\s.length<Sz (bW a).2.1) then if g9 (bW a) s n e x y m sig=true then 0 else 91 else 90 else 105
theorem ox {a:Int} (h:(bW a).1=1):iW (bW a).2.1:=by
 rcases jJ a with (rfl | rfl | rfl | rfl | rfl | rfl | rfl | rfl | rfl | rfl | rfl | rfl) | f
 all_goals first | (exact .inl rfl) | (exact .inr (.inl rfl)) | (exact .inr (.inr rfl)) | (exact absurd h (by decide)) | skip
 unfold bW at h
 rw[if_neg (by omega),if_neg (by omega),if_neg (by omega),if_neg (by omega),if_neg (by omega),if_neg (by omega)]at h
 exact absurd h (by decide)
theorem li (z:Int):F.Hk z=some (if z=0 then 0 else 91):=by
 unfold F.Hk
 by_cases h:z=0
 ·rw[if_neg (by rw[h]; decide),if_pos h]
 ·rw[if_pos (by rw[bne_iff_ne]; exact h),if_neg h]
theorem oH {p:Prop} [Decidable p]:(if decide p=true then (0:Int) else 91)=if p then 0 else 91:=by simp
theorem tg (a:Int) (s n e x y m sig:Q1) (hs:s.length<=LB) (hn:n.length<=LB) (he:e.length<=LB) (hm:m.length<=LB) (hg:sig.length<=LB):F.Ho s n e x y m sig (bW a) false=some (if g9 (bW a) s n e x y m sig=true then 0 else 91):=by
 unfold LB at hs hn he hm hg
 unfold F.Ho g9
 rw[if_neg (by decide)]
 simp only[ir,decide_eq_true_eq]
 by_cases k1:(bW a).1=1
 ·rw[if_pos k1,if_pos k1,j8 _ (ox k1) _ _ _ (by omega) (by omega),ae]
  by_cases h:gi (bW a).2.1 s m=sig
  ·rw[decide_eq_true h]; rfl
  ·rw[decide_eq_false h]; rfl
 rw[if_neg k1,if_neg k1]
 by_cases k2:(bW a).1=2
 ·rw[if_pos k2,if_pos k2,rt _ _ _ _ _ hn he (by omega) hg,ae,li,oH]
 rw[if_neg k2,if_neg k2]
 by_cases k3:(bW a).1=3
 ·rw[if_pos k3,if_pos k3,qn _ _ _ _ _ hn he (by omega) hg,ae,li,oH]
 rw[if_neg k3,if_neg k3]
 by_cases k4:(bW a).1=4
 ·rw[if_pos k4,if_pos k4,uF _ _ _ _ _ _ (by omega) hg,ae,li,oH]
 rw[if_neg k4,if_neg k4,qO _ _ _ (by omega) hg,ae,li,oH]
theorem AP (a kty crv:Int) (s n e x y m sig:Q1) (hs:s.length<=LB) (hn:n.length<=LB) (he:e.length<=LB) (hx:x.length<=LB) (hy:y.length<=LB) (hm:m.length<=LB) (hg:sig.length<=LB):F.Ht a kty crv s n e x y m sig=some (iV a kty crv s n e x y m sig):=by
 unfold F.Ht iV
 rw[xA,ae,ir]
 by_cases k0:(bW a).1=0
 ·rw[if_pos (decide_eq_true k0),if_pos k0]
 rw[if_neg (by rw[decide_eq_true_eq]; exact k0),if_neg k0,xu,ae]
 cases hf:eg a kty crv with
 | false=>rfl
 | true=>
  rw[if_neg (by decide),if_pos rfl,sF kty crv s n e x y hs hn he hx hy,ae]
  cases hgd:nf kty crv s n e x y with
  | false=>rw[if_pos (by decide),if_neg (show ¬(false=true/\_) from fun q=>by cases q.1)]; rfl
  | true=>
   rw[if_pos rfl,if_neg (by decide),ir]
   by_cases k1:(bW a).1=1
   ·have g:=ox k1
    have f:F.GL (bW a).2.1=some ((Sz (bW a).2.1:Nat):Int):=vU _ g
    rw[if_pos (decide_eq_true k1),f,ae]
    by_cases c:s.length<Sz (bW a).2.1
    ·rw[decide_eq_true (by omega),if_neg fun q=>q.2 ⟨k1,c⟩]; rfl
    ·rw[decide_eq_false (by omega),if_pos ⟨rfl,fun q=>c q.2⟩]; exact tg a s n e x y m sig hs hn he hm hg
   ·rw[if_neg (by rw[decide_eq_true_eq]; exact k1),if_pos ⟨rfl,fun q=>k1 q.1⟩]; exact tg a s n e x y m sig hs hn he hm hg
end Go.Gk.Bn
end

section
namespace Go.Gk.Bn
open Go Go.Gk Go.Gk.Sh
theorem Am {h:Int} {n e m sig:Q1} (q:wm h n e m sig=0):fI n e/\sig.length=n.length:=by
 unfold wm at q
 split at q
 ·split at q
  ·split at q
   ·rename_i i f g; exact⟨f,g.1⟩
   ·exact absurd q (by decide)
  ·exact absurd q (by decide)
 ·exact absurd q (by decide)
theorem zt {h:Int} {n e m sig:Q1} (q:vg h n e m sig=0):fI n e/\sig.length=n.length:=by
 unfold vg at q
 split at q
 ·split at q
  ·split at q
   ·rename_i i f g; exact⟨f,g.1⟩
   ·exact absurd q (by decide)
  ·exact absurd q (by decide)
 ·exact absurd q (by decide)
theorem A9 {h c:Int} {x y m sig:Q1} (q:tU h c x y m sig=0):(jj c x y).2.2.2=0/\sig.length=2*nS c:=by
 unfold tU at q
 split at q
 ·exact absurd q (by decide)
 ·split at q
  ·exact absurd q (by decide)
  ·split at q
   ·exact absurd q (by decide)
   ·rename_i i f g; exact⟨Decidable.not_not.1 f,Decidable.not_not.1 g⟩
theorem BL {x m sig:Q1} (q:edT x m sig=0):sig.length=64:=by
 unfold edT at q
 cases hd:mG x with
 | none=>rw[hd]at q; exact absurd (show (90:Int)=0 from q) (by decide)
 | some p=>
  rw[hd]at q
  dsimp only at q
  split at q
  ·rename_i h; exact h.1
  ·exact absurd q (by decide)
theorem zV {a:Int} {s n e x y m sig:Q1} (h:g9 (bW a) s n e x y m sig=true):0<sig.length:=by
 unfold g9 at h
 split at h
 ·rename_i k
  have:=of_decide_eq_true h
  have g:=ic (bW a).2.1
  rw[<-this,gi,kO]; omega
 ·split at h
  ·have:=Am (of_decide_eq_true h)
   have:=this.1.1; omega
  ·split at h
   ·have:=zt (of_decide_eq_true h)
    have:=this.1.1; omega
   ·split at h
    ·have:=A9 (of_decide_eq_true h)
     have f:=(xI this.1).1
     have i:=this.2
     have:0<nS (bW a).2.2:=by rcases f with f | f <;> rw[f] <;> decide
     omega
    ·have:=BL (of_decide_eq_true h); omega
theorem Dy (a:Int) (h:1<=a/\a<=12):F.Ja a=some (bW a).2.1\/a=12/\F.Ja a=some 0:=by
 rcases jJ a with (rfl | rfl | rfl | rfl | rfl | rfl | rfl | rfl | rfl | rfl | rfl | rfl) | f
 all_goals first | (left; rfl) | (right; exact⟨rfl,rfl⟩) | omega
theorem BT (a:Int) (h:a<1\/12<a):∃z,F.Ja a=some z:=by
 have f:∀k:Int,1<=k->k<=12->(a == k)=false:=fun k g i=>by rw[beq_eq_false_iff_ne]; omega
 have j:decide (a<=9)=decide (a<1):=by rw[decide_eq_decide]; omega
 unfold F.Ja F.LW
 by_cases c:1<=a
 ·rw[if_pos (decide_eq_true c),decide_eq_false (by omega)]
  simp only[f 10 (by decide) (by decide),f 11 (by decide) (by decide)]
  exact⟨_,rfl⟩
 ·rw[if_neg (by rw[decide_eq_true_eq]; exact c)]
  simp only[f 10 (by decide) (by decide),f 11 (by decide) (by decide)]
  exact⟨_,rfl⟩
section
variable {a kty crv:Int} {s n e x y m sig:Q1} (hs:s.length<=LB) (hn:n.length<=LB) (he:e.length<=LB) (hx:x.length<=LB) (hy:y.length<=LB) (hm:m.length<=LB) (hg:sig.length<=LB)
theorem xr (h:1<=a/\a<=12):(bW a).1≠0/\((bW a).1=1↔a<=3)/\(a<=3->wI (16*(wI (a+1)))=((Sz (bW a).2.1:Nat):Int)):=by
 rcases jJ a with (rfl | rfl | rfl | rfl | rfl | rfl | rfl | rfl | rfl | rfl | rfl | rfl) | f
 all_goals first | omega | (refine⟨by decide,by decide,fun q=>?_⟩; first | rfl | exact absurd q (by decide))
include hs hn he hx hy in
theorem CM (ha:1<=a/\a<=12) (h:Bool) (g:eg a kty crv=true->¬((bW a).1=1/\s.length<Sz (bW a).2.1)->h=g9 (bW a) s n e x y m sig) :
  F.GS a kty crv s n e x y (iV a kty crv s n e x y m sig) sig (h,eg a kty crv)=some true:=by
 obtain⟨i,f,j⟩:=xr ha
 unfold F.GS
 dsimp only
 rw[xu,ae,bne_self_eq_false,if_neg (by decide),sF kty crv s n e x y hs hn he hx hy,ae]
 unfold iV
 rw[if_neg i]
 cases hf:eg a kty crv with
 | false=>rfl
 | true=>
  rw[if_neg (by decide),if_pos rfl]
  cases hgd:nf kty crv s n e x y with
  | false=>rw[if_pos (by decide),if_neg (show ¬(false=true/\_) from fun q=>by cases q.1)]; rfl
  | true=>
   rw[if_pos rfl,if_neg (by decide)]
   have last:∀(c:¬((bW a).1=1/\s.length<Sz (bW a).2.1)),F.Ic sig (if true=true/\¬((bW a).1=1/\s.length<Sz (bW a).2.1) then if g9 (bW a) s n e x y m sig=true then 0 else 91 else 90) h false=some true:=fun c=>by
    rw[if_pos ⟨rfl,c⟩,g hf c]
    unfold F.Ic
    rw[if_neg (by decide)]
    cases hq:g9 (bW a) s n e x y m sig with
    | false=>rfl
    | true=>
     have:=zV hq
     rw[if_pos rfl,if_pos rfl,if_pos (by decide),decide_eq_true (by omega)]
   by_cases c3:a<=3
   ·rw[if_pos (decide_eq_true c3),j c3]
    by_cases c:s.length<Sz (bW a).2.1
    ·rw[decide_eq_true (by omega),if_neg fun q=>q.2 ⟨f.2 c3,c⟩]; rfl
    ·rw[decide_eq_false (by omega)]; exact last fun q=>c q.2
   ·rw[if_neg (by rw[decide_eq_true_eq]; exact c3)]; exact last fun q=>c3 (f.1 q.1)
include hs hn he hx hy hm hg in
theorem uv (ha:1<=a/\a<=12) (z:Int) (K:z=(bW a).2.1\/a=12):F.Ji a kty crv s n e m sig (iV a kty crv s n e x y m sig) z x y false=some true:=by
 have j:=fun (b:Bool) (h:Bool) (hb:eg a kty crv=b) hh=>hb ▸ CM (m:=m) (sig:=sig) hs hn he hx hy ha h hh
 obtain⟨M,G,I⟩:=xr ha
 unfold LB at hs hn he hm hg
 unfold F.Ji
 rw[if_neg (by decide)]
 simp only[ir,decide_eq_true_eq]
 by_cases c3:a<=3
 ·have k:=G.2 c3
  have J:=ox k
  have o:z=(bW a).2.1:=by omega
  rw[if_pos c3]
  have g:eg a kty crv=decide (kty=1):=by unfold eg; rw[if_pos ⟨ha.1,c3⟩]
  by_cases c:kty=1
  ·rw[if_pos c,I c3]
   have i:eg a kty crv=true:=by rw[g,decide_eq_true c]
   by_cases d:Sz (bW a).2.1<=s.length
   ·rw[if_pos (by omega),o,j8 _ J _ _ _ (by omega) (by omega),ae]
    exact j true _ i fun _ _=>by unfold g9; rw[if_pos k]
   ·rw[if_neg (by omega)]
    exact j true _ i fun _ q=>absurd ⟨k,by omega⟩ q
  ·rw[if_neg c]
   have f:eg a kty crv=false:=by rw[g,decide_eq_false c]
   exact j false _ f fun q=>by rw[f]at q; cases q
 rw[if_neg c3]
 have A:¬(bW a).1=1:=fun q=>c3 (G.1 q)
 by_cases c6:a<=6
 ·have k:(bW a).1=2:=by unfold bW; rw[if_neg (by omega),if_pos (by omega)]
  have o:z=(bW a).2.1:=by omega
  have g:eg a kty crv=decide (kty=2):=by unfold eg; rw[if_neg (by omega),if_pos (by omega)]
  rw[if_pos c6]
  by_cases c:kty=2
  ·have i:eg a kty crv=true:=by rw[g,decide_eq_true c]
   rw[if_pos c,rt _ _ _ _ _ hn he (by omega) hg,ae]
   exact j true _ i fun _ _=>by unfold g9; rw[if_neg A,if_pos k,o]
  ·have f:eg a kty crv=false:=by rw[g,decide_eq_false c]
   rw[if_neg c]
   exact j false _ f fun q=>by rw[f]at q; cases q
 rw[if_neg c6]
 by_cases c9:a<=9
 ·have k:(bW a).1=3:=by unfold bW; rw[if_neg (by omega),if_neg (by omega),if_pos (by omega)]
  have o:z=(bW a).2.1:=by omega
  have g:eg a kty crv=decide (kty=2):=by unfold eg; rw[if_neg (by omega),if_pos (by omega)]
  rw[if_pos c9]
  by_cases c:kty=2
  ·have i:eg a kty crv=true:=by rw[g,decide_eq_true c]
   rw[if_pos c,qn _ _ _ _ _ hn he (by omega) hg,ae]
   exact j true _ i fun _ _=>by unfold g9; rw[if_neg A,if_neg (by omega),if_pos k,o]
  ·have f:eg a kty crv=false:=by rw[g,decide_eq_false c]
   rw[if_neg c]
   exact j false _ f fun q=>by rw[f]at q; cases q
 rw[if_neg c9]
 by_cases c11:a<=11
 ·have k:(bW a).1=4/\(bW a).2.2=a - 9:=by
   have:a=10\/a=11:=by omega
   rcases this with rfl | rfl <;> decide
  have o:z=(bW a).2.1:=by omega
  have g:eg a kty crv=decide (kty=3/\crv=a - 9):=by unfold eg; rw[if_neg (by omega),if_neg (by omega),if_pos (by omega)]
  have w:wI (a - 9)=a - 9:=aJ (by omega) (by omega)
  rw[if_pos c11,w]
  have t:¬(kty=3/\crv=a - 9)->F.II crv x y m sig z a kty s n e (iV a kty crv s n e x y m sig) false=some true:=fun q=>by
   have f:eg a kty crv=false:=by rw[g,decide_eq_false q]
   unfold F.II
   rw[if_neg (by decide)]
   exact j false _ f fun q=>by rw[f]at q; cases q
  by_cases c:kty=3
  ·rw[if_pos c]
   by_cases d:crv=a - 9
   ·have i:eg a kty crv=true:=by rw[g,decide_eq_true ⟨c,d⟩]
    rw[decide_eq_true d]
    unfold F.II
    rw[if_pos rfl,uF _ _ _ _ _ _ (by omega) hg,ae,ir]
    exact j true _ i fun _ _=>by unfold g9; rw[if_neg A,if_neg (by omega),if_neg (by omega),if_pos k.1,o,k.2,d]
   ·rw[decide_eq_false d]; exact t fun q=>d q.2
  ·rw[if_neg c]; exact t fun q=>c q.1
 have B:a=12:=by omega
 have k:(bW a).1=5:=by rw[B]; rfl
 have g:eg a kty crv=decide (kty=4/\crv=3):=by rw[B]; rfl
 rw[if_neg c11]
 have t:¬(kty=4/\crv=3)->F.IW x m sig a kty crv s n e y (iV a kty crv s n e x y m sig) false=some true:=fun q=>by
  have f:eg a kty crv=false:=by rw[g,decide_eq_false q]
  unfold F.IW
  rw[if_neg (by decide)]
  exact j false _ f fun q=>by rw[f]at q; cases q
 by_cases c:kty=4
 ·rw[if_pos c]
  by_cases d:crv=3
  ·have i:eg a kty crv=true:=by rw[g,decide_eq_true ⟨c,d⟩]
   rw[decide_eq_true d]
   unfold F.IW
   rw[if_pos rfl,qO _ _ _ (by omega) hg,ae,ir]
   exact j true _ i fun _ _=>by unfold g9; rw[if_neg A,if_neg (by omega),if_neg (by omega),if_neg (by omega)]
  ·rw[decide_eq_false d]; exact t fun q=>d q.2
 ·rw[if_neg c]; exact t fun q=>c q.1
end
theorem law18_JwsBound_eq (a kty crv:Int) (s n e x y m sig:Q1) (hs:s.length<=140737488351232) (hn:n.length<=140737488351232) (he:e.length<=140737488351232) (hx:x.length<=140737488351232) (hy:y.length<=140737488351232) (hm:m.length<=140737488351232) (hg:sig.length<=140737488351232) :
  F.L1 a kty crv s n e x y m sig=some true:=by
 unfold F.L1
 rw[Ci,ae,if_neg (by decide),AP a kty crv s n e x y m sig hs hn he hx hy hm hg,ae]
 by_cases h:1<=a/\a<=12
 ·have g:decide ((12:Int)<a)=false:=decide_eq_false (by omega)
  rcases Dy a h with f | ⟨i,f⟩
  ·rw[f,ae,if_neg (by rw[decide_eq_true_eq]; omega),g]; exact uv hs hn he hx hy hm hg h _ (.inl rfl)
  ·rw[f,ae,if_neg (by rw[decide_eq_true_eq]; omega),g]; exact uv hs hn he hx hy hm hg h _ (.inr i)
 ·obtain⟨z,k⟩:=BT a (by omega)
  have o:bW a=(0,0,0):=by
   unfold bW
   rw[if_neg (by omega),if_neg (by omega),if_neg (by omega),if_neg (by omega),if_neg (by omega),if_neg (by omega)]
  have hc:iV a kty crv s n e x y m sig=111:=by unfold iV; rw[o]; rfl
  have j:F.Ji a kty crv s n e m sig 111 z x y true=some true:=rfl
  rw[k,ae,hc]
  by_cases c:a<1
  ·rw[if_pos (decide_eq_true c),j]
  ·rw[if_neg (by rw[decide_eq_true_eq]; exact c),decide_eq_true (show (12:Int)<a by omega),j]
end Go.Gk.Bn
end
