import Derived.Test.YtmegjloifgfldaaGreatDoorGkP0
set_option linter.unusedVariables false
set_option linter.unusedSimpArgs false
set_option linter.unusedSectionVars false

section
namespace Go.Gk.Sh
open Go Go.Gk
end Go.Gk.Sh
end

section
namespace Go.Gk.Sh
open Go Go.Gk
theorem Cx (m:Nat) (h:m<18446744073709551616):(UInt64.ofInt (m:Int)).toNat=m:=by
 simp[UInt64.ofInt,UInt64.toNat_ofNat']
 omega
theorem jI {b:Q1} {k n:Nat} (h:k<n):(b.take n).getD k 0=b.getD k 0:=by
 rw[List.getD_eq_getElem?_getD,List.getElem?_take,if_pos h,List.getD_eq_getElem?_getD]
theorem wh (h:Q0) (b:Q1):lU h (b.take 64)=lU h b:=by
 have:jv (b.take 64)=jv b:=by
  unfold jv
  refine iT 64 0 _ fun k y _ g=>?_
  unfold fq
  split
  ·rename_i f
   simp only[vV]
   rw[jI (by omega),jI (by omega),jI (by omega),jI (by omega)]
  ·rfl
 unfold lU
 rw[this]
theorem wz (h:List UInt64) (b:Q1):lR h (b.take 128)=lR h b:=by
 have:i8 (b.take 128)=i8 b:=by
  unfold i8
  refine iT 80 0 _ fun k y _ g=>?_
  unfold eO
  split
  ·rename_i f
   have:qX (b.take 128) k=qX b k:=iT 8 0 _ fun j x _ i=>by
    simp only[vn]
    rw[jI (by omega)]
   rw[this]
  ·rfl
 unfold lR
 rw[this]
abbrev HS:=Q0×List UInt64
def Bk (a:Int):Nat:=if a=1 then 64 else 128
def mix (a:Int) (H:HS) (b:Q1):HS:=if a=1 then (lU H.1 b,H.2) else (H.1,lR H.2 b)
theorem pI (a:Int) (H:HS) (b:Q1):mix a H (b.take (Bk a))=mix a H b:=by
 unfold mix Bk
 split
 ·rw[wh]
 ·rw[wz]
theorem DU (a:Int) (H:HS) (b:Q1) (h:H.1.length=8/\H.2.length=8):(mix a H b).1.length=8/\(mix a H b).2.length=8:=by
 unfold mix
 split
 ·exact⟨BW _ _ h.1,h.2⟩
 ·exact⟨h.1,yQ _ _ h.2⟩
def jW (a:Int) (H:HS) (D:Q1) (k:Nat):HS:=(List.range' 0 k).foldl (fun H i=>mix a H (D.drop (Bk a*i))) H
theorem vh (a:Int) (H:HS) (D:Q1) (k:Nat) (h:H.1.length=8/\H.2.length=8):(jW a H D k).1.length=8/\(jW a H D k).2.length=8:=
 ju (fun H:HS=>H.1.length=8/\H.2.length=8) _ (fun i x hx=>DU a x _ hx) k 0 _ h
theorem AG (a:Int) (H:HS) (D:Q1) (k:Nat):jW a H D (k+1)=mix a (jW a H D k) (D.drop (Bk a*k)):=by
 unfold jW
 rw[List.range'_concat,List.foldl_append]
 simp
theorem um (a:Int) (H:HS) (D E:Q1) (k:Nat) (h:Bk a*k<=D.length):jW a H (D++E) k=jW a H D k:=by
 unfold jW
 refine iT k 0 _ fun i x _ hi=>?_
 have f:Bk a*(i+1)<=Bk a*k:=Nat.mul_le_mul_left _ (by omega)
 rw[Nat.mul_add,Nat.mul_one]at f
 rw[<-pI,<-pI a x (D.drop _),List.drop_append_of_le_length (by omega),List.take_append_of_le_length (by simp; omega)]
def Inv (a:Int) (H0:HS) (D:Q1) (s:Q0) (l:List UInt64) (rest:Q1) (n:UInt64):Prop:=
 (s,l)=jW a H0 D (D.length / Bk a)/\rest.length=128/\rest.take (D.length%Bk a)=D.drop (Bk a*(D.length / Bk a))/\n=UInt64.ofNat D.length
theorem Cu (a:Int) (s:Q0) (l:List UInt64) (rest:Q1) (n:UInt64) (hs:s.length=8) (hl:l.length=8) (f:rest.length=128) :
  F.Ji a s l rest n=some (a,(mix a (s,l) rest).1,(mix a (s,l) rest).2,rest,n):=by
 unfold F.Ji mix
 by_cases h:a=1
 ·have e:(a == 1)=true:=by simpa using h
  rw[e,if_pos rfl,if_pos h,yu a s l rest n hs f]; rfl
 ·have e:(a == 1)=false:=by simpa using h
  rw[e,if_neg (by simp),if_neg h,xZ a l s rest n hl f]; rfl
theorem yZ (a:Int) (H0:HS) (h0:H0.1.length=8/\H0.2.length=8):∀(m:Nat) (b D:Q1) (s:Q0) (l:List UInt64) (rest:Q1) (n:UInt64),b.length=m->D.length+b.length<=1000000000000000->Inv a H0 D s l rest n ->
  ∃A l' J n',loop (F.Ib ((Bk a:Nat):Int)) (b,a,s,l,rest,n)=some (a,A,l',J,n')/\Inv a H0 (D++b) A l' J n':=by
 intro m
 induction m using Nat.strongRecOn with
 | ind m ih=>
  intro b D s l rest n hm hD hI
  obtain⟨N,hr,O,hn⟩:=hI
  have G:=vh a H0 D (D.length / Bk a) h0
  rw[<-N]at G
  have hB:Bk a=64\/Bk a=128:=by unfold Bk; split <;> simp
  by_cases hb:b=[]
  ·subst hb
   refine⟨s,l,rest,n,cK rfl,?_⟩
   rw[List.append_nil]; exact⟨N,hr,O,hn⟩
  ·have ct:0<b.length:=List.length_pos_iff.2 hb
   -- numbers
   obtain⟨B,f⟩:∃B,Bk a=B:=⟨_,rfl⟩
   rw[f]at hB O N
   have a6:D.length%B<B:=Nat.mod_lt _ (by omega)
   have ad:=Nat.div_add_mod D.length B
   obtain⟨q,hq⟩:∃q,D.length / B=q:=⟨_,rfl⟩
   obtain⟨t,R⟩:∃t,D.length%B=t:=⟨_,rfl⟩
   rw[hq,R]at ad
   rw[R]at a6 O
   rw[hq]at O N
   have b2:(UInt64.ofInt ((B:Nat):Int)).toNat=B:=by rcases hB with rfl | rfl <;> rfl
   have b3:¬(UInt64.ofInt ((B:Nat):Int))=0:=by rcases hB with rfl | rfl <;> decide
   have hN:n.toNat=D.length:=by rw[hn,UInt64.toNat_ofNat']; omega
   have a3:(n%UInt64.ofInt ((B:Nat):Int)).toNat=t:=by rw[UInt64.toNat_mod,hN,b2,R]
   obtain⟨k,hk⟩:∃k,min b.length (B - t)=k:=⟨_,rfl⟩
   have ap:0<k/\k<=b.length/\k<=B - t:=by omega
   have b6:cpL rest b t B=rest.take t++b.take k++rest.drop (t+k):=by
    unfold cpL
    rw[hk]
    congr 2
    by_cases h:b.length<=B - t
    ·rw[List.take_of_length_le h,List.take_of_length_le (by omega)]
    ·congr 1; omega
   have U:(cpL rest b t B).length=128:=by rw[ej _ _ _ _ (by omega) (by omega),hr]
   have c0:D.length=B*q+t:=ad.symm
   have K:(D++b.take k).drop (B*q)=rest.take t++b.take k:=by
    rw[List.drop_append_of_le_length (by omega),O]
   have V:(cpL rest b t B).take (t+k)=rest.take t++b.take k:=by
    rw[b6,List.take_left' (by simp; omega)]
   have a0:n+UInt64.ofInt ((k:Nat):Int)=UInt64.ofNat (D++b.take k).length:=by
    apply UInt64.toNat_inj.1
    rw[UInt64.toNat_add,hN,UInt64.toNat_ofNat',Cx k (by omega)]
    simp; omega
   have I:∀A l':_,Inv a H0 (D++b.take k) A l' (cpL rest b t B) (n+UInt64.ofInt ((k:Nat):Int))->∃j o M z,loop (F.Ib ((Bk a:Nat):Int)) (b.drop k,a,A,l',cpL rest b t B,n+UInt64.ofInt ((k:Nat):Int))=some (a,j,o,M,z)/\Inv a H0 (D++b) j o M z:=by
    intro A l' b7
    obtain⟨j,o,X,z,Y,Z⟩:=ih (b.drop k).length (by simp; omega) (b.drop k) (D++b.take k) A l' _ _ rfl (by simp; omega) b7
    refine⟨j,o,X,z,Y,?_⟩
    rwa [List.append_assoc,List.take_append_drop]at Z
   rw[f]at I ⊢
   have c1:decide ((0:Int)<(b.length:Int))=true:=decide_eq_true (by omega)
   have w1:wI ((t:Nat):Int)=((t:Nat):Int):=aI (by omega) (by omega)
   have g:F.Ib ((B:Nat):Int) (b,a,s,l,rest,n) =
     if (wI ((t:Int)+(k:Int)) == (B:Int))=true then (ah (F.Ji a s l (cpL rest b t B) (n+UInt64.ofInt ((k:Nat):Int))) fun x=>bN (b.drop k,x.1,x.2.1,x.2.2.1,x.2.2.2.1,x.2.2.2.2))
     else bN (b.drop k,a,s,l,cpL rest b t B,n+UInt64.ofInt ((k:Nat):Int)):=by
    simp only[F.Ib,c1,if_true,grd_true _ b3,aV,a3,w1]
    rw[qB (by omega) (by omega),ae]
    simp only[Int.toNat_natCast,hk]
    rw[g9 (by omega),ae]
   have w2:wI ((t:Int)+(k:Int))=((t+k:Nat):Int):=by rw[aI (by omega) (by omega)]; simp
   rw[w2]at g
   by_cases hfull:t+k=B
   ·have e:(((t+k:Nat):Int) == (B:Int))=true:=by simp[hfull]
    rw[e,if_pos rfl,Cu a s l _ _ G.1 G.2 U,ae]at g
    obtain⟨j,o,X,z,Y,Z⟩:=I (mix a (s,l) (cpL rest b t B)).1 (mix a (s,l) (cpL rest b t B)).2 (by
     have i:(D++b.take k).length=B*(q+1):=by rw[List.length_append,List.length_take,Nat.min_eq_left ap.2.1,Nat.mul_add]; omega
     have hd:(D++b.take k).length / B=q+1:=by rw[i,Nat.mul_div_cancel_left _ (by omega)]
     have ac:(D++b.take k).length%B=0:=by rw[i,Nat.mul_mod_right]
     refine⟨?_,U,?_,a0⟩
     ·rw[f,hd,AG,um a H0 D _ q (by rw[f]; omega),<-N,f,K,<-V,hfull,<-f,pI]
     ·rw[f,ac,hd,List.take_zero,List.drop_of_length_le (by rw[i]; exact Nat.le_refl _)])
    exact⟨j,o,X,z,(bB g).trans Y,Z⟩
   ·have e:(((t+k:Nat):Int) == (B:Int))=false:=by simp; omega
    rw[e,if_neg (by simp)]at g
    obtain⟨j,o,X,z,Y,Z⟩:=I s l (by
     have a1:t+k<B:=by omega
     have i:(D++b.take k).length=t+k+B*q:=by rw[List.length_append,List.length_take,Nat.min_eq_left ap.2.1]; omega
     have hd:(D++b.take k).length / B=q:=by rw[i,Nat.add_mul_div_left _ _ (by omega),Nat.div_eq_of_lt a1]; simp
     have ac:(D++b.take k).length%B=t+k:=by rw[i,Nat.add_mul_mod_self_left,Nat.mod_eq_of_lt a1]
     refine⟨?_,U,?_,a0⟩
     ·rw[f,hd,um a H0 D _ q (by rw[f]; omega),<-N]
     ·rw[f,ac,hd,V,K])
    exact⟨j,o,X,z,(bB g).trans Y,Z⟩
theorem pM (a:Int) (h:a=1\/a=2\/a=3):F.Hd a=some ((Bk a:Nat):Int):=by
 rcases h with rfl | rfl | rfl <;> rfl
theorem uu (a:Int) (ha:a=1\/a=2\/a=3) (H0:HS) (i:H0.1.length=8/\H0.2.length=8) (b D:Q1) (s:Q0) (l:List UInt64) (rest:Q1) (n:UInt64) (j:D.length+b.length<=1000000000000000) (k:Inv a H0 D s l rest n) :
  ∃g l' f h,F.H3 a s l rest n b=some (a,g,l',f,h)/\Inv a H0 (D++b) g l' f h:=by
 unfold F.H3
 rw[pM a ha,ae]
 exact yZ a H0 i _ b D s l rest n rfl j k
end Go.Gk.Sh
end

section
namespace Go.Gk.Sh
open Go Go.Gk
def zc (B r:Nat):Nat:=(2*B - B / 8 - (r+1))%B
def fo (n:UInt64) (i:Nat):UInt8:=if i<8 then (aP (aF n 3) (8*i)).toUInt8 else if i=8 then (aP n 61).toUInt8 else 0
def ja (B:Nat) (D:Q1):Q1:=([128]++List.replicate (zc B (D.length%B)) 0)++(List.range' 0 (B / 8)).map (fun i=>fo (UInt64.ofNat D.length) (B / 8 - 1 - i))
def q32 (v:UInt32):Q1:=[(bv v 24).toUInt8,(bv v 16).toUInt8,(bv v 8).toUInt8,v.toUInt8]
def q64 (v:UInt64):Q1:=(List.range' 0 8).map (fun j=>(aP v (56 - 8*j)).toUInt8)
def tx (s:Q0):Q1:=(List.range' 0 8).foldl (fun x i=>x++q32 (s.getD i 0)) []
def ym (s:List UInt64):Q1:=(List.range' 0 8).foldl (fun x i=>x++q64 (s.getD i 0)) []
def Sz (a:Int):Nat:=if a=1 then 32 else if a=2 then 48 else 64
def nX (a:Int) (H:HS):Q1:=if a=1 then tx H.1 else (ym H.2).take (Sz a)
def H0 (a:Int):HS:=if a=1 then (F.Mo,List.replicate 8 0) else if a=2 then (List.replicate 8 0,F.Mp) else (List.replicate 8 0,F.Mn)
theorem tV (a:Int):(H0 a).1.length=8/\(H0 a).2.length=8:=by
 unfold H0
 split
 ·exact⟨rfl,rfl⟩
 ·split <;> exact⟨rfl,rfl⟩
def cT (a:Int) (D:Q1):Q1:=nX a (jW a (H0 a) (D++ja (Bk a) D) ((D++ja (Bk a) D).length / Bk a))
theorem pS {β:Type} (f:Nat->List β):∀(r i:Nat) (x:List β),(List.range' i r).foldl (fun x i=>x++f i) x=x++(List.range' i r).flatMap f
 | 0,i,x=>by simp
 | r+1,i,x=>by
  rw[List.range'_succ,List.foldl_cons,pS f r (i+1),List.flatMap_cons,List.append_assoc]
theorem xj (v:UInt64):(q64 v).length=8:=by simp[q64]
theorem sE (s:List UInt64):(ym s).length=64:=by
 unfold ym
 have:=cQ (fun i (x:Q1)=>x.length=8*i) (fun x i=>x++q64 (s.getD i 0)) (fun i x hx=>by simp only[List.length_append,xj,hx]; omega) 8 0 [] rfl
 simpa using this
theorem BO (B:Nat) (D:Q1):(ja B D).length=1+zc B (D.length%B)+B / 8:=by simp[ja]; omega
theorem zy (a:Int) (D:Q1):(D++ja (Bk a) D).length%Bk a=0/\(ja (Bk a) D).length<=300:=by
 rw[List.length_append,BO]
 have f:Bk a=64\/Bk a=128:=by unfold Bk; split <;> simp
 have g:=Nat.mod_lt D.length (show 0<Bk a by omega)
 have i:=Nat.div_add_mod D.length (Bk a)
 rcases f with h | h <;> rw[h]at g i ⊢ <;> unfold zc <;> omega
theorem EJ (a:Int) (ha:a=1\/a=2\/a=3) (s:Q0) (l:List UInt64) (rest:Q1) (n:UInt64) (x:Q1) (hx:x.length<=1000) :
  loop (F.HP a s l rest n) (x,(((Bk a / 8 - 1:Nat)):Int))=(ah (F.H3 a s l rest n (x++(List.range' 0 (Bk a / 8)).map (fun i=>fo n (Bk a / 8 - 1 - i)))) fun h=>
   if (h.1 == 1)=true then loop (F.I3 a s l rest n h) ([],0) else loop (F.HT a s l rest n h) ([],0)):=by
 have A:Bk a / 8=8\/Bk a / 8=16:=by unfold Bk; split <;> simp
 obtain⟨g,z⟩:∃q,Bk a / 8=q:=⟨_,rfl⟩
 rw[z]at A ⊢
 have:=cA (f:=F.HP a s l rest n) (fun (y:Q1) i=>(y,(g:Int) - 1 - (i:Int))) (fun i y=>y.length=x.length+i) (fun y i=>y++[fo n (g - 1 - i)]) 0 g
  (X:=fun y=>(ah (F.H3 a s l rest n y) fun h=>if (h.1 == 1)=true then loop (F.I3 a s l rest n h) ([],0) else loop (F.HT a s l rest n h) ([],0)))
  (fun i y _ hi hy=>by
   have j:decide ((0:Int)<=((g - 1 - i:Nat):Int))=true:=decide_eq_true (by omega)
   have B:(g:Int) - 1 - (i:Int)=((g - 1 - i:Nat):Int):=by omega
   have k:∀c:UInt8,F.Iv y ((g - 1 - i:Nat):Int) c=some (.inl (y++[c],(g:Int) - 1 - ((i+1:Nat):Int))):=fun c=>by
    simp only[F.Iv]
    rw[rt (by simp; omega),ae,aI (by omega) (by omega),show ((g - 1 - i:Nat):Int) - 1=(g:Int) - 1 - ((i+1:Nat):Int) by omega]
    rfl
   refine⟨?_,by simp[hy]; omega⟩
   simp only[F.HP,B,j,if_true]
   by_cases h8:g - 1 - i<8
   ·have o:decide (((g - 1 - i:Nat):Int)<8)=true:=decide_eq_true (by omega)
    have G:wI (8*((g - 1 - i:Nat):Int))=((8*(g - 1 - i):Nat):Int):=by rw[aI (by omega) (by omega)]; omega
    simp only[o,if_true,G]
    rw[grd_true _ (by omega),aV,Int.toNat_natCast,k]
    simp only[fo,h8,if_true]
   ·have o:decide (((g - 1 - i:Nat):Int)<8)=false:=decide_eq_false (by omega)
    simp only[o,Bool.false_eq_true,if_false]
    by_cases h9:g - 1 - i=8
    ·have t:(((g - 1 - i:Nat):Int) == 8)=true:=by rw[h9]; rfl
     have hb:fo n (g - 1 - i)=(aP n 61).toUInt8:=by unfold fo; rw[if_neg h8,if_pos h9]
     simp only[t,if_true,k,hb]
    ·have t:(((g - 1 - i:Nat):Int) == 8)=false:=by simp; omega
     have hb:fo n (g - 1 - i)=0:=by unfold fo; rw[if_neg h8,if_neg h9]
     simp only[t,Bool.false_eq_true,if_false,k,hb])
  (fun y hy=>by
   have j:decide ((0:Int)<=(g:Int) - 1 - ((g:Nat):Int))=false:=decide_eq_false (by omega)
   simp only[F.HP,j,Bool.false_eq_true,if_false])
  g 0 x (Nat.le_refl _) (by omega) rfl
 have e:(g:Int) - 1 - ((0:Nat):Int)=((g - 1:Nat):Int):=by omega
 rw[e]at this
 refine this.trans ?_
 have I:=pS (fun i=>[fo n (g - 1 - i)]) g 0 x
 simp only[I]
 have hm:∀r:Q2,r.flatMap (fun i=>[fo n (g - 1 - i)])=r.map (fun i=>fo n (g - 1 - i)):=fun r=>by
  induction r with
  | nil=>rfl
  | cons p r ih=>rw[List.flatMap_cons,ih]; rfl
 rw[hm]
theorem E6 (a:Int) (ha:a=1\/a=2\/a=3) (D:Q1) (s:Q0) (l:List UInt64) (rest:Q1) (n:UInt64) (hD:D.length<=900000000000000) (Y:Inv a (H0 a) D s l rest n) :
  F.Lp a s l rest n=some (cT a D,a,s,l,rest,n):=by
 unfold F.Lp
 rw[pM a ha,ae]
 obtain⟨B,g⟩:∃B,Bk a=B:=⟨_,rfl⟩
 have I:B=64\/B=128:=by rw[<-g]; unfold Bk; split <;> simp
 have hn:=Y.2.2.2
 obtain⟨t,O⟩:∃t,D.length%B=t:=⟨_,rfl⟩
 have b8:t<B:=by rw[<-O]; exact Nat.mod_lt _ (by omega)
 have Z:(UInt64.ofInt ((B:Nat):Int)).toNat=B:=by rcases I with rfl | rfl <;> rfl
 have K:¬(UInt64.ofInt ((B:Nat):Int))=0:=by rcases I with rfl | rfl <;> decide
 have z:¬((B:Nat):Int)=0:=by omega
 have hN:n.toNat=D.length:=by rw[hn,UInt64.toNat_ofNat']; omega
 have R:(n%UInt64.ofInt ((B:Nat):Int)).toNat=t:=by rw[UInt64.toNat_mod,hN,Z,O]
 have hq:Int.tdiv ((B:Nat):Int) 8=((B / 8:Nat):Int):=by rcases I with rfl | rfl <;> rfl
 have w8:wI ((B / 8:Nat):Int)=((B / 8:Nat):Int):=aI (by omega) (by omega)
 have w9:wI (((B:Nat):Int) - ((B / 8:Nat):Int))=((B - B / 8:Nat):Int):=by rw[aI (by omega) (by omega)]; omega
 have wt:wI ((t:Nat):Int)=((t:Nat):Int):=aI (by omega) (by omega)
 have A:∀j:Nat,j<=zc B t->(Int.tmod (wI (wI ((n%UInt64.ofInt ((B:Nat):Int)).toNat:Int)+((([128]++List.replicate j 0:Q1)).length:Int))) ((B:Nat):Int) != wI (((B:Nat):Int) - wI (Int.tdiv ((B:Nat):Int) 8)))=decide (j≠zc B t):=by
  intro j hj
  have hz:zc B t<B:=Nat.mod_lt _ (by omega)
  rw[R,wt,hq,w8,w9]
  have hl:((([128]++List.replicate j 0:Q1)).length:Int)=((1+j:Nat):Int):=by simp; omega
  rw[hl,aI (by omega) (by omega),show ((t:Nat):Int)+((1+j:Nat):Int)=((t+(1+j):Nat):Int) by omega]
  have hm:Int.tmod ((t+(1+j):Nat):Int) ((B:Nat):Int)=(((t+(1+j))%B:Nat):Int):=rfl
  rw[hm]
  have M:(t+(1+j))%B=B - B / 8↔j=zc B t:=by
   unfold zc at hj hz ⊢
   rcases I with rfl | rfl <;> omega
  by_cases h:j=zc B t
  ·have:=M.2 h
   rw[this]; simp[h]
  ·have:¬(t+(1+j))%B=B - B / 8:=fun h'=>h (M.1 h')
   simp only[h,ne_eq,not_false_eq_true,decide_true,bne_iff_ne]
   omega
 have b9:zc B t<B:=Nat.mod_lt _ (by omega)
 have e1:=eL (f:=F.J5 n ((B:Nat):Int) a s l rest) (fun (_:Unit) i=>([128]++List.replicate i 0:Q1)) (fun _=>True) (fun _ _=>()) 0 (zc B t)
  (X:=fun _=>loop (F.HP a s l rest n) ([128]++List.replicate (zc B t) 0,((B / 8 - 1:Nat):Int)))
  (fun i _ _ hi _=>by
   refine⟨?_,trivial⟩
   unfold F.J5
   simp only
   rw[grd_true _ K,grd_true _ z,A i (by omega),if_pos (decide_eq_true (by omega)),rt (by simp; omega),ae]
   simp only[List.append_assoc,List.replicate_succ']
   rfl)
  (fun _ _=>by
   unfold F.J5
   simp only
   rw[grd_true _ K,grd_true _ z,A _ (Nat.le_refl _),if_neg (by simp),aV,hq,w8,aI (by omega) (by omega),show ((B / 8:Nat):Int) - 1=((B / 8 - 1:Nat):Int) by omega])
  (zc B t) 0 () (Nat.le_refl _) (by omega) trivial
 rw[g]
 refine e1.trans ?_
 have N:=EJ a ha s l rest n ([128]++List.replicate (zc B t) 0) (by simp; omega)
 rw[g]at N
 refine N.trans ?_
 have U:([128]++List.replicate (zc B t) 0)++(List.range' 0 (B / 8)).map (fun i=>fo n (B / 8 - 1 - i))=ja B D:=by
  unfold ja
  rw[O,hn]
 have hpl:=(zy a D).2
 rw[U]
 rw[g]at hpl
 obtain⟨J,l',r',n',hw,a1⟩:=uu a ha (H0 a) (tV a) (ja B D) D s l rest n (by omega) Y
 rw[hw,ae]
 have o:=a1.1
 rw[g]at o
 have k:=vh a (H0 a) (D++ja B D) ((D++ja B D).length / B) (tV a)
 rw[<-o]at k
 by_cases h1:a=1
 ·have V:(a == 1)=true:=by simpa using h1
  simp only[V,if_true]
  have e3:=cA (f:=F.I3 a s l rest n (a,J,l',r',n')) (fun (x:Q1) i=>(x,(i:Int))) (fun i x=>x.length=4*i) (fun x i=>x++q32 (J.getD i 0)) 0 8
   (X:=fun x=>some (x,a,s,l,rest,n))
   (fun i x _ hi hx=>by
    have G:decide ((i:Int)<8)=true:=decide_eq_true (by omega)
    refine⟨?_,by simp[hx,q32]; omega⟩
    simp only[F.I3,G,if_true]
    rw[aT (show i<J.length by have:=k.1; simp only at this; omega) 0,ae,rt (by simp; omega),ae,wI1 i (by omega)]
    rfl)
   (fun x _=>rfl) 8 0 [] (Nat.le_refl _) rfl rfl
  refine e3.trans ?_
  unfold cT nX
  rw[if_pos h1,g,<-o]
  rfl
 ·have V:(a == 1)=false:=by simpa using h1
  simp only[V,Bool.false_eq_true,if_false]
  have e5:=fun (i:Nat) (x:Q1) (v:UInt64) (hi:i<8) (hx:x.length=8*i)=>cA (f:=F.JT (i:Int) v) (fun (x:Q1) j=>(x,(56:Int) - 8*(j:Int))) (fun j y=>y.length=8*i+j) (fun y j=>y++[(aP v (56 - 8*j)).toUInt8]) 0 8
   (X:=fun y=>(some (.inl (y,((i+1:Nat):Int))):Option ((Q1×Int)⊕(Q1×Int×Q0×List UInt64×Q1×UInt64))))
   (fun j y _ hj hy=>by
    have G:decide ((0:Int)<=56 - 8*(j:Int))=true:=decide_eq_true (by omega)
    refine⟨?_,by simp[hy]; omega⟩
    simp only[F.JT,G,if_true]
    rw[grd_true _ (by omega),rt (by simp; omega),ae,show ((56:Int) - 8*(j:Int)).toNat=56 - 8*j by omega,aI (by omega) (by omega),show (56:Int) - 8*(j:Int) - 8=56 - 8*((j+1:Nat):Int) by omega]
    rfl)
   (fun y _=>by
    simp only[F.JT,show decide ((0:Int)<=56 - 8*((8:Nat):Int))=false from rfl,Bool.false_eq_true,if_false,wI1 i (by omega)]
    rfl) 8 0 x (Nat.le_refl _) rfl (by omega)
  have a2:F.GH a=some ((Sz a:Nat):Int)/\Sz a<=64:=by
   rcases ha with rfl | rfl | rfl
   ·exact absurd rfl h1
   ·exact⟨rfl,by decide⟩
   ·exact⟨rfl,by decide⟩
  have e4:=cA (f:=F.HT a s l rest n (a,J,l',r',n')) (fun (x:Q1) i=>(x,(i:Int))) (fun i x=>x.length=8*i) (fun x i=>x++q64 (l'.getD i 0)) 0 8
   (X:=fun x=>some (x.take (Sz a),a,s,l,rest,n))
   (fun i x _ hi hx=>by
    have G:decide ((i:Int)<8)=true:=decide_eq_true (by omega)
    refine⟨?_,by simp only[List.length_append,xj,hx]; omega⟩
    simp only[F.HT,G,if_true]
    rw[aT (show i<l'.length by have:=k.2; simp only at this; omega) 0,ae]
    refine (e5 i x _ hi hx).trans ?_
    have hf:=pS (fun j=>[(aP (l'.getD i 0) (56 - 8*j)).toUInt8]) 8 0 x
    simp only[hf]
    have:(List.range' 0 8).flatMap (fun j=>[(aP (l'.getD i 0) (56 - 8*j)).toUInt8])=q64 (l'.getD i 0):=rfl
    rw[this])
   (fun x hx=>by
    simp only[F.HT,show decide (((8:Nat):Int)<8)=false from rfl,Bool.false_eq_true,if_false]
    rw[a2.1,ae,ae,grd_true _ ⟨by omega,by rw[Int.toNat_natCast]; omega,rfl⟩,Int.toNat_natCast])
   8 0 [] (Nat.le_refl _) rfl rfl
  refine e4.trans ?_
  unfold cT nX
  rw[if_neg h1,g,<-o]
  rfl
theorem EY (a:Int) (ha:a=1\/a=2\/a=3):F.L5 a=some (some (a,(H0 a).1,(H0 a).2,List.replicate 128 0,0)):=by
 rcases ha with rfl | rfl | rfl <;> rfl
theorem Gf (a:Int):Inv a (H0 a) [] (H0 a).1 (H0 a).2 (List.replicate 128 0) 0:=by
 refine⟨?_,by simp,by simp,rfl⟩
 simp[jW]
theorem ge (a:Int) (ha:a=1\/a=2\/a=3) (f:List Q1) (hl:f.length<=1000) (J:f.flatten.length<=900000000000000):F.GK a f=some (cT a f.flatten):=by
 unfold F.GK
 rw[EY a ha,ae]
 show loop (F.H5 f) (0,a,(H0 a).1,(H0 a).2,List.replicate 128 0,0)=_
 have t:∀(r i:Nat) (s:Q0) (l:List UInt64) (rest:Q1) (n:UInt64),i+r=f.length->Inv a (H0 a) (f.take i).flatten s l rest n->loop (F.H5 f) ((i:Int),a,s,l,rest,n)=some (cT a f.flatten):=by
  intro r
  induction r with
  | zero=>
   intro i s l rest n hi k
   have o:decide ((i:Int)<(f.length:Int))=false:=decide_eq_false (by omega)
   have z:Inv a (H0 a) f.flatten s l rest n:=by rwa [List.take_of_length_le (by omega)]at k
   refine cK (r:=cT a f.flatten) ?_
   simp only[F.H5,o,Bool.false_eq_true,if_false]
   rw[E6 a ha _ s l rest n J z,ae]
   rfl
  | succ r ih=>
   intro i s l rest n hi k
   have o:decide ((i:Int)<(f.length:Int))=true:=decide_eq_true (by omega)
   have g:i<f.length:=by omega
   have h:(f.take (i+1)).flatten=(f.take i).flatten++f[i]:=by rw[List.take_succ_eq_append_getElem g,List.flatten_append]; simp
   have A:(f.take (i+1)).flatten.length<=f.flatten.length:=by
    have:f.flatten=(f.take (i+1)).flatten++(f.drop (i+1)).flatten:=by rw[<-List.flatten_append,List.take_append_drop]
    rw[this,List.length_append]; omega
   rw[h,List.length_append]at A
   obtain⟨B,l',G,I,K,j⟩:=uu a ha (H0 a) (tV a) f[i] _ s l rest n (by omega) k
   rw[<-h]at j
   have hs:F.H5 f ((i:Int),a,s,l,rest,n)=some (.inl (((i+1:Nat):Int),a,B,l',G,I)):=by
    simp only[F.H5,o,if_true]
    rw[fO g,ae,K,ae,wI1 i (by omega)]
    rfl
   rw[bB hs]
   exact ih (i+1) B l' G I (by omega) j
 exact t f.length 0 _ _ _ _ (by omega) (by simpa using Gf a)
end Go.Gk.Sh
end

section
namespace Go.Gk.Sh
open Go Go.Gk
def Fs (n:UInt64):Q1:=(List.range' 0 8).map (fun i=>fo n (7 - i))
end Go.Gk.Sh
end
