import Derived.Test.YtkickcbphbgldaaGreatDoorGkP0
set_option linter.unusedVariables false
set_option linter.unusedSimpArgs false
set_option linter.unusedSectionVars false

section
namespace Go.Gk.Sh
open Go Go.Gk
end Go.Gk.Sh
end

section
namespace Go.Gk.Sh
open Go Go.Gk
theorem xX (m:Nat) (h:m<18446744073709551616):(UInt64.ofInt (m:Int)).toNat=m:=by
 simp [UInt64.ofInt,UInt64.toNat_ofNat']
 omega
theorem il {b:List UInt8} {k n:Nat} (h:k<n):(b.take n).getD k 0=b.getD k 0:=by
 rw [List.getD_eq_getElem?_getD,List.getElem?_take,if_pos h,List.getD_eq_getElem?_getD]
theorem sr (h:List UInt32) (b:List UInt8):ki h (b.take 64)=ki h b:=by
 have:gZ (b.take 64)=gZ b:=by
  unfold gZ
  refine gm 64 0 _ fun k y _ hk=>?_
  unfold en
  split
  ·rename_i h16
   simp only [rc]
   rw [il (by omega),il (by omega),il (by omega),il (by omega)]
  ·rfl
 unfold ki
 rw [this]
theorem sw (h:List UInt64) (b:List UInt8):kg h (b.take 128)=kg h b:=by
 have:gS (b.take 128)=gS b:=by
  unfold gS
  refine gm 80 0 _ fun k y _ hk=>?_
  unfold d5
  split
  ·rename_i h16
   have:nD (b.take 128) k=nD b k:=gm 8 0 _ fun j x _ hj=>by
    simp only [sj]
    rw [il (by omega)]
   rw [this]
  ·rfl
 unfold kg
 rw [this]
abbrev HS:=List UInt32×List UInt64
def Bk (a:Int):Nat:=if a=1 then 64 else 128
def mix (a:Int) (H:HS) (b:List UInt8):HS:=if a=1 then (ki H.1 b,H.2) else (H.1,kg H.2 b)
theorem nh (a:Int) (H:HS) (b:List UInt8):mix a H (b.take (Bk a))=mix a H b:=by
 unfold mix Bk
 split
 ·rw [sr]
 ·rw [sw]
theorem yU (a:Int) (H:HS) (b:List UInt8) (h:H.1.length=8∧H.2.length=8):(mix a H b).1.length=8∧(mix a H b).2.length=8:=by
 unfold mix
 split
 ·exact ⟨xz _ _ h.1,h.2⟩
 ·exact ⟨h.1,uA _ _ h.2⟩
def iz (a:Int) (H:HS) (D:List UInt8) (k:Nat):HS:=(List.range' 0 k).foldl (fun H i=>mix a H (D.drop (Bk a*i))) H
theorem ri (a:Int) (H:HS) (D:List UInt8) (k:Nat) (h:H.1.length=8∧H.2.length=8):(iz a H D k).1.length=8∧(iz a H D k).2.length=8:=
 gU (fun H:HS=>H.1.length=8∧H.2.length=8) _ (fun i x hx=>yU a x _ hx) k 0 _ h
theorem wh (a:Int) (H:HS) (D:List UInt8) (k:Nat):iz a H D (k+1)=mix a (iz a H D k) (D.drop (Bk a*k)):=by
 unfold iz
 rw [List.range'_concat,List.foldl_append]
 simp
theorem qU (a:Int) (H:HS) (D E:List UInt8) (k:Nat) (h:Bk a*k≤D.length):iz a H (D++E) k=iz a H D k:=by
 unfold iz
 refine gm k 0 _ fun i x _ hi=>?_
 have hik:Bk a*(i+1)≤Bk a*k:=Nat.mul_le_mul_left _ (by omega)
 rw [Nat.mul_add,Nat.mul_one]at hik
 rw [←nh,←nh a x (D.drop _),List.drop_append_of_le_length (by omega),List.take_append_of_le_length (by simp; omega)]
def Inv (a:Int) (H0:HS) (D:List UInt8) (s:List UInt32) (l:List UInt64) (rest:List UInt8) (n:UInt64):Prop:=
 (s,l)=iz a H0 D (D.length / Bk a)∧rest.length=128∧rest.take (D.length%Bk a)=D.drop (Bk a*(D.length / Bk a))∧n=UInt64.ofNat D.length
theorem wS (a:Int) (s:List UInt32) (l:List UInt64) (rest:List UInt8) (n:UInt64) (hs:s.length=8) (hl:l.length=8) (hr:rest.length=128) :
  F.D6 a s l rest n=some (a,(mix a (s,l) rest).1,(mix a (s,l) rest).2,rest,n):=by
 unfold F.D6 mix
 by_cases h:a=1
 ·have e:(a == 1)=true:=by simpa using h
  rw [e,if_pos rfl,if_pos h,ug a s l rest n hs hr]; rfl
 ·have e:(a == 1)=false:=by simpa using h
  rw [e,if_neg (by simp),if_neg h,tW a l s rest n hl hr]; rfl
theorem ut (a:Int) (H0:HS) (h0:H0.1.length=8∧H0.2.length=8):∀(m:Nat) (b D:List UInt8) (s:List UInt32) (l:List UInt64) (rest:List UInt8) (n:UInt64),b.length=m→D.length+b.length≤1000000000000000→Inv a H0 D s l rest n →
  ∃s' l' rest' n',loop (F.DK ((Bk a:Nat):Int)) (b,a,s,l,rest,n)=some (a,s',l',rest',n')∧Inv a H0 (D++b) s' l' rest' n':=by
 intro m
 induction m using Nat.strongRecOn with
 | ind m ih=>
  intro b D s l rest n hm hD hI
  obtain ⟨hH,hr,ht,hn⟩:=hI
  have hlen:=ri a H0 D (D.length / Bk a) h0
  rw [←hH]at hlen
  have hB:Bk a=64∨Bk a=128:=by unfold Bk; split <;> simp
  by_cases hb:b=[]
  ·subst hb
   refine ⟨s,l,rest,n,dM rfl,?_⟩
   rw [List.append_nil]; exact ⟨hH,hr,ht,hn⟩
  ·have hb0:0<b.length:=List.length_pos_iff.2 hb
   -- numbers
   obtain ⟨B,hBe⟩:∃B,Bk a=B:=⟨_,rfl⟩
   rw [hBe]at hB ht hH
   have hat:D.length%B<B:=Nat.mod_lt _ (by omega)
   have hdm:=Nat.div_add_mod D.length B
   obtain ⟨q,hq⟩:∃q,D.length / B=q:=⟨_,rfl⟩
   obtain ⟨t,htt⟩:∃t,D.length%B=t:=⟨_,rfl⟩
   rw [hq,htt]at hdm
   rw [htt]at hat ht
   rw [hq]at ht hH
   have hnB:(UInt64.ofInt ((B:Nat):Int)).toNat=B:=by rcases hB with rfl | rfl <;> rfl
   have hne:¬(UInt64.ofInt ((B:Nat):Int))=0:=by rcases hB with rfl | rfl <;> decide
   have hN:n.toNat=D.length:=by rw [hn,UInt64.toNat_ofNat']; omega
   have hmod:(n%UInt64.ofInt ((B:Nat):Int)).toNat=t:=by rw [UInt64.toNat_mod,hN,hnB,htt]
   obtain ⟨k,hk⟩:∃k,min b.length (B - t)=k:=⟨_,rfl⟩
   have hk1:0<k∧k≤b.length∧k≤B - t:=by omega
   have hcp:cpL rest b t B=rest.take t++b.take k++rest.drop (t+k):=by
    unfold cpL
    rw [hk]
    congr 2
    by_cases h:b.length≤B - t
    ·rw [List.take_of_length_le h,List.take_of_length_le (by omega)]
    ·congr 1; omega
   have hcl:(cpL rest b t B).length=128:=by rw [et _ _ _ _ (by omega) (by omega),hr]
   have hDq:D.length=B*q+t:=hdm.symm
   have hdrop:(D++b.take k).drop (B*q)=rest.take t++b.take k:=by
    rw [List.drop_append_of_le_length (by omega),ht]
   have hctk:(cpL rest b t B).take (t+k)=rest.take t++b.take k:=by
    rw [hcp,List.take_left' (by simp; omega)]
   have hn':n+UInt64.ofInt ((k:Nat):Int)=UInt64.ofNat (D++b.take k).length:=by
    apply UInt64.toNat_inj.1
    rw [UInt64.toNat_add,hN,UInt64.toNat_ofNat',xX k (by omega)]
    simp; omega
   have hfin:∀s' l':_,Inv a H0 (D++b.take k) s' l' (cpL rest b t B) (n+UInt64.ofInt ((k:Nat):Int))→∃s2 l2 rest2 n2,loop (F.DK ((Bk a:Nat):Int)) (b.drop k,a,s',l',cpL rest b t B,n+UInt64.ofInt ((k:Nat):Int))=some (a,s2,l2,rest2,n2)∧Inv a H0 (D++b) s2 l2 rest2 n2:=by
    intro s' l' hI'
    obtain ⟨s2,l2,r2,n2,h1,h2⟩:=ih (b.drop k).length (by simp; omega) (b.drop k) (D++b.take k) s' l' _ _ rfl (by simp; omega) hI'
    refine ⟨s2,l2,r2,n2,h1,?_⟩
    rwa [List.append_assoc,List.take_append_drop]at h2
   rw [hBe]at hfin ⊢
   have c1:decide ((0:Int)<(b.length:Int))=true:=decide_eq_true (by omega)
   have w1:wI ((t:Nat):Int)=((t:Nat):Int):=aV (by omega) (by omega)
   have hstep:F.DK ((B:Nat):Int) (b,a,s,l,rest,n) =
     if (wI ((t:Int)+(k:Int)) == (B:Int))=true then (an (F.D6 a s l (cpL rest b t B) (n+UInt64.ofInt ((k:Nat):Int))) fun x=>bv (b.drop k,x.1,x.2.1,x.2.2.1,x.2.2.2.1,x.2.2.2.2))
     else bv (b.drop k,a,s,l,cpL rest b t B,n+UInt64.ofInt ((k:Nat):Int)):=by
    simp only [F.DK,c1,if_true,grd_true _ hne,a8,hmod,w1]
    rw [n8 (by omega) (by omega),ak]
    simp only [Int.toNat_natCast,hk]
    rw [si (by omega),ak]
   have w2:wI ((t:Int)+(k:Int))=((t+k:Nat):Int):=by rw [aV (by omega) (by omega)]; simp
   rw [w2]at hstep
   by_cases hfull:t+k=B
   ·have e:(((t+k:Nat):Int) == (B:Int))=true:=by simp [hfull]
    rw [e,if_pos rfl,wS a s l _ _ hlen.1 hlen.2 hcl,ak]at hstep
    obtain ⟨s2,l2,r2,n2,h1,h2⟩:=hfin (mix a (s,l) (cpL rest b t B)).1 (mix a (s,l) (cpL rest b t B)).2 (by
     have hN':(D++b.take k).length=B*(q+1):=by rw [List.length_append,List.length_take,Nat.min_eq_left hk1.2.1,Nat.mul_add]; omega
     have hd:(D++b.take k).length / B=q+1:=by rw [hN',Nat.mul_div_cancel_left _ (by omega)]
     have hm2:(D++b.take k).length%B=0:=by rw [hN',Nat.mul_mod_right]
     refine ⟨?_,hcl,?_,hn'⟩
     ·rw [hBe,hd,wh,qU a H0 D _ q (by rw [hBe]; omega),←hH,hBe,hdrop,←hctk,hfull,←hBe,nh]
     ·rw [hBe,hm2,hd,List.take_zero,List.drop_of_length_le (by rw [hN']; exact Nat.le_refl _)])
    exact ⟨s2,l2,r2,n2,(bI hstep).trans h1,h2⟩
   ·have e:(((t+k:Nat):Int) == (B:Int))=false:=by simp; omega
    rw [e,if_neg (by simp)]at hstep
    obtain ⟨s2,l2,r2,n2,h1,h2⟩:=hfin s l (by
     have hlt:t+k<B:=by omega
     have hN':(D++b.take k).length=t+k+B*q:=by rw [List.length_append,List.length_take,Nat.min_eq_left hk1.2.1]; omega
     have hd:(D++b.take k).length / B=q:=by rw [hN',Nat.add_mul_div_left _ _ (by omega),Nat.div_eq_of_lt hlt]; simp
     have hm2:(D++b.take k).length%B=t+k:=by rw [hN',Nat.add_mul_mod_self_left,Nat.mod_eq_of_lt hlt]
     refine ⟨?_,hcl,?_,hn'⟩
     ·rw [hBe,hd,qU a H0 D _ q (by rw [hBe]; omega),←hH]
     ·rw [hBe,hm2,hd,hctk,hdrop])
    exact ⟨s2,l2,r2,n2,(bI hstep).trans h1,h2⟩
theorem rH (a:Int) (h:a=1∨a=2∨a=3):F.FB a=some ((Bk a:Nat):Int):=by
 rcases h with rfl | rfl | rfl <;> rfl
theorem qK (a:Int) (ha:a=1∨a=2∨a=3) (H0:HS) (h0:H0.1.length=8∧H0.2.length=8) (b D:List UInt8) (s:List UInt32) (l:List UInt64) (rest:List UInt8) (n:UInt64) (hD:D.length+b.length≤1000000000000000) (hI:Inv a H0 D s l rest n) :
  ∃s' l' rest' n',F.CL a s l rest n b=some (a,s',l',rest',n')∧Inv a H0 (D++b) s' l' rest' n':=by
 unfold F.CL
 rw [rH a ha,ak]
 exact ut a H0 h0 _ b D s l rest n rfl hD hI
end Go.Gk.Sh
end

section
namespace Go.Gk.Sh
open Go Go.Gk
def zc (B r:Nat):Nat:=(2*B - B / 8 - (r+1))%B
def ip (n:UInt64) (i:Nat):UInt8:=if i<8 then (aX (br n 3) (8*i)).toUInt8 else if i=8 then (aX n 61).toUInt8 else 0
def gG (B:Nat) (D:List UInt8):List UInt8:=([128]++List.replicate (zc B (D.length%B)) 0)++(List.range' 0 (B / 8)).map (fun i=>ip (UInt64.ofNat D.length) (B / 8 - 1 - i))
def q32 (v:UInt32):List UInt8:=[(bC v 24).toUInt8,(bC v 16).toUInt8,(bC v 8).toUInt8,v.toUInt8]
def q64 (v:UInt64):List UInt8:=(List.range' 0 8).map (fun j=>(aX v (56 - 8*j)).toUInt8)
def yz (s:List UInt32):List UInt8:=(List.range' 0 8).foldl (fun x i=>x++q32 (s.getD i 0)) []
def uN (s:List UInt64):List UInt8:=(List.range' 0 8).foldl (fun x i=>x++q64 (s.getD i 0)) []
def Sz (a:Int):Nat:=if a=1 then 32 else if a=2 then 48 else 64
def og (a:Int) (H:HS):List UInt8:=if a=1 then yz H.1 else (uN H.2).take (Sz a)
def H0 (a:Int):HS:=if a=1 then (F.Gi,List.replicate 8 0) else if a=2 then (List.replicate 8 0,F.Gj) else (List.replicate 8 0,F.Gh)
theorem rJ (a:Int):(H0 a).1.length=8∧(H0 a).2.length=8:=by
 unfold H0
 split
 ·exact ⟨rfl,rfl⟩
 ·split <;> exact ⟨rfl,rfl⟩
def fM (a:Int) (D:List UInt8):List UInt8:=og a (iz a (H0 a) (D++gG (Bk a) D) ((D++gG (Bk a) D).length / Bk a))
theorem mY {β:Type} (f:Nat→List β):∀(r i:Nat) (x:List β),(List.range' i r).foldl (fun x i=>x++f i) x=x++(List.range' i r).flatMap f
 | 0,i,x=>by simp
 | r+1,i,x=>by
  rw [List.range'_succ,List.foldl_cons,mY f r (i+1),List.flatMap_cons,List.append_assoc]
theorem tj (v:UInt64):(q64 v).length=8:=by simp [q64]
theorem vb (s:List UInt64):(uN s).length=64:=by
 unfold uN
 have:=cK (fun i (x:List UInt8)=>x.length=8*i) (fun x i=>x++q64 (s.getD i 0)) (fun i x hx=>by simp only [List.length_append,tj,hx]; omega) 8 0 [] rfl
 simpa using this
theorem xp (B:Nat) (D:List UInt8):(gG B D).length=1+zc B (D.length%B)+B / 8:=by simp [gG]; omega
theorem vj (a:Int) (D:List UInt8):(D++gG (Bk a) D).length%Bk a=0∧(gG (Bk a) D).length≤300:=by
 rw [List.length_append,xp]
 have hB:Bk a=64∨Bk a=128:=by unfold Bk; split <;> simp
 have hr:=Nat.mod_lt D.length (show 0<Bk a by omega)
 have hd:=Nat.div_add_mod D.length (Bk a)
 rcases hB with h | h <;> rw [h]at hr hd ⊢ <;> unfold zc <;> omega
theorem z8 (a:Int) (ha:a=1∨a=2∨a=3) (s:List UInt32) (l:List UInt64) (rest:List UInt8) (n:UInt64) (x:List UInt8) (hx:x.length≤1000) :
  loop (F.CD a s l rest n) (x,(((Bk a / 8 - 1:Nat)):Int))=(an (F.CL a s l rest n (x++(List.range' 0 (Bk a / 8)).map (fun i=>ip n (Bk a / 8 - 1 - i)))) fun x_39=>
   if (x_39.1 == 1)=true then loop (F.DF a s l rest n x_39) ([],0) else loop (F.Cu a s l rest n x_39) ([],0)):=by
 have hF:Bk a / 8=8∨Bk a / 8=16:=by unfold Bk; split <;> simp
 obtain ⟨F_,hFe⟩:∃q,Bk a / 8=q:=⟨_,rfl⟩
 rw [hFe]at hF ⊢
 have:=cu (f:=F.CD a s l rest n) (fun (y:List UInt8) i=>(y,(F_:Int) - 1 - (i:Int))) (fun i y=>y.length=x.length+i) (fun y i=>y++[ip n (F_ - 1 - i)]) 0 F_
  (X:=fun y=>(an (F.CL a s l rest n y) fun x_39=>if (x_39.1 == 1)=true then loop (F.DF a s l rest n x_39) ([],0) else loop (F.Cu a s l rest n x_39) ([],0)))
  (fun i y _ hi hy=>by
   have c1:decide ((0:Int)≤((F_ - 1 - i:Nat):Int))=true:=decide_eq_true (by omega)
   have e1:(F_:Int) - 1 - (i:Int)=((F_ - 1 - i:Nat):Int):=by omega
   have ap:∀c:UInt8,F.Dt y ((F_ - 1 - i:Nat):Int) c=some (.inl (y++[c],(F_:Int) - 1 - ((i+1:Nat):Int))):=fun c=>by
    simp only [F.Dt]
    rw [lO (by simp; omega),ak,aV (by omega) (by omega),show ((F_ - 1 - i:Nat):Int) - 1=(F_:Int) - 1 - ((i+1:Nat):Int) by omega]
    rfl
   refine ⟨?_,by simp [hy]; omega⟩
   simp only [F.CD,e1,c1,if_true]
   by_cases h8:F_ - 1 - i<8
   ·have c2:decide (((F_ - 1 - i:Nat):Int)<8)=true:=decide_eq_true (by omega)
    have m8:wI (8*((F_ - 1 - i:Nat):Int))=((8*(F_ - 1 - i):Nat):Int):=by rw [aV (by omega) (by omega)]; omega
    simp only [c2,if_true,m8]
    rw [grd_true _ (by omega),a8,Int.toNat_natCast,ap]
    simp only [ip,h8,if_true]
   ·have c2:decide (((F_ - 1 - i:Nat):Int)<8)=false:=decide_eq_false (by omega)
    simp only [c2,Bool.false_eq_true,if_false]
    by_cases h9:F_ - 1 - i=8
    ·have c3:(((F_ - 1 - i:Nat):Int) == 8)=true:=by rw [h9]; rfl
     have hb:ip n (F_ - 1 - i)=(aX n 61).toUInt8:=by unfold ip; rw [if_neg h8,if_pos h9]
     simp only [c3,if_true,ap,hb]
    ·have c3:(((F_ - 1 - i:Nat):Int) == 8)=false:=by simp; omega
     have hb:ip n (F_ - 1 - i)=0:=by unfold ip; rw [if_neg h8,if_neg h9]
     simp only [c3,Bool.false_eq_true,if_false,ap,hb])
  (fun y hy=>by
   have c1:decide ((0:Int)≤(F_:Int) - 1 - ((F_:Nat):Int))=false:=decide_eq_false (by omega)
   simp only [F.CD,c1,Bool.false_eq_true,if_false])
  F_ 0 x (Nat.le_refl _) (by omega) rfl
 have e:(F_:Int) - 1 - ((0:Nat):Int)=((F_ - 1:Nat):Int):=by omega
 rw [e]at this
 refine this.trans ?_
 have hf:=mY (fun i=>[ip n (F_ - 1 - i)]) F_ 0 x
 simp only [hf]
 have hm:∀r:List Nat,r.flatMap (fun i=>[ip n (F_ - 1 - i)])=r.map (fun i=>ip n (F_ - 1 - i)):=fun r=>by
  induction r with
  | nil=>rfl
  | cons p r ih=>rw [List.flatMap_cons,ih]; rfl
 rw [hm]
theorem zW (a:Int) (ha:a=1∨a=2∨a=3) (D:List UInt8) (s:List UInt32) (l:List UInt64) (rest:List UInt8) (n:UInt64) (hD:D.length≤900000000000000) (hI:Inv a (H0 a) D s l rest n) :
  F.Fa a s l rest n=some (fM a D,a,s,l,rest,n):=by
 unfold F.Fa
 rw [rH a ha,ak]
 obtain ⟨B,hBe⟩:∃B,Bk a=B:=⟨_,rfl⟩
 have hB:B=64∨B=128:=by rw [←hBe]; unfold Bk; split <;> simp
 have hn:=hI.2.2.2
 obtain ⟨t,ht⟩:∃t,D.length%B=t:=⟨_,rfl⟩
 have htB:t<B:=by rw [←ht]; exact Nat.mod_lt _ (by omega)
 have hnB:(UInt64.ofInt ((B:Nat):Int)).toNat=B:=by rcases hB with rfl | rfl <;> rfl
 have hne:¬(UInt64.ofInt ((B:Nat):Int))=0:=by rcases hB with rfl | rfl <;> decide
 have hne2:¬((B:Nat):Int)=0:=by omega
 have hN:n.toNat=D.length:=by rw [hn,UInt64.toNat_ofNat']; omega
 have hmod:(n%UInt64.ofInt ((B:Nat):Int)).toNat=t:=by rw [UInt64.toNat_mod,hN,hnB,ht]
 have hq:Int.tdiv ((B:Nat):Int) 8=((B / 8:Nat):Int):=by rcases hB with rfl | rfl <;> rfl
 have w8:wI ((B / 8:Nat):Int)=((B / 8:Nat):Int):=aV (by omega) (by omega)
 have w9:wI (((B:Nat):Int) - ((B / 8:Nat):Int))=((B - B / 8:Nat):Int):=by rw [aV (by omega) (by omega)]; omega
 have wt:wI ((t:Nat):Int)=((t:Nat):Int):=aV (by omega) (by omega)
 have cond:∀j:Nat,j≤zc B t→(Int.tmod (wI (wI ((n%UInt64.ofInt ((B:Nat):Int)).toNat:Int)+((([128]++List.replicate j 0:List UInt8)).length:Int))) ((B:Nat):Int) != wI (((B:Nat):Int) - wI (Int.tdiv ((B:Nat):Int) 8)))=decide (j≠zc B t):=by
  intro j hj
  have hz:zc B t<B:=Nat.mod_lt _ (by omega)
  rw [hmod,wt,hq,w8,w9]
  have hl:((([128]++List.replicate j 0:List UInt8)).length:Int)=((1+j:Nat):Int):=by simp; omega
  rw [hl,aV (by omega) (by omega),show ((t:Nat):Int)+((1+j:Nat):Int)=((t+(1+j):Nat):Int) by omega]
  have hm:Int.tmod ((t+(1+j):Nat):Int) ((B:Nat):Int)=(((t+(1+j))%B:Nat):Int):=rfl
  rw [hm]
  have key:(t+(1+j))%B=B - B / 8↔j=zc B t:=by
   unfold zc at hj hz ⊢
   rcases hB with rfl | rfl <;> omega
  by_cases h:j=zc B t
  ·have:=key.2 h
   rw [this]; simp [h]
  ·have:¬(t+(1+j))%B=B - B / 8:=fun h'=>h (key.1 h')
   simp only [h,ne_eq,not_false_eq_true,decide_true,bne_iff_ne]
   omega
 have hzB:zc B t<B:=Nat.mod_lt _ (by omega)
 have e1:=dT (f:=F.EF n ((B:Nat):Int) a s l rest) (fun (_:Unit) i=>([128]++List.replicate i 0:List UInt8)) (fun _=>True) (fun _ _=>()) 0 (zc B t)
  (X:=fun _=>loop (F.CD a s l rest n) ([128]++List.replicate (zc B t) 0,((B / 8 - 1:Nat):Int)))
  (fun i _ _ hi _=>by
   refine ⟨?_,trivial⟩
   unfold F.EF
   simp only
   rw [grd_true _ hne,grd_true _ hne2,cond i (by omega),if_pos (decide_eq_true (by omega)),lO (by simp; omega),ak]
   simp only [List.append_assoc,List.replicate_succ']
   rfl)
  (fun _ _=>by
   unfold F.EF
   simp only
   rw [grd_true _ hne,grd_true _ hne2,cond _ (Nat.le_refl _),if_neg (by simp),a8,hq,w8,aV (by omega) (by omega),show ((B / 8:Nat):Int) - 1=((B / 8 - 1:Nat):Int) by omega])
  (zc B t) 0 () (Nat.le_refl _) (by omega) trivial
 rw [hBe]
 refine e1.trans ?_
 have hl2:=z8 a ha s l rest n ([128]++List.replicate (zc B t) 0) (by simp; omega)
 rw [hBe]at hl2
 refine hl2.trans ?_
 have hpad:([128]++List.replicate (zc B t) 0)++(List.range' 0 (B / 8)).map (fun i=>ip n (B / 8 - 1 - i))=gG B D:=by
  unfold gG
  rw [ht,hn]
 have hpl:=(vj a D).2
 rw [hpad]
 rw [hBe]at hpl
 obtain ⟨s',l',r',n',hw,hI'⟩:=qK a ha (H0 a) (rJ a) (gG B D) D s l rest n (by omega) hI
 rw [hw,ak]
 have hHs:=hI'.1
 rw [hBe]at hHs
 have hlen:=ri a (H0 a) (D++gG B D) ((D++gG B D).length / B) (rJ a)
 rw [←hHs]at hlen
 by_cases h1:a=1
 ·have c1:(a == 1)=true:=by simpa using h1
  simp only [c1,if_true]
  have e3:=cu (f:=F.DF a s l rest n (a,s',l',r',n')) (fun (x:List UInt8) i=>(x,(i:Int))) (fun i x=>x.length=4*i) (fun x i=>x++q32 (s'.getD i 0)) 0 8
   (X:=fun x=>some (x,a,s,l,rest,n))
   (fun i x _ hi hx=>by
    have c2:decide ((i:Int)<8)=true:=decide_eq_true (by omega)
    refine ⟨?_,by simp [hx,q32]; omega⟩
    simp only [F.DF,c2,if_true]
    rw [a7 (show i<s'.length by have:=hlen.1; simp only at this; omega) 0,ak,lO (by simp; omega),ak,wI1 i (by omega)]
    rfl)
   (fun x _=>rfl) 8 0 [] (Nat.le_refl _) rfl rfl
  refine e3.trans ?_
  unfold fM og
  rw [if_pos h1,hBe,←hHs]
  rfl
 ·have c1:(a == 1)=false:=by simpa using h1
  simp only [c1,Bool.false_eq_true,if_false]
  have e5:=fun (i:Nat) (x:List UInt8) (v:UInt64) (hi:i<8) (hx:x.length=8*i)=>cu (f:=F.DQ (i:Int) v) (fun (x:List UInt8) j=>(x,(56:Int) - 8*(j:Int))) (fun j y=>y.length=8*i+j) (fun y j=>y++[(aX v (56 - 8*j)).toUInt8]) 0 8
   (X:=fun y=>(some (.inl (y,((i+1:Nat):Int))):Option ((List UInt8×Int)⊕(List UInt8×Int×List UInt32×List UInt64×List UInt8×UInt64))))
   (fun j y _ hj hy=>by
    have c2:decide ((0:Int)≤56 - 8*(j:Int))=true:=decide_eq_true (by omega)
    refine ⟨?_,by simp [hy]; omega⟩
    simp only [F.DQ,c2,if_true]
    rw [grd_true _ (by omega),lO (by simp; omega),ak,show ((56:Int) - 8*(j:Int)).toNat=56 - 8*j by omega,aV (by omega) (by omega),show (56:Int) - 8*(j:Int) - 8=56 - 8*((j+1:Nat):Int) by omega]
    rfl)
   (fun y _=>by
    simp only [F.DQ,show decide ((0:Int)≤56 - 8*((8:Nat):Int))=false from rfl,Bool.false_eq_true,if_false,wI1 i (by omega)]
    rfl) 8 0 x (Nat.le_refl _) rfl (by omega)
  have hSz:F.B4 a=some ((Sz a:Nat):Int)∧Sz a≤64:=by
   rcases ha with rfl | rfl | rfl
   ·exact absurd rfl h1
   ·exact ⟨rfl,by decide⟩
   ·exact ⟨rfl,by decide⟩
  have e4:=cu (f:=F.Cu a s l rest n (a,s',l',r',n')) (fun (x:List UInt8) i=>(x,(i:Int))) (fun i x=>x.length=8*i) (fun x i=>x++q64 (l'.getD i 0)) 0 8
   (X:=fun x=>some (x.take (Sz a),a,s,l,rest,n))
   (fun i x _ hi hx=>by
    have c2:decide ((i:Int)<8)=true:=decide_eq_true (by omega)
    refine ⟨?_,by simp only [List.length_append,tj,hx]; omega⟩
    simp only [F.Cu,c2,if_true]
    rw [a7 (show i<l'.length by have:=hlen.2; simp only at this; omega) 0,ak]
    refine (e5 i x _ hi hx).trans ?_
    have hf:=mY (fun j=>[(aX (l'.getD i 0) (56 - 8*j)).toUInt8]) 8 0 x
    simp only [hf]
    have:(List.range' 0 8).flatMap (fun j=>[(aX (l'.getD i 0) (56 - 8*j)).toUInt8])=q64 (l'.getD i 0):=rfl
    rw [this])
   (fun x hx=>by
    simp only [F.Cu,show decide (((8:Nat):Int)<8)=false from rfl,Bool.false_eq_true,if_false]
    rw [hSz.1,ak,ak,grd_true _ ⟨by omega,by rw [Int.toNat_natCast]; omega,rfl⟩,Int.toNat_natCast])
   8 0 [] (Nat.le_refl _) rfl rfl
  refine e4.trans ?_
  unfold fM og
  rw [if_neg h1,hBe,←hHs]
  rfl
theorem As (a:Int) (ha:a=1∨a=2∨a=3):F.FO a=some (some (a,(H0 a).1,(H0 a).2,List.replicate 128 0,0)):=by
 rcases ha with rfl | rfl | rfl <;> rfl
theorem BJ (a:Int):Inv a (H0 a) [] (H0 a).1 (H0 a).2 (List.replicate 128 0) 0:=by
 refine ⟨?_,by simp,by simp,rfl⟩
 simp [iz]
theorem uH (a:Int) (ha:a=1∨a=2∨a=3) (ps:List (List UInt8)) (hl:ps.length≤1000) (hD:ps.flatten.length≤900000000000000):F.DY a ps=some (fM a ps.flatten):=by
 unfold F.DY
 rw [As a ha,ak]
 show loop (F.Cz ps) (0,a,(H0 a).1,(H0 a).2,List.replicate 128 0,0)=_
 have key:∀(r i:Nat) (s:List UInt32) (l:List UInt64) (rest:List UInt8) (n:UInt64),i+r=ps.length→Inv a (H0 a) (ps.take i).flatten s l rest n→loop (F.Cz ps) ((i:Int),a,s,l,rest,n)=some (fM a ps.flatten):=by
  intro r
  induction r with
  | zero=>
   intro i s l rest n hi hI
   have hd:decide ((i:Int)<(ps.length:Int))=false:=decide_eq_false (by omega)
   have hI2:Inv a (H0 a) ps.flatten s l rest n:=by rwa [List.take_of_length_le (by omega)]at hI
   refine dM (r:=fM a ps.flatten) ?_
   simp only [F.Cz,hd,Bool.false_eq_true,if_false]
   rw [zW a ha _ s l rest n hD hI2,ak]
   rfl
  | succ r ih=>
   intro i s l rest n hi hI
   have hd:decide ((i:Int)<(ps.length:Int))=true:=decide_eq_true (by omega)
   have hlt:i<ps.length:=by omega
   have hfl:(ps.take (i+1)).flatten=(ps.take i).flatten++ps[i]:=by rw [List.take_succ_eq_append_getElem hlt,List.flatten_append]; simp
   have hle:(ps.take (i+1)).flatten.length≤ps.flatten.length:=by
    have:ps.flatten=(ps.take (i+1)).flatten++(ps.drop (i+1)).flatten:=by rw [←List.flatten_append,List.take_append_drop]
    rw [this,List.length_append]; omega
   rw [hfl,List.length_append]at hle
   obtain ⟨s',l',r',n',hw,hI'⟩:=qK a ha (H0 a) (rJ a) ps[i] _ s l rest n (by omega) hI
   rw [←hfl]at hI'
   have hs:F.Cz ps ((i:Int),a,s,l,rest,n)=some (.inl (((i+1:Nat):Int),a,s',l',r',n')):=by
    simp only [F.Cz,hd,if_true]
    rw [fC hlt,ak,hw,ak,wI1 i (by omega)]
    rfl
   rw [bI hs]
   exact ih (i+1) s' l' r' n' (by omega) hI'
 exact key ps.length 0 _ _ _ _ (by omega) (by simpa using BJ a)
end Go.Gk.Sh
end
