import Derived.Test.YtahgjafdhjbkeaaGreatDoorGkP0
set_option linter.unusedVariables false
set_option linter.unusedSimpArgs false
set_option linter.unusedSectionVars false

section
namespace Go.Gk.Sh
open Go Go.Gk
theorem xv {v:V8 UInt64}:aA (toL v) (0:Int)=some v.1∧aA (toL v) (1:Int)=some v.2.1∧aA (toL v) (2:Int)=some v.2.2.1∧aA (toL v) (3:Int)=some v.2.2.2.1 ∧
  aA (toL v) (4:Int)=some v.2.2.2.2.1∧aA (toL v) (5:Int)=some v.2.2.2.2.2.1∧aA (toL v) (6:Int)=some v.2.2.2.2.2.2.1∧aA (toL v) (7:Int)=some v.2.2.2.2.2.2.2:=⟨rfl,rfl,rfl,rfl,rfl,rfl,rfl,rfl⟩
theorem xX {h:List UInt64} (j:h.length=8):toL (ofL 0 h)=h:=by
 match h,j with
 | [a,b,c,d,e,f,g,i],_=>rfl
theorem rn (all:List UInt8) (o:Nat) (h:List UInt64) (t:h.length=8) (hl:o+128≤all.length) (hb:all.length≤1000000000000000) :
  loop (F.Ft h all (o:Int)) (0,List.replicate 80 0)=some (.inl (((o+128:Nat):Int),eQ h (all.drop o))):=by
 have K:=bY (f:=F.Ft h all (o:Int)) (fun w i=>((i:Int),w)) iy (ei (all.drop o)) 0 80
  (X:=fun w=>loop (F.GP h w (o:Int)) (0,h))
  (fun i w _ hi y=>by
   have q:decide ((i:Int)<80)=true:=decide_eq_true (by omega)
   have a2:=y.1
   refine ⟨?_,kq _ i w y⟩
   by_cases h16:i<16
   ·have B:decide ((i:Int)<16)=true:=decide_eq_true (by omega)
    have M:wI ((o:Int)+wI (8*(i:Int)))=((o+8*i:Nat):Int):=by rw [aJ (show -9223372036854775808≤8*(i:Int) by omega) (by omega),aJ (by omega) (by omega)]; omega
    have G:=c6 (f:=F.FI all (o:Int) (i:Int)) (fun x j=>((j:Int),w.set i x)) (fun _=>True) (pD (all.drop o) i) 0 8
     (X:=fun x=>(some (.inl (((i+1:Nat):Int),w.set i x)):Option ((Int×List UInt64)⊕((Int×List UInt64)⊕(List UInt8)))))
     (fun j x _ hj _=>by
      have q:decide ((j:Int)<8)=true:=decide_eq_true (by omega)
      have g:aA all (wI (((o+8*i:Nat):Int)+(j:Int)))=some ((all.drop o).getD (8*i+j) 0):=by
       rw [aJ (by omega) (by omega),show (((o+8*i:Nat):Int)+(j:Int))=((o+8*i+j:Nat):Int) by omega,aO (by omega) 0,List.getD_eq_getElem?_getD,List.getD_eq_getElem?_getD,List.getElem?_drop,Nat.add_assoc]
      refine ⟨?_,trivial⟩
      simp only [F.FI,q,if_true,M]
      rw [oz (by omega),ae,g,ae,ae,aS,wI1 j (by omega),Int.toNat_natCast,List.set_set]
      rfl)
     (fun x _=>by
      simp only [F.FI,show decide (((8:Nat):Int)<8)=false from rfl,Bool.false_eq_true,if_false,F.F9,wI1 i (by omega)]
      rfl)
     8 0 0 (Nat.le_refl _) rfl trivial
    have N:w.set i 0=w:=by
     have:=z9 (w:=w) (i:=i) (by omega)
     rwa [y.2 i (Nat.le_refl _)]at this
    rw [N]at G
    simp only [F.Ft,q,B,if_true]
    refine G.trans ?_
    simp only [ei,h16,if_true,nq]
   ·have B:decide ((i:Int)<16)=false:=decide_eq_false (by omega)
    have m:∀k:Nat,k≤16→aA w (wI ((i:Int) - (k:Int)))=some (w.getD (i - k) 0):=fun k hk=>by
     rw [wIs i k (by omega) (by omega),aO (by omega) 0]
    have I:=m 15 (by omega); have O:=m 2 (by omega); have J:=m 16 (by omega); have R:=m 7 (by omega)
    simp only [F.Ft,q,B,if_true,Bool.false_eq_true,if_false]
    rw [show aA w (wI ((i:Int) - 15))=_ from I,ae,show aA w (wI ((i:Int) - 2))=_ from O,ae,show aA w (wI ((i:Int) - 16))=_ from J,ae,
     show F.C5 (w.getD (i - 15) 0) 1=_ from gE _ 1 (by omega),ae,show F.C5 (w.getD (i - 15) 0) 8=_ from gE _ 8 (by omega),ae,
     show aA w (wI ((i:Int) - 7))=_ from R,ae,
     show F.C5 (w.getD (i - 2) 0) 19=_ from gE _ 19 (by omega),ae,show F.C5 (w.getD (i - 2) 0) 61=_ from gE _ 61 (by omega),ae,
     gY (show i<w.length by omega),ae,aS,Int.toNat_natCast]
    simp only [F.F9,wI1 i (by omega),ei,h16,if_false,wv]
    have e:∀a b c d:UInt64,((a+b)+c)+d=((a+c)+b)+d:=fun a b c d=>by rw [UInt64.add_assoc a b c,UInt64.add_comm b c,←UInt64.add_assoc]
    rw [e]
    rfl)
  (fun w y=>rfl) 80 0 (List.replicate 80 0) (Nat.le_refl _) rfl nJ
 have U:=fun (z:List UInt64) (y:z.length=80)=>c6 (f:=F.GP h z (o:Int)) (fun (v:V8 UInt64) i=>((i:Int),toL v)) (fun _=>True) (wi z) 0 80
  (X:=fun v=>loop (F.FD (o:Int) (toL v)) (0,h))
  (fun i v _ hi _=>by
   have q:decide ((i:Int)<80)=true:=decide_eq_true (by omega)
   obtain ⟨V,Y,Z,t3,t4,t5,t6,t7⟩:=xv (v:=v)
   refine ⟨?_,trivial⟩
   simp only [F.GP,q,if_true]
   rw [V,ae,t4,ae,t7,ae,show F.C5 v.2.2.2.2.1 14=_ from gE _ 14 (by omega),ae,show F.C5 v.2.2.2.2.1 18=_ from gE _ 18 (by omega),ae,show F.C5 v.2.2.2.2.1 41=_ from gE _ 41 (by omega),ae,
    t5,ae,t6,ae,aO (show i<F.Dr.length from hi) 0,ae,aO (show i<z.length by omega) 0,ae,aS,
    show F.C5 v.1 28=_ from gE _ 28 (by omega),ae,show F.C5 v.1 34=_ from gE _ 34 (by omega),ae,show F.C5 v.1 39=_ from gE _ 39 (by omega),ae,
    Y,ae,Z,ae,ae,ae,aS,ae,ae,t3,ae,ae,ae,wI1 i (by omega)]
   rfl)
  (fun v _=>rfl) 80 0 (ofL 0 h) (Nat.le_refl _) rfl trivial
 have e4:=fun (v:V8 UInt64)=>c6 (f:=F.FD (o:Int) (toL v)) (fun h i=>((i:Int),h)) (fun h=>h.length=8) (mH (toL v)) 0 8
  (X:=fun h=>some (.inl (((o+128:Nat):Int),h)))
  (fun i h _ hi t=>by
   have q:decide ((i:Int)<8)=true:=decide_eq_true (by omega)
   refine ⟨?_,mc _ i h t⟩
   simp only [F.FD,q,if_true]
   rw [aO (show i<h.length by omega) 0,ae,aO (l:=toL v) (show i<8 from hi) 0,ae,ae,aS,wI1 i (by omega),Int.toNat_natCast]
   rfl)
  (fun h t=>by
   simp only [F.FD,show decide (((8:Nat):Int)<8)=false from rfl,Bool.false_eq_true,if_false]
   rw [aJ (by omega) (by omega)]
   rfl) 8 0 h (Nat.le_refl _) rfl t
 refine K.trans ?_
 have A:=U (gW (all.drop o)) (qN _).1
 rw [xX t]at A
 refine A.trans ?_
 exact e4 _
end Go.Gk.Sh
end

section
namespace Go.Gk.Sh
open Go Go.Gk
theorem ma (m:Nat) (h:m<18446744073709551616):(UInt64.ofInt (m:Int)).toNat=m:=by
 simp [UInt64.ofInt,UInt64.toNat_ofNat']
 omega
theorem jc {b:List UInt8} {k n:Nat} (h:k<n):(b.take n).getD k 0=b.getD k 0:=by
 rw [List.getD_eq_getElem?_getD,List.getElem?_take,if_pos h,List.getD_eq_getElem?_getD]
theorem tO (h:List UInt32) (b:List UInt8):gz h (b.take 64)=gz h b:=by
 have:ig (b.take 64)=ig b:=by
  unfold ig
  refine iq 64 0 _ fun k y _ g=>?_
  unfold et
  split
  ·rename_i f
   simp only [pN]
   rw [jc (by omega),jc (by omega),jc (by omega),jc (by omega)]
  ·rfl
 unfold gz
 rw [this]
theorem tY (h:List UInt64) (b:List UInt8):eQ h (b.take 128)=eQ h b:=by
 have:gW (b.take 128)=gW b:=by
  unfold gW
  refine iq 80 0 _ fun k y _ g=>?_
  unfold ei
  split
  ·rename_i f
   have:nq (b.take 128) k=nq b k:=iq 8 0 _ fun j x _ i=>by
    simp only [pD]
    rw [jc (by omega)]
   rw [this]
  ·rfl
 unfold eQ
 rw [this]
abbrev HS:=List UInt32×List UInt64
def Bk (a:Int):Nat:=if a=1 then 64 else 128
def mix (a:Int) (H:HS) (b:List UInt8):HS:=if a=1 then (gz H.1 b,H.2) else (H.1,eQ H.2 b)
theorem oC (a:Int) (H:HS) (b:List UInt8):mix a H (b.take (Bk a))=mix a H b:=by
 unfold mix Bk
 split
 ·rw [tO]
 ·rw [tY]
theorem AO (a:Int) (H:HS) (b:List UInt8) (h:H.1.length=8∧H.2.length=8):(mix a H b).1.length=8∧(mix a H b).2.length=8:=by
 unfold mix
 split
 ·exact ⟨sD _ _ h.1,h.2⟩
 ·exact ⟨h.1,lR _ _ h.2⟩
def gf (a:Int) (H:HS) (D:List UInt8) (k:Nat):HS:=(List.range' 0 k).foldl (fun H i=>mix a H (D.drop (Bk a*i))) H
theorem oP (a:Int) (H:HS) (D:List UInt8) (k:Nat) (h:H.1.length=8∧H.2.length=8):(gf a H D k).1.length=8∧(gf a H D k).2.length=8:=
 gV (fun H:HS=>H.1.length=8∧H.2.length=8) _ (fun i x f=>AO a x _ f) k 0 _ h
theorem xM (a:Int) (H:HS) (D:List UInt8) (k:Nat):gf a H D (k+1)=mix a (gf a H D k) (D.drop (Bk a*k)):=by
 unfold gf
 rw [List.range'_concat,List.foldl_append]
 simp
theorem rV (a:Int) (H:HS) (D E:List UInt8) (k:Nat) (h:Bk a*k≤D.length):gf a H (D++E) k=gf a H D k:=by
 unfold gf
 refine iq k 0 _ fun i x _ hi=>?_
 have f:Bk a*(i+1)≤Bk a*k:=Nat.mul_le_mul_left _ (by omega)
 rw [Nat.mul_add,Nat.mul_one]at f
 rw [←oC,←oC a x (D.drop _),List.drop_append_of_le_length (by omega),List.take_append_of_le_length (by simp; omega)]
def Inv (a:Int) (H0:HS) (D:List UInt8) (s:List UInt32) (l:List UInt64) (rest:List UInt8) (n:UInt64):Prop:=
 (s,l)=gf a H0 D (D.length / Bk a)∧rest.length=128∧rest.take (D.length%Bk a)=D.drop (Bk a*(D.length / Bk a))∧n=UInt64.ofNat D.length
theorem zy (a:Int) (s:List UInt32) (l:List UInt64) (rest:List UInt8) (n:UInt64) (g:s.length=8) (i:l.length=8) (f:rest.length=128) :
  F.FU a s l rest n=some (a,(mix a (s,l) rest).1,(mix a (s,l) rest).2,rest,n):=by
 unfold F.FU mix
 by_cases h:a=1
 ·have e:(a == 1)=true:=by simpa using h
  rw [e,if_pos rfl,if_pos h,vN a s l rest n g f]; rfl
 ·have e:(a == 1)=false:=by simpa using h
  rw [e,if_neg (by simp),if_neg h,vh a l s rest n i f]; rfl
theorem we (a:Int) (H0:HS) (h0:H0.1.length=8∧H0.2.length=8):∀(m:Nat) (b D:List UInt8) (s:List UInt32) (l:List UInt64) (rest:List UInt8) (n:UInt64),b.length=m→D.length+b.length≤1000000000000000→Inv a H0 D s l rest n →
  ∃s' z I n',loop (F.ED ((Bk a:Nat):Int)) (b,a,s,l,rest,n)=some (a,s',z,I,n')∧Inv a H0 (D++b) s' z I n':=by
 intro m
 induction m using Nat.strongRecOn with
 | ind m ih=>
  intro b D s l rest n hm hD hI
  obtain ⟨M,hr,N,hn⟩:=hI
  have A:=oP a H0 D (D.length / Bk a) h0
  rw [←M]at A
  have hB:Bk a=64∨Bk a=128:=by unfold Bk; split <;> simp
  by_cases hb:b=[]
  ·subst hb
   refine ⟨s,l,rest,n,cM rfl,?_⟩
   rw [List.append_nil]; exact ⟨M,hr,N,hn⟩
  ·have cy:0<b.length:=List.length_pos_iff.2 hb
   -- numbers
   obtain ⟨B,f⟩:∃B,Bk a=B:=⟨_,rfl⟩
   rw [f]at hB N M
   have a6:D.length%B<B:=Nat.mod_lt _ (by omega)
   have ac:=Nat.div_add_mod D.length B
   obtain ⟨q,hq⟩:∃q,D.length / B=q:=⟨_,rfl⟩
   obtain ⟨t,O⟩:∃t,D.length%B=t:=⟨_,rfl⟩
   rw [hq,O]at ac
   rw [O]at a6 N
   rw [hq]at N M
   have b2:(UInt64.ofInt ((B:Nat):Int)).toNat=B:=by rcases hB with rfl | rfl <;> rfl
   have b3:¬(UInt64.ofInt ((B:Nat):Int))=0:=by rcases hB with rfl | rfl <;> decide
   have hN:n.toNat=D.length:=by rw [hn,UInt64.toNat_ofNat']; omega
   have a2:(n%UInt64.ofInt ((B:Nat):Int)).toNat=t:=by rw [UInt64.toNat_mod,hN,b2,O]
   obtain ⟨k,hk⟩:∃k,min b.length (B - t)=k:=⟨_,rfl⟩
   have ad:0<k∧k≤b.length∧k≤B - t:=by omega
   have b6:cpL rest b t B=rest.take t++b.take k++rest.drop (t+k):=by
    unfold cpL
    rw [hk]
    congr 2
    by_cases h:b.length≤B - t
    ·rw [List.take_of_length_le h,List.take_of_length_le (by omega)]
    ·congr 1; omega
   have R:(cpL rest b t B).length=128:=by rw [fh _ _ _ _ (by omega) (by omega),hr]
   have c2:D.length=B*q+t:=ac.symm
   have J:(D++b.take k).drop (B*q)=rest.take t++b.take k:=by
    rw [List.drop_append_of_le_length (by omega),N]
   have U:(cpL rest b t B).take (t+k)=rest.take t++b.take k:=by
    rw [b6,List.take_left' (by simp; omega)]
   have ap:n+UInt64.ofInt ((k:Nat):Int)=UInt64.ofNat (D++b.take k).length:=by
    apply UInt64.toNat_inj.1
    rw [UInt64.toNat_add,hN,UInt64.toNat_ofNat',ma k (by omega)]
    simp; omega
   have G:∀s' z:_,Inv a H0 (D++b.take k) s' z (cpL rest b t B) (n+UInt64.ofInt ((k:Nat):Int))→∃j o K y,loop (F.ED ((Bk a:Nat):Int)) (b.drop k,a,s',z,cpL rest b t B,n+UInt64.ofInt ((k:Nat):Int))=some (a,j,o,K,y)∧Inv a H0 (D++b) j o K y:=by
    intro s' z b7
    obtain ⟨j,o,V,y,X,Y⟩:=ih (b.drop k).length (by simp; omega) (b.drop k) (D++b.take k) s' z _ _ rfl (by simp; omega) b7
    refine ⟨j,o,V,y,X,?_⟩
    rwa [List.append_assoc,List.take_append_drop]at Y
   rw [f]at G ⊢
   have c1:decide ((0:Int)<(b.length:Int))=true:=decide_eq_true (by omega)
   have w1:wI ((t:Nat):Int)=((t:Nat):Int):=aJ (by omega) (by omega)
   have g:F.ED ((B:Nat):Int) (b,a,s,l,rest,n) =
     if (wI ((t:Int)+(k:Int)) == (B:Int))=true then (ah (F.FU a s l (cpL rest b t B) (n+UInt64.ofInt ((k:Nat):Int))) fun x=>bC (b.drop k,x.1,x.2.1,x.2.2.1,x.2.2.2.1,x.2.2.2.2))
     else bC (b.drop k,a,s,l,cpL rest b t B,n+UInt64.ofInt ((k:Nat):Int)):=by
    simp only [F.ED,c1,if_true,grd_true _ b3,aS,a2,w1]
    rw [pd (by omega) (by omega),ae]
    simp only [Int.toNat_natCast,hk]
    rw [mL (by omega),ae]
   have w2:wI ((t:Int)+(k:Int))=((t+k:Nat):Int):=by rw [aJ (by omega) (by omega)]; simp
   rw [w2]at g
   by_cases hfull:t+k=B
   ·have e:(((t+k:Nat):Int) == (B:Int))=true:=by simp [hfull]
    rw [e,if_pos rfl,zy a s l _ _ A.1 A.2 R,ae]at g
    obtain ⟨j,o,V,y,X,Y⟩:=G (mix a (s,l) (cpL rest b t B)).1 (mix a (s,l) (cpL rest b t B)).2 (by
     have i:(D++b.take k).length=B*(q+1):=by rw [List.length_append,List.length_take,Nat.min_eq_left ad.2.1,Nat.mul_add]; omega
     have Z:(D++b.take k).length / B=q+1:=by rw [i,Nat.mul_div_cancel_left _ (by omega)]
     have ab:(D++b.take k).length%B=0:=by rw [i,Nat.mul_mod_right]
     refine ⟨?_,R,?_,ap⟩
     ·rw [f,Z,xM,rV a H0 D _ q (by rw [f]; omega),←M,f,J,←U,hfull,←f,oC]
     ·rw [f,ab,Z,List.take_zero,List.drop_of_length_le (by rw [i]; exact Nat.le_refl _)])
    exact ⟨j,o,V,y,(bI g).trans X,Y⟩
   ·have e:(((t+k:Nat):Int) == (B:Int))=false:=by simp; omega
    rw [e,if_neg (by simp)]at g
    obtain ⟨j,o,V,y,X,Y⟩:=G s l (by
     have a0:t+k<B:=by omega
     have i:(D++b.take k).length=t+k+B*q:=by rw [List.length_append,List.length_take,Nat.min_eq_left ad.2.1]; omega
     have Z:(D++b.take k).length / B=q:=by rw [i,Nat.add_mul_div_left _ _ (by omega),Nat.div_eq_of_lt a0]; simp
     have ab:(D++b.take k).length%B=t+k:=by rw [i,Nat.add_mul_mod_self_left,Nat.mod_eq_of_lt a0]
     refine ⟨?_,R,?_,ap⟩
     ·rw [f,Z,rV a H0 D _ q (by rw [f]; omega),←M]
     ·rw [f,ab,Z,U,J])
    exact ⟨j,o,V,y,(bI g).trans X,Y⟩
theorem rW (a:Int) (h:a=1∨a=2∨a=3):F.HY a=some ((Bk a:Nat):Int):=by
 rcases h with rfl | rfl | rfl <;> rfl
theorem r9 (a:Int) (i:a=1∨a=2∨a=3) (H0:HS) (j:H0.1.length=8∧H0.2.length=8) (b D:List UInt8) (s:List UInt32) (l:List UInt64) (rest:List UInt8) (n:UInt64) (k:D.length+b.length≤1000000000000000) (m:Inv a H0 D s l rest n) :
  ∃s' g f h,F.Ew a s l rest n b=some (a,s',g,f,h)∧Inv a H0 (D++b) s' g f h:=by
 unfold F.Ew
 rw [rW a i,ae]
 exact we a H0 j _ b D s l rest n rfl k m
end Go.Gk.Sh
end

section
namespace Go.Gk.Sh
open Go Go.Gk
def zc (B r:Nat):Nat:=(2*B - B / 8 - (r+1))%B
def cW (n:UInt64) (i:Nat):UInt8:=if i<8 then (aM (bB n 3) (8*i)).toUInt8 else if i=8 then (aM n 61).toUInt8 else 0
def cG (B:Nat) (D:List UInt8):List UInt8:=([128]++List.replicate (zc B (D.length%B)) 0)++(List.range' 0 (B / 8)).map (fun i=>cW (UInt64.ofNat D.length) (B / 8 - 1 - i))
def q32 (v:UInt32):List UInt8:=[(bu v 24).toUInt8,(bu v 16).toUInt8,(bu v 8).toUInt8,v.toUInt8]
def q64 (v:UInt64):List UInt8:=(List.range' 0 8).map (fun j=>(aM v (56 - 8*j)).toUInt8)
def zR (s:List UInt32):List UInt8:=(List.range' 0 8).foldl (fun x i=>x++q32 (s.getD i 0)) []
def pg (s:List UInt64):List UInt8:=(List.range' 0 8).foldl (fun x i=>x++q64 (s.getD i 0)) []
def Sz (a:Int):Nat:=if a=1 then 32 else if a=2 then 48 else 64
def kS (a:Int) (H:HS):List UInt8:=if a=1 then zR H.1 else (pg H.2).take (Sz a)
def H0 (a:Int):HS:=if a=1 then (F.Db,List.replicate 8 0) else if a=2 then (List.replicate 8 0,F.Du) else (List.replicate 8 0,F.Dl)
theorem oZ (a:Int):(H0 a).1.length=8∧(H0 a).2.length=8:=by
 unfold H0
 split
 ·exact ⟨rfl,rfl⟩
 ·split <;> exact ⟨rfl,rfl⟩
def fO (a:Int) (D:List UInt8):List UInt8:=kS a (gf a (H0 a) (D++cG (Bk a) D) ((D++cG (Bk a) D).length / Bk a))
theorem jS {β:Type} (f:Nat→List β):∀(r i:Nat) (x:List β),(List.range' i r).foldl (fun x i=>x++f i) x=x++(List.range' i r).flatMap f
 | 0,i,x=>by simp
 | r+1,i,x=>by
  rw [List.range'_succ,List.foldl_cons,jS f r (i+1),List.flatMap_cons,List.append_assoc]
theorem pZ (v:UInt64):(q64 v).length=8:=by simp [q64]
theorem mQ (s:List UInt64):(pg s).length=64:=by
 unfold pg
 have:=cD (fun i (x:List UInt8)=>x.length=8*i) (fun x i=>x++q64 (s.getD i 0)) (fun i x f=>by simp only [List.length_append,pZ,f]; omega) 8 0 [] rfl
 simpa using this
theorem yV (B:Nat) (D:List UInt8):(cG B D).length=1+zc B (D.length%B)+B / 8:=by simp [cG]; omega
theorem mD (a:Int) (D:List UInt8):(D++cG (Bk a) D).length%Bk a=0∧(cG (Bk a) D).length≤300:=by
 rw [List.length_append,yV]
 have f:Bk a=64∨Bk a=128:=by unfold Bk; split <;> simp
 have g:=Nat.mod_lt D.length (show 0<Bk a by omega)
 have i:=Nat.div_add_mod D.length (Bk a)
 rcases f with h | h <;> rw [h]at g i ⊢ <;> unfold zc <;> omega
theorem BB (a:Int) (M:a=1∨a=2∨a=3) (s:List UInt32) (l:List UInt64) (rest:List UInt8) (n:UInt64) (x:List UInt8) (N:x.length≤1000) :
  loop (F.Eb a s l rest n) (x,(((Bk a / 8 - 1:Nat)):Int))=(ah (F.Ew a s l rest n (x++(List.range' 0 (Bk a / 8)).map (fun i=>cW n (Bk a / 8 - 1 - i)))) fun h=>
   if (h.1 == 1)=true then loop (F.FC a s l rest n h) ([],0) else loop (F.Ef a s l rest n h) ([],0)):=by
 have B:Bk a / 8=8∨Bk a / 8=16:=by unfold Bk; split <;> simp
 obtain ⟨g,z⟩:∃q,Bk a / 8=q:=⟨_,rfl⟩
 rw [z]at B ⊢
 have:=bY (f:=F.Eb a s l rest n) (fun (y:List UInt8) i=>(y,(g:Int) - 1 - (i:Int))) (fun i y=>y.length=x.length+i) (fun y i=>y++[cW n (g - 1 - i)]) 0 g
  (X:=fun y=>(ah (F.Ew a s l rest n y) fun h=>if (h.1 == 1)=true then loop (F.FC a s l rest n h) ([],0) else loop (F.Ef a s l rest n h) ([],0)))
  (fun i y _ hi A=>by
   have j:decide ((0:Int)≤((g - 1 - i:Nat):Int))=true:=decide_eq_true (by omega)
   have G:(g:Int) - 1 - (i:Int)=((g - 1 - i:Nat):Int):=by omega
   have k:∀c:UInt8,F.EZ y ((g - 1 - i:Nat):Int) c=some (.inl (y++[c],(g:Int) - 1 - ((i+1:Nat):Int))):=fun c=>by
    simp only [F.EZ]
    rw [eg (by simp; omega),ae,aJ (by omega) (by omega),show ((g - 1 - i:Nat):Int) - 1=(g:Int) - 1 - ((i+1:Nat):Int) by omega]
    rfl
   refine ⟨?_,by simp [A]; omega⟩
   simp only [F.Eb,G,j,if_true]
   by_cases h8:g - 1 - i<8
   ·have m:decide (((g - 1 - i:Nat):Int)<8)=true:=decide_eq_true (by omega)
    have I:wI (8*((g - 1 - i:Nat):Int))=((8*(g - 1 - i):Nat):Int):=by rw [aJ (by omega) (by omega)]; omega
    simp only [m,if_true,I]
    rw [grd_true _ (by omega),aS,Int.toNat_natCast,k]
    simp only [cW,h8,if_true]
   ·have m:decide (((g - 1 - i:Nat):Int)<8)=false:=decide_eq_false (by omega)
    simp only [m,Bool.false_eq_true,if_false]
    by_cases h9:g - 1 - i=8
    ·have o:(((g - 1 - i:Nat):Int) == 8)=true:=by rw [h9]; rfl
     have t:cW n (g - 1 - i)=(aM n 61).toUInt8:=by unfold cW; rw [if_neg h8,if_pos h9]
     simp only [o,if_true,k,t]
    ·have o:(((g - 1 - i:Nat):Int) == 8)=false:=by simp; omega
     have t:cW n (g - 1 - i)=0:=by unfold cW; rw [if_neg h8,if_neg h9]
     simp only [o,Bool.false_eq_true,if_false,k,t])
  (fun y A=>by
   have j:decide ((0:Int)≤(g:Int) - 1 - ((g:Nat):Int))=false:=decide_eq_false (by omega)
   simp only [F.Eb,j,Bool.false_eq_true,if_false])
  g 0 x (Nat.le_refl _) (by omega) rfl
 have e:(g:Int) - 1 - ((0:Nat):Int)=((g - 1:Nat):Int):=by omega
 rw [e]at this
 refine this.trans ?_
 have J:=jS (fun i=>[cW n (g - 1 - i)]) g 0 x
 simp only [J]
 have K:∀r:List Nat,r.flatMap (fun i=>[cW n (g - 1 - i)])=r.map (fun i=>cW n (g - 1 - i)):=fun r=>by
  induction r with
  | nil=>rfl
  | cons p r ih=>rw [List.flatMap_cons,ih]; rfl
 rw [K]
theorem BS (a:Int) (I:a=1∨a=2∨a=3) (D:List UInt8) (s:List UInt32) (l:List UInt64) (rest:List UInt8) (n:UInt64) (hD:D.length≤900000000000000) (Y:Inv a (H0 a) D s l rest n) :
  F.H8 a s l rest n=some (fO a D,a,s,l,rest,n):=by
 unfold F.H8
 rw [rW a I,ae]
 obtain ⟨B,g⟩:∃B,Bk a=B:=⟨_,rfl⟩
 have J:B=64∨B=128:=by rw [←g]; unfold Bk; split <;> simp
 have Z:=Y.2.2.2
 obtain ⟨t,O⟩:∃t,D.length%B=t:=⟨_,rfl⟩
 have cx:t<B:=by rw [←O]; exact Nat.mod_lt _ (by omega)
 have ab:(UInt64.ofInt ((B:Nat):Int)).toNat=B:=by rcases J with rfl | rfl <;> rfl
 have K:¬(UInt64.ofInt ((B:Nat):Int))=0:=by rcases J with rfl | rfl <;> decide
 have z:¬((B:Nat):Int)=0:=by omega
 have hN:n.toNat=D.length:=by rw [Z,UInt64.toNat_ofNat']; omega
 have R:(n%UInt64.ofInt ((B:Nat):Int)).toNat=t:=by rw [UInt64.toNat_mod,hN,ab,O]
 have hq:Int.tdiv ((B:Nat):Int) 8=((B / 8:Nat):Int):=by rcases J with rfl | rfl <;> rfl
 have w8:wI ((B / 8:Nat):Int)=((B / 8:Nat):Int):=aJ (by omega) (by omega)
 have w9:wI (((B:Nat):Int) - ((B / 8:Nat):Int))=((B - B / 8:Nat):Int):=by rw [aJ (by omega) (by omega)]; omega
 have wt:wI ((t:Nat):Int)=((t:Nat):Int):=aJ (by omega) (by omega)
 have A:∀j:Nat,j≤zc B t→(Int.tmod (wI (wI ((n%UInt64.ofInt ((B:Nat):Int)).toNat:Int)+((([128]++List.replicate j 0:List UInt8)).length:Int))) ((B:Nat):Int) != wI (((B:Nat):Int) - wI (Int.tdiv ((B:Nat):Int) 8)))=decide (j≠zc B t):=by
  intro j hj
  have hz:zc B t<B:=Nat.mod_lt _ (by omega)
  rw [R,wt,hq,w8,w9]
  have hl:((([128]++List.replicate j 0:List UInt8)).length:Int)=((1+j:Nat):Int):=by simp; omega
  rw [hl,aJ (by omega) (by omega),show ((t:Nat):Int)+((1+j:Nat):Int)=((t+(1+j):Nat):Int) by omega]
  have hm:Int.tmod ((t+(1+j):Nat):Int) ((B:Nat):Int)=(((t+(1+j))%B:Nat):Int):=rfl
  rw [hm]
  have M:(t+(1+j))%B=B - B / 8↔j=zc B t:=by
   unfold zc at hj hz ⊢
   rcases J with rfl | rfl <;> omega
  by_cases h:j=zc B t
  ·have:=M.2 h
   rw [this]; simp [h]
  ·have:¬(t+(1+j))%B=B - B / 8:=fun h'=>h (M.1 h')
   simp only [h,ne_eq,not_false_eq_true,decide_true,bne_iff_ne]
   omega
 have cy:zc B t<B:=Nat.mod_lt _ (by omega)
 have e1:=c6 (f:=F.GJ n ((B:Nat):Int) a s l rest) (fun (_:Unit) i=>([128]++List.replicate i 0:List UInt8)) (fun _=>True) (fun _ _=>()) 0 (zc B t)
  (X:=fun _=>loop (F.Eb a s l rest n) ([128]++List.replicate (zc B t) 0,((B / 8 - 1:Nat):Int)))
  (fun i _ _ hi _=>by
   refine ⟨?_,trivial⟩
   unfold F.GJ
   simp only
   rw [grd_true _ K,grd_true _ z,A i (by omega),if_pos (decide_eq_true (by omega)),eg (by simp; omega),ae]
   simp only [List.append_assoc,List.replicate_succ']
   rfl)
  (fun _ _=>by
   unfold F.GJ
   simp only
   rw [grd_true _ K,grd_true _ z,A _ (Nat.le_refl _),if_neg (by simp),aS,hq,w8,aJ (by omega) (by omega),show ((B / 8:Nat):Int) - 1=((B / 8 - 1:Nat):Int) by omega])
  (zc B t) 0 () (Nat.le_refl _) (by omega) trivial
 rw [g]
 refine e1.trans ?_
 have N:=BB a I s l rest n ([128]++List.replicate (zc B t) 0) (by simp; omega)
 rw [g]at N
 refine N.trans ?_
 have U:([128]++List.replicate (zc B t) 0)++(List.range' 0 (B / 8)).map (fun i=>cW n (B / 8 - 1 - i))=cG B D:=by
  unfold cG
  rw [O,Z]
 have hpl:=(mD a D).2
 rw [U]
 rw [g]at hpl
 obtain ⟨s',k,r',n',hw,a2⟩:=r9 a I (H0 a) (oZ a) (cG B D) D s l rest n (by omega) Y
 rw [hw,ae]
 have o:=a2.1
 rw [g]at o
 have m:=oP a (H0 a) (D++cG B D) ((D++cG B D).length / B) (oZ a)
 rw [←o]at m
 by_cases h1:a=1
 ·have V:(a == 1)=true:=by simpa using h1
  simp only [V,if_true]
  have e3:=bY (f:=F.FC a s l rest n (a,s',k,r',n')) (fun (x:List UInt8) i=>(x,(i:Int))) (fun i x=>x.length=4*i) (fun x i=>x++q32 (s'.getD i 0)) 0 8
   (X:=fun x=>some (x,a,s,l,rest,n))
   (fun i x _ hi q=>by
    have G:decide ((i:Int)<8)=true:=decide_eq_true (by omega)
    refine ⟨?_,by simp [q,q32]; omega⟩
    simp only [F.FC,G,if_true]
    rw [aO (show i<s'.length by have:=m.1; simp only at this; omega) 0,ae,eg (by simp; omega),ae,wI1 i (by omega)]
    rfl)
   (fun x _=>rfl) 8 0 [] (Nat.le_refl _) rfl rfl
  refine e3.trans ?_
  unfold fO kS
  rw [if_pos h1,g,←o]
  rfl
 ·have V:(a == 1)=false:=by simpa using h1
  simp only [V,Bool.false_eq_true,if_false]
  have e5:=fun (i:Nat) (x:List UInt8) (v:UInt64) (hi:i<8) (q:x.length=8*i)=>bY (f:=F.Gx (i:Int) v) (fun (x:List UInt8) j=>(x,(56:Int) - 8*(j:Int))) (fun j y=>y.length=8*i+j) (fun y j=>y++[(aM v (56 - 8*j)).toUInt8]) 0 8
   (X:=fun y=>(some (.inl (y,((i+1:Nat):Int))):Option ((List UInt8×Int)⊕(List UInt8×Int×List UInt32×List UInt64×List UInt8×UInt64))))
   (fun j y _ hj hy=>by
    have G:decide ((0:Int)≤56 - 8*(j:Int))=true:=decide_eq_true (by omega)
    refine ⟨?_,by simp [hy]; omega⟩
    simp only [F.Gx,G,if_true]
    rw [grd_true _ (by omega),eg (by simp; omega),ae,show ((56:Int) - 8*(j:Int)).toNat=56 - 8*j by omega,aJ (by omega) (by omega),show (56:Int) - 8*(j:Int) - 8=56 - 8*((j+1:Nat):Int) by omega]
    rfl)
   (fun y _=>by
    simp only [F.Gx,show decide ((0:Int)≤56 - 8*((8:Nat):Int))=false from rfl,Bool.false_eq_true,if_false,wI1 i (by omega)]
    rfl) 8 0 x (Nat.le_refl _) rfl (by omega)
  have a3:F.Ek a=some ((Sz a:Nat):Int)∧Sz a≤64:=by
   rcases I with rfl | rfl | rfl
   ·exact absurd rfl h1
   ·exact ⟨rfl,by decide⟩
   ·exact ⟨rfl,by decide⟩
  have e4:=bY (f:=F.Ef a s l rest n (a,s',k,r',n')) (fun (x:List UInt8) i=>(x,(i:Int))) (fun i x=>x.length=8*i) (fun x i=>x++q64 (k.getD i 0)) 0 8
   (X:=fun x=>some (x.take (Sz a),a,s,l,rest,n))
   (fun i x _ hi q=>by
    have G:decide ((i:Int)<8)=true:=decide_eq_true (by omega)
    refine ⟨?_,by simp only [List.length_append,pZ,q]; omega⟩
    simp only [F.Ef,G,if_true]
    rw [aO (show i<k.length by have:=m.2; simp only at this; omega) 0,ae]
    refine (e5 i x _ hi q).trans ?_
    have hf:=jS (fun j=>[(aM (k.getD i 0) (56 - 8*j)).toUInt8]) 8 0 x
    simp only [hf]
    have:(List.range' 0 8).flatMap (fun j=>[(aM (k.getD i 0) (56 - 8*j)).toUInt8])=q64 (k.getD i 0):=rfl
    rw [this])
   (fun x q=>by
    simp only [F.Ef,show decide (((8:Nat):Int)<8)=false from rfl,Bool.false_eq_true,if_false]
    rw [a3.1,ae,ae,grd_true _ ⟨by omega,by rw [Int.toNat_natCast]; omega,rfl⟩,Int.toNat_natCast])
   8 0 [] (Nat.le_refl _) rfl rfl
  refine e4.trans ?_
  unfold fO kS
  rw [if_neg h1,g,←o]
  rfl
theorem BO (a:Int) (f:a=1∨a=2∨a=3):F.IM a=some (some (a,(H0 a).1,(H0 a).2,List.replicate 128 0,0)):=by
 rcases f with rfl | rfl | rfl <;> rfl
theorem CO (a:Int):Inv a (H0 a) [] (H0 a).1 (H0 a).2 (List.replicate 128 0) 0:=by
 refine ⟨?_,by simp,by simp,rfl⟩
 simp [gf]
theorem vv (a:Int) (k:a=1∨a=2∨a=3) (f:List (List UInt8)) (J:f.length≤1000) (B:f.flatten.length≤900000000000000):F.Gd a f=some (fO a f.flatten):=by
 unfold F.Gd
 rw [BO a k,ae]
 show loop (F.Ey f) (0,a,(H0 a).1,(H0 a).2,List.replicate 128 0,0)=_
 have q:∀(r i:Nat) (s:List UInt32) (l:List UInt64) (rest:List UInt8) (n:UInt64),i+r=f.length→Inv a (H0 a) (f.take i).flatten s l rest n→loop (F.Ey f) ((i:Int),a,s,l,rest,n)=some (fO a f.flatten):=by
  intro r
  induction r with
  | zero=>
   intro i s l rest n hi m
   have o:decide ((i:Int)<(f.length:Int))=false:=decide_eq_false (by omega)
   have t:Inv a (H0 a) f.flatten s l rest n:=by rwa [List.take_of_length_le (by omega)]at m
   refine cM (r:=fO a f.flatten) ?_
   simp only [F.Ey,o,Bool.false_eq_true,if_false]
   rw [BS a k _ s l rest n B t,ae]
   rfl
  | succ r ih=>
   intro i s l rest n hi m
   have o:decide ((i:Int)<(f.length:Int))=true:=decide_eq_true (by omega)
   have g:i<f.length:=by omega
   have h:(f.take (i+1)).flatten=(f.take i).flatten++f[i]:=by rw [List.take_succ_eq_append_getElem g,List.flatten_append]; simp
   have x:(f.take (i+1)).flatten.length≤f.flatten.length:=by
    have:f.flatten=(f.take (i+1)).flatten++(f.drop (i+1)).flatten:=by rw [←List.flatten_append,List.take_append_drop]
    rw [this,List.length_append]; omega
   rw [h,List.length_append]at x
   obtain ⟨s',y,z,A,G,j⟩:=r9 a k (H0 a) (oZ a) f[i] _ s l rest n (by omega) m
   rw [←h]at j
   have I:F.Ey f ((i:Int),a,s,l,rest,n)=some (.inl (((i+1:Nat):Int),a,s',y,z,A)):=by
    simp only [F.Ey,o,if_true]
    rw [gY g,ae,G,ae,wI1 i (by omega)]
    rfl
   rw [bI I]
   exact ih (i+1) s' y z A (by omega) j
 exact q f.length 0 _ _ _ _ (by omega) (by simpa using CO a)
end Go.Gk.Sh
end

section
namespace Go.Gk.Sh
open Go Go.Gk
theorem wM (x:UInt64):(x &&& 255).toUInt8=x.toUInt8:=by
 apply UInt8.toNat_inj.1
 rw [UInt64.toNat_toUInt8,UInt64.toNat_toUInt8,UInt64.toNat_and]
 have:(255:UInt64).toNat=2^8 - 1:=rfl
 rw [this,Nat.and_two_pow_sub_one_eq_mod]
 omega
theorem qc (x:UInt32):(x &&& 255).toUInt8=x.toUInt8:=by
 apply UInt8.toNat_inj.1
 rw [UInt32.toNat_toUInt8,UInt32.toNat_toUInt8,UInt32.toNat_and]
 have:(255:UInt32).toNat=2^8 - 1:=rfl
 rw [this,Nat.and_two_pow_sub_one_eq_mod]
 omega
theorem Cq (n:UInt64):n*8=bB n 3:=by
 apply UInt64.toNat_inj.1
 rw [UInt64.toNat_mul,i6]
 rfl
def zr (B r:Nat):Nat:=(2*B - 8 - (r+1))%B
def jp (n:UInt64):List UInt8:=(List.range' 0 8).map (fun i=>cW n (7 - i))
theorem sO {β:Type} (f:Nat→β):∀r:List Nat,r.flatMap (fun i=>[f i])=r.map f
 | []=>rfl
 | p :: r=>by rw [List.flatMap_cons,sO f r]; rfl
theorem qM (B:Nat) (G:B=64∨B=128) (D:List UInt8) (Y:D.length≤200000000000000) :
  F.Gc D ((B:Nat):Int)=some (D++([128]++List.replicate (zr B (D.length%B)) 0)++jp (UInt64.ofNat D.length)):=by
 unfold F.Gc
 rw [eg (by simp; omega),ae,List.nil_append,eg (by simp; omega),ae]
 obtain ⟨t,x⟩:∃t,D.length%B=t:=⟨_,rfl⟩
 have V:t<B:=by rw [←x]; exact Nat.mod_lt _ (by omega)
 have g:¬((B:Nat):Int)=0:=by omega
 have z:zr B t<B:=Nat.mod_lt _ (by omega)
 have I:wI (((B:Nat):Int) - 8)=((B - 8:Nat):Int):=by rw [aJ (by omega) (by omega)]; omega
 have k:∀j:Nat,j≤zr B t→(Int.tmod (((D++[128]++List.replicate j 0:List UInt8)).length:Int) ((B:Nat):Int) != wI (((B:Nat):Int) - 8))=decide (j≠zr B t):=by
  intro j J
  rw [I]
  have K:(((D++[128]++List.replicate j 0:List UInt8)).length:Int)=((D.length+(1+j):Nat):Int):=by simp; omega
  rw [K]
  have M:Int.tmod ((D.length+(1+j):Nat):Int) ((B:Nat):Int)=(((D.length+(1+j))%B:Nat):Int):=rfl
  rw [M]
  have m:(D.length+(1+j))%B=B - 8↔j=zr B t:=by
   unfold zr at J z ⊢
   rcases G with rfl | rfl <;> omega
  by_cases h:j=zr B t
  ·have:=m.2 h
   rw [this]; simp [h]
  ·have:¬(D.length+(1+j))%B=B - 8:=fun N=>h (m.1 N)
   simp only [h,ne_eq,not_false_eq_true,decide_true,bne_iff_ne]
   omega
 have o:UInt64.ofInt (D.length:Int)=UInt64.ofNat D.length:=by
  apply UInt64.toNat_inj.1
  rw [ma _ (by omega),UInt64.toNat_ofNat']; omega
 have q:=c6 (f:=F.Fs D ((B:Nat):Int)) (fun (_:Unit) i=>(D++[128]++List.replicate i 0:List UInt8)) (fun _=>True) (fun _ _=>()) 0 (zr B t)
  (X:=fun _=>loop (F.Fn (UInt64.ofNat D.length*8)) (D++[128]++List.replicate (zr B t) 0,7))
  (fun i _ _ hi _=>by
   refine ⟨?_,trivial⟩
   unfold F.Fs
   simp only
   rw [grd_true _ g,k i (by omega),if_pos (decide_eq_true (by omega)),eg (by simp; omega),ae]
   simp only [List.append_assoc,List.replicate_succ']
   rfl)
  (fun _ _=>by
   unfold F.Fs
   simp only
   rw [grd_true _ g,k _ (Nat.le_refl _),if_neg (by simp),aS,o])
  (zr B t) 0 () (Nat.le_refl _) (by omega) trivial
 have A:loop (F.Fs D ((B:Nat):Int)) (D++[128])=loop (F.Fn (UInt64.ofNat D.length*8)) (D++[128]++List.replicate (zr B t) 0,7):=by simpa using q
 rw [A]
 have O:=bY (f:=F.Fn (UInt64.ofNat D.length*8)) (fun (y:List UInt8) i=>(y,(7:Int) - (i:Int))) (fun i y=>y.length≤200000000000500+i) (fun y i=>y++[cW (UInt64.ofNat D.length) (7 - i)]) 0 8
  (X:=fun y=>some y)
  (fun i y _ hi Z=>by
   have q:(7:Int) - (i:Int)=((7 - i:Nat):Int):=by omega
   have R:decide ((0:Int)≤((7 - i:Nat):Int))=true:=decide_eq_true (by omega)
   have U:wI (8*((7 - i:Nat):Int))=((8*(7 - i):Nat):Int):=by rw [aJ (by omega) (by omega)]; omega
   refine ⟨?_,by simp; omega⟩
   simp only [F.Fn,q,R,if_true,U]
   rw [eg (by simp; omega),ae,aJ (by omega) (by omega),ma _ (by omega),wM,Cq,show ((7 - i:Nat):Int) - 1=(7:Int) - ((i+1:Nat):Int) by omega]
   have:cW (UInt64.ofNat D.length) (7 - i)=(aM (bB (UInt64.ofNat D.length) 3) (8*(7 - i))).toUInt8:=by unfold cW; rw [if_pos (by omega)]
   rw [this]
   rfl)
  (fun y _=>rfl) 8 0 (D++[128]++List.replicate (zr B t) 0) (Nat.le_refl _) rfl (by simp; omega)
 refine O.trans ?_
 rw [jS (fun i=>[cW (UInt64.ofNat D.length) (7 - i)]),sO]
 rw [x]
 simp only [List.append_assoc]
 rfl
theorem yH (D:List UInt8) (N:D.length≤200000000000000):F.Hw D=some (fO 1 D):=by
 unfold F.Hw
 rw [show (64:Int)=((64:Nat):Int) from rfl,qM 64 (.inl rfl) D (by omega),ae]
 have A:D++([128]++List.replicate (zr 64 (D.length%64)) 0)++jp (UInt64.ofNat D.length)=D++cG 64 D:=by
  rw [List.append_assoc]; rfl
 rw [A]
 obtain ⟨o,B⟩:=mD 1 D
 have q:Bk 1=64:=rfl
 rw [q]at o B
 obtain ⟨k,G⟩:∃k,(D++cG 64 D).length=64*k:=⟨_,(Nat.mul_div_cancel' (Nat.dvd_of_mod_eq_zero o)).symm⟩
 have t:(D++cG 64 D).length≤1000000000000000:=by rw [List.length_append]; omega
 have I:=c6 (f:=F.FS (D++cG 64 D)) (fun (h:List UInt32) i=>(((64*i:Nat):Int),h)) (fun h=>h.length=8) (fun h i=>gz h ((D++cG 64 D).drop (64*i))) 0 k
  (X:=fun h=>loop (F.FM h) ([],0))
  (fun i h _ hi y=>by
   have j:decide (((64*i:Nat):Int)<((D++cG 64 D).length:Int))=true:=decide_eq_true (by omega)
   refine ⟨?_,sD _ _ y⟩
   unfold F.FS
   simp only [j,if_true]
   rw [rg _ (64*i) h y (by omega) t,show 64*i+64=64*(i+1) by omega])
  (fun h _=>by
   have j:decide (((64*k:Nat):Int)<((D++cG 64 D).length:Int))=false:=decide_eq_false (by omega)
   unfold F.FS
   simp only [j,Bool.false_eq_true,if_false])
  k 0 F.Db (Nat.le_refl _) (by omega) rfl
 refine I.trans ?_
 have g:(List.range' 0 k).foldl (fun h i=>gz h ((D++cG 64 D).drop (64*i))) F.Db=(gf 1 (H0 1) (D++cG 64 D) k).1:=by
  unfold gf
  have:∀(r i:Nat) (h:List UInt32) (l:List UInt64),(List.range' i r).foldl (fun h i=>gz h ((D++cG 64 D).drop (64*i))) h=((List.range' i r).foldl (fun H i=>mix 1 H ((D++cG 64 D).drop (Bk 1*i))) (h,l)).1:=by
   intro r
   induction r with
   | zero=>intro i h l; rfl
   | succ r ih=>intro i h l; rw [List.range'_succ,List.foldl_cons,List.foldl_cons]; exact ih (i+1) _ _
  exact this k 0 _ _
 rw [g]
 have m:=oP 1 (H0 1) (D++cG 64 D) k (oZ 1)
 obtain ⟨H,z⟩:∃H,gf 1 (H0 1) (D++cG 64 D) k=H:=⟨_,rfl⟩
 rw [z]at m ⊢
 have J:=bY (f:=F.FM H.1) (fun (x:List UInt8) i=>(x,(i:Int))) (fun i x=>x.length=4*i) (fun x i=>x++q32 (H.1.getD i 0)) 0 8
  (X:=fun x=>some x)
  (fun i x _ hi K=>by
   have M:decide ((i:Int)<8)=true:=decide_eq_true (by omega)
   refine ⟨?_,by simp [K,q32]; omega⟩
   simp only [F.FM,M,if_true]
   rw [aO (show i<H.1.length by omega) 0,ae,ae,ae,ae,eg (by simp; omega),ae,wI1 i (by omega),qc,qc,qc]
   rfl)
  (fun x _=>rfl) 8 0 [] (Nat.le_refl _) rfl rfl
 refine J.trans ?_
 unfold fO kS
 rw [if_pos rfl,q,G,Nat.mul_div_cancel_left _ (by omega),z]
 rfl
theorem Cy (n:Nat) (h:n≤1000000000000000):(aM (UInt64.ofNat n) 61).toUInt8=0:=by
 have:aM (UInt64.ofNat n) 61=0:=by
  apply UInt64.toNat_inj.1
  rw [dU,UInt64.toNat_ofNat']
  have:n%2^64 / 2^(min 61 64)=0:=by
   rw [show min 61 64=61 from rfl]; omega
  rw [this]; rfl
 rw [this]; rfl
theorem Cl (D:List UInt8) (f:D.length≤1000000000000000):cG 128 D=([128]++List.replicate (zc 128 (D.length%128)+8) 0)++jp (UInt64.ofNat D.length):=by
 unfold cG jp
 have h:(List.range' 0 (128 / 8)).map (fun i=>cW (UInt64.ofNat D.length) (128 / 8 - 1 - i))=List.replicate 8 0++(List.range' 0 8).map (fun i=>cW (UInt64.ofNat D.length) (7 - i)):=by
  have g:cW (UInt64.ofNat D.length) 8=0:=by
   unfold cW
   rw [if_neg (by omega),if_pos rfl,Cy _ f]
  show [cW _ 15,cW _ 14,cW _ 13,cW _ 12,cW _ 11,cW _ 10,cW _ 9,cW _ 8,cW _ 7,cW _ 6,cW _ 5,cW _ 4,cW _ 3,cW _ 2,cW _ 1,cW _ 0]=[0,0,0,0,0,0,0,0,cW _ 7,cW _ 6,cW _ 5,cW _ 4,cW _ 3,cW _ 2,cW _ 1,cW _ 0]
  rw [g]
  rfl
 rw [h,←List.replicate_append_replicate]
 simp only [List.append_assoc]
theorem oW (A f:List UInt8) (g:List UInt64) (h:f.length=8) (k:A.length≤200000000000500) (j:wI (((A++f).length:Int) - 8)=((A.length:Nat):Int)):∀(r i:Nat),i+r=128 →
  loop (F.Fv (A++f) g) (A++List.replicate (128 - r) 0,((128 - r:Nat):Int))=F.Fj g (A++List.replicate 128 0++f)
 | 0,i,hi=>by
  refine bO ?_
  simp only [F.Fv,show decide (((128 - 0:Nat):Int)<128)=false from rfl,Bool.false_eq_true,if_false]
  rw [j,mL (by simp),ae,List.drop_left,eg (by rw [h]; simp; omega),ae]
 | r+1,i,hi=>by
  have m:decide (((128 - (r+1):Nat):Int)<128)=true:=decide_eq_true (by omega)
  have o:F.Fv (A++f) g (A++List.replicate (128 - (r+1)) 0,((128 - (r+1):Nat):Int))=some (.inl (A++List.replicate (128 - r) 0,((128 - r:Nat):Int))):=by
   simp only [F.Fv,m,if_true]
   rw [eg (by simp; omega),ae,aJ (by omega) (by omega),List.append_assoc,←List.replicate_succ',show 128 - (r+1)+1=128 - r by omega,show ((128 - (r+1):Nat):Int)+1=((128 - r:Nat):Int) by omega]
   rfl
  rw [bI o]
  exact oW A f g h k j r (i+1) (by omega)
theorem uI (D:List UInt8) (g:List UInt64) (z:g.length=8) (hD:D.length≤200000000000000) :
  F.GZ D g=some (pg ((List.range' 0 ((D++cG 128 D).length / 128)).foldl (fun h i=>eQ h ((D++cG 128 D).drop (128*i))) g)):=by
 have Z:Bk 2=128:=rfl
 obtain ⟨N,hP⟩:=mD 2 D
 rw [Z]at N hP
 obtain ⟨k,hk⟩:∃k,(D++cG 128 D).length=128*k:=⟨_,(Nat.mul_div_cancel' (Nat.dvd_of_mod_eq_zero N)).symm⟩
 have O:(D++cG 128 D).length≤1000000000000000:=by rw [List.length_append]; omega
 have B:F.Fj g (D++cG 128 D)=some (pg ((List.range' 0 ((D++cG 128 D).length / 128)).foldl (fun h i=>eQ h ((D++cG 128 D).drop (128*i))) g)):=by
  unfold F.Fj
  have I:=c6 (f:=F.Hf (D++cG 128 D)) (fun (h:List UInt64) i=>(((128*i:Nat):Int),h)) (fun h=>h.length=8) (fun h i=>eQ h ((D++cG 128 D).drop (128*i))) 0 k
   (X:=fun h=>loop (F.G7 h) ([],0))
   (fun i h _ hi R=>by
    have m:decide (((128*i:Nat):Int)<((D++cG 128 D).length:Int))=true:=decide_eq_true (by omega)
    refine ⟨?_,lR _ _ R⟩
    unfold F.Hf
    simp only [m,if_true]
    rw [rn _ (128*i) h R (by omega) O,show 128*i+128=128*(i+1) by omega])
   (fun h _=>by
    have m:decide (((128*k:Nat):Int)<((D++cG 128 D).length:Int))=false:=decide_eq_false (by omega)
    unfold F.Hf
    simp only [m,Bool.false_eq_true,if_false])
   k 0 g (Nat.le_refl _) (by omega) z
  refine I.trans ?_
  rw [hk,Nat.mul_div_cancel_left _ (by omega)]
  have J:=gV (fun h:List UInt64=>h.length=8) (fun h i=>eQ h ((D++cG 128 D).drop (128*i))) (fun i x t=>lR _ _ t) k 0 g z
  obtain ⟨H,hH⟩:∃H,(List.range' 0 k).foldl (fun h i=>eQ h ((D++cG 128 D).drop (128*i))) g=H:=⟨_,rfl⟩
  rw [hH]at J ⊢
  have e7:=fun (i:Nat) (x:List UInt8) (hi:i<8) (t:x.length=8*i)=>bY (f:=F.F5 H (i:Int)) (fun (x:List UInt8) j=>(x,(7:Int) - (j:Int))) (fun j y=>y.length=8*i+j) (fun y j=>y++[(aM (H.getD i 0) (56 - 8*j)).toUInt8]) 0 8
   (X:=fun y=>(some (.inl (y,((i+1:Nat):Int))):Option ((List UInt8×Int)⊕(List UInt8))))
   (fun j y _ hj hy=>by
    have I:(7:Int) - (j:Int)=((7 - j:Nat):Int):=by omega
    have o:decide ((0:Int)≤((7 - j:Nat):Int))=true:=decide_eq_true (by omega)
    have m8:wI (8*((7 - j:Nat):Int))=((56 - 8*j:Nat):Int):=by rw [aJ (by omega) (by omega)]; omega
    refine ⟨?_,by simp [hy]; omega⟩
    simp only [F.F5,I,o,if_true,m8]
    rw [aO (show i<H.length by omega) 0,ae,eg (by simp; omega),ae,aJ (by omega) (by omega),ma _ (by omega),wM,show ((7 - j:Nat):Int) - 1=(7:Int) - ((j+1:Nat):Int) by omega]
    rfl)
   (fun y _=>by
    simp only [F.F5,show decide ((0:Int)≤7 - ((8:Nat):Int))=false from rfl,Bool.false_eq_true,if_false,wI1 i (by omega)]
    rfl) 8 0 x (Nat.le_refl _) rfl (by omega)
  have e6:=bY (f:=F.G7 H) (fun (x:List UInt8) i=>(x,(i:Int))) (fun i x=>x.length=8*i) (fun x i=>x++q64 (H.getD i 0)) 0 8
   (X:=fun x=>some x)
   (fun i x _ hi t=>by
    have o:decide ((i:Int)<8)=true:=decide_eq_true (by omega)
    refine ⟨?_,by simp only [List.length_append,pZ,t]; omega⟩
    simp only [F.G7,o,if_true]
    refine (e7 i x hi t).trans ?_
    have hf:=jS (fun j=>[(aM (H.getD i 0) (56 - 8*j)).toUInt8]) 8 0 x
    simp only [hf]
    have:(List.range' 0 8).flatMap (fun j=>[(aM (H.getD i 0) (56 - 8*j)).toUInt8])=q64 (H.getD i 0):=rfl
    rw [this])
   (fun x _=>rfl) 8 0 [] (Nat.le_refl _) rfl rfl
  exact e6
 unfold F.GZ
 rw [show (128:Int)=((128:Nat):Int) from rfl,qM 128 (.inr rfl) D (by omega),ae]
 have hm:Int.tmod (D.length:Int) ((128:Nat):Int)=((D.length%128:Nat):Int):=rfl
 rw [hm]
 obtain ⟨r,U⟩:∃r,D.length%128=r:=⟨_,rfl⟩
 have Y:r<128:=by omega
 rw [U]
 have q:=Cl D (by omega)
 rw [U]at q
 by_cases hc:112≤r∧r<120
 ·have m:decide ((112:Int)≤((r:Nat):Int))=true:=decide_eq_true (by omega)
  have o:decide (((r:Nat):Int)<120)=true:=decide_eq_true (by omega)
  have K:zr 128 r+128=zc 128 r+8:=by unfold zr zc; omega
  rw [m,if_pos rfl,o]
  unfold F.HD
  simp only [if_true]
  have G:(jp (UInt64.ofNat D.length)).length=8:=by simp [jp]
  have bx:zr 128 r<128:=Nat.mod_lt _ (by omega)
  obtain ⟨A,M⟩:∃A,D++([128]++List.replicate (zr 128 r) 0)=A:=⟨_,rfl⟩
  have b2:A.length=D.length+1+zr 128 r:=by rw [←M]; simp; omega
  rw [M]
  have V:wI (((A++jp (UInt64.ofNat D.length)).length:Int) - 8)=((A.length:Nat):Int):=by rw [List.length_append,G,aJ (by omega) (by omega)]; omega
  rw [V,grd_true _ ⟨by omega,by rw [Int.toNat_natCast,List.length_append]; omega⟩,Int.toNat_natCast,List.take_left,eg (by simp; omega),ae,List.nil_append]
  have e8:=oW A (jp (UInt64.ofNat D.length)) g G (by omega) V 128 0 rfl
  rw [Nat.sub_self,List.replicate_zero,List.append_nil]at e8
  refine e8.trans ?_
  rw [←B]
  have hX:A++List.replicate 128 0++jp (UInt64.ofNat D.length)=D++cG 128 D:=by
   rw [q,←M,←K,←List.replicate_append_replicate]
   simp only [List.append_assoc]
  rw [hX]
 ·have K:zr 128 r=zc 128 r+8:=by unfold zr zc; omega
  have hM:D++([128]++List.replicate (zr 128 r) 0)++jp (UInt64.ofNat D.length)=D++cG 128 D:=by
   rw [q,K,List.append_assoc]
  rw [hM,←B]
  by_cases h1:112≤r
  ·have m:decide ((112:Int)≤((r:Nat):Int))=true:=decide_eq_true (by omega)
   have o:decide (((r:Nat):Int)<120)=false:=decide_eq_false (by omega)
   rw [m,if_pos rfl,o]; rfl
  ·have m:decide ((112:Int)≤((r:Nat):Int))=false:=decide_eq_false (by omega)
   rw [m,if_neg (by simp)]; rfl
theorem wx (a:Int) (m:a=1∨a=2∨a=3) (D:List UInt8) (f:D.length≤200000000000000):F.H3 a D=some (fO a D):=by
 have g:∀a:Int,a≠1→(H0 a).2.length=8→(List.range' 0 ((D++cG 128 D).length / 128)).foldl (fun h i=>eQ h ((D++cG 128 D).drop (128*i))) (H0 a).2=(gf a (H0 a) (D++cG (Bk a) D) ((D++cG (Bk a) D).length / Bk a)).2:=by
  intro a j _
  have k:Bk a=128:=by unfold Bk; rw [if_neg j]
  rw [k]
  unfold gf
  rw [k]
  have:∀(r i:Nat) (s:List UInt32) (h:List UInt64),(List.range' i r).foldl (fun h i=>eQ h ((D++cG 128 D).drop (128*i))) h=((List.range' i r).foldl (fun H i=>mix a H ((D++cG 128 D).drop (128*i))) (s,h)).2:=by
   intro r
   induction r with
   | zero=>intro i s h; rfl
   | succ r ih=>
    intro i s h
    rw [List.range'_succ,List.foldl_cons,List.foldl_cons]
    have o:mix a (s,h) ((D++cG 128 D).drop (128*i))=(s,eQ h ((D++cG 128 D).drop (128*i))):=by unfold mix; rw [if_neg j]
    rw [o]
    exact ih (i+1) _ _
  exact this _ 0 (H0 a).1 (H0 a).2
 unfold F.H3
 rcases m with rfl | rfl | rfl
 ·simp only [beq_self_eq_true,if_true]
  rw [yH D f,ae]
 ·rw [if_neg (by decide),if_pos (by decide),uI D _ rfl f,ae,grd_true _ ⟨by omega,by rw [mQ]; decide⟩]
  have:=g 2 (by decide) rfl
  rw [show (H0 2).2=F.Du from rfl]at this
  rw [this]
  rfl
 ·rw [if_neg (by decide),if_neg (by decide),if_pos (by decide),uI D _ rfl f,ae]
  have:=g 3 (by decide) rfl
  rw [show (H0 3).2=F.Dl from rfl]at this
  rw [this]
  unfold fO kS
  rw [if_neg (by decide),List.take_of_length_le (by rw [mQ]; decide)]
end Go.Gk.Sh
end
