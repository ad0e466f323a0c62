import Derived.Test.YtahgjafdhjbkeaaGreatDoorGkP0
set_option linter.unusedVariables false
set_option linter.unusedSimpArgs false
set_option linter.unusedSectionVars false

section
namespace Go.Gk.Sh
open Go Go.Gk
theorem xW {v:V8 UInt64}:aA (toL v) (0:Int)=some v.1/\aA (toL v) (1:Int)=some v.2.1/\aA (toL v) (2:Int)=some v.2.2.1/\aA (toL v) (3:Int)=some v.2.2.2.1 /\
  aA (toL v) (4:Int)=some v.2.2.2.2.1/\aA (toL v) (5:Int)=some v.2.2.2.2.2.1/\aA (toL v) (6:Int)=some v.2.2.2.2.2.2.1/\aA (toL v) (7:Int)=some v.2.2.2.2.2.2.2:=⟨rfl,rfl,rfl,rfl,rfl,rfl,rfl,rfl⟩
theorem yp {h:List UInt64} (j:h.length=8):toL (ofL 0 h)=h:=by
 match h,j with
 | [a,b,c,d,e,f,g,i],_=>rfl
theorem rU (all:L1) (o:Nat) (h:List UInt64) (t:h.length=8) (hl:o+128<=all.length) (hb:all.length<=1000000000000000) :
  loop (F.FX h all (o:Int)) (0,List.replicate 80 0)=some (.inl (((o+128:Nat):Int),fh h (all.drop o))):=by
 have K:=ca (f:=F.FX h all (o:Int)) (fun w i=>((i:Int),w)) iK (et (all.drop o)) 0 80
  (X:=fun w=>loop (F.Ht h w (o:Int)) (0,h))
  (fun i w _ hi y=>by
   have q:decide ((i:Int)<80)=true:=decide_eq_true (by omega)
   have a2:=y.1
   refine⟨?_,kB _ i w y⟩
   by_cases h16:i<16
   ·have B:decide ((i:Int)<16)=true:=decide_eq_true (by omega)
    have M:wI ((o:Int)+wI (8*(i:Int)))=((o+8*i:Nat):Int):=by rw[aJ (show -9223372036854775808<=8*(i:Int) by omega) (by omega),aJ (by omega) (by omega)]; omega
    have G:=c8 (f:=F.Ge all (o:Int) (i:Int)) (fun x j=>((j:Int),w.set i x)) (fun _=>True) (p9 (all.drop o) i) 0 8
     (X:=fun x=>(some (.inl (((i+1:Nat):Int),w.set i x)):Option ((Int×List UInt64)⊕((Int×List UInt64)⊕L1))))
     (fun j x _ hj _=>by
      have q:decide ((j:Int)<8)=true:=decide_eq_true (by omega)
      have g:aA all (wI (((o+8*i:Nat):Int)+(j:Int)))=some ((all.drop o).getD (8*i+j) 0):=by
       rw[aJ (by omega) (by omega),show (((o+8*i:Nat):Int)+(j:Int))=((o+8*i+j:Nat):Int) by omega,aP (by omega) 0,List.getD_eq_getElem?_getD,List.getD_eq_getElem?_getD,List.getElem?_drop,Nat.add_assoc]
      refine⟨?_,trivial⟩
      simp only[F.Ge,q,if_true,M]
      rw[oL (by omega),ae,g,ae,ae,aS,wI1 j (by omega),Int.toNat_natCast,List.set_set]
      rfl)
     (fun x _=>by
      simp only[F.Ge,show decide (((8:Nat):Int)<8)=false from rfl,Bool.false_eq_true,if_false,F.GL,wI1 i (by omega)]
      rfl)
     8 0 0 (Nat.le_refl _) rfl trivial
    have N:w.set i 0=w:=by
     have:=Av (w:=w) (i:=i) (by omega)
     rwa [y.2 i (Nat.le_refl _)]at this
    rw[N]at G
    simp only[F.FX,q,B,if_true]
    refine G.trans ?_
    simp only[et,h16,if_true,nG]
   ·have B:decide ((i:Int)<16)=false:=decide_eq_false (by omega)
    have m:∀k:Nat,k<=16->aA w (wI ((i:Int) - (k:Int)))=some (w.getD (i - k) 0):=fun k hk=>by
     rw[wIs i k (by omega) (by omega),aP (by omega) 0]
    have I:=m 15 (by omega); have O:=m 2 (by omega); have J:=m 16 (by omega); have R:=m 7 (by omega)
    simp only[F.FX,q,B,if_true,Bool.false_eq_true,if_false]
    rw[show aA w (wI ((i:Int) - 15))=_ from I,ae,show aA w (wI ((i:Int) - 2))=_ from O,ae,show aA w (wI ((i:Int) - 16))=_ from J,ae,
     show F.Dy (w.getD (i - 15) 0) 1=_ from gN _ 1 (by omega),ae,show F.Dy (w.getD (i - 15) 0) 8=_ from gN _ 8 (by omega),ae,
     show aA w (wI ((i:Int) - 7))=_ from R,ae,
     show F.Dy (w.getD (i - 2) 0) 19=_ from gN _ 19 (by omega),ae,show F.Dy (w.getD (i - 2) 0) 61=_ from gN _ 61 (by omega),ae,
     ig (show i<w.length by omega),ae,aS,Int.toNat_natCast]
    simp only[F.GL,wI1 i (by omega),et,h16,if_false,wS]
    have e:∀a b c d:UInt64,((a+b)+c)+d=((a+c)+b)+d:=fun a b c d=>by rw[UInt64.add_assoc a b c,UInt64.add_comm b c,<-UInt64.add_assoc]
    rw[e]
    rfl)
  (fun w y=>rfl) 80 0 (List.replicate 80 0) (Nat.le_refl _) rfl nZ
 have U:=fun (z:List UInt64) (y:z.length=80)=>c8 (f:=F.Ht h z (o:Int)) (fun (v:V8 UInt64) i=>((i:Int),toL v)) (fun _=>True) (wK z) 0 80
  (X:=fun v=>loop (F.F8 (o:Int) (toL v)) (0,h))
  (fun i v _ hi _=>by
   have q:decide ((i:Int)<80)=true:=decide_eq_true (by omega)
   obtain⟨V,Y,Z,t3,t4,t5,t6,t7⟩:=xW (v:=v)
   refine⟨?_,trivial⟩
   simp only[F.Ht,q,if_true]
   rw[V,ae,t4,ae,t7,ae,show F.Dy v.2.2.2.2.1 14=_ from gN _ 14 (by omega),ae,show F.Dy v.2.2.2.2.1 18=_ from gN _ 18 (by omega),ae,show F.Dy v.2.2.2.2.1 41=_ from gN _ 41 (by omega),ae,
    t5,ae,t6,ae,aP (show i<F.DU.length from hi) 0,ae,aP (show i<z.length by omega) 0,ae,aS,
    show F.Dy v.1 28=_ from gN _ 28 (by omega),ae,show F.Dy v.1 34=_ from gN _ 34 (by omega),ae,show F.Dy v.1 39=_ from gN _ 39 (by omega),ae,
    Y,ae,Z,ae,ae,ae,aS,ae,ae,t3,ae,ae,ae,wI1 i (by omega)]
   rfl)
  (fun v _=>rfl) 80 0 (ofL 0 h) (Nat.le_refl _) rfl trivial
 have e4:=fun (v:V8 UInt64)=>c8 (f:=F.F8 (o:Int) (toL v)) (fun h i=>((i:Int),h)) (fun h=>h.length=8) (mR (toL v)) 0 8
  (X:=fun h=>some (.inl (((o+128:Nat):Int),h)))
  (fun i h _ hi t=>by
   have q:decide ((i:Int)<8)=true:=decide_eq_true (by omega)
   refine⟨?_,mp _ i h t⟩
   simp only[F.F8,q,if_true]
   rw[aP (show i<h.length by omega) 0,ae,aP (l:=toL v) (show i<8 from hi) 0,ae,ae,aS,wI1 i (by omega),Int.toNat_natCast]
   rfl)
  (fun h t=>by
   simp only[F.F8,show decide (((8:Nat):Int)<8)=false from rfl,Bool.false_eq_true,if_false]
   rw[aJ (by omega) (by omega)]
   rfl) 8 0 h (Nat.le_refl _) rfl t
 refine K.trans ?_
 have A:=U (ib (all.drop o)) (rt _).1
 rw[yp t]at A
 refine A.trans ?_
 exact e4 _
end Go.Gk.Sh
end

section
namespace Go.Gk.Sh
open Go Go.Gk
theorem mm (m:Nat) (h:m<18446744073709551616):(UInt64.ofInt (m:Int)).toNat=m:=by
 simp[UInt64.ofInt,UInt64.toNat_ofNat']
 omega
theorem jn {b:L1} {k n:Nat} (h:k<n):(b.take n).getD k 0=b.getD k 0:=by
 rw[List.getD_eq_getElem?_getD,List.getElem?_take,if_pos h,List.getD_eq_getElem?_getD]
theorem uo (h:L0) (b:L1):gH h (b.take 64)=gH h b:=by
 have:iu (b.take 64)=iu b:=by
  unfold iu
  refine iF 64 0 _ fun k y _ g=>?_
  unfold eF
  split
  ·rename_i f
   simp only[qi]
   rw[jn (by omega),jn (by omega),jn (by omega),jn (by omega)]
  ·rfl
 unfold gH
 rw[this]
theorem uz (h:List UInt64) (b:L1):fh h (b.take 128)=fh h b:=by
 have:ib (b.take 128)=ib b:=by
  unfold ib
  refine iF 80 0 _ fun k y _ g=>?_
  unfold et
  split
  ·rename_i f
   have:nG (b.take 128) k=nG b k:=iF 8 0 _ fun j x _ i=>by
    simp only[p9]
    rw[jn (by omega)]
   rw[this]
  ·rfl
 unfold fh
 rw[this]
abbrev HS:=L0×List UInt64
def Bk (a:Int):Nat:=if a=1 then 64 else 128
def mix (a:Int) (H:HS) (b:L1):HS:=if a=1 then (gH H.1 b,H.2) else (H.1,fh H.2 b)
theorem oN (a:Int) (H:HS) (b:L1):mix a H (b.take (Bk a))=mix a H b:=by
 unfold mix Bk
 split
 ·rw[uo]
 ·rw[uz]
theorem Bc (a:Int) (H:HS) (b:L1) (h:H.1.length=8/\H.2.length=8):(mix a H b).1.length=8/\(mix a H b).2.length=8:=by
 unfold mix
 split
 ·exact⟨s9 _ _ h.1,h.2⟩
 ·exact⟨h.1,mf _ _ h.2⟩
def gk (a:Int) (H:HS) (D:L1) (k:Nat):HS:=(List.range' 0 k).foldl (fun H i=>mix a H (D.drop (Bk a*i))) H
theorem o7 (a:Int) (H:HS) (D:L1) (k:Nat) (h:H.1.length=8/\H.2.length=8):(gk a H D k).1.length=8/\(gk a H D k).2.length=8:=
 hU (fun H:HS=>H.1.length=8/\H.2.length=8) _ (fun i x f=>Bc a x _ f) k 0 _ h
theorem yh (a:Int) (H:HS) (D:L1) (k:Nat):gk a H D (k+1)=mix a (gk a H D k) (D.drop (Bk a*k)):=by
 unfold gk
 rw[List.range'_concat,List.foldl_append]
 simp
theorem sC (a:Int) (H:HS) (D E:L1) (k:Nat) (h:Bk a*k<=D.length):gk a H (D++E) k=gk a H D k:=by
 unfold gk
 refine iF k 0 _ fun i x _ hi=>?_
 have f:Bk a*(i+1)<=Bk a*k:=Nat.mul_le_mul_left _ (by omega)
 rw[Nat.mul_add,Nat.mul_one]at f
 rw[<-oN,<-oN a x (D.drop _),List.drop_append_of_le_length (by omega),List.take_append_of_le_length (by simp; omega)]
def Inv (a:Int) (H0:HS) (D:L1) (s:L0) (l:List UInt64) (rest:L1) (n:UInt64):Prop:=
 (s,l)=gk a H0 D (D.length / Bk a)/\rest.length=128/\rest.take (D.length%Bk a)=D.drop (Bk a*(D.length / Bk a))/\n=UInt64.ofNat D.length
theorem zY (a:Int) (s:L0) (l:List UInt64) (rest:L1) (n:UInt64) (g:s.length=8) (i:l.length=8) (f:rest.length=128) :
  F.Gv a s l rest n=some (a,(mix a (s,l) rest).1,(mix a (s,l) rest).2,rest,n):=by
 unfold F.Gv mix
 by_cases h:a=1
 ·have e:(a == 1)=true:=by simpa using h
  rw[e,if_pos rfl,if_pos h,wr a s l rest n g f]; rfl
 ·have e:(a == 1)=false:=by simpa using h
  rw[e,if_neg (by simp),if_neg h,vQ a l s rest n i f]; rfl
theorem wH (a:Int) (H0:HS) (h0:H0.1.length=8/\H0.2.length=8):∀(m:Nat) (b D:L1) (s:L0) (l:List UInt64) (rest:L1) (n:UInt64),b.length=m->D.length+b.length<=1000000000000000->Inv a H0 D s l rest n ->
  ∃s' z I n',loop (F.E9 ((Bk a:Nat):Int)) (b,a,s,l,rest,n)=some (a,s',z,I,n')/\Inv a H0 (D++b) s' z I n':=by
 intro m
 induction m using Nat.strongRecOn with
 | ind m ih=>
  intro b D s l rest n hm hD hI
  obtain⟨M,hr,N,hn⟩:=hI
  have A:=o7 a H0 D (D.length / Bk a) h0
  rw[<-M]at A
  have hB:Bk a=64\/Bk a=128:=by unfold Bk; split <;> simp
  by_cases hb:b=[]
  ·subst hb
   refine⟨s,l,rest,n,cQ rfl,?_⟩
   rw[List.append_nil]; exact⟨M,hr,N,hn⟩
  ·have cx:0<b.length:=List.length_pos_iff.2 hb
   -- numbers
   obtain⟨B,f⟩:∃B,Bk a=B:=⟨_,rfl⟩
   rw[f]at hB N M
   have a6:D.length%B<B:=Nat.mod_lt _ (by omega)
   have ac:=Nat.div_add_mod D.length B
   obtain⟨q,hq⟩:∃q,D.length / B=q:=⟨_,rfl⟩
   obtain⟨t,O⟩:∃t,D.length%B=t:=⟨_,rfl⟩
   rw[hq,O]at ac
   rw[O]at a6 N
   rw[hq]at N M
   have b2:(UInt64.ofInt ((B:Nat):Int)).toNat=B:=by rcases hB with rfl | rfl <;> rfl
   have b3:¬(UInt64.ofInt ((B:Nat):Int))=0:=by rcases hB with rfl | rfl <;> decide
   have hN:n.toNat=D.length:=by rw[hn,UInt64.toNat_ofNat']; omega
   have a2:(n%UInt64.ofInt ((B:Nat):Int)).toNat=t:=by rw[UInt64.toNat_mod,hN,b2,O]
   obtain⟨k,hk⟩:∃k,min b.length (B - t)=k:=⟨_,rfl⟩
   have ad:0<k/\k<=b.length/\k<=B - t:=by omega
   have b6:cpL rest b t B=rest.take t++b.take k++rest.drop (t+k):=by
    unfold cpL
    rw[hk]
    congr 2
    by_cases h:b.length<=B - t
    ·rw[List.take_of_length_le h,List.take_of_length_le (by omega)]
    ·congr 1; omega
   have R:(cpL rest b t B).length=128:=by rw[fD _ _ _ _ (by omega) (by omega),hr]
   have cy:D.length=B*q+t:=ac.symm
   have J:(D++b.take k).drop (B*q)=rest.take t++b.take k:=by
    rw[List.drop_append_of_le_length (by omega),N]
   have U:(cpL rest b t B).take (t+k)=rest.take t++b.take k:=by
    rw[b6,List.take_left' (by simp; omega)]
   have ap:n+UInt64.ofInt ((k:Nat):Int)=UInt64.ofNat (D++b.take k).length:=by
    apply UInt64.toNat_inj.1
    rw[UInt64.toNat_add,hN,UInt64.toNat_ofNat',mm k (by omega)]
    simp; omega
   have G:∀s' z:_,Inv a H0 (D++b.take k) s' z (cpL rest b t B) (n+UInt64.ofInt ((k:Nat):Int))->∃j o K y,loop (F.E9 ((Bk a:Nat):Int)) (b.drop k,a,s',z,cpL rest b t B,n+UInt64.ofInt ((k:Nat):Int))=some (a,j,o,K,y)/\Inv a H0 (D++b) j o K y:=by
    intro s' z b7
    obtain⟨j,o,V,y,X,Y⟩:=ih (b.drop k).length (by simp; omega) (b.drop k) (D++b.take k) s' z _ _ rfl (by simp; omega) b7
    refine⟨j,o,V,y,X,?_⟩
    rwa [List.append_assoc,List.take_append_drop]at Y
   rw[f]at G ⊢
   have c1:decide ((0:Int)<(b.length:Int))=true:=decide_eq_true (by omega)
   have w1:wI ((t:Nat):Int)=((t:Nat):Int):=aJ (by omega) (by omega)
   have g:F.E9 ((B:Nat):Int) (b,a,s,l,rest,n) =
     if (wI ((t:Int)+(k:Int)) == (B:Int))=true then (ah (F.Gv a s l (cpL rest b t B) (n+UInt64.ofInt ((k:Nat):Int))) fun x=>bD (b.drop k,x.1,x.2.1,x.2.2.1,x.2.2.2.1,x.2.2.2.2))
     else bD (b.drop k,a,s,l,cpL rest b t B,n+UInt64.ofInt ((k:Nat):Int)):=by
    simp only[F.E9,c1,if_true,grd_true _ b3,aS,a2,w1]
    rw[pE (by omega) (by omega),ae]
    simp only[Int.toNat_natCast,hk]
    rw[mU (by omega),ae]
   have w2:wI ((t:Int)+(k:Int))=((t+k:Nat):Int):=by rw[aJ (by omega) (by omega)]; simp
   rw[w2]at g
   by_cases hfull:t+k=B
   ·have e:(((t+k:Nat):Int) == (B:Int))=true:=by simp[hfull]
    rw[e,if_pos rfl,zY a s l _ _ A.1 A.2 R,ae]at g
    obtain⟨j,o,V,y,X,Y⟩:=G (mix a (s,l) (cpL rest b t B)).1 (mix a (s,l) (cpL rest b t B)).2 (by
     have i:(D++b.take k).length=B*(q+1):=by rw[List.length_append,List.length_take,Nat.min_eq_left ad.2.1,Nat.mul_add]; omega
     have Z:(D++b.take k).length / B=q+1:=by rw[i,Nat.mul_div_cancel_left _ (by omega)]
     have ab:(D++b.take k).length%B=0:=by rw[i,Nat.mul_mod_right]
     refine⟨?_,R,?_,ap⟩
     ·rw[f,Z,yh,sC a H0 D _ q (by rw[f]; omega),<-M,f,J,<-U,hfull,<-f,oN]
     ·rw[f,ab,Z,List.take_zero,List.drop_of_length_le (by rw[i]; exact Nat.le_refl _)])
    exact⟨j,o,V,y,(bJ g).trans X,Y⟩
   ·have e:(((t+k:Nat):Int) == (B:Int))=false:=by simp; omega
    rw[e,if_neg (by simp)]at g
    obtain⟨j,o,V,y,X,Y⟩:=G s l (by
     have a0:t+k<B:=by omega
     have i:(D++b.take k).length=t+k+B*q:=by rw[List.length_append,List.length_take,Nat.min_eq_left ad.2.1]; omega
     have Z:(D++b.take k).length / B=q:=by rw[i,Nat.add_mul_div_left _ _ (by omega),Nat.div_eq_of_lt a0]; simp
     have ab:(D++b.take k).length%B=t+k:=by rw[i,Nat.add_mul_mod_self_left,Nat.mod_eq_of_lt a0]
     refine⟨?_,R,?_,ap⟩
     ·rw[f,Z,sC a H0 D _ q (by rw[f]; omega),<-M]
     ·rw[f,ab,Z,U,J])
    exact⟨j,o,V,y,(bJ g).trans X,Y⟩
theorem sD (a:Int) (h:a=1\/a=2\/a=3):F.IF a=some ((Bk a:Nat):Int):=by
 rcases h with rfl | rfl | rfl <;> rfl
theorem sK (a:Int) (i:a=1\/a=2\/a=3) (H0:HS) (j:H0.1.length=8/\H0.2.length=8) (b D:L1) (s:L0) (l:List UInt64) (rest:L1) (n:UInt64) (k:D.length+b.length<=1000000000000000) (m:Inv a H0 D s l rest n) :
  ∃s' g f h,F.E2 a s l rest n b=some (a,s',g,f,h)/\Inv a H0 (D++b) s' g f h:=by
 unfold F.E2
 rw[sD a i,ae]
 exact wH a H0 j _ b D s l rest n rfl k m
end Go.Gk.Sh
end

section
namespace Go.Gk.Sh
open Go Go.Gk
def zc (B r:Nat):Nat:=(2*B - B / 8 - (r+1))%B
def cV (n:UInt64) (i:Nat):UInt8:=if i<8 then (aO (bH n 3) (8*i)).toUInt8 else if i=8 then (aO n 61).toUInt8 else 0
def cJ (B:Nat) (D:L1):L1:=([128]++List.replicate (zc B (D.length%B)) 0)++(List.range' 0 (B / 8)).map (fun i=>cV (UInt64.ofNat D.length) (B / 8 - 1 - i))
def q32 (v:UInt32):L1:=[(bA v 24).toUInt8,(bA v 16).toUInt8,(bA v 8).toUInt8,v.toUInt8]
def q64 (v:UInt64):L1:=(List.range' 0 8).map (fun j=>(aO v (56 - 8*j)).toUInt8)
def Aj (s:L0):L1:=(List.range' 0 8).foldl (fun x i=>x++q32 (s.getD i 0)) []
def pH (s:List UInt64):L1:=(List.range' 0 8).foldl (fun x i=>x++q64 (s.getD i 0)) []
def Sz (a:Int):Nat:=if a=1 then 32 else if a=2 then 48 else 64
def k9 (a:Int) (H:HS):L1:=if a=1 then Aj H.1 else (pH H.2).take (Sz a)
def H0 (a:Int):HS:=if a=1 then (F.DF,List.replicate 8 0) else if a=2 then (List.replicate 8 0,F.DX) else (List.replicate 8 0,F.DO)
theorem ph (a:Int):(H0 a).1.length=8/\(H0 a).2.length=8:=by
 unfold H0
 split
 ·exact⟨rfl,rfl⟩
 ·split <;> exact⟨rfl,rfl⟩
def fU (a:Int) (D:L1):L1:=k9 a (gk a (H0 a) (D++cJ (Bk a) D) ((D++cJ (Bk a) D).length / Bk a))
theorem jY {β:Type} (f:Nat->List β):∀(r i:Nat) (x:List β),(List.range' i r).foldl (fun x i=>x++f i) x=x++(List.range' i r).flatMap f
 | 0,i,x=>by simp
 | r+1,i,x=>by
  rw[List.range'_succ,List.foldl_cons,jY f r (i+1),List.flatMap_cons,List.append_assoc]
theorem qv (v:UInt64):(q64 v).length=8:=by simp[q64]
theorem na (s:List UInt64):(pH s).length=64:=by
 unfold pH
 have:=cG (fun i (x:L1)=>x.length=8*i) (fun x i=>x++q64 (s.getD i 0)) (fun i x f=>by simp only[List.length_append,qv,f]; omega) 8 0 [] rfl
 simpa using this
theorem zq (B:Nat) (D:L1):(cJ B D).length=1+zc B (D.length%B)+B / 8:=by simp[cJ]; omega
theorem mN (a:Int) (D:L1):(D++cJ (Bk a) D).length%Bk a=0/\(cJ (Bk a) D).length<=300:=by
 rw[List.length_append,zq]
 have f:Bk a=64\/Bk a=128:=by unfold Bk; split <;> simp
 have g:=Nat.mod_lt D.length (show 0<Bk a by omega)
 have i:=Nat.div_add_mod D.length (Bk a)
 rcases f with h | h <;> rw[h]at g i ⊢ <;> unfold zc <;> omega
theorem B1 (a:Int) (M:a=1\/a=2\/a=3) (s:L0) (l:List UInt64) (rest:L1) (n:UInt64) (x:L1) (N:x.length<=1000) :
  loop (F.EH a s l rest n) (x,(((Bk a / 8 - 1:Nat)):Int))=(ah (F.E2 a s l rest n (x++(List.range' 0 (Bk a / 8)).map (fun i=>cV n (Bk a / 8 - 1 - i)))) fun h=>
   if (h.1 == 1)=true then loop (F.F7 a s l rest n h) ([],0) else loop (F.EL a s l rest n h) ([],0)):=by
 have B:Bk a / 8=8\/Bk a / 8=16:=by unfold Bk; split <;> simp
 obtain⟨g,z⟩:∃q,Bk a / 8=q:=⟨_,rfl⟩
 rw[z]at B ⊢
 have:=ca (f:=F.EH a s l rest n) (fun (y:L1) i=>(y,(g:Int) - 1 - (i:Int))) (fun i y=>y.length=x.length+i) (fun y i=>y++[cV n (g - 1 - i)]) 0 g
  (X:=fun y=>(ah (F.E2 a s l rest n y) fun h=>if (h.1 == 1)=true then loop (F.F7 a s l rest n h) ([],0) else loop (F.EL a s l rest n h) ([],0)))
  (fun i y _ hi A=>by
   have j:decide ((0:Int)<=((g - 1 - i:Nat):Int))=true:=decide_eq_true (by omega)
   have G:(g:Int) - 1 - (i:Int)=((g - 1 - i:Nat):Int):=by omega
   have k:∀c:UInt8,F.Fq y ((g - 1 - i:Nat):Int) c=some (.inl (y++[c],(g:Int) - 1 - ((i+1:Nat):Int))):=fun c=>by
    simp only[F.Fq]
    rw[ef (by simp; omega),ae,aJ (by omega) (by omega),show ((g - 1 - i:Nat):Int) - 1=(g:Int) - 1 - ((i+1:Nat):Int) by omega]
    rfl
   refine⟨?_,by simp[A]; omega⟩
   simp only[F.EH,G,j,if_true]
   by_cases h8:g - 1 - i<8
   ·have m:decide (((g - 1 - i:Nat):Int)<8)=true:=decide_eq_true (by omega)
    have I:wI (8*((g - 1 - i:Nat):Int))=((8*(g - 1 - i):Nat):Int):=by rw[aJ (by omega) (by omega)]; omega
    simp only[m,if_true,I]
    rw[grd_true _ (by omega),aS,Int.toNat_natCast,k]
    simp only[cV,h8,if_true]
   ·have m:decide (((g - 1 - i:Nat):Int)<8)=false:=decide_eq_false (by omega)
    simp only[m,Bool.false_eq_true,if_false]
    by_cases h9:g - 1 - i=8
    ·have o:(((g - 1 - i:Nat):Int) == 8)=true:=by rw[h9]; rfl
     have t:cV n (g - 1 - i)=(aO n 61).toUInt8:=by unfold cV; rw[if_neg h8,if_pos h9]
     simp only[o,if_true,k,t]
    ·have o:(((g - 1 - i:Nat):Int) == 8)=false:=by simp; omega
     have t:cV n (g - 1 - i)=0:=by unfold cV; rw[if_neg h8,if_neg h9]
     simp only[o,Bool.false_eq_true,if_false,k,t])
  (fun y A=>by
   have j:decide ((0:Int)<=(g:Int) - 1 - ((g:Nat):Int))=false:=decide_eq_false (by omega)
   simp only[F.EH,j,Bool.false_eq_true,if_false])
  g 0 x (Nat.le_refl _) (by omega) rfl
 have e:(g:Int) - 1 - ((0:Nat):Int)=((g - 1:Nat):Int):=by omega
 rw[e]at this
 refine this.trans ?_
 have J:=jY (fun i=>[cV n (g - 1 - i)]) g 0 x
 simp only[J]
 have K:∀r:L2,r.flatMap (fun i=>[cV n (g - 1 - i)])=r.map (fun i=>cV n (g - 1 - i)):=fun r=>by
  induction r with
  | nil=>rfl
  | cons p r ih=>rw[List.flatMap_cons,ih]; rfl
 rw[K]
theorem Cj (a:Int) (I:a=1\/a=2\/a=3) (D:L1) (s:L0) (l:List UInt64) (rest:L1) (n:UInt64) (hD:D.length<=900000000000000) (Y:Inv a (H0 a) D s l rest n) :
  F.IN a s l rest n=some (fU a D,a,s,l,rest,n):=by
 unfold F.IN
 rw[sD a I,ae]
 obtain⟨B,g⟩:∃B,Bk a=B:=⟨_,rfl⟩
 have J:B=64\/B=128:=by rw[<-g]; unfold Bk; split <;> simp
 have Z:=Y.2.2.2
 obtain⟨t,O⟩:∃t,D.length%B=t:=⟨_,rfl⟩
 have ct:t<B:=by rw[<-O]; exact Nat.mod_lt _ (by omega)
 have ab:(UInt64.ofInt ((B:Nat):Int)).toNat=B:=by rcases J with rfl | rfl <;> rfl
 have K:¬(UInt64.ofInt ((B:Nat):Int))=0:=by rcases J with rfl | rfl <;> decide
 have z:¬((B:Nat):Int)=0:=by omega
 have hN:n.toNat=D.length:=by rw[Z,UInt64.toNat_ofNat']; omega
 have R:(n%UInt64.ofInt ((B:Nat):Int)).toNat=t:=by rw[UInt64.toNat_mod,hN,ab,O]
 have hq:Int.tdiv ((B:Nat):Int) 8=((B / 8:Nat):Int):=by rcases J with rfl | rfl <;> rfl
 have w8:wI ((B / 8:Nat):Int)=((B / 8:Nat):Int):=aJ (by omega) (by omega)
 have w9:wI (((B:Nat):Int) - ((B / 8:Nat):Int))=((B - B / 8:Nat):Int):=by rw[aJ (by omega) (by omega)]; omega
 have wt:wI ((t:Nat):Int)=((t:Nat):Int):=aJ (by omega) (by omega)
 have A:∀j:Nat,j<=zc B t->(Int.tmod (wI (wI ((n%UInt64.ofInt ((B:Nat):Int)).toNat:Int)+((([128]++List.replicate j 0:L1)).length:Int))) ((B:Nat):Int) != wI (((B:Nat):Int) - wI (Int.tdiv ((B:Nat):Int) 8)))=decide (j≠zc B t):=by
  intro j hj
  have hz:zc B t<B:=Nat.mod_lt _ (by omega)
  rw[R,wt,hq,w8,w9]
  have hl:((([128]++List.replicate j 0:L1)).length:Int)=((1+j:Nat):Int):=by simp; omega
  rw[hl,aJ (by omega) (by omega),show ((t:Nat):Int)+((1+j:Nat):Int)=((t+(1+j):Nat):Int) by omega]
  have hm:Int.tmod ((t+(1+j):Nat):Int) ((B:Nat):Int)=(((t+(1+j))%B:Nat):Int):=rfl
  rw[hm]
  have M:(t+(1+j))%B=B - B / 8↔j=zc B t:=by
   unfold zc at hj hz ⊢
   rcases J with rfl | rfl <;> omega
  by_cases h:j=zc B t
  ·have:=M.2 h
   rw[this]; simp[h]
  ·have:¬(t+(1+j))%B=B - B / 8:=fun h'=>h (M.1 h')
   simp only[h,ne_eq,not_false_eq_true,decide_true,bne_iff_ne]
   omega
 have cx:zc B t<B:=Nat.mod_lt _ (by omega)
 have e1:=c8 (f:=F.Hn n ((B:Nat):Int) a s l rest) (fun (_:Unit) i=>([128]++List.replicate i 0:L1)) (fun _=>True) (fun _ _=>()) 0 (zc B t)
  (X:=fun _=>loop (F.EH a s l rest n) ([128]++List.replicate (zc B t) 0,((B / 8 - 1:Nat):Int)))
  (fun i _ _ hi _=>by
   refine⟨?_,trivial⟩
   unfold F.Hn
   simp only
   rw[grd_true _ K,grd_true _ z,A i (by omega),if_pos (decide_eq_true (by omega)),ef (by simp; omega),ae]
   simp only[List.append_assoc,List.replicate_succ']
   rfl)
  (fun _ _=>by
   unfold F.Hn
   simp only
   rw[grd_true _ K,grd_true _ z,A _ (Nat.le_refl _),if_neg (by simp),aS,hq,w8,aJ (by omega) (by omega),show ((B / 8:Nat):Int) - 1=((B / 8 - 1:Nat):Int) by omega])
  (zc B t) 0 () (Nat.le_refl _) (by omega) trivial
 rw[g]
 refine e1.trans ?_
 have N:=B1 a I s l rest n ([128]++List.replicate (zc B t) 0) (by simp; omega)
 rw[g]at N
 refine N.trans ?_
 have U:([128]++List.replicate (zc B t) 0)++(List.range' 0 (B / 8)).map (fun i=>cV n (B / 8 - 1 - i))=cJ B D:=by
  unfold cJ
  rw[O,Z]
 have hpl:=(mN a D).2
 rw[U]
 rw[g]at hpl
 obtain⟨s',k,r',n',hw,a2⟩:=sK a I (H0 a) (ph a) (cJ B D) D s l rest n (by omega) Y
 rw[hw,ae]
 have o:=a2.1
 rw[g]at o
 have m:=o7 a (H0 a) (D++cJ B D) ((D++cJ B D).length / B) (ph a)
 rw[<-o]at m
 by_cases h1:a=1
 ·have V:(a == 1)=true:=by simpa using h1
  simp only[V,if_true]
  have e3:=ca (f:=F.F7 a s l rest n (a,s',k,r',n')) (fun (x:L1) i=>(x,(i:Int))) (fun i x=>x.length=4*i) (fun x i=>x++q32 (s'.getD i 0)) 0 8
   (X:=fun x=>some (x,a,s,l,rest,n))
   (fun i x _ hi q=>by
    have G:decide ((i:Int)<8)=true:=decide_eq_true (by omega)
    refine⟨?_,by simp[q,q32]; omega⟩
    simp only[F.F7,G,if_true]
    rw[aP (show i<s'.length by have:=m.1; simp only at this; omega) 0,ae,ef (by simp; omega),ae,wI1 i (by omega)]
    rfl)
   (fun x _=>rfl) 8 0 [] (Nat.le_refl _) rfl rfl
  refine e3.trans ?_
  unfold fU k9
  rw[if_pos h1,g,<-o]
  rfl
 ·have V:(a == 1)=false:=by simpa using h1
  simp only[V,Bool.false_eq_true,if_false]
  have e5:=fun (i:Nat) (x:L1) (v:UInt64) (hi:i<8) (q:x.length=8*i)=>ca (f:=F.Hb (i:Int) v) (fun (x:L1) j=>(x,(56:Int) - 8*(j:Int))) (fun j y=>y.length=8*i+j) (fun y j=>y++[(aO v (56 - 8*j)).toUInt8]) 0 8
   (X:=fun y=>(some (.inl (y,((i+1:Nat):Int))):Option ((L1×Int)⊕(L1×Int×L0×List UInt64×L1×UInt64))))
   (fun j y _ hj hy=>by
    have G:decide ((0:Int)<=56 - 8*(j:Int))=true:=decide_eq_true (by omega)
    refine⟨?_,by simp[hy]; omega⟩
    simp only[F.Hb,G,if_true]
    rw[grd_true _ (by omega),ef (by simp; omega),ae,show ((56:Int) - 8*(j:Int)).toNat=56 - 8*j by omega,aJ (by omega) (by omega),show (56:Int) - 8*(j:Int) - 8=56 - 8*((j+1:Nat):Int) by omega]
    rfl)
   (fun y _=>by
    simp only[F.Hb,show decide ((0:Int)<=56 - 8*((8:Nat):Int))=false from rfl,Bool.false_eq_true,if_false,wI1 i (by omega)]
    rfl) 8 0 x (Nat.le_refl _) rfl (by omega)
  have a3:F.ER a=some ((Sz a:Nat):Int)/\Sz a<=64:=by
   rcases I with rfl | rfl | rfl
   ·exact absurd rfl h1
   ·exact⟨rfl,by decide⟩
   ·exact⟨rfl,by decide⟩
  have e4:=ca (f:=F.EL a s l rest n (a,s',k,r',n')) (fun (x:L1) i=>(x,(i:Int))) (fun i x=>x.length=8*i) (fun x i=>x++q64 (k.getD i 0)) 0 8
   (X:=fun x=>some (x.take (Sz a),a,s,l,rest,n))
   (fun i x _ hi q=>by
    have G:decide ((i:Int)<8)=true:=decide_eq_true (by omega)
    refine⟨?_,by simp only[List.length_append,qv,q]; omega⟩
    simp only[F.EL,G,if_true]
    rw[aP (show i<k.length by have:=m.2; simp only at this; omega) 0,ae]
    refine (e5 i x _ hi q).trans ?_
    have hf:=jY (fun j=>[(aO (k.getD i 0) (56 - 8*j)).toUInt8]) 8 0 x
    simp only[hf]
    have:(List.range' 0 8).flatMap (fun j=>[(aO (k.getD i 0) (56 - 8*j)).toUInt8])=q64 (k.getD i 0):=rfl
    rw[this])
   (fun x q=>by
    simp only[F.EL,show decide (((8:Nat):Int)<8)=false from rfl,Bool.false_eq_true,if_false]
    rw[a3.1,ae,ae,grd_true _ ⟨by omega,by rw[Int.toNat_natCast]; omega,rfl⟩,Int.toNat_natCast])
   8 0 [] (Nat.le_refl _) rfl rfl
  refine e4.trans ?_
  unfold fU k9
  rw[if_neg h1,g,<-o]
  rfl
theorem Cf (a:Int) (f:a=1\/a=2\/a=3):F.Jr a=some (some (a,(H0 a).1,(H0 a).2,List.replicate 128 0,0)):=by
 rcases f with rfl | rfl | rfl <;> rfl
theorem Dh (a:Int):Inv a (H0 a) [] (H0 a).1 (H0 a).2 (List.replicate 128 0) 0:=by
 refine⟨?_,by simp,by simp,rfl⟩
 simp[gk]
theorem v9 (a:Int) (k:a=1\/a=2\/a=3) (f:List L1) (J:f.length<=1000) (B:f.flatten.length<=900000000000000):F.GS a f=some (fU a f.flatten):=by
 unfold F.GS
 rw[Cf a k,ae]
 show loop (F.E4 f) (0,a,(H0 a).1,(H0 a).2,List.replicate 128 0,0)=_
 have q:∀(r i:Nat) (s:L0) (l:List UInt64) (rest:L1) (n:UInt64),i+r=f.length->Inv a (H0 a) (f.take i).flatten s l rest n->loop (F.E4 f) ((i:Int),a,s,l,rest,n)=some (fU a f.flatten):=by
  intro r
  induction r with
  | zero=>
   intro i s l rest n hi m
   have o:decide ((i:Int)<(f.length:Int))=false:=decide_eq_false (by omega)
   have t:Inv a (H0 a) f.flatten s l rest n:=by rwa [List.take_of_length_le (by omega)]at m
   refine cQ (r:=fU a f.flatten) ?_
   simp only[F.E4,o,Bool.false_eq_true,if_false]
   rw[Cj a k _ s l rest n B t,ae]
   rfl
  | succ r ih=>
   intro i s l rest n hi m
   have o:decide ((i:Int)<(f.length:Int))=true:=decide_eq_true (by omega)
   have g:i<f.length:=by omega
   have h:(f.take (i+1)).flatten=(f.take i).flatten++f[i]:=by rw[List.take_succ_eq_append_getElem g,List.flatten_append]; simp
   have x:(f.take (i+1)).flatten.length<=f.flatten.length:=by
    have:f.flatten=(f.take (i+1)).flatten++(f.drop (i+1)).flatten:=by rw[<-List.flatten_append,List.take_append_drop]
    rw[this,List.length_append]; omega
   rw[h,List.length_append]at x
   obtain⟨s',y,z,A,G,j⟩:=sK a k (H0 a) (ph a) f[i] _ s l rest n (by omega) m
   rw[<-h]at j
   have I:F.E4 f ((i:Int),a,s,l,rest,n)=some (.inl (((i+1:Nat):Int),a,s',y,z,A)):=by
    simp only[F.E4,o,if_true]
    rw[ig g,ae,G,ae,wI1 i (by omega)]
    rfl
   rw[bJ I]
   exact ih (i+1) s' y z A (by omega) j
 exact q f.length 0 _ _ _ _ (by omega) (by simpa using Dh a)
end Go.Gk.Sh
end

section
namespace Go.Gk.Sh
open Go Go.Gk
theorem xh (x:UInt64):(x &&& 255).toUInt8=x.toUInt8:=by
 apply UInt8.toNat_inj.1
 rw[UInt64.toNat_toUInt8,UInt64.toNat_toUInt8,UInt64.toNat_and]
 have:(255:UInt64).toNat=2^8 - 1:=rfl
 rw[this,Nat.and_two_pow_sub_one_eq_mod]
 omega
theorem qE (x:UInt32):(x &&& 255).toUInt8=x.toUInt8:=by
 apply UInt8.toNat_inj.1
 rw[UInt32.toNat_toUInt8,UInt32.toNat_toUInt8,UInt32.toNat_and]
 have:(255:UInt32).toNat=2^8 - 1:=rfl
 rw[this,Nat.and_two_pow_sub_one_eq_mod]
 omega
theorem CS (n:UInt64):n*8=bH n 3:=by
 apply UInt64.toNat_inj.1
 rw[UInt64.toNat_mul,jg]
 rfl
def zr (B r:Nat):Nat:=(2*B - 8 - (r+1))%B
def jA (n:UInt64):L1:=(List.range' 0 8).map (fun i=>cV n (7 - i))
theorem tq {β:Type} (f:Nat->β):∀r:L2,r.flatMap (fun i=>[f i])=r.map f
 | []=>rfl
 | p :: r=>by rw[List.flatMap_cons,tq f r]; rfl
theorem rs (B:Nat) (G:B=64\/B=128) (D:L1) (Y:D.length<=200000000000000) :
  F.GR D ((B:Nat):Int)=some (D++([128]++List.replicate (zr B (D.length%B)) 0)++jA (UInt64.ofNat D.length)):=by
 unfold F.GR
 rw[ef (by simp; omega),ae,List.nil_append,ef (by simp; omega),ae]
 obtain⟨t,x⟩:∃t,D.length%B=t:=⟨_,rfl⟩
 have V:t<B:=by rw[<-x]; exact Nat.mod_lt _ (by omega)
 have g:¬((B:Nat):Int)=0:=by omega
 have z:zr B t<B:=Nat.mod_lt _ (by omega)
 have I:wI (((B:Nat):Int) - 8)=((B - 8:Nat):Int):=by rw[aJ (by omega) (by omega)]; omega
 have k:∀j:Nat,j<=zr B t->(Int.tmod (((D++[128]++List.replicate j 0:L1)).length:Int) ((B:Nat):Int) != wI (((B:Nat):Int) - 8))=decide (j≠zr B t):=by
  intro j J
  rw[I]
  have K:(((D++[128]++List.replicate j 0:L1)).length:Int)=((D.length+(1+j):Nat):Int):=by simp; omega
  rw[K]
  have M:Int.tmod ((D.length+(1+j):Nat):Int) ((B:Nat):Int)=(((D.length+(1+j))%B:Nat):Int):=rfl
  rw[M]
  have m:(D.length+(1+j))%B=B - 8↔j=zr B t:=by
   unfold zr at J z ⊢
   rcases G with rfl | rfl <;> omega
  by_cases h:j=zr B t
  ·have:=m.2 h
   rw[this]; simp[h]
  ·have:¬(D.length+(1+j))%B=B - 8:=fun N=>h (m.1 N)
   simp only[h,ne_eq,not_false_eq_true,decide_true,bne_iff_ne]
   omega
 have o:UInt64.ofInt (D.length:Int)=UInt64.ofNat D.length:=by
  apply UInt64.toNat_inj.1
  rw[mm _ (by omega),UInt64.toNat_ofNat']; omega
 have q:=c8 (f:=F.FW D ((B:Nat):Int)) (fun (_:Unit) i=>(D++[128]++List.replicate i 0:L1)) (fun _=>True) (fun _ _=>()) 0 (zr B t)
  (X:=fun _=>loop (F.FQ (UInt64.ofNat D.length*8)) (D++[128]++List.replicate (zr B t) 0,7))
  (fun i _ _ hi _=>by
   refine⟨?_,trivial⟩
   unfold F.FW
   simp only
   rw[grd_true _ g,k i (by omega),if_pos (decide_eq_true (by omega)),ef (by simp; omega),ae]
   simp only[List.append_assoc,List.replicate_succ']
   rfl)
  (fun _ _=>by
   unfold F.FW
   simp only
   rw[grd_true _ g,k _ (Nat.le_refl _),if_neg (by simp),aS,o])
  (zr B t) 0 () (Nat.le_refl _) (by omega) trivial
 have A:loop (F.FW D ((B:Nat):Int)) (D++[128])=loop (F.FQ (UInt64.ofNat D.length*8)) (D++[128]++List.replicate (zr B t) 0,7):=by simpa using q
 rw[A]
 have O:=ca (f:=F.FQ (UInt64.ofNat D.length*8)) (fun (y:L1) i=>(y,(7:Int) - (i:Int))) (fun i y=>y.length<=200000000000500+i) (fun y i=>y++[cV (UInt64.ofNat D.length) (7 - i)]) 0 8
  (X:=fun y=>some y)
  (fun i y _ hi Z=>by
   have q:(7:Int) - (i:Int)=((7 - i:Nat):Int):=by omega
   have R:decide ((0:Int)<=((7 - i:Nat):Int))=true:=decide_eq_true (by omega)
   have U:wI (8*((7 - i:Nat):Int))=((8*(7 - i):Nat):Int):=by rw[aJ (by omega) (by omega)]; omega
   refine⟨?_,by simp; omega⟩
   simp only[F.FQ,q,R,if_true,U]
   rw[ef (by simp; omega),ae,aJ (by omega) (by omega),mm _ (by omega),xh,CS,show ((7 - i:Nat):Int) - 1=(7:Int) - ((i+1:Nat):Int) by omega]
   have:cV (UInt64.ofNat D.length) (7 - i)=(aO (bH (UInt64.ofNat D.length) 3) (8*(7 - i))).toUInt8:=by unfold cV; rw[if_pos (by omega)]
   rw[this]
   rfl)
  (fun y _=>rfl) 8 0 (D++[128]++List.replicate (zr B t) 0) (Nat.le_refl _) rfl (by simp; omega)
 refine O.trans ?_
 rw[jY (fun i=>[cV (UInt64.ofNat D.length) (7 - i)]),tq]
 rw[x]
 simp only[List.append_assoc]
 rfl
theorem zf (D:L1) (N:D.length<=200000000000000):F.If D=some (fU 1 D):=by
 unfold F.If
 rw[show (64:Int)=((64:Nat):Int) from rfl,rs 64 (.inl rfl) D (by omega),ae]
 have A:D++([128]++List.replicate (zr 64 (D.length%64)) 0)++jA (UInt64.ofNat D.length)=D++cJ 64 D:=by
  rw[List.append_assoc]; rfl
 rw[A]
 obtain⟨o,B⟩:=mN 1 D
 have q:Bk 1=64:=rfl
 rw[q]at o B
 obtain⟨k,G⟩:∃k,(D++cJ 64 D).length=64*k:=⟨_,(Nat.mul_div_cancel' (Nat.dvd_of_mod_eq_zero o)).symm⟩
 have t:(D++cJ 64 D).length<=1000000000000000:=by rw[List.length_append]; omega
 have I:=c8 (f:=F.Gr (D++cJ 64 D)) (fun (h:L0) i=>(((64*i:Nat):Int),h)) (fun h=>h.length=8) (fun h i=>gH h ((D++cJ 64 D).drop (64*i))) 0 k
  (X:=fun h=>loop (F.Gj h) ([],0))
  (fun i h _ hi y=>by
   have j:decide (((64*i:Nat):Int)<((D++cJ 64 D).length:Int))=true:=decide_eq_true (by omega)
   refine⟨?_,s9 _ _ y⟩
   unfold F.Gr
   simp only[j,if_true]
   rw[rO _ (64*i) h y (by omega) t,show 64*i+64=64*(i+1) by omega])
  (fun h _=>by
   have j:decide (((64*k:Nat):Int)<((D++cJ 64 D).length:Int))=false:=decide_eq_false (by omega)
   unfold F.Gr
   simp only[j,Bool.false_eq_true,if_false])
  k 0 F.DF (Nat.le_refl _) (by omega) rfl
 refine I.trans ?_
 have g:(List.range' 0 k).foldl (fun h i=>gH h ((D++cJ 64 D).drop (64*i))) F.DF=(gk 1 (H0 1) (D++cJ 64 D) k).1:=by
  unfold gk
  have:∀(r i:Nat) (h:L0) (l:List UInt64),(List.range' i r).foldl (fun h i=>gH h ((D++cJ 64 D).drop (64*i))) h=((List.range' i r).foldl (fun H i=>mix 1 H ((D++cJ 64 D).drop (Bk 1*i))) (h,l)).1:=by
   intro r
   induction r with
   | zero=>intro i h l; rfl
   | succ r ih=>intro i h l; rw[List.range'_succ,List.foldl_cons,List.foldl_cons]; exact ih (i+1) _ _
  exact this k 0 _ _
 rw[g]
 have m:=o7 1 (H0 1) (D++cJ 64 D) k (ph 1)
 obtain⟨H,z⟩:∃H,gk 1 (H0 1) (D++cJ 64 D) k=H:=⟨_,rfl⟩
 rw[z]at m ⊢
 have J:=ca (f:=F.Gj H.1) (fun (x:L1) i=>(x,(i:Int))) (fun i x=>x.length=4*i) (fun x i=>x++q32 (H.1.getD i 0)) 0 8
  (X:=fun x=>some x)
  (fun i x _ hi K=>by
   have M:decide ((i:Int)<8)=true:=decide_eq_true (by omega)
   refine⟨?_,by simp[K,q32]; omega⟩
   simp only[F.Gj,M,if_true]
   rw[aP (show i<H.1.length by omega) 0,ae,ae,ae,ae,ef (by simp; omega),ae,wI1 i (by omega),qE,qE,qE]
   rfl)
  (fun x _=>rfl) 8 0 [] (Nat.le_refl _) rfl rfl
 refine J.trans ?_
 unfold fU k9
 rw[if_pos rfl,q,G,Nat.mul_div_cancel_left _ (by omega),z]
 rfl
theorem CZ (n:Nat) (h:n<=1000000000000000):(aO (UInt64.ofNat n) 61).toUInt8=0:=by
 have:aO (UInt64.ofNat n) 61=0:=by
  apply UInt64.toNat_inj.1
  rw[ea,UInt64.toNat_ofNat']
  have:n%2^64 / 2^(min 61 64)=0:=by
   rw[show min 61 64=61 from rfl]; omega
  rw[this]; rfl
 rw[this]; rfl
theorem CN (D:L1) (f:D.length<=1000000000000000):cJ 128 D=([128]++List.replicate (zc 128 (D.length%128)+8) 0)++jA (UInt64.ofNat D.length):=by
 unfold cJ jA
 have h:(List.range' 0 (128 / 8)).map (fun i=>cV (UInt64.ofNat D.length) (128 / 8 - 1 - i))=List.replicate 8 0++(List.range' 0 8).map (fun i=>cV (UInt64.ofNat D.length) (7 - i)):=by
  have g:cV (UInt64.ofNat D.length) 8=0:=by
   unfold cV
   rw[if_neg (by omega),if_pos rfl,CZ _ f]
  show [cV _ 15,cV _ 14,cV _ 13,cV _ 12,cV _ 11,cV _ 10,cV _ 9,cV _ 8,cV _ 7,cV _ 6,cV _ 5,cV _ 4,cV _ 3,cV _ 2,cV _ 1,cV _ 0]=[0,0,0,0,0,0,0,0,cV _ 7,cV _ 6,cV _ 5,cV _ 4,cV _ 3,cV _ 2,cV _ 1,cV _ 0]
  rw[g]
  rfl
 rw[h,<-List.replicate_append_replicate]
 simp only[List.append_assoc]
theorem pe (A f:L1) (g:List UInt64) (h:f.length=8) (k:A.length<=200000000000500) (j:wI (((A++f).length:Int) - 8)=((A.length:Nat):Int)):∀(r i:Nat),i+r=128 ->
  loop (F.F0 (A++f) g) (A++List.replicate (128 - r) 0,((128 - r:Nat):Int))=F.FL g (A++List.replicate 128 0++f)
 | 0,i,hi=>by
  refine bL ?_
  simp only[F.F0,show decide (((128 - 0:Nat):Int)<128)=false from rfl,Bool.false_eq_true,if_false]
  rw[j,mU (by simp),ae,List.drop_left,ef (by rw[h]; simp; omega),ae]
 | r+1,i,hi=>by
  have m:decide (((128 - (r+1):Nat):Int)<128)=true:=decide_eq_true (by omega)
  have o:F.F0 (A++f) g (A++List.replicate (128 - (r+1)) 0,((128 - (r+1):Nat):Int))=some (.inl (A++List.replicate (128 - r) 0,((128 - r:Nat):Int))):=by
   simp only[F.F0,m,if_true]
   rw[ef (by simp; omega),ae,aJ (by omega) (by omega),List.append_assoc,<-List.replicate_succ',show 128 - (r+1)+1=128 - r by omega,show ((128 - (r+1):Nat):Int)+1=((128 - r:Nat):Int) by omega]
   rfl
  rw[bJ o]
  exact pe A f g h k j r (i+1) (by omega)
theorem vh (D:L1) (g:List UInt64) (z:g.length=8) (hD:D.length<=200000000000000) :
  F.HC D g=some (pH ((List.range' 0 ((D++cJ 128 D).length / 128)).foldl (fun h i=>fh h ((D++cJ 128 D).drop (128*i))) g)):=by
 have Z:Bk 2=128:=rfl
 obtain⟨N,hP⟩:=mN 2 D
 rw[Z]at N hP
 obtain⟨k,hk⟩:∃k,(D++cJ 128 D).length=128*k:=⟨_,(Nat.mul_div_cancel' (Nat.dvd_of_mod_eq_zero N)).symm⟩
 have O:(D++cJ 128 D).length<=1000000000000000:=by rw[List.length_append]; omega
 have B:F.FL g (D++cJ 128 D)=some (pH ((List.range' 0 ((D++cJ 128 D).length / 128)).foldl (fun h i=>fh h ((D++cJ 128 D).drop (128*i))) g)):=by
  unfold F.FL
  have I:=c8 (f:=F.HT (D++cJ 128 D)) (fun (h:List UInt64) i=>(((128*i:Nat):Int),h)) (fun h=>h.length=8) (fun h i=>fh h ((D++cJ 128 D).drop (128*i))) 0 k
   (X:=fun h=>loop (F.HK h) ([],0))
   (fun i h _ hi R=>by
    have m:decide (((128*i:Nat):Int)<((D++cJ 128 D).length:Int))=true:=decide_eq_true (by omega)
    refine⟨?_,mf _ _ R⟩
    unfold F.HT
    simp only[m,if_true]
    rw[rU _ (128*i) h R (by omega) O,show 128*i+128=128*(i+1) by omega])
   (fun h _=>by
    have m:decide (((128*k:Nat):Int)<((D++cJ 128 D).length:Int))=false:=decide_eq_false (by omega)
    unfold F.HT
    simp only[m,Bool.false_eq_true,if_false])
   k 0 g (Nat.le_refl _) (by omega) z
  refine I.trans ?_
  rw[hk,Nat.mul_div_cancel_left _ (by omega)]
  have J:=hU (fun h:List UInt64=>h.length=8) (fun h i=>fh h ((D++cJ 128 D).drop (128*i))) (fun i x t=>mf _ _ t) k 0 g z
  obtain⟨H,hH⟩:∃H,(List.range' 0 k).foldl (fun h i=>fh h ((D++cJ 128 D).drop (128*i))) g=H:=⟨_,rfl⟩
  rw[hH]at J ⊢
  have e7:=fun (i:Nat) (x:L1) (hi:i<8) (t:x.length=8*i)=>ca (f:=F.GH H (i:Int)) (fun (x:L1) j=>(x,(7:Int) - (j:Int))) (fun j y=>y.length=8*i+j) (fun y j=>y++[(aO (H.getD i 0) (56 - 8*j)).toUInt8]) 0 8
   (X:=fun y=>(some (.inl (y,((i+1:Nat):Int))):Option ((L1×Int)⊕L1)))
   (fun j y _ hj hy=>by
    have I:(7:Int) - (j:Int)=((7 - j:Nat):Int):=by omega
    have o:decide ((0:Int)<=((7 - j:Nat):Int))=true:=decide_eq_true (by omega)
    have m8:wI (8*((7 - j:Nat):Int))=((56 - 8*j:Nat):Int):=by rw[aJ (by omega) (by omega)]; omega
    refine⟨?_,by simp[hy]; omega⟩
    simp only[F.GH,I,o,if_true,m8]
    rw[aP (show i<H.length by omega) 0,ae,ef (by simp; omega),ae,aJ (by omega) (by omega),mm _ (by omega),xh,show ((7 - j:Nat):Int) - 1=(7:Int) - ((j+1:Nat):Int) by omega]
    rfl)
   (fun y _=>by
    simp only[F.GH,show decide ((0:Int)<=7 - ((8:Nat):Int))=false from rfl,Bool.false_eq_true,if_false,wI1 i (by omega)]
    rfl) 8 0 x (Nat.le_refl _) rfl (by omega)
  have e6:=ca (f:=F.HK H) (fun (x:L1) i=>(x,(i:Int))) (fun i x=>x.length=8*i) (fun x i=>x++q64 (H.getD i 0)) 0 8
   (X:=fun x=>some x)
   (fun i x _ hi t=>by
    have o:decide ((i:Int)<8)=true:=decide_eq_true (by omega)
    refine⟨?_,by simp only[List.length_append,qv,t]; omega⟩
    simp only[F.HK,o,if_true]
    refine (e7 i x hi t).trans ?_
    have hf:=jY (fun j=>[(aO (H.getD i 0) (56 - 8*j)).toUInt8]) 8 0 x
    simp only[hf]
    have:(List.range' 0 8).flatMap (fun j=>[(aO (H.getD i 0) (56 - 8*j)).toUInt8])=q64 (H.getD i 0):=rfl
    rw[this])
   (fun x _=>rfl) 8 0 [] (Nat.le_refl _) rfl rfl
  exact e6
 unfold F.HC
 rw[show (128:Int)=((128:Nat):Int) from rfl,rs 128 (.inr rfl) D (by omega),ae]
 have hm:Int.tmod (D.length:Int) ((128:Nat):Int)=((D.length%128:Nat):Int):=rfl
 rw[hm]
 obtain⟨r,U⟩:∃r,D.length%128=r:=⟨_,rfl⟩
 have Y:r<128:=by omega
 rw[U]
 have q:=CN D (by omega)
 rw[U]at q
 by_cases hc:112<=r/\r<120
 ·have m:decide ((112:Int)<=((r:Nat):Int))=true:=decide_eq_true (by omega)
  have o:decide (((r:Nat):Int)<120)=true:=decide_eq_true (by omega)
  have K:zr 128 r+128=zc 128 r+8:=by unfold zr zc; omega
  rw[m,if_pos rfl,o]
  unfold F.Ik
  simp only[if_true]
  have G:(jA (UInt64.ofNat D.length)).length=8:=by simp[jA]
  have bx:zr 128 r<128:=Nat.mod_lt _ (by omega)
  obtain⟨A,M⟩:∃A,D++([128]++List.replicate (zr 128 r) 0)=A:=⟨_,rfl⟩
  have b2:A.length=D.length+1+zr 128 r:=by rw[<-M]; simp; omega
  rw[M]
  have V:wI (((A++jA (UInt64.ofNat D.length)).length:Int) - 8)=((A.length:Nat):Int):=by rw[List.length_append,G,aJ (by omega) (by omega)]; omega
  rw[V,grd_true _ ⟨by omega,by rw[Int.toNat_natCast,List.length_append]; omega⟩,Int.toNat_natCast,List.take_left,ef (by simp; omega),ae,List.nil_append]
  have e8:=pe A (jA (UInt64.ofNat D.length)) g G (by omega) V 128 0 rfl
  rw[Nat.sub_self,List.replicate_zero,List.append_nil]at e8
  refine e8.trans ?_
  rw[<-B]
  have hX:A++List.replicate 128 0++jA (UInt64.ofNat D.length)=D++cJ 128 D:=by
   rw[q,<-M,<-K,<-List.replicate_append_replicate]
   simp only[List.append_assoc]
  rw[hX]
 ·have K:zr 128 r=zc 128 r+8:=by unfold zr zc; omega
  have hM:D++([128]++List.replicate (zr 128 r) 0)++jA (UInt64.ofNat D.length)=D++cJ 128 D:=by
   rw[q,K,List.append_assoc]
  rw[hM,<-B]
  by_cases h1:112<=r
  ·have m:decide ((112:Int)<=((r:Nat):Int))=true:=decide_eq_true (by omega)
   have o:decide (((r:Nat):Int)<120)=false:=decide_eq_false (by omega)
   rw[m,if_pos rfl,o]; rfl
  ·have m:decide ((112:Int)<=((r:Nat):Int))=false:=decide_eq_false (by omega)
   rw[m,if_neg (by simp)]; rfl
theorem wV (a:Int) (m:a=1\/a=2\/a=3) (D:L1) (f:D.length<=200000000000000):F.IK a D=some (fU a D):=by
 have g:∀a:Int,a≠1->(H0 a).2.length=8->(List.range' 0 ((D++cJ 128 D).length / 128)).foldl (fun h i=>fh h ((D++cJ 128 D).drop (128*i))) (H0 a).2=(gk a (H0 a) (D++cJ (Bk a) D) ((D++cJ (Bk a) D).length / Bk a)).2:=by
  intro a j _
  have k:Bk a=128:=by unfold Bk; rw[if_neg j]
  rw[k]
  unfold gk
  rw[k]
  have:∀(r i:Nat) (s:L0) (h:List UInt64),(List.range' i r).foldl (fun h i=>fh h ((D++cJ 128 D).drop (128*i))) h=((List.range' i r).foldl (fun H i=>mix a H ((D++cJ 128 D).drop (128*i))) (s,h)).2:=by
   intro r
   induction r with
   | zero=>intro i s h; rfl
   | succ r ih=>
    intro i s h
    rw[List.range'_succ,List.foldl_cons,List.foldl_cons]
    have o:mix a (s,h) ((D++cJ 128 D).drop (128*i))=(s,fh h ((D++cJ 128 D).drop (128*i))):=by unfold mix; rw[if_neg j]
    rw[o]
    exact ih (i+1) _ _
  exact this _ 0 (H0 a).1 (H0 a).2
 unfold F.IK
 rcases m with rfl | rfl | rfl
 ·simp only[beq_self_eq_true,if_true]
  rw[zf D f,ae]
 ·rw[if_neg (by decide),if_pos (by decide),vh D _ rfl f,ae,grd_true _ ⟨by omega,by rw[na]; decide⟩]
  have:=g 2 (by decide) rfl
  rw[show (H0 2).2=F.DX from rfl]at this
  rw[this]
  rfl
 ·rw[if_neg (by decide),if_neg (by decide),if_pos (by decide),vh D _ rfl f,ae]
  have:=g 3 (by decide) rfl
  rw[show (H0 3).2=F.DO from rfl]at this
  rw[this]
  unfold fU k9
  rw[if_neg (by decide),List.take_of_length_le (by rw[na]; decide)]
end Go.Gk.Sh
end
