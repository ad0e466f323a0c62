import Derived.Test.YtmegjloifgfldaaGreatDoorGkW4
import Derived.Test.YtmegjloifgfldaaGreatDoorGkFb64
import Derived.Test.YtmegjloifgfldaaGreatDoorGkP1
import Derived.Test.YtmegjloifgfldaaGreatDoorGkP0
set_option linter.unusedVariables false
set_option linter.unusedSimpArgs false
set_option linter.unusedSectionVars false

section
namespace Go.Gk.Sh
open Go Go.Gk
theorem DY (v:UInt32):(q32 v).length=4:=by simp[q32]
theorem AT (s:Q0):(tx s).length=32:=by
 unfold tx
 have:=cQ (fun i (x:Q1)=>x.length=4*i) (fun x i=>x++q32 (s.getD i 0)) (fun i x hx=>by simp only[List.length_append,DY,hx]; omega) 8 0 [] rfl
 simpa using this
theorem mT (a:Int) (D:Q1):(cT a D).length=Sz a:=by
 unfold cT nX
 split
 ·rename_i h; rw[AT]; unfold Sz; rw[if_pos h]
 ·rename_i h
  rw[List.length_take,sE]; unfold Sz; rw[if_neg h]; split <;> rfl
theorem x6 (a:Int):Sz a<=64:=by unfold Sz; split; decide; split <;> decide
theorem yp (a:Int):64<=Bk a/\Bk a<=128:=by unfold Bk; split <;> omega
def pY (a:Int) (key:Q1):Q1:=if Bk a<key.length then cT a key else key
def oV (a:Int) (key:Q1) (w:UInt8):Q1:=(List.range' 0 (Bk a)).map (fun i=>(pY a key).getD i 0 ^^^ w)
theorem su (a:Int) (f:Q1) (w:UInt8):(oV a f w).length=Bk a:=by simp[oV]
theorem CG (a:Int) (f:Q1):(pY a f).length<=Bk a:=by
 unfold pY
 split
 ·rw[mT]; exact Nat.le_trans (x6 a) (yp a).1
 ·omega
theorem CE {f:Int×Q1->Option ((Int×Q1)⊕Q1)} (w:UInt8) (B:Nat) (t:B<=1000)
  (g:∀i x,f (i,x)=if decide (i<(B:Int))=true then (ah (aC x i) fun a=>ah (aC x i) fun b=>bq (x.set i.toNat (a ^^^ w)) fun y=>bN (wI (i+1),y)) else bz (some x))
  (l:Q1) (hl:l.length=B):loop f (0,l)=some (l.map (· ^^^ w)):=by
 have j:∀(r i:Nat),i+r=B->loop f ((i:Int),(l.take i).map (· ^^^ w)++l.drop i)=some (l.map (· ^^^ w)):=by
  intro r
  induction r with
  | zero=>
   intro i h
   refine bu ?_
   rw[g,decide_eq_false (by omega),List.take_of_length_le (by omega),List.drop_of_length_le (by omega),List.append_nil]
   rfl
  | succ r ih=>
   intro i h
   have hi:i<l.length:=by omega
   have k:((l.take i).map (· ^^^ w)++l.drop i).length=B:=by simp; omega
   have hg:aC ((l.take i).map (· ^^^ w)++l.drop i) (i:Int)=some l[i]:=by
    rw[fO (by omega),List.getElem_append_right (by simp; omega)]
    congr 1
    simp; congr 1; omega
   have hs:f ((i:Int),(l.take i).map (· ^^^ w)++l.drop i)=some (.inl (((i+1:Nat):Int),(l.take (i+1)).map (· ^^^ w)++l.drop (i+1))):=by
    rw[g,decide_eq_true (by omega),hg]
    simp only[if_true,ae,aV,Int.toNat_natCast]
    rw[aI (by omega) (by omega),List.set_append_right _ _ (by simp; omega),List.drop_eq_getElem_cons hi,List.take_succ_eq_append_getElem hi]
    have o:i - ((l.take i).map (· ^^^ w)).length=0:=by simp; omega
    rw[o,List.set_cons_zero,List.map_append,List.append_assoc]
    rfl
   rw[bB hs]
   exact ih (i+1) (by omega)
 have:=j B 0 (by omega)
 simpa using this
theorem wP (a:Int) (k:Q1) (B:Nat) (w:UInt8) (g:k.length<=B):(cpL (List.replicate B 0) k 0 B).map (· ^^^ w)=(List.range' 0 B).map (fun i=>k.getD i 0 ^^^ w):=by
 have hl:(cpL (List.replicate B (0:UInt8)) k 0 B).length=B:=by rw[ej _ _ _ _ (by omega) (by simp)]; simp
 refine List.ext_getElem (by simp[hl]) fun i f j=>?_
 simp only[List.getElem_map,List.getElem_range',Nat.zero_add,Nat.one_mul]
 congr 1
 unfold cpL
 rw[List.getD_eq_getElem?_getD]
 simp only[List.take_zero,List.nil_append,Nat.sub_zero,Nat.zero_add]
 have hi:i<B:=by simpa [hl] using f
 by_cases h:i<k.length
 ·rw[List.getElem_append_left (by simp; omega),List.getElem_take,List.getElem?_eq_getElem h]; rfl
 ·rw[List.getElem_append_right (by simp; omega),List.getElem_drop,List.getElem_replicate,List.getElem?_eq_none (by omega)]; rfl
section
variable (a:Int) (ha:a=1\/a=2\/a=3)
include ha
theorem py (g:Q1) (w:UInt8) (t:g.length<=150000000000000):F.J0 a g w=some (oV a g w):=by
 unfold F.J0 oV
 have z:=yp a
 have k:=CG a g
 have j:∀(f:Int×Q1->Option ((Int×Q1)⊕Q1)),(∀i x,f (i,x)=if decide (i<(Bk a:Int))=true then (ah (aC x i) fun a=>ah (aC x i) fun b=>bq (x.set i.toNat (a ^^^ w)) fun y=>bN (wI (i+1),y)) else bz (some x)) ->
   loop f (0,cpL (List.replicate (Bk a) 0) (pY a g) 0 (Bk a))=some ((List.range' 0 (Bk a)).map (fun i=>(pY a g).getD i 0 ^^^ w)):=by
  intro f o
  rw[CE w (Bk a) (by omega) o _ (by rw[ej _ _ _ _ (by omega) (by simp)]; simp),wP a _ _ w k]
 have hm:mkO 1 ((Bk a:Nat):Int) ((Bk a:Nat):Int) (0:UInt8)=some (List.replicate (Bk a) 0):=by rw[dv (by omega)]; simp
 rw[pM a ha,ae]
 by_cases h:Bk a<g.length
 ·rw[if_pos (decide_eq_true (by omega)),ge a ha [g] (by simp) (by simp; omega),ae,ae,hm,ae,aV,ae,List.length_replicate]
  have:=j (F.Mf w ((Bk a:Nat):Int)) (fun i x=>rfl)
  rw[show pY a g=cT a g from if_pos h]at this ⊢
  simpa using this
 ·rw[if_neg (by simp; omega),ae,hm,ae,aV,ae,List.length_replicate]
  have:=j (F.Mc w ((Bk a:Nat):Int)) (fun i x=>rfl)
  rw[show pY a g=g from if_neg h]at this ⊢
  exact this
def gt (a:Int) (key data:Q1):Q1:=cT a (oV a key 92++cT a (oV a key 54++data))
theorem pC (f g:Q1) (h:f.length<=150000000000000) (k:g.length<=150000000000000):F.KC a f g=some (gt a f g):=by
 unfold F.KC gt
 have o:=yp a
 have t:=x6 a
 have i:F.GH a=some ((Sz a:Nat):Int):=by rcases ha with rfl | rfl | rfl <;> rfl
 have j:(((Sz a:Nat):Int) == 0)=false:=by rcases ha with rfl | rfl | rfl <;> rfl
 rw[i,ae,j,if_neg (by simp),py a ha f 92 h,ae,py a ha f 54 h,ae,ge a ha _ (by simp) (by simp[su]; omega),ae,
  ge a ha _ (by simp) (by simp[su,mT]; omega),ae]
 simp
end
end Go.Gk.Sh
end

section
namespace Go.Gk.Sh
open Go Go.Gk
def iR (a:Int):Prop:=a=1\/a=2\/a=3
instance (a:Int):Decidable (iR a):=by unfold iR; infer_instance
def yz (a:Int) (s t:Q1):Q1×Int:=
 if iR a then (if s.length<Sz a\/4096<s.length then ([],90) else (gt a s t,0)) else ([],111)
theorem vA (a:Int) (h:iR a):F.Hh a=some (1,a,0):=by
 rcases h with rfl | rfl | rfl <;> rfl
theorem BD (a:Int) (h:¬iR a):∃k,F.Hh a=some k/\k.1≠1:=by
 unfold iR at h
 have f:a≠1:=by omega
 have g:a≠2:=by omega
 have i:a≠3:=by omega
 unfold F.Hh
 rw[if_neg (by simpa using f),if_neg (by simpa using g),show (a == 3)=false by simpa using i]
 unfold F.Iq
 rw[if_neg (by simp)]
 by_cases h4:a=4; · subst h4; exact⟨_,rfl,by decide⟩
 by_cases h5:a=5; · subst h5; exact⟨_,rfl,by decide⟩
 rw[if_neg (by simpa using h4),if_neg (by simpa using h5)]
 by_cases h6:a=6; · subst h6; exact⟨_,rfl,by decide⟩
 rw[show (a == 6)=false by simpa using h6]
 unfold F.II
 rw[if_neg (by simp)]
 by_cases h7:a=7; · subst h7; exact⟨_,rfl,by decide⟩
 by_cases h8:a=8; · subst h8; exact⟨_,rfl,by decide⟩
 rw[if_neg (by simpa using h7),if_neg (by simpa using h8)]
 by_cases h9:a=9; · subst h9; exact⟨_,rfl,by decide⟩
 rw[show (a == 9)=false by simpa using h9]
 unfold F.I6
 rw[if_neg (by simp)]
 by_cases h10:a=10; · subst h10; exact⟨_,rfl,by decide⟩
 by_cases h11:a=11; · subst h11; exact⟨_,rfl,by decide⟩
 by_cases h12:a=12; · subst h12; exact⟨_,rfl,by decide⟩
 rw[if_neg (by simpa using h10),if_neg (by simpa using h11),if_neg (by simpa using h12)]
 exact⟨_,rfl,by decide⟩
theorem yG (a:Int) (s t:Q1) (j:t.length<=150000000000000):F.KH a s t=some (yz a s t):=by
 unfold F.KH yz
 by_cases h:iR a
 ·rw[vA a h,ae,if_neg (by simp),if_pos h]
  have i:F.GH a=some ((Sz a:Nat):Int):=by rcases h with rfl | rfl | rfl <;> rfl
  dsimp only
  rw[i,ae]
  by_cases f:s.length<Sz a
  ·rw[if_pos (decide_eq_true (by omega)),if_pos (.inl f)]
   unfold F.Kw
   rw[if_pos rfl]
  ·rw[if_neg (by simp; omega)]
   unfold F.Kw
   by_cases g:4096<s.length
   ·rw[if_pos (decide_eq_true (by omega)),if_pos (.inr g)]
   ·rw[if_neg (by simp; omega),if_neg (by omega),pC a h s t (by omega) j]; rfl
 ·obtain⟨k,f,g⟩:=BD a h
  rw[f,ae,if_pos (by simpa using g),if_neg h]
end Go.Gk.Sh
end

section
namespace Go.Gk.Sh
open Go Go.Gk
end Go.Gk.Sh
end

section
namespace Go.Gk.Sh
open Go Go.Gk
theorem CH (a b:UInt8):a ||| b=0↔a=0/\b=0:=by
 constructor
 ·intro h
  have f:=congrArg UInt8.toNat h
  rw[UInt8.toNat_or]at f
  have g:a.toNat<=a.toNat ||| b.toNat:=Nat.left_le_or
  have i:b.toNat<=a.toNat ||| b.toNat:=Nat.right_le_or
  have j:(0:UInt8).toNat=0:=rfl
  exact⟨UInt8.toNat_inj.1 (by omega),UInt8.toNat_inj.1 (by omega)⟩
 ·rintro⟨rfl,rfl⟩; rfl
theorem AR (a b:UInt8):a ^^^ b=0↔a=b:=by
 constructor
 ·intro h
  have f:(a ^^^ b) ^^^ b=0 ^^^ b:=by rw[h]
  rwa [UInt8.xor_assoc,UInt8.xor_self,UInt8.xor_zero,UInt8.zero_xor]at f
 ·rintro rfl; exact UInt8.xor_self
theorem yA (x y:Q1) (hl:x.length=y.length) (hx:x.length<=1000):∀(r i:Nat) (f:UInt8),i+r=x.length->loop (F.IX x y) (f,(i:Int))=some (decide (f=0/\x.drop i=y.drop i)):=by
 intro r
 induction r with
 | zero=>
  intro i f h
  refine cK ?_
  unfold F.IX
  dsimp only
  rw[if_neg (by simp; omega),List.drop_of_length_le (by omega),List.drop_of_length_le (by omega)]
  simp only[bz,Option.map_some,and_true]
  congr 2
 | succ r ih=>
  intro i f h
  have hi:i<x.length:=by omega
  have g:i<y.length:=by omega
  have hs:F.IX x y (f,(i:Int))=some (.inl (f ||| (x[i] ^^^ y[i]),((i+1:Nat):Int))):=by
   unfold F.IX
   dsimp only
   rw[if_pos (decide_eq_true (by omega)),fO hi,ae,fO g,ae,aI (by omega) (by omega)]; rfl
  rw[bB hs,ih (i+1) _ (by omega)]
  congr 1
  rw[decide_eq_decide,CH,AR,List.drop_eq_getElem_cons hi,List.drop_eq_getElem_cons g,List.cons.injEq,and_assoc]
theorem CS (x y:Q1) (hx:x.length<=1000):F.Lq x y=some (decide (x=y)):=by
 unfold F.Lq
 by_cases h:x.length=y.length
 ·rw[if_neg (by simp[h])]
  have:=yA x y h hx x.length 0 0 (by omega)
  simpa using this
 ·rw[if_pos (by simpa using (fun f=>h (by omega))),decide_eq_false (fun f=>h (by rw[f]))]
theorem ng (a:Int) (ha:iR a) (s t g:Q1) (hs:s.length<=150000000000000) (i:t.length<=150000000000000):F.Lk a s t g=some (decide (gt a s t=g)):=by
 unfold F.Lk
 have f:F.GH a=some ((Sz a:Nat):Int):=by rcases ha with rfl | rfl | rfl <;> rfl
 have h:decide ((0:Int)<((Sz a:Nat):Int))=true:=by rcases ha with rfl | rfl | rfl <;> rfl
 have hl:(gt a s t).length<=1000:=by simp only[gt,mT]; exact Nat.le_trans (x6 a) (by decide)
 rw[f,ae,h,if_pos rfl,pC a ha s t hs i,ae,CS _ _ hl,ae]
theorem Ea:F.GX [[],[],[],[]]=some true:=by
 have:fa (F.H9 [[],[],[],[]]) 5 (0,0)=some true:=rfl
 exact kV this
theorem Bi (s:Q1):F.Ih 1 0 s [] [] [] []=some (if 32<=s.length/\s.length<=4096 then 0 else 90):=by
 unfold F.Ih F.Kv
 rw[if_pos (by decide),if_pos (by decide)]
 by_cases h1:32<=s.length
 ·rw[if_pos (decide_eq_true (by omega))]
  by_cases h2:s.length<=4096
  ·rw[if_pos (decide_eq_true (by omega)),Ea,ae,ae,if_pos rfl,if_pos ⟨h1,h2⟩]
  ·rw[if_neg (by simp only[decide_eq_true_eq]; omega),ae,if_neg (by simp),if_neg (by omega)]
 ·rw[if_neg (by simp only[decide_eq_true_eq]; omega),ae,if_neg (by simp),if_neg (by omega)]
theorem AP (a:Int) (ha:iR a) (s t g:Q1) (i:t.length<=150000000000000) :
  F.G2 a 1 0 s [] [] [] [] t g=some (if s.length<Sz a\/4096<s.length then 90 else if gt a s t=g then 0 else 91):=by
 unfold F.G2 F.Hu
 have j:32<=Sz a:=by rcases ha with rfl | rfl | rfl <;> decide
 have f:F.GH a=some ((Sz a:Nat):Int):=by rcases ha with rfl | rfl | rfl <;> rfl
 rw[vA a ha,ae,ae,if_neg (by simp),if_pos (by simp),ae,if_neg (by decide),Bi,ae]
 by_cases h:32<=s.length/\s.length<=4096
 ·rw[if_pos h,if_neg (by decide),if_pos (by simp)]
  dsimp only
  rw[f,ae]
  unfold F.Hk
  by_cases h2:s.length<Sz a
  ·rw[if_pos (decide_eq_true (by omega)),if_pos (.inl h2)]
  ·rw[if_neg (by simp only[decide_eq_true_eq]; omega),if_pos (by simp),if_neg (by omega)]
   dsimp only
   rw[ng a ha s t g (by omega) i,ae]
   by_cases h3:gt a s t=g
   ·rw[if_pos h3,decide_eq_true h3]; rfl
   ·rw[if_neg h3,decide_eq_false h3]; rfl
 ·rw[if_neg h,if_pos (by decide)]
  unfold F.Hk
  rw[if_pos (by decide),if_pos (by omega)]
theorem uD:F.JR [89,81,46,89,103,46]=some ([89,81],[89,103],[],0):=by
 unfold F.JR
 rw[if_neg (by decide)]
 have hc:F.L1 [89,81,46,89,103,46]=some 2:=rfl
 have f:=A3 (p:=[89,81]) (t:=[89,103,46]) (by decide) (by decide)
 have g:=A3 (p:=[89,103]) (t:=[]) (by decide) (by decide)
 simp only[List.cons_append,List.nil_append]at f g
 rw[hc,ae,if_neg (by decide),f,ae,g,ae]
theorem AW:F.KK [89,81,46,89,103,46]=some ([97],[98],[],0):=by
 unfold F.KK
 have f:F.Hf [89,81]=some ([97],0,0):=by
  rw[jO _ (by decide),<-mJ]; rfl
 have g:F.Hf [89,103]=some ([98],0,0):=by
  rw[jO _ (by decide),<-mJ]; rfl
 have h:F.Hf []=some ([],0,0):=by
  rw[jO _ (by decide),<-mJ]; rfl
 rw[uD,ae,if_neg (by decide)]
 dsimp only
 rw[f,ae,if_neg (by decide),g,ae,if_neg (by decide),h,ae,if_neg (by decide)]
theorem Ca:F.KF=some true:=by
 unfold F.KF
 have hc:F.Jq [97] [98] []=some ([89,81,46,89,103,46],0):=by
  rw[sd _ _ _ (by decide) (by decide) (by decide)]; rfl
 have hm:mkO 1 (32:Int) (32:Int) (0:UInt8)=some (List.replicate 32 0):=rfl
 have ha:iR 1:=.inl rfl
 have g:yz 1 (List.replicate 32 0) [89,81,46,89,103]=(gt 1 (List.replicate 32 0) [89,81,46,89,103],0):=by
  unfold yz
  rw[if_pos ha,if_neg (by decide)]
 have hl:(gt 1 (List.replicate 32 0) [89,81,46,89,103]).length=32:=by simp only[gt,mT]; rfl
 have f:F.G2 1 1 0 (List.replicate 32 0) [] [] [] [] [89,81,46,89,103] (gt 1 (List.replicate 32 0) [89,81,46,89,103])=some 0:=by
  rw[AP 1 ha _ _ _ (by decide),if_neg (by decide),if_pos rfl]
 rw[uD,ae,AW,ae,hc,ae,hm,ae,yG 1 _ _ (by decide),ae,g]
 dsimp only
 rw[f,ae,hl]
 rfl
end Go.Gk.Sh
end
