import Derived.Test.YtahgjafdhjbkeaaGreatDoorGkUG
set_option linter.unusedVariables false
set_option linter.unusedSimpArgs false
set_option linter.unusedSectionVars false

section
namespace Go.Gk.Bn
open Go Go.Gk Go.Gk.Sh
theorem rG (a:L0) (i:Nat) (hi:i<=4611686018427387904):F.GC a (i:Int)=some (UInt8.ofNat (val a / 256^i)):=by
 unfold F.GC
 have x:wI (Int.tdiv (i:Int) 4)=((i / 4:Nat):Int):=by rw[Int.tdiv_eq_ediv_of_nonneg (by omega),aJ (by omega) (by omega)]; omega
 have m:Int.tmod (i:Int) 4=((i%4:Nat):Int):=by rw[Int.tmod_eq_emod_of_nonneg (by omega)]; omega
 rw[x,wT,ae]
 obtain⟨w,o⟩:∃w,a.getD (i / 4) 0=w:=⟨_,rfl⟩
 rw[o]
 have A:=cC w
 have q:∀(k j:Nat) (u:UInt64),j+k=i%4->u.toNat=w.toNat / 256^j->loop (F.FR (i:Int)) (u,(j:Int))=some (UInt8.ofNat (w.toNat / 256^(i%4))):=by
  intro k
  induction k with
  | zero=>
   intro j u y g
   refine cQ ?_
   unfold F.FR
   dsimp only
   rw[m,if_neg (by simp only[decide_eq_true_eq]; omega)]
   show some (Sum.inr _)=some (Sum.inr _)
   congr 2
   apply UInt8.toNat_inj.1
   have f:(256:UInt64).toNat=256:=rfl
   have e8:(2:Nat)^8=256:=rfl
   rw[UInt64.toNat_toUInt8,UInt64.toNat_mod,f,g,UInt8.toNat_ofNat',e8,show j=i%4 by omega]; omega
  | succ k ih=>
   intro j u y g
   have z:wI ((j:Int)+1)=((j+1:Nat):Int):=by rw[aJ (by omega) (by omega)]; rfl
   have t:F.FR (i:Int) (u,(j:Int))=some (.inl (u / 256,((j+1:Nat):Int))):=by
    unfold F.FR
    dsimp only
    rw[m,if_pos (decide_eq_true (by omega)),z]; rfl
   rw[bJ t]
   refine ih (j+1) _ (by omega) ?_
   have f:(256:UInt64).toNat=256:=rfl
   rw[UInt64.toNat_div,f,g,Nat.div_div_eq_div_mul,Nat.pow_succ]
 have h:=q (i%4) 0 w.toUInt64 (by omega) (by rw[bV,Nat.pow_zero,Nat.div_one])
 rw[show ((0:Nat):Int)=0 from rfl]at h
 rw[h]
 congr 1
 rw[<-ng,o]
 apply UInt8.toNat_inj.1
 have e8:(2:Nat)^8=256:=rfl
 rw[UInt8.toNat_ofNat',UInt32.toNat_toUInt8,fH,Nat.min_eq_left (by omega),Nat.pow_mul,e8]
theorem Bj (k n:Nat):beB (k+1) n=UInt8.ofNat (n / 256^k) :: beB k n:=rfl
theorem xU (a:L0) (N:a.length<=35184372087808):∃k,F.H5 a=some (beB k (val a))/\val a<256^k/\(k=0\/256^(k - 1)<=val a):=by
 have q:∀(k:Nat) (o:L1),o.length+k<=140737488351232->loop (F.EA a) (o,(k:Int) - 1)=some (o++beB k (val a)):=by
  intro k
  induction k with
  | zero=>
   intro o B
   refine cQ ?_
   unfold F.EA
   dsimp only
   rw[if_neg (by decide)]
   simp[beB,bn]
  | succ k ih=>
   intro o B
   have i:wI ((k:Int) - 1)=(k:Int) - 1:=aJ (by omega) (by omega)
   have y:F.EA a (o,(((k+1:Nat):Int)) - 1)=some (.inl (o++[UInt8.ofNat (val a / 256^k)],(k:Int) - 1)):=by
    unfold F.EA
    dsimp only
    rw[show (((k+1:Nat):Int)) - 1=(k:Int) by omega,if_pos (decide_eq_true (by omega)),rG _ _ (by omega),ae,ef (by simp; omega),ae,i]; rfl
   rw[bJ y,ih _ (by simp; omega),Bj,List.append_assoc]; rfl
 have A:∀k:Nat,k<=4*a.length->val a<256^k->∃m,loop (F.FD a) (k:Int)=some (beB m (val a))/\val a<256^m/\(m=0\/256^(m - 1)<=val a):=by
  intro k
  induction k with
  | zero=>
   intro G j
   refine⟨0,?_,j,.inl rfl⟩
   have f:F.FD a ((0:Nat):Int)=bn (loop (F.EA a) ([],wI (((0:Nat):Int) - 1))):=rfl
   rw[bL f,aJ (by decide) (by decide),q 0 [] (by simp)]; rfl
  | succ k ih=>
   intro G j
   have i:wI (((k+1:Nat):Int) - 1)=(k:Int):=by rw[aJ (by omega) (by omega)]; omega
   have f:F.FD a ((k+1:Nat):Int)=F.Gs ((k+1:Nat):Int) a (UInt8.ofNat (val a / 256^k) == 0):=by
    unfold F.FD
    rw[if_pos (decide_eq_true (by omega)),i,rG _ _ (by omega),ae]
   have I:val a / 256^k<256:=by
    rw[Nat.div_lt_iff_lt_mul (Nat.pow_pos (by decide)),Nat.mul_comm,<-Nat.pow_succ]; exact j
   have J:(UInt8.ofNat (val a / 256^k) == 0)=decide (val a / 256^k=0):=by
    obtain⟨z,K⟩:∃z,val a / 256^k=z:=⟨_,rfl⟩
    rw[K]at I ⊢
    by_cases h:z=0
    ·rw[h,decide_eq_true rfl]; rfl
    ·rw[decide_eq_false h,beq_eq_false_iff_ne]
     intro M
     have:=congrArg UInt8.toNat M
     rw[UInt8.toNat_ofNat']at this
     have O:(0:UInt8).toNat=0:=rfl
     omega
   rw[J]at f
   unfold F.Gs at f
   by_cases h:val a / 256^k=0
   ·rw[decide_eq_true h,if_pos rfl,i]at f
    obtain⟨m,t,x⟩:=ih (by omega) (by
     rcases Nat.lt_or_ge (val a) (256^k) with g | g
     ·exact g
     ·have:=Nat.div_pos g (Nat.pow_pos (by decide)); omega)
    exact⟨m,(bJ f).trans t,x⟩
   ·rw[decide_eq_false h,if_neg (by decide),i]at f
    refine⟨k+1,?_,j,.inr ?_⟩
    ·have:=q (k+1) [] (by simp; omega)
     rw[show (((k+1:Nat):Int)) - 1=(k:Int) by omega]at this
     rw[bL f,this]; rfl
    ·rw[Nat.add_sub_cancel]
     rcases Nat.lt_or_ge (val a) (256^k) with g | g
     ·exact absurd (Nat.div_eq_of_lt g) h
     ·exact g
 have w0:wI (4*(a.length:Int))=((4*a.length:Nat):Int):=by rw[aJ (by omega) (by omega)]; omega
 obtain⟨m,t,x⟩:=A (4*a.length) (Nat.le_refl _) (by have:=bv a; rwa [show (4294967296:Nat)=256^4 from rfl,<-Nat.pow_mul]at this)
 exact⟨m,by unfold F.H5; rw[w0,aS,t],x⟩
theorem u9 {v k m:Nat} (h:v<256^k) (f:k<=m):List.replicate (m - k) 0++beB k v=beB m v:=by
 refine vg (by simp[eE]; omega) ?_
 rw[ra,kZ,kZ,Nat.mod_eq_of_lt h,Nat.mod_eq_of_lt (Nat.lt_of_lt_of_le h (Nat.pow_le_pow_right (by decide) f))]
theorem um (a:L0) (m:Nat) (g:a.length<=35184372087808) (t:m<=1000) (x:val a<256^m):F.G0 a (m:Int)=some (beB m (val a),true):=by
 obtain⟨k,i,j,f⟩:=xU a g
 have o:k<=m:=by
  rcases Nat.lt_or_ge m k with h | h
  ·exfalso
   rcases f with f | f
   ·omega
   ·have:=Nat.pow_le_pow_right (show 0<256 by decide) (show m<=k - 1 by omega)
    omega
  ·exact h
 have q:wI ((m:Int) - (k:Int))=((m - k:Nat):Int):=by rw[aJ (by omega) (by omega)]; omega
 unfold F.G0
 rw[i,ae,if_neg (by simp only[decide_eq_true_eq]; omega),if_neg (by simp only[decide_eq_true_eq]; omega),eE,decide_eq_false (by omega)]
 unfold F.Hr
 rw[if_neg (by decide),eE,q,dK (by omega),ae,Int.toNat_natCast,ef (by simp[eE]; omega),ae,u9 j o]
def nS (c:Int):Nat:=if c=1 then 32 else 48
theorem qr (c:Int):cS c=((nS c:Nat):Int):=by unfold cS nS; split <;> rfl
theorem nS4 (c:Int):nS c=4*(nS c / 4)/\nS c<=48/\0<nS c:=by unfold nS; split <;> decide
def qy (c:Int) (X Y:L0) (inf:Bool):L1×L1×Int:=
 if onS c X Y inf=true/\inf=false then (beB (nS c) (val X),beB (nS c) (val Y),0) else ([],[],93)
theorem vk (c:Int) (hc:isC c):cP c<256^nS c:=by
 rcases hc with h | h <;> subst h <;> decide +kernel
theorem pi {p b x y:Nat} (h:onN p b x y=true):x<p/\y<p:=by
 unfold onN at h
 simp only[Bool.and_eq_true,decide_eq_true_eq]at h
 exact⟨h.1,h.2.1⟩
theorem sF (n m:Nat) (q:nl (n:Int)<=1000) (t:m<=1000) (h:n<256^m):F.EV (bi (n:Int)).1 (bi (n:Int)).2 (List.replicate m 0)=some (beB m n):=by
 have f:=Cb h
 unfold F.EV
 have g:wI ((m:Int) - ((nby n:Nat):Int))=((m - nby n:Nat):Int):=by rw[aJ (by omega) (by omega)]; omega
 rw[tC _ (by omega),ae,Int.natAbs_natCast,aS,List.length_replicate,List.length_replicate,eE,g]
 have i:drO (List.replicate m (0:UInt8)) ((m - nby n:Nat):Int)=some ((List.replicate m (0:UInt8)).drop (m - nby n)):=by
  unfold drO; rw[if_pos (by simp),Int.toNat_natCast]
 rw[i,ae,aS,Int.toNat_natCast]
 congr 1
 have j:(List.replicate m (0:UInt8)).take (m - nby n)=List.replicate (m - nby n) 0:=by rw[List.take_replicate,Nat.min_eq_left (by omega)]
 have k:(beB (nby n) n).take (nby n)=beB (nby n) n:=List.take_of_length_le (by rw[eE]; exact Nat.le_refl _)
 have o:(List.replicate m (0:UInt8)).drop (m - nby n+nby n)=[]:=List.drop_of_length_le (by simp; omega)
 unfold cpL
 rw[show m - (m - nby n)=nby n by omega,j,k,eE,Nat.min_self,o,List.append_nil,u9 (tO n) f]
theorem yr (c:Int) (X Y:L0) (f:Bool) (o:X.length<=35184372087808) (q:Y.length<=35184372087808):F.Iz c X Y f=some (qy c X Y f):=by
 obtain⟨n1,z,A⟩:=nS4 c
 have B:=oh c
 unfold F.Iz qy
 rw[oT c X Y f o q,ae]
 by_cases hc:isC c
 ·rw[if_pos hc]
  dsimp only
  show (if (!onS c X Y f)=true then _ else _)=_
  cases ho:onS c X Y f with
  | false=>
   rw[if_pos (by decide),if_neg (fun h=>by cases h.1)]
   unfold F.FJ
   rw[if_pos rfl]
  | true=>
   rw[if_neg (by decide)]
   cases f with
   | true=>
    rw[if_neg (fun h=>by cases h.2)]
    show ah (F.DD false []) _=_
    have:F.DD false []=some 0:=rfl
    rw[this,ae]
    unfold F.FJ
    rw[if_pos (by rfl)]
   | false=>
    rw[if_pos ⟨rfl,rfl⟩]
    show ah (F.DD (bi 1).1 (bi 1).2) _=_
    rw[nV,ae,if_neg (by decide),if_neg (by decide)]
    unfold F.FJ
    rw[if_neg (by decide)]
    have g:=ho
    unfold onS at g
    rw[if_pos hc,if_neg (by decide)]at g
    obtain⟨G,I⟩:=pi g
    have y:=vk c hc
    have t:nl (val X:Int)<=1000:=by have:=fb (show ((val X:Int)).natAbs<=((cP c:Int)).natAbs by omega); omega
    have x:nl (val Y:Int)<=1000:=by have:=fb (show ((val Y:Int)).natAbs<=((cP c:Int)).natAbs by omega); omega
    show (ah (mkO 1 (cS c) (cS c) (0:UInt8)) fun i=>ah (F.EV (bi (val X:Int)).1 (bi (val X:Int)).2 i) fun j=>ah (mkO 1 (cS c) (cS c) (0:UInt8)) fun k=>ah (F.EV (bi (val Y:Int)).1 (bi (val Y:Int)).2 k) fun m=>some (j,m,(0:Int)))=_
    rw[qr,dK (by omega),ae,Int.toNat_natCast,sF _ _ t (by omega) (by omega),ae,ae,sF _ _ x (by omega) (by omega),ae]
 ·rw[if_neg hc]
  have:onS c X Y f=false:=by unfold onS; rw[if_neg hc]
  have e:(if false=true/\f=false then (beB (nS c) (val X),beB (nS c) (val Y),(0:Int)) else ([],[],93))=([],[],93):=if_neg (fun h=>by cases h.1)
  rw[this,e]
  rfl
theorem wR (c:Int) (X Y:L0) (f:Bool) (j:X.length<=35184372087808) (k:Y.length<=35184372087808):F.FU c X Y f=some (qy c X Y f):=by
 obtain⟨n1,o,q⟩:=nS4 c
 have i:F.Gi c X Y true=some ([],[],93):=rfl
 unfold F.FU qy
 cases f with
 | true=>rw[if_pos rfl,if_neg (fun h=>by cases h.2)]; exact i
 | false=>
  rw[if_neg (by decide),xi c X Y false (by omega) (by omega),ae]
  cases ho:onS c X Y false with
  | false=>rw[if_neg (fun h=>by cases h.1)]; exact i
  | true=>
   have hc:isC c:=by
    by_cases h:isC c
    ·exact h
    ·unfold onS at ho; rw[if_neg h]at ho; cases ho
   have g:=ho
   unfold onS at g
   rw[if_pos hc,if_neg (by decide)]at g
   obtain⟨t,x⟩:=pi g
   have m:=vk c hc
   rw[if_pos ⟨rfl,rfl⟩]
   unfold F.Gi
   rw[if_neg (by decide),lF,if_pos hc,qr,ae,um X _ j (by omega) (by omega),ae,ae,um Y _ k (by omega) (by omega),ae]
end Go.Gk.Bn
end

section
namespace Go.Gk.Bn
open Go Go.Gk Go.Gk.Sh
end Go.Gk.Bn
end
