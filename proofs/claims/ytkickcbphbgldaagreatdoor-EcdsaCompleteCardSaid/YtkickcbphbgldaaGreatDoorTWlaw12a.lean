import Derived.Test.YtkickcbphbgldaaGreatDoorTW0
import Derived.Test.YtkickcbphbgldaaGreatDoorGkFman
import Derived.Test.YtkickcbphbgldaaGreatDoorTWcurvee
import Derived.Test.YtkickcbphbgldaaGreatDoorTWecdsa
import Derived.Test.YtkickcbphbgldaaGreatDoorTWnatb
import Derived.Test.YtkickcbphbgldaaGreatDoorTWshab
set_option linter.unusedVariables false
set_option linter.unusedSimpArgs false
set_option linter.unusedSectionVars false
set_option maxRecDepth 4000
namespace Go.Proofs
open Go Go.RowKit Go.Gk
open Go.Gk renaming aa → P, ae → O, ah → J, ai → H, e32 → U, own → M, pB → N, vB → I
open Go.Gk.OE renaming bx → X
theorem j5 {c:World} {a0 a1:List UInt32} {d e:Value} (a2:Int) {r:List UInt8×Bool}
  (h:F.DS a0 a1 a2=some r) (n:RP [] c U d a0) (o:RP [] c U e a1):Calls Tryz.prog 26 #[d,e,vI a2] c (Ret fun v w=>∃u0:Value,v=.tuple #[u0,I r.2]∧St [] c w [M e8 u0 r.1]):=by
 refine aJ 35 Tryz.func26 Z Z Z ?_
 have a:=St.l c
 refine au [(0,d),(1,e),(2,vI a2)] ⟨Z,Z,Z,V⟩ ?_
 unfold F.DS at h
 refine J (af (P 2 Z ?_))
 refine H (O (J (af (P 2 Z ?_))))
 obtain ⟨p,k,h⟩:=aj h
 refine ao Z (nf a2 k (n.d a.fr).rp) Z ?_
 rintro _ w ⟨s,rfl,f⟩
 have a:=a.f f
 refine P 5 Z ?_
 refine H (O (J (af (P 2 Z ?_))))
 obtain ⟨t,l,h⟩:=aj h
 refine ao Z (nf a2 l (o.d a.fr).rp) Z ?_
 rintro _ w ⟨u,rfl,f⟩
 have a:=a.f f
 refine P 5 Z ?_
 refine H (O (J (af (P 1 Z ?_))))
 refine H (O (J (af (P 2 Z ?_))))
 obtain ⟨x,m,h⟩:=aj h
 refine aT (lJ u24 ti5 Z Z Z a (a.ro 1 Z) m) Z ?_
 rintro y w a
 refine P 1 Z ?_
 refine H (O (J (af (P 2 Z ?_))))
 obtain ⟨q,j,h⟩:=aj h
 refine aT (jj u24 ti5 Z Z Z a (i:=0) Z (a.ro 1 Z) j) Z ?_
 rintro g w a
 refine P 2 Z ?_
 cases b:p.2
 case true=>
  have h:=aI h b
  try simp only [b]
  refine P 4 Z ?_
  refine H (O (aw ?_))
  cases h
  exact bW Z Z Z ⟨g,Z,a.e [0] Z Z⟩
 case false=>
  have h:=aH h b
  try simp only [b]
  refine P 4 Z ?_
  refine H (O (aw ?_))
  cases h
  exact bW Z Z Z ⟨g,Z,a.e [0] Z Z⟩
theorem qg {s:World}  {r:Bool}
  (h:F.FD =some r) (T:TB [] s):Calls Tryz.prog 19 #[] s (Ret fun v w=>v=I r∧St [] s w []):=by
 refine aJ 73 Tryz.func19 Z Z Z ?_
 have a:=St.l s
 refine au [] V ?_
 unfold F.FD at h
 refine J (af (P 1 Z ?_))
 refine H (O (J (af ?_)))
 obtain ⟨u,ab,h⟩:=aj h
 refine ao Z (lZ 1 ab ) Z ?_
 rintro _ w ⟨G,S,rfl,b⟩
 have a:=a.f b
 refine aT (aY (cs:=[.slice none 0 0,.slice none 0 0,I false]) jc Z a) Z ?_
 rintro _ w ⟨aD,rfl,a⟩
 refine bk (bl (i:=0) (us:=[G,S,I u.2.2]) Z ce Z Z Z ⟨(a.ro 1 Z).one,(a.ro 2 Z).one,Z,V⟩ Z a) ?_
 intro w a
 refine H (O (J (af ?_)))
 obtain ⟨aG,ac,h⟩:=aj h
 refine ao Z (gc 1 ac ) Z ?_
 rintro aK w b
 have a:=a.f b
 refine P 1 Z ?_
 refine H (O (J (af (am (av (k:=0) u33 Z Z kT Z) Z (am (aC u31 Z Z (a.r 1 Z 0)) Z (P 1 Z ?_))))))
 obtain ⟨ad,A,h⟩:=aj h
 refine ao Z (gG  A (a.ro 2 Z).rp (a.ro 0 Z).rp) Z ?_
 rintro _ w ⟨ak,al,rfl,b⟩
 have a:=a.f b
 refine P 7 Z ?_
 refine H (O (J (af ?_)))
 refine aT (cV (e:=e8) (l:=[97,98,99]) (vs:=[v8 97,v8 98,v8 99]) u24 ti5 Z Z Z Z (by decide) (by decide) a) Z ?_
 rintro an w a
 refine aT (kA u24 Tryz.underlying5 Z a (i:=0) Z (by simp)) Z ?_
 rintro v_q w ⟨hv_q,a⟩
 subst v_q
 refine P 1 Z ?_
 refine aT (cV (e:=U) (l:=([1]:List UInt32)) (vs:=[v32 1]) u31 aV Z Z Z Z (by decide) (by decide) a) Z ?_
 rintro ap w a
 refine am (bI (us:=[G,S,I u.2.2]) u33 Z ce Z (a.q 5 Z Z)) Z ?_
 obtain ⟨d,B,h⟩:=aj h
 refine ao Z (jQ 1 1 u.2.2 B (T.d a.fr) (a.rro 1 Z).rp (a.ro 3 Z).rp (a.ro 0 Z).rp (a.ro 6 Z).rp (a.ro 7 Z).rp) Z ?_
 rintro _ w ⟨x,y,rfl,b⟩
 have a:=a.f b
 refine P 7 Z ?_
 refine H (O (J (af (P 1 Z ?_))))
 refine aT (cV (e:=U) (l:=([1]:List UInt32)) (vs:=[v32 1]) u31 aV Z Z Z Z (by decide) (by decide) a) Z ?_
 rintro aq w a
 obtain ⟨q,C,h⟩:=aj h
 refine ao Z (j5 32 C (a.ro 6 Z).rp (a.ro 0 Z).rp) Z ?_
 rintro _ w ⟨z,rfl,b⟩
 have a:=a.f b
 refine P 5 Z ?_
 refine H (O (J ?_))
 refine a9 (r:=r) (fun (g:Bool) L w=>L=[(6,x),(7,y),(9,z),(56,I g)]∧St [] s w [M e8 x d.1,M e8 y d.2.1,M e8 z q.1]) (F.Cj d q) ?_ ?_
 rotate_left
 ·intro c
  refine af (P 3 Z ?_)
  cases f:(ad.2.2 != 0)
  case true=>
   have h:=aI h f
   try simp only [f]
   refine P 17 Z ?_
   refine H (O ?_)
   exact au _ (by exact ⟨Z,Z,Z,Z,V⟩) (c true _ _ ⟨Z,(a.e [2,3,0] Z Z)⟩ h)
  case false=>
   have h:=aH h f
   try simp only [f]
   refine P 4 Z ?_
   cases j:(d.2.2 != 0)
   case true=>
    have h:=aI h j
    try simp only [j]
    refine P 13 Z ?_
    refine H (O ?_)
    exact au _ (by exact ⟨Z,Z,Z,Z,V⟩) (c true _ _ ⟨Z,(a.e [2,3,0] Z Z)⟩ h)
   case false=>
    have h:=aH h j
    try simp only [j]
    refine P 4 Z ?_
    cases m:(!q.2)
    case true=>
     have h:=aI h m
     try simp only [m]
     refine P 9 Z ?_
     refine H (O ?_)
     exact au _ (by exact ⟨Z,Z,Z,Z,V⟩) (c true _ _ ⟨Z,(a.e [2,3,0] Z Z)⟩ h)
    case false=>
     have h:=aH h m
     try simp only [m]
     refine P 1 Z ?_
     refine ba (t:=47) Z Z (aN u24 Z (a.ro 2 Z)) Z (P 3 Z ?_)
     cases n:((d.1.length:Int) != 32)
     case true=>
      have h:=aI h n
      try simp only [n]
      refine P 4 Z ?_
      refine H (O ?_)
      exact au _ (by exact ⟨Z,Z,Z,Z,V⟩) (c true _ _ ⟨Z,(a.e [2,3,0] Z Z)⟩ h)
     case false=>
      have h:=aH h n
      try simp only [n]
      refine P 1 Z ?_
      refine ba (t:=52) Z Z (aN u24 Z (a.ro 3 Z)) Z (P 2 Z ?_)
      refine H (O ?_)
      exact au _ (by exact ⟨Z,Z,Z,Z,V⟩) (c ((d.2.1.length:Int) != 32) _ _ ⟨Z,(a.e [2,3,0] Z Z)⟩ h)
 rintro ar L w hJ h
 try dsimp only at hJ
 obtain ⟨rfl,a⟩:=hJ
 unfold F.Cj at h
 refine ax Z (fun p=>?_) (fun p=>?_)
 ·have h:=aI h p
  refine J (af (P 1 Z ?_))
  refine H (O (aw (aE ?_)))
  cases h
  exact aF Z Z ⟨Z,a.e [] Z Z⟩
 have h:=aH h p
 refine ay (O (J (af (P 2 Z ?_))))
 refine aT (cV (e:=e8) (l:=[97,98,99]) (vs:=[v8 97,v8 98,v8 99]) u24 ti5 Z Z Z Z (by decide) (by decide) a) Z ?_
 rintro az w a
 refine aT (kA u24 Tryz.underlying5 Z a (i:=0) Z (by simp)) Z ?_
 rintro v_q w ⟨hv_q,a⟩
 subst v_q
 refine P 1 Z ?_
 obtain ⟨ag,D,h⟩:=aj h
 refine ao Z (gW 1 1 D (T.d a.fr) (a.ro 1 Z).rp (a.ro 2 Z).rp (a.rro 0 Z).rp (a.ro 3 Z).rp) Z ?_
 rintro _ w ⟨rfl,b⟩
 have a:=a.f b
 refine P 2 Z ?_
 cases o:(ag == 0)
 case true=>
  have h:=aI h o
  try simp only [o]
  refine P 2 Z ?_
  refine oI (t:=64) Z Z (cV (e:=e8) (l:=[97,98,100]) (vs:=[v8 97,v8 98,v8 100]) u24 ti5 Z Z Z Z (by decide) (by decide) a) Z ?_
  rintro aA w a
  refine oI (t:=64) Z Z (kA u24 Tryz.underlying5 Z a (i:=0) Z (by simp)) Z ?_
  rintro v_q w ⟨hv_q,a⟩
  subst v_q
  refine P 1 Z ?_
  obtain ⟨aB,E,h⟩:=aj h
  refine cc (t:=64) Z Z (by kernel_rfl) Z (gW 1 1 E (T.d a.fr) (a.ro 2 Z).rp (a.ro 3 Z).rp (a.rro 0 Z).rp (a.ro 4 Z).rp) Z ?_
  rintro _ w ⟨rfl,b⟩
  have a:=a.f b
  refine P 3 Z ?_
  refine H (O (aw ?_))
  cases h
  exact aF Z Z ⟨Z,a.e [] Z Z⟩
 case false=>
  have h:=aH h o
  try simp only [o]
  refine P 9 Z ?_
  refine H (O (aw ?_))
  cases h
  exact aF Z Z ⟨Z,a.e [] Z Z⟩
theorem oM {k:World} {a2:List UInt8} {c:Value} (a0 a1:Int) {r:List UInt32}
  (h:F.FJ a0 a1 a2=some r) (y:TB [] k) (o:RP [] k e8 c a2):Calls Tryz.prog 29 #[vI a0,vI a1,c] k (Ret fun v w=>St [] k w [M U v r]):=by
 refine aJ 23 Tryz.func29 Z Z Z ?_
 have a:=St.l k
 refine au [(0,vI a0),(1,vI a1),(2,c)] ⟨Z,Z,Z,V⟩ ?_
 unfold F.FJ at h
 refine J (af (P 1 Z ?_))
 refine H (O (J (af (P 2 Z ?_))))
 refine aT (cV (e:=eV) (l:=([SV.of c]:List SV)) (vs:=[c]) u56 xj Z Z Z (f4 (o.d a.fr).sv Z) (by decide) (by decide) a) Z ?_
 rintro C w a
 obtain ⟨p,t,h⟩:=aj h
 refine ao Z (pG a0 t (y.d a.fr) (a.ro 0 Z).rp ⟨(o.d a.fr).svrp,V⟩) Z ?_
 rintro q w b
 have a:=a.f b
 refine P 1 Z ?_
 refine H (O ?_)
 refine a9 (r:=r) (fun (g:List UInt8) L w=>∃(d:Value),L=[(7,d)]∧St [] k w [M e8 d g]) (F.Ey) ?_ ?_
 rotate_left
 ·intro j
  refine J (af (P 1 Z ?_))
  refine am (aN u24 Z (a.ro 0 Z)) Z (P 1 Z ?_)
  obtain ⟨D,u,h⟩:=aj h
  refine ao Z (el a1 u ) Z ?_
  rintro _ w ⟨rfl,b⟩
  have a:=a.f b
  refine P 1 Z ?_
  refine H (O ?_)
  refine ax Z (fun f=>?_) (fun f=>?_)
  ·have h:=aI h f
   refine af (P 2 Z ?_)
   obtain ⟨s,x,h⟩:=aj h
   refine ao Z (el a1 x ) Z ?_
   rintro _ w ⟨rfl,b⟩
   have a:=a.f b
   obtain ⟨m,h⟩:=bZ h
   refine am (ql u24 ti5 Z Z (a.ro 0 Z) (l8 m)) Z (P 1 Z ?_)
   refine H (O ?_)
   exact au _ (by exact ⟨Z,V⟩) (j (p.take ((s:Int).toNat)) _ _ ⟨slV q e8.sz 0 ((s:Int).toNat),Z,((a.trunc (i:=0) Z m.2).e [0] Z Z)⟩ h)
  have h:=aH h f
  refine ay (O ?_)
  exact au _ (by exact ⟨Z,V⟩) (j p _ _ ⟨q,Z,(a.e [0] Z Z)⟩ h)
 rintro z L w hJ h
 try dsimp only at hJ
 obtain ⟨d,rfl,a⟩:=hJ
 unfold F.Ey at h
 refine J (af (P 1 Z ?_))
 obtain ⟨A,n,h⟩:=aj h
 refine ao Z (dq  n (a.ro 0 Z).rp) Z ?_
 rintro B w b
 have a:=a.f b
 refine P 1 Z ?_
 refine H (O (aw ?_))
 cases h
 exact aF Z Z (a.e [0] Z Z)
theorem jL {e:World} {a0 a1:List UInt32} {c d:Value} {r:Bool}
  (h:F.DZ a0 a1=some r) (j:RP [] e U c a0) (k:RP [] e U d a1):Calls Tryz.prog 28 #[c,d] e (Ret fun v w=>v=I r∧St [] e w []):=by
 refine aJ 26 Tryz.func28 Z Z Z ?_
 have a:=St.l e
 refine au [(0,c),(1,d)] ⟨Z,Z,V⟩ ?_
 unfold F.DZ at h
 refine J (af (P 1 Z ?_))
 refine H (O (J (J (af (P 1 Z ?_)))))
 refine am (aN u31 Z (j.d a.fr)) Z (P 1 Z ?_)
 refine am (aN u31 Z (k.d a.fr)) Z (P 1 Z ?_)
 refine H (O ?_)
 refine ax Z (fun b=>?_) (fun b=>?_)
 ·have h:=aI h b
  refine J (af (P 1 Z ?_))
  refine H (O (aw (aE ?_)))
  cases h
  exact aF Z Z ⟨Z,a⟩
 have h:=aH h b
 refine ay (O (J (J (af (P 1 Z ?_)))))
 refine H (O (aD ?_))
 refine au [(0,c),(1,d),(5,vI 0)] ⟨Z,Z,Z,V⟩ ?_
 refine bj (F.DR a0 a1) (fun (s:Int) L w=>L=[(0,c),(1,d),(5,vI s)]∧St [] e w []) ?_ 0 ⟨Z,a⟩ h
 rintro u p L w x hI n h f
 try dsimp only at hI
 obtain ⟨rfl,a⟩:=hI
 unfold F.DR at h
 refine J (J (af (P 2 Z ?_)))
 refine am (aN u31 Z (j.d a.fr)) Z (P 1 Z ?_)
 refine H (O ?_)
 refine ax Z (fun g=>?_) (fun g=>?_)
 ·have h:=aI h g
  refine ay (O (J (aD ?_)))
  refine J ?_
  refine aZ (fun w'=>St [] e w' []) (fun _=>true) bS (fun _ _ _ o=>o.2) (fun _ _ o=>o) (by kernel_rfl) ?_
  have a:=a.drew
  show lxE _ _ _ _ _ _ _ [0,1,2,3,4,5,6,7,8] _ _
  refine al a Z Z (fun w hF=>ar Z) Z (al a Z Z (fun w hF=>ar Z) Z ?_)
  obtain ⟨q,l,h⟩:=aj h
  refine al a Z Z (fun w hF=>bm u31 aV Z Z (j.d hF.fr) l) Z (al a Z Z (fun w hF=>bb u38 Z Z (j.d hF.fr) l Z) Z (al a Z Z (fun w hF=>ar Z) Z (al a Z Z (fun w hF=>ar Z) Z ?_)))
  obtain ⟨t,m,h⟩:=aj h
  refine al a Z Z (fun w hF=>bm u31 aV Z Z (k.d hF.fr) m) Z (al a Z Z (fun w hF=>bb u38 Z Z (k.d hF.fr) m Z) Z (al a Z Z (fun w hF=>aq Z Z (kg _ q t)) Z (bn a ?_)))
  refine O ?_
  refine ax Z (fun i=>?_) (fun i=>?_)
  ·have h:=aI h i
   refine J (af (P 1 Z ?_))
   refine H (O (aw (bM ?_)))
   refine aE (aE ?_)
   have h:=aW h f
   refine bM ?_
   refine aE ?_
   cases h
   exact aF Z Z ⟨Z,a⟩
  have h:=aH h i
  refine ay (aR ?_)
  refine O (af (P 3 Z ?_))
  refine H ?_
  exact bA (bz _ (by exact ⟨Z,Z,Z,V⟩) (n (wI (p+1)) _ _ ⟨Z,a⟩ (a8 h f)))
 have h:=aH h g
 refine bd ?_
 refine aG (aG ?_)
 have h:=aW h f
 refine bf ?_
 refine O (J (af (P 1 Z ?_)))
 refine H (O (aw ?_))
 cases h
 exact aF Z Z ⟨Z,a⟩
theorem c_law12_EcdsaComplete {j:World} {a2:List UInt8} {a3 a4 C D:List UInt32} {E aB G d e:Value} (a0 a1:Int) (c:Bool) {r:Bool}
  (h:F.FP a0 a1 a2 a3 a4 C D c=some r) (hT:TB [] j) (aP:RP [] j e8 E a2) (aG:RP [] j U aB a3) (aK:RP [] j U G a4) (l:RP [] j U d C) (ab:RP [] j U e D):Calls Tryz.prog 8 #[vI a0,vI a1,E,aB,G,.agg #[d,e,I c]] j (Ret fun v w=>v=I r∧St [] j w []):=by
 refine aJ 179 Tryz.func8 Z Z Z ?_
 have a:=St.l j
 refine au [(0,vI a0),(1,vI a1),(2,E),(3,aB),(4,G),(5,.agg #[d,e,I c])] ⟨Z,Z,Z,Z,Z,Z,V⟩ ?_
 unfold F.FP at h
 refine J (af (aT (da (cs:=[d,e,I c]) Z Z a) Z ?_))
 rintro _ w ⟨S,rfl,a⟩
 refine P 1 Z ?_
 refine H (O (J (J (af ?_))))
 obtain ⟨bY,bn,h⟩:=aj h
 refine ao Z (qg  bn (hT.d a.fr)) Z ?_
 rintro _ w ⟨rfl,b⟩
 have a:=a.f b
 refine P 1 Z ?_
 refine H (O ?_)
 refine ax Z (fun ac=>?_) (fun ac=>?_)
 ·have h:=aI h ac
  refine J (af (P 1 Z ?_))
  refine H (O (aw (aE ?_)))
  cases h
  exact aF Z Z ⟨Z,a.e [] Z Z⟩
 have h:=aH h ac
 refine ay (O (J (af (P 5 Z ?_))))
 refine am (bI (us:=[d,e,I c]) u33 Z ce Z (a.q 0 Z Z)) Z ?_
 obtain ⟨T,bo,h⟩:=aj h
 refine ao Z (jQ a0 a1 c bo (hT.d a.fr) (aP.d a.fr).rp (aG.d a.fr).rp (aK.d a.fr).rp (l.d a.fr).rp (ab.d a.fr).rp) Z ?_
 rintro _ w ⟨bZ,b0,rfl,b⟩
 have a:=a.f b
 refine P 7 Z ?_
 refine H (O (J (J (af (P 2 Z ?_)))))
 refine H (O ?_)
 refine ax Z (fun ad=>?_) (fun ad=>?_)
 ·have h:=aI h ad
  refine J (af (P 3 Z ?_))
  obtain ⟨bF,bp,h⟩:=aj h
  refine ao Z (el a1 bp ) Z ?_
  rintro _ w ⟨rfl,b⟩
  have a:=a.f b
  obtain ⟨bq,aV,h⟩:=aj h
  refine ao Z (j5 bF aV (aG.d a.fr).rp (aK.d a.fr).rp) Z ?_
  rintro _ w ⟨bG,rfl,b⟩
  have a:=a.f b
  refine P 5 Z ?_
  refine H (O (J (af (P 2 Z ?_))))
  cases m:bq.2
  case true=>
   have h:=aI h m
   try simp only [m]
   refine P 6 Z ?_
   obtain ⟨bH,aW,h⟩:=aj h
   refine cc (t:=49) Z Z (by kernel_rfl) Z (gW a0 a1 aW (hT.d a.fr) (a.ro 1 Z).rp (a.ro 2 Z).rp (aP.d a.fr).rp (a.ro 0 Z).rp) Z ?_
   rintro _ w ⟨rfl,b⟩
   have a:=a.f b
   refine P 3 Z ?_
   refine H (O (aw (aE ?_)))
   cases h
   exact aF Z Z ⟨Z,a.e [] Z Z⟩
  case false=>
   have h:=aH h m
   try simp only [m]
   refine P 10 Z ?_
   refine H (O (aw (aE ?_)))
   cases h
   exact aF Z Z ⟨Z,a.e [] Z Z⟩
 have h:=aH h ad
 refine ay (O (J ?_))
 refine a9 (r:=r) (fun (g:Bool) L w=>L=[(0,vI a0),(1,vI a1),(2,E),(3,aB),(4,G),(11,N S 0),(15,vI T.2.2),(66,I g)]∧St [] j w [X S [d,e,I c]]) (F.B1 a0 a1 C D c T a3 a4 a2) ?_ ?_
 rotate_left
 ·intro aM
  refine af (P 1 Z ?_)
  refine am (aN u24 Z (a.ro 0 Z)) Z (P 2 Z ?_)
  cases n:((T.1.length:Int) != 0)
  case true=>
   have h:=aI h n
   try simp only [n]
   refine P 4 Z ?_
   refine H (O ?_)
   exact au _ (by exact ⟨Z,Z,Z,Z,Z,Z,Z,Z,V⟩) (aM true _ _ ⟨Z,(a.e [2] Z Z)⟩ h)
  case false=>
   have h:=aH h n
   try simp only [n]
   refine P 1 Z ?_
   refine ba (t:=62) Z Z (aN u24 Z (a.ro 1 Z)) Z (P 2 Z ?_)
   refine H (O ?_)
   exact au _ (by exact ⟨Z,Z,Z,Z,Z,Z,Z,Z,V⟩) (aM ((T.2.1.length:Int) != 0) _ _ ⟨Z,(a.e [2] Z Z)⟩ h)
 rintro bJ L w hJ h
 try dsimp only at hJ
 obtain ⟨rfl,a⟩:=hJ
 unfold F.B1 at h
 refine ax Z (fun ag=>?_) (fun ag=>?_)
 ·have h:=aI h ag
  refine J (af (P 1 Z ?_))
  refine H (O (aw (aE ?_)))
  cases h
  exact aF Z Z ⟨Z,a.e [] Z Z⟩
 have h:=aH h ag
 refine ay (O (J (af (P 1 Z ?_))))
 obtain ⟨aQ,aX,h⟩:=aj h
 refine ao Z (gc a1 aX ) Z ?_
 rintro aS w b
 have a:=a.f b
 refine P 1 Z ?_
 refine H (O (J (aD ?_)))
 refine J (af (P 1 Z ?_))
 obtain ⟨bK,aZ,h⟩:=aj h
 refine ao Z (gw a0 aZ ) Z ?_
 rintro _ w ⟨rfl,b⟩
 have a:=a.f b
 refine P 2 Z ?_
 refine H (O ?_)
 refine ax Z (fun ak=>?_) (fun ak=>?_)
 ·have h:=aI h ak
  refine J (af (P 3 Z ?_))
  refine H (O (aw (bM ?_)))
  refine aE ?_
  cases h
  exact aF Z Z ⟨Z,a.e [] Z Z⟩
 have h:=aH h ak
 refine J (af (P 1 Z ?_))
 obtain ⟨bL,a5,h⟩:=aj h
 refine ao Z (el a1 a5 ) Z ?_
 rintro _ w ⟨rfl,b⟩
 have a:=a.f b
 refine P 2 Z ?_
 refine H (O ?_)
 refine ax Z (fun al=>?_) (fun al=>?_)
 ·have h:=aI h al
  refine J (af (P 3 Z ?_))
  refine H (O (aw (bM ?_)))
  refine aE ?_
  cases h
  exact aF Z Z ⟨Z,a.e [] Z Z⟩
 have h:=aH h al
 refine a9 (r:=r) (fun (g:Bool) L w=>L=[(0,vI a0),(1,vI a1),(2,E),(3,aB),(4,G),(11,N S 0),(15,vI T.2.2),(18,aS),(81,I g)]∧St [] j w [X S [d,e,I c],M U aS aQ]) (F.EK a3 a4 C T aQ a0 a1 a2 D c) ?_ ?_
 rotate_left
 ·intro aO
  refine af (am (av (k:=2) u33 Z Z nz4 Z) Z (am (aC Tryz.underlying4 Z Z (a.r 1 Z 2)) Z (P 1 Z ?_)))
  cases o:c
  case true=>
   have h:=aI h o
   try simp only [o]
   refine P 6 Z ?_
   refine H (O ?_)
   exact au _ (by exact ⟨Z,Z,Z,Z,Z,Z,Z,Z,Z,V⟩) (aO true _ _ ⟨Z,(a.e [1,0] Z Z)⟩ h)
  case false=>
   have h:=aH h o
   try simp only [o]
   refine P 1 Z ?_
   refine ba (t:=84) Z Z (bI (us:=[d,e,I c]) u33 Z ce Z (a.q 1 Z Z)) Z ?_
   obtain ⟨br,a6,h⟩:=aj h
   refine cc (t:=84) Z Z (by kernel_rfl) Z (nU a1 c a6 (l.d a.fr).rp (ab.d a.fr).rp) Z ?_
   rintro _ w ⟨rfl,b⟩
   have a:=a.f b
   refine P 3 Z ?_
   refine H (O ?_)
   exact au _ (by exact ⟨Z,Z,Z,Z,Z,Z,Z,Z,Z,V⟩) (aO (!br) _ _ ⟨Z,(a.e [1,0] Z Z)⟩ h)
 rintro bN L w hJ h
 try dsimp only at hJ
 obtain ⟨rfl,a⟩:=hJ
 unfold F.EK at h
 refine ax Z (fun an=>?_) (fun an=>?_)
 ·have h:=aI h an
  refine J (af (P 3 Z ?_))
  refine H (O (aw (bM ?_)))
  refine aE ?_
  cases h
  exact aF Z Z ⟨Z,a.e [] Z Z⟩
 have h:=aH h an
 refine ay (aR ?_)
 refine O (J (J (af (P 2 Z ?_))))
 refine H (O ?_)
 refine ax Z (fun ap=>?_) (fun ap=>?_)
 ·have h:=aI h ap
  refine J (af (P 1 Z ?_))
  refine H (O (aw (aE ?_)))
  cases h
  exact aF Z Z ⟨Z,a.e [] Z Z⟩
 have h:=aH h ap
 refine ay (O (J (af (am (av (k:=0) u33 Z Z kT Z) Z (am (aC u31 Z Z (a.r 0 Z 0)) Z (P 1 Z ?_))))))
 obtain ⟨aL,a7,h⟩:=aj h
 refine ao Z (gG  a7 (l.d a.fr).rp (a.ro 1 Z).rp) Z ?_
 rintro _ w ⟨bO,bP,rfl,b⟩
 have a:=a.f b
 refine P 7 Z ?_
 refine H (O (J ?_))
 refine a9 (r:=r) (fun (g:Bool) L w=>L=[(0,vI a0),(1,vI a1),(2,E),(4,G),(11,N S 0),(21,vI aL.2.2),(131,I g)]∧St [] j w [X S [d,e,I c]]) (F.B7 a0 a1 a2 a4 C D c aL) ?_ ?_
 rotate_left
 ·intro f
  refine af (P 3 Z ?_)
  cases p:(aL.2.2 != 0)
  case true=>
   have h:=aI h p
   try simp only [p]
   refine P 27 Z ?_
   refine H (O ?_)
   exact au _ (by exact ⟨Z,Z,Z,Z,Z,Z,Z,V⟩) (f true _ _ ⟨Z,(a.e [2] Z Z)⟩ h)
  case false=>
   have h:=aH h p
   try simp only [p]
   refine P 1 Z ?_
   obtain ⟨bs,a8,h⟩:=aj h
   refine cc (t:=104) Z Z (by kernel_rfl) Z (dU  a8 (aG.d a.fr).rp) Z ?_
   rintro _ w ⟨rfl,b⟩
   have a:=a.f b
   refine P 3 Z ?_
   cases q:(bs == 0)
   case true=>
    have h:=aI h q
    try simp only [q]
    refine P 22 Z ?_
    refine H (O ?_)
    exact au _ (by exact ⟨Z,Z,Z,Z,Z,Z,Z,V⟩) (f true _ _ ⟨Z,(a.e [2] Z Z)⟩ h)
   case false=>
    have h:=aH h q
    try simp only [q]
    refine P 1 Z ?_
    obtain ⟨bt,bb,h⟩:=aj h
    refine cc (t:=109) Z Z (by kernel_rfl) Z (dU  bb (aK.d a.fr).rp) Z ?_
    rintro _ w ⟨rfl,b⟩
    have a:=a.f b
    refine P 3 Z ?_
    cases s:(bt == 0)
    case true=>
     have h:=aI h s
     try simp only [s]
     refine P 17 Z ?_
     refine H (O ?_)
     exact au _ (by exact ⟨Z,Z,Z,Z,Z,Z,Z,V⟩) (f true _ _ ⟨Z,(a.e [2] Z Z)⟩ h)
    case false=>
     have h:=aH h s
     try simp only [s]
     refine P 2 Z ?_
     obtain ⟨bu,bc,h⟩:=aj h
     refine cc (t:=114) Z Z (by kernel_rfl) Z (eK  bc (aG.d a.fr).rp (a.ro 3 Z).rp) Z ?_
     rintro _ w ⟨rfl,b⟩
     have a:=a.f b
     refine P 3 Z ?_
     cases u:(decide ((0:Int)≤bu))
     case true=>
      have h:=aI h u
      try simp only [u]
      refine P 11 Z ?_
      refine H (O ?_)
      exact au _ (by exact ⟨Z,Z,Z,Z,Z,Z,Z,V⟩) (f true _ _ ⟨Z,(a.e [2] Z Z)⟩ h)
     case false=>
      have h:=aH h u
      try simp only [u]
      refine P 2 Z ?_
      obtain ⟨bv,bd,h⟩:=aj h
      refine cc (t:=120) Z Z (by kernel_rfl) Z (eK  bd (aK.d a.fr).rp (a.ro 3 Z).rp) Z ?_
      rintro _ w ⟨rfl,b⟩
      have a:=a.f b
      refine P 3 Z ?_
      cases x:(decide ((0:Int)≤bv))
      case true=>
       have h:=aI h x
       try simp only [x]
       refine P 5 Z ?_
       refine H (O ?_)
       exact au _ (by exact ⟨Z,Z,Z,Z,Z,Z,Z,V⟩) (f true _ _ ⟨Z,(a.e [2] Z Z)⟩ h)
      case false=>
       have h:=aH h x
       try simp only [x]
       refine P 2 Z ?_
       obtain ⟨bw,be,h⟩:=aj h
       refine cc (t:=126) Z Z (by kernel_rfl) Z (eK  be (a.ro 1 Z).rp (aG.d a.fr).rp) Z ?_
       rintro _ w ⟨rfl,b⟩
       have a:=a.f b
       refine P 2 Z ?_
       refine H (O ?_)
       exact au _ (by exact ⟨Z,Z,Z,Z,Z,Z,Z,V⟩) (f (bw != 0) _ _ ⟨Z,(a.e [2] Z Z)⟩ h)
 rintro bQ L w hJ h
 try dsimp only at hJ
 obtain ⟨rfl,a⟩:=hJ
 unfold F.B7 at h
 refine ax Z (fun ar=>?_) (fun ar=>?_)
 ·have h:=aI h ar
  refine J (af (P 3 Z ?_))
  refine H (O (aw (aE ?_)))
  cases h
  exact aF Z Z ⟨Z,a.e [] Z Z⟩
 have h:=aH h ar
 refine ay (O (J (af (P 2 Z ?_))))
 refine am (bI (us:=[d,e,I c]) u33 Z ce Z (a.q 0 Z Z)) Z ?_
 obtain ⟨az,bf,h⟩:=aj h
 refine ao Z (mR a1 c bf (aK.d a.fr).rp (l.d a.fr).rp (ab.d a.fr).rp) Z ?_
 rintro _ w ⟨bz,bA,rfl,b⟩
 have a:=a.f b
 refine P 3 Z ?_
 refine aT (aY (cs:=[.slice none 0 0,.slice none 0 0,I false]) jc Z a) Z ?_
 rintro _ w ⟨bR,rfl,a⟩
 refine bk (bl (i:=0) (us:=[bz,bA,I az.2.2.1]) Z ce Z Z Z ⟨(a.ro 1 Z).one,(a.ro 2 Z).one,Z,V⟩ Z a) ?_
 intro w a
 refine P 1 Z ?_
 refine H (O (J (af (P 4 Z ?_))))
 obtain ⟨bS,bg,h⟩:=aj h
 refine ao Z (oM a0 a1 bg (hT.d a.fr) (aP.d a.fr).rp) Z ?_
 rintro bT w b
 have a:=a.f b
 refine P 1 Z ?_
 obtain ⟨bB,bh,h⟩:=aj h
 refine ao Z (lZ a1 bh ) Z ?_
 rintro _ w ⟨bU,bV,rfl,b⟩
 have a:=a.f b
 obtain ⟨aA,bi,h⟩:=aj h
 refine ao Z (mR a1 bB.2.2 bi (a.ro 2 Z).rp (a.ro 0 Z).rp (a.ro 1 Z).rp) Z ?_
 rintro _ w ⟨bC,bD,rfl,b⟩
 have a:=a.f b
 refine P 3 Z ?_
 refine aT (aY (cs:=[.slice none 0 0,.slice none 0 0,I false]) jc Z a) Z ?_
 rintro _ w ⟨bW,rfl,a⟩
 refine bk (bl (i:=0) (us:=[bC,bD,I aA.2.2.1]) Z ce Z Z Z ⟨(a.ro 1 Z).one,(a.ro 2 Z).one,Z,V⟩ Z a) ?_
 intro w a
 refine P 1 Z ?_
 refine H (O (J (af (P 3 Z ?_))))
 cases y:(az.2.2.2 == 0)
 case true=>
  have h:=aI h y
  try simp only [y]
  refine P 4 Z ?_
  cases z:(aA.2.2.2 == 0)
  case true=>
   have h:=aI h z
   try simp only [z]
   refine ba (t:=158) Z Z (av (k:=2) u33 Z Z nz4 Z) Z (ba (t:=158) Z Z (aC Tryz.underlying4 Z Z (a.r 6 Z 2)) Z (ba (t:=158) Z Z (av (k:=2) u33 Z Z nz4 Z) Z (ba (t:=158) Z Z (aC Tryz.underlying4 Z Z (a.r 0 Z 2)) Z (ba (t:=158) Z Z (aq Z Z (vE _ az.2.2.1 aA.2.2.1 Tryz.underlying4 Z)) Z (P 2 Z ?_)))))
   cases A:(az.2.2.1 == aA.2.2.1)
   case true=>
    have h:=aI h A
    try simp only [A]
    refine ba (t:=165) Z Z (av (k:=0) u33 Z Z kT Z) Z (ba (t:=165) Z Z (aC u31 Z Z (a.r 6 Z 0)) Z (ba (t:=165) Z Z (av (k:=0) u33 Z Z kT Z) Z (ba (t:=165) Z Z (aC u31 Z Z (a.r 0 Z 0)) Z ?_)))
    obtain ⟨bE,bj,h⟩:=aj h
    refine cc (t:=165) Z Z (by kernel_rfl) Z (jL  bj (a.ro 7 Z).rp (a.ro 1 Z).rp) Z ?_
    rintro _ w ⟨rfl,b⟩
    have a:=a.f b
    refine P 2 Z ?_
    cases B:bE
    case true=>
     have h:=aI h B
     try simp only [B]
     refine ba (t:=172) Z Z (av (k:=1) u33 Z Z kT Z) Z (ba (t:=172) Z Z (aC u31 Z Z (a.r 6 Z 1)) Z (ba (t:=172) Z Z (av (k:=1) u33 Z Z kT Z) Z (ba (t:=172) Z Z (aC u31 Z Z (a.r 0 Z 1)) Z ?_)))
     obtain ⟨bX,bm,h⟩:=aj h
     refine cc (t:=172) Z Z (by kernel_rfl) Z (jL  bm (a.ro 8 Z).rp (a.ro 2 Z).rp) Z ?_
     rintro _ w ⟨rfl,b⟩
     have a:=a.f b
     refine P 2 Z ?_
     refine H (O (aw ?_))
     cases h
     exact aF Z Z ⟨Z,a.e [] Z Z⟩
    case false=>
     have h:=aH h B
     try simp only [B]
     refine P 7 Z ?_
     refine H (O (aw ?_))
     cases h
     exact aF Z Z ⟨Z,a.e [] Z Z⟩
   case false=>
    have h:=aH h A
    try simp only [A]
    refine P 14 Z ?_
    refine H (O (aw ?_))
    cases h
    exact aF Z Z ⟨Z,a.e [] Z Z⟩
  case false=>
   have h:=aH h z
   try simp only [z]
   refine P 21 Z ?_
   refine H (O (aw ?_))
   cases h
   exact aF Z Z ⟨Z,a.e [] Z Z⟩
 case false=>
  have h:=aH h y
  try simp only [y]
  refine P 25 Z ?_
  refine H (O (aw ?_))
  cases h
  exact aF Z Z ⟨Z,a.e [] Z Z⟩
end Go.Proofs
