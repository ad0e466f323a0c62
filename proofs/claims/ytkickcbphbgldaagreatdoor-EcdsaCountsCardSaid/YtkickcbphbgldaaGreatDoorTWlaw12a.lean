import Derived.Test.YtkickcbphbgldaaGreatDoorTW0
import Derived.Test.YtkickcbphbgldaaGreatDoorGkFman
import Derived.Test.YtkickcbphbgldaaGreatDoorTWcurvee
import Derived.Test.YtkickcbphbgldaaGreatDoorTWecdsa
import Derived.Test.YtkickcbphbgldaaGreatDoorTWnatb
import Derived.Test.YtkickcbphbgldaaGreatDoorTWshab
set_option linter.unusedVariables false
set_option linter.unusedSimpArgs false
set_option linter.unusedSectionVars false
set_option maxRecDepth 4000
namespace Go.Proofs
open Go Go.RowKit Go.Gk
open Go.Gk renaming aa → P, ae → O, af → H, ah → J, ai → I, e32 → U, own → N
theorem oM {c:World} {a0 a1:List UInt32} {d e:Value} (a2:Int) {r:List UInt8×Bool}
  (h:F.EG a0 a1 a2=some r) (n:RP [] c U d a0) (o:RP [] c U e a1):Calls Tryz.prog 26 #[d,e,vI a2] c (Ret fun v w=>∃u0:Value,v=.tuple #[u0,vB r.2]∧St [] c w [N e8 u0 r.1]):=by
 refine aH 35 Tryz.func26 Z Z Z ?_
 have a:=St.l c
 refine au [(0,d),(1,e),(2,vI a2)] ⟨Z,Z,Z,V⟩ ?_
 unfold F.EG at h
 refine J (H (P 2 Z ?_))
 refine I (O (J (H (P 2 Z ?_))))
 obtain ⟨p,k,h⟩:=aj h
 refine ao Z (mz a2 k (n.d a.fr).rp) Z ?_
 rintro _ w ⟨s,rfl,f⟩
 have a:=a.f f
 refine P 5 Z ?_
 refine I (O (J (H (P 2 Z ?_))))
 obtain ⟨t,l,h⟩:=aj h
 refine ao Z (mz a2 l (o.d a.fr).rp) Z ?_
 rintro _ w ⟨u,rfl,f⟩
 have a:=a.f f
 refine P 5 Z ?_
 refine I (O (J (H (P 1 Z ?_))))
 refine I (O (J (H (P 2 Z ?_))))
 obtain ⟨x,m,h⟩:=aj h
 refine aV (kO u24 ti5 Z Z Z a (a.ro 1 Z) m) Z ?_
 rintro y w a
 refine P 1 Z ?_
 refine I (O (J (H (P 2 Z ?_))))
 obtain ⟨q,j,h⟩:=aj h
 refine aV (i3 u24 ti5 Z Z Z a (i:=0) Z (a.ro 1 Z) j) Z ?_
 rintro g w a
 refine P 2 Z ?_
 cases b:p.2
 case true=>
  have h:=aJ h b
  try simp only [b]
  refine P 4 Z ?_
  refine I (O (ax ?_))
  cases h
  exact bU Z Z Z ⟨g,Z,a.e [0] Z Z⟩
 case false=>
  have h:=aI h b
  try simp only [b]
  refine P 4 Z ?_
  refine I (O (ax ?_))
  cases h
  exact bU Z Z Z ⟨g,Z,a.e [0] Z Z⟩
theorem pG {s:World}  {r:Bool}
  (h:F.E2 =some r) (T:TB [] s):Calls Tryz.prog 19 #[] s (Ret fun v w=>v=vB r∧St [] s w []):=by
 refine aH 73 Tryz.func19 Z Z Z ?_
 have a:=St.l s
 refine au [] V ?_
 unfold F.E2 at h
 refine J (H (P 1 Z ?_))
 refine I (O (J (H ?_)))
 obtain ⟨u,ab,h⟩:=aj h
 refine ao Z (rJ 1 ab ) Z ?_
 rintro _ w ⟨G,S,rfl,b⟩
 have a:=a.f b
 refine aV (ba (cs:=[.slice none 0 0,.slice none 0 0,vB false]) lj Z a) Z ?_
 rintro _ w ⟨aD,rfl,a⟩
 refine bn (br (i:=0) (us:=[G,S,vB u.2.2]) Z cI Z Z Z ⟨(a.ro 1 Z).one,(a.ro 2 Z).one,Z,V⟩ Z a) ?_
 intro w a
 refine I (O (J (H ?_)))
 obtain ⟨aF,ac,h⟩:=aj h
 refine ao Z (ir 1 ac ) Z ?_
 rintro aK w b
 have a:=a.f b
 refine P 1 Z ?_
 refine I (O (J (H (am (av (k:=0) u33 Z Z uH Z) Z (am (aC u31 Z Z (a.r 1 Z 0)) Z (P 1 Z ?_))))))
 obtain ⟨ad,A,h⟩:=aj h
 refine ao Z (iW  A (a.ro 2 Z).rp (a.ro 0 Z).rp) Z ?_
 rintro _ w ⟨ak,al,rfl,b⟩
 have a:=a.f b
 refine P 7 Z ?_
 refine I (O (J (H ?_)))
 refine aV (cL (e:=e8) (l:=[97,98,99]) (vs:=[v8 97,v8 98,v8 99]) u24 ti5 Z Z Z Z (by decide) (by decide) a) Z ?_
 rintro an w a
 refine aV (kz u24 Tryz.underlying5 Z a (i:=0) Z (by simp)) Z ?_
 rintro v_q w ⟨hv_q,a⟩
 subst v_q
 refine P 1 Z ?_
 refine aV (cL (e:=U) (l:=([1]:List UInt32)) (vs:=[v32 1]) u31 aU Z Z Z Z (by decide) (by decide) a) Z ?_
 rintro ap w a
 refine am (bY (us:=[G,S,vB u.2.2]) u33 Z cI Z (a.q 5 Z Z)) Z ?_
 obtain ⟨d,B,h⟩:=aj h
 refine ao Z (nM 1 1 u.2.2 B (T.d a.fr) (a.rro 1 Z).rp (a.ro 3 Z).rp (a.ro 0 Z).rp (a.ro 6 Z).rp (a.ro 7 Z).rp) Z ?_
 rintro _ w ⟨x,y,rfl,b⟩
 have a:=a.f b
 refine P 7 Z ?_
 refine I (O (J (H (P 1 Z ?_))))
 refine aV (cL (e:=U) (l:=([1]:List UInt32)) (vs:=[v32 1]) u31 aU Z Z Z Z (by decide) (by decide) a) Z ?_
 rintro aq w a
 obtain ⟨q,C,h⟩:=aj h
 refine ao Z (oM 32 C (a.ro 6 Z).rp (a.ro 0 Z).rp) Z ?_
 rintro _ w ⟨z,rfl,b⟩
 have a:=a.f b
 refine P 5 Z ?_
 refine I (O (J ?_))
 refine a9 (r:=r) (fun (g:Bool) L w=>L=[(6,x),(7,y),(9,z),(56,vB g)]∧St [] s w [N e8 x d.1,N e8 y d.2.1,N e8 z q.1]) (F.B8 d q) ?_ ?_
 rotate_left
 ·intro c
  refine H (P 3 Z ?_)
  cases f:(ad.2.2 != 0)
  case true=>
   have h:=aJ h f
   try simp only [f]
   refine P 17 Z ?_
   refine I (O ?_)
   exact au _ (by exact ⟨Z,Z,Z,Z,V⟩) (c true _ _ ⟨Z,(a.e [2,3,0] Z Z)⟩ h)
  case false=>
   have h:=aI h f
   try simp only [f]
   refine P 4 Z ?_
   cases j:(d.2.2 != 0)
   case true=>
    have h:=aJ h j
    try simp only [j]
    refine P 13 Z ?_
    refine I (O ?_)
    exact au _ (by exact ⟨Z,Z,Z,Z,V⟩) (c true _ _ ⟨Z,(a.e [2,3,0] Z Z)⟩ h)
   case false=>
    have h:=aI h j
    try simp only [j]
    refine P 4 Z ?_
    cases m:(!q.2)
    case true=>
     have h:=aJ h m
     try simp only [m]
     refine P 9 Z ?_
     refine I (O ?_)
     exact au _ (by exact ⟨Z,Z,Z,Z,V⟩) (c true _ _ ⟨Z,(a.e [2,3,0] Z Z)⟩ h)
    case false=>
     have h:=aI h m
     try simp only [m]
     refine P 1 Z ?_
     refine bo (t:=47) Z Z (aN u24 Z (a.ro 2 Z)) Z (P 3 Z ?_)
     cases n:((d.1.length:Int) != 32)
     case true=>
      have h:=aJ h n
      try simp only [n]
      refine P 4 Z ?_
      refine I (O ?_)
      exact au _ (by exact ⟨Z,Z,Z,Z,V⟩) (c true _ _ ⟨Z,(a.e [2,3,0] Z Z)⟩ h)
     case false=>
      have h:=aI h n
      try simp only [n]
      refine P 1 Z ?_
      refine bo (t:=52) Z Z (aN u24 Z (a.ro 3 Z)) Z (P 2 Z ?_)
      refine I (O ?_)
      exact au _ (by exact ⟨Z,Z,Z,Z,V⟩) (c ((d.2.1.length:Int) != 32) _ _ ⟨Z,(a.e [2,3,0] Z Z)⟩ h)
 rintro ar L w hJ h
 try dsimp only at hJ
 obtain ⟨rfl,a⟩:=hJ
 unfold F.B8 at h
 refine aw Z (fun p=>?_) (fun p=>?_)
 ·have h:=aJ h p
  refine J (H (P 1 Z ?_))
  refine I (O (ax (aE ?_)))
  cases h
  exact aG Z Z ⟨Z,a.e [] Z Z⟩
 have h:=aI h p
 refine az (O (J (H (P 2 Z ?_))))
 refine aV (cL (e:=e8) (l:=[97,98,99]) (vs:=[v8 97,v8 98,v8 99]) u24 ti5 Z Z Z Z (by decide) (by decide) a) Z ?_
 rintro ay w a
 refine aV (kz u24 Tryz.underlying5 Z a (i:=0) Z (by simp)) Z ?_
 rintro v_q w ⟨hv_q,a⟩
 subst v_q
 refine P 1 Z ?_
 obtain ⟨ag,D,h⟩:=aj h
 refine ao Z (eD 1 1 D (T.d a.fr) (a.ro 1 Z).rp (a.ro 2 Z).rp (a.rro 0 Z).rp (a.ro 3 Z).rp) Z ?_
 rintro _ w ⟨rfl,b⟩
 have a:=a.f b
 refine P 2 Z ?_
 cases o:(ag == 0)
 case true=>
  have h:=aJ h o
  try simp only [o]
  refine P 2 Z ?_
  refine nm (t:=64) Z Z (cL (e:=e8) (l:=[97,98,100]) (vs:=[v8 97,v8 98,v8 100]) u24 ti5 Z Z Z Z (by decide) (by decide) a) Z ?_
  rintro aA w a
  refine nm (t:=64) Z Z (kz u24 Tryz.underlying5 Z a (i:=0) Z (by simp)) Z ?_
  rintro v_q w ⟨hv_q,a⟩
  subst v_q
  refine P 1 Z ?_
  obtain ⟨aB,E,h⟩:=aj h
  refine cr (t:=64) Z Z (by kernel_rfl) Z (eD 1 1 E (T.d a.fr) (a.ro 2 Z).rp (a.ro 3 Z).rp (a.rro 0 Z).rp (a.ro 4 Z).rp) Z ?_
  rintro _ w ⟨rfl,b⟩
  have a:=a.f b
  refine P 3 Z ?_
  refine I (O (ax ?_))
  cases h
  exact aG Z Z ⟨Z,a.e [] Z Z⟩
 case false=>
  have h:=aI h o
  try simp only [o]
  refine P 9 Z ?_
  refine I (O (ax ?_))
  cases h
  exact aG Z Z ⟨Z,a.e [] Z Z⟩
theorem jM {k:World} {a2:List UInt8} {c:Value} (a0 a1:Int) {r:List UInt32}
  (h:F.D6 a0 a1 a2=some r) (y:TB [] k) (o:RP [] k e8 c a2):Calls Tryz.prog 29 #[vI a0,vI a1,c] k (Ret fun v w=>St [] k w [N U v r]):=by
 refine aH 23 Tryz.func29 Z Z Z ?_
 have a:=St.l k
 refine au [(0,vI a0),(1,vI a1),(2,c)] ⟨Z,Z,Z,V⟩ ?_
 unfold F.D6 at h
 refine J (H (P 1 Z ?_))
 refine I (O (J (H (P 2 Z ?_))))
 refine aV (cL (e:=eV) (l:=([SV.of c]:List SV)) (vs:=[c]) u56 wZ Z Z Z (fN (o.d a.fr).sv Z) (by decide) (by decide) a) Z ?_
 rintro C w a
 obtain ⟨p,t,h⟩:=aj h
 refine ao Z (pd a0 t (y.d a.fr) (a.ro 0 Z).rp ⟨(o.d a.fr).svrp,V⟩) Z ?_
 rintro q w b
 have a:=a.f b
 refine P 1 Z ?_
 refine I (O ?_)
 refine a9 (r:=r) (fun (g:List UInt8) L w=>∃(d:Value),L=[(7,d)]∧St [] k w [N e8 d g]) (F.Ew) ?_ ?_
 rotate_left
 ·intro j
  refine J (H (P 1 Z ?_))
  refine am (aN u24 Z (a.ro 0 Z)) Z (P 1 Z ?_)
  obtain ⟨D,u,h⟩:=aj h
  refine ao Z (dY a1 u ) Z ?_
  rintro _ w ⟨rfl,b⟩
  have a:=a.f b
  refine P 1 Z ?_
  refine I (O ?_)
  refine aw Z (fun f=>?_) (fun f=>?_)
  ·have h:=aJ h f
   refine H (P 2 Z ?_)
   obtain ⟨s,x,h⟩:=aj h
   refine ao Z (dY a1 x ) Z ?_
   rintro _ w ⟨rfl,b⟩
   have a:=a.f b
   obtain ⟨m,h⟩:=bX h
   refine am (pH u24 ti5 Z Z (a.ro 0 Z) (k5 m)) Z (P 1 Z ?_)
   refine I (O ?_)
   exact au _ (by exact ⟨Z,V⟩) (j (p.take ((s:Int).toNat)) _ _ ⟨slV q e8.sz 0 ((s:Int).toNat),Z,((a.trunc (i:=0) Z m.2).e [0] Z Z)⟩ h)
  have h:=aI h f
  refine az (O ?_)
  exact au _ (by exact ⟨Z,V⟩) (j p _ _ ⟨q,Z,(a.e [0] Z Z)⟩ h)
 rintro z L w hJ h
 try dsimp only at hJ
 obtain ⟨d,rfl,a⟩:=hJ
 unfold F.Ew at h
 refine J (H (P 1 Z ?_))
 obtain ⟨A,n,h⟩:=aj h
 refine ao Z (dk  n (a.ro 0 Z).rp) Z ?_
 rintro B w b
 have a:=a.f b
 refine P 1 Z ?_
 refine I (O (ax ?_))
 cases h
 exact aG Z Z (a.e [0] Z Z)
theorem nG {e:World} {a0 a1:List UInt32} {c d:Value} {r:Bool}
  (h:F.Fi a0 a1=some r) (j:RP [] e U c a0) (k:RP [] e U d a1):Calls Tryz.prog 28 #[c,d] e (Ret fun v w=>v=vB r∧St [] e w []):=by
 refine aH 26 Tryz.func28 Z Z Z ?_
 have a:=St.l e
 refine au [(0,c),(1,d)] ⟨Z,Z,V⟩ ?_
 unfold F.Fi at h
 refine J (H (P 1 Z ?_))
 refine I (O (J (J (H (P 1 Z ?_)))))
 refine am (aN u31 Z (j.d a.fr)) Z (P 1 Z ?_)
 refine am (aN u31 Z (k.d a.fr)) Z (P 1 Z ?_)
 refine I (O ?_)
 refine aw Z (fun b=>?_) (fun b=>?_)
 ·have h:=aJ h b
  refine J (H (P 1 Z ?_))
  refine I (O (ax (aE ?_)))
  cases h
  exact aG Z Z ⟨Z,a⟩
 have h:=aI h b
 refine az (O (J (J (H (P 1 Z ?_)))))
 refine I (O (aD ?_))
 refine au [(0,c),(1,d),(5,vI 0)] ⟨Z,Z,Z,V⟩ ?_
 refine bj (F.CQ a0 a1) (fun (s:Int) L w=>L=[(0,c),(1,d),(5,vI s)]∧St [] e w []) ?_ 0 ⟨Z,a⟩ h
 rintro u p L w x hI n h f
 try dsimp only at hI
 obtain ⟨rfl,a⟩:=hI
 unfold F.CQ at h
 refine J (J (H (P 2 Z ?_)))
 refine am (aN u31 Z (j.d a.fr)) Z (P 1 Z ?_)
 refine I (O ?_)
 refine aw Z (fun g=>?_) (fun g=>?_)
 ·have h:=aJ h g
  refine az (O (J (aD ?_)))
  refine J ?_
  refine aY (fun w'=>St [] e w' []) (fun _=>true) bQ (fun _ _ _ o=>o.2) (fun _ _ o=>o) (by kernel_rfl) ?_
  have a:=a.drew
  show lxE _ _ _ _ _ _ _ [0,1,2,3,4,5,6,7,8] _ _
  refine al a Z Z (fun w hF=>ar Z) Z (al a Z Z (fun w hF=>ar Z) Z ?_)
  obtain ⟨q,l,h⟩:=aj h
  refine al a Z Z (fun w hF=>bk u31 aU Z Z (j.d hF.fr) l) Z (al a Z Z (fun w hF=>bb u38 Z Z (j.d hF.fr) l Z) Z (al a Z Z (fun w hF=>ar Z) Z (al a Z Z (fun w hF=>ar Z) Z ?_)))
  obtain ⟨t,m,h⟩:=aj h
  refine al a Z Z (fun w hF=>bk u31 aU Z Z (k.d hF.fr) m) Z (al a Z Z (fun w hF=>bb u38 Z Z (k.d hF.fr) m Z) Z (al a Z Z (fun w hF=>aq Z Z (jW _ q t)) Z (bl a ?_)))
  refine O ?_
  refine aw Z (fun i=>?_) (fun i=>?_)
  ·have h:=aJ h i
   refine J (H (P 1 Z ?_))
   refine I (O (ax (bP ?_)))
   refine aE (aE ?_)
   have h:=aW h f
   refine bP ?_
   refine aE ?_
   cases h
   exact aG Z Z ⟨Z,a⟩
  have h:=aI h i
  refine az (aR ?_)
  refine O (H (P 3 Z ?_))
  refine I ?_
  exact bv (bz _ (by exact ⟨Z,Z,Z,V⟩) (n (wI (p+1)) _ _ ⟨Z,a⟩ (a8 h f)))
 have h:=aI h g
 refine bg ?_
 refine aF (aF ?_)
 have h:=aW h f
 refine bd ?_
 refine O (J (H (P 1 Z ?_)))
 refine I (O (ax ?_))
 cases h
 exact aG Z Z ⟨Z,a⟩
theorem c_law12_EcdsaCounts {e:World} {a3 a4 a5 a6 a7:List UInt8} {n o p q s:Value} (a0 a1 a2:Int) {r:Bool}
  (h:F.Fx a0 a1 a2 a3 a4 a5 a6 a7=some r) (u:TB [] e) (x:RP [] e e8 n a3) (y:RP [] e e8 o a4) (z:RP [] e e8 p a5) (ab:RP [] e e8 q a6) (A:RP [] e e8 s a7):Calls Tryz.prog 6 #[vI a0,vI a1,vI a2,n,o,p,q,s] e (Ret fun v w=>v=vB r∧St [] e w []):=by
 refine aH 79 Tryz.func6 Z Z Z ?_
 have a:=St.l e
 refine au [(0,vI a0),(1,vI a1),(2,vI a2),(3,n),(4,o),(5,p),(6,q),(7,s)] ⟨Z,Z,Z,Z,Z,Z,Z,Z,V⟩ ?_
 unfold F.Fx at h
 refine J (H (P 1 Z ?_))
 refine I (O (J (J (H ?_))))
 obtain ⟨aL,ac,h⟩:=aj h
 refine ao Z (pG  ac (u.d a.fr)) Z ?_
 rintro _ w ⟨rfl,b⟩
 have a:=a.f b
 refine P 1 Z ?_
 refine I (O ?_)
 refine aw Z (fun f=>?_) (fun f=>?_)
 ·have h:=aJ h f
  refine J (H (P 1 Z ?_))
  refine I (O (ax (aE ?_)))
  cases h
  exact aG Z Z ⟨Z,a⟩
 have h:=aI h f
 refine az (O (J ?_))
 refine a9 (r:=r) (fun (g:Bool) L w=>L=[(0,vI a0),(1,vI a1),(2,vI a2),(3,n),(4,o),(5,p),(6,q),(7,s),(33,vB g)]∧St [] e w []) (F.Co a0 a1 a2 a3 a4 a5 a6 a7) ?_ ?_
 rotate_left
 ·intro m
  refine H (P 1 Z ?_)
  obtain ⟨an,ad,h⟩:=aj h
  refine ao Z (eQ a0 ad ) Z ?_
  rintro _ w ⟨rfl,b⟩
  have a:=a.f b
  refine P 2 Z ?_
  cases i:(an == 0)
  case true=>
   have h:=aJ h i
   try simp only [i]
   refine P 9 Z ?_
   refine I (O ?_)
   exact au _ (by exact ⟨Z,Z,Z,Z,Z,Z,Z,Z,Z,V⟩) (m true _ _ ⟨Z,a⟩ h)
  case false=>
   have h:=aI h i
   try simp only [i]
   refine P 1 Z ?_
   obtain ⟨ap,ag,h⟩:=aj h
   refine cr (t:=24) Z Z (by kernel_rfl) Z (eQ a1 ag ) Z ?_
   rintro _ w ⟨rfl,b⟩
   have a:=a.f b
   refine P 3 Z ?_
   cases j:(ap == 0)
   case true=>
    have h:=aJ h j
    try simp only [j]
    refine P 4 Z ?_
    refine I (O ?_)
    exact au _ (by exact ⟨Z,Z,Z,Z,Z,Z,Z,Z,Z,V⟩) (m true _ _ ⟨Z,a⟩ h)
   case false=>
    have h:=aI h j
    try simp only [j]
    refine P 1 Z ?_
    obtain ⟨aq,ak,h⟩:=aj h
    refine cr (t:=29) Z Z (by kernel_rfl) Z (dY a2 ak ) Z ?_
    rintro _ w ⟨rfl,b⟩
    have a:=a.f b
    refine P 2 Z ?_
    refine I (O ?_)
    exact au _ (by exact ⟨Z,Z,Z,Z,Z,Z,Z,Z,Z,V⟩) (m (aq == 0) _ _ ⟨Z,a⟩ h)
 rintro aM L w hJ h
 try dsimp only at hJ
 obtain ⟨rfl,a⟩:=hJ
 unfold F.Co at h
 refine aw Z (fun k=>?_) (fun k=>?_)
 ·have h:=aJ h k
  refine J (H (P 6 Z ?_))
  obtain ⟨ar,al,h⟩:=aj h
  refine ao Z (eD a0 a2 al (u.d a.fr) (x.d a.fr).rp (y.d a.fr).rp (z.d a.fr).rp (A.d a.fr).rp) Z ?_
  rintro _ w ⟨rfl,b⟩
  have a:=a.f b
  refine P 2 Z ?_
  cases c:(ar != 0)
  case true=>
   have h:=aJ h c
   try simp only [c]
   refine P 10 Z ?_
   refine I (O (ax (aE ?_)))
   cases h
   exact aG Z Z ⟨Z,a⟩
  case false=>
   have h:=aI h c
   try simp only [c]
   refine P 1 Z ?_
   obtain ⟨am,B,h⟩:=aj h
   refine cr (t:=42) Z Z (by kernel_rfl) Z (eQ a0 B ) Z ?_
   rintro _ w ⟨rfl,b⟩
   have a:=a.f b
   refine P 2 Z ?_
   cases d:(decide ((0:Int)<am))
   case true=>
    have h:=aJ h d
    try simp only [d]
    refine P 1 Z ?_
    obtain ⟨av,C,h⟩:=aj h
    refine cr (t:=46) Z Z (by kernel_rfl) Z (dY a2 C ) Z ?_
    rintro _ w ⟨rfl,b⟩
    have a:=a.f b
    refine P 4 Z ?_
    refine I (O (ax (aE ?_)))
    cases h
    exact aG Z Z ⟨Z,a⟩
   case false=>
    have h:=aI h d
    try simp only [d]
    refine P 6 Z ?_
    refine I (O (ax (aE ?_)))
    cases h
    exact aG Z Z ⟨Z,a⟩
 have h:=aI h k
 refine az (O (J (J (H (P 3 Z ?_)))))
 obtain ⟨ay,D,h⟩:=aj h
 refine ao Z (jM a0 a2 D (u.d a.fr) (z.d a.fr).rp) Z ?_
 rintro aA w b
 have a:=a.f b
 refine P 3 Z ?_
 obtain ⟨aB,E,h⟩:=aj h
 refine ao Z (jM a1 a2 E (u.d a.fr) (ab.d a.fr).rp) Z ?_
 rintro aC w b
 have a:=a.f b
 obtain ⟨aD,G,h⟩:=aj h
 refine ao Z (nG  G (a.ro 1 Z).rp (a.ro 0 Z).rp) Z ?_
 rintro _ w ⟨rfl,b⟩
 have a:=a.f b
 refine P 1 Z ?_
 refine I (O ?_)
 refine aw Z (fun l=>?_) (fun l=>?_)
 ·have h:=aJ h l
  refine J (H (P 1 Z ?_))
  refine I (O (ax (aE ?_)))
  cases h
  exact aG Z Z ⟨Z,a.e [] Z Z⟩
 have h:=aI h l
 refine az (O (J (H (P 6 Z ?_))))
 obtain ⟨aF,S,h⟩:=aj h
 refine ao Z (eD a0 a2 S (u.d a.fr) (x.d a.fr).rp (y.d a.fr).rp (z.d a.fr).rp (A.d a.fr).rp) Z ?_
 rintro _ w ⟨rfl,b⟩
 have a:=a.f b
 refine P 1 Z ?_
 refine I (O (J (H (P 6 Z ?_))))
 obtain ⟨aK,T,h⟩:=aj h
 refine ao Z (eD a1 a2 T (u.d a.fr) (x.d a.fr).rp (y.d a.fr).rp (ab.d a.fr).rp (A.d a.fr).rp) Z ?_
 rintro _ w ⟨rfl,b⟩
 have a:=a.f b
 refine P 1 Z ?_
 refine I (O (J (H (P 4 Z ?_))))
 refine I (O (ax ?_))
 cases h
 exact aG Z Z ⟨Z,a.e [] Z Z⟩
end Go.Proofs
