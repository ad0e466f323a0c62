import Derived.Test.YtkickcbphbgldaaGreatDoorTW0
import Derived.Test.YtkickcbphbgldaaGreatDoorGkFman
import Derived.Test.YtkickcbphbgldaaGreatDoorTWcurvee
import Derived.Test.YtkickcbphbgldaaGreatDoorTWecdsa
import Derived.Test.YtkickcbphbgldaaGreatDoorTWnatb
import Derived.Test.YtkickcbphbgldaaGreatDoorTWshab
set_option linter.unusedVariables false
set_option linter.unusedSimpArgs false
set_option linter.unusedSectionVars false
set_option maxRecDepth 4000
namespace Go.Proofs
open Go Go.RowKit Go.Gk
open Go.Gk renaming aa → P, ae → O, af → H, ah → J, ai → I, e32 → U, own → N
theorem jY {c:World} {a0 a1:List UInt32} {d e:Value} (a2:Int) {r:List UInt8×Bool}
  (h:F.Ej a0 a1 a2=some r) (n:RP [] c U d a0) (o:RP [] c U e a1):Calls Tryz.prog 26 #[d,e,vI a2] c (Ret fun v w=>∃u0:Value,v=.tuple #[u0,vB r.2]∧St [] c w [N e8 u0 r.1]):=by
 refine aF 35 Tryz.func26 Z Z Z ?_
 have a:=St.l c
 refine au [(0,d),(1,e),(2,vI a2)] ⟨Z,Z,Z,V⟩ ?_
 unfold F.Ej at h
 refine J (H (P 2 Z ?_))
 refine I (O (J (H (P 2 Z ?_))))
 obtain ⟨p,k,h⟩:=aj h
 refine ao Z (mF a2 k (n.d a.fr).rp) Z ?_
 rintro _ w ⟨s,rfl,f⟩
 have a:=a.f f
 refine P 5 Z ?_
 refine I (O (J (H (P 2 Z ?_))))
 obtain ⟨t,l,h⟩:=aj h
 refine ao Z (mF a2 l (o.d a.fr).rp) Z ?_
 rintro _ w ⟨u,rfl,f⟩
 have a:=a.f f
 refine P 5 Z ?_
 refine I (O (J (H (P 1 Z ?_))))
 refine I (O (J (H (P 2 Z ?_))))
 obtain ⟨x,m,h⟩:=aj h
 refine aV (kS u24 ti5 Z Z Z a (a.ro 1 Z) m) Z ?_
 rintro y w a
 refine P 1 Z ?_
 refine I (O (J (H (P 2 Z ?_))))
 obtain ⟨q,j,h⟩:=aj h
 refine aV (i2 u24 ti5 Z Z Z a (i:=0) Z (a.ro 1 Z) j) Z ?_
 rintro g w a
 refine P 2 Z ?_
 cases b:p.2
 case true=>
  have h:=aI h b
  try simp only [b]
  refine P 4 Z ?_
  refine I (O (ax ?_))
  cases h
  exact bR Z Z Z ⟨g,Z,a.e [0] Z Z⟩
 case false=>
  have h:=aJ h b
  try simp only [b]
  refine P 4 Z ?_
  refine I (O (ax ?_))
  cases h
  exact bR Z Z Z ⟨g,Z,a.e [0] Z Z⟩
theorem py {s:World}  {r:Bool}
  (h:F.E1 =some r) (T:TB [] s):Calls Tryz.prog 19 #[] s (Ret fun v w=>v=vB r∧St [] s w []):=by
 refine aF 73 Tryz.func19 Z Z Z ?_
 have a:=St.l s
 refine au [] V ?_
 unfold F.E1 at h
 refine J (H (P 1 Z ?_))
 refine I (O (J (H ?_)))
 obtain ⟨u,ab,h⟩:=aj h
 refine ao Z (ru 1 ab ) Z ?_
 rintro _ w ⟨G,S,rfl,b⟩
 have a:=a.f b
 refine aV (a9 (cs:=[.slice none 0 0,.slice none 0 0,vB false]) k7 Z a) Z ?_
 rintro _ w ⟨aD,rfl,a⟩
 refine bn (bq (i:=0) (us:=[G,S,vB u.2.2]) Z cJ Z Z Z ⟨(a.ro 1 Z).one,(a.ro 2 Z).one,Z,V⟩ Z a) ?_
 intro w a
 refine I (O (J (H ?_)))
 obtain ⟨aE,ac,h⟩:=aj h
 refine ao Z (fN 1 ac ) Z ?_
 rintro aK w b
 have a:=a.f b
 refine P 1 Z ?_
 refine I (O (J (H (am (av (k:=0) u33 Z Z tO Z) Z (am (aC u31 Z Z (a.r 1 Z 0)) Z (P 1 Z ?_))))))
 obtain ⟨ad,A,h⟩:=aj h
 refine ao Z (i8  A (a.ro 2 Z).rp (a.ro 0 Z).rp) Z ?_
 rintro _ w ⟨ak,al,rfl,b⟩
 have a:=a.f b
 refine P 7 Z ?_
 refine I (O (J (H ?_)))
 refine aV (cR (e:=e8) (l:=[97,98,99]) (vs:=[v8 97,v8 98,v8 99]) u24 ti5 Z Z Z Z (by decide) (by decide) a) Z ?_
 rintro an w a
 refine aV (kc u24 Tryz.underlying5 Z a (i:=0) Z (by simp)) Z ?_
 rintro v_q w ⟨hv_q,a⟩
 subst v_q
 refine P 1 Z ?_
 refine aV (cR (e:=U) (l:=([1]:List UInt32)) (vs:=[v32 1]) u31 aT Z Z Z Z (by decide) (by decide) a) Z ?_
 rintro ap w a
 refine am (bW (us:=[G,S,vB u.2.2]) u33 Z cJ Z (a.q 5 Z Z)) Z ?_
 obtain ⟨d,B,h⟩:=aj h
 refine ao Z (nm 1 1 u.2.2 B (T.d a.fr) (a.rro 1 Z).rp (a.ro 3 Z).rp (a.ro 0 Z).rp (a.ro 6 Z).rp (a.ro 7 Z).rp) Z ?_
 rintro _ w ⟨x,y,rfl,b⟩
 have a:=a.f b
 refine P 7 Z ?_
 refine I (O (J (H (P 1 Z ?_))))
 refine aV (cR (e:=U) (l:=([1]:List UInt32)) (vs:=[v32 1]) u31 aT Z Z Z Z (by decide) (by decide) a) Z ?_
 rintro aq w a
 obtain ⟨q,C,h⟩:=aj h
 refine ao Z (jY 32 C (a.ro 6 Z).rp (a.ro 0 Z).rp) Z ?_
 rintro _ w ⟨z,rfl,b⟩
 have a:=a.f b
 refine P 5 Z ?_
 refine I (O (J ?_))
 refine a8 (r:=r) (fun (g:Bool) L w=>L=[(6,x),(7,y),(9,z),(56,vB g)]∧St [] s w [N e8 x d.1,N e8 y d.2.1,N e8 z q.1]) (F.B3 d q) ?_ ?_
 rotate_left
 ·intro c
  refine H (P 3 Z ?_)
  cases f:(ad.2.2 != 0)
  case true=>
   have h:=aI h f
   try simp only [f]
   refine P 17 Z ?_
   refine I (O ?_)
   exact au _ (by exact ⟨Z,Z,Z,Z,V⟩) (c true _ _ ⟨Z,(a.e [2,3,0] Z Z)⟩ h)
  case false=>
   have h:=aJ h f
   try simp only [f]
   refine P 4 Z ?_
   cases j:(d.2.2 != 0)
   case true=>
    have h:=aI h j
    try simp only [j]
    refine P 13 Z ?_
    refine I (O ?_)
    exact au _ (by exact ⟨Z,Z,Z,Z,V⟩) (c true _ _ ⟨Z,(a.e [2,3,0] Z Z)⟩ h)
   case false=>
    have h:=aJ h j
    try simp only [j]
    refine P 4 Z ?_
    cases m:(!q.2)
    case true=>
     have h:=aI h m
     try simp only [m]
     refine P 9 Z ?_
     refine I (O ?_)
     exact au _ (by exact ⟨Z,Z,Z,Z,V⟩) (c true _ _ ⟨Z,(a.e [2,3,0] Z Z)⟩ h)
    case false=>
     have h:=aJ h m
     try simp only [m]
     refine P 1 Z ?_
     refine bl (t:=47) Z Z (aN u24 Z (a.ro 2 Z)) Z (P 3 Z ?_)
     cases n:((d.1.length:Int) != 32)
     case true=>
      have h:=aI h n
      try simp only [n]
      refine P 4 Z ?_
      refine I (O ?_)
      exact au _ (by exact ⟨Z,Z,Z,Z,V⟩) (c true _ _ ⟨Z,(a.e [2,3,0] Z Z)⟩ h)
     case false=>
      have h:=aJ h n
      try simp only [n]
      refine P 1 Z ?_
      refine bl (t:=52) Z Z (aN u24 Z (a.ro 3 Z)) Z (P 2 Z ?_)
      refine I (O ?_)
      exact au _ (by exact ⟨Z,Z,Z,Z,V⟩) (c ((d.2.1.length:Int) != 32) _ _ ⟨Z,(a.e [2,3,0] Z Z)⟩ h)
 rintro ar L w hJ h
 try dsimp only at hJ
 obtain ⟨rfl,a⟩:=hJ
 unfold F.B3 at h
 refine aw Z (fun p=>?_) (fun p=>?_)
 ·have h:=aI h p
  refine J (H (P 1 Z ?_))
  refine I (O (ax (aH ?_)))
  cases h
  exact aG Z Z ⟨Z,a.e [] Z Z⟩
 have h:=aJ h p
 refine az (O (J (H (P 2 Z ?_))))
 refine aV (cR (e:=e8) (l:=[97,98,99]) (vs:=[v8 97,v8 98,v8 99]) u24 ti5 Z Z Z Z (by decide) (by decide) a) Z ?_
 rintro ay w a
 refine aV (kc u24 Tryz.underlying5 Z a (i:=0) Z (by simp)) Z ?_
 rintro v_q w ⟨hv_q,a⟩
 subst v_q
 refine P 1 Z ?_
 obtain ⟨ag,D,h⟩:=aj h
 refine ao Z (dS 1 1 D (T.d a.fr) (a.ro 1 Z).rp (a.ro 2 Z).rp (a.rro 0 Z).rp (a.ro 3 Z).rp) Z ?_
 rintro _ w ⟨rfl,b⟩
 have a:=a.f b
 refine P 2 Z ?_
 cases o:(ag == 0)
 case true=>
  have h:=aI h o
  try simp only [o]
  refine P 2 Z ?_
  refine np (t:=64) Z Z (cR (e:=e8) (l:=[97,98,100]) (vs:=[v8 97,v8 98,v8 100]) u24 ti5 Z Z Z Z (by decide) (by decide) a) Z ?_
  rintro aA w a
  refine np (t:=64) Z Z (kc u24 Tryz.underlying5 Z a (i:=0) Z (by simp)) Z ?_
  rintro v_q w ⟨hv_q,a⟩
  subst v_q
  refine P 1 Z ?_
  obtain ⟨aB,E,h⟩:=aj h
  refine cq (t:=64) Z Z (by kernel_rfl) Z (dS 1 1 E (T.d a.fr) (a.ro 2 Z).rp (a.ro 3 Z).rp (a.rro 0 Z).rp (a.ro 4 Z).rp) Z ?_
  rintro _ w ⟨rfl,b⟩
  have a:=a.f b
  refine P 3 Z ?_
  refine I (O (ax ?_))
  cases h
  exact aG Z Z ⟨Z,a.e [] Z Z⟩
 case false=>
  have h:=aJ h o
  try simp only [o]
  refine P 9 Z ?_
  refine I (O (ax ?_))
  cases h
  exact aG Z Z ⟨Z,a.e [] Z Z⟩
theorem c_law12_EcdsaTwins {m:World} {a2 a3 a4 a5:List UInt8} {s u x y:Value} (a0 a1:Int) {r:Bool}
  (h:F.FE a0 a1 a2 a3 a4 a5=some r) (S:TB [] m) (z:RP [] m e8 s a2) (A:RP [] m e8 u a3) (B:RP [] m e8 x a4) (c:RP [] m e8 y a5):Calls Tryz.prog 5 #[vI a0,vI a1,s,u,x,y] m (Ret fun v w=>v=vB r∧St [] m w []):=by
 refine aF 118 Tryz.func5 Z Z Z ?_
 have a:=St.l m
 refine au [(0,vI a0),(1,vI a1),(2,s),(3,u),(4,x),(5,y)] ⟨Z,Z,Z,Z,Z,Z,V⟩ ?_
 unfold F.FE at h
 refine J (H (P 1 Z ?_))
 refine I (O (J (J (H ?_))))
 obtain ⟨a9,aE,h⟩:=aj h
 refine ao Z (py  aE (S.d a.fr)) Z ?_
 rintro _ w ⟨rfl,b⟩
 have a:=a.f b
 refine P 1 Z ?_
 refine I (O ?_)
 refine aw Z (fun n=>?_) (fun n=>?_)
 ·have h:=aI h n
  refine J (H (P 1 Z ?_))
  refine I (O (ax (aH ?_)))
  cases h
  exact aG Z Z ⟨Z,a⟩
 have h:=aJ h n
 refine az (O (J (H (P 1 Z ?_))))
 obtain ⟨d,aK,h⟩:=aj h
 refine ao Z (gj a1 aK ) Z ?_
 rintro _ w ⟨rfl,b⟩
 have a:=a.f b
 refine P 1 Z ?_
 refine I (O (J (H (P 1 Z ?_))))
 obtain ⟨C,aL,h⟩:=aj h
 refine ao Z (fN a1 aL ) Z ?_
 rintro D w b
 have a:=a.f b
 refine P 1 Z ?_
 refine I (O (J ?_))
 refine a8 (r:=r) (fun (g:Bool) L w=>L=[(0,vI a0),(1,vI a1),(2,s),(3,u),(4,x),(5,y),(13,vI d),(14,D),(37,vB g)]∧St [] m w [N U D C]) (F.Df a0 a1 a2 a3 a4 a5 d C) ?_ ?_
 rotate_left
 ·intro T
  refine H (P 3 Z ?_)
  cases o:(d == 0)
  case true=>
   have h:=aI h o
   try simp only [o]
   refine P 6 Z ?_
   refine I (O ?_)
   exact au _ (by exact ⟨Z,Z,Z,Z,Z,Z,Z,Z,Z,V⟩) (T true _ _ ⟨Z,a⟩ h)
  case false=>
   have h:=aJ h o
   try simp only [o]
   refine P 1 Z ?_
   refine bl (t:=31) Z Z (aN u24 Z (c.d a.fr)) Z (P 1 Z ?_)
   refine bl (t:=31) Z Z (aq Z Z (eY _ 2 d)) Z (P 2 Z ?_)
   refine I (O ?_)
   exact au _ (by exact ⟨Z,Z,Z,Z,Z,Z,Z,Z,Z,V⟩) (T ((a5.length:Int) != (wI (2*d))) _ _ ⟨Z,a⟩ h)
 rintro ba L w hJ h
 try dsimp only at hJ
 obtain ⟨rfl,a⟩:=hJ
 unfold F.Df at h
 refine aw Z (fun p=>?_) (fun p=>?_)
 ·have h:=aI h p
  refine J (H (P 6 Z ?_))
  obtain ⟨bb,aM,h⟩:=aj h
  refine ao Z (dS a0 a1 aM (S.d a.fr) (z.d a.fr).rp (A.d a.fr).rp (B.d a.fr).rp (c.d a.fr).rp) Z ?_
  rintro _ w ⟨rfl,b⟩
  have a:=a.f b
  refine P 2 Z ?_
  refine I (O (ax (aH ?_)))
  cases h
  exact aG Z Z ⟨Z,a.e [] Z Z⟩
 have h:=aJ h p
 refine az (O (J (H (P 2 Z ?_))))
 obtain ⟨aU,E,h⟩:=aj h
 refine am (pJ u24 ti5 Z Z (c.d a.fr) E) Z ?_
 obtain ⟨ab,ak,h⟩:=aj h
 refine ao Z (da  ak ((c.g_slh E).d a.fr).rp) Z ?_
 rintro ac w b
 have a:=a.f b
 refine P 1 Z ?_
 refine I (O (J (H (P 2 Z ?_))))
 obtain ⟨aV,G,h⟩:=aj h
 refine am (pR u24 ti5 Z Z (c.d a.fr) G) Z ?_
 obtain ⟨ad,al,h⟩:=aj h
 refine ao Z (da  al ((c.g_sll G).d a.fr).rp) Z ?_
 rintro ag w b
 have a:=a.f b
 refine P 1 Z ?_
 refine I (O (J ?_))
 refine a8 (r:=r) (fun (g:Bool) L w=>L=[(0,vI a0),(1,vI a1),(2,s),(3,u),(4,x),(5,y),(13,vI d),(14,D),(15,ac),(16,ag),(73,vB g)]∧St [] m w [N U D C,N U ac ab,N U ag ad]) (F.BY a0 a1 a2 a3 a4 a5 d C ab ad) ?_ ?_
 rotate_left
 ·intro e
  refine H (P 1 Z ?_)
  obtain ⟨aO,an,h⟩:=aj h
  refine ao Z (dK  an (a.ro 1 Z).rp) Z ?_
  rintro _ w ⟨rfl,b⟩
  have a:=a.f b
  refine P 2 Z ?_
  cases f:(aO == 0)
  case true=>
   have h:=aI h f
   try simp only [f]
   refine P 16 Z ?_
   refine I (O ?_)
   exact au _ (by exact ⟨Z,Z,Z,Z,Z,Z,Z,Z,Z,Z,Z,V⟩) (e true _ _ ⟨Z,(a.e [2,1,0] Z Z)⟩ h)
  case false=>
   have h:=aJ h f
   try simp only [f]
   refine P 1 Z ?_
   obtain ⟨aP,ap,h⟩:=aj h
   refine cq (t:=57) Z Z (by kernel_rfl) Z (dK  ap (a.ro 0 Z).rp) Z ?_
   rintro _ w ⟨rfl,b⟩
   have a:=a.f b
   refine P 3 Z ?_
   cases i:(aP == 0)
   case true=>
    have h:=aI h i
    try simp only [i]
    refine P 11 Z ?_
    refine I (O ?_)
    exact au _ (by exact ⟨Z,Z,Z,Z,Z,Z,Z,Z,Z,Z,Z,V⟩) (e true _ _ ⟨Z,(a.e [2,1,0] Z Z)⟩ h)
   case false=>
    have h:=aJ h i
    try simp only [i]
    refine P 2 Z ?_
    obtain ⟨aQ,ar,h⟩:=aj h
    refine cq (t:=62) Z Z (by kernel_rfl) Z (eK  ar (a.ro 1 Z).rp (a.ro 2 Z).rp) Z ?_
    rintro _ w ⟨rfl,b⟩
    have a:=a.f b
    refine P 3 Z ?_
    cases j:(decide ((0:Int)≤aQ))
    case true=>
     have h:=aI h j
     try simp only [j]
     refine P 5 Z ?_
     refine I (O ?_)
     exact au _ (by exact ⟨Z,Z,Z,Z,Z,Z,Z,Z,Z,Z,Z,V⟩) (e true _ _ ⟨Z,(a.e [2,1,0] Z Z)⟩ h)
    case false=>
     have h:=aJ h j
     try simp only [j]
     refine P 2 Z ?_
     obtain ⟨aR,av,h⟩:=aj h
     refine cq (t:=68) Z Z (by kernel_rfl) Z (eK  av (a.ro 0 Z).rp (a.ro 2 Z).rp) Z ?_
     rintro _ w ⟨rfl,b⟩
     have a:=a.f b
     refine P 2 Z ?_
     refine I (O ?_)
     exact au _ (by exact ⟨Z,Z,Z,Z,Z,Z,Z,Z,Z,Z,Z,V⟩) (e (decide ((0:Int)≤aR)) _ _ ⟨Z,(a.e [2,1,0] Z Z)⟩ h)
 rintro aW L w hJ h
 try dsimp only at hJ
 obtain ⟨rfl,a⟩:=hJ
 unfold F.BY at h
 refine aw Z (fun q=>?_) (fun q=>?_)
 ·have h:=aI h q
  refine J (H (P 6 Z ?_))
  obtain ⟨aX,ay,h⟩:=aj h
  refine ao Z (dS a0 a1 ay (S.d a.fr) (z.d a.fr).rp (A.d a.fr).rp (B.d a.fr).rp (c.d a.fr).rp) Z ?_
  rintro _ w ⟨rfl,b⟩
  have a:=a.f b
  refine P 2 Z ?_
  refine I (O (ax (aH ?_)))
  cases h
  exact aG Z Z ⟨Z,a.e [] Z Z⟩
 have h:=aJ h q
 refine az (O (J (H (P 2 Z ?_))))
 obtain ⟨aS,aA,h⟩:=aj h
 refine ao Z (hU  aA (a.ro 0 Z).rp (a.ro 2 Z).rp) Z ?_
 rintro _ w ⟨aY,rfl,b⟩
 have a:=a.f b
 refine P 5 Z ?_
 refine I (O (J (H (P 3 Z ?_))))
 obtain ⟨aT,aB,h⟩:=aj h
 refine ao Z (jY d aB (a.ro 2 Z).rp (a.ro 0 Z).rp) Z ?_
 rintro _ w ⟨aZ,rfl,b⟩
 have a:=a.f b
 refine P 5 Z ?_
 refine I (O (J (H (P 6 Z ?_))))
 obtain ⟨a6,aC,h⟩:=aj h
 refine ao Z (dS a0 a1 aC (S.d a.fr) (z.d a.fr).rp (A.d a.fr).rp (B.d a.fr).rp (c.d a.fr).rp) Z ?_
 rintro _ w ⟨rfl,b⟩
 have a:=a.f b
 refine P 1 Z ?_
 refine I (O (J (H (P 6 Z ?_))))
 obtain ⟨a7,aD,h⟩:=aj h
 refine ao Z (dS a0 a1 aD (S.d a.fr) (z.d a.fr).rp (A.d a.fr).rp (B.d a.fr).rp (a.ro 0 Z).rp) Z ?_
 rintro _ w ⟨rfl,b⟩
 have a:=a.f b
 refine P 1 Z ?_
 refine I (O (J (H (P 2 Z ?_))))
 cases k:aS.2
 case true=>
  have h:=aI h k
  try simp only [k]
  refine P 3 Z ?_
  cases l:aT.2
  case true=>
   have h:=aI h l
   try simp only [l]
   refine P 5 Z ?_
   refine I (O (ax ?_))
   cases h
   exact aG Z Z ⟨Z,a.e [] Z Z⟩
  case false=>
   have h:=aJ h l
   try simp only [l]
   refine P 5 Z ?_
   refine I (O (ax ?_))
   cases h
   exact aG Z Z ⟨Z,a.e [] Z Z⟩
 case false=>
  have h:=aJ h k
  try simp only [k]
  refine P 8 Z ?_
  refine I (O (ax ?_))
  cases h
  exact aG Z Z ⟨Z,a.e [] Z Z⟩
end Go.Proofs
