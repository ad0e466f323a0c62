import Derived.Test.YtkickcbphbgldaaGreatDoorTW0
import Derived.Test.YtkickcbphbgldaaGreatDoorGkFman
import Derived.Test.YtkickcbphbgldaaGreatDoorTWcurvee
import Derived.Test.YtkickcbphbgldaaGreatDoorTWecdsa
import Derived.Test.YtkickcbphbgldaaGreatDoorTWnatb
import Derived.Test.YtkickcbphbgldaaGreatDoorTWshab
set_option linter.unusedVariables false
set_option linter.unusedSimpArgs false
set_option linter.unusedSectionVars false
set_option maxRecDepth 4000
namespace Go.Proofs
open Go Go.RowKit Go.Gk
open Go.Gk renaming aa → P, ae → M, ah → I, ai → H, e32 → U, own → K, vB → J
theorem oY {c:World} {a0 a1:List UInt32} {d e:Value} (a2:Int) {r:List UInt8×Bool}
  (h:F.Fw a0 a1 a2=some r) (n:RP [] c U d a0) (o:RP [] c U e a1):Calls Tryz.prog 26 #[d,e,vI a2] c (Ret fun v w=>∃u0:Value,v=.tuple #[u0,J r.2]∧St [] c w [K e8 u0 r.1]):=by
 refine aJ 35 Tryz.func26 Z Z Z ?_
 have a:=St.l c
 refine au [(0,d),(1,e),(2,vI a2)] ⟨Z,Z,Z,V⟩ ?_
 unfold F.Fw at h
 refine I (af (P 2 Z ?_))
 refine H (M (I (af (P 2 Z ?_))))
 obtain ⟨p,k,h⟩:=aj h
 refine ao Z (nf a2 k (n.d a.fr).rp) Z ?_
 rintro _ w ⟨s,rfl,f⟩
 have a:=a.f f
 refine P 5 Z ?_
 refine H (M (I (af (P 2 Z ?_))))
 obtain ⟨t,l,h⟩:=aj h
 refine ao Z (nf a2 l (o.d a.fr).rp) Z ?_
 rintro _ w ⟨u,rfl,f⟩
 have a:=a.f f
 refine P 5 Z ?_
 refine H (M (I (af (P 1 Z ?_))))
 refine H (M (I (af (P 2 Z ?_))))
 obtain ⟨x,m,h⟩:=aj h
 refine aP (lR u24 ti5 Z Z Z a (a.ro 1 Z) m) Z ?_
 rintro y w a
 refine P 1 Z ?_
 refine H (M (I (af (P 2 Z ?_))))
 obtain ⟨q,j,h⟩:=aj h
 refine aP (jg u24 ti5 Z Z Z a (i:=0) Z (a.ro 1 Z) j) Z ?_
 rintro g w a
 refine P 2 Z ?_
 cases b:p.2
 case true=>
  have h:=aG h b
  try simp only [b]
  refine P 4 Z ?_
  refine H (M (aw ?_))
  cases h
  exact bX Z Z Z ⟨g,Z,a.e [0] Z Z⟩
 case false=>
  have h:=aH h b
  try simp only [b]
  refine P 4 Z ?_
  refine H (M (aw ?_))
  cases h
  exact bX Z Z Z ⟨g,Z,a.e [0] Z Z⟩
theorem qh {s:World}  {r:Bool}
  (h:F.FI =some r) (T:TB [] s):Calls Tryz.prog 19 #[] s (Ret fun v w=>v=J r∧St [] s w []):=by
 refine aJ 73 Tryz.func19 Z Z Z ?_
 have a:=St.l s
 refine au [] V ?_
 unfold F.FI at h
 refine I (af (P 1 Z ?_))
 refine H (M (I (af ?_)))
 obtain ⟨u,ab,h⟩:=aj h
 refine ao Z (i9 1 ab ) Z ?_
 rintro _ w ⟨G,S,rfl,b⟩
 have a:=a.f b
 refine aP (aT (cs:=[.slice none 0 0,.slice none 0 0,J false]) fu Z a) Z ?_
 rintro _ w ⟨aE,rfl,a⟩
 refine bb (a7 (i:=0) (us:=[G,S,J u.2.2]) Z bI Z Z Z ⟨(a.ro 1 Z).one,(a.ro 2 Z).one,Z,V⟩ Z a) ?_
 intro w a
 refine H (M (I (af ?_)))
 obtain ⟨aI,ac,h⟩:=aj h
 refine ao Z (f6 1 ac ) Z ?_
 rintro aK w b
 have a:=a.f b
 refine P 1 Z ?_
 refine H (M (I (af (am (av (k:=0) u33 Z Z kw Z) Z (am (aC u31 Z Z (a.r 1 Z 0)) Z (P 1 Z ?_))))))
 obtain ⟨ad,A,h⟩:=aj h
 refine ao Z (gu  A (a.ro 2 Z).rp (a.ro 0 Z).rp) Z ?_
 rintro _ w ⟨ak,al,rfl,b⟩
 have a:=a.f b
 refine P 7 Z ?_
 refine H (M (I (af ?_)))
 refine aP (cQ (e:=e8) (l:=[97,98,99]) (vs:=[v8 97,v8 98,v8 99]) u24 ti5 Z Z Z Z (by decide) (by decide) a) Z ?_
 rintro an w a
 refine aP (kS u24 Tryz.underlying5 Z a (i:=0) Z (by simp)) Z ?_
 rintro v_q w ⟨hv_q,a⟩
 subst v_q
 refine P 1 Z ?_
 refine aP (cQ (e:=U) (l:=([1]:List UInt32)) (vs:=[v32 1]) u31 aW Z Z Z Z (by decide) (by decide) a) Z ?_
 rintro ap w a
 refine am (bo (us:=[G,S,J u.2.2]) u33 Z bI Z (a.q 5 Z Z)) Z ?_
 obtain ⟨d,B,h⟩:=aj h
 refine ao Z (nW 1 1 u.2.2 B (T.d a.fr) (a.rro 1 Z).rp (a.ro 3 Z).rp (a.ro 0 Z).rp (a.ro 6 Z).rp (a.ro 7 Z).rp) Z ?_
 rintro _ w ⟨x,y,rfl,b⟩
 have a:=a.f b
 refine P 7 Z ?_
 refine H (M (I (af (P 1 Z ?_))))
 refine aP (cQ (e:=U) (l:=([1]:List UInt32)) (vs:=[v32 1]) u31 aW Z Z Z Z (by decide) (by decide) a) Z ?_
 rintro aq w a
 obtain ⟨q,C,h⟩:=aj h
 refine ao Z (oY 32 C (a.ro 6 Z).rp (a.ro 0 Z).rp) Z ?_
 rintro _ w ⟨z,rfl,b⟩
 have a:=a.f b
 refine P 5 Z ?_
 refine H (M (I ?_))
 refine a9 (r:=r) (fun (g:Bool) L w=>L=[(6,x),(7,y),(9,z),(56,J g)]∧St [] s w [K e8 x d.1,K e8 y d.2.1,K e8 z q.1]) (F.Cm d q) ?_ ?_
 rotate_left
 ·intro c
  refine af (P 3 Z ?_)
  cases f:(ad.2.2 != 0)
  case true=>
   have h:=aG h f
   try simp only [f]
   refine P 17 Z ?_
   refine H (M ?_)
   exact au _ (by exact ⟨Z,Z,Z,Z,V⟩) (c true _ _ ⟨Z,(a.e [2,3,0] Z Z)⟩ h)
  case false=>
   have h:=aH h f
   try simp only [f]
   refine P 4 Z ?_
   cases j:(d.2.2 != 0)
   case true=>
    have h:=aG h j
    try simp only [j]
    refine P 13 Z ?_
    refine H (M ?_)
    exact au _ (by exact ⟨Z,Z,Z,Z,V⟩) (c true _ _ ⟨Z,(a.e [2,3,0] Z Z)⟩ h)
   case false=>
    have h:=aH h j
    try simp only [j]
    refine P 4 Z ?_
    cases m:(!q.2)
    case true=>
     have h:=aG h m
     try simp only [m]
     refine P 9 Z ?_
     refine H (M ?_)
     exact au _ (by exact ⟨Z,Z,Z,Z,V⟩) (c true _ _ ⟨Z,(a.e [2,3,0] Z Z)⟩ h)
    case false=>
     have h:=aH h m
     try simp only [m]
     refine P 1 Z ?_
     refine bf (t:=47) Z Z (aN u24 Z (a.ro 2 Z)) Z (P 3 Z ?_)
     cases n:((d.1.length:Int) != 32)
     case true=>
      have h:=aG h n
      try simp only [n]
      refine P 4 Z ?_
      refine H (M ?_)
      exact au _ (by exact ⟨Z,Z,Z,Z,V⟩) (c true _ _ ⟨Z,(a.e [2,3,0] Z Z)⟩ h)
     case false=>
      have h:=aH h n
      try simp only [n]
      refine P 1 Z ?_
      refine bf (t:=52) Z Z (aN u24 Z (a.ro 3 Z)) Z (P 2 Z ?_)
      refine H (M ?_)
      exact au _ (by exact ⟨Z,Z,Z,Z,V⟩) (c ((d.2.1.length:Int) != 32) _ _ ⟨Z,(a.e [2,3,0] Z Z)⟩ h)
 rintro ar L w hJ h
 try dsimp only at hJ
 obtain ⟨rfl,a⟩:=hJ
 unfold F.Cm at h
 refine ax Z (fun p=>?_) (fun p=>?_)
 ·have h:=aG h p
  refine I (af (P 1 Z ?_))
  refine H (M (aw (aD ?_)))
  cases h
  exact aF Z Z ⟨Z,a.e [] Z Z⟩
 have h:=aH h p
 refine az (M (I (af (P 2 Z ?_))))
 refine aP (cQ (e:=e8) (l:=[97,98,99]) (vs:=[v8 97,v8 98,v8 99]) u24 ti5 Z Z Z Z (by decide) (by decide) a) Z ?_
 rintro ay w a
 refine aP (kS u24 Tryz.underlying5 Z a (i:=0) Z (by simp)) Z ?_
 rintro v_q w ⟨hv_q,a⟩
 subst v_q
 refine P 1 Z ?_
 obtain ⟨ag,D,h⟩:=aj h
 refine ao Z (hO 1 1 D (T.d a.fr) (a.ro 1 Z).rp (a.ro 2 Z).rp (a.rro 0 Z).rp (a.ro 3 Z).rp) Z ?_
 rintro _ w ⟨rfl,b⟩
 have a:=a.f b
 refine P 2 Z ?_
 cases o:(ag == 0)
 case true=>
  have h:=aG h o
  try simp only [o]
  refine P 2 Z ?_
  refine n9 (t:=64) Z Z (cQ (e:=e8) (l:=[97,98,100]) (vs:=[v8 97,v8 98,v8 100]) u24 ti5 Z Z Z Z (by decide) (by decide) a) Z ?_
  rintro aA w a
  refine n9 (t:=64) Z Z (kS u24 Tryz.underlying5 Z a (i:=0) Z (by simp)) Z ?_
  rintro v_q w ⟨hv_q,a⟩
  subst v_q
  refine P 1 Z ?_
  obtain ⟨aB,E,h⟩:=aj h
  refine cn (t:=64) Z Z (by kernel_rfl) Z (hO 1 1 E (T.d a.fr) (a.ro 2 Z).rp (a.ro 3 Z).rp (a.rro 0 Z).rp (a.ro 4 Z).rp) Z ?_
  rintro _ w ⟨rfl,b⟩
  have a:=a.f b
  refine P 3 Z ?_
  refine H (M (aw ?_))
  cases h
  exact aF Z Z ⟨Z,a.e [] Z Z⟩
 case false=>
  have h:=aH h o
  try simp only [o]
  refine P 9 Z ?_
  refine H (M (aw ?_))
  cases h
  exact aF Z Z ⟨Z,a.e [] Z Z⟩
theorem pv {k:World} {a2:List UInt8} {c:Value} (a0 a1:Int) {r:List UInt32}
  (h:F.Fi a0 a1 a2=some r) (y:TB [] k) (o:RP [] k e8 c a2):Calls Tryz.prog 29 #[vI a0,vI a1,c] k (Ret fun v w=>St [] k w [K U v r]):=by
 refine aJ 23 Tryz.func29 Z Z Z ?_
 have a:=St.l k
 refine au [(0,vI a0),(1,vI a1),(2,c)] ⟨Z,Z,Z,V⟩ ?_
 unfold F.Fi at h
 refine I (af (P 1 Z ?_))
 refine H (M (I (af (P 2 Z ?_))))
 refine aP (cQ (e:=eV) (l:=([SV.of c]:List SV)) (vs:=[c]) u56 xM Z Z Z (fT (o.d a.fr).sv Z) (by decide) (by decide) a) Z ?_
 rintro C w a
 obtain ⟨p,t,h⟩:=aj h
 refine ao Z (pS a0 t (y.d a.fr) (a.ro 0 Z).rp ⟨(o.d a.fr).svrp,V⟩) Z ?_
 rintro q w b
 have a:=a.f b
 refine P 1 Z ?_
 refine H (M ?_)
 refine a9 (r:=r) (fun (g:List UInt8) L w=>∃(d:Value),L=[(7,d)]∧St [] k w [K e8 d g]) (F.Ej) ?_ ?_
 rotate_left
 ·intro j
  refine I (af (P 1 Z ?_))
  refine am (aN u24 Z (a.ro 0 Z)) Z (P 1 Z ?_)
  obtain ⟨D,u,h⟩:=aj h
  refine ao Z (fc a1 u ) Z ?_
  rintro _ w ⟨rfl,b⟩
  have a:=a.f b
  refine P 1 Z ?_
  refine H (M ?_)
  refine ax Z (fun f=>?_) (fun f=>?_)
  ·have h:=aG h f
   refine af (P 2 Z ?_)
   obtain ⟨s,x,h⟩:=aj h
   refine ao Z (fc a1 x ) Z ?_
   rintro _ w ⟨rfl,b⟩
   have a:=a.f b
   obtain ⟨m,h⟩:=bZ h
   refine am (oK u24 ti5 Z Z (a.ro 0 Z) (ma m)) Z (P 1 Z ?_)
   refine H (M ?_)
   exact au _ (by exact ⟨Z,V⟩) (j (p.take ((s:Int).toNat)) _ _ ⟨slV q e8.sz 0 ((s:Int).toNat),Z,((a.trunc (i:=0) Z m.2).e [0] Z Z)⟩ h)
  have h:=aH h f
  refine az (M ?_)
  exact au _ (by exact ⟨Z,V⟩) (j p _ _ ⟨q,Z,(a.e [0] Z Z)⟩ h)
 rintro z L w hJ h
 try dsimp only at hJ
 obtain ⟨d,rfl,a⟩:=hJ
 unfold F.Ej at h
 refine I (af (P 1 Z ?_))
 obtain ⟨A,n,h⟩:=aj h
 refine ao Z (cV  n (a.ro 0 Z).rp) Z ?_
 rintro B w b
 have a:=a.f b
 refine P 1 Z ?_
 refine H (M (aw ?_))
 cases h
 exact aF Z Z (a.e [0] Z Z)
theorem jE {e:World} {a0 a1:List UInt32} {c d:Value} {r:Bool}
  (h:F.Ea a0 a1=some r) (j:RP [] e U c a0) (k:RP [] e U d a1):Calls Tryz.prog 28 #[c,d] e (Ret fun v w=>v=J r∧St [] e w []):=by
 refine aJ 26 Tryz.func28 Z Z Z ?_
 have a:=St.l e
 refine au [(0,c),(1,d)] ⟨Z,Z,V⟩ ?_
 unfold F.Ea at h
 refine I (af (P 1 Z ?_))
 refine H (M (I (I (af (P 1 Z ?_)))))
 refine am (aN u31 Z (j.d a.fr)) Z (P 1 Z ?_)
 refine am (aN u31 Z (k.d a.fr)) Z (P 1 Z ?_)
 refine H (M ?_)
 refine ax Z (fun b=>?_) (fun b=>?_)
 ·have h:=aG h b
  refine I (af (P 1 Z ?_))
  refine H (M (aw (aD ?_)))
  cases h
  exact aF Z Z ⟨Z,a⟩
 have h:=aH h b
 refine az (M (I (I (af (P 1 Z ?_)))))
 refine H (M (aE ?_))
 refine au [(0,c),(1,d),(5,vI 0)] ⟨Z,Z,Z,V⟩ ?_
 refine bk (F.Dq a0 a1) (fun (s:Int) L w=>L=[(0,c),(1,d),(5,vI s)]∧St [] e w []) ?_ 0 ⟨Z,a⟩ h
 rintro u p L w x hI n h f
 try dsimp only at hI
 obtain ⟨rfl,a⟩:=hI
 unfold F.Dq at h
 refine I (I (af (P 2 Z ?_)))
 refine am (aN u31 Z (j.d a.fr)) Z (P 1 Z ?_)
 refine H (M ?_)
 refine ax Z (fun g=>?_) (fun g=>?_)
 ·have h:=aG h g
  refine az (M (I (aE ?_)))
  refine I ?_
  refine aZ (fun w'=>St [] e w' []) (fun _=>true) bS (fun _ _ _ o=>o.2) (fun _ _ o=>o) (by kernel_rfl) ?_
  have a:=a.drew
  show lxE _ _ _ _ _ _ _ [0,1,2,3,4,5,6,7,8] _ _
  refine al a Z Z (fun w hF=>ar Z) Z (al a Z Z (fun w hF=>ar Z) Z ?_)
  obtain ⟨q,l,h⟩:=aj h
  refine al a Z Z (fun w hF=>bm u31 aW Z Z (j.d hF.fr) l) Z (al a Z Z (fun w hF=>bc u38 Z Z (j.d hF.fr) l Z) Z (al a Z Z (fun w hF=>ar Z) Z (al a Z Z (fun w hF=>ar Z) Z ?_)))
  obtain ⟨t,m,h⟩:=aj h
  refine al a Z Z (fun w hF=>bm u31 aW Z Z (k.d hF.fr) m) Z (al a Z Z (fun w hF=>bc u38 Z Z (k.d hF.fr) m Z) Z (al a Z Z (fun w hF=>aq Z Z (kc _ q t)) Z (bn a ?_)))
  refine M ?_
  refine ax Z (fun i=>?_) (fun i=>?_)
  ·have h:=aG h i
   refine I (af (P 1 Z ?_))
   refine H (M (aw (bV ?_)))
   refine aD (aD ?_)
   have h:=aX h f
   refine bV ?_
   refine aD ?_
   cases h
   exact aF Z Z ⟨Z,a⟩
  have h:=aH h i
  refine az (aU ?_)
  refine M (af (P 3 Z ?_))
  refine H ?_
  exact bv (bz _ (by exact ⟨Z,Z,Z,V⟩) (n (wI (p+1)) _ _ ⟨Z,a⟩ (ba h f)))
 have h:=aH h g
 refine bh ?_
 refine aI (aI ?_)
 have h:=aX h f
 refine bg ?_
 refine M (I (af (P 1 Z ?_)))
 refine H (M (aw ?_))
 cases h
 exact aF Z Z ⟨Z,a⟩
end Go.Proofs
