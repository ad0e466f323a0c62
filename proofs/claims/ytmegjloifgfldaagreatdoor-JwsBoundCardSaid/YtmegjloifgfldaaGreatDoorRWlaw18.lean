import Derived.Test.YtmegjloifgfldaaGreatDoorRW0
import Derived.Test.YtmegjloifgfldaaGreatDoorGkFb64
import Derived.Test.YtmegjloifgfldaaGreatDoorRWecdsa
import Derived.Test.YtmegjloifgfldaaGreatDoorRWedb
import Derived.Test.YtmegjloifgfldaaGreatDoorRWhmac
import Derived.Test.YtmegjloifgfldaaGreatDoorRWjws
import Derived.Test.YtmegjloifgfldaaGreatDoorRWpss
import Derived.Test.YtmegjloifgfldaaGreatDoorRWrsa1
import Derived.Test.YtmegjloifgfldaaGreatDoorRWspki
set_option linter.unusedVariables false
set_option linter.unusedSimpArgs false
set_option linter.unusedSectionVars false
set_option maxRecDepth 4000
namespace Go.Proofs
open Go Go.RowKit Go.Gk
open Go.Gk renaming aa -> V, af -> M, ag -> O, ai -> J, gl3 -> Q, gl4 -> R, pB -> P, vB -> N, vI -> H
open Go.Gk.OE renaming bx -> Y
theorem tx {z:World}  {r:Bool}
  (h:F.KR =some r) (T:TB [] z):Calls Tryz.prog 5 #[] z (Ret fun v w=>v=N r/\St [] z w []):=by
 refine ax 99 Tryz.func5 Z Z Z<|have a:=St.k z;gm [] K ?_
 unfold F.KR at h
 refine R<|V 1 Z<|gl2<|M h fun s E h=>aR a Z (pz [89,81,46,89,103,46] E ) Z fun w a=>V 9 Z<|gl2<|M h fun u G h=>aK Z (un [89,81,46,89,103,46] G ) Z ?_
 rintro _ w ⟨ah,J,ak,rfl,ab⟩
 have a:=a.e ab
 refine V 9 Z<|gl2<|bm (bJ (e:=e8) (l:=[97]) (vs:=[v8 97]) u25 ti5 Z Z Z Z (by decide) (by decide) a) Z fun al w a=>bm (ra u25 Tryz.underlying5 Z a (i:=0) Z (by simp)) Z ?_
 rintro v_q w ⟨hv_q,a⟩
 subst v_q
 refine bm (bJ (e:=e8) (l:=[98]) (vs:=[v8 98]) u25 ti5 Z Z Z Z (by decide) (by decide) a) Z fun ac w a=>bm (ra u25 Tryz.underlying5 Z a (i:=0) Z (by simp)) Z ?_
 rintro v_q w ⟨hv_q,a⟩
 subst v_q
 refine M h fun x A h=>aR a Z (tr  A (a.rro 1 Z).rp (a.rro 0 Z).rp (RO.nil _ e8).rp) Z fun w a=>V 5 Z<|gl2<|M h fun ad B h=>bm (cW (e:=e8) u25 ti5 Z Z Z a B) Z fun y w a=>V 1 Z<|gl2<|V 1 Z<|M h fun L C h=>cV a Z (zy 1 [89,81,46,89,103] C (T.b a.fr) (a.ro 0 Z).rp) Z fun ae w a=>V 5 Z<|gl2<|V 1 Z<|O (bR (vs:=[(0,H 1,[H 1]),(2,y,[y])]) (cells:=[H 1,H 0,y,Q3,Q3,Q3,Q3]) Z F3 ⟨Z,(bQ (a.ro 1 Z).one),K⟩ Z) Z<|V 1 Z<|M h fun S D h=>aR a Z (pv 1 1 0 [89,81,46,89,103] D (T.b a.fr) (a.ro 1 Z).rp (RO.nil _ e8).rp (RO.nil _ e8).rp (RO.nil _ e8).rp (RO.nil _ e8).rp (a.ro 0 Z).rp) Z fun w a=>V 1 Z<|gl2<|V 3 Z ?_
 cases b:(s.2.2.2 == 0)
 case true=>
  have h:=bD h b
  try simp only[b]
  refine V 4 Z ?_
  cases c:(u.2.2.2 == 0)
  case true=>
   have h:=bD h c
   try simp only[c]
   refine V 4 Z ?_
   cases d:(x.2 == 0)
   case true=>
    have h:=bD h d
    try simp only[d]
    refine V 4 Z ?_
    cases f:(L.2 == 0)
    case true=>
     have h:=bD h f
     try simp only[f]
     refine V 4 Z ?_
     cases g:(S == 0)
     case true=>
      have h:=bD h g
      try simp only[g]
      refine V 1 Z<|aI (t:=63) Z Z (aj Z Z (jL _ s.1 [89,81])) Z<|V 2 Z ?_
      cases j:(s.1 == [89,81])
      case true=>
       have h:=bD h j
       try simp only[j]
       refine V 1 Z<|aI (t:=67) Z Z (aj Z Z (jL _ s.2.1 [89,103])) Z<|V 2 Z ?_
       cases k:(s.2.1 == [89,103])
       case true=>
        have h:=bD h k
        try simp only[k]
        refine V 1 Z<|aI (t:=71) Z Z (aj Z Z (jL _ s.2.2.1 [])) Z<|V 2 Z ?_
        cases m:(s.2.2.1 == [])
        case true=>
         have h:=bD h m
         try simp only[m]
         refine V 1 Z<|aI (t:=75) Z Z (l8 u25 Tryz.underlying5 Tryz.underlying9 Z (a.ro 4 Z)) Z<|aI (t:=75) Z Z (aj Z Z (jL _ u.1 [97])) Z<|V 2 Z ?_
         cases n:(u.1 == [97])
         case true=>
          have h:=bD h n
          try simp only[n]
          refine V 1 Z<|aI (t:=80) Z Z (l8 u25 Tryz.underlying5 Tryz.underlying9 Z (a.ro 5 Z)) Z<|aI (t:=80) Z Z (aj Z Z (jL _ u.2.1 [98])) Z<|V 2 Z ?_
          cases o:(u.2.1 == [98])
          case true=>
           have h:=bD h o
           try simp only[o]
           refine V 1 Z<|aI (t:=85) Z Z (aD u25 Z (a.ro 6 Z)) Z<|V 3 Z ?_
           cases p:((u.2.2.1.length:Int) == 0)
           case true=>
            have h:=bD h p
            try simp only[p]
            refine V 1 Z<|aI (t:=90) Z Z (aj Z Z (jL _ x.1 [89,81,46,89,103,46])) Z<|V 2 Z ?_
            cases q:(x.1 == [89,81,46,89,103,46])
            case true=>
             have h:=bD h q
             try simp only[q]
             refine V 1 Z<|aI (t:=94) Z Z (aD u25 Z (a.ro 0 Z)) Z<|V 3 Z<|Q<|ar ?_
             cases h
             exact au Z Z ⟨Z,a.d [] Z Z⟩
            case false=>
             have h:=bE h q
             try simp only[q]
             refine V 5 Z<|Q<|ar ?_
             cases h
             exact au Z Z ⟨Z,a.d [] Z Z⟩
           case false=>
            have h:=bE h p
            try simp only[p]
            refine V 9 Z<|Q<|ar ?_
            cases h
            exact au Z Z ⟨Z,a.d [] Z Z⟩
          case false=>
           have h:=bE h o
           try simp only[o]
           refine V 14 Z<|Q<|ar ?_
           cases h
           exact au Z Z ⟨Z,a.d [] Z Z⟩
         case false=>
          have h:=bE h n
          try simp only[n]
          refine V 19 Z<|Q<|ar ?_
          cases h
          exact au Z Z ⟨Z,a.d [] Z Z⟩
        case false=>
         have h:=bE h m
         try simp only[m]
         refine V 24 Z<|Q<|ar ?_
         cases h
         exact au Z Z ⟨Z,a.d [] Z Z⟩
       case false=>
        have h:=bE h k
        try simp only[k]
        refine V 28 Z<|Q<|ar ?_
        cases h
        exact au Z Z ⟨Z,a.d [] Z Z⟩
      case false=>
       have h:=bE h j
       try simp only[j]
       refine V 32 Z<|Q<|ar ?_
       cases h
       exact au Z Z ⟨Z,a.d [] Z Z⟩
     case false=>
      have h:=bE h g
      try simp only[g]
      refine V 36 Z<|Q<|ar ?_
      cases h
      exact au Z Z ⟨Z,a.d [] Z Z⟩
    case false=>
     have h:=bE h f
     try simp only[f]
     refine V 40 Z<|Q<|ar ?_
     cases h
     exact au Z Z ⟨Z,a.d [] Z Z⟩
   case false=>
    have h:=bE h d
    try simp only[d]
    refine V 44 Z<|Q<|ar ?_
    cases h
    exact au Z Z ⟨Z,a.d [] Z Z⟩
  case false=>
   have h:=bE h c
   try simp only[c]
   refine V 48 Z<|Q<|ar ?_
   cases h
   exact au Z Z ⟨Z,a.d [] Z Z⟩
 case false=>
  have h:=bE h b
  try simp only[b]
  refine V 52 Z<|Q<|ar ?_
  cases h
  exact au Z Z ⟨Z,a.d [] Z Z⟩
theorem wa {d:World} (a0:Int) {r:Int}
  (h:F.Ja a0=some r) :Calls Tryz.prog 7 #[H a0] d (Ret fun v w=>v=H r/\St [] d w []):=by
 refine ax 23 Tryz.func7 Z Z Z<|have a:=St.k d;ay [(0,H a0)] Z ?_
 unfold F.Ja at h
 refine R<|V 1 Z<|gl1<|av ?_
 refine aT (r:=r) (fun (g:Bool) L w=>L=[(0,H a0),(3,N g)]/\St [] d w []) (F.LW a0) ?_ ?_
 rotate_left
 ·intro e
  refine am<|V 3 Z ?_
  cases b:(decide ((1:Int)<=a0))
  case true=>
   have h:=bD h b
   try simp only[b]
   exact V 4 Z<|Q<|aA (e (decide (a0<=9)) _ _ ⟨Z,a⟩ h) Z
  case false=>
   have h:=bE h b
   try simp only[b]
   exact V 4 Z<|Q<|aA (e false _ _ ⟨Z,a⟩ h) Z
 rintro j L w f h
 try dsimp only at f
 obtain⟨rfl,a⟩:=f
 unfold F.LW at h
 apply gl9 Z h<;>intro h
 ·refine R<|V 2 Z<|O (aj Z Z (jP _ (wI (a0 - 1)) 3 (by decide))) Z<|V 2 Z<|Q<|ar<|aZ<|aM ?_
  cases h
  exact au Z Z ⟨Z,a⟩
 refine aT (r:=r) (fun (g:Bool) L w=>L=[(0,H a0),(14,N g)]/\St [] d w []) (F.Mk a0) ?_ ?_
 rotate_left
 ·intro i
  refine am<|V 3 Z ?_
  cases c:(a0 == 10)
  case true=>
   have h:=bD h c
   try simp only[c]
   exact V 4 Z<|Q<|aA (i true _ _ ⟨Z,a⟩ h) Z
  case false=>
   have h:=bE h c
   try simp only[c]
   exact V 4 Z<|Q<|aA (i (a0 == 11) _ _ ⟨Z,a⟩ h) Z
 rintro k L w f h
 try dsimp only at f
 obtain⟨rfl,a⟩:=f
 unfold F.Mk at h
 apply gl9 Z h<;>intro h
 ·refine R<|V 3 Z<|Q<|ar<|aZ<|aM ?_
  cases h
  exact au Z Z ⟨Z,a⟩
 refine cg<|aF<|al<|R<|V 1 Z<|Q<|ar ?_
 cases h
 exact au Z Z ⟨Z,a⟩
theorem c_law18_JwsBound {p:World} {m z A B C a3:Q1} {d e f i j D:Value} (a0 b c:Int) (a2:Q1) {r:Bool}
  (h:F.L1 a0 b c m z A B C a2 a3=some r) (hT:TB [] p) (o:RP [] p e8 d m) (q:RP [] p e8 e z) (s:RP [] p e8 f A) (u:RP [] p e8 i B) (S:RP [] p e8 j C) (aB:RP [] p e8 D a3):Calls Tryz.prog 3 #[H a0,.agg #[H b,H c,d,e,f,i,j],vS a2,D] p (Ret fun v w=>v=N r/\St [] p w []):=by
 refine ax 181 Tryz.func3 Z Z Z<|have a:=St.k p;ay [(0,H a0),(1,.agg #[H b,H c,d,e,f,i,j]),(2,vS a2),(3,D)] Z ?_
 unfold F.L1 at h
 refine R<|bl (cz (cs:=[H b,H c,d,e,f,i,j]) Z Z a) Z fun E w a=>V 1 Z<|gl1<|R<|M h fun bg aY h=>aR a Z (tx  aY (hT.b a.fr)) Z fun w a=>V 1 Z<|Q ?_
 apply gl9 Z h<;>intro h
 ·refine R<|V 1 Z<|gl8 ?_
  cases h
  exact au Z Z ⟨Z,a.d [] Z Z⟩
 refine gl6<|V 1 Z<|O (bX (us:=[H b,H c,d,e,f,i,j]) u27 Z rQ Z (a.p 0 Z Z)) Z<|V 2 Z<|M h fun n a1 h=>aR a Z (pv a0 b c a2 a1 (hT.b a.fr) (o.b a.fr).rp (q.b a.fr).rp (s.b a.fr).rp (u.b a.fr).rp (S.b a.fr).rp (aB.b a.fr).rp) Z fun w a=>V 1 Z<|gl2<|V 1 Z<|bm (n8 Tryz.underlying9 u25 Tryz.underlying5 Z a) Z fun aC w a=>V 1 Z<|gl2<|V 1 Z<|gl2<|V 1 Z<|gl2<|V 1 Z<|M h fun G a4 h=>aR a Z (wa a0 a4 ) Z fun w a=>V 1 Z<|Q ?_
 refine aT (r:=r) (fun (g:Bool×Bool) L w=>L=[(0,H a0),(3,D),(5,P E 0),(9,H n),(11,N g.1),(12,N g.2)]/\St [] p w [Y E [H b,H c,d,e,f,i,j]]) (F.GS a0 b c m z A B C n a3) ?_ ?_
 rotate_left
 ·intro l
  refine av ?_
  refine aT (r:=r) (fun (g:Bool) L w=>L=[(0,H a0),(3,D),(5,P E 0),(9,H n),(10,aC),(13,H G),(43,N g)]/\St [] p w [Y E [H b,H c,d,e,f,i,j],red e8 aC a2]) (F.Ji a0 b c m z A a2 a3 n G B C) ?_ ?_
  rotate_left
  ·intro aK
   refine am<|V 3 Z ?_
   cases aG:(decide (a0<1))
   case true=>
    have h:=bD h aG
    try simp only[aG]
    exact V 4 Z<|Q<|aA (aK true _ _ ⟨Z,(a.d [1,0] Z Z)⟩ h) Z
   case false=>
    have h:=bE h aG
    try simp only[aG]
    exact V 4 Z<|Q<|aA (aK (decide ((12:Int)<a0)) _ _ ⟨Z,(a.d [1,0] Z Z)⟩ h) Z
  rintro bh L w x h
  try dsimp only at x
  obtain⟨rfl,a⟩:=x
  unfold F.Ji at h
  apply gl9 Z h<;>intro h
  ·refine R<|V 3 Z<|Q<|ar<|aZ<|aM ?_
   cases h
   exact au Z Z ⟨Z,a.d [] Z Z⟩
  refine R<|V 3 Z<|Q ?_
  apply gl9 Z h<;>intro h
  ·refine R<|O (ak (k:=0) u27 Z Z lJ Z) Z<|O (ao u23 Z Z (a.q 0 Z 0)) Z<|V 2 Z<|Q<|am<|V 2 Z ?_
   cases T:(b == 1)
   case true=>
    have h:=bD h T
    try simp only[T]
    refine aI (t:=59) Z Z (ak (k:=2) u27 Z Z c7 Z) Z<|aI (t:=59) Z Z (ao u25 Z Z (a.q 0 Z 2)) Z<|aI (t:=59) Z Z (aD u25 Z (o.b a.fr)) Z<|V 2 Z<|aI (t:=59) Z Z (aj Z Z (dV _ 16 (wI (a0+1)))) Z<|V 3 Z ?_
    cases ab:(decide ((wI (16*(wI (a0+1))))<=(m.length:Int)))
    case true=>
     have h:=bD h ab
     try simp only[ab]
     refine V 1 Z<|aI (t:=68) Z Z (ak (k:=2) u27 Z Z c7 Z) Z<|aI (t:=68) Z Z (ao u25 Z Z (a.q 0 Z 2)) Z<|V 2 Z<|M h fun a5 aP h=>bU (t:=68) Z Z (by kernel_rfl) Z (oz G aP (hT.b a.fr) (o.b a.fr).rp (a.rro 1 Z).rp (aB.b a.fr).rp) Z ?_
     rintro _ w ⟨rfl,y⟩
     have a:=a.e y
     exact V 2 Z<|aE<|aF<|al<|aA (l (a5,true) _ _ ⟨Z,(a.d [0] Z Z)⟩ h) Z
    case false=>
     have h:=bE h ab
     try simp only[ab]
     exact V 8 Z<|aE<|aF<|al<|aA (l (false,true) _ _ ⟨Z,(a.d [0] Z Z)⟩ h) Z
   case false=>
    have h:=bE h T
    try simp only[T]
    exact V 17 Z<|aE<|aF<|al<|aA (l (false,false) _ _ ⟨Z,(a.d [0] Z Z)⟩ h) Z
  refine R<|V 3 Z<|Q ?_
  apply gl9 Z h<;>intro h
  ·refine R<|O (ak (k:=0) u27 Z Z lJ Z) Z<|O (ao u23 Z Z (a.q 0 Z 0)) Z<|V 2 Z<|Q<|am<|V 2 Z ?_
   cases ac:(b == 2)
   case true=>
    have h:=bD h ac
    try simp only[ac]
    refine V 1 Z<|aI (t:=83) Z Z (ak (k:=3) u27 Z Z c7 Z) Z<|aI (t:=83) Z Z (ao u25 Z Z (a.q 0 Z 3)) Z<|aI (t:=83) Z Z (ak (k:=4) u27 Z Z c7 Z) Z<|aI (t:=83) Z Z (ao u25 Z Z (a.q 0 Z 4)) Z<|V 2 Z<|M h fun a6 aQ h=>bU (t:=83) Z Z (by kernel_rfl) Z (nj G aQ (hT.b a.fr) (q.b a.fr).rp (s.b a.fr).rp (a.rro 1 Z).rp (aB.b a.fr).rp) Z ?_
    rintro _ w ⟨rfl,y⟩
    have a:=a.e y
    exact V 3 Z<|aE<|aF<|al<|aA (l (a6 == 0,true) _ _ ⟨Z,(a.d [0] Z Z)⟩ h) Z
   case false=>
    have h:=bE h ac
    try simp only[ac]
    exact V 11 Z<|aE<|aF<|al<|aA (l (false,false) _ _ ⟨Z,(a.d [0] Z Z)⟩ h) Z
  refine R<|V 3 Z<|Q ?_
  apply gl9 Z h<;>intro h
  ·refine R<|O (ak (k:=0) u27 Z Z lJ Z) Z<|O (ao u23 Z Z (a.q 0 Z 0)) Z<|V 2 Z<|Q<|am<|V 2 Z ?_
   cases ad:(b == 2)
   case true=>
    have h:=bD h ad
    try simp only[ad]
    refine V 1 Z<|aI (t:=101) Z Z (ak (k:=3) u27 Z Z c7 Z) Z<|aI (t:=101) Z Z (ao u25 Z Z (a.q 0 Z 3)) Z<|aI (t:=101) Z Z (ak (k:=4) u27 Z Z c7 Z) Z<|aI (t:=101) Z Z (ao u25 Z Z (a.q 0 Z 4)) Z<|V 2 Z<|M h fun a7 aS h=>bU (t:=101) Z Z (by kernel_rfl) Z (nD G aS (hT.b a.fr) (q.b a.fr).rp (s.b a.fr).rp (a.rro 1 Z).rp (aB.b a.fr).rp) Z ?_
    rintro _ w ⟨rfl,y⟩
    have a:=a.e y
    exact V 3 Z<|aE<|aF<|al<|aA (l (a7 == 0,true) _ _ ⟨Z,(a.d [0] Z Z)⟩ h) Z
   case false=>
    have h:=bE h ad
    try simp only[ad]
    exact V 11 Z<|aE<|aF<|al<|aA (l (false,false) _ _ ⟨Z,(a.d [0] Z Z)⟩ h) Z
  refine R<|V 3 Z<|Q ?_
  apply gl9 Z h<;>intro h
  ·refine aT (r:=r) (fun (g:Bool) L w=>L=[(0,H a0),(3,D),(5,P E 0),(9,H n),(10,aC),(12,N g),(13,H G)]/\St [] p w [Y E [H b,H c,d,e,f,i,j],red e8 aC a2]) (F.II c B C a2 a3 G a0 b m z A n) ?_ ?_
   rotate_left
   ·intro aL
    refine am<|O (ak (k:=0) u27 Z Z lJ Z) Z<|O (ao u23 Z Z (a.q 0 Z 0)) Z<|V 2 Z ?_
    cases ae:(b == 3)
    case true=>
     have h:=bD h ae
     try simp only[ae]
     exact aI (t:=118) Z Z (ak (k:=1) u27 Z Z m0 Z) Z<|aI (t:=118) Z Z (ao u24 Z Z (a.q 0 Z 1)) Z<|V 5 Z<|Q<|aA (aL (c == (wI (a0 - 9))) _ _ ⟨Z,a⟩ h) Z
    case false=>
     have h:=bE h ae
     try simp only[ae]
     exact V 7 Z<|Q<|aA (aL false _ _ ⟨Z,a⟩ h) Z
   rintro a8 L w x h
   try dsimp only at x
   obtain⟨rfl,a⟩:=x
   unfold F.II at h
   refine am<|V 2 Z ?_
   cases ah:a8
   case true=>
    replace h:=bD h ah
    subst ah
    refine V 1 Z<|aI (t:=126) Z Z (ak (k:=1) u27 Z Z m0 Z) Z<|aI (t:=126) Z Z (ao u24 Z Z (a.q 0 Z 1)) Z<|aI (t:=126) Z Z (ak (k:=5) u27 Z Z c7 Z) Z<|aI (t:=126) Z Z (ao u25 Z Z (a.q 0 Z 5)) Z<|aI (t:=126) Z Z (ak (k:=6) u27 Z Z c7 Z) Z<|aI (t:=126) Z Z (ao u25 Z Z (a.q 0 Z 6)) Z<|V 2 Z<|M h fun a9 aU h=>bU (t:=126) Z Z (by kernel_rfl) Z (lU G c aU (hT.b a.fr) (u.b a.fr).rp (S.b a.fr).rp (a.rro 1 Z).rp (aB.b a.fr).rp) Z ?_
    rintro _ w ⟨rfl,y⟩
    have a:=a.e y
    exact V 3 Z<|aE<|aF<|al<|aA (l (a9 == 0,true) _ _ ⟨Z,(a.d [0] Z Z)⟩ h) Z
   case false=>
    replace h:=bE h ah
    subst ah
    exact V 13 Z<|aE<|aF<|al<|aA (l (false,false) _ _ ⟨Z,(a.d [0] Z Z)⟩ h) Z
  refine aT (r:=r) (fun (g:Bool) L w=>L=[(0,H a0),(3,D),(5,P E 0),(9,H n),(10,aC),(12,N g)]/\St [] p w [Y E [H b,H c,d,e,f,i,j],red e8 aC a2]) (F.IW B a2 a3 a0 b c m z A C n) ?_ ?_
  rotate_left
  ·intro aN
   refine am<|O (ak (k:=0) u27 Z Z lJ Z) Z<|O (ao u23 Z Z (a.q 0 Z 0)) Z<|V 2 Z ?_
   cases J:(b == 4)
   case true=>
    have h:=bD h J
    try simp only[J]
    exact aI (t:=29) Z Z (ak (k:=1) u27 Z Z m0 Z) Z<|aI (t:=29) Z Z (ao u24 Z Z (a.q 0 Z 1)) Z<|V 3 Z<|Q<|aA (aN (c == 3) _ _ ⟨Z,a⟩ h) Z
   case false=>
    have h:=bE h J
    try simp only[J]
    exact V 5 Z<|Q<|aA (aN false _ _ ⟨Z,a⟩ h) Z
  rintro ba L w x h
  try dsimp only at x
  obtain⟨rfl,a⟩:=x
  unfold F.IW at h
  refine am<|V 2 Z ?_
  cases an:ba
  case true=>
   replace h:=bD h an
   subst an
   refine aI (t:=35) Z Z (ak (k:=5) u27 Z Z c7 Z) Z<|aI (t:=35) Z Z (ao u25 Z Z (a.q 0 Z 5)) Z<|V 2 Z<|M h fun bb aV h=>bU (t:=35) Z Z (by kernel_rfl) Z (py  aV (hT.b a.fr) (u.b a.fr).rp (a.rro 1 Z).rp (aB.b a.fr).rp) Z ?_
   rintro _ w ⟨rfl,y⟩
   have a:=a.e y
   exact V 3 Z<|aE<|aF<|al<|aA (l (bb == 0,true) _ _ ⟨Z,(a.d [0] Z Z)⟩ h) Z
  case false=>
   replace h:=bE h an
   subst an
   exact V 8 Z<|aE<|aF<|al<|aA (l (false,false) _ _ ⟨Z,(a.d [0] Z Z)⟩ h) Z
 rintro⟨aO,bc⟩ L w x h
 try dsimp only at x
 obtain⟨rfl,a⟩:=x
 unfold F.GS at h
 refine az<|R<|V 1 Z<|O (bX (us:=[H b,H c,d,e,f,i,j]) u27 Z rQ Z (a.p 0 Z Z)) Z<|M h fun bd aW h=>aR a Z (qL a0 b c aW (o.b a.fr).rp (q.b a.fr).rp (s.b a.fr).rp (u.b a.fr).rp (S.b a.fr).rp) Z fun w a=>V 1 Z<|O (aj Z Z (kS _ bd bc u4 Z)) Z<|Q ?_
 apply gl9 Z h<;>intro h
 ·refine R<|V 1 Z<|gl8 ?_
  cases h
  exact au Z Z ⟨Z,a.d [] Z Z⟩
 refine gl6<|O (bX (us:=[H b,H c,d,e,f,i,j]) u27 Z rQ Z (a.p 0 Z Z)) Z<|M h fun be aX h=>aR a Z (ov b c aX (hT.b a.fr) (o.b a.fr).rp (q.b a.fr).rp (s.b a.fr).rp (u.b a.fr).rp (S.b a.fr).rp) Z fun w a=>V 2 Z<|gl1<|av<|R<|V 3 Z<|Q ?_
 apply gl9 Z h<;>intro h
 ·refine R<|V 3 Z<|Q<|ar<|aZ<|aM ?_
  cases h
  exact au Z Z ⟨Z,a.d [] Z Z⟩
 refine aT (r:=r) (fun (g:Bool) L w=>L=[(3,D),(9,H n),(11,N aO),(152,N g)]/\St [] p w []) (F.Ic a3 n aO) ?_ ?_
 rotate_left
 ·intro aH
  refine am<|V 3 Z ?_
  cases ap:(!(be == 0))
  case true=>
   have h:=bD h ap
   try simp only[ap]
   exact V 13 Z<|Q<|aA (aH true _ _ ⟨Z,(a.d [] Z Z)⟩ h) Z
  case false=>
   have h:=bE h ap
   try simp only[ap]
   refine V 3 Z ?_
   cases aq:(decide (a0<=3))
   case true=>
    have h:=bD h aq
    try simp only[aq]
    exact aI (t:=158) Z Z (ak (k:=2) u27 Z Z c7 Z) Z<|aI (t:=158) Z Z (ao u25 Z Z (a.q 0 Z 2)) Z<|aI (t:=158) Z Z (aD u25 Z (o.b a.fr)) Z<|V 2 Z<|aI (t:=158) Z Z (aj Z Z (dV _ 16 (wI (a0+1)))) Z<|V 4 Z<|Q<|aA (aH (decide ((m.length:Int)<(wI (16*(wI (a0+1)))))) _ _ ⟨Z,(a.d [] Z Z)⟩ h) Z
   case false=>
    have h:=bE h aq
    try simp only[aq]
    exact V 10 Z<|Q<|aA (aH false _ _ ⟨Z,(a.d [] Z Z)⟩ h) Z
 rintro bf L w x h
 try dsimp only at x
 obtain⟨rfl,a⟩:=x
 unfold F.Ic at h
 apply gl9 Z h<;>intro h
 ·refine R<|V 3 Z<|Q<|ar<|aZ<|aM ?_
  cases h
  exact au Z Z ⟨Z,a⟩
 refine R<|V 2 Z<|Q ?_
 apply gl9 Z h<;>intro h
 ·refine R<|V 3 Z ?_
  cases aw:(n == 0)
  case true=>
   have h:=bD h aw
   try simp only[aw]
   refine V 1 Z<|aI (t:=174) Z Z (aD u25 Z (aB.b a.fr)) Z<|V 3 Z<|Q<|ar<|aZ<|aM ?_
   cases h
   exact au Z Z ⟨Z,a⟩
  case false=>
   have h:=bE h aw
   try simp only[aw]
   refine V 5 Z<|Q<|ar<|aZ<|aM ?_
   cases h
   exact au Z Z ⟨Z,a⟩
 refine cg<|aF<|al<|R<|V 3 Z<|Q<|ar ?_
 cases h
 exact au Z Z ⟨Z,a⟩
end Go.Proofs
