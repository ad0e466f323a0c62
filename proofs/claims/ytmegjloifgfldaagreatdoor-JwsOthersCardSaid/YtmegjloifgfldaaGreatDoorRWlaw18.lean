import Derived.Test.YtmegjloifgfldaaGreatDoorRW0
import Derived.Test.YtmegjloifgfldaaGreatDoorGkFb64
import Derived.Test.YtmegjloifgfldaaGreatDoorRWecdsa
import Derived.Test.YtmegjloifgfldaaGreatDoorRWedb
import Derived.Test.YtmegjloifgfldaaGreatDoorRWhmac
import Derived.Test.YtmegjloifgfldaaGreatDoorRWjws
import Derived.Test.YtmegjloifgfldaaGreatDoorRWpss
import Derived.Test.YtmegjloifgfldaaGreatDoorRWrsa1
import Derived.Test.YtmegjloifgfldaaGreatDoorRWspki
set_option linter.unusedVariables false
set_option linter.unusedSimpArgs false
set_option linter.unusedSectionVars false
set_option maxRecDepth 4000
namespace Go.Proofs
open Go Go.RowKit Go.Gk
open Go.Gk renaming aa -> V, af -> M, ag -> O, ai -> J, gl3 -> Q, gl4 -> R, pB -> P, vB -> N, vI -> H
open Go.Gk.OE renaming bx -> Y
theorem tr {z:World}  {r:Bool}
  (h:F.KF =some r) (T:TB [] z):Calls Tryz.prog 5 #[] z (Ret fun v w=>v=N r/\St [] z w []):=by
 refine ay 99 Tryz.func5 Z Z Z<|have a:=St.k z;gj [] K ?_
 unfold F.KF at h
 refine R<|V 1 Z<|gl2<|M h fun s E h=>aS a Z (pu [89,81,46,89,103,46] E ) Z fun w a=>V 9 Z<|gl2<|M h fun u G h=>aJ Z (uj [89,81,46,89,103,46] G ) Z ?_
 rintro _ w ⟨ah,J,ak,rfl,ab⟩
 have a:=a.e ab
 refine V 9 Z<|gl2<|bn (bJ (e:=e8) (l:=[97]) (vs:=[v8 97]) u25 ti5 Z Z Z Z (by decide) (by decide) a) Z fun al w a=>bn (qZ u25 Tryz.underlying5 Z a (i:=0) Z (by simp)) Z ?_
 rintro v_q w ⟨hv_q,a⟩
 subst v_q
 refine bn (bJ (e:=e8) (l:=[98]) (vs:=[v8 98]) u25 ti5 Z Z Z Z (by decide) (by decide) a) Z fun ac w a=>bn (qZ u25 Tryz.underlying5 Z a (i:=0) Z (by simp)) Z ?_
 rintro v_q w ⟨hv_q,a⟩
 subst v_q
 refine M h fun x A h=>aS a Z (tj  A (a.rro 1 Z).rp (a.rro 0 Z).rp (RO.nil _ e8).rp) Z fun w a=>V 5 Z<|gl2<|M h fun ad B h=>bn (cV (e:=e8) u25 ti5 Z Z Z a B) Z fun y w a=>V 1 Z<|gl2<|V 1 Z<|M h fun L C h=>cU a Z (zr 1 [89,81,46,89,103] C (T.b a.fr) (a.ro 0 Z).rp) Z fun ae w a=>V 5 Z<|gl2<|V 1 Z<|O (bR (vs:=[(0,H 1,[H 1]),(2,y,[y])]) (cells:=[H 1,H 0,y,Q3,Q3,Q3,Q3]) Z FW ⟨Z,(bQ (a.ro 1 Z).one),K⟩ Z) Z<|V 1 Z<|M h fun S D h=>aS a Z (jz 1 1 0 [89,81,46,89,103] D (T.b a.fr) (a.ro 1 Z).rp (RO.nil _ e8).rp (RO.nil _ e8).rp (RO.nil _ e8).rp (RO.nil _ e8).rp (a.ro 0 Z).rp) Z fun w a=>V 1 Z<|gl2<|V 3 Z ?_
 cases b:(s.2.2.2 == 0)
 case true=>
  have h:=bH h b
  try simp only[b]
  refine V 4 Z ?_
  cases c:(u.2.2.2 == 0)
  case true=>
   have h:=bH h c
   try simp only[c]
   refine V 4 Z ?_
   cases d:(x.2 == 0)
   case true=>
    have h:=bH h d
    try simp only[d]
    refine V 4 Z ?_
    cases f:(L.2 == 0)
    case true=>
     have h:=bH h f
     try simp only[f]
     refine V 4 Z ?_
     cases g:(S == 0)
     case true=>
      have h:=bH h g
      try simp only[g]
      refine V 1 Z<|aO (t:=63) Z Z (aj Z Z (jH _ s.1 [89,81])) Z<|V 2 Z ?_
      cases j:(s.1 == [89,81])
      case true=>
       have h:=bH h j
       try simp only[j]
       refine V 1 Z<|aO (t:=67) Z Z (aj Z Z (jH _ s.2.1 [89,103])) Z<|V 2 Z ?_
       cases k:(s.2.1 == [89,103])
       case true=>
        have h:=bH h k
        try simp only[k]
        refine V 1 Z<|aO (t:=71) Z Z (aj Z Z (jH _ s.2.2.1 [])) Z<|V 2 Z ?_
        cases m:(s.2.2.1 == [])
        case true=>
         have h:=bH h m
         try simp only[m]
         refine V 1 Z<|aO (t:=75) Z Z (lV u25 Tryz.underlying5 Tryz.underlying9 Z (a.ro 4 Z)) Z<|aO (t:=75) Z Z (aj Z Z (jH _ u.1 [97])) Z<|V 2 Z ?_
         cases n:(u.1 == [97])
         case true=>
          have h:=bH h n
          try simp only[n]
          refine V 1 Z<|aO (t:=80) Z Z (lV u25 Tryz.underlying5 Tryz.underlying9 Z (a.ro 5 Z)) Z<|aO (t:=80) Z Z (aj Z Z (jH _ u.2.1 [98])) Z<|V 2 Z ?_
          cases o:(u.2.1 == [98])
          case true=>
           have h:=bH h o
           try simp only[o]
           refine V 1 Z<|aO (t:=85) Z Z (aD u25 Z (a.ro 6 Z)) Z<|V 3 Z ?_
           cases p:((u.2.2.1.length:Int) == 0)
           case true=>
            have h:=bH h p
            try simp only[p]
            refine V 1 Z<|aO (t:=90) Z Z (aj Z Z (jH _ x.1 [89,81,46,89,103,46])) Z<|V 2 Z ?_
            cases q:(x.1 == [89,81,46,89,103,46])
            case true=>
             have h:=bH h q
             try simp only[q]
             refine V 1 Z<|aO (t:=94) Z Z (aD u25 Z (a.ro 0 Z)) Z<|V 3 Z<|Q<|aq ?_
             cases h
             exact au Z Z ⟨Z,a.d [] Z Z⟩
            case false=>
             have h:=bI h q
             try simp only[q]
             refine V 5 Z<|Q<|aq ?_
             cases h
             exact au Z Z ⟨Z,a.d [] Z Z⟩
           case false=>
            have h:=bI h p
            try simp only[p]
            refine V 9 Z<|Q<|aq ?_
            cases h
            exact au Z Z ⟨Z,a.d [] Z Z⟩
          case false=>
           have h:=bI h o
           try simp only[o]
           refine V 14 Z<|Q<|aq ?_
           cases h
           exact au Z Z ⟨Z,a.d [] Z Z⟩
         case false=>
          have h:=bI h n
          try simp only[n]
          refine V 19 Z<|Q<|aq ?_
          cases h
          exact au Z Z ⟨Z,a.d [] Z Z⟩
        case false=>
         have h:=bI h m
         try simp only[m]
         refine V 24 Z<|Q<|aq ?_
         cases h
         exact au Z Z ⟨Z,a.d [] Z Z⟩
       case false=>
        have h:=bI h k
        try simp only[k]
        refine V 28 Z<|Q<|aq ?_
        cases h
        exact au Z Z ⟨Z,a.d [] Z Z⟩
      case false=>
       have h:=bI h j
       try simp only[j]
       refine V 32 Z<|Q<|aq ?_
       cases h
       exact au Z Z ⟨Z,a.d [] Z Z⟩
     case false=>
      have h:=bI h g
      try simp only[g]
      refine V 36 Z<|Q<|aq ?_
      cases h
      exact au Z Z ⟨Z,a.d [] Z Z⟩
    case false=>
     have h:=bI h f
     try simp only[f]
     refine V 40 Z<|Q<|aq ?_
     cases h
     exact au Z Z ⟨Z,a.d [] Z Z⟩
   case false=>
    have h:=bI h d
    try simp only[d]
    refine V 44 Z<|Q<|aq ?_
    cases h
    exact au Z Z ⟨Z,a.d [] Z Z⟩
  case false=>
   have h:=bI h c
   try simp only[c]
   refine V 48 Z<|Q<|aq ?_
   cases h
   exact au Z Z ⟨Z,a.d [] Z Z⟩
 case false=>
  have h:=bI h b
  try simp only[b]
  refine V 52 Z<|Q<|aq ?_
  cases h
  exact au Z Z ⟨Z,a.d [] Z Z⟩
theorem c_law18_JwsOthers {x:World} {E G S T ab a3:Q1} {c d e f j D:Value} (a0 b l:Int) (a2:Q1) (a4 a5:Int) {r:Bool}
  (h:F.LY a0 b l E G S T ab a2 a3 a4 a5=some r) (hT:TB [] x) (m:RP [] x e8 c E) (n:RP [] x e8 d G) (o:RP [] x e8 e S) (p:RP [] x e8 f T) (q:RP [] x e8 j ab) (aj:RP [] x e8 D a3):Calls Tryz.prog 4 #[H a0,.agg #[H b,H l,c,d,e,f,j],vS a2,D,H a4,H a5] x (Ret fun v w=>v=N r/\St [] x w []):=by
 refine ay 78 Tryz.func4 Z Z Z<|have a:=St.k x;ax [(0,H a0),(1,.agg #[H b,H l,c,d,e,f,j]),(2,vS a2),(3,D),(4,H a4),(5,H a5)] Z ?_
 unfold F.LY at h
 refine R<|bl (cy (cs:=[H b,H l,c,d,e,f,j]) Z Z a) Z fun C w a=>V 1 Z<|gl1<|R<|M h fun a9 aI h=>aS a Z (tr  aI (hT.b a.fr)) Z fun w a=>V 1 Z<|Q ?_
 apply gl9 Z h<;>intro h
 ·refine R<|V 1 Z<|gl8 ?_
  cases h
  exact au Z Z ⟨Z,a.d [] Z Z⟩
 refine gl5<|az<|R<|V 1 Z<|Q<|av<|ax [(0,H a0),(2,vS a2),(3,D),(4,H a4),(5,H a5),(7,P C 0),(13,H (-1))] Z ?_
 refine bf (F.Kx a0 b l E G S T ab a2 a3 a4 a5) (fun (s:Int) L w=>L=[(0,H a0),(2,vS a2),(3,D),(4,H a4),(5,H a5),(7,P C 0),(13,H s)]/\St [] x w [Y C [H b,H l,c,d,e,f,j]]) ?_ (-1) ⟨Z,a⟩ h
 rintro aY ae L w aT hI aJ h ah
 try dsimp only at hI
 obtain⟨rfl,a⟩:=hI
 unfold F.Kx at h
 refine az<|R<|V 2 Z<|Q ?_
 apply gl9 Z h<;>intro h
 ·refine gl5<|az<|av<|R<|V 2 Z<|Q ?_
  refine aU (r:=aT) (fun (g:Bool) L w=>L=[(0,H a0),(2,vS a2),(3,D),(4,H a4),(5,H a5),(7,P C 0),(13,H ae),(34,N g)]/\St [] x w [Y C [H b,H l,c,d,e,f,j]]) (F.J7 ae) ?_ ?_
  rotate_left
  ·intro J
   refine al<|V 1 Z<|O (bO (us:=[H b,H l,c,d,e,f,j]) u27 Z kw Z (a.p 0 Z Z)) Z<|M h fun aX aK h=>aS a Z (kf ae b l aK (m.b a.fr).rp (n.b a.fr).rp (o.b a.fr).rp (p.b a.fr).rp (q.b a.fr).rp) Z fun w a=>V 2 Z ?_
   cases ac:(!aX)
   case true=>
    have h:=bH h ac
    try simp only[ac]
    refine V 1 Z<|aO (t:=27) Z Z (bO (us:=[H b,H l,c,d,e,f,j]) u27 Z kw Z (a.p 0 Z Z)) Z<|V 2 Z<|M h fun aL aw h=>bU (t:=27) Z Z (by kernel_rfl) Z (jz ae b l a2 aw (hT.b a.fr) (m.b a.fr).rp (n.b a.fr).rp (o.b a.fr).rp (p.b a.fr).rp (q.b a.fr).rp (aj.b a.fr).rp) Z ?_
    rintro _ w ⟨rfl,u⟩
    have a:=a.e u
    exact V 2 Z<|Q<|aB (J (aL == 0) _ _ ⟨Z,a⟩ h) Z
   case false=>
    have h:=bI h ac
    try simp only[ac]
    exact V 7 Z<|Q<|aB (J false _ _ ⟨Z,a⟩ h) Z
  rintro a1 L w hJ h
  try dsimp only at hJ
  obtain⟨rfl,a⟩:=hJ
  unfold F.J7 at h
  apply gl9 Z h<;>intro h
  ·refine R<|V 1 Z<|Q<|aq<|bb<|aN<|aN<|have h:=aR h ah;bb<|aN ?_
   cases h
   exact au Z Z ⟨Z,a.d [] Z Z⟩
  exact cf<|aH<|am<|al<|V 3 Z<|aG<|bo (br (aJ (wI (ae+1)) _ _ ⟨Z,a⟩ (aW h ah)) Z)
 refine aZ<|aA<|aA<|have h:=aR h ah;a7<|am<|R<|O (bO (us:=[H b,H l,c,d,e,f,j]) u27 Z kw Z (a.p 0 Z Z)) Z<|bl (bc (cs:=[H 0,H 0,Q3,Q3,Q3,Q3,Q3]) Gb Z a) Z fun ao w a=>bm (bp (i:=0) (us:=[H b,H l,c,d,e,f,j]) Z kw Z Z Z ⟨Z,Z,(m.b a.fr).one,(n.b a.fr).one,(o.b a.fr).one,(p.b a.fr).one,(q.b a.fr).one,K⟩ Z a) fun w a=>gl1 ?_
 refine al<|V 1 Z<|O (ak (k:=0) u27 Z Z lF Z) Z<|bm (bp (i:=0) (us:=[H a4]) Z Gq Z Z Z ⟨Z,K⟩ Z a) fun w a=>gl1 ?_
 refine al<|V 1 Z<|O (ak (k:=1) u27 Z Z qb Z) Z<|bm (bp (i:=0) (us:=[H a5]) Z Gc Z Z Z ⟨Z,K⟩ Z a) fun w a=>gl1 ?_
 refine aU (r:=r) (fun (g:Bool) L w=>L=[(0,H a0),(7,P C 0),(15,P ao 0),(60,N g)]/\St [] x w [Y C [H b,H l,c,d,e,f,j],Y ao [H a4,H a5,c,d,e,f,j]]) (F.I2 a0 b l E G S T ab a4 a5) ?_ ?_
 rotate_left
 ·intro ad
  refine al<|O (ak (k:=0) u27 Z Z lF Z) Z<|O (ar u23 Z Z (a.q 0 Z 0)) Z<|O (ak (k:=0) u27 Z Z lF Z) Z<|O (ar u23 Z Z (a.q 1 Z 0)) Z<|V 2 Z ?_
  cases y:(a4 != b)
  case true=>
   have h:=bH h y
   try simp only[y]
   refine V 1 Z<|aO (t:=45) Z Z (bO (us:=[H a4,H a5,c,d,e,f,j]) u27 Z kw Z (a.p 0 Z Z)) Z<|V 2 Z<|M h fun aM aC h=>bU (t:=45) Z Z (by kernel_rfl) Z (jz a0 a4 a5 a2 aC (hT.b a.fr) (m.b a.fr).rp (n.b a.fr).rp (o.b a.fr).rp (p.b a.fr).rp (q.b a.fr).rp (aj.b a.fr).rp) Z ?_
   rintro _ w ⟨rfl,u⟩
   have a:=a.e u
   refine V 3 Z ?_
   cases z:(aM == 0)
   case true=>
    have h:=bH h z
    try simp only[z]
    refine V 1 Z<|aO (t:=53) Z Z (bO (us:=[H b,H l,c,d,e,f,j]) u27 Z kw Z (a.p 1 Z Z)) Z<|V 2 Z<|M h fun aP aD h=>bU (t:=53) Z Z (by kernel_rfl) Z (jz a0 b l a2 aD (hT.b a.fr) (m.b a.fr).rp (n.b a.fr).rp (o.b a.fr).rp (p.b a.fr).rp (q.b a.fr).rp (aj.b a.fr).rp) Z ?_
    rintro _ w ⟨rfl,u⟩
    have a:=a.e u
    exact V 2 Z<|Q<|aB (ad (aP == 0) _ _ ⟨Z,(a.d [1,0] Z Z)⟩ h) Z
   case false=>
    have h:=bI h z
    try simp only[z]
    exact V 7 Z<|Q<|aB (ad false _ _ ⟨Z,(a.d [1,0] Z Z)⟩ h) Z
  case false=>
   have h:=bI h y
   try simp only[y]
   exact V 15 Z<|Q<|aB (ad false _ _ ⟨Z,(a.d [1,0] Z Z)⟩ h) Z
 rintro a6 L w hJ h
 try dsimp only at hJ
 obtain⟨rfl,a⟩:=hJ
 unfold F.I2 at h
 apply gl9 Z h<;>intro h
 ·refine R<|V 1 Z<|gl8 ?_
  cases h
  exact au Z Z ⟨Z,a.d [] Z Z⟩
 refine gl6<|O (ak (k:=0) u27 Z Z lF Z) Z<|O (ar u23 Z Z (a.q 1 Z 0)) Z<|O (ak (k:=0) u27 Z Z lF Z) Z<|O (ar u23 Z Z (a.q 0 Z 0)) Z<|V 2 Z ?_
 cases A:(a4 == b)
 case true=>
  have h:=bH h A
  try simp only[A]
  refine V 12 Z<|Q<|aq ?_
  cases h
  exact au Z Z ⟨Z,a.d [] Z Z⟩
 case false=>
  have h:=bI h A
  try simp only[A]
  refine V 1 Z<|aO (t:=66) Z Z (bO (us:=[H b,H l,c,d,e,f,j]) u27 Z kw Z (a.p 0 Z Z)) Z<|M h fun aQ aE h=>bU (t:=66) Z Z (by kernel_rfl) Z (kf a0 b l aE (m.b a.fr).rp (n.b a.fr).rp (o.b a.fr).rp (p.b a.fr).rp (q.b a.fr).rp) Z ?_
  rintro _ w ⟨rfl,u⟩
  have a:=a.e u
  refine V 3 Z ?_
  cases B:(!aQ)
  case true=>
   have h:=bH h B
   try simp only[B]
   refine V 6 Z<|Q<|aq ?_
   cases h
   exact au Z Z ⟨Z,a.d [] Z Z⟩
  case false=>
   have h:=bI h B
   try simp only[B]
   refine V 1 Z<|aO (t:=72) Z Z (bO (us:=[H a4,H a5,c,d,e,f,j]) u27 Z kw Z (a.p 1 Z Z)) Z<|M h fun a8 aF h=>bU (t:=72) Z Z (by kernel_rfl) Z (kf a0 a4 a5 aF (m.b a.fr).rp (n.b a.fr).rp (o.b a.fr).rp (p.b a.fr).rp (q.b a.fr).rp) Z ?_
   rintro _ w ⟨rfl,u⟩
   have a:=a.e u
   refine V 3 Z<|Q<|aq ?_
   cases h
   exact au Z Z ⟨Z,a.d [] Z Z⟩
end Go.Proofs
