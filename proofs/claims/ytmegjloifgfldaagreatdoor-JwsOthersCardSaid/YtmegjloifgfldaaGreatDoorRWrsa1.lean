import Derived.Test.YtmegjloifgfldaaGreatDoorRW0
import Derived.Test.YtmegjloifgfldaaGreatDoorGkFb64
import Derived.Test.YtmegjloifgfldaaGreatDoorRWlib
import Derived.Test.YtmegjloifgfldaaGreatDoorRWmodn
import Derived.Test.YtmegjloifgfldaaGreatDoorRWnatb
import Derived.Test.YtmegjloifgfldaaGreatDoorRWshab
set_option linter.unusedVariables false
set_option linter.unusedSimpArgs false
set_option linter.unusedSectionVars false
set_option maxRecDepth 4000
namespace Go.Proofs
open Go Go.RowKit Go.Gk
open Go.Gk renaming aa -> V, af -> M, ag -> O, ai -> J, e32 -> X, gl3 -> Q, gl4 -> R, own -> U, vB -> N, vI -> H
theorem mS {q:World} {a0 a1:Q1} {s u:Value} {r:Int}
  (h:F.IG a0 a1=some r) (k:RP [] q e8 s a0) (x:RP [] q e8 u a1):Calls Tryz.prog 24 #[s,u] q (Ret fun v w=>v=H r/\St [] q w []):=by
 refine ay 70 Tryz.func24 Z Z Z<|have a:=St.k q;ax [(0,s),(1,u)] Z ?_
 unfold F.IG at h
 refine R<|V 1 Z<|gl1 ?_
 refine aU (r:=r) (fun (g:Bool) L w=>L=[(0,s),(1,u),(37,N g)]/\St [] q w []) (F.Hc a0 a1) ?_ ?_
 rotate_left
 ·intro l
  refine al<|V 1 Z<|O (aD u25 Z (k.b a.fr)) Z<|V 2 Z ?_
  cases m:((a0.length:Int) == 0)
  case true=>
   have h:=bH h m
   try simp only[m]
   exact V 26 Z<|Q<|aB (l true _ _ ⟨Z,a⟩ h) Z
  case false=>
   have h:=bI h m
   try simp only[m]
   refine V 1 Z<|M h fun ab y h=>aO (t:=11) Z Z (bh u25 ti5 Z Z (k.b a.fr) y) Z<|aO (t:=11) Z Z (aX Tryz.underlying5 Z Z (k.b a.fr) y Z) Z<|aO (t:=11) Z Z (aj Z Z (fc _ ab 0)) Z<|V 2 Z ?_
   cases n:(ab == 0)
   case true=>
    have h:=bH h n
    try simp only[n]
    exact V 20 Z<|Q<|aB (l true _ _ ⟨Z,a⟩ h) Z
   case false=>
    have h:=bI h n
    try simp only[n]
    refine V 2 Z<|aO (t:=17) Z Z (aD u25 Z (k.b a.fr)) Z<|V 1 Z<|M h fun z A h=>aO (t:=17) Z Z (bh u25 ti5 Z Z (k.b a.fr) A) Z<|aO (t:=17) Z Z (aX Tryz.underlying5 Z Z (k.b a.fr) A Z) Z<|aO (t:=17) Z Z (aj Z Z (ER _ z 2 (by decide))) Z<|aO (t:=17) Z Z (aj Z Z (fc _ (z%2) 0)) Z<|V 2 Z ?_
    cases o:((z%2) == 0)
    case true=>
     have h:=bH h o
     try simp only[o]
     exact V 10 Z<|Q<|aB (l true _ _ ⟨Z,a⟩ h) Z
    case false=>
     have h:=bI h o
     try simp only[o]
     refine V 1 Z<|aO (t:=27) Z Z (aD u25 Z (x.b a.fr)) Z<|V 3 Z ?_
     cases p:((a1.length:Int) == 0)
     case true=>
      have h:=bH h p
      try simp only[p]
      exact V 5 Z<|Q<|aB (l true _ _ ⟨Z,a⟩ h) Z
     case false=>
      have h:=bI h p
      try simp only[p]
      exact V 1 Z<|M h fun ac B h=>aO (t:=32) Z Z (bh u25 ti5 Z Z (x.b a.fr) B) Z<|aO (t:=32) Z Z (aX Tryz.underlying5 Z Z (x.b a.fr) B Z) Z<|aO (t:=32) Z Z (aj Z Z (fc _ ac 0)) Z<|V 1 Z<|Q<|aB (l (ac == 0) _ _ ⟨Z,a⟩ h) Z
 rintro am L w C h
 try dsimp only at C
 obtain⟨rfl,a⟩:=C
 unfold F.Hc at h
 apply gl9 Z h<;>intro h
 ·refine R<|V 1 Z<|gl8 ?_
  cases h
  exact au Z Z ⟨Z,a⟩
 refine gl6<|V 1 Z<|M h fun ad E h=>aM a Z (ci  E (k.b a.fr).rp) Z fun ae w a=>M h fun D G h=>aS a Z (dM  G (a.ro 0 Z).rp) Z fun w a=>V 1 Z<|gl2<|V 1 Z<|M h fun ah S h=>aM a Z (ci  S (x.b a.fr).rp) Z fun J w a=>M h fun b T h=>aS a Z (yX  T (a.ro 0 Z).rp) Z fun w a=>V 5 Z<|gl1 ?_
 refine aU (r:=r) (fun (g:Bool) L w=>L=[(69,N g)]/\St [] q w []) (F.Hn) ?_ ?_
 rotate_left
 ·intro c
  refine al<|V 3 Z ?_
  cases d:(decide (D<2048))
  case true=>
   have h:=bH h d
   try simp only[d]
   exact V 20 Z<|Q<|aB (c true _ _ ⟨Z,(a.d [] Z Z)⟩ h) Z
  case false=>
   have h:=bI h d
   try simp only[d]
   refine V 4 Z ?_
   cases e:(decide ((4096:Int)<D))
   case true=>
    have h:=bH h e
    try simp only[e]
    exact V 16 Z<|Q<|aB (c true _ _ ⟨Z,(a.d [] Z Z)⟩ h) Z
   case false=>
    have h:=bI h e
    try simp only[e]
    refine V 4 Z ?_
    cases f:(!b.2)
    case true=>
     have h:=bH h f
     try simp only[f]
     exact V 12 Z<|Q<|aB (c true _ _ ⟨Z,(a.d [] Z Z)⟩ h) Z
    case false=>
     have h:=bI h f
     try simp only[f]
     refine V 1 Z<|aO (t:=57) Z Z (aj Z Z (fp _ b.1 2 (by decide))) Z<|aO (t:=57) Z Z (aj Z Z (lZ _ (b.1%2) 0)) Z<|V 2 Z ?_
     cases i:((b.1%2) == 0)
     case true=>
      have h:=bH h i
      try simp only[i]
      exact V 7 Z<|Q<|aB (c true _ _ ⟨Z,(a.d [] Z Z)⟩ h) Z
     case false=>
      have h:=bI h i
      try simp only[i]
      refine V 1 Z<|aO (t:=62) Z Z (aj Z Z (Er _ b.1 3)) Z<|V 2 Z ?_
      cases j:(decide (b.1<3))
      case true=>
       have h:=bH h j
       try simp only[j]
       exact V 3 Z<|Q<|aB (c true _ _ ⟨Z,(a.d [] Z Z)⟩ h) Z
      case false=>
       have h:=bI h j
       try simp only[j]
       exact V 1 Z<|aO (t:=66) Z Z (aj Z Z (l9 _ b.1 4294967295)) Z<|V 1 Z<|Q<|aB (c (decide ((4294967295:UInt64)<b.1)) _ _ ⟨Z,(a.d [] Z Z)⟩ h) Z
 rintro ak L w C h
 try dsimp only at C
 obtain⟨rfl,a⟩:=C
 unfold F.Hn at h
 apply gl9 Z h<;>intro h
 ·refine R<|V 1 Z<|gl8 ?_
  cases h
  exact au Z Z ⟨Z,a⟩
 refine gl6<|V 1 Z<|Q<|aq ?_
 cases h
 exact au Z Z ⟨Z,a⟩
theorem ob {b:World} (a0:Int) {r:Bool}
  (h:F.Kl a0=some r) :Calls Tryz.prog 23 #[H a0] b (Ret fun v w=>v=N r/\St [] b w []):=by
 refine ay 9 Tryz.func23 Z Z Z<|have c:=St.k b;ax [(0,H a0)] Z ?_
 unfold F.Kl at h
 refine R<|V 1 Z<|gl2<|V 3 Z ?_
 cases a:(decide ((1:Int)<=a0))
 case true=>
  have h:=bH h a
  try simp only[a]
  refine V 4 Z<|Q<|aq ?_
  cases h
  exact au Z Z ⟨Z,c⟩
 case false=>
  have h:=bI h a
  try simp only[a]
  refine V 4 Z<|Q<|aq ?_
  cases h
  exact au Z Z ⟨Z,c⟩
theorem tv {m:World} {a1:Q1} {f:Value} (a0 a2:Int) {r:Q1×Int}
  (h:F.K3 a0 a1 a2=some r) (hT:TB [] m) (E:RP [] m e8 f a1):Calls Tryz.prog 27 #[H a0,f,H a2] m (Ret fun v w=>∃u0:Value,v=.tuple #[u0,H r.2]/\St [] m w [U e8 u0 r.1]):=by
 refine ay 64 Tryz.func27 Z Z Z<|have a:=St.k m;ax [(0,H a0),(1,f),(2,H a2)] Z ?_
 unfold F.K3 at h
 refine R<|V 2 Z<|gl1<|R<|V 1 Z<|M h fun aN G h=>aS a Z (ob a0 G ) Z fun w a=>V 1 Z<|Q ?_
 apply gl9 Z h<;>intro h
 ·refine R<|V 2 Z<|gl8 ?_
  cases h
  exact bE Z Z Z ⟨Q3,Z,(a.nil e8).d [0] Z Z⟩
 refine gl6<|V 2 Z<|bn (bJ (e:=eV) (l:=([SV.of f]:List SV)) (vs:=[f]) u117 iy Z Z Z (cb (E.b a.fr).sv Z) (by decide) (by decide) a) Z fun aO w a=>M h fun j S h=>aM a Z (fE a0 S (hT.b a.fr) (a.ro 0 Z).rp ⟨(E.b a.fr).svrp,K⟩) Z fun k w a=>V 1 Z<|gl2<|V 1 Z<|M h fun b q h=>O (bZ Tryz.underlying109 sz9 Z Z (bT q (show F.Hr.length=4 from Z))) Z<|O (ar Tryz.underlying9 Z Z (hT.rsa1_infos.cell a.fr q Z)) Z<|V 1 Z<|gl1 ?_
 refine aU (r:=r) (fun (g:Bool) L w=>L=[(2,H a2),(8,k),(9,vS b),(34,N g)]/\St [] m w [U e8 k j]) (F.KX a2 j b) ?_ ?_
 rotate_left
 ·intro o
  refine al<|V 2 Z<|O (di Tryz.underlying9 Z) Z<|V 2 Z<|O (aD u25 Z (a.ro 0 Z)) Z<|V 4 Z ?_
  cases c:(decide (a2<(wI ((wI ((wI (3+(b.length:Int)))+(j.length:Int)))+8))))
  case true=>
   have h:=bH h c
   try simp only[c]
   exact V 3 Z<|Q<|aB (o true _ _ ⟨Z,(a.d [0] Z Z)⟩ h) Z
  case false=>
   have h:=bI h c
   try simp only[c]
   exact V 3 Z<|Q<|aB (o (decide ((512:Int)<a2)) _ _ ⟨Z,(a.d [0] Z Z)⟩ h) Z
 rintro aP L w hJ h
 try dsimp only at hJ
 obtain⟨rfl,a⟩:=hJ
 unfold F.KX at h
 apply gl9 Z h<;>intro h
 ·refine R<|V 2 Z<|gl8 ?_
  cases h
  exact bE Z Z Z ⟨Q3,Z,(a.nil e8).d [0] Z Z⟩
 refine gl6<|V 3 Z<|O (di Tryz.underlying9 Z) Z<|V 2 Z<|O (aD u25 Z (a.ro 0 Z)) Z<|V 1 Z<|bg h fun d u h=>O (bd (v:=H d) (by rw[<-u]; rfl)) Z<|gl2<|V 1 Z<|M h fun ak x h=>bn (cV (e:=e8) u25 ti5 Z Z Z a x) Z fun an w a=>V 1 Z<|gl2<|V 1 Z<|bn (bJ (e:=e8) (l:=[0,1]) (vs:=[v8 0,v8 1]) u25 ti5 Z Z Z Z (by decide) (by decide) a) Z fun ao w a=>M h fun T y h=>bn (dQ u25 ti5 Z Z Z a (i:=1) Z (a.ro 0 Z) y) Z fun t w a=>V 1 Z<|gl1<|R<|V 2 Z<|Q<|av<|ax [(8,k),(9,vS b),(11,t),(48,H d),(49,H 0)] Z ?_
 refine bf (F.JJ j b d) (fun (s:Q1×Int) L w=>∃(n:Value),L=[(8,k),(9,vS b),(11,n),(48,H d),(49,H s.2)]/\St [] m w [U e8 n s.1,U e8 k j]) ?_ (T,0) ⟨t,Z,(a.d [1,2] Z Z)⟩ h
 rintro ap ⟨au,ab⟩ L w aw hI z h p
 try dsimp only at hI
 obtain⟨n,rfl,a⟩:=hI
 unfold F.JJ at h
 refine R<|V 1 Z<|gl1 ?_
 apply gl9 Z h<;>intro h
 ·exact gl5<|az<|av<|al<|V 1 Z<|bn (bJ (e:=e8) (l:=[255]) (vs:=[v8 255]) u25 ti5 Z Z Z Z (by decide) (by decide) a) Z fun aC w a=>M h fun ac A h=>bn (dQ u25 ti5 Z Z Z a (i:=1) Z (a.ro 0 Z) A) Z fun ad w a=>V 1 Z<|aG<|aH<|am<|al<|V 2 Z<|aG<|bo (br (z (ac,wI (ab+1)) _ _ ⟨ad,Z,(a.d [1,2] Z Z)⟩ (aW h p)) Z)
 refine aZ<|aA<|aA<|have h:=aR h p;a7<|am<|R<|V 1 Z<|bn (bJ (e:=e8) (l:=[0]) (vs:=[v8 0]) u25 ti5 Z Z Z Z (by decide) (by decide) a) Z fun aE w a=>M h fun aF B h=>bn (dQ u25 ti5 Z Z Z a (i:=1) Z (a.ro 0 Z) B) Z fun aI w a=>V 1 Z<|gl2<|V 2 Z<|M h fun aJ C h=>bn (A0 u25 Tryz.underlying9 ti5 Z Z a (i:=1) Z C) Z fun aK w a=>V 1 Z<|gl2<|V 2 Z<|M h fun aL D h=>bn (dQ u25 ti5 Z Z Z a (i:=1) Z (a.ro 2 Z) D) Z fun ae w a=>V 2 Z<|Q<|aq ?_
 cases h
 exact bE Z Z Z ⟨ae,Z,a.d [1] Z Z⟩
theorem tt {d:World} {a1 a2 a3 a4:Q1} {j k l n:Value} (a0:Int) {r:Int}
  (h:F.Lx a0 a1 a2 a3 a4=some r) (hT:TB [] d) (i:RP [] d e8 j a1) (A:RP [] d e8 k a2) (aj:RP [] d e8 l a3) (B:RP [] d e8 n a4):Calls Tryz.prog 9 #[H a0,j,k,l,n] d (Ret fun v w=>v=H r/\St [] d w []):=by
 refine ay 80 Tryz.func9 Z Z Z<|have a:=St.k d;ax [(0,H a0),(1,j),(2,k),(3,l),(4,n)] Z ?_
 unfold F.Lx at h
 refine R<|V 1 Z<|gl1<|R<|V 1 Z<|M h fun aC S h=>aS a Z (ob a0 S ) Z fun w a=>V 1 Z<|Q ?_
 apply gl9 Z h<;>intro h
 ·refine R<|V 1 Z<|gl8 ?_
  cases h
  exact au Z Z ⟨Z,a⟩
 refine gl5<|az<|R<|V 2 Z<|M h fun aE T h=>aS a Z (mS  T (i.b a.fr).rp (A.b a.fr).rp) Z fun w a=>V 1 Z<|gl2<|V 2 Z<|Q ?_
 apply gl9 Z h<;>intro h
 ·refine R<|V 2 Z<|gl8 ?_
  cases h
  exact au Z Z ⟨Z,a⟩
 refine gl6<|V 1 Z<|M h fun C ab h=>aM a Z (ci  ab (i.b a.fr).rp) Z fun D w a=>V 1 Z<|M h fun E ac h=>aM a Z (ci  ac (B.b a.fr).rp) Z fun G w a=>V 2 Z<|gl1 ?_
 refine aU (r:=r) (fun (g:Bool) L w=>L=[(0,H a0),(1,j),(2,k),(3,l),(12,D),(13,G),(42,N g)]/\St [] d w [U X D C,U X G E]) (F.JD a0 a1 a2 a3 C E) ?_ ?_
 rotate_left
 ·intro m
  refine al<|V 1 Z<|O (aD u25 Z (B.b a.fr)) Z<|V 1 Z<|O (aD u25 Z (i.b a.fr)) Z<|V 2 Z ?_
  cases e:((a4.length:Int) != (a1.length:Int))
  case true=>
   have h:=bH h e
   try simp only[e]
   exact V 5 Z<|Q<|aB (m true _ _ ⟨Z,(a.d [1,0] Z Z)⟩ h) Z
  case false=>
   have h:=bI h e
   try simp only[e]
   refine V 2 Z<|M h fun ad q h=>bU (t:=37) Z Z (by kernel_rfl) Z (du  q (a.ro 0 Z).rp (a.ro 1 Z).rp) Z ?_
   rintro _ w ⟨rfl,o⟩
   have a:=a.e o
   exact V 2 Z<|Q<|aB (m (decide ((0:Int)<=ad)) _ _ ⟨Z,(a.d [1,0] Z Z)⟩ h) Z
 rintro am L w p h
 try dsimp only at p
 obtain⟨rfl,a⟩:=p
 unfold F.JD at h
 apply gl9 Z h<;>intro h
 ·refine R<|V 1 Z<|gl8 ?_
  cases h
  exact au Z Z ⟨Z,a.d [] Z Z⟩
 refine gl6<|V 3 Z<|O (aD u25 Z (i.b a.fr)) Z<|M h fun an s h=>cU a Z (tv a0 (a1.length:Int) s (hT.b a.fr) (aj.b a.fr).rp) Z fun ao w a=>V 5 Z<|gl1<|R<|V 2 Z<|Q ?_
 apply gl9 Z h<;>intro h
 ·refine R<|V 1 Z<|gl8 ?_
  cases h
  exact au Z Z ⟨Z,a.d [] Z Z⟩
 refine gl6<|V 2 Z<|M h fun ap u h=>aM a Z (ci  u (A.b a.fr).rp) Z fun ar w a=>V 1 Z<|M h fun ae x h=>cU a Z (mp  x (a.ro 3 Z).rp (a.ro 0 Z).rp (a.ro 2 Z).rp) Z fun av w a=>V 5 Z<|gl2<|V 2 Z<|O (aD u25 Z (i.b a.fr)) Z<|M h fun ah y h=>cU a Z (lJ (a1.length:Int) y (a.ro 0 Z).rp) Z fun aw w a=>V 5 Z<|gl1 ?_
 refine aU (r:=r) (fun (g:Bool) L w=>L=[(79,N g)]/\St [] d w []) (F.JX) ?_ ?_
 rotate_left
 ·intro f
  refine al<|V 3 Z ?_
  cases b:(ae.2 != 0)
  case true=>
   have h:=bH h b
   try simp only[b]
   exact V 9 Z<|Q<|aB (f true _ _ ⟨Z,(a.d [] Z Z)⟩ h) Z
  case false=>
   have h:=bI h b
   try simp only[b]
   refine V 4 Z ?_
   cases c:(!ah.2)
   case true=>
    have h:=bH h c
    try simp only[c]
    exact V 5 Z<|Q<|aB (f true _ _ ⟨Z,(a.d [] Z Z)⟩ h) Z
   case false=>
    have h:=bI h c
    try simp only[c]
    refine V 2 Z<|M h fun J z h=>bU (t:=74) Z Z (by kernel_rfl) Z (j1  z (a.ro 0 Z).rp (a.ro 3 Z).rp) Z ?_
    rintro _ w ⟨rfl,o⟩
    have a:=a.e o
    exact V 2 Z<|Q<|aB (f (!J) _ _ ⟨Z,(a.d [] Z Z)⟩ h) Z
 rintro aA L w p h
 try dsimp only at p
 obtain⟨rfl,a⟩:=p
 unfold F.JX at h
 apply gl9 Z h<;>intro h
 ·refine R<|V 1 Z<|gl8 ?_
  cases h
  exact au Z Z ⟨Z,a⟩
 refine gl6<|V 1 Z<|Q<|aq ?_
 cases h
 exact au Z Z ⟨Z,a⟩
end Go.Proofs
