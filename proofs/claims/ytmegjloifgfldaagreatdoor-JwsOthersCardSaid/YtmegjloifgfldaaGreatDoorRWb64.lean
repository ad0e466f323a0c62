import Derived.Test.YtmegjloifgfldaaGreatDoorRW0
import Derived.Test.YtmegjloifgfldaaGreatDoorGkFb64
import Derived.Test.YtmegjloifgfldaaGreatDoorRWlib
set_option linter.unusedVariables false
set_option linter.unusedSimpArgs false
set_option linter.unusedSectionVars false
set_option maxRecDepth 4000
namespace Go.Proofs
open Go Go.RowKit Go.Gk
open Go.Gk renaming aa -> V, af -> M, ag -> O, ai -> J, gl3 -> Q, gl4 -> R, own -> U, vB -> N, vI -> H
theorem eZ {a:World} (a0:UInt8) (a1:Q1) {r:UInt64}
  (h:F.G7 a0 a1=some r) :Calls Tryz.prog 155 #[v8 a0,vS a1] a (Ret fun v w=>v=v64 r/\St [] a w []):=by
 refine ay 9 Tryz.func155 Z Z Z<|have b:=St.k a;ax [(0,v8 a0),(1,vS a1)] Z ?_
 unfold F.G7 at h
 refine R<|V 1 Z<|gl2<|V 2 Z<|M h fun d c h=>aS b Z (i6 a1 a0 c ) Z fun w b=>O (aE Z (fv u3 u67 d)) Z<|V 1 Z<|Q<|aq ?_
 cases h
 exact au Z Z ⟨Z,b⟩
theorem yj {q:World} (a0 a1:Q1) {r:Q1×Bool}
  (h:F.J4 a0 a1=some r) :Calls Tryz.prog 111 #[vS a0,vS a1] q (Ret fun v w=>∃u0:Value,v=.tuple #[u0,N r.2]/\St [] q w [U e8 u0 r.1]):=by
 refine ay 101 Tryz.func111 Z Z Z<|have a:=St.k q;ax [(0,vS a0),(1,vS a1)] Z ?_
 unfold F.J4 at h
 refine R<|V 2 Z<|gl2<|V 1 Z<|O (di Tryz.underlying9 Z) Z<|O (aj Z Z (dJ _ (a0.length:Int) 4 (by decide))) Z<|O (aj Z Z (ee _ (wI (Int.tdiv (a0.length:Int) 4)) 3)) Z<|V 1 Z<|M h fun a6 aD h=>bn (cV (e:=e8) u25 ti5 Z Z Z a aD) Z fun aw w a=>V 1 Z<|gl1<|av<|ax [(0,vS a0),(1,vS a1),(6,aw)] Z ?_
 refine bf (F.He a1) (fun (s:Q1×Q1) L w=>∃(p:Value),L=[(0,vS s.1),(1,vS a1),(6,p)]/\St [] q w [U e8 p s.2]) ?_ (a0,a6) ⟨aw,Z,a⟩ h
 rintro bc ⟨aC,u⟩ L w bd hI aI h y
 try dsimp only at hI
 obtain⟨p,rfl,a⟩:=hI
 unfold F.He at h
 refine az<|R<|V 1 Z<|O (di Tryz.underlying9 Z) Z<|V 1 Z<|Q ?_
 apply gl9 Z h<;>intro h
 ·refine gl5<|av<|az<|aQ (fun w'=>St [] q w' [U e8 p u]) (fun i=>!([3,8,14,20].contains i)) bK (fun _ _ _ t=>t.2) (fun _ _ t=>t) (by kernel_rfl)<|have a:=a.drew;show lxE _ _ _ _ _ _ _ [0,1,2,3,4,5,6,7,8,9,10,11,12,13,14,15,16,17,18,19,20,21,22] _ _ from an 1 Z a<|M h fun aJ A h=>J a Z Z (fun w o=>dF Tryz.underlying9 Z Z A) Z<|an 1 Z a<|M h fun b B h=>aY a Z Z (by kernel_rfl) Z (eZ aJ a1 B ) Z ?_
  rintro _ w ⟨rfl,n⟩
  have a:=a.e n
  refine J a Z Z (fun w o=>aj Z Z (cp _ b 18)) Z<|an 1 Z a<|M h fun aK C h=>J a Z Z (fun w o=>dF Tryz.underlying9 Z Z C) Z<|an 1 Z a<|M h fun c D h=>aY a Z Z (by kernel_rfl) Z (eZ aK a1 D ) Z ?_
  rintro _ w ⟨rfl,n⟩
  have a:=a.e n
  refine J a Z Z (fun w o=>aj Z Z (cp _ c 12)) Z<|J a Z Z (fun w o=>aj Z Z (dL _ (aF b 18) (aF c 12))) Z<|an 1 Z a<|M h fun aL E h=>J a Z Z (fun w o=>dF Tryz.underlying9 Z Z E) Z<|an 1 Z a<|M h fun j G h=>aY a Z Z (by kernel_rfl) Z (eZ aL a1 G ) Z ?_
  rintro _ w ⟨rfl,n⟩
  have a:=a.e n
  refine J a Z Z (fun w o=>aj Z Z (cp _ j 6)) Z<|J a Z Z (fun w o=>aj Z Z (dL _ ((aF b 18) ||| (aF c 12)) (aF j 6))) Z<|an 1 Z a<|M h fun aM S h=>J a Z Z (fun w o=>dF Tryz.underlying9 Z Z S) Z<|an 1 Z a<|M h fun m T h=>aY a Z Z (by kernel_rfl) Z (eZ aM a1 T ) Z ?_
  rintro _ w ⟨rfl,n⟩
  have a:=a.e n
  refine J a Z Z (fun w o=>aj Z Z (dL _ (((aF b 18) ||| (aF c 12)) ||| (aF j 6)) m)) Z<|an 1 Z a<|a8 a<|am<|R<|V 2 Z<|O (aj Z Z (ca _ ((((aF b 18) ||| (aF c 12)) ||| (aF j 6)) ||| m) 16)) Z<|O (aE Z (iK u67 Tryz.underlying5 (aP ((((aF b 18) ||| (aF c 12)) ||| (aF j 6)) ||| m) 16))) Z<|V 1 Z<|O (aj Z Z (ca _ ((((aF b 18) ||| (aF c 12)) ||| (aF j 6)) ||| m) 8)) Z<|O (aE Z (iK u67 Tryz.underlying5 (aP ((((aF b 18) ||| (aF c 12)) ||| (aF j 6)) ||| m) 8))) Z<|V 1 Z<|O (aE Z (iK u67 Tryz.underlying5 ((((aF b 18) ||| (aF c 12)) ||| (aF j 6)) ||| m))) Z<|bn (bJ (e:=e8) (l:=[(aP ((((aF b 18) ||| (aF c 12)) ||| (aF j 6)) ||| m) 16).toUInt8,(aP ((((aF b 18) ||| (aF c 12)) ||| (aF j 6)) ||| m) 8).toUInt8,((((aF b 18) ||| (aF c 12)) ||| (aF j 6)) ||| m).toUInt8]) (vs:=[v8 ((aP ((((aF b 18) ||| (aF c 12)) ||| (aF j 6)) ||| m) 16).toUInt8),v8 ((aP ((((aF b 18) ||| (aF c 12)) ||| (aF j 6)) ||| m) 8).toUInt8),v8 (((((aF b 18) ||| (aF c 12)) ||| (aF j 6)) ||| m).toUInt8)]) u25 ti5 Z Z Z Z (by decide) (by decide) a) Z fun be w a=>M h fun aO ab h=>bn (dQ u25 ti5 Z Z Z a (i:=1) Z (a.ro 0 Z) ab) Z ?_
  rintro aT w a
  exact V 1 Z<|Q<|al<|V 1 Z<|M h fun aV ac h=>O (qO Tryz.underlying9 Z Z ac) Z<|V 1 Z<|aG<|aH<|bo (br (aI (aV,aO) _ _ ⟨aT,Z,(a.d [1] Z Z)⟩ (aW h y)) Z)
 refine aZ<|aA<|aA<|have h:=aR h y;a7<|am<|R<|V 1 Z<|gl1<|R<|V 1 Z<|O (di Tryz.underlying9 Z) Z<|Q<|av ?_
 refine aU (r:=r) (fun (g:UInt64) L w=>L=[(0,vS aC),(1,vS a1),(6,p),(8,v64 g)]/\St [] q w [U e8 p u]) (F.Js a1 aC u) ?_ ?_
 rotate_left
 ·intro x
  refine av<|az<|av<|az<|az<|R<|V 2 Z<|Q ?_
  apply gl9 Z h<;>intro h
  ·exact aZ<|aA<|aA<|a7<|am<|al<|V 1 Z<|M h fun aX ad h=>O (dF Tryz.underlying9 Z Z ad) Z<|V 1 Z<|M h fun z ae h=>aS a Z (eZ aX a1 ae ) Z fun w a=>O (aj Z Z (cp _ z 6)) Z<|V 1 Z<|aG<|aH<|am<|aB (x (aF z 6) _ _ ⟨Z,a⟩ h) Z
  refine gl6<|V 2 Z<|Q ?_
  apply gl9 Z h<;>intro h
  ·exact aZ<|aA<|jp Z<|aA<|a7<|am<|aB (x 0 _ _ ⟨Z,a⟩ h) Z
  refine gl5<|aZ<|jp Z<|aA<|jp Z<|aA<|a7<|am<|R<|V 3 Z<|Q<|aq ?_
  cases h
  exact bE Z Z Z ⟨p,Z,a.d [0] Z Z⟩
 rintro k L w hJ h
 try dsimp only at hJ
 obtain⟨rfl,a⟩:=hJ
 unfold F.Js at h
 refine az<|az<|aQ (fun w'=>St [] q w' [U e8 p u]) (fun i=>!([4,9].contains i)) bK (fun _ _ _ t=>t.2) (fun _ _ t=>t) (by kernel_rfl)<|have a:=a.drew;show lxE _ _ _ _ _ _ _ [0,1,2,3,4,5,6,7,8,9,10,11,12,13] _ _ from an 2 Z a<|M h fun a2 ah h=>J a Z Z (fun w o=>dF Tryz.underlying9 Z Z ah) Z<|an 1 Z a<|M h fun d ak h=>aY a Z Z (by kernel_rfl) Z (eZ a2 a1 ak ) Z ?_
 rintro _ w ⟨rfl,n⟩
 have a:=a.e n
 refine J a Z Z (fun w o=>aj Z Z (cp _ d 18)) Z<|an 1 Z a<|M h fun a3 ao h=>J a Z Z (fun w o=>dF Tryz.underlying9 Z Z ao) Z<|an 1 Z a<|M h fun f ap h=>aY a Z Z (by kernel_rfl) Z (eZ a3 a1 ap ) Z ?_
 rintro _ w ⟨rfl,n⟩
 have a:=a.e n
 refine J a Z Z (fun w o=>aj Z Z (cp _ f 12)) Z<|J a Z Z (fun w o=>aj Z Z (dL _ (aF d 18) (aF f 12))) Z<|J a Z Z (fun w o=>aj Z Z (dL _ k ((aF d 18) ||| (aF f 12)))) Z<|an 1 Z a<|a8 a<|am<|R<|V 2 Z<|O (aj Z Z (ca _ (k ||| ((aF d 18) ||| (aF f 12))) 16)) Z<|O (aE Z (iK u67 Tryz.underlying5 (aP (k ||| ((aF d 18) ||| (aF f 12))) 16))) Z<|bn (bJ (e:=e8) (l:=[(aP (k ||| ((aF d 18) ||| (aF f 12))) 16).toUInt8]) (vs:=[v8 ((aP (k ||| ((aF d 18) ||| (aF f 12))) 16).toUInt8)]) u25 ti5 Z Z Z Z (by decide) (by decide) a) Z fun bg w a=>M h fun bh ar h=>bn (dQ u25 ti5 Z Z Z a (i:=1) Z (a.ro 0 Z) ar) Z fun a4 w a=>V 1 Z<|gl1<|R<|V 1 Z<|O (di Tryz.underlying9 Z) Z<|V 1 Z<|Q ?_
 apply gl9 Z h<;>intro h
 ·refine R<|V 2 Z<|O (aj Z Z (ca _ (k ||| ((aF d 18) ||| (aF f 12))) 8)) Z<|O (aE Z (iK u67 Tryz.underlying5 (aP (k ||| ((aF d 18) ||| (aF f 12))) 8))) Z<|bn (bJ (e:=e8) (l:=[(aP (k ||| ((aF d 18) ||| (aF f 12))) 8).toUInt8]) (vs:=[v8 ((aP (k ||| ((aF d 18) ||| (aF f 12))) 8).toUInt8)]) u25 ti5 Z Z Z Z (by decide) (by decide) a) Z fun bi w a=>M h fun bj au h=>bn (dQ u25 ti5 Z Z Z a (i:=2) Z (a.ro 0 Z) au) Z fun a5 w a=>V 1 Z<|gl2<|V 2 Z<|O (aj Z Z (fX _ (k ||| ((aF d 18) ||| (aF f 12))) 255)) Z<|O (aj Z Z (lZ _ ((k ||| ((aF d 18) ||| (aF f 12))) &&& 255) 0)) Z<|V 2 Z<|gl8<|aN<|bb<|aN ?_
  cases h
  exact bE Z Z Z ⟨a5,Z,a.d [2] Z Z⟩
 refine gl6<|V 2 Z<|O (aj Z Z (fX _ (k ||| ((aF d 18) ||| (aF f 12))) 65535)) Z<|O (aj Z Z (lZ _ ((k ||| ((aF d 18) ||| (aF f 12))) &&& 65535) 0)) Z<|V 2 Z<|gl8<|bb<|aN ?_
 cases h
 exact bE Z Z Z ⟨a4,Z,a.d [1] Z Z⟩
theorem kH {c:World} (a0:Q1) {r:Q1×Int×Int}
  (h:F.Hf a0=some r) :Calls Tryz.prog 57 #[vS a0] c (Ret fun v w=>∃u0:Value,v=.tuple #[u0,H r.2.1,H r.2.2]/\St [] c w [U e8 u0 r.1]):=by
 refine ay 37 Tryz.func57 Z Z Z<|have a:=St.k c;ax [(0,vS a0)] Z ?_
 unfold F.Hf at h
 refine R<|V 3 Z<|gl1<|R<|V 1 Z<|O (di Tryz.underlying9 Z) Z<|V 1 Z<|Q<|av<|ax [(0,vS a0),(9,H (a0.length:Int)),(10,H 0)] Z ?_
 refine bf (F.IP a0) (fun (s:Int) L w=>L=[(0,vS a0),(9,H (a0.length:Int)),(10,H s)]/\St [] c w []) ?_ 0 ⟨Z,a⟩ h
 rintro m i L w n j d h b
 try dsimp only at j
 obtain⟨rfl,a⟩:=j
 unfold F.IP at h
 refine R<|V 1 Z<|gl1 ?_
 apply gl9 Z h<;>intro h
 ·refine gl5<|az<|av<|R<|V 2 Z<|gl2<|V 2 Z<|M h fun k e h=>O (dF Tryz.underlying9 Z Z e) Z<|M h fun o f h=>aS a Z (i6 [65,66,67,68,69,70,71,72,73,74,75,76,77,78,79,80,81,82,83,84,85,86,87,88,89,90,97,98,99,100,101,102,103,104,105,106,107,108,109,110,111,112,113,114,115,116,117,118,119,120,121,122,48,49,50,51,52,53,54,55,56,57,45,95] k f ) Z fun w a=>V 1 Z<|Q ?_
  apply gl9 Z h<;>intro h
  ·refine R<|V 4 Z<|Q<|aq<|bb<|aN<|aN<|have h:=aR h b;bb<|aN ?_
   cases h
   exact dH Z Z Z Z ⟨Q3,Z,(a.nil e8).d [0] Z Z⟩
  exact cf<|aH<|am<|al<|V 2 Z<|aG<|bo (br (d (wI (i+1)) _ _ ⟨Z,a⟩ (aW h b)) Z)
 refine aZ<|aA<|aA<|have h:=aR h b;a7<|am<|az<|R<|V 1 Z<|O (di Tryz.underlying9 Z) Z<|O (aj Z Z (kN _ (a0.length:Int) 4 (by decide))) Z<|V 1 Z<|Q ?_
 apply gl9 Z h<;>intro h
 ·refine R<|V 1 Z<|O (di Tryz.underlying9 Z) Z<|V 3 Z<|gl8 ?_
  cases h
  exact dH Z Z Z Z ⟨Q3,Z,(a.nil e8).d [0] Z Z⟩
 refine gl6<|V 1 Z<|M h fun p g h=>cU a Z (yj a0 [65,66,67,68,69,70,71,72,73,74,75,76,77,78,79,80,81,82,83,84,85,86,87,88,89,90,97,98,99,100,101,102,103,104,105,106,107,108,109,110,111,112,113,114,115,116,117,118,119,120,121,122,48,49,50,51,52,53,54,55,56,57,45,95] g ) Z fun l w a=>V 5 Z<|gl1<|R<|V 2 Z<|Q ?_
 apply gl9 Z h<;>intro h
 ·refine R<|V 1 Z<|O (di Tryz.underlying9 Z) Z<|V 4 Z<|gl8 ?_
  cases h
  exact dH Z Z Z Z ⟨Q3,Z,(a.nil e8).d [0] Z Z⟩
 refine gl6<|V 4 Z<|Q<|aq ?_
 cases h
 exact dH Z Z Z Z ⟨l,Z,a.d [0] Z Z⟩
theorem wO {m:World} {a0:Q1} {o:Value} (a1:Q1) {r:Q1}
  (h:F.KA a0 a1=some r) (a5:RP [] m e8 o a0):Calls Tryz.prog 112 #[o,vS a1] m (Ret fun v w=>St [] m w [U e8 v r]):=by
 refine ay 106 Tryz.func112 Z Z Z<|have a:=St.k m;ax [(0,o),(1,vS a1)] Z ?_
 unfold F.KA at h
 refine R<|V 1 Z<|gl2<|V 1 Z<|O (aD u25 Z (a5.b a.fr)) Z<|V 1 Z<|O (aj Z Z (dJ _ (wI ((a0.length:Int)+2)) 3 (by decide))) Z<|O (aj Z Z (ee _ (wI (Int.tdiv (wI ((a0.length:Int)+2)) 3)) 4)) Z<|M h fun bm ba h=>bn (cV (e:=e8) u25 ti5 Z Z Z a ba) Z fun a6 w a=>V 1 Z<|gl1<|av<|ax [(0,o),(1,vS a1),(5,a6)] Z ?_
 refine bf (F.Hs a1) (fun (s:Q1×Q1) L w=>∃(u:Value) (p:Value),L=[(0,u),(1,vS a1),(5,p)]/\RP [] m e8 u s.1/\St [] m w [U e8 p s.2]) ?_ (a0,bm) ⟨o,a6,Z,a5,a⟩ h
 rintro bt ⟨bp,a9⟩ L w bu hI aJ h x
 try dsimp only at hI
 obtain⟨u,p,rfl,c,a⟩:=hI
 unfold F.Hs at h
 refine az<|R<|V 1 Z<|O (aD u25 Z (c.b a.fr)) Z<|V 1 Z<|Q ?_
 apply gl9 Z h<;>intro h
 ·refine gl5<|av<|az<|aQ (fun w'=>St [] m w' [U e8 p a9]) (fun _=>true) bK (fun _ _ _ k=>k.2) (fun _ _ k=>k) (by kernel_rfl)<|have a:=a.drew;show lxE _ _ _ _ _ _ _ [0,1,2,3,4,5,6,7,8,9,10,11,12,13,14,15,16] _ _ from an 1 Z a<|M h fun d y h=>J a Z Z (fun w b=>bh u25 ti5 Z Z (c.b b.fr) y) Z<|J a Z Z (fun w b=>aX Tryz.underlying5 Z Z (c.b b.fr) y Z) Z<|J a Z Z (fun w b=>aE Z (mc Tryz.underlying5 u67 d)) Z<|J a Z Z (fun w b=>aj Z Z (cp _ d.toUInt64 16)) Z<|an 1 Z a<|M h fun f z h=>J a Z Z (fun w b=>bh u25 ti5 Z Z (c.b b.fr) z) Z<|J a Z Z (fun w b=>aX Tryz.underlying5 Z Z (c.b b.fr) z Z) Z<|J a Z Z (fun w b=>aE Z (mc Tryz.underlying5 u67 f)) Z<|J a Z Z (fun w b=>aj Z Z (cp _ f.toUInt64 8)) Z<|J a Z Z (fun w b=>aj Z Z (dL _ (aF d.toUInt64 16) (aF f.toUInt64 8))) Z<|an 1 Z a<|M h fun j A h=>J a Z Z (fun w b=>bh u25 ti5 Z Z (c.b b.fr) A) Z<|J a Z Z (fun w b=>aX Tryz.underlying5 Z Z (c.b b.fr) A Z) Z<|J a Z Z (fun w b=>aE Z (mc Tryz.underlying5 u67 j)) Z<|J a Z Z (fun w b=>aj Z Z (dL _ ((aF d.toUInt64 16) ||| (aF f.toUInt64 8)) j.toUInt64)) Z ?_
  refine an 1 Z a<|a8 a<|am<|az<|have hsh0:=(a.ro 0 Z).shp;aQ (fun w'=>St [] m w' []) (fun i=>!([19,20].contains i)) bK (fun _ _ _ k=>k.2) (fun _ _ k=>k) (by kernel_rfl)<|have a:=a.drew;show lxE _ _ _ _ _ _ _ [0,1,2,3,4,5,6,7,8,9,10,11,12,13,14,15,16,17,18,19,20,21] _ _ from an 3 Z (a.d [] Z Z)<|J (a.d [] Z Z) Z Z (fun w b=>aj Z Z (ca _ (((aF d.toUInt64 16) ||| (aF f.toUInt64 8)) ||| j.toUInt64) 18)) Z<|M h fun ab aK h=>J (a.d [] Z Z) Z Z (fun w b=>dF Tryz.underlying9 Z Z aK) Z<|an 2 Z (a.d [] Z Z)<|J (a.d [] Z Z) Z Z (fun w b=>aj Z Z (ca _ (((aF d.toUInt64 16) ||| (aF f.toUInt64 8)) ||| j.toUInt64) 12)) Z<|J (a.d [] Z Z) Z Z (fun w b=>aj Z Z (fX _ (aP (((aF d.toUInt64 16) ||| (aF f.toUInt64 8)) ||| j.toUInt64) 12) 63)) Z<|M h fun ac aL h=>J (a.d [] Z Z) Z Z (fun w b=>dF Tryz.underlying9 Z Z aL) Z<|an 2 Z (a.d [] Z Z)<|J (a.d [] Z Z) Z Z (fun w b=>aj Z Z (ca _ (((aF d.toUInt64 16) ||| (aF f.toUInt64 8)) ||| j.toUInt64) 6)) Z<|J (a.d [] Z Z) Z Z (fun w b=>aj Z Z (fX _ (aP (((aF d.toUInt64 16) ||| (aF f.toUInt64 8)) ||| j.toUInt64) 6) 63)) Z<|M h fun ad aM h=>J (a.d [] Z Z) Z Z (fun w b=>dF Tryz.underlying9 Z Z aM) Z ?_
  exact an 2 Z (a.d [] Z Z)<|J (a.d [] Z Z) Z Z (fun w b=>aj Z Z (fX _ (((aF d.toUInt64 16) ||| (aF f.toUInt64 8)) ||| j.toUInt64) 63)) Z<|M h fun ae aN h=>J (a.d [] Z Z) Z Z (fun w b=>dF Tryz.underlying9 Z Z aN) Z<|mV (a.d [] Z Z) Z Z (bJ (e:=e8) (l:=[ab,ac,ad,ae]) (vs:=[v8 ab,v8 ac,v8 ad,v8 ae]) u25 ti5 Z Z Z Z (by decide) (by decide) a) Z fun bv w a=>M h fun bb aO h=>mV (a.d [] Z Z) Z Z (dQ u25 ti5 Z Z Z a (i:=1) Z (a.ro 0 Z) aO) Z fun bc w a=>an 1 Z (a.d [] Z Z)<|a8 (a.d [] Z Z)<|am<|al<|V 1 Z<|M h fun bd B h=>O (oG u25 ti5 Z Z (c.b a.fr) B) Z<|V 1 Z<|aG<|aH<|bo (br (aJ (bd,bb) _ _ ⟨slV u e8.sz ((3:Int).toNat) bp.length,bc,Z,(c.g_sll B),(a.d [1] Z Z)⟩ (aW h x)) Z)
 refine aZ<|aA<|aA<|have h:=aR h x;a7<|am ?_
 refine aU (r:=r) (fun (g:Q1) L w=>∃(q:Value),L=[(5,q)]/\St [] m w [U e8 q g]) (F.Jw) ?_ ?_
 rotate_left
 ·intro n
  refine R<|V 1 Z<|O (aD u25 Z (c.b a.fr)) Z<|Q<|av<|R<|V 2 Z<|Q ?_
  apply gl9 Z h<;>intro h
  ·have hsh0:=(a.ro 0 Z).shp
   refine aQ (fun w'=>St [] m w' []) (fun i=>!([26,27].contains i)) bK (fun _ _ _ k=>k.2) (fun _ _ k=>k) (by kernel_rfl)<|have a:=a.drew;show lxE _ _ _ _ _ _ _ [0,1,2,3,4,5,6,7,8,9,10,11,12,13,14,15,16,17,18,19,20,21,22,23,24,25,26,27,28] _ _ from an 3 Z (a.d [] Z Z)<|M h fun be C h=>J (a.d [] Z Z) Z Z (fun w b=>bh u25 ti5 Z Z (c.b b.fr) C) Z<|J (a.d [] Z Z) Z Z (fun w b=>aX Tryz.underlying5 Z Z (c.b b.fr) C Z) Z<|J (a.d [] Z Z) Z Z (fun w b=>aj Z Z (ow _ be 2)) Z<|M h fun ah aS h=>J (a.d [] Z Z) Z Z (fun w b=>dF Tryz.underlying9 Z Z aS) Z<|an 2 Z (a.d [] Z Z)<|M h fun t D h=>J (a.d [] Z Z) Z Z (fun w b=>bh u25 ti5 Z Z (c.b b.fr) D) Z<|J (a.d [] Z Z) Z Z (fun w b=>aX Tryz.underlying5 Z Z (c.b b.fr) D Z) Z<|J (a.d [] Z Z) Z Z (fun w b=>aj Z Z (me _ t 3)) Z<|J (a.d [] Z Z) Z Z (fun w b=>aj Z Z (od _ (t &&& 3) 4)) Z<|an 1 Z (a.d [] Z Z)<|M h fun ak E h=>J (a.d [] Z Z) Z Z (fun w b=>bh u25 ti5 Z Z (c.b b.fr) E) Z<|J (a.d [] Z Z) Z Z (fun w b=>aX Tryz.underlying5 Z Z (c.b b.fr) E Z) Z<|J (a.d [] Z Z) Z Z (fun w b=>aj Z Z (ow _ ak 4)) Z ?_
   exact J (a.d [] Z Z) Z Z (fun w b=>aj Z Z (yq _ (mu (t &&& 3) 4) (jo ak 4))) Z<|M h fun ao aT h=>J (a.d [] Z Z) Z Z (fun w b=>dF Tryz.underlying9 Z Z aT) Z<|an 2 Z (a.d [] Z Z)<|M h fun ap G h=>J (a.d [] Z Z) Z Z (fun w b=>bh u25 ti5 Z Z (c.b b.fr) G) Z<|J (a.d [] Z Z) Z Z (fun w b=>aX Tryz.underlying5 Z Z (c.b b.fr) G Z) Z<|J (a.d [] Z Z) Z Z (fun w b=>aj Z Z (me _ ap 15)) Z<|J (a.d [] Z Z) Z Z (fun w b=>aj Z Z (od _ (ap &&& 15) 2)) Z<|M h fun ar aV h=>J (a.d [] Z Z) Z Z (fun w b=>dF Tryz.underlying9 Z Z aV) Z<|mV (a.d [] Z Z) Z Z (bJ (e:=e8) (l:=[ah,ao,ar]) (vs:=[v8 ah,v8 ao,v8 ar]) u25 ti5 Z Z Z Z (by decide) (by decide) a) Z fun bw w a=>M h fun bg aY h=>mV (a.d [] Z Z) Z Z (dQ u25 ti5 Z Z Z a (i:=1) Z (a.ro 0 Z) aY) Z fun bi w a=>an 1 Z (a.d [] Z Z)<|a8 (a.d [] Z Z)<|aH<|am<|aB (n bg _ _ ⟨bi,Z,(a.d [1] Z Z)⟩ h) Z
  refine R<|V 2 Z<|Q ?_
  apply gl9 Z h<;>intro h
  ·have hsh0:=(a.ro 0 Z).shp
   refine aQ (fun w'=>St [] m w' []) (fun i=>!([14,15].contains i)) bK (fun _ _ _ k=>k.2) (fun _ _ k=>k) (by kernel_rfl)<|have a:=a.drew;show lxE _ _ _ _ _ _ _ [0,1,2,3,4,5,6,7,8,9,10,11,12,13,14,15,16] _ _ from an 3 Z (a.d [] Z Z)<|M h fun bj S h=>J (a.d [] Z Z) Z Z (fun w b=>bh u25 ti5 Z Z (c.b b.fr) S) Z<|J (a.d [] Z Z) Z Z (fun w b=>aX Tryz.underlying5 Z Z (c.b b.fr) S Z) Z<|J (a.d [] Z Z) Z Z (fun w b=>aj Z Z (ow _ bj 2)) Z<|M h fun aw a2 h=>J (a.d [] Z Z) Z Z (fun w b=>dF Tryz.underlying9 Z Z a2) Z<|an 2 Z (a.d [] Z Z)<|M h fun aC T h=>J (a.d [] Z Z) Z Z (fun w b=>bh u25 ti5 Z Z (c.b b.fr) T) Z<|J (a.d [] Z Z) Z Z (fun w b=>aX Tryz.underlying5 Z Z (c.b b.fr) T Z) Z<|J (a.d [] Z Z) Z Z (fun w b=>aj Z Z (me _ aC 3)) Z<|J (a.d [] Z Z) Z Z (fun w b=>aj Z Z (od _ (aC &&& 3) 4)) Z<|M h fun aI a3 h=>J (a.d [] Z Z) Z Z (fun w b=>dF Tryz.underlying9 Z Z a3) Z<|mV (a.d [] Z Z) Z Z (bJ (e:=e8) (l:=[aw,aI]) (vs:=[v8 aw,v8 aI]) u25 ti5 Z Z Z Z (by decide) (by decide) a) Z fun bx w a=>M h fun bk a4 h=>mV (a.d [] Z Z) Z Z (dQ u25 ti5 Z Z Z a (i:=1) Z (a.ro 0 Z) a4) Z ?_
   rintro bl w a
   exact an 1 Z (a.d [] Z Z)<|a8 (a.d [] Z Z)<|aH<|am<|aB (n bk _ _ ⟨bl,Z,(a.d [1] Z Z)⟩ h) Z
  exact cf<|aH<|am<|aB (n a9 _ _ ⟨p,Z,a⟩ h) Z
 rintro bz L w hJ h
 try dsimp only at hJ
 obtain⟨q,rfl,a⟩:=hJ
 unfold F.Jw at h
 refine R<|V 2 Z<|Q<|aq ?_
 cases h
 exact au Z Z (a.d [0] Z Z)
theorem kx {c:World} {a0:Q1} {a:Value} {r:Q1}
  (h:F.IU a0=some r) (e:RP [] c e8 a a0):Calls Tryz.prog 58 #[a] c (Ret fun v w=>v=vS r/\St [] c w []):=by
 refine ay 6 Tryz.func58 Z Z Z<|have b:=St.k c;ax [(0,a)] Z ?_
 unfold F.IU at h
 refine R<|V 1 Z<|gl2<|V 1 Z<|M h fun f d h=>aM b Z (wO [65,66,67,68,69,70,71,72,73,74,75,76,77,78,79,80,81,82,83,84,85,86,87,88,89,90,97,98,99,100,101,102,103,104,105,106,107,108,109,110,111,112,113,114,115,116,117,118,119,120,121,122,48,49,50,51,52,53,54,55,56,57,45,95] d (e.b b.fr).rp) Z fun g w b=>O (lV u25 Tryz.underlying5 Tryz.underlying9 Z (b.ro 0 Z)) Z<|V 1 Z<|Q<|aq ?_
 cases h
 exact au Z Z ⟨Z,b.d [] Z Z⟩
end Go.Proofs
