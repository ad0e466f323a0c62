import Derived.Test.YtmegjloifgfldaaGreatDoorRW0
import Derived.Test.YtmegjloifgfldaaGreatDoorGkFb64
import Derived.Test.YtmegjloifgfldaaGreatDoorRWshab
set_option linter.unusedVariables false
set_option linter.unusedSimpArgs false
set_option linter.unusedSectionVars false
set_option maxRecDepth 4000
namespace Go.Proofs
open Go Go.RowKit Go.Gk
open Go.Gk renaming aa -> V, af -> M, ag -> O, ai -> J, gl3 -> Q, gl4 -> R, own -> U, vB -> N, vI -> H
theorem nh {c:World} {a1:Q1} {b:Value} (a0:Int) (a2:UInt8) {r:Q1}
  (h:F.J0 a0 a1 a2=some r) (hT:TB [] c) (k:RP [] c e8 b a1):Calls Tryz.prog 59 #[H a0,b,v8 a2] c (Ret fun v w=>St [] c w [U e8 v r]):=by
 refine ay 38 Tryz.func59 Z Z Z<|have a:=St.k c;ax [(0,H a0),(1,b),(2,v8 a2)] Z ?_
 unfold F.J0 at h
 refine R<|V 1 Z<|gl1<|R<|V 1 Z<|O (aD u25 Z (k.b a.fr)) Z<|V 1 Z<|M h fun aY J h=>aS a Z (fG a0 J ) Z fun w a=>V 1 Z<|Q ?_
 apply gl9 Z h<;>intro h
 ·refine al<|V 2 Z<|bn (bJ (e:=eV) (l:=([SV.of b]:List SV)) (vs:=[b]) u117 iy Z Z Z (cb (k.b a.fr).sv Z) (by decide) (by decide) a) Z fun a3 w a=>M h fun aC A h=>aM a Z (fE a0 A (hT.b a.fr) (a.ro 0 Z).rp ⟨(k.b a.fr).svrp,K⟩) Z fun aE w a=>V 1 Z<|gl2<|V 1 Z<|M h fun aF B h=>aS a Z (fG a0 B ) Z fun w a=>M h fun aI C h=>bn (cV (e:=e8) u25 ti5 Z Z Z a C) Z fun d w a=>V 1 Z<|gl2<|V 2 Z<|bn (ry (e:=e8) u25 ti5 Z Z Z a (i:=0) Z (a.ro 1 Z)) Z ?_
  rintro v_q w ⟨hv_q,a⟩
  subst v_q
  obtain⟨ak,D,h⟩:=fD h
  rw[D]at a
  refine gl1<|R<|V 1 Z<|M h fun f E h=>aS a Z (fG a0 E ) Z fun w a=>V 1 Z<|Q<|av<|ax [(2,v8 a2),(7,d),(25,H f),(26,H 0)] Z ?_
  refine bf (F.Mf a2 f) (fun (s:Int×Q1) L w=>L=[(2,v8 a2),(7,d),(25,H f),(26,H s.1)]/\St [] c w [U e8 d s.2]) ?_ (0,ak) ⟨Z,(a.d [0] Z Z)⟩ h
  rintro aJ ⟨an,aK⟩ L w aL x G h m
  try dsimp only at x
  obtain⟨rfl,a⟩:=x
  unfold F.Mf at h
  refine R<|V 1 Z<|gl1 ?_
  apply gl9 Z h<;>intro h
  ·refine gl5<|az<|av<|R<|V 2 Z<|Q<|al<|V 2 Z<|M h fun y n h=>O (bh u25 ti5 Z Z (a.ro 0 Z) n) Z<|O (aX Tryz.underlying5 Z Z (a.ro 0 Z) n Z) Z<|V 1 Z<|O (aj Z Z (rf _ y a2)) Z<|M h fun aN o h=>O (bh u25 ti5 Z Z (a.ro 0 Z) o) Z<|bm (bX (t:=(y ^^^ a2)) ti5 Z Z a (i:=0) Z o Z) fun w a=>bg h fun ao S h=>?_
   rw[S]at a
   exact aG<|aH<|am<|al<|V 2 Z<|aG<|bo (br (G (wI (an+1),ao) _ _ ⟨Z,a⟩ (aW h m)) Z)
  refine aZ<|aA<|aA<|have h:=aR h m;a7<|am<|R<|V 2 Z<|Q<|aq ?_
  cases h
  exact au Z Z (a.d [0] Z Z)
 refine gl6<|V 1 Z<|M h fun aO T h=>aS a Z (fG a0 T ) Z fun w a=>M h fun aP ab h=>bn (cV (e:=e8) u25 ti5 Z Z Z a ab) Z fun g w a=>V 1 Z<|gl2<|V 2 Z<|bn (ry (e:=e8) u25 ti5 Z Z Z a (i:=0) Z (k.b a.fr)) Z ?_
 rintro v_q w ⟨hv_q,a⟩
 subst v_q
 obtain⟨ap,ac,h⟩:=fD h
 rw[ac]at a
 refine gl1<|R<|V 1 Z<|M h fun j ad h=>aS a Z (fG a0 ad ) Z fun w a=>V 1 Z<|Q<|av<|ax [(2,v8 a2),(7,g),(25,H j),(26,H 0)] Z ?_
 refine bf (F.Mc a2 j) (fun (s:Int×Q1) L w=>L=[(2,v8 a2),(7,g),(25,H j),(26,H s.1)]/\St [] c w [U e8 g s.2]) ?_ (0,ap) ⟨Z,a⟩ h
 rintro aQ ⟨ar,aT⟩ L w aU x ae h p
 try dsimp only at x
 obtain⟨rfl,a⟩:=x
 unfold F.Mc at h
 refine R<|V 1 Z<|gl1 ?_
 apply gl9 Z h<;>intro h
 ·refine gl5<|az<|av<|R<|V 2 Z<|Q<|al<|V 2 Z<|M h fun z q h=>O (bh u25 ti5 Z Z (a.ro 0 Z) q) Z<|O (aX Tryz.underlying5 Z Z (a.ro 0 Z) q Z) Z<|V 1 Z<|O (aj Z Z (rf _ z a2)) Z<|M h fun aV u h=>O (bh u25 ti5 Z Z (a.ro 0 Z) u) Z<|bm (bX (t:=(z ^^^ a2)) ti5 Z Z a (i:=0) Z u Z) fun w a=>bg h fun aw ah h=>?_
  rw[ah]at a
  exact aG<|aH<|am<|al<|V 2 Z<|aG<|bo (br (ae (wI (ar+1),aw) _ _ ⟨Z,a⟩ (aW h p)) Z)
 refine aZ<|aA<|aA<|have h:=aR h p;a7<|am<|R<|V 2 Z<|Q<|aq ?_
 cases h
 exact au Z Z (a.d [0] Z Z)
theorem qs {c:World} {a1 a2:Q1} {d b:Value} (a0:Int) {r:Q1}
  (h:F.KC a0 a1 a2=some r) (g:TB [] c) (k:RP [] c e8 d a1) (m:RP [] c e8 b a2):Calls Tryz.prog 22 #[H a0,d,b] c (Ret fun v w=>St [] c w [U e8 v r]):=by
 refine ay 23 Tryz.func22 Z Z Z<|have a:=St.k c;ax [(0,H a0),(1,d),(2,b)] Z ?_
 unfold F.KC at h
 refine R<|V 1 Z<|gl1<|R<|V 1 Z<|M h fun z p h=>aS a Z (eH a0 p ) Z fun w a=>V 1 Z<|Q ?_
 apply gl9 Z h<;>intro h
 ·refine R<|V 1 Z<|gl8 ?_
  cases h
  exact au Z Z ((a.nil e8).d [0] Z Z)
 refine gl6<|V 3 Z<|M h fun A q h=>aM a Z (nh a0 92 q (g.b a.fr) (k.b a.fr).rp) Z fun n w a=>V 3 Z<|M h fun B s h=>aM a Z (nh a0 54 s (g.b a.fr) (k.b a.fr).rp) Z fun o w a=>V 1 Z<|bn (bJ (e:=eV) (l:=([SV.of o,SV.of b]:List SV)) (vs:=[o,b]) u117 iy Z Z Z (cb (a.ro 0 Z).sv (cb (m.b a.fr).sv Z)) (by decide) (by decide) a) Z fun C w a=>M h fun t i h=>aM a Z (fE a0 i (g.b a.fr) (a.ro 0 Z).rp ⟨(a.ro 1 Z).svrp,(m.b a.fr).svrp,K⟩) Z fun f w a=>bn (bJ (e:=eV) (l:=([SV.of n,SV.of f]:List SV)) (vs:=[n,f]) u117 iy Z Z Z (cb (a.ro 3 Z).sv (cb (a.ro 0 Z).sv Z)) (by decide) (by decide) a) Z fun u w a=>M h fun x j h=>aM a Z (fE a0 j (g.b a.fr) (a.ro 0 Z).rp ⟨(a.ro 4 Z).svrp,(a.ro 1 Z).svrp,K⟩) Z fun y w a=>V 1 Z<|Q<|aq ?_
 cases h
 exact au Z Z (a.d [0] Z Z)
theorem tR {e:World} {a0 a1:Q1} {c d:Value} {r:Bool}
  (h:F.Lq a0 a1=some r) (f:RP [] e e8 c a0) (g:RP [] e e8 d a1):Calls Tryz.prog 21 #[c,d] e (Ret fun v w=>v=N r/\St [] e w []):=by
 refine ay 31 Tryz.func21 Z Z Z<|have a:=St.k e;ax [(0,c),(1,d)] Z ?_
 unfold F.Lq at h
 refine R<|V 1 Z<|gl1<|R<|V 1 Z<|O (aD u25 Z (f.b a.fr)) Z<|V 1 Z<|O (aD u25 Z (g.b a.fr)) Z<|V 1 Z<|Q ?_
 apply gl9 Z h<;>intro h
 ·refine R<|V 1 Z<|gl8 ?_
  cases h
  exact au Z Z ⟨Z,a⟩
 refine gl6<|V 1 Z<|gl1<|R<|V 1 Z<|O (aD u25 Z (f.b a.fr)) Z<|V 1 Z<|Q<|av<|ax [(0,c),(1,d),(5,v8 0),(13,H (a0.length:Int)),(14,H 0)] Z ?_
 refine bf (F.IX a0 a1) (fun (s:UInt8×Int) L w=>L=[(0,c),(1,d),(5,v8 s.1),(13,H (a0.length:Int)),(14,H s.2)]/\St [] e w []) ?_ (0,0) ⟨Z,a⟩ h
 rintro u ⟨i,q⟩ L w x t o h j
 try dsimp only at t
 obtain⟨rfl,a⟩:=t
 unfold F.IX at h
 refine R<|V 1 Z<|gl1 ?_
 apply gl9 Z h<;>intro h
 ·exact gl5<|az<|av<|R<|V 2 Z<|Q<|aQ (fun w'=>St [] e w' []) (fun _=>true) bK (fun _ _ _ p=>p.2) (fun _ _ p=>p) (by kernel_rfl)<|have a:=a.drew;show lxE _ _ _ _ _ _ _ [0,1,2,3,4,5,6,7,8,9,10,11] _ _ from an 3 Z a<|M h fun k l h=>J a Z Z (fun w b=>bh u25 ti5 Z Z (f.b b.fr) l) Z<|J a Z Z (fun w b=>aX Tryz.underlying5 Z Z (f.b b.fr) l Z) Z<|an 2 Z a<|M h fun m n h=>J a Z Z (fun w b=>bh u25 ti5 Z Z (g.b b.fr) n) Z<|J a Z Z (fun w b=>aX Tryz.underlying5 Z Z (g.b b.fr) n Z) Z<|J a Z Z (fun w b=>aj Z Z (rf _ k m)) Z<|J a Z Z (fun w b=>aj Z Z (yq _ i (k ^^^ m))) Z<|an 1 Z a<|a8 a<|aH<|am<|al<|V 2 Z<|aG<|bo (br (o (i ||| (k ^^^ m),wI (q+1)) _ _ ⟨Z,a⟩ (aW h j)) Z)
 refine aZ<|aA<|aA<|have h:=aR h j;a7<|am<|R<|V 1 Z<|O (aj Z Z (fc _ i 0)) Z<|V 1 Z<|Q<|aq ?_
 cases h
 exact au Z Z ⟨Z,a⟩
theorem vR {c:World} {a1 a2 a3:Q1} {d e f:Value} (a0:Int) {r:Bool}
  (h:F.Lk a0 a1 a2 a3=some r) (p:TB [] c) (l:RP [] c e8 d a1) (m:RP [] c e8 e a2) (n:RP [] c e8 f a3):Calls Tryz.prog 8 #[H a0,d,e,f] c (Ret fun v w=>v=N r/\St [] c w []):=by
 refine ay 20 Tryz.func8 Z Z Z<|have a:=St.k c;ax [(0,H a0),(1,d),(2,e),(3,f)] Z ?_
 unfold F.Lk at h
 refine R<|V 1 Z<|gl2<|V 1 Z<|M h fun o i h=>aS a Z (eH a0 i ) Z fun w a=>V 2 Z ?_
 cases b:(decide ((0:Int)<o))
 case true=>
  have h:=bH h b
  try simp only[b]
  refine V 3 Z<|M h fun q j h=>bU (t:=12) Z Z (by kernel_rfl) Z (qs a0 j (p.b a.fr) (l.b a.fr).rp (m.b a.fr).rp) Z fun s w g=>have a:=a.e g;V 1 Z<|M h fun u k h=>bU (t:=12) Z Z (by kernel_rfl) Z (tR  k (a.ro 0 Z).rp (n.b a.fr).rp) Z ?_
  rintro _ w ⟨rfl,g⟩
  have a:=a.e g
  refine V 2 Z<|Q<|aq ?_
  cases h
  exact au Z Z ⟨Z,a.d [] Z Z⟩
 case false=>
  have h:=bI h b
  try simp only[b]
  refine V 8 Z<|Q<|aq ?_
  cases h
  exact au Z Z ⟨Z,a⟩
end Go.Proofs
