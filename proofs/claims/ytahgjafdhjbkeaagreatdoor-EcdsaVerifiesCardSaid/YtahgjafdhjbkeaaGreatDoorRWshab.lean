import Derived.Test.YtahgjafdhjbkeaaGreatDoorRW0
import Derived.Test.YtahgjafdhjbkeaaGreatDoorGkFman
import Derived.Test.YtahgjafdhjbkeaaGreatDoorRWshaa
set_option linter.unusedVariables false
set_option linter.unusedSimpArgs false
set_option linter.unusedSectionVars false
set_option maxRecDepth 4000
namespace Go.Proofs
open Go Go.RowKit Go.Gk
open Go.Gk renaming aa → V, af → J, ag → N, e32 → X, gl3 → Q, gl4 → R, own → U, pB → O, vI → H
open Nat renaming le_of_ble_eq_true → W
open Go.Gk.OE renaming bx → Y
theorem oX {C:World} {q:Nat} {S:List Nat} (d:Int) (f:List UInt32) (j:List UInt64) (n:List UInt8) (b:UInt64) {r:List UInt8×Int×List UInt32×List UInt64×List UInt8×UInt64}
  (h:F.H8 d f j n b=some r) (a:St S C C [Y q ([H d]++(X.fl f++(e64.fl j++(e8.fl n++[v64 b]))))]) (hT:TB S C) (u:f.length=8) (x:j.length=8) (y:n.length=128):Calls Tryz.prog 118 #[O q 0] C (Ret fun v w=>∃u0:Value,v=u0∧r.2.2.1.length=8∧r.2.2.2.1.length=8∧r.2.2.2.2.1.length=128∧St S C w [U e8 u0 r.1,Y q ([H r.2.1]++(X.fl r.2.2.1++(e64.fl r.2.2.2.1++(e8.fl r.2.2.2.2.1++[v64 r.2.2.2.2.2]))))]):=by
 refine aB 120 Tryz.func118 Z Z Z<|ax [(0,O q 0)] Z ?_
 unfold F.H8 at h
 refine R<|V 1 Z<|gl2<|V 1 Z<|N (aK Z) Z<|N (fD (us:=[H d]++(X.fl f++(e64.fl j++(e8.fl n++[v64 b])))) u157 Z Ag (ff Z (ff (bg u Z) (ff (bg x Z) (ff (bg y Z) Z Z) Z) Z) Z) Z (a.bxgs0 0 Z Up.last)) Z<|bh (ba (cs:=[H 0]++(X.fl (List.replicate 8 0)++(e64.fl (List.replicate 8 0)++(e8.fl (List.replicate 128 0)++[v64 0])))) CE (by kernel_rfl) a) Z fun p w a=>bl (dn (m:=146) (xs:=[H 0]++(X.fl (List.replicate 8 0)++(e64.fl (List.replicate 8 0)++(e8.fl (List.replicate 128 0)++[v64 0])))) (xs':=[H d]++(X.fl f++(e64.fl j++(e8.fl n++[v64 b])))) (i:=0) Z Ag Z Z Z Up.last (ff Z (ff (bg List.length_replicate Z) (ff (bg List.length_replicate Z) (ff (bg List.length_replicate Z) Z Z) Z) Z) Z) (ff Z (ff (bg u Z) (ff (bg x Z) (ff (bg y Z) Z Z) Z) Z) Z) (nP (ep Z) (nP gc (nP gc (nP gc (ep Z))))) a) fun w a=>gl1<|aX (fun w'=>St S C w' [Y p ([H d]++(X.fl f++(e64.fl j++(e8.fl n++[v64 b])))),Y q ([H d]++(X.fl f++(e64.fl j++(e8.fl n++[v64 b]))))]) (fun i=>!([2].contains i)) bR (fun _ _ _ hf=>hf.2) (fun _ _ hf=>hf) (by kernel_rfl)<|have a:=a.drew;?_
 show lxE _ _ _ _ _ _ _ [0,1,2,3,4,5,6] _ _
 refine ai a Z Z (fun w D=>ao (k:=0) u157 Z Z qA Z) Z<|ai a Z Z (fun w D=>aw u22 Z Z (D.r 0 Z (Up.get0 Up.o))) Z<|J h fun t bF h=>bb a Z Z (by kernel_rfl) Z (ov d bF ) Z ?_
 rintro _ w ⟨rfl,T⟩
 have a:=a.e T
 refine ai a Z Z (fun w D=>ao (k:=145) u157 Z Z rx Z) Z<|ai a Z Z (fun w D=>aw u119 Z Z (D.r 0 Z (Up.get0 (Up.m (k:=1) Z (Up.m (k:=8) (bg u Z) (Up.m (k:=8) (bg x Z) (Up.m (k:=128) (bg y Z) Up.last Z) Z) Z) Z)))) Z<|an 2 Z a<|bn a<|ak<|R<|V 1 Z<|N (aj Z Z (dV _ t 8 (by decide))) Z<|V 1 Z<|gl2<|bG (cp (e:=e8) (l:=[128]) (vs:=[v8 128]) u24 ti5 Z Z Z Z (by decide) (by decide) a) Z fun bD w a=>V 1 Z<|gl1<|ar<|ax [(3,O p 0),(4,H t),(5,v64 b),(6,H (wI (Int.tdiv t 8))),(7,bD)] Z ?_
 refine aT (F.GJ b t d f j n) (fun (s:List UInt8) L w=>∃(ap:Value),L=[(3,O p 0),(4,H t),(5,v64 b),(6,H (wI (Int.tdiv t 8))),(7,ap)]∧St S C w [U e8 ap s,Y p ([H d]++(X.fl f++(e64.fl j++(e8.fl n++[v64 b])))),Y q ([H d]++(X.fl f++(e64.fl j++(e8.fl n++[v64 b]))))]) ?_ [128] ⟨bD,Z,a⟩ h
 rintro bW bE L w bX B a6 h aN
 try dsimp only at B
 obtain ⟨ap,rfl,a⟩:=B
 unfold F.GJ at h
 refine av<|R<|V 2 Z<|N (aD Z (dy u3 u119 t)) Z<|da h fun a8 h=>N (aj Z Z (fx _ b (UInt64.ofInt t) a8)) Z<|N (aD Z (nD u119 u3 (b%(UInt64.ofInt t)))) Z<|V 1 Z<|N (aC u24 Z (a.ro 0 Z)) Z<|V 2 Z<|da h fun bc h=>N (aj Z Z (fW _ (wI ((wI ((b%(UInt64.ofInt t)).toNat:Int))+(bE.length:Int))) t bc)) Z<|V 4 Z<|Q ?_
 refine gl9 Z h (fun h=>?_) (fun h=>?_)
 ·exact gl5<|ar<|al<|V 1 Z<|bG (cp (e:=e8) (l:=[0]) (vs:=[v8 0]) u24 ti5 Z Z Z Z (by decide) (by decide) a) Z fun bY w a=>J h fun bH be h=>bG (dG u24 ti5 Z Z Z a (i:=1) Z (a.ro 0 Z) be) Z fun bI w a=>V 1 Z<|aE<|aF<|bf (bd (a6 bH _ _ ⟨bI,Z,(a.d [1,2,3] Z Z)⟩ (aL h aN)) Z)
 refine aQ<|au<|au<|have h:=aI h aN;aR<|ak<|av<|R<|V 2 Z<|a7 h fun aA bi h=>N (a9 (v:=H aA) (by rw [←bi]; rfl)) Z<|Q<|ar<|ax [(3,O p 0),(5,v64 b),(7,ap),(8,H aA)] Z ?_
 refine aT (F.Eb d f j n b) (fun (s:List UInt8×Int) L w=>∃(E:Value),L=[(3,O p 0),(5,v64 b),(7,E),(8,H s.2)]∧St S C w [U e8 E s.1,Y p ([H d]++(X.fl f++(e64.fl j++(e8.fl n++[v64 b])))),Y q ([H d]++(X.fl f++(e64.fl j++(e8.fl n++[v64 b]))))]) ?_ (bE,aA) ⟨ap,Z,a⟩ h
 rintro bZ ⟨aJ,G⟩ L w bJ B bj h aO
 try dsimp only at B
 obtain ⟨E,rfl,a⟩:=B
 unfold F.Eb at h
 refine av<|R<|V 2 Z<|Q ?_
 refine gl9 Z h (fun h=>?_) (fun h=>?_)
 ·refine gl5<|av<|ar<|R<|V 1 Z<|Q ?_
  refine aZ (r:=bJ) (fun (g:UInt8) L w=>L=[(3,O p 0),(5,v64 b),(7,E),(8,H G),(9,v8 g)]∧St S C w [Y p ([H d]++(X.fl f++(e64.fl j++(e8.fl n++[v64 b])))),U e8 E aJ,Y q ([H d]++(X.fl f++(e64.fl j++(e8.fl n++[v64 b]))))]) (F.EZ aJ G) ?_ ?_
  rotate_left
  ·intro ac
   refine ar<|R<|V 3 Z<|Q ?_
   refine gl9 Z h (fun h=>?_) (fun h=>?_)
   ·exact al<|V 1 Z<|N (aj Z Z (dr _ b 3)) Z<|V 1 Z<|N (aj Z Z (dR _ 8 G)) Z<|da h fun bk h=>N (aj Z Z (mW _ (bB b 3) (wI (8*G)) bk)) Z<|N (aD Z (kY u119 Tryz.underlying5 (aM (bB b 3) (((wI (8*G))).toNat)))) Z<|a7 h fun a2 bm h=>N (a9 (v:=v8 a2) (by rw [←bm]; rfl)) Z<|aE<|aF<|ak<|aH (ac a2 _ _ ⟨Z,(a.d [1,0,2] Z Z)⟩ h) Z
   refine R<|V 3 Z<|Q ?_
   refine gl9 Z h (fun h=>?_) (fun h=>?_)
   ·exact al<|V 1 Z<|N (aj Z Z (cc _ b 61)) Z<|N (aD Z (kY u119 Tryz.underlying5 (aM b 61))) Z<|V 1 Z<|aE<|aF<|ak<|aH (ac ((aM b 61).toUInt8) _ _ ⟨Z,(a.d [1,0,2] Z Z)⟩ h) Z
   exact cd<|aF<|ak<|aH (ac 0 _ _ ⟨Z,(a.d [1,0,2] Z Z)⟩ h) Z
  rintro a3 L w hJ h
  try dsimp only at hJ
  obtain ⟨rfl,a⟩:=hJ
  unfold F.EZ at h
  exact al<|V 2 Z<|bG (cp (e:=e8) (l:=[a3]) (vs:=[v8 a3]) u24 ti5 Z Z Z Z (by decide) (by decide) a) Z fun b0 w a=>J h fun bK bo h=>bG (dG u24 ti5 Z Z Z a (i:=2) Z (a.ro 0 Z) bo) Z fun bL w a=>V 1 Z<|aE<|aF<|ak<|al<|V 3 Z<|aE<|bf (bd (bj (bK,wI (G - 1)) _ _ ⟨bL,Z,(a.d [2,1,3] Z Z)⟩ (aL h aO)) Z)
 refine aQ<|au<|au<|have h:=aI h aO;aR<|ak<|R<|V 1 Z<|have hG:=a.pick (os':=[Y p ([H d]++(X.fl f++(e64.fl j++(e8.fl n++[v64 b]))))]++[U e8 E aJ,Y q ([H d]++(X.fl f++(e64.fl j++(e8.fl n++[v64 b]))))]) [1,0,2] (by decide) Z;J h fun c bq h=>aG Z (jr d f j n b bq hG.f (hT.f hG) u x y (hG.giveO 0 Z)) Z ?_
 rintro _ w ⟨rfl,ad,aP,bU,T⟩
 have a:=hG.g T
 refine gl2<|V 1 Z<|gl1<|R<|N (ao (k:=0) u157 Z Z qA Z) Z<|N (aw u22 Z Z (a.r 0 Z (Up.get0 Up.o))) Z<|V 1 Z<|Q ?_
 refine gl9 Z h (fun h=>?_) (fun h=>?_)
 ·refine av<|R<|N (ao (k:=1) u157 Z Z gN Z) Z<|N (fD (us:=X.fl c.2.1) u154 Z kj (bg ad Z) Z (a.bxgs0 0 Z (Up.m (k:=1) Z Up.o Z))) Z<|V 1 Z<|Q<|ar<|ax [(10,.slice none 0 0),(75,.agg (X.fl c.2.1).toArray),(76,H 0)] Z ?_
  refine aT (F.FC d f j n b c) (fun (s:List UInt8×Int) L w=>∃(ae:Value),L=[(10,ae),(75,.agg (X.fl c.2.1).toArray),(76,H s.2)]∧St S C w [U e8 ae s.1,Y q ([H d]++(X.fl f++(e64.fl j++(e8.fl n++[v64 b]))))]) ?_ ([],0) ⟨.slice none 0 0,Z,((a.nil e8).d [0,3] Z Z)⟩ h
  rintro b1 ⟨b2,bM⟩ L w b3 B br h aS
  try dsimp only at B
  obtain ⟨ae,rfl,a⟩:=B
  unfold F.FC at h
  refine R<|V 1 Z<|gl1 ?_
  refine gl9 Z h (fun h=>?_) (fun h=>?_)
  ·exact gl5<|av<|ar<|R<|J h fun o aU h=>N (lN (cs:=(X.fl c.2.1).toArray) u154 u38 Z cA Z Z (aV aU ad) (nX aU Z)) Z<|V 1 Z<|Q<|al<|V 2 Z<|N (aj Z Z (cL _ o 24)) Z<|N (aD Z (fG u38 Tryz.underlying5 (bu o 24))) Z<|V 1 Z<|N (aj Z Z (cL _ o 16)) Z<|N (aD Z (fG u38 Tryz.underlying5 (bu o 16))) Z<|V 1 Z<|N (aj Z Z (cL _ o 8)) Z<|N (aD Z (fG u38 Tryz.underlying5 (bu o 8))) Z<|V 1 Z<|N (aD Z (fG u38 Tryz.underlying5 o)) Z<|bG (cp (e:=e8) (l:=[(bu o 24).toUInt8,(bu o 16).toUInt8,(bu o 8).toUInt8,o.toUInt8]) (vs:=[v8 ((bu o 24).toUInt8),v8 ((bu o 16).toUInt8),v8 ((bu o 8).toUInt8),v8 o.toUInt8]) u24 ti5 Z Z Z Z (by decide) (by decide) a) Z fun b4 w a=>J h fun bN bs h=>bG (dG u24 ti5 Z Z Z a (i:=1) Z (a.ro 0 Z) bs) Z fun bO w a=>V 1 Z<|aE<|aF<|ak<|al<|V 2 Z<|aE<|bf (bd (br (bN,wI (bM+1)) _ _ ⟨bO,Z,(a.d [1,2] Z Z)⟩ (aL h aS)) Z)
  refine aQ<|au<|au<|have h:=aI h aS;aR<|ak<|R<|V 2 Z<|gl8 ?_
  cases h
  exact ay Z Z ⟨ae,Z,u,x,y,a.d [0,1] Z Z⟩
 refine gl5<|av<|R<|N (ao (k:=9) u157 Z Z gv Z) Z<|N (fD (us:=e64.fl c.2.2.1) u143 Z iY (bg aP Z) Z (a.bxgs0 0 Z (Up.m (k:=1) Z (Up.m (k:=8) (bg ad Z) Up.o Z) Z))) Z<|V 1 Z<|Q<|ar<|ax [(3,O p 0),(10,.slice none 0 0),(96,.agg (e64.fl c.2.2.1).toArray),(97,H 0)] Z ?_
 refine aT (F.Ef d f j n b c) (fun (s:List UInt8×Int) L w=>∃(z:Value),L=[(3,O p 0),(10,z),(96,.agg (e64.fl c.2.2.1).toArray),(97,H s.2)]∧St S C w [U e8 z s.1,Y p ([H c.1]++(X.fl c.2.1++(e64.fl c.2.2.1++(e8.fl c.2.2.2.1++[v64 c.2.2.2.2])))),Y q ([H d]++(X.fl f++(e64.fl j++(e8.fl n++[v64 b]))))]) ?_ ([],0) ⟨.slice none 0 0,Z,((a.nil e8).d [0,1,3] Z Z)⟩ h
 rintro b5 ⟨a4,ah⟩ L w b6 B bt h aW
 try dsimp only at B
 obtain ⟨z,rfl,a⟩:=B
 unfold F.Ef at h
 refine R<|V 1 Z<|gl1 ?_
 refine gl9 Z h (fun h=>?_) (fun h=>?_)
 ·refine gl5<|av<|ar<|R<|J h fun A aY h=>N (lN (cs:=(e64.fl c.2.2.1).toArray) u143 u119 Z cb Z Z (aV aY aP) (nX aY Z)) Z<|V 1 Z<|gl2<|V 1 Z<|Q<|ar<|ax [(3,O p 0),(10,z),(14,v64 A),(15,H 56),(96,.agg (e64.fl c.2.2.1).toArray),(97,H ah)] Z ?_
  refine aT (F.Gx ah A) (fun (s:List UInt8×Int) L w=>∃(am:Value),L=[(3,O p 0),(10,am),(14,v64 A),(15,H s.2),(96,.agg (e64.fl c.2.2.1).toArray),(97,H ah)]∧St S C w [U e8 am s.1,Y p ([H c.1]++(X.fl c.2.1++(e64.fl c.2.2.1++(e8.fl c.2.2.2.1++[v64 c.2.2.2.2])))),Y q ([H d]++(X.fl f++(e64.fl j++(e8.fl n++[v64 b]))))]) ?_ (a4,56) ⟨z,Z,a⟩ h
  rintro b7 ⟨bP,ab⟩ L w b8 B bv h a0
  try dsimp only at B
  obtain ⟨am,rfl,a⟩:=B
  unfold F.Gx at h
  refine av<|R<|V 2 Z<|Q ?_
  refine gl9 Z h (fun h=>?_) (fun h=>?_)
  ·exact gl5<|av<|ar<|al<|V 3 Z<|da h fun bw h=>N (aj Z Z (mW _ A ab bw)) Z<|N (aD Z (kY u119 Tryz.underlying5 (aM A ((ab).toNat)))) Z<|bG (cp (e:=e8) (l:=[(aM A ((ab).toNat)).toUInt8]) (vs:=[v8 ((aM A ((ab).toNat)).toUInt8)]) u24 ti5 Z Z Z Z (by decide) (by decide) a) Z fun b9 w a=>J h fun bQ bz h=>bG (dG u24 ti5 Z Z Z a (i:=1) Z (a.ro 0 Z) bz) Z fun bS w a=>V 1 Z<|aE<|aF<|ak<|al<|V 3 Z<|aE<|bf (bd (bv (bQ,wI (ab - 8)) _ _ ⟨bS,Z,(a.d [1,2,3] Z Z)⟩ (aL h a0)) Z)
  exact aQ<|au<|au<|have h:=aI h a0;aR<|aF<|ak<|al<|V 2 Z<|aE<|bf (bd (bt (bP,wI (ah+1)) _ _ ⟨am,Z,a⟩ (aL h aW)) Z)
 refine aQ<|au<|au<|have h:=aI h aW;aR<|ak<|av<|aX (fun w'=>St S C w' [U e8 z a4,Y p ([H c.1]++(X.fl c.2.1++(e64.fl c.2.2.1++(e8.fl c.2.2.2.1++[v64 c.2.2.2.2])))),Y q ([H d]++(X.fl f++(e64.fl j++(e8.fl n++[v64 b]))))]) (fun i=>!([3,6].contains i)) bR (fun _ _ _ hf=>hf.2) (fun _ _ hf=>hf) (by kernel_rfl)<|have a:=a.drew;show lxE _ _ _ _ _ _ _ [0,1,2,3,4,5,6,7,8] _ _ from an 1 Z a<|ai a Z Z (fun w D=>ao (k:=0) u157 Z Z qA Z) Z<|ai a Z Z (fun w D=>aw u22 Z Z (D.r 1 Z (Up.get0 Up.o))) Z<|J h fun a5 bA h=>bb a Z Z (by kernel_rfl) Z (lG c.1 bA ) Z ?_
 rintro _ w ⟨rfl,T⟩
 have a:=a.e T
 refine ai a Z Z (fun w D=>ao (k:=0) u157 Z Z qA Z) Z<|ai a Z Z (fun w D=>aw u22 Z Z (D.r 1 Z (Up.get0 Up.o))) Z<|J h fun ca bC h=>bb a Z Z (by kernel_rfl) Z (lG c.1 bC ) Z ?_
 rintro _ w ⟨rfl,T⟩
 have a:=a.e T
 refine da h fun a1 h=>ai a Z Z (fun w D=>s9 u24 ti5 Z Z Z (D.ro 0 Z) a1) Z<|an 1 Z a<|bn a<|ak<|az ?_
 cases h
 replace a:=a.trunc3 (i:=0) rfl a1.2.1
 exact ay Z Z ⟨slV3 z e8.sz 0 ((a5:Int).toNat) ((a5:Int).toNat),Z,u,x,y,a.d [0,2] Z Z⟩
theorem xW {q:World} {a1:List (List UInt8)} {n:Value} {s1:List SV} (a0:Int) {r:List UInt8}
  (h:F.Gd a0 a1=some r) (hT:TB [] q) (A:RP [] q eV n s1) (hl1:gL [] q e8 s1 a1):Calls Tryz.prog 58 #[H a0,n] q (Ret fun v w=>St [] q w [U e8 v r]):=by
 refine aB 24 Tryz.func58 Z Z Z<|have a:=St.k q;ax [(0,H a0),(1,n)] Z ?_
 unfold F.Gd at h
 refine R<|V 1 Z<|gl2<|V 1 Z<|J h fun ao ae h=>aG Z (x5 a0 ae (hT.b a.fr)) Z ?_
 rintro _ w ⟨aO,rfl,c,ah,b⟩
 cases d:ao with
 | none=>
  have h:=jC h d
  rw [d]at c b
  simp only [Option.map_none,zp]at c
  subst c
  simp only [Option.map_none,zn,List.nil_append]at b
  have a:=a.e b
  refine V 1 Z<|gl1<|R<|V 1 Z<|N (aj Z Z (te Tryz.underlying128)) Z<|Q<|fK Z<|R<|V 1 Z<|gl8 ?_
  cases h
  exact ay Z Z ((a.nil e8).d [0] Z Z)
 | some f=>
  have h:=jK h d
  rw [d]at c b
  simp only [Option.map_some,zp]at c
  obtain ⟨g,rfl⟩:=c
  simp only [Option.map_some,zn,List.singleton_append,List.cons_append,List.nil_append]at b
  have a:=a.e b
  obtain ⟨ai,am,C⟩:=ah f d
  refine V 1 Z<|gl1<|R<|V 1 Z<|N (aj Z Z (sn Tryz.underlying128 g 0)) Z<|Q<|g9 Z<|gl5<|av<|R<|V 1 Z<|N (rA u127 Z (A.b a.fr) hl1.len) Z<|V 1 Z<|Q<|ar<|ax [(5,O g 0),(12,n),(13,H (a1.length:Int)),(14,H 0)] Z ?_
  refine aT (F.Ey a1) (fun (s:Int×Int×List UInt32×List UInt64×List UInt8×UInt64) L w=>L=[(5,O g 0),(12,n),(13,H (a1.length:Int)),(14,H s.1)]∧s.2.2.1.length=8∧s.2.2.2.1.length=8∧s.2.2.2.2.1.length=128∧St [] q w [Y g ([H s.2.1]++(X.fl s.2.2.1++(e64.fl s.2.2.2.1++(e8.fl s.2.2.2.2.1++[v64 s.2.2.2.2.2]))))]) ?_ (0,f.1,f.2.1,f.2.2.1,f.2.2.2.1,f.2.2.2.2) ⟨Z,ai,am,C,a⟩ h
  rintro aH ⟨an,i,j,k,l,m⟩ L w aJ hI D h t
  try dsimp only at hI
  obtain ⟨rfl,u,x,y,a⟩:=hI
  unfold F.Ey at h
  refine R<|V 1 Z<|gl1 ?_
  refine gl9 Z h (fun h=>?_) (fun h=>?_)
  ·refine gl5<|av<|ar<|R<|J h fun aK E h=>?_
   obtain ⟨aq,o,z⟩:=hl1.get E
   refine N (bk u127 BK Z Z (A.b a.fr) o) Z<|N (a8 u24 Z Z (A.b a.fr) o Z) Z<|V 1 Z<|Q<|al<|V 2 Z<|have p:=a.pick (os':=[Y g ([H i]++(X.fl j++(e64.fl k++(e8.fl l++[v64 m]))))]++[]) [0] (by decide) Z;J h fun e G h=>aG Z (jr i j k l m G p.f (hT.f p) u x y (z.f (W Z) p)) Z ?_
   rintro _ w ⟨rfl,S,T,ab,b⟩
   have a:=p.g b
   exact aE<|aF<|ak<|al<|V 2 Z<|aE<|bf (bd (D (wI (an+1),e.1,e.2.1,e.2.2.1,e.2.2.2.1,e.2.2.2.2) _ _ ⟨Z,S,T,ab,a⟩ (aL h t)) Z)
  refine aQ<|au<|au<|have h:=aI h t;aR<|ak<|R<|V 1 Z<|have p:=a.pick (os':=[Y g ([H i]++(X.fl j++(e64.fl k++(e8.fl l++[v64 m]))))]++[]) [0] (by decide) Z;J h fun aM ac h=>aG Z (oX i j k l m ac p.f (hT.f p) u x y) Z ?_
  rintro aN w ⟨aw,B,aA,aC,aD,b⟩
  rw [←B]at b
  have a:=p.g b
  refine V 1 Z<|Q<|az ?_
  cases h
  exact ay Z Z (a.d [0] Z Z)
end Go.Proofs
