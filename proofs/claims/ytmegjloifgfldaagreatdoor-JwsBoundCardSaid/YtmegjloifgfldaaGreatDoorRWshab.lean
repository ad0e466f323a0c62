import Derived.Test.YtmegjloifgfldaaGreatDoorRW0
import Derived.Test.YtmegjloifgfldaaGreatDoorGkFman
import Derived.Test.YtmegjloifgfldaaGreatDoorRWshaa
set_option linter.unusedVariables false
set_option linter.unusedSimpArgs false
set_option linter.unusedSectionVars false
set_option maxRecDepth 4000
namespace Go.Proofs
open Go Go.RowKit Go.Gk
open Go.Gk renaming aa -> V, af -> M, ag -> O, ai -> J, e32 -> X, gl3 -> Q, gl4 -> R, own -> U, pB -> P, vI -> H
open Nat renaming le_of_ble_eq_true -> W
open Go.Gk.OE renaming bx -> Y
theorem qm {C:World} {q:Nat} {S:Q2} (d:Int) (f:Q0) (j:List UInt64) (n:Q1) (b:UInt64) {r:Q1×Int×Q0×List UInt64×Q1×UInt64}
  (h:F.Lz d f j n b=some r) (a:St S C C [Y q ([H d]++(X.fl f++(e64.fl j++(e8.fl n++[v64 b]))))]) (hT:TB S C) (u:f.length=8) (x:j.length=8) (y:n.length=128):Calls Tryz.prog 75 #[P q 0] C (Ret fun v w=>∃u0:Value,v=u0/\r.2.2.1.length=8/\r.2.2.2.1.length=8/\r.2.2.2.2.1.length=128/\St S C w [U e8 u0 r.1,Y q ([H r.2.1]++(X.fl r.2.2.1++(e64.fl r.2.2.2.1++(e8.fl r.2.2.2.2.1++[v64 r.2.2.2.2.2]))))]):=by
 refine ax 120 Tryz.func75 Z Z Z<|ay [(0,P q 0)] Z ?_
 unfold F.Lz at h
 refine R<|V 1 Z<|gl2<|V 1 Z<|O (aL Z) Z<|O (fv (us:=[H d]++(X.fl f++(e64.fl j++(e8.fl n++[v64 b])))) u169 Z Dl (fC Z (fC (bk u Z) (fC (bk x Z) (fC (bk y Z) Z Z) Z) Z) Z) Z (a.bxgs0 0 Z Up.last)) Z<|bl (bf (cs:=[H 0]++(X.fl (List.replicate 8 0)++(e64.fl (List.replicate 8 0)++(e8.fl (List.replicate 128 0)++[v64 0])))) FS (by kernel_rfl) a) Z fun p w a=>bo (fV (m:=146) (xs:=[H 0]++(X.fl (List.replicate 8 0)++(e64.fl (List.replicate 8 0)++(e8.fl (List.replicate 128 0)++[v64 0])))) (xs':=[H d]++(X.fl f++(e64.fl j++(e8.fl n++[v64 b])))) (i:=0) Z Dl Z Z Z Up.last (fC Z (fC (bk List.length_replicate Z) (fC (bk List.length_replicate Z) (fC (bk List.length_replicate Z) Z Z) Z) Z) Z) (fC Z (fC (bk u Z) (fC (bk x Z) (fC (bk y Z) Z Z) Z) Z) Z) (oS (gL Z) (oS lZ (oS lZ (oS lZ (gL Z))))) a) fun w a=>gl1<|aQ (fun w'=>St S C w' [Y p ([H d]++(X.fl f++(e64.fl j++(e8.fl n++[v64 b])))),Y q ([H d]++(X.fl f++(e64.fl j++(e8.fl n++[v64 b]))))]) (fun i=>!([2].contains i)) bL (fun _ _ _ hf=>hf.2) (fun _ _ hf=>hf) (by kernel_rfl)<|have a:=a.drew;?_
 show lxE _ _ _ _ _ _ _ [0,1,2,3,4,5,6] _ _
 refine J a Z Z (fun w D=>ak (k:=0) u169 Z Z sh Z) Z<|J a Z Z (fun w D=>ao u31 Z Z (D.r 0 Z (Up.get0 Up.o))) Z<|M h fun t bF h=>aY a Z Z (by kernel_rfl) Z (fJ d bF ) Z ?_
 rintro _ w ⟨rfl,T⟩
 have a:=a.e T
 refine J a Z Z (fun w D=>ak (k:=145) u169 Z Z tQ Z) Z<|J a Z Z (fun w D=>ao u103 Z Z (D.r 0 Z (Up.get0 (Up.m (k:=1) Z (Up.m (k:=8) (bk u Z) (Up.m (k:=8) (bk x Z) (Up.m (k:=128) (bk y Z) Up.last Z) Z) Z) Z)))) Z<|an 2 Z a<|a9 a<|al<|R<|V 1 Z<|O (aj Z Z (dM _ t 8 (by decide))) Z<|V 1 Z<|gl2<|bm (bJ (e:=e8) (l:=[128]) (vs:=[v8 128]) u25 ti5 Z Z Z Z (by decide) (by decide) a) Z fun bD w a=>V 1 Z<|gl1<|av<|ay [(3,P p 0),(4,H t),(5,v64 b),(6,H (wI (Int.tdiv t 8))),(7,bD)] Z ?_
 refine bg (F.Kg b t d f j n) (fun (s:Q1) L w=>∃(aq:Value),L=[(3,P p 0),(4,H t),(5,v64 b),(6,H (wI (Int.tdiv t 8))),(7,aq)]/\St S C w [U e8 aq s,Y p ([H d]++(X.fl f++(e64.fl j++(e8.fl n++[v64 b])))),Y q ([H d]++(X.fl f++(e64.fl j++(e8.fl n++[v64 b]))))]) ?_ [128] ⟨bD,Z,a⟩ h
 rintro bX bE L w bY B a4 h aJ
 try dsimp only at B
 obtain⟨aq,rfl,a⟩:=B
 unfold F.Kg at h
 refine az<|R<|V 2 Z<|O (aG Z (fx u3 u103 t)) Z<|dh h fun a5 h=>O (aj Z Z (ft _ b (UInt64.ofInt t) a5)) Z<|O (aG Z (oI u103 u3 (b%(UInt64.ofInt t)))) Z<|V 1 Z<|O (aD u25 Z (a.ro 0 Z)) Z<|V 2 Z<|dh h fun a6 h=>O (aj Z Z (jP _ (wI ((wI ((b%(UInt64.ofInt t)).toNat:Int))+(bE.length:Int))) t a6)) Z<|V 4 Z<|Q ?_
 apply gl9 Z h<;>intro h
 ·exact gl5<|av<|am<|V 1 Z<|bm (bJ (e:=e8) (l:=[0]) (vs:=[v8 0]) u25 ti5 Z Z Z Z (by decide) (by decide) a) Z fun bZ w a=>M h fun bG ba h=>bm (dT u25 ti5 Z Z Z a (i:=1) Z (a.ro 0 Z) ba) Z fun bH w a=>V 1 Z<|aE<|aF<|bn (br (a4 bG _ _ ⟨bH,Z,(a.d [1,2,3] Z Z)⟩ (aX h aJ)) Z)
 refine a7<|aB<|aB<|have h:=aS h aJ;a8<|al<|az<|R<|V 2 Z<|bd h fun aC bb h=>O (bc (v:=H aC) (by rw[<-bb]; rfl)) Z<|Q<|av<|ay [(3,P p 0),(5,v64 b),(7,aq),(8,H aC)] Z ?_
 refine bg (F.HV d f j n b) (fun (s:Q1×Int) L w=>∃(E:Value),L=[(3,P p 0),(5,v64 b),(7,E),(8,H s.2)]/\St S C w [U e8 E s.1,Y p ([H d]++(X.fl f++(e64.fl j++(e8.fl n++[v64 b])))),Y q ([H d]++(X.fl f++(e64.fl j++(e8.fl n++[v64 b]))))]) ?_ (bE,aC) ⟨aq,Z,a⟩ h
 rintro b0 ⟨aI,G⟩ L w bI B be h aM
 try dsimp only at B
 obtain⟨E,rfl,a⟩:=B
 unfold F.HV at h
 refine az<|R<|V 2 Z<|Q ?_
 apply gl9 Z h<;>intro h
 ·refine gl5<|az<|av<|R<|V 1 Z<|Q ?_
  refine aT (r:=bI) (fun (g:UInt8) L w=>L=[(3,P p 0),(5,v64 b),(7,E),(8,H G),(9,v8 g)]/\St S C w [Y p ([H d]++(X.fl f++(e64.fl j++(e8.fl n++[v64 b])))),U e8 E aI,Y q ([H d]++(X.fl f++(e64.fl j++(e8.fl n++[v64 b]))))]) (F.IA aI G) ?_ ?_
  rotate_left
  ·intro ac
   refine av<|R<|V 3 Z<|Q ?_
   apply gl9 Z h<;>intro h
   ·exact am<|V 1 Z<|O (aj Z Z (cr _ b 3)) Z<|V 1 Z<|O (aj Z Z (dV _ 8 G)) Z<|dh h fun bh h=>O (aj Z Z (nZ _ (aH b 3) (wI (8*G)) bh)) Z<|O (aG Z (iO u103 Tryz.underlying5 (aP (aH b 3) (((wI (8*G))).toNat)))) Z<|bd h fun a0 bi h=>O (bc (v:=v8 a0) (by rw[<-bi]; rfl)) Z<|aE<|aF<|al<|aA (ac a0 _ _ ⟨Z,(a.d [1,0,2] Z Z)⟩ h) Z
   refine R<|V 3 Z<|Q ?_
   apply gl9 Z h<;>intro h
   ·exact am<|V 1 Z<|O (aj Z Z (cc _ b 61)) Z<|O (aG Z (iO u103 Tryz.underlying5 (aP b 61))) Z<|V 1 Z<|aE<|aF<|al<|aA (ac ((aP b 61).toUInt8) _ _ ⟨Z,(a.d [1,0,2] Z Z)⟩ h) Z
   exact cg<|aF<|al<|aA (ac 0 _ _ ⟨Z,(a.d [1,0,2] Z Z)⟩ h) Z
  rintro a1 L w hJ h
  try dsimp only at hJ
  obtain⟨rfl,a⟩:=hJ
  unfold F.IA at h
  exact am<|V 2 Z<|bm (bJ (e:=e8) (l:=[a1]) (vs:=[v8 a1]) u25 ti5 Z Z Z Z (by decide) (by decide) a) Z fun b1 w a=>M h fun bK bj h=>bm (dT u25 ti5 Z Z Z a (i:=2) Z (a.ro 0 Z) bj) Z fun bM w a=>V 1 Z<|aE<|aF<|al<|am<|V 3 Z<|aE<|bn (br (be (bK,wI (G - 1)) _ _ ⟨bM,Z,(a.d [2,1,3] Z Z)⟩ (aX h aM)) Z)
 refine a7<|aB<|aB<|have h:=aS h aM;a8<|al<|R<|V 1 Z<|have hG:=a.pick (os':=[Y p ([H d]++(X.fl f++(e64.fl j++(e8.fl n++[v64 b]))))]++[U e8 E aI,Y q ([H d]++(X.fl f++(e64.fl j++(e8.fl n++[v64 b]))))]) [1,0,2] (by decide) Z;M h fun c bq h=>aK Z (ka d f j n b bq hG.f (hT.f hG) u x y (hG.giveO 0 Z)) Z ?_
 rintro _ w ⟨rfl,ad,aN,bV,T⟩
 have a:=hG.g T
 refine gl2<|V 1 Z<|gl1<|R<|O (ak (k:=0) u169 Z Z sh Z) Z<|O (ao u31 Z Z (a.r 0 Z (Up.get0 Up.o))) Z<|V 1 Z<|Q ?_
 apply gl9 Z h<;>intro h
 ·refine az<|R<|O (ak (k:=1) u169 Z Z iq Z) Z<|O (fv (us:=X.fl c.2.1) u150 Z iT (bk ad Z) Z (a.bxgs0 0 Z (Up.m (k:=1) Z Up.o Z))) Z<|V 1 Z<|Q<|av<|ay [(10,.slice none 0 0),(75,.agg (X.fl c.2.1).toArray),(76,H 0)] Z ?_
  refine bg (F.Jb d f j n b c) (fun (s:Q1×Int) L w=>∃(ae:Value),L=[(10,ae),(75,.agg (X.fl c.2.1).toArray),(76,H s.2)]/\St S C w [U e8 ae s.1,Y q ([H d]++(X.fl f++(e64.fl j++(e8.fl n++[v64 b]))))]) ?_ ([],0) ⟨Q3,Z,((a.nil e8).d [0,3] Z Z)⟩ h
  rintro b2 ⟨b3,bN⟩ L w b4 B bs h aO
  try dsimp only at B
  obtain⟨ae,rfl,a⟩:=B
  unfold F.Jb at h
  refine R<|V 1 Z<|gl1 ?_
  apply gl9 Z h<;>intro h
  ·exact gl5<|az<|av<|R<|M h fun o aR h=>O (mN (cs:=(X.fl c.2.1).toArray) u150 u106 Z dW Z Z (bT aR ad) (o7 aR Z)) Z<|V 1 Z<|Q<|am<|V 2 Z<|O (aj Z Z (di _ o 24)) Z<|O (aG Z (fW u106 Tryz.underlying5 (bu o 24))) Z<|V 1 Z<|O (aj Z Z (di _ o 16)) Z<|O (aG Z (fW u106 Tryz.underlying5 (bu o 16))) Z<|V 1 Z<|O (aj Z Z (di _ o 8)) Z<|O (aG Z (fW u106 Tryz.underlying5 (bu o 8))) Z<|V 1 Z<|O (aG Z (fW u106 Tryz.underlying5 o)) Z<|bm (bJ (e:=e8) (l:=[(bu o 24).toUInt8,(bu o 16).toUInt8,(bu o 8).toUInt8,o.toUInt8]) (vs:=[v8 ((bu o 24).toUInt8),v8 ((bu o 16).toUInt8),v8 ((bu o 8).toUInt8),v8 o.toUInt8]) u25 ti5 Z Z Z Z (by decide) (by decide) a) Z fun b5 w a=>M h fun bO bt h=>bm (dT u25 ti5 Z Z Z a (i:=1) Z (a.ro 0 Z) bt) Z fun bP w a=>V 1 Z<|aE<|aF<|al<|am<|V 2 Z<|aE<|bn (br (bs (bO,wI (bN+1)) _ _ ⟨bP,Z,(a.d [1,2] Z Z)⟩ (aX h aO)) Z)
  refine a7<|aB<|aB<|have h:=aS h aO;a8<|al<|R<|V 2 Z<|gl8 ?_
  cases h
  exact au Z Z ⟨ae,Z,u,x,y,a.d [0,1] Z Z⟩
 refine gl5<|az<|R<|O (ak (k:=9) u169 Z Z g8 Z) Z<|O (fv (us:=e64.fl c.2.2.1) u166 Z qi (bk aN Z) Z (a.bxgs0 0 Z (Up.m (k:=1) Z (Up.m (k:=8) (bk ad Z) Up.o Z) Z))) Z<|V 1 Z<|Q<|av<|ay [(3,P p 0),(10,.slice none 0 0),(96,.agg (e64.fl c.2.2.1).toArray),(97,H 0)] Z ?_
 refine bg (F.HY d f j n b c) (fun (s:Q1×Int) L w=>∃(z:Value),L=[(3,P p 0),(10,z),(96,.agg (e64.fl c.2.2.1).toArray),(97,H s.2)]/\St S C w [U e8 z s.1,Y p ([H c.1]++(X.fl c.2.1++(e64.fl c.2.2.1++(e8.fl c.2.2.2.1++[v64 c.2.2.2.2])))),Y q ([H d]++(X.fl f++(e64.fl j++(e8.fl n++[v64 b]))))]) ?_ ([],0) ⟨Q3,Z,((a.nil e8).d [0,1,3] Z Z)⟩ h
 rintro b6 ⟨a2,ah⟩ L w b7 B bv h aU
 try dsimp only at B
 obtain⟨z,rfl,a⟩:=B
 unfold F.HY at h
 refine R<|V 1 Z<|gl1 ?_
 apply gl9 Z h<;>intro h
 ·refine gl5<|az<|av<|R<|M h fun A aV h=>O (mN (cs:=(e64.fl c.2.2.1).toArray) u166 u103 Z dR Z Z (bT aV aN) (o7 aV Z)) Z<|V 1 Z<|gl2<|V 1 Z<|Q<|av<|ay [(3,P p 0),(10,z),(14,v64 A),(15,H 56),(96,.agg (e64.fl c.2.2.1).toArray),(97,H ah)] Z ?_
  refine bg (F.J4 ah A) (fun (s:Q1×Int) L w=>∃(ap:Value),L=[(3,P p 0),(10,ap),(14,v64 A),(15,H s.2),(96,.agg (e64.fl c.2.2.1).toArray),(97,H ah)]/\St S C w [U e8 ap s.1,Y p ([H c.1]++(X.fl c.2.1++(e64.fl c.2.2.1++(e8.fl c.2.2.2.1++[v64 c.2.2.2.2])))),Y q ([H d]++(X.fl f++(e64.fl j++(e8.fl n++[v64 b]))))]) ?_ (a2,56) ⟨z,Z,a⟩ h
  rintro b8 ⟨bQ,ab⟩ L w b9 B bw h aW
  try dsimp only at B
  obtain⟨ap,rfl,a⟩:=B
  unfold F.J4 at h
  refine az<|R<|V 2 Z<|Q ?_
  apply gl9 Z h<;>intro h
  ·exact gl5<|az<|av<|am<|V 3 Z<|dh h fun bz h=>O (aj Z Z (nZ _ A ab bz)) Z<|O (aG Z (iO u103 Tryz.underlying5 (aP A ((ab).toNat)))) Z<|bm (bJ (e:=e8) (l:=[(aP A ((ab).toNat)).toUInt8]) (vs:=[v8 ((aP A ((ab).toNat)).toUInt8)]) u25 ti5 Z Z Z Z (by decide) (by decide) a) Z fun ca w a=>M h fun bR bA h=>bm (dT u25 ti5 Z Z Z a (i:=1) Z (a.ro 0 Z) bA) Z fun bS w a=>V 1 Z<|aE<|aF<|al<|am<|V 3 Z<|aE<|bn (br (bw (bR,wI (ab - 8)) _ _ ⟨bS,Z,(a.d [1,2,3] Z Z)⟩ (aX h aW)) Z)
  exact a7<|aB<|aB<|have h:=aS h aW;a8<|aF<|al<|am<|V 2 Z<|aE<|bn (br (bv (bQ,wI (ah+1)) _ _ ⟨ap,Z,a⟩ (aX h aU)) Z)
 refine a7<|aB<|aB<|have h:=aS h aU;a8<|al<|az<|aQ (fun w'=>St S C w' [U e8 z a2,Y p ([H c.1]++(X.fl c.2.1++(e64.fl c.2.2.1++(e8.fl c.2.2.2.1++[v64 c.2.2.2.2])))),Y q ([H d]++(X.fl f++(e64.fl j++(e8.fl n++[v64 b]))))]) (fun i=>!([3,6].contains i)) bL (fun _ _ _ hf=>hf.2) (fun _ _ hf=>hf) (by kernel_rfl)<|have a:=a.drew;show lxE _ _ _ _ _ _ _ [0,1,2,3,4,5,6,7,8] _ _ from an 1 Z a<|J a Z Z (fun w D=>ak (k:=0) u169 Z Z sh Z) Z<|J a Z Z (fun w D=>ao u31 Z Z (D.r 1 Z (Up.get0 Up.o))) Z<|M h fun a3 bB h=>aY a Z Z (by kernel_rfl) Z (eJ c.1 bB ) Z ?_
 rintro _ w ⟨rfl,T⟩
 have a:=a.e T
 refine J a Z Z (fun w D=>ak (k:=0) u169 Z Z sh Z) Z<|J a Z Z (fun w D=>ao u31 Z Z (D.r 1 Z (Up.get0 Up.o))) Z<|M h fun cb bC h=>aY a Z Z (by kernel_rfl) Z (eJ c.1 bC ) Z ?_
 rintro _ w ⟨rfl,T⟩
 have a:=a.e T
 refine dh h fun aZ h=>J a Z Z (fun w D=>vr u25 ti5 Z Z Z (D.ro 0 Z) aZ) Z<|an 1 Z a<|a9 a<|al<|ar ?_
 cases h
 replace a:=a.trunc3 (i:=0) rfl aZ.2.1
 exact au Z Z ⟨slV3 z e8.sz 0 ((a3:Int).toNat) ((a3:Int).toNat),Z,u,x,y,a.d [0,2] Z Z⟩
theorem fG {q:World} {a1:List Q1} {n:Value} {s1:List SV} (a0:Int) {r:Q1}
  (h:F.GO a0 a1=some r) (hT:TB [] q) (A:RP [] q eV n s1) (hl1:ip [] q e8 s1 a1):Calls Tryz.prog 33 #[H a0,n] q (Ret fun v w=>St [] q w [U e8 v r]):=by
 refine ax 24 Tryz.func33 Z Z Z<|have a:=St.k q;ay [(0,H a0),(1,n)] Z ?_
 unfold F.GO at h
 refine R<|V 1 Z<|gl2<|V 1 Z<|M h fun ao ae h=>aK Z (AX a0 ae (hT.b a.fr)) Z ?_
 rintro _ w ⟨aM,rfl,c,ah,b⟩
 cases d:ao with
 | none=>
  have h:=kn h d
  rw[d]at c b
  simp only[Option.map_none,Ct]at c
  subst c
  simp only[Option.map_none,Cr,List.nil_append]at b
  have a:=a.e b
  refine V 1 Z<|gl1<|R<|V 1 Z<|O (aj Z Z (vC Tryz.underlying118)) Z<|Q<|c8 Z<|R<|V 1 Z<|gl8 ?_
  cases h
  exact au Z Z ((a.nil e8).d [0] Z Z)
 | some f=>
  have h:=ku h d
  rw[d]at c b
  simp only[Option.map_some,Ct]at c
  obtain⟨g,rfl⟩:=c
  simp only[Option.map_some,Cr,List.singleton_append,List.cons_append,List.nil_append]at b
  have a:=a.e b
  obtain⟨J,ak,C⟩:=ah f d
  refine V 1 Z<|gl1<|R<|V 1 Z<|O (aj Z Z (uI Tryz.underlying118 g 0)) Z<|Q<|eL Z<|gl5<|az<|R<|V 1 Z<|O (tM u117 Z (A.b a.fr) hl1.len) Z<|V 1 Z<|Q<|av<|ay [(5,P g 0),(12,n),(13,H (a1.length:Int)),(14,H 0)] Z ?_
  refine bg (F.Ia a1) (fun (s:Int×Int×Q0×List UInt64×Q1×UInt64) L w=>L=[(5,P g 0),(12,n),(13,H (a1.length:Int)),(14,H s.1)]/\s.2.2.1.length=8/\s.2.2.2.1.length=8/\s.2.2.2.2.1.length=128/\St [] q w [Y g ([H s.2.1]++(X.fl s.2.2.1++(e64.fl s.2.2.2.1++(e8.fl s.2.2.2.2.1++[v64 s.2.2.2.2.2]))))]) ?_ (0,f.1,f.2.1,f.2.2.1,f.2.2.2.1,f.2.2.2.2) ⟨Z,J,ak,C,a⟩ h
  rintro aG ⟨an,i,j,k,l,m⟩ L w aH hI D h t
  try dsimp only at hI
  obtain⟨rfl,u,x,y,a⟩:=hI
  unfold F.Ia at h
  refine R<|V 1 Z<|gl1 ?_
  apply gl9 Z h<;>intro h
  ·refine gl5<|az<|av<|R<|M h fun aI E h=>?_
   obtain⟨aq,o,z⟩:=hl1.get E
   refine O (bh u117 iC Z Z (A.b a.fr) o) Z<|O (aW u25 Z Z (A.b a.fr) o Z) Z<|V 1 Z<|Q<|am<|V 2 Z<|have p:=a.pick (os':=[Y g ([H i]++(X.fl j++(e64.fl k++(e8.fl l++[v64 m]))))]++[]) [0] (by decide) Z;M h fun e G h=>aK Z (ka i j k l m G p.f (hT.f p) u x y (z.f (W Z) p)) Z ?_
   rintro _ w ⟨rfl,S,T,ab,b⟩
   have a:=p.g b
   exact aE<|aF<|al<|am<|V 2 Z<|aE<|bn (br (D (wI (an+1),e.1,e.2.1,e.2.2.1,e.2.2.2.1,e.2.2.2.2) _ _ ⟨Z,S,T,ab,a⟩ (aX h t)) Z)
  refine a7<|aB<|aB<|have h:=aS h t;a8<|al<|R<|V 1 Z<|have p:=a.pick (os':=[Y g ([H i]++(X.fl j++(e64.fl k++(e8.fl l++[v64 m]))))]++[]) [0] (by decide) Z;M h fun aJ ac h=>aK Z (qm i j k l m ac p.f (hT.f p) u x y) Z ?_
  rintro aL w ⟨aw,B,aA,aC,aD,b⟩
  rw[<-B]at b
  have a:=p.g b
  refine V 1 Z<|Q<|ar ?_
  cases h
  exact au Z Z (a.d [0] Z Z)
end Go.Proofs
