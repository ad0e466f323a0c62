import Derived.Test.YtmegjloifgfldaaGreatDoorRW0
import Derived.Test.YtmegjloifgfldaaGreatDoorGkFman
import Derived.Test.YtmegjloifgfldaaGreatDoorRWshaa
set_option linter.unusedVariables false
set_option linter.unusedSimpArgs false
set_option linter.unusedSectionVars false
set_option maxRecDepth 4000
namespace Go.Proofs
open Go Go.RowKit Go.Gk
open Go.Gk renaming aa -> V, af -> M, ag -> O, ai -> J, e32 -> X, gl3 -> Q, gl4 -> R, own -> U, pB -> P, vI -> H
open Nat renaming le_of_ble_eq_true -> W
open Go.Gk.OE renaming bx -> Y
theorem qj {C:World} {q:Nat} {S:Q2} (d:Int) (f:Q0) (j:List UInt64) (n:Q1) (b:UInt64) {r:Q1×Int×Q0×List UInt64×Q1×UInt64}
  (h:F.Lp d f j n b=some r) (a:St S C C [Y q ([H d]++(X.fl f++(e64.fl j++(e8.fl n++[v64 b]))))]) (hT:TB S C) (u:f.length=8) (x:j.length=8) (y:n.length=128):Calls Tryz.prog 75 #[P q 0] C (Ret fun v w=>∃u0:Value,v=u0/\r.2.2.1.length=8/\r.2.2.2.1.length=8/\r.2.2.2.2.1.length=128/\St S C w [U e8 u0 r.1,Y q ([H r.2.1]++(X.fl r.2.2.1++(e64.fl r.2.2.2.1++(e8.fl r.2.2.2.2.1++[v64 r.2.2.2.2.2]))))]):=by
 refine ay 120 Tryz.func75 Z Z Z<|ax [(0,P q 0)] Z ?_
 unfold F.Lp at h
 refine R<|V 1 Z<|gl2<|V 1 Z<|O (aK Z) Z<|O (ft (us:=[H d]++(X.fl f++(e64.fl j++(e8.fl n++[v64 b])))) u169 Z De (fx Z (fx (bk u Z) (fx (bk x Z) (fx (bk y Z) Z Z) Z) Z) Z) Z (a.bxgs0 0 Z Up.last)) Z<|bl (bc (cs:=[H 0]++(X.fl (List.replicate 8 0)++(e64.fl (List.replicate 8 0)++(e8.fl (List.replicate 128 0)++[v64 0])))) FL (by kernel_rfl) a) Z fun p w a=>bm (fS (m:=146) (xs:=[H 0]++(X.fl (List.replicate 8 0)++(e64.fl (List.replicate 8 0)++(e8.fl (List.replicate 128 0)++[v64 0])))) (xs':=[H d]++(X.fl f++(e64.fl j++(e8.fl n++[v64 b])))) (i:=0) Z De Z Z Z Up.last (fx Z (fx (bk List.length_replicate Z) (fx (bk List.length_replicate Z) (fx (bk List.length_replicate Z) Z Z) Z) Z) Z) (fx Z (fx (bk u Z) (fx (bk x Z) (fx (bk y Z) Z Z) Z) Z) Z) (oO (gI Z) (oO lT (oO lT (oO lT (gI Z))))) a) fun w a=>gl1<|aQ (fun w'=>St S C w' [Y p ([H d]++(X.fl f++(e64.fl j++(e8.fl n++[v64 b])))),Y q ([H d]++(X.fl f++(e64.fl j++(e8.fl n++[v64 b]))))]) (fun i=>!([2].contains i)) bK (fun _ _ _ hf=>hf.2) (fun _ _ hf=>hf) (by kernel_rfl)<|have a:=a.drew;?_
 show lxE _ _ _ _ _ _ _ [0,1,2,3,4,5,6] _ _
 refine J a Z Z (fun w D=>ak (k:=0) u169 Z Z r9 Z) Z<|J a Z Z (fun w D=>ar u31 Z Z (D.r 0 Z (Up.get0 Up.o))) Z<|M h fun t bF h=>aY a Z Z (by kernel_rfl) Z (fG d bF ) Z ?_
 rintro _ w ⟨rfl,T⟩
 have a:=a.e T
 refine J a Z Z (fun w D=>ak (k:=145) u169 Z Z tM Z) Z<|J a Z Z (fun w D=>ar u103 Z Z (D.r 0 Z (Up.get0 (Up.m (k:=1) Z (Up.m (k:=8) (bk u Z) (Up.m (k:=8) (bk x Z) (Up.m (k:=128) (bk y Z) Up.last Z) Z) Z) Z)))) Z<|an 2 Z a<|a8 a<|am<|R<|V 1 Z<|O (aj Z Z (dJ _ t 8 (by decide))) Z<|V 1 Z<|gl2<|bn (bJ (e:=e8) (l:=[128]) (vs:=[v8 128]) u25 ti5 Z Z Z Z (by decide) (by decide) a) Z fun bD w a=>V 1 Z<|gl1<|av<|ax [(3,P p 0),(4,H t),(5,v64 b),(6,H (wI (Int.tdiv t 8))),(7,bD)] Z ?_
 refine bf (F.J5 b t d f j n) (fun (s:Q1) L w=>∃(ap:Value),L=[(3,P p 0),(4,H t),(5,v64 b),(6,H (wI (Int.tdiv t 8))),(7,ap)]/\St S C w [U e8 ap s,Y p ([H d]++(X.fl f++(e64.fl j++(e8.fl n++[v64 b])))),Y q ([H d]++(X.fl f++(e64.fl j++(e8.fl n++[v64 b]))))]) ?_ [128] ⟨bD,Z,a⟩ h
 rintro bX bE L w bY B a5 h aL
 try dsimp only at B
 obtain⟨ap,rfl,a⟩:=B
 unfold F.J5 at h
 refine az<|R<|V 2 Z<|O (aE Z (fv u3 u103 t)) Z<|db h fun a6 h=>O (aj Z Z (fp _ b (UInt64.ofInt t) a6)) Z<|O (aE Z (oD u103 u3 (b%(UInt64.ofInt t)))) Z<|V 1 Z<|O (aD u25 Z (a.ro 0 Z)) Z<|V 2 Z<|db h fun a9 h=>O (aj Z Z (kN _ (wI ((wI ((b%(UInt64.ofInt t)).toNat:Int))+(bE.length:Int))) t a9)) Z<|V 4 Z<|Q ?_
 apply gl9 Z h<;>intro h
 ·exact gl5<|av<|al<|V 1 Z<|bn (bJ (e:=e8) (l:=[0]) (vs:=[v8 0]) u25 ti5 Z Z Z Z (by decide) (by decide) a) Z fun bZ w a=>M h fun bG ba h=>bn (dQ u25 ti5 Z Z Z a (i:=1) Z (a.ro 0 Z) ba) Z fun bH w a=>V 1 Z<|aG<|aH<|bo (br (a5 bG _ _ ⟨bH,Z,(a.d [1,2,3] Z Z)⟩ (aW h aL)) Z)
 refine aZ<|aA<|aA<|have h:=aR h aL;a7<|am<|az<|R<|V 2 Z<|bg h fun aC bb h=>O (bd (v:=H aC) (by rw[<-bb]; rfl)) Z<|Q<|av<|ax [(3,P p 0),(5,v64 b),(7,ap),(8,H aC)] Z ?_
 refine bf (F.HP d f j n b) (fun (s:Q1×Int) L w=>∃(E:Value),L=[(3,P p 0),(5,v64 b),(7,E),(8,H s.2)]/\St S C w [U e8 E s.1,Y p ([H d]++(X.fl f++(e64.fl j++(e8.fl n++[v64 b])))),Y q ([H d]++(X.fl f++(e64.fl j++(e8.fl n++[v64 b]))))]) ?_ (bE,aC) ⟨ap,Z,a⟩ h
 rintro b0 ⟨aI,G⟩ L w bI B be h aM
 try dsimp only at B
 obtain⟨E,rfl,a⟩:=B
 unfold F.HP at h
 refine az<|R<|V 2 Z<|Q ?_
 apply gl9 Z h<;>intro h
 ·refine gl5<|az<|av<|R<|V 1 Z<|Q ?_
  refine aU (r:=bI) (fun (g:UInt8) L w=>L=[(3,P p 0),(5,v64 b),(7,E),(8,H G),(9,v8 g)]/\St S C w [Y p ([H d]++(X.fl f++(e64.fl j++(e8.fl n++[v64 b])))),U e8 E aI,Y q ([H d]++(X.fl f++(e64.fl j++(e8.fl n++[v64 b]))))]) (F.Iv aI G) ?_ ?_
  rotate_left
  ·intro ac
   refine av<|R<|V 3 Z<|Q ?_
   apply gl9 Z h<;>intro h
   ·exact al<|V 1 Z<|O (aj Z Z (cp _ b 3)) Z<|V 1 Z<|O (aj Z Z (ee _ 8 G)) Z<|db h fun bh h=>O (aj Z Z (nW _ (aF b 3) (wI (8*G)) bh)) Z<|O (aE Z (iK u103 Tryz.underlying5 (aP (aF b 3) (((wI (8*G))).toNat)))) Z<|bg h fun a1 bi h=>O (bd (v:=v8 a1) (by rw[<-bi]; rfl)) Z<|aG<|aH<|am<|aB (ac a1 _ _ ⟨Z,(a.d [1,0,2] Z Z)⟩ h) Z
   refine R<|V 3 Z<|Q ?_
   apply gl9 Z h<;>intro h
   ·exact al<|V 1 Z<|O (aj Z Z (ca _ b 61)) Z<|O (aE Z (iK u103 Tryz.underlying5 (aP b 61))) Z<|V 1 Z<|aG<|aH<|am<|aB (ac ((aP b 61).toUInt8) _ _ ⟨Z,(a.d [1,0,2] Z Z)⟩ h) Z
   exact cf<|aH<|am<|aB (ac 0 _ _ ⟨Z,(a.d [1,0,2] Z Z)⟩ h) Z
  rintro a2 L w hJ h
  try dsimp only at hJ
  obtain⟨rfl,a⟩:=hJ
  unfold F.Iv at h
  exact al<|V 2 Z<|bn (bJ (e:=e8) (l:=[a2]) (vs:=[v8 a2]) u25 ti5 Z Z Z Z (by decide) (by decide) a) Z fun b1 w a=>M h fun bL bj h=>bn (dQ u25 ti5 Z Z Z a (i:=2) Z (a.ro 0 Z) bj) Z fun bM w a=>V 1 Z<|aG<|aH<|am<|al<|V 3 Z<|aG<|bo (br (be (bL,wI (G - 1)) _ _ ⟨bM,Z,(a.d [2,1,3] Z Z)⟩ (aW h aM)) Z)
 refine aZ<|aA<|aA<|have h:=aR h aM;a7<|am<|R<|V 1 Z<|have hG:=a.pick (os':=[Y p ([H d]++(X.fl f++(e64.fl j++(e8.fl n++[v64 b]))))]++[U e8 E aI,Y q ([H d]++(X.fl f++(e64.fl j++(e8.fl n++[v64 b]))))]) [1,0,2] (by decide) Z;M h fun c bq h=>aJ Z (j5 d f j n b bq hG.f (hT.f hG) u x y (hG.giveO 0 Z)) Z ?_
 rintro _ w ⟨rfl,ad,aN,bV,T⟩
 have a:=hG.g T
 refine gl2<|V 1 Z<|gl1<|R<|O (ak (k:=0) u169 Z Z r9 Z) Z<|O (ar u31 Z Z (a.r 0 Z (Up.get0 Up.o))) Z<|V 1 Z<|Q ?_
 apply gl9 Z h<;>intro h
 ·refine az<|R<|O (ak (k:=1) u169 Z Z im Z) Z<|O (ft (us:=X.fl c.2.1) u150 Z iP (bk ad Z) Z (a.bxgs0 0 Z (Up.m (k:=1) Z Up.o Z))) Z<|V 1 Z<|Q<|av<|ax [(10,.slice none 0 0),(75,.agg (X.fl c.2.1).toArray),(76,H 0)] Z ?_
  refine bf (F.I3 d f j n b c) (fun (s:Q1×Int) L w=>∃(ae:Value),L=[(10,ae),(75,.agg (X.fl c.2.1).toArray),(76,H s.2)]/\St S C w [U e8 ae s.1,Y q ([H d]++(X.fl f++(e64.fl j++(e8.fl n++[v64 b]))))]) ?_ ([],0) ⟨Q3,Z,((a.nil e8).d [0,3] Z Z)⟩ h
  rintro b2 ⟨b3,bN⟩ L w b4 B bs h aO
  try dsimp only at B
  obtain⟨ae,rfl,a⟩:=B
  unfold F.I3 at h
  refine R<|V 1 Z<|gl1 ?_
  apply gl9 Z h<;>intro h
  ·exact gl5<|az<|av<|R<|M h fun o aS h=>O (mI (cs:=(X.fl c.2.1).toArray) u150 u106 Z dS Z Z (bT aS ad) (oW aS Z)) Z<|V 1 Z<|Q<|al<|V 2 Z<|O (aj Z Z (de _ o 24)) Z<|O (aE Z (fT u106 Tryz.underlying5 (bv o 24))) Z<|V 1 Z<|O (aj Z Z (de _ o 16)) Z<|O (aE Z (fT u106 Tryz.underlying5 (bv o 16))) Z<|V 1 Z<|O (aj Z Z (de _ o 8)) Z<|O (aE Z (fT u106 Tryz.underlying5 (bv o 8))) Z<|V 1 Z<|O (aE Z (fT u106 Tryz.underlying5 o)) Z<|bn (bJ (e:=e8) (l:=[(bv o 24).toUInt8,(bv o 16).toUInt8,(bv o 8).toUInt8,o.toUInt8]) (vs:=[v8 ((bv o 24).toUInt8),v8 ((bv o 16).toUInt8),v8 ((bv o 8).toUInt8),v8 o.toUInt8]) u25 ti5 Z Z Z Z (by decide) (by decide) a) Z fun b5 w a=>M h fun bO bt h=>bn (dQ u25 ti5 Z Z Z a (i:=1) Z (a.ro 0 Z) bt) Z fun bP w a=>V 1 Z<|aG<|aH<|am<|al<|V 2 Z<|aG<|bo (br (bs (bO,wI (bN+1)) _ _ ⟨bP,Z,(a.d [1,2] Z Z)⟩ (aW h aO)) Z)
  refine aZ<|aA<|aA<|have h:=aR h aO;a7<|am<|R<|V 2 Z<|gl8 ?_
  cases h
  exact au Z Z ⟨ae,Z,u,x,y,a.d [0,1] Z Z⟩
 refine gl5<|az<|R<|O (ak (k:=9) u169 Z Z gW Z) Z<|O (ft (us:=e64.fl c.2.2.1) u166 Z qf (bk aN Z) Z (a.bxgs0 0 Z (Up.m (k:=1) Z (Up.m (k:=8) (bk ad Z) Up.o Z) Z))) Z<|V 1 Z<|Q<|av<|ax [(3,P p 0),(10,.slice none 0 0),(96,.agg (e64.fl c.2.2.1).toArray),(97,H 0)] Z ?_
 refine bf (F.HT d f j n b c) (fun (s:Q1×Int) L w=>∃(z:Value),L=[(3,P p 0),(10,z),(96,.agg (e64.fl c.2.2.1).toArray),(97,H s.2)]/\St S C w [U e8 z s.1,Y p ([H c.1]++(X.fl c.2.1++(e64.fl c.2.2.1++(e8.fl c.2.2.2.1++[v64 c.2.2.2.2])))),Y q ([H d]++(X.fl f++(e64.fl j++(e8.fl n++[v64 b]))))]) ?_ ([],0) ⟨Q3,Z,((a.nil e8).d [0,1,3] Z Z)⟩ h
 rintro b6 ⟨a3,ah⟩ L w b7 B bu h aT
 try dsimp only at B
 obtain⟨z,rfl,a⟩:=B
 unfold F.HT at h
 refine R<|V 1 Z<|gl1 ?_
 apply gl9 Z h<;>intro h
 ·refine gl5<|az<|av<|R<|M h fun A aV h=>O (mI (cs:=(e64.fl c.2.2.1).toArray) u166 u103 Z dO Z Z (bT aV aN) (oW aV Z)) Z<|V 1 Z<|gl2<|V 1 Z<|Q<|av<|ax [(3,P p 0),(10,z),(14,v64 A),(15,H 56),(96,.agg (e64.fl c.2.2.1).toArray),(97,H ah)] Z ?_
  refine bf (F.JT ah A) (fun (s:Q1×Int) L w=>∃(ao:Value),L=[(3,P p 0),(10,ao),(14,v64 A),(15,H s.2),(96,.agg (e64.fl c.2.2.1).toArray),(97,H ah)]/\St S C w [U e8 ao s.1,Y p ([H c.1]++(X.fl c.2.1++(e64.fl c.2.2.1++(e8.fl c.2.2.2.1++[v64 c.2.2.2.2])))),Y q ([H d]++(X.fl f++(e64.fl j++(e8.fl n++[v64 b]))))]) ?_ (a3,56) ⟨z,Z,a⟩ h
  rintro b8 ⟨bQ,ab⟩ L w b9 B bw h aX
  try dsimp only at B
  obtain⟨ao,rfl,a⟩:=B
  unfold F.JT at h
  refine az<|R<|V 2 Z<|Q ?_
  apply gl9 Z h<;>intro h
  ·exact gl5<|az<|av<|al<|V 3 Z<|db h fun bz h=>O (aj Z Z (nW _ A ab bz)) Z<|O (aE Z (iK u103 Tryz.underlying5 (aP A ((ab).toNat)))) Z<|bn (bJ (e:=e8) (l:=[(aP A ((ab).toNat)).toUInt8]) (vs:=[v8 ((aP A ((ab).toNat)).toUInt8)]) u25 ti5 Z Z Z Z (by decide) (by decide) a) Z fun cb w a=>M h fun bR bA h=>bn (dQ u25 ti5 Z Z Z a (i:=1) Z (a.ro 0 Z) bA) Z fun bS w a=>V 1 Z<|aG<|aH<|am<|al<|V 3 Z<|aG<|bo (br (bw (bR,wI (ab - 8)) _ _ ⟨bS,Z,(a.d [1,2,3] Z Z)⟩ (aW h aX)) Z)
  exact aZ<|aA<|aA<|have h:=aR h aX;a7<|aH<|am<|al<|V 2 Z<|aG<|bo (br (bu (bQ,wI (ah+1)) _ _ ⟨ao,Z,a⟩ (aW h aT)) Z)
 refine aZ<|aA<|aA<|have h:=aR h aT;a7<|am<|az<|aQ (fun w'=>St S C w' [U e8 z a3,Y p ([H c.1]++(X.fl c.2.1++(e64.fl c.2.2.1++(e8.fl c.2.2.2.1++[v64 c.2.2.2.2])))),Y q ([H d]++(X.fl f++(e64.fl j++(e8.fl n++[v64 b]))))]) (fun i=>!([3,6].contains i)) bK (fun _ _ _ hf=>hf.2) (fun _ _ hf=>hf) (by kernel_rfl)<|have a:=a.drew;show lxE _ _ _ _ _ _ _ [0,1,2,3,4,5,6,7,8] _ _ from an 1 Z a<|J a Z Z (fun w D=>ak (k:=0) u169 Z Z r9 Z) Z<|J a Z Z (fun w D=>ar u31 Z Z (D.r 1 Z (Up.get0 Up.o))) Z<|M h fun a4 bB h=>aY a Z Z (by kernel_rfl) Z (eH c.1 bB ) Z ?_
 rintro _ w ⟨rfl,T⟩
 have a:=a.e T
 refine J a Z Z (fun w D=>ak (k:=0) u169 Z Z r9 Z) Z<|J a Z Z (fun w D=>ar u31 Z Z (D.r 1 Z (Up.get0 Up.o))) Z<|M h fun cc bC h=>aY a Z Z (by kernel_rfl) Z (eH c.1 bC ) Z ?_
 rintro _ w ⟨rfl,T⟩
 have a:=a.e T
 refine db h fun a0 h=>J a Z Z (fun w D=>vj u25 ti5 Z Z Z (D.ro 0 Z) a0) Z<|an 1 Z a<|a8 a<|am<|aq ?_
 cases h
 replace a:=a.trunc3 (i:=0) rfl a0.2.1
 exact au Z Z ⟨slV3 z e8.sz 0 ((a4:Int).toNat) ((a4:Int).toNat),Z,u,x,y,a.d [0,2] Z Z⟩
theorem fE {q:World} {a1:List Q1} {n:Value} {s1:List SV} (a0:Int) {r:Q1}
  (h:F.GK a0 a1=some r) (hT:TB [] q) (A:RP [] q eV n s1) (hl1:il [] q e8 s1 a1):Calls Tryz.prog 33 #[H a0,n] q (Ret fun v w=>St [] q w [U e8 v r]):=by
 refine ay 24 Tryz.func33 Z Z Z<|have a:=St.k q;ax [(0,H a0),(1,n)] Z ?_
 unfold F.GK at h
 refine R<|V 1 Z<|gl2<|V 1 Z<|M h fun ao ae h=>aJ Z (AQ a0 ae (hT.b a.fr)) Z ?_
 rintro _ w ⟨aM,rfl,c,ah,b⟩
 cases d:ao with
 | none=>
  have h:=kj h d
  rw[d]at c b
  simp only[Option.map_none,Cm]at c
  subst c
  simp only[Option.map_none,Ck,List.nil_append]at b
  have a:=a.e b
  refine V 1 Z<|gl1<|R<|V 1 Z<|O (aj Z Z (vr Tryz.underlying118)) Z<|Q<|cZ Z<|R<|V 1 Z<|gl8 ?_
  cases h
  exact au Z Z ((a.nil e8).d [0] Z Z)
 | some f=>
  have h:=kn h d
  rw[d]at c b
  simp only[Option.map_some,Cm]at c
  obtain⟨g,rfl⟩:=c
  simp only[Option.map_some,Ck,List.singleton_append,List.cons_append,List.nil_append]at b
  have a:=a.e b
  obtain⟨J,ak,C⟩:=ah f d
  refine V 1 Z<|gl1<|R<|V 1 Z<|O (aj Z Z (uC Tryz.underlying118 g 0)) Z<|Q<|eJ Z<|gl5<|az<|R<|V 1 Z<|O (tI u117 Z (A.b a.fr) hl1.len) Z<|V 1 Z<|Q<|av<|ax [(5,P g 0),(12,n),(13,H (a1.length:Int)),(14,H 0)] Z ?_
  refine bf (F.H5 a1) (fun (s:Int×Int×Q0×List UInt64×Q1×UInt64) L w=>L=[(5,P g 0),(12,n),(13,H (a1.length:Int)),(14,H s.1)]/\s.2.2.1.length=8/\s.2.2.2.1.length=8/\s.2.2.2.2.1.length=128/\St [] q w [Y g ([H s.2.1]++(X.fl s.2.2.1++(e64.fl s.2.2.2.1++(e8.fl s.2.2.2.2.1++[v64 s.2.2.2.2.2]))))]) ?_ (0,f.1,f.2.1,f.2.2.1,f.2.2.2.1,f.2.2.2.2) ⟨Z,J,ak,C,a⟩ h
  rintro aE ⟨an,i,j,k,l,m⟩ L w aF hI D h t
  try dsimp only at hI
  obtain⟨rfl,u,x,y,a⟩:=hI
  unfold F.H5 at h
  refine R<|V 1 Z<|gl1 ?_
  apply gl9 Z h<;>intro h
  ·refine gl5<|az<|av<|R<|M h fun aI E h=>?_
   obtain⟨ar,o,z⟩:=hl1.get E
   refine O (bh u117 iy Z Z (A.b a.fr) o) Z<|O (aX u25 Z Z (A.b a.fr) o Z) Z<|V 1 Z<|Q<|al<|V 2 Z<|have p:=a.pick (os':=[Y g ([H i]++(X.fl j++(e64.fl k++(e8.fl l++[v64 m]))))]++[]) [0] (by decide) Z;M h fun e G h=>aJ Z (j5 i j k l m G p.f (hT.f p) u x y (z.f (W Z) p)) Z ?_
   rintro _ w ⟨rfl,S,T,ab,b⟩
   have a:=p.g b
   exact aG<|aH<|am<|al<|V 2 Z<|aG<|bo (br (D (wI (an+1),e.1,e.2.1,e.2.2.1,e.2.2.2.1,e.2.2.2.2) _ _ ⟨Z,S,T,ab,a⟩ (aW h t)) Z)
  refine aZ<|aA<|aA<|have h:=aR h t;a7<|am<|R<|V 1 Z<|have p:=a.pick (os':=[Y g ([H i]++(X.fl j++(e64.fl k++(e8.fl l++[v64 m]))))]++[]) [0] (by decide) Z;M h fun aK ac h=>aJ Z (qj i j k l m ac p.f (hT.f p) u x y) Z ?_
  rintro aL w ⟨aw,B,aB,aC,aD,b⟩
  rw[<-B]at b
  have a:=p.g b
  refine V 1 Z<|Q<|aq ?_
  cases h
  exact au Z Z (a.d [0] Z Z)
end Go.Proofs
