import Derived.Test.YtahgjafdhjbkeaaGreatDoorRW0
import Derived.Test.YtahgjafdhjbkeaaGreatDoorGkFman
import Derived.Test.YtahgjafdhjbkeaaGreatDoorRWshaa
set_option linter.unusedVariables false
set_option linter.unusedSimpArgs false
set_option linter.unusedSectionVars false
set_option maxRecDepth 4000
namespace Go.Proofs
open Go Go.RowKit Go.Gk
open Go.Gk renaming aa -> V, af -> J, ag -> N, ai -> H, e32 -> X, gl3 -> P, gl4 -> R, own -> U, pB -> O, vI -> I
open Nat renaming le_of_ble_eq_true -> W
open Go.Gk.OE renaming bx -> Y
theorem pf {C:World} {q:Nat} {S:L2} (d:Int) (f:L0) (j:List UInt64) (n:L1) (b:UInt64) {r:L1×Int×L0×List UInt64×L1×UInt64}
  (h:F.IN d f j n b=some r) (a:St S C C [Y q ([I d]++(X.fl f++(e64.fl j++(e8.fl n++[v64 b]))))]) (hT:TB S C) (u:f.length=8) (x:j.length=8) (y:n.length=128):Calls Tryz.prog 118 #[O q 0] C (Ret fun v w=>∃u0:Value,v=u0/\r.2.2.1.length=8/\r.2.2.2.1.length=8/\r.2.2.2.2.1.length=128/\St S C w [U e8 u0 r.1,Y q ([I r.2.1]++(X.fl r.2.2.1++(e64.fl r.2.2.2.1++(e8.fl r.2.2.2.2.1++[v64 r.2.2.2.2.2]))))]):=by
 refine aB 120 Tryz.func118 Z Z Z<|ax [(0,O q 0)] Z ?_
 unfold F.IN at h
 refine R<|V 1 Z<|gl2<|V 1 Z<|N (aL Z) Z<|N (fK (us:=[I d]++(X.fl f++(e64.fl j++(e8.fl n++[v64 b])))) u157 Z AB (fy Z (fy (bh u Z) (fy (bh x Z) (fy (bh y Z) Z Z) Z) Z) Z) Z (a.bxgs0 0 Z Up.last)) Z<|bg (bb (cs:=[I 0]++(X.fl (List.replicate 8 0)++(e64.fl (List.replicate 8 0)++(e8.fl (List.replicate 128 0)++[v64 0])))) C6 (by kernel_rfl) a) Z fun p w a=>bo (dt (m:=146) (xs:=[I 0]++(X.fl (List.replicate 8 0)++(e64.fl (List.replicate 8 0)++(e8.fl (List.replicate 128 0)++[v64 0])))) (xs':=[I d]++(X.fl f++(e64.fl j++(e8.fl n++[v64 b])))) (i:=0) Z AB Z Z Z Up.last (fy Z (fy (bh List.length_replicate Z) (fy (bh List.length_replicate Z) (fy (bh List.length_replicate Z) Z Z) Z) Z) Z) (fy Z (fy (bh u Z) (fy (bh x Z) (fy (bh y Z) Z Z) Z) Z) Z) (n9 (eD Z) (n9 gi (n9 gi (n9 gi (eD Z))))) a) fun w a=>gl1<|aX (fun w'=>St S C w' [Y p ([I d]++(X.fl f++(e64.fl j++(e8.fl n++[v64 b])))),Y q ([I d]++(X.fl f++(e64.fl j++(e8.fl n++[v64 b]))))]) (fun i=>!([2].contains i)) bQ (fun _ _ _ hf=>hf.2) (fun _ _ hf=>hf) (by kernel_rfl)<|have a:=a.drew;?_
 show lxE _ _ _ _ _ _ _ [0,1,2,3,4,5,6] _ _
 refine H a Z Z (fun w D=>am (k:=0) u157 Z Z q8 Z) Z<|H a Z Z (fun w D=>au u22 Z Z (D.r 0 Z (Up.get0 Up.o))) Z<|J h fun t bF h=>aY a Z Z (by kernel_rfl) Z (oH d bF ) Z ?_
 rintro _ w ⟨rfl,T⟩
 have a:=a.e T
 refine H a Z Z (fun w D=>am (k:=145) u157 Z Z rZ Z) Z<|H a Z Z (fun w D=>au u119 Z Z (D.r 0 Z (Up.get0 (Up.m (k:=1) Z (Up.m (k:=8) (bh u Z) (Up.m (k:=8) (bh x Z) (Up.m (k:=128) (bh y Z) Up.last Z) Z) Z) Z)))) Z<|ao 2 Z a<|bp a<|ak<|R<|V 1 Z<|N (aj Z Z (dW _ t 8 (by decide))) Z<|V 1 Z<|gl2<|bC (cq (e:=e8) (l:=[128]) (vs:=[v8 128]) u24 ti5 Z Z Z Z (by decide) (by decide) a) Z fun bD w a=>V 1 Z<|gl1<|aq<|ax [(3,O p 0),(4,I t),(5,v64 b),(6,I (wI (Int.tdiv t 8))),(7,bD)] Z ?_
 refine aT (F.Hn b t d f j n) (fun (s:L1) L w=>∃(ap:Value),L=[(3,O p 0),(4,I t),(5,v64 b),(6,I (wI (Int.tdiv t 8))),(7,ap)]/\St S C w [U e8 ap s,Y p ([I d]++(X.fl f++(e64.fl j++(e8.fl n++[v64 b])))),Y q ([I d]++(X.fl f++(e64.fl j++(e8.fl n++[v64 b]))))]) ?_ [128] ⟨bD,Z,a⟩ h
 rintro bW bE L w bX B a7 h aM
 try dsimp only at B
 obtain⟨ap,rfl,a⟩:=B
 unfold F.Hn at h
 refine aw<|R<|V 2 Z<|N (aD Z (dC u3 u119 t)) Z<|c7 h fun a9 h=>N (aj Z Z (ft _ b (UInt64.ofInt t) a9)) Z<|N (aD Z (nR u119 u3 (b%(UInt64.ofInt t)))) Z<|V 1 Z<|N (aC u24 Z (a.ro 0 Z)) Z<|V 2 Z<|c7 h fun be h=>N (aj Z Z (fO _ (wI ((wI ((b%(UInt64.ofInt t)).toNat:Int))+(bE.length:Int))) t be)) Z<|V 4 Z<|P ?_
 apply gl9 Z h<;>intro h
 ·exact gl5<|aq<|al<|V 1 Z<|bC (cq (e:=e8) (l:=[0]) (vs:=[v8 0]) u24 ti5 Z Z Z Z (by decide) (by decide) a) Z fun bY w a=>J h fun bG bf h=>bC (dN u24 ti5 Z Z Z a (i:=1) Z (a.ro 0 Z) bf) Z fun bI w a=>V 1 Z<|aE<|aF<|bd (bc (a7 bG _ _ ⟨bI,Z,(a.d [1,2,3] Z Z)⟩ (aK h aM)) Z)
 refine aQ<|av<|av<|have h:=aI h aM;aR<|ak<|aw<|R<|V 2 Z<|aZ h fun aA bi h=>N (ba (v:=I aA) (by rw[<-bi]; rfl)) Z<|P<|aq<|ax [(3,O p 0),(5,v64 b),(7,ap),(8,I aA)] Z ?_
 refine aT (F.EH d f j n b) (fun (s:L1×Int) L w=>∃(E:Value),L=[(3,O p 0),(5,v64 b),(7,E),(8,I s.2)]/\St S C w [U e8 E s.1,Y p ([I d]++(X.fl f++(e64.fl j++(e8.fl n++[v64 b])))),Y q ([I d]++(X.fl f++(e64.fl j++(e8.fl n++[v64 b]))))]) ?_ (bE,aA) ⟨ap,Z,a⟩ h
 rintro bZ ⟨aJ,G⟩ L w bJ B bj h aN
 try dsimp only at B
 obtain⟨E,rfl,a⟩:=B
 unfold F.EH at h
 refine aw<|R<|V 2 Z<|P ?_
 apply gl9 Z h<;>intro h
 ·refine gl5<|aw<|aq<|R<|V 1 Z<|P ?_
  refine a8 (r:=bJ) (fun (g:UInt8) L w=>L=[(3,O p 0),(5,v64 b),(7,E),(8,I G),(9,v8 g)]/\St S C w [Y p ([I d]++(X.fl f++(e64.fl j++(e8.fl n++[v64 b])))),U e8 E aJ,Y q ([I d]++(X.fl f++(e64.fl j++(e8.fl n++[v64 b]))))]) (F.Fq aJ G) ?_ ?_
  rotate_left
  ·intro ac
   refine aq<|R<|V 3 Z<|P ?_
   apply gl9 Z h<;>intro h
   ·exact al<|V 1 Z<|N (aj Z Z (du _ b 3)) Z<|V 1 Z<|N (aj Z Z (el _ 8 G)) Z<|c7 h fun bk h=>N (aj Z Z (nj _ (bH b 3) (wI (8*G)) bk)) Z<|N (aD Z (jQ u119 Tryz.underlying5 (aO (bH b 3) (((wI (8*G))).toNat)))) Z<|aZ h fun a3 bl h=>N (ba (v:=v8 a3) (by rw[<-bl]; rfl)) Z<|aE<|aF<|ak<|aG (ac a3 _ _ ⟨Z,(a.d [1,0,2] Z Z)⟩ h) Z
   refine R<|V 3 Z<|P ?_
   apply gl9 Z h<;>intro h
   ·exact al<|V 1 Z<|N (aj Z Z (cf _ b 61)) Z<|N (aD Z (jQ u119 Tryz.underlying5 (aO b 61))) Z<|V 1 Z<|aE<|aF<|ak<|aG (ac ((aO b 61).toUInt8) _ _ ⟨Z,(a.d [1,0,2] Z Z)⟩ h) Z
   exact cd<|aF<|ak<|aG (ac 0 _ _ ⟨Z,(a.d [1,0,2] Z Z)⟩ h) Z
  rintro a4 L w hJ h
  try dsimp only at hJ
  obtain⟨rfl,a⟩:=hJ
  unfold F.Fq at h
  exact al<|V 2 Z<|bC (cq (e:=e8) (l:=[a4]) (vs:=[v8 a4]) u24 ti5 Z Z Z Z (by decide) (by decide) a) Z fun b0 w a=>J h fun bK bm h=>bC (dN u24 ti5 Z Z Z a (i:=2) Z (a.ro 0 Z) bm) Z fun bL w a=>V 1 Z<|aE<|aF<|ak<|al<|V 3 Z<|aE<|bd (bc (bj (bK,wI (G - 1)) _ _ ⟨bL,Z,(a.d [2,1,3] Z Z)⟩ (aK h aN)) Z)
 refine aQ<|av<|av<|have h:=aI h aN;aR<|ak<|R<|V 1 Z<|have hG:=a.pick (os':=[Y p ([I d]++(X.fl f++(e64.fl j++(e8.fl n++[v64 b]))))]++[U e8 E aJ,Y q ([I d]++(X.fl f++(e64.fl j++(e8.fl n++[v64 b]))))]) [1,0,2] (by decide) Z;J h fun c bq h=>aH Z (jB d f j n b bq hG.f (hT.f hG) u x y (hG.giveO 0 Z)) Z ?_
 rintro _ w ⟨rfl,ad,aP,bU,T⟩
 have a:=hG.g T
 refine gl2<|V 1 Z<|gl1<|R<|N (am (k:=0) u157 Z Z q8 Z) Z<|N (au u22 Z Z (a.r 0 Z (Up.get0 Up.o))) Z<|V 1 Z<|P ?_
 apply gl9 Z h<;>intro h
 ·refine aw<|R<|N (am (k:=1) u157 Z Z gV Z) Z<|N (fK (us:=X.fl c.2.1) u154 Z kv (bh ad Z) Z (a.bxgs0 0 Z (Up.m (k:=1) Z Up.o Z))) Z<|V 1 Z<|P<|aq<|ax [(10,.slice none 0 0),(75,.agg (X.fl c.2.1).toArray),(76,I 0)] Z ?_
  refine aT (F.F7 d f j n b c) (fun (s:L1×Int) L w=>∃(ae:Value),L=[(10,ae),(75,.agg (X.fl c.2.1).toArray),(76,I s.2)]/\St S C w [U e8 ae s.1,Y q ([I d]++(X.fl f++(e64.fl j++(e8.fl n++[v64 b]))))]) ?_ ([],0) ⟨L3,Z,((a.nil e8).d [0,3] Z Z)⟩ h
  rintro b1 ⟨b2,bM⟩ L w b3 B br h aS
  try dsimp only at B
  obtain⟨ae,rfl,a⟩:=B
  unfold F.F7 at h
  refine R<|V 1 Z<|gl1 ?_
  apply gl9 Z h<;>intro h
  ·exact gl5<|aw<|aq<|R<|J h fun o aU h=>N (mb (cs:=(X.fl c.2.1).toArray) u154 u38 Z cE Z Z (aW aU ad) (om aU Z)) Z<|V 1 Z<|P<|al<|V 2 Z<|N (aj Z Z (cO _ o 24)) Z<|N (aD Z (fM u38 Tryz.underlying5 (bA o 24))) Z<|V 1 Z<|N (aj Z Z (cO _ o 16)) Z<|N (aD Z (fM u38 Tryz.underlying5 (bA o 16))) Z<|V 1 Z<|N (aj Z Z (cO _ o 8)) Z<|N (aD Z (fM u38 Tryz.underlying5 (bA o 8))) Z<|V 1 Z<|N (aD Z (fM u38 Tryz.underlying5 o)) Z<|bC (cq (e:=e8) (l:=[(bA o 24).toUInt8,(bA o 16).toUInt8,(bA o 8).toUInt8,o.toUInt8]) (vs:=[v8 ((bA o 24).toUInt8),v8 ((bA o 16).toUInt8),v8 ((bA o 8).toUInt8),v8 o.toUInt8]) u24 ti5 Z Z Z Z (by decide) (by decide) a) Z fun b4 w a=>J h fun bN bs h=>bC (dN u24 ti5 Z Z Z a (i:=1) Z (a.ro 0 Z) bs) Z fun bO w a=>V 1 Z<|aE<|aF<|ak<|al<|V 2 Z<|aE<|bd (bc (br (bN,wI (bM+1)) _ _ ⟨bO,Z,(a.d [1,2] Z Z)⟩ (aK h aS)) Z)
  refine aQ<|av<|av<|have h:=aI h aS;aR<|ak<|R<|V 2 Z<|gl8 ?_
  cases h
  exact az Z Z ⟨ae,Z,u,x,y,a.d [0,1] Z Z⟩
 refine gl5<|aw<|R<|N (am (k:=9) u157 Z Z gB Z) Z<|N (fK (us:=e64.fl c.2.2.1) u143 Z i8 (bh aP Z) Z (a.bxgs0 0 Z (Up.m (k:=1) Z (Up.m (k:=8) (bh ad Z) Up.o Z) Z))) Z<|V 1 Z<|P<|aq<|ax [(3,O p 0),(10,.slice none 0 0),(96,.agg (e64.fl c.2.2.1).toArray),(97,I 0)] Z ?_
 refine aT (F.EL d f j n b c) (fun (s:L1×Int) L w=>∃(z:Value),L=[(3,O p 0),(10,z),(96,.agg (e64.fl c.2.2.1).toArray),(97,I s.2)]/\St S C w [U e8 z s.1,Y p ([I c.1]++(X.fl c.2.1++(e64.fl c.2.2.1++(e8.fl c.2.2.2.1++[v64 c.2.2.2.2])))),Y q ([I d]++(X.fl f++(e64.fl j++(e8.fl n++[v64 b]))))]) ?_ ([],0) ⟨L3,Z,((a.nil e8).d [0,1,3] Z Z)⟩ h
 rintro b5 ⟨a5,ah⟩ L w b6 B bt h aV
 try dsimp only at B
 obtain⟨z,rfl,a⟩:=B
 unfold F.EL at h
 refine R<|V 1 Z<|gl1 ?_
 apply gl9 Z h<;>intro h
 ·refine gl5<|aw<|aq<|R<|J h fun A a0 h=>N (mb (cs:=(e64.fl c.2.2.1).toArray) u143 u119 Z ce Z Z (aW a0 aP) (om a0 Z)) Z<|V 1 Z<|gl2<|V 1 Z<|P<|aq<|ax [(3,O p 0),(10,z),(14,v64 A),(15,I 56),(96,.agg (e64.fl c.2.2.1).toArray),(97,I ah)] Z ?_
  refine aT (F.Hb ah A) (fun (s:L1×Int) L w=>∃(an:Value),L=[(3,O p 0),(10,an),(14,v64 A),(15,I s.2),(96,.agg (e64.fl c.2.2.1).toArray),(97,I ah)]/\St S C w [U e8 an s.1,Y p ([I c.1]++(X.fl c.2.1++(e64.fl c.2.2.1++(e8.fl c.2.2.2.1++[v64 c.2.2.2.2])))),Y q ([I d]++(X.fl f++(e64.fl j++(e8.fl n++[v64 b]))))]) ?_ (a5,56) ⟨z,Z,a⟩ h
  rintro b7 ⟨bP,ab⟩ L w b8 B bu h a1
  try dsimp only at B
  obtain⟨an,rfl,a⟩:=B
  unfold F.Hb at h
  refine aw<|R<|V 2 Z<|P ?_
  apply gl9 Z h<;>intro h
  ·exact gl5<|aw<|aq<|al<|V 3 Z<|c7 h fun bv h=>N (aj Z Z (nj _ A ab bv)) Z<|N (aD Z (jQ u119 Tryz.underlying5 (aO A ((ab).toNat)))) Z<|bC (cq (e:=e8) (l:=[(aO A ((ab).toNat)).toUInt8]) (vs:=[v8 ((aO A ((ab).toNat)).toUInt8)]) u24 ti5 Z Z Z Z (by decide) (by decide) a) Z fun b9 w a=>J h fun bR bw h=>bC (dN u24 ti5 Z Z Z a (i:=1) Z (a.ro 0 Z) bw) Z fun bS w a=>V 1 Z<|aE<|aF<|ak<|al<|V 3 Z<|aE<|bd (bc (bu (bR,wI (ab - 8)) _ _ ⟨bS,Z,(a.d [1,2,3] Z Z)⟩ (aK h a1)) Z)
  exact aQ<|av<|av<|have h:=aI h a1;aR<|aF<|ak<|al<|V 2 Z<|aE<|bd (bc (bt (bP,wI (ah+1)) _ _ ⟨an,Z,a⟩ (aK h aV)) Z)
 refine aQ<|av<|av<|have h:=aI h aV;aR<|ak<|aw<|aX (fun w'=>St S C w' [U e8 z a5,Y p ([I c.1]++(X.fl c.2.1++(e64.fl c.2.2.1++(e8.fl c.2.2.2.1++[v64 c.2.2.2.2])))),Y q ([I d]++(X.fl f++(e64.fl j++(e8.fl n++[v64 b]))))]) (fun i=>!([3,6].contains i)) bQ (fun _ _ _ hf=>hf.2) (fun _ _ hf=>hf) (by kernel_rfl)<|have a:=a.drew;show lxE _ _ _ _ _ _ _ [0,1,2,3,4,5,6,7,8] _ _ from ao 1 Z a<|H a Z Z (fun w D=>am (k:=0) u157 Z Z q8 Z) Z<|H a Z Z (fun w D=>au u22 Z Z (D.r 1 Z (Up.get0 Up.o))) Z<|J h fun a6 bz h=>aY a Z Z (by kernel_rfl) Z (lS c.1 bz ) Z ?_
 rintro _ w ⟨rfl,T⟩
 have a:=a.e T
 refine H a Z Z (fun w D=>am (k:=0) u157 Z Z q8 Z) Z<|H a Z Z (fun w D=>au u22 Z Z (D.r 1 Z (Up.get0 Up.o))) Z<|J h fun ca bB h=>aY a Z Z (by kernel_rfl) Z (lS c.1 bB ) Z ?_
 rintro _ w ⟨rfl,T⟩
 have a:=a.e T
 refine c7 h fun a2 h=>H a Z Z (fun w D=>ym u24 ti5 Z Z Z (D.ro 0 Z) a2) Z<|ao 1 Z a<|bp a<|ak<|ay ?_
 cases h
 replace a:=a.trunc3 (i:=0) rfl a2.2.1
 exact az Z Z ⟨slV3 z e8.sz 0 ((a6:Int).toNat) ((a6:Int).toNat),Z,u,x,y,a.d [0,2] Z Z⟩
theorem yo {q:World} {a1:List L1} {n:Value} {s1:List SV} (a0:Int) {r:L1}
  (h:F.GS a0 a1=some r) (hT:TB [] q) (A:RP [] q eV n s1) (hl1:gU [] q e8 s1 a1):Calls Tryz.prog 58 #[I a0,n] q (Ret fun v w=>St [] q w [U e8 v r]):=by
 refine aB 24 Tryz.func58 Z Z Z<|have a:=St.k q;ax [(0,I a0),(1,n)] Z ?_
 unfold F.GS at h
 refine R<|V 1 Z<|gl2<|V 1 Z<|J h fun ao ae h=>aH Z (yw a0 ae (hT.b a.fr)) Z ?_
 rintro _ w ⟨aO,rfl,c,ah,b⟩
 cases d:ao with
 | none=>
  have h:=iQ h d
  rw[d]at c b
  simp only[Option.map_none,zS]at c
  subst c
  simp only[Option.map_none,zQ,List.nil_append]at b
  have a:=a.e b
  refine V 1 Z<|gl1<|R<|V 1 Z<|N (aj Z Z (yv Tryz.underlying128)) Z<|P<|fR Z<|R<|V 1 Z<|gl8 ?_
  cases h
  exact az Z Z ((a.nil e8).d [0] Z Z)
 | some f=>
  have h:=i0 h d
  rw[d]at c b
  simp only[Option.map_some,zS]at c
  obtain⟨g,rfl⟩:=c
  simp only[Option.map_some,zQ,List.singleton_append,List.cons_append,List.nil_append]at b
  have a:=a.e b
  obtain⟨H,am,C⟩:=ah f d
  refine V 1 Z<|gl1<|R<|V 1 Z<|N (aj Z Z (xB Tryz.underlying128 g 0)) Z<|P<|ik Z<|gl5<|aw<|R<|V 1 Z<|N (r8 u127 Z (A.b a.fr) hl1.len) Z<|V 1 Z<|P<|aq<|ax [(5,O g 0),(12,n),(13,I (a1.length:Int)),(14,I 0)] Z ?_
  refine aT (F.E4 a1) (fun (s:Int×Int×L0×List UInt64×L1×UInt64) L w=>L=[(5,O g 0),(12,n),(13,I (a1.length:Int)),(14,I s.1)]/\s.2.2.1.length=8/\s.2.2.2.1.length=8/\s.2.2.2.2.1.length=128/\St [] q w [Y g ([I s.2.1]++(X.fl s.2.2.1++(e64.fl s.2.2.2.1++(e8.fl s.2.2.2.2.1++[v64 s.2.2.2.2.2]))))]) ?_ (0,f.1,f.2.1,f.2.2.1,f.2.2.2.1,f.2.2.2.2) ⟨Z,H,am,C,a⟩ h
  rintro aG ⟨an,i,j,k,l,m⟩ L w aJ hI D h t
  try dsimp only at hI
  obtain⟨rfl,u,x,y,a⟩:=hI
  unfold F.E4 at h
  refine R<|V 1 Z<|gl1 ?_
  apply gl9 Z h<;>intro h
  ·refine gl5<|aw<|aq<|R<|J h fun aL E h=>?_
   obtain⟨ar,o,z⟩:=hl1.get E
   refine N (bk u127 Ca Z Z (A.b a.fr) o) Z<|N (a9 u24 Z Z (A.b a.fr) o Z) Z<|V 1 Z<|P<|al<|V 2 Z<|have p:=a.pick (os':=[Y g ([I i]++(X.fl j++(e64.fl k++(e8.fl l++[v64 m]))))]++[]) [0] (by decide) Z;J h fun e G h=>aH Z (jB i j k l m G p.f (hT.f p) u x y (z.f (W Z) p)) Z ?_
   rintro _ w ⟨rfl,S,T,ab,b⟩
   have a:=p.g b
   exact aE<|aF<|ak<|al<|V 2 Z<|aE<|bd (bc (D (wI (an+1),e.1,e.2.1,e.2.2.1,e.2.2.2.1,e.2.2.2.2) _ _ ⟨Z,S,T,ab,a⟩ (aK h t)) Z)
  refine aQ<|av<|av<|have h:=aI h t;aR<|ak<|R<|V 1 Z<|have p:=a.pick (os':=[Y g ([I i]++(X.fl j++(e64.fl k++(e8.fl l++[v64 m]))))]++[]) [0] (by decide) Z;J h fun aM ac h=>aH Z (pf i j k l m ac p.f (hT.f p) u x y) Z ?_
  rintro aN w ⟨au,B,aA,aC,aD,b⟩
  rw[<-B]at b
  have a:=p.g b
  refine V 1 Z<|P<|ay ?_
  cases h
  exact az Z Z (a.d [0] Z Z)
end Go.Proofs
