import Derived.Test.YtpndnjnogehdfaaGreatDoorGkI
import Derived.Test.YtpndnjnogehdfaaGreatDoorGkFman
import Derived.Test.YtpndnjnogehdfaaGreatDoorProg
import Derived.Shelf.Unicode.ValidAny
set_option linter.unusedVariables false
set_option linter.unusedSimpArgs false
set_option linter.unusedSectionVars false
namespace Go.Proofs
open Go Go.RowKit Go.Gk Go.Shelf Go.Lib
def Tryz.laysValid_ren:Go.Shelf.Ren:=
 {
  f:=fun x=>
   match x with
   | 196=>44
   | 259=>89
   | n=>n,
  t:=fun x=>
   match x with
   | 9=>9
   | 4=>4
   | 3=>3
   | 5=>5
   | 12=>12
   | 119=>164
   | 0=>0
   | 46=>117
   | 139=>167
   | 138=>166
   | 53=>62
   | n=>n,
  g:=fun x=>
   match x with
   | 3=>1
   | 4=>2
   | n=>n }
theorem Tryz.laysValid:Lays.n196 Tryz.prog Tryz.laysValid_ren:=
 { mixed:=Eq.refl true,f196:=Eq.trans Tryz.func44 (cv some (Eq.refl (Body.n196 Tryz.laysValid_ren))),
    f259:=Eq.trans Tryz.func89 (cv some (Eq.refl (Body.n259 Tryz.laysValid_ren))),t0:=Tryz.underlying0,
    a0:=Tryz.isAgg0,z0:=Tryz.sizeOf0,v0:=Tryz.zeroValue0,t3:=Tryz.underlying3,a3:=Tryz.isAgg3,
    z3:=Tryz.sizeOf3,v3:=Tryz.zeroValue3,t4:=Tryz.underlying4,a4:=Tryz.isAgg4,z4:=Tryz.sizeOf4,
    v4:=Tryz.zeroValue4,t5:=Tryz.underlying5,a5:=Tryz.isAgg5,z5:=Tryz.sizeOf5,v5:=Tryz.zeroValue5,
    t9:=Tryz.underlying9,a9:=Tryz.isAgg9,z9:=Tryz.sizeOf9,v9:=Tryz.zeroValue9,t12:=Tryz.underlying12,
    a12:=Tryz.isAgg12,z12:=Tryz.sizeOf12,v12:=Tryz.zeroValue12,t46:=Tryz.underlying117,a46:=Tryz.isAgg117,
    z46:=Tryz.sizeOf117,v46:=Tryz.zeroValue117,t53:=Tryz.underlying62,a53:=Tryz.isAgg62,z53:=Tryz.sizeOf62,
    v53:=Tryz.zeroValue62,t119:=Tryz.underlying164,a119:=Tryz.isAgg164,z119:=Tryz.sizeOf164,
    t138:=Tryz.underlying166,a138:=Tryz.isAgg166,z138:=Tryz.sizeOf166,v138:=Tryz.zeroValue166,
    t139:=Tryz.underlying167,a139:=Tryz.isAgg167,z139:=Tryz.sizeOf167,v139:=Tryz.zeroValue167,
    g3:=by kernel_rfl,g4:=by kernel_rfl }
def UB (S:Y4) (w:World):Prop:=Lib.Utf8Tabs 1 2 w/\1 ∉ S/\2 ∉ S
theorem AY {S:Y4} {w w':World} {b k:Nat} {u:Value} (hf:Fr S w w') (hb:b ∉ S) (h:w.cell? ⟨b,k,none⟩=some u):w'.cell? ⟨b,k,none⟩=some u:=by
 rw[hf.cell (lC h) hb]; exact h
theorem UB.fr {S R:Y4} {w w':World} (h:UB S w) (hf:Fr S w w') (h3:1 ∉ R) (h4:2 ∉ R):UB R w':=
 ⟨⟨fun c hc=>AY hf h.2.1 (h.1.1 c hc),fun i hi=>⟨AY hf h.2.2 (h.1.2 i hi).1,AY hf h.2.2 (h.1.2 i hi).2⟩⟩,h3,h4⟩
theorem UB.now {S:Y4} {w w':World} (h:UB S w) (hf:Fr S w w'):UB [] w':=h.fr hf (by simp) (by simp)
theorem UB.out {S:Y4} {w0 w:World} {os0 os:List OE} {b:Nat} {u:Value} (hG:St S w0 w (os0++os)) (hb:b ∉ S) (hc:w0.cell? ⟨b,0,none⟩=some u):b ∉ ea os0:=fun hm=>by
 obtain⟨o,ho,hob⟩:=dK.1 hm
 rcases ((hG.ok o (bX _ ho)).lt hob).2 with h1 | h1
 ·have:=lC hc; simp only at this; omega
 ·exact hb h1
theorem UB.give {S:Y4} {w0 w:World} {os0 os:List OE} (h:UB S w0) (hG:St S w0 w (os0++os)):UB (ea os0) w:=
 h.fr hG.fr (UB.out hG h.2.1 (h.1.1 0 (by decide))) (UB.out hG h.2.2 (h.1.2 0 (by decide)).1)
structure TB (S:Y4) (w:World):Prop where
 utf8:UB S w
 keyset_names:GA S w 0 eS F.TH
 sha_start256:GA S w 3 e32 F.Rm
 sha_start384:GA S w 4 e64 F.Rl
 sha_start512:GA S w 5 e64 F.Rn
 rsa1_infos:GA S w 6 eS F.Vt
 ed_orderLimbs:GA S w 7 e32 F.VZ
 ed_baseLimbs:GA S w 8 e32 F.Ys
 ed_primeLimbs:GA S w 10 e32 F.VW
 ed_curveLimbs:GA S w 11 e32 F.Vr
 sha_k256:GA S w 12 e32 F.Ta
 sha_k512:GA S w 13 e64 F.SP
 ed_rootLimbs:GA S w 14 e32 F.VC
theorem TB.now {S:Y4} {w w':World} (h:TB S w) (hf:Fr S w w'):TB [] w':=⟨h.utf8.now hf,h.keyset_names.now hf,h.sha_start256.now hf,h.sha_start384.now hf,h.sha_start512.now hf,h.rsa1_infos.now hf,h.ed_orderLimbs.now hf,h.ed_baseLimbs.now hf,h.ed_primeLimbs.now hf,h.ed_curveLimbs.now hf,h.sha_k256.now hf,h.sha_k512.now hf,h.ed_rootLimbs.now hf⟩
theorem TB.give {S:Y4} {w0 w:World} {os0 os:List OE} (h:TB S w0) (hG:St S w0 w (os0++os)):TB (ea os0) w:=⟨h.utf8.give hG,h.keyset_names.give (by decide) hG,h.sha_start256.give (by decide) hG,h.sha_start384.give (by decide) hG,h.sha_start512.give (by decide) hG,h.rsa1_infos.give (by decide) hG,h.ed_orderLimbs.give (by decide) hG,h.ed_baseLimbs.give (by decide) hG,h.ed_primeLimbs.give (by decide) hG,h.ed_curveLimbs.give (by decide) hG,h.sha_k256.give (by decide) hG,h.sha_k512.give (by decide) hG,h.ed_rootLimbs.give (by decide) hG⟩
theorem kG {w0:World} (a0:Y3) {r:Bool} (h:F.QZ a0=some r) (hT:TB [] w0) :
  Calls Tryz.prog 44 #[vS a0] w0 (Ret fun v w=>v=vB r/\St [] w0 w []):=by
 unfold F.QZ at h
 split at h
 ·rename_i hl
  cases h
  have hc:=Any.utf8_ValidString Tryz.laysValid ⟨⟨a0⟩⟩ w0 (by simpa [pQ] using hl) hT.utf8.1
  refine Calls.mono hc fun e w' he=>?_
  obtain⟨rfl,hb⟩:=he
  exact⟨rfl,⟨hb.os,hb.tape,hb.output,hb.size,fun k hk _=>hb.block k hk⟩,by simp,List.Pairwise.nil⟩
 ·cases h
theorem NL:(Tryz.prog.info? 35).map (·.zero)=some (some (.int .i64 0)):=by kernel_rfl
theorem tD {w0:World} (a0:UInt64) {r:Int} (h:F.W5 a0=some r):Calls Tryz.prog 52 #[v64 a0] w0 (Ret fun v w=>v=vI r/\St [] w0 w []):=by
 refine eZ 7 Tryz.func52 rfl rfl rfl ?_
 have hS:=St.start w0
 refine lL [(0,v64 a0)] ⟨rfl,trivial⟩ ?_
 unfold F.W5 at h
 refine cb ?_
 refine bC ?_
 refine aT (dz rfl) rfl ?_
 refine c6 ?_
 refine bp ?_
 refine cb ?_
 refine bC ?_
 refine jC (BK hS) rfl ?_
 rintro _ w ⟨q,rfl,hM⟩
 refine gh (jG Tryz.underlying174 Tryz.underlying62 rfl hM rfl) ?_
 intro w hM
 refine gh (jG Tryz.underlying174 Tryz.underlying62 rfl hM rfl) ?_
 intro w hM
 refine gh (jG Tryz.underlying174 Tryz.underlying62 rfl hM rfl) ?_
 intro w hM
 refine gh (jG Tryz.underlying174 Tryz.underlying62 rfl hM rfl) ?_
 intro w hM
 refine gh (jG Tryz.underlying174 Tryz.underlying62 rfl hM rfl) ?_
 intro w hM
 refine gh (jG Tryz.underlying174 Tryz.underlying62 rfl hM rfl) ?_
 intro w hM
 refine gh (jG Tryz.underlying174 Tryz.underlying62 rfl hM rfl) ?_
 intro w hM
 refine gh (jG Tryz.underlying174 Tryz.underlying62 rfl hM rfl) ?_
 intro w hM
 refine gh (jG Tryz.underlying174 Tryz.underlying62 rfl hM rfl) ?_
 intro w hM
 refine aT (ow rfl) rfl ?_
 refine aT (ow rfl) rfl ?_
 have key:∃res,Instr.findNow (.int .u64) (.int .u64 (a0.toNat:Int)) [⟨.int .u64 6,.int .i64 10,0⟩,⟨.int .u64 34,.int .i64 11,1⟩,⟨.int .u64 7,.int .i64 12,2⟩,⟨.int .u64 36,.int .i64 7,3⟩,⟨.int .u64 37,.int .i64 8,4⟩,⟨.int .u64 38,.int .i64 9,5⟩,⟨.int .u64 256,.int .i64 4,6⟩,⟨.int .u64 257,.int .i64 5,7⟩,⟨.int .u64 258,.int .i64 6,8⟩] 0=some res/\(res.map (·.2)).getD (.int .i64 0)=vI r:=by
  have e:∀k:UInt64,(a0=k)=((a0.toNat:Int)=(k.toNat:Int)):=fun k=>propext ⟨fun h=>by rw[h],fun h=>cA.1 (by omega)⟩
  simp only[e]at h
  simp only[Instr.findNow,Instr.sameNow,am]
  generalize (a0.toNat:Int)=z at h ⊢
  by_cases h6:z=6
  ·subst h6; simp at h; subst h; exact⟨_,rfl,rfl⟩
  by_cases h34:z=34
  ·subst h34; simp at h; subst h; exact⟨_,rfl,rfl⟩
  by_cases h7:z=7
  ·subst h7; simp at h; subst h; exact⟨_,rfl,rfl⟩
  by_cases h36:z=36
  ·subst h36; simp at h; subst h; exact⟨_,rfl,rfl⟩
  by_cases h37:z=37
  ·subst h37; simp at h; subst h; exact⟨_,rfl,rfl⟩
  by_cases h38:z=38
  ·subst h38; simp at h; subst h; exact⟨_,rfl,rfl⟩
  by_cases h256:z=256
  ·subst h256; simp at h; subst h; exact⟨_,rfl,rfl⟩
  by_cases h257:z=257
  ·subst h257; simp at h; subst h; exact⟨_,rfl,rfl⟩
  by_cases h258:z=258
  ·subst h258; simp at h; subst h; exact⟨_,rfl,rfl⟩
  have g:∀k:Int,(z == k)=decide (z=k):=fun k=>by by_cases h:z=k <;> simp[h]
  simp[h6,h34,h7,h36,h37,h38,h256,h257,h258]at h
  subst h
  simp only[g,h6,h34,h7,h36,h37,h38,h256,h257,h258,dq]
  exact⟨none,rfl,rfl⟩
 obtain⟨res,hf,hv⟩:=key
 refine aT (EO Tryz.underlying174 Tryz.underlying62 rfl rfl hM hf NL) rfl ?_
 refine aT (dz rfl) rfl ?_
 refine c6 ?_
 refine bp ?_
 refine f5 ?_
 exact gC rfl rfl ⟨hv,⟨hM.1,by simp,List.Pairwise.nil⟩⟩
end Go.Proofs
