import Derived.Test.YtkbacjmklhgpcaaGreatDoorSAl
set_option linter.unusedVariables false
set_option linter.unusedSimpArgs false
set_option linter.unusedSectionVars false
set_option maxRecDepth 4000
namespace Go.Gk
open Go Go.RowKit
theorem aTI {P:Prop} (h:P:=by
 first
 | exact ti3
 | exact ti5
 | exact ti9
 | exact Jx
 | exact FC
 | exact Sd
 | exact vC
 | fail):P:=h
theorem aTZ {P:Prop} (h:P:=by
 first
 | exact LM
 | exact QA
 | exact QK
 | exact Rg
 | exact Qx
 | exact QX
 | exact Rj
 | exact tz3
 | exact tz4
 | exact Ph
 | exact RN
 | exact SP
 | exact RK
 | exact OW
 | exact Sm
 | exact RH
 | fail):P:=h
theorem aNZ {P:Prop} (h:P:=by
 first
 | exact vl
 | fail):P:=h
theorem aSZ {P:Prop} (h:P:=by
 first
 | exact Ra
 | exact F8
 | exact Qv
 | exact qG
 | exact QV
 | exact SA
 | exact SU
 | exact SC
 | exact Oz
 | exact Se
 | fail):P:=h
theorem Rx {P:Prop} (h:P:=by
 first
 | exact Hi
 | exact P0
 | exact Ps
 | exact Pe
 | exact OO
 | exact Pm
 | exact QH
 | exact QT
 | exact Qt
 | exact QQ
 | exact QW
 | exact QZ
 | exact Q5
 | fail):P:=h
theorem Ko {P:Prop} (h:P:=by
 first
 | exact Its.n _
 | ((with_reducible apply Its.l); (case hx=>exact rfl); (case hn=>exact rfl); exact Ko)
 | ((with_reducible apply Its.c); exact rfl; exact Ko)
 | fail):P:=h
theorem aGs {P:Prop} (h:P:=by
 first
 | assumption
 | ((with_reducible apply Nu); assumption; exact aGs)
 | fail):P:=h
theorem aUh {P:Prop} (h:P:=by
 first
 | exact Up.here
 | ((with_reducible apply Up.skipC); exact rfl; exact aUh)
 | ((with_reducible apply Up.skipL); exact aL1; exact rfl; exact aUh)
 | fail):P:=h
theorem aGO {P:Prop} (h:P:=by
 first
 | assumption
 | fail):P:=h
theorem aLn {P:Prop} (h:P:=by
 first
 | assumption
 | exact rfl
 | ((with_reducible apply fu); exact aLn; exact rfl)
 | exact bq
 | (rw[<-hx,dI]; assumption)
 | (simp only[dI]; exact aLn)
 | fail):P:=h
theorem aLs {P:Prop} (h:P:=by
 first
 | ((with_reducible apply NL); exact aLs; exact aLs; exact rfl)
 | ((with_reducible apply Q9); exact aLs; exact rfl)
 | ((with_reducible apply fu); (first | assumption | exact bq); exact rfl)
 | exact rfl
 | fail):P:=h
theorem aO1 {P:Prop} (h:P:=by
 first
 | exact vd
 | exact wE rfl
 | ((with_reducible apply Na); exact aO1; exact aO1)
 | fail):P:=h
theorem aL1 {P:Prop} (h:P:=by
 first
 | ((with_reducible apply fu); exact aLn; exact rfl)
 | exact rfl
 | fail):P:=h
theorem aTb {P:Prop} (h:P:=by
 first
 | exact hT.keyset_names.cells hS.fr
 | exact hT.rsa1_infos.cells hS.fr
 | exact hT.ed_orderLimbs.cells hS.fr
 | exact hT.ed_baseLimbs.cells hS.fr
 | exact hT.sha_start256.cells hS.fr
 | exact hT.sha_start384.cells hS.fr
 | exact hT.sha_start512.cells hS.fr
 | exact hT.ed_primeLimbs.cells hS.fr
 | exact hT.ed_curveLimbs.cells hS.fr
 | exact hT.ed_rootLimbs.cells hS.fr
 | exact hT.sha_k256.cells hS.fr
 | exact hT.sha_k512.cells hS.fr
 | exact hT.keyset_names.cells (hZ.st hS).fr
 | exact hT.rsa1_infos.cells (hZ.st hS).fr
 | exact hT.ed_orderLimbs.cells (hZ.st hS).fr
 | exact hT.ed_baseLimbs.cells (hZ.st hS).fr
 | exact hT.sha_start256.cells (hZ.st hS).fr
 | exact hT.sha_start384.cells (hZ.st hS).fr
 | exact hT.sha_start512.cells (hZ.st hS).fr
 | exact hT.ed_primeLimbs.cells (hZ.st hS).fr
 | exact hT.ed_curveLimbs.cells (hZ.st hS).fr
 | exact hT.ed_rootLimbs.cells (hZ.st hS).fr
 | exact hT.sha_k256.cells (hZ.st hS).fr
 | exact hT.sha_k512.cells (hZ.st hS).fr
 | fail):P:=h
theorem jd {P:Prop} (h:P:=by
 first
 | exact Nth.h _ _
 | ((with_reducible apply Nth.t); exact jd)
 | fail):P:=h
theorem aEr {P:Prop} (h:P:=by
 first
 | exact Er.h _
 | ((with_reducible apply Er.t); exact aEr)
 | fail):P:=h
theorem ra {P:Prop} (h:P:=by
 first
 | exact Mm.h _
 | ((with_reducible apply Mm.t); exact ra)
 | fail):P:=h
theorem aHk {P:Prop} (h:P:=by
 first
 | assumption
 | exact hg.2
 | exact hg.1
 | fail):P:=h
theorem aRO {P:Prop} (h:P:=by
 first
 | ((with_reducible apply St.roN); exact hS; exact jd)
 | ((with_reducible apply RP.now); assumption; exact hS.fr)
 | exact RO.nil _ _
 | ((with_reducible apply St.rroN); exact hS; exact jd)
 | ((with_reducible apply RP.now); ((with_reducible apply Rds.rpm); exact hA; exact ra); exact hS.fr)
 | ((with_reducible apply RP.now); assumption; exact (hZ.st hS).fr)
 | ((with_reducible apply RO.tk); exact aRO; exact aHk)
 | ((with_reducible apply RO.tk3); exact aRO; exact aHk)
 | ((with_reducible apply RO.g_sl); exact aRO; assumption)
 | ((with_reducible apply RO.g_sll); exact aRO; assumption)
 | ((with_reducible apply RO.g_slh); exact aRO; assumption)
 | ((with_reducible apply RO.g_sl3); exact aRO; assumption)
 | ((with_reducible apply St.bxroA); exact hS; exact jd; (case hu=>exact aUp); exact aLn)
 | ((with_reducible apply RO.po); (case hp=>assumption); exact aRO)
 | ((with_reducible apply RP.now); ((with_reducible apply RP.W_sl); assumption; assumption); exact hS.fr)
 | ((with_reducible apply RP.now); ((with_reducible apply RP.eW); assumption; assumption; exact hg.1; exact hg.2); exact hS.fr)
 | fail):P:=h
theorem aUp {P:Prop} (h:P:=by
 first
 | exact Up.last
 | exact Up.here
 | ((with_reducible apply Up.skipC); exact rfl; exact aUp)
 | ((with_reducible apply Up.skipL); exact aL1; exact rfl; exact aUp)
 | fail):P:=h
theorem aUg {P:Prop} (h:P:=by
 first
 | exact rfl
 | ((with_reducible apply Up.elr); exact aUp; assumption; exact rfl)
 | ((with_reducible apply Up.get0); exact aUp)
 | fail):P:=h
theorem Qn {P:Prop} (h:P:=by
 first
 | ((with_reducible apply St.bxcN); exact hS; exact jd; exact rfl)
 | ((with_reducible apply RB.cell'); assumption; exact hS.fr; exact rfl)
 | ((with_reducible apply RB.cell'); ((with_reducible apply Rds.rbm); exact hA; exact ra); exact hS.fr; exact rfl)
 | exact hT.keyset_names.cell hS.fr (by assumption) rfl
 | exact hT.rsa1_infos.cell hS.fr (by assumption) rfl
 | exact hT.ed_orderLimbs.cell hS.fr (by assumption) rfl
 | exact hT.ed_baseLimbs.cell hS.fr (by assumption) rfl
 | exact hT.sha_start256.cell hS.fr (by assumption) rfl
 | exact hT.sha_start384.cell hS.fr (by assumption) rfl
 | exact hT.sha_start512.cell hS.fr (by assumption) rfl
 | exact hT.ed_primeLimbs.cell hS.fr (by assumption) rfl
 | exact hT.ed_curveLimbs.cell hS.fr (by assumption) rfl
 | exact hT.ed_rootLimbs.cell hS.fr (by assumption) rfl
 | exact hT.sha_k256.cell hS.fr (by assumption) rfl
 | exact hT.sha_k512.cell hS.fr (by assumption) rfl
 | exact hT.keyset_names.cell (hZ.st hS).fr (by assumption) rfl
 | exact hT.rsa1_infos.cell (hZ.st hS).fr (by assumption) rfl
 | exact hT.ed_orderLimbs.cell (hZ.st hS).fr (by assumption) rfl
 | exact hT.ed_baseLimbs.cell (hZ.st hS).fr (by assumption) rfl
 | exact hT.sha_start256.cell (hZ.st hS).fr (by assumption) rfl
 | exact hT.sha_start384.cell (hZ.st hS).fr (by assumption) rfl
 | exact hT.sha_start512.cell (hZ.st hS).fr (by assumption) rfl
 | exact hT.ed_primeLimbs.cell (hZ.st hS).fr (by assumption) rfl
 | exact hT.ed_curveLimbs.cell (hZ.st hS).fr (by assumption) rfl
 | exact hT.ed_rootLimbs.cell (hZ.st hS).fr (by assumption) rfl
 | exact hT.sha_k256.cell (hZ.st hS).fr (by assumption) rfl
 | exact hT.sha_k512.cell (hZ.st hS).fr (by assumption) rfl
 | ((with_reducible apply St.bxgN); exact hS; exact jd; exact aUg)
 | fail):P:=h
theorem aB {P:Prop} (h:P:=by
 first
 | ((with_reducible apply lO .add); first | (with_reducible exact mo _ _ _) | (with_reducible exact DK _ _ _) | (with_reducible exact Ep _ _ _))
 | ((with_reducible apply lO .sub); first | (with_reducible exact my _ _ _) | (with_reducible exact MT _ _ _) | (with_reducible exact NV _ _ _) | (with_reducible exact PY _ _ _))
 | ((with_reducible apply lO .mul); first | (with_reducible exact mp _ _ _) | (with_reducible exact Nt _ _ _))
 | ((with_reducible apply lO .lss); first | (with_reducible exact lS _ _ _) | (with_reducible exact En _ _ _) | (with_reducible exact Nd _ _ _) | (with_reducible exact Pp _ _ _))
 | ((with_reducible apply lO .eql); first | (with_reducible exact BE _ _ _) | (with_reducible exact MY _ _ _) | (with_reducible exact DH _ _ _) | (with_reducible exact PN _ _ _) | (with_reducible exact Pf _ _ _) | (with_reducible exact Oi _ _ _ rfl rfl) | ((with_reducible apply G4); exact rfl) | ((with_reducible apply Ia); exact rfl))
 | ((with_reducible apply lO .neq); first | (with_reducible exact H2 _ _ _) | (with_reducible exact xd _ _ _) | (with_reducible exact M3 _ _ _) | (with_reducible exact N3 _ _ _) | (with_reducible exact Qf _ _ _ rfl rfl) | ((with_reducible apply RP.eWne); assumption; exact rfl; assumption) | ((with_reducible apply Pc); exact rfl) | ((with_reducible apply OR); exact rfl))
 | ((with_reducible apply lO .gtr); first | (with_reducible exact vk _ _ _) | (with_reducible exact DV _ _ _) | (with_reducible exact NC _ _ _) | (with_reducible exact PS _ _ _))
 | ((with_reducible apply lO .geq); first | (with_reducible exact HD _ _ _) | (with_reducible exact L0 _ _ _) | (with_reducible exact Ng _ _ _) | (with_reducible exact P5 _ _ _))
 | ((with_reducible apply lO .leq); first | (with_reducible exact qr _ _ _) | (with_reducible exact MH _ _ _) | (with_reducible exact PT _ _ _))
 | ((with_reducible apply lO .and); first | (with_reducible exact Qe _ _ _) | (with_reducible exact NW _ _ _) | (with_reducible exact M4 _ _ _) | (with_reducible exact PH _ _ _))
 | ((with_reducible apply lO .or); first | (with_reducible exact PX _ _ _) | (with_reducible exact Ot _ _ _) | (with_reducible exact zv _ _ _))
 | ((with_reducible apply lO .xor); first | (with_reducible exact Ml _ _ _) | (with_reducible exact NH _ _ _) | (with_reducible exact Im _ _ _))
 | ((with_reducible apply lO .quo); first | ((with_reducible apply GW); first | decide | assumption) | ((with_reducible apply MD); first | decide | assumption))
 | ((with_reducible apply lO .rem); first | ((with_reducible apply Ca); first | decide | assumption) | ((with_reducible apply Dw); first | decide | assumption) | ((with_reducible apply OL); first | decide | assumption))
 | ((with_reducible apply lO .shr); first | (with_reducible exact jG _ _ _ 1 rfl) | (with_reducible exact jG _ _ _ 2 rfl) | (with_reducible exact jG _ _ _ 3 rfl) | (with_reducible exact jG _ _ _ 4 rfl) | (with_reducible exact jG _ _ _ 5 rfl) | (with_reducible exact jG _ _ _ 6 rfl) | (with_reducible exact jG _ _ _ 8 rfl) | (with_reducible exact jG _ _ _ 16 rfl) | (with_reducible exact jG _ _ _ 24 rfl) | (with_reducible exact jG _ _ _ 31 rfl) | (with_reducible exact jG _ _ _ 32 rfl) | (with_reducible exact Fp _ _ _) | ((with_reducible apply kE); first | assumption | decide) | (with_reducible exact ov _ _ _) | ((with_reducible apply Is); first | assumption | decide) | (with_reducible exact Iq _ _ _) | ((with_reducible apply IS); first | assumption | decide))
 | ((with_reducible apply lO .shl); first | (with_reducible exact ER _ _ _) | ((with_reducible apply Hq); first | assumption | decide) | (with_reducible exact EC _ _ _) | ((with_reducible apply GV); first | assumption | decide) | (with_reducible exact HP _ _ _) | ((with_reducible apply PJ); first | assumption | decide))
 | ((with_reducible apply lO .andNot); first | (with_reducible exact GN _ _ _))
 | ((with_reducible apply Np); (exact rfl); exact aB)
 | ((with_reducible apply MR); (exact rfl); exact aB)
 | ((with_reducible apply Mu); (exact rfl); exact aB)
 | ((with_reducible apply OJ); (exact rfl); exact aB)
 | ((with_reducible apply N8); (exact rfl); exact aB)
 | fail):P:=h
theorem aUN {P:Prop} (h:P:=by
 first
 | (with_reducible exact Ll _)
 | (with_reducible exact Pn _)
 | (with_reducible exact Mc _)
 | (with_reducible exact Mx _)
 | fail):P:=h
theorem aCV {P:Prop} (h:P:=by
 first
 | (with_reducible apply KL) <;> exact rfl
 | (with_reducible apply kV) <;> exact rfl
 | (with_reducible apply Dv) <;> exact rfl
 | (with_reducible apply JJ) <;> exact rfl
 | (with_reducible apply qs) <;> exact rfl
 | (with_reducible apply Nj) <;> exact rfl
 | (with_reducible apply MV) <;> exact rfl
 | (with_reducible apply P7) <;> exact rfl
 | (with_reducible apply oC) <;> exact rfl
 | (with_reducible apply Ho) <;> exact rfl
 | fail):P:=h
theorem aFA {P:Prop} (h:P:=by
 first
 | ((with_reducible apply kg (k:=0)); exact rfl; exact rfl; exact rfl; exact aNZ; exact rfl)
 | ((with_reducible apply kg (k:=1)); exact rfl; exact rfl; exact rfl; exact aNZ; exact rfl)
 | ((with_reducible apply kg (k:=2)); exact rfl; exact rfl; exact rfl; exact aNZ; exact rfl)
 | ((with_reducible apply kg (k:=3)); exact rfl; exact rfl; exact rfl; exact aNZ; exact rfl)
 | ((with_reducible apply kg (k:=4)); exact rfl; exact rfl; exact rfl; exact aNZ; exact rfl)
 | ((with_reducible apply kg (k:=5)); exact rfl; exact rfl; exact rfl; exact aNZ; exact rfl)
 | ((with_reducible apply kg (k:=6)); exact rfl; exact rfl; exact rfl; exact aNZ; exact rfl)
 | ((with_reducible apply kg (k:=7)); exact rfl; exact rfl; exact rfl; exact aNZ; exact rfl)
 | ((with_reducible apply kg (k:=8)); exact rfl; exact rfl; exact rfl; exact aNZ; exact rfl)
 | ((with_reducible apply kg (k:=9)); exact rfl; exact rfl; exact rfl; exact aNZ; exact rfl)
 | ((with_reducible apply kg (k:=10)); exact rfl; exact rfl; exact rfl; exact aNZ; exact rfl)
 | ((with_reducible apply kg (k:=11)); exact rfl; exact rfl; exact rfl; exact aNZ; exact rfl)
 | ((with_reducible apply kg (k:=13)); exact rfl; exact rfl; exact rfl; exact aNZ; exact rfl)
 | ((with_reducible apply kg (k:=17)); exact rfl; exact rfl; exact rfl; exact aNZ; exact rfl)
 | ((with_reducible apply kg (k:=145)); exact rfl; exact rfl; exact rfl; exact aNZ; exact rfl)
 | ((with_reducible apply iL (k:=0)); exact rfl; exact rfl; exact rfl; exact aNZ; exact rfl)
 | ((with_reducible apply iL (k:=1)); exact rfl; exact rfl; exact rfl; exact aNZ; exact rfl)
 | ((with_reducible apply iL (k:=2)); exact rfl; exact rfl; exact rfl; exact aNZ; exact rfl)
 | ((with_reducible apply iL (k:=3)); exact rfl; exact rfl; exact rfl; exact aNZ; exact rfl)
 | ((with_reducible apply iL (k:=4)); exact rfl; exact rfl; exact rfl; exact aNZ; exact rfl)
 | ((with_reducible apply iL (k:=5)); exact rfl; exact rfl; exact rfl; exact aNZ; exact rfl)
 | ((with_reducible apply iL (k:=6)); exact rfl; exact rfl; exact rfl; exact aNZ; exact rfl)
 | ((with_reducible apply iL (k:=7)); exact rfl; exact rfl; exact rfl; exact aNZ; exact rfl)
 | ((with_reducible apply iL (k:=8)); exact rfl; exact rfl; exact rfl; exact aNZ; exact rfl)
 | ((with_reducible apply iL (k:=9)); exact rfl; exact rfl; exact rfl; exact aNZ; exact rfl)
 | ((with_reducible apply iL (k:=10)); exact rfl; exact rfl; exact rfl; exact aNZ; exact rfl)
 | ((with_reducible apply iL (k:=11)); exact rfl; exact rfl; exact rfl; exact aNZ; exact rfl)
 | fail):P:=h
theorem aLd {P:Prop} (h:P:=by
 first
 | ((with_reducible apply oX); (case hT=>exact rfl); exact rfl; exact rfl; exact aRO; exact aGO; exact rfl)
 | ((with_reducible apply cb); (case hT=>exact rfl); exact rfl; exact rfl; exact Qn)
 | ((with_reducible apply Nh); (case hT=>exact rfl); exact rfl; exact rfl; exact hS; exact jd; exact aSZ)
 | ((with_reducible apply ME); (case hT=>exact rfl); exact rfl; exact rfl; exact aRO; exact aGO; exact rfl; exact rfl)
 | ((with_reducible apply mQ); (case hT=>exact rfl); exact rfl; exact aSZ; (case hx=>exact rfl); (case hc=>exact aTb); exact aLn)
 | ((with_reducible apply mQ); (case hT=>exact rfl); exact rfl; exact aSZ; (case hx=>exact rfl); (case hc=>((with_reducible apply St.bxgs0); exact hS; exact jd; exact aUp)); exact aLs)
 | ((with_reducible apply mQ); (case hT=>exact rfl); exact rfl; exact aSZ; (case hx=>exact rfl); (case hc=>((with_reducible apply St.bxgs0); exact hS; exact jd; exact aUh)); exact aLs)
 | fail):P:=h
theorem aV {P:Prop} (h:P:=by
 first
 | (with_reducible exact Mi rfl)
 | (with_reducible exact I0 rfl)
 | (with_reducible exact KR rfl)
 | ((with_reducible apply oN); exact rfl)
 | ((with_reducible apply dp); exact rfl)
 | ((with_reducible apply bH); exact rfl; exact rfl; exact aB)
 | ((with_reducible apply LD); exact rfl; exact rfl; exact aRO; exact jE.len (by assumption))
 | ((with_reducible apply gt); exact rfl; exact rfl; exact aRO)
 | ((with_reducible apply IC); exact rfl; exact rfl)
 | ((with_reducible apply ya); exact rfl; exact rfl)
 | ((with_reducible apply yE); exact rfl; exact rfl)
 | ((with_reducible apply GC); exact rfl; exact aUN)
 | ((with_reducible apply fK); exact rfl; exact aCV)
 | ((with_reducible apply B4); exact rfl; exact rfl)
 | ((with_reducible apply gW); exact rfl)
 | ((with_reducible apply RT); exact aFA)
 | ((with_reducible apply Po); exact aLd)
 | ((with_reducible apply F2); exact rfl)
 | ((with_reducible apply JW); exact rfl)
 | ((with_reducible apply kw); exact rfl; exact aSZ; exact rfl; exact rfl; decide; decide)
 | ((with_reducible apply sY); exact rfl; exact rfl)
 | ((with_reducible apply MP); exact rfl; exact rfl)
 | ((with_reducible apply F7); exact aEv; exact Rx; exact zD; exact rfl)
 | ((with_reducible apply DN); exact rfl; exact rfl; exact rfl; exact rfl; exact aRO)
 | fail):P:=h
theorem aVb {P:Prop} (h:P:=by
 first
 | ((with_reducible apply Nx); exact rfl; exact aSZ; exact rfl; exact rfl; ((with_reducible apply Ej); exact hx; exact aLn))
 | ((with_reducible apply JH); exact rfl; (case hE=>exact rfl); exact rfl; exact aSZ; exact rfl; exact rfl; ((with_reducible apply Ej); exact hx; exact aLn); (first | ((with_reducible apply xn); exact hx; exact rfl) | exact xn (e:=e32) hx rfl | exact xn (e:=e64) hx rfl))
 | ((with_reducible apply PL (e:=e8)); exact rfl; exact aSZ; exact rfl; exact rfl; exact rfl; exact rfl; exact aLn; exact hx)
 | ((with_reducible apply Qp (e:=e8)); exact rfl; exact aSZ; exact rfl; exact rfl; exact rfl; exact aLn; exact hx)
 | (have hc0:=e0; (with_reducible apply W_sl); exact rfl; rotate_left; exact rfl; exact rfl; exact rfl; exact aRO; exact hx; (case hE=>exact aTI))
 | ((with_reducible apply oY); exact rfl; rotate_left; exact rfl; exact rfl; exact aRO; exact hx; (case hE=>exact aTI))
 | ((with_reducible apply Qo); exact rfl; rotate_left; exact rfl; exact rfl; exact rfl; exact rfl; exact aRO; exact hx; (case hE=>exact aTI))
 | ((with_reducible apply Q3); exact rfl; exact rfl; exact rfl; exact hx)
 | ((with_reducible apply Px); exact rfl; exact rfl; exact rfl; exact hx)
 | ((with_reducible apply PW); exact rfl; rotate_left; exact rfl; exact rfl; exact rfl; exact aRO; exact hx; (case hE=>exact aTI))
 | ((with_reducible apply uW); exact rfl; rotate_left; exact rfl; exact rfl; exact aRO; exact hx; (case hE=>exact aTI))
 | ((with_reducible apply Lo); exact rfl; rotate_left; exact rfl; exact rfl; exact aRO; exact hx; (case hE=>exact aTI))
 | ((with_reducible apply Po); exact aLd)
 | fail):P:=h
theorem aVg {P:Prop} (h:P:=by
 first
 | ((with_reducible apply H1); exact rfl; rotate_left; exact rfl; exact rfl; exact rfl; exact aRO; assumption; (case hE=>exact aTI))
 | ((with_reducible apply Lo); exact rfl; rotate_left; exact rfl; exact rfl; exact aRO; exact Iw (by assumption); (case hE=>exact aTI))
 | fail):P:=h
theorem aAs {P:Prop} (h:P:=by
 first
 | ((with_reducible apply dp); exact (by subst hx; rfl:_=some (vI x)))
 | ((with_reducible apply dp); exact (by subst hx; rfl:_=some (v64 x)))
 | ((with_reducible apply dp); exact (by subst hx; rfl:_=some (v32 x)))
 | ((with_reducible apply dp); exact (by subst hx; rfl:_=some (v8 x)))
 | ((with_reducible apply dp); exact (by subst hx; rfl:_=some (vB x)))
 | fail):P:=h
theorem aX {P:Prop} (h:P:=by
 first
 | ((with_reducible apply kx (e:=e32)); exact rfl; exact aTI; exact rfl; exact rfl; exact rfl; exact aFl; decide; decide; exact hS)
 | ((with_reducible apply kx (e:=e8)); exact rfl; exact aTI; exact rfl; exact rfl; exact rfl; exact aFl; decide; decide; exact hS)
 | ((with_reducible apply HR); exact rfl; exact aTI; exact Ko; exact rfl; exact rfl; decide; decide; exact hS)
 | ((with_reducible apply OM); exact rfl; exact hS; exact jd; exact rfl; exact aTI; exact rfl)
 | ((with_reducible apply AN (e:=e8)); exact rfl; exact ti5; exact hS)
 | ((with_reducible apply AN (e:=e32)); exact rfl; exact aTI; exact hS)
 | ((with_reducible apply kx (e:=eV)); exact rfl; exact aTI; exact rfl; exact rfl; exact rfl; exact aFl; decide; decide; exact hS)
 | ((with_reducible apply kx (e:=eI)); exact rfl; exact aTI; exact rfl; exact rfl; exact rfl; exact aFl; decide; decide; exact hS)
 | ((with_reducible apply kx (e:=eS)); exact rfl; exact aTI; exact rfl; exact rfl; exact rfl; exact aFl; decide; decide; exact hS)
 | ((with_reducible apply Hr); exact rfl; exact rfl; exact rfl; exact rfl; exact hS)
 | ((with_reducible apply FQ); exact rfl; exact rfl; exact rfl; exact hS; exact jd; exact (by simp))
 | ((with_reducible apply K9); exact rfl; exact hS)
 | ((with_reducible apply Jj); exact rfl; exact A9; exact hS)
 | ((with_reducible apply FT); exact aTZ; exact hS)
 | ((with_reducible apply Ey); exact aTZ; exact rfl; exact hS)
 | ((with_reducible apply IA (e:=e32)); exact rfl; exact aTI; exact rfl; exact rfl; exact rfl; exact hS; exact jd; exact aRO)
 | ((with_reducible apply IA (e:=e8)); exact rfl; exact aTI; exact rfl; exact rfl; exact rfl; exact hS; exact jd; exact aRO)
 | fail):P:=h
theorem aXb {P:Prop} (h:P:=by
 first
 | ((with_reducible apply Cn (e:=e32)); exact rfl; rotate_left; rotate_left; exact rfl; exact rfl; exact hS; exact hx; (case hE=>exact aTI); (case hz=>exact rfl))
 | ((with_reducible apply Cn (e:=e8)); exact rfl; rotate_left; rotate_left; exact rfl; exact rfl; exact hS; exact hx; (case hE=>exact aTI); (case hz=>exact rfl))
 | ((with_reducible apply qz); exact rfl; rotate_left; rotate_left; exact rfl; exact rfl; exact hS; exact jd; exact aRO; exact hx; (case hE=>exact aTI); (case hz=>exact rfl))
 | ((with_reducible apply Hc); exact rfl; rotate_left; rotate_left; exact rfl; exact rfl; exact hS; exact aRO; exact hx; (case hE=>exact aTI); (case hz=>exact rfl))
 | ((with_reducible apply yB); exact rfl; exact rfl; exact ti5; exact rfl; exact rfl; exact hS; exact jd; exact hx)
 | ((with_reducible apply FF); exact rfl; exact rfl; rotate_left; rotate_left; exact rfl; exact rfl; exact hS; exact aRO; exact hx; (case hE=>exact aTI); (case hz=>exact rfl))
 | fail):P:=h
theorem aY {P:Prop} (h:P:=by
 first
 | ((with_reducible apply Mq); exact rfl; exact rfl; exact hS; exact jd; exact rfl; exact zD; exact aSZ)
 | ((with_reducible apply NB); exact rfl; exact rfl; exact hS; exact jd; exact rfl; exact A9; exact aSZ)
 | ((with_reducible apply L3); exact rfl; exact rfl; exact hS; exact jd; exact rfl; exact zD; exact aSZ)
 | ((with_reducible apply qX); exact aTI; exact rfl; exact rfl; exact hS; exact jd; assumption; (first | exact rfl | exact cl8 rfl))
 | ((with_reducible apply B1); exact aTI; exact rfl; exact rfl; exact hS; exact jd; assumption; assumption; (first | exact rfl | exact cl8 rfl))
 | ((with_reducible apply M1); exact hS; exact rfl; exact jd; exact aSZ; exact rfl; exact rfl; (with_reducible apply Up.elt); exact aUp; assumption; exact rfl; exact rfl)
 | ((with_reducible apply DG); exact hS; exact rfl; exact jd; exact aSZ; exact rfl; exact aUp; exact aLs; exact aLs; exact aO1)
 | ((with_reducible apply DG); exact hS; exact rfl; exact jd; exact aSZ; exact rfl; exact aUh; exact aLs; exact aLs; exact aO1)
 | fail):P:=h
theorem aEv {P:Prop} (h:P:=by
 first
 | exact EvP.nil _
 | ((with_reducible apply EvP.cons); exact rfl; exact aEv)
 | fail):P:=h
theorem nk {P:Prop} (h:P:=by
 first
 | exact Len.nil _
 | ((with_reducible apply Len.consE); exact aEr; exact nk)
 | ((with_reducible apply Len.trE); exact aEr; exact aHk; exact nk)
 | ((apply Len.own0 e32); exact nk)
 | ((apply Len.own0 e8); exact nk)
 | fail):P:=h
theorem A9 {P:Prop} (h:P:=by
 first
 | exact rfl
 | ((with_reducible apply RO.one); exact aRO)
 | fail):P:=h
theorem zD {P:Prop} (h:P:=by
 first
 | exact trivial
 | (apply And.intro; exact A9; exact zD)
 | fail):P:=h
theorem AA {P:Prop} (h:P:=by
 first
 | exact Spl.n
 | ((with_reducible apply Spl.o); exact AA)
 | ((with_reducible apply Spl.b); exact AA)
 | ((with_reducible apply Spl.k); exact AA)
 | fail):P:=h
theorem aMo {P:Prop} (h:P:=by
 first
 | exact Mo.o _
 | exact Mo.b _
 | ((with_reducible apply Mo.t); exact aMo)
 | fail):P:=h
theorem aSu {P:Prop} (h:P:=by
 first
 | exact Su.n
 | ((with_reducible apply Su.e); exact ra; exact aSu)
 | ((with_reducible apply Su.o); exact aMo; exact aSu)
 | fail):P:=h
theorem pd {P:Prop} (h:P:=by
 first
 | exact Sel.nil _
 | ((apply Sel.own0 e32); exact pd)
 | ((apply Sel.own0 e8); exact pd)
 | ((with_reducible apply Sel.own0); exact pd)
 | ((apply Sel.red0 e8); exact pd)
 | ((apply Sel.red0 e32); exact pd)
 | ((with_reducible apply Sel.consE); exact aEr; exact pd)
 | ((with_reducible apply Sel.tr3E); exact aEr; exact aHk; exact pd)
 | ((with_reducible apply Sel.trE); exact aEr; exact aHk; exact pd)
 | ((with_reducible apply Sel.tr3tE); exact aEr; exact aHk; exact aHk; exact pd)
 | fail):P:=h
theorem aSt {P:Prop} (h:P:=by
 first
 | exact hS
 | ((with_reducible apply St.by); exact hS; exact pd)
 | fail):P:=h
theorem aLe {P:Prop} (h:P:=by
 first
 | exact trivial
 | ((with_reducible apply LeC); exact rfl; exact aLe)
 | ((with_reducible apply LeC); (simp only[Env.get,Nat.beq,cond]; try exact rfl); exact aLe)
 | fail):P:=h
theorem aI {P:Prop} (h:P:=by
 first
 | exact rfl
 | exact hS
 | exact SL hZ hS
 | ((with_reducible apply St.by); exact hZ.st hS; exact pd)
 | ((with_reducible apply RD); exact hZ; exact hTT; exact hA; exact hP; exact hS; exact aSu)
 | ((with_reducible apply sfL); exact hZ; exact hTT; exact hA; exact hP; exact hS; exact nk; exact aSu)
 | ((with_reducible apply Ju); exact aI)
 | ((with_reducible apply KK); exact aI)
 | ((with_reducible apply And.intro) <;> exact aI)
 | ((simp only[sA,o7,bL,iy,fZ,bT]); exact aI)
 | ((with_reducible apply Exists.intro); exact aI)
 | exact aSt
 | assumption
 | exact trivial
 | exact aw _
 | exact aLn
 | fail):P:=h
theorem aRV {P:Prop} (h:P:=by
 first
 | exact (rfl:Env.get _ _=_)
 | ((with_reducible apply rvA); exact rfl; (case hT=>exact rfl); exact rfl; exact hS; exact jd; exact aSZ)
 | fail):P:=h
theorem aFl {P:Prop} (h:P:=by
 first
 | exact Q7
 | exact R8
 | exact Sn
 | exact R1
 | exact SS
 | ((with_reducible apply SO); exact aFl)
 | ((with_reducible apply Sr); exact aFl)
 | ((with_reducible apply sE); ((with_reducible apply RO.sv); exact aRO); exact aFl)
 | ((with_reducible apply QI); exact aFl)
 | ((with_reducible apply RS); exact aFl)
 | ((with_reducible apply Rh); exact rfl; exact aFl)
 | ((with_reducible apply Rn); exact rfl; exact aFl)
 | fail):P:=h
theorem OC {P:Prop} (h:P:=by
 first
 | exact jE.n _
 | ((with_reducible apply jE.c); exact aRO; exact OC)
 | fail):P:=h
theorem CD {P:Prop} (h:P:=by
 first
 | exact OC
 | ((with_reducible apply RO.rp); exact aRO)
 | exact hT.now hS.fr
 | exact hT.now (hZ.st hS).fr
 | assumption
 | exact (rfl:List.length _=_)
 | ((with_reducible apply RB.now); ((with_reducible apply Rds.rbm); exact hA; exact ra); exact hS.fr)
 | ((with_reducible apply RP.give); ((with_reducible apply Rds.rpm); exact hA; exact ra); exact (ao rfl); exact hG)
 | ((with_reducible apply RB.give); ((with_reducible apply Rds.rbm); exact hA; exact ra); exact hG)
 | ((with_reducible apply RP.give); assumption; exact (ao rfl); exact hG)
 | exact hT.give hG
 | ((with_reducible apply N5); exact hG; exact jd)
 | ((with_reducible apply Qi); exact hG; exact jd)
 | ((with_reducible apply RB.give); assumption; exact hG)
 | ((with_reducible apply RB.now); assumption; exact hS.fr)
 | ((with_reducible apply St.rbN); exact hS; exact jd)
 | ((with_reducible apply RO.whole); exact aRO)
 | ((with_reducible apply Ry); exact aRO; assumption)
 | ((with_reducible apply RP.give); ((with_reducible apply RP.tk3); assumption; assumption); exact (ao rfl); exact hG)
 | ((with_reducible apply RP.give); ((with_reducible apply RP.W_sl); assumption; assumption); exact (ao rfl); exact hG)
 | ((with_reducible apply RP.give); ((with_reducible apply RP.g_sl); assumption; assumption); exact (ao rfl); exact hG)
 | fail):P:=h
theorem LK {P:Prop} (h:P:=by
 first
 | exact hTk
 | ((with_reducible apply dK); exact hA'; exact hP'; exact ra)
 | ((with_reducible apply QY); exact hA'; exact hP'; exact ra)
 | exact hT.now (hZ.st hS).fr
 | assumption
 | fail):P:=h
theorem Fg {P:Prop} (h:P:=by
 first
 | ((with_reducible apply iQ); (first | ((with_reducible (first | apply xD | apply Bf | apply Cp | apply yN | apply yZ | apply BP | apply wo | apply wF | apply vY | apply wP | apply BJ | apply iu | apply zP | apply oQ | apply tZ | apply rW | apply tq | apply rC | apply Be | apply tY | apply sH | apply rS | apply zd | apply zb | apply yM | apply CF | apply yL | apply Cu | apply jM | apply yJ | apply tS | apply zY | apply yI | apply yY | apply xp | apply gE | apply f8 | apply gD | apply uo | apply wX | apply Ab | apply CM | apply y8 | apply F0 | apply uh | apply wV | apply sG | apply yR | apply wy | apply xA | apply Cg | apply wD | apply CL | apply q7 | apply EQ | apply lV | apply lN | apply Fy | apply JS | apply AD)); (case h=>first | with_reducible exact hx | exact hx)) | ((with_reducible (first | apply FH | apply GK | apply yU | apply De | apply Ev | apply lh | apply kX | apply jX | apply u5 | apply iT | apply ip | apply io | apply L4 | apply Dj | apply C5 | apply zh | apply EH | apply zR | apply Ci | apply Ga | apply Fa | apply C3 | apply zi | apply A6 | apply yK | apply Cl | apply xc | apply uD | apply vR | apply ze | apply c_law31_CoseOthers | apply uB | apply su | apply lE | apply p7 | apply ou | apply nG | apply mV | apply tw | apply y7 | apply tx | apply nZ | apply tv | apply oZ | apply pa | apply y9 | apply lF | apply up | apply Dd | apply sk | apply pJ | apply EY | apply AT | apply EX | apply Es | apply CY | apply EF | apply Et | apply Bu)); (case h=>first | with_reducible exact hx | exact hx)) | ((with_reducible (first | apply vK | apply Df | apply Fh | apply FG | apply xL | apply Gx | apply CJ | apply xw | apply wY | apply CK | apply Fj | apply AV | apply Ii | apply G9 | apply xK | apply Gs | apply C7 | apply Db | apply FE | apply Cw | apply Dl | apply zV | apply FK | apply Bp | apply za | apply yX | apply E3 | apply tM | apply yq | apply yn | apply yW | apply CS | apply BZ)); (case h=>first | with_reducible exact hx | exact hx))); (case e=>exact rfl); (all_goals exact CD))
 | fail):P:=h
theorem aCG {P:Prop} (h:P:=by
 first
 | ((with_reducible apply LC.m); (intro hG; (with_reducible apply iQ); (first | ((with_reducible apply hrc); any_goals (with_reducible exact hx)) | ((with_reducible (first | apply yG | apply mi | apply pM | apply qu | apply uO | apply ui | apply qh | apply uu | apply ut | apply pi | apply pY | apply rJ | apply sB | apply pW | apply mx | apply pS | apply pR | apply pN | apply mj | apply n8 | apply KN | apply E0 | apply ES | apply ET | apply Fm | apply rA | apply ry | apply om | apply ol | apply pj)); (case h=>first | with_reducible exact hx | exact hx)) | ((with_reducible apply rB); (case h=>with_reducible exact hx)) | ((with_reducible apply ph); (case h=>with_reducible exact hx)) | ((with_reducible apply pg); (case h=>with_reducible exact hx)) | ((with_reducible apply mK); (case h=>with_reducible exact hx)) | ((with_reducible apply qB); (case h=>with_reducible exact hx)) | ((with_reducible apply uF); (case h=>with_reducible exact hx)) | ((with_reducible apply rf); (case h=>with_reducible exact hx)) | ((with_reducible apply qY); (case h=>with_reducible exact hx)) | ((with_reducible apply rz); (case h=>with_reducible exact hx)) | ((with_reducible apply pf); (case h=>with_reducible exact hx)) | ((with_reducible apply tV); (case h=>with_reducible exact hx)) | ((with_reducible apply qH); (case h=>with_reducible exact hx)) | ((with_reducible apply qx); (case h=>with_reducible exact hx)) | ((with_reducible apply zZ); (case h=>with_reducible exact hx))); (case e=>exact rfl); (case hS=>(with_reducible apply St.give); exact hG)); (case hL=>exact nk); (all_goals exact CD))
 | fail):P:=h
theorem aCZ {P:Prop} (h:P:=by
 first
 | (intro hZ' hTk hA' hP' hS'; (try dsimp only[List.cons_append,List.nil_append]at hA' hP'); (with_reducible apply iQ); (((with_reducible (first | apply AY | apply Cy | apply EM | apply r9 | apply BV | apply qQ | apply tz | apply se | apply vA)); (case h=>with_reducible exact hx))); (case e=>exact rfl); (all_goals exact LK))
 | fail):P:=h
theorem aKs {P:Prop} (h:P:=by
 first
 | exact Ks.a _
 | exact Ks.n rfl _
 | exact Ks.z
 | ((with_reducible apply Ks.b); exact aKs)
 | ((with_reducible apply Ks.d); exact aKs)
 | fail):P:=h
theorem qJ {P:Prop} (h:P:=by
 first
 | exact hT.now hF
 | exact CD
 | fail):P:=h
theorem aLk {P:Prop} (h:P:=by
 first
 | exact Lk.h _ _
 | ((with_reducible apply Lk.t); exact aLk)
 | fail):P:=h
theorem aLx {P:Prop} (h:P:=by
 first
 | exact Lx.h _ _
 | exact Lx.n
 | ((with_reducible apply Lx.t); exact aLx)
 | fail):P:=h
theorem aLg {P:Prop} (h:P:=by
 first
 | exact Lg.h _ _ _
 | ((with_reducible apply Lg.t); exact aLg)
 | fail):P:=h
theorem aAp {P:Prop} (h:P:=by
 first
 | exact Ap.n _
 | ((with_reducible apply Ap.c); exact aAp)
 | fail):P:=h
theorem aCm {P:Prop} (h:P:=by
 first
 | exact Hm.n
 | ((with_reducible apply Hm.c); exact aLg; exact aCm)
 | exact Bm.n _
 | ((with_reducible apply Bm.c); exact aLx; exact aCm; exact aAp)
 | exact Cm.n _
 | exact Ck.n _
 | ((with_reducible apply Cm.c); exact aLg; exact aCm; exact aAp)
 | ((with_reducible apply Ck.c); exact aLg; exact aCm; exact aAp)
 | fail):P:=h
theorem aHx {P:Prop} (h:P:=by
 first
 | apply rfl
 | ((with_reducible apply And.intro); exact aHx; exact aHx)
 | ((with_reducible apply Exists.intro); (case h=>exact aHx); (try (first | exact (0:Nat) | exact undef)))
 | fail):P:=h
theorem aNs {P:Prop} (h:P:=by
 first
 | exact NsM.n
 | ((with_reducible apply NsM.c); (intro h v x y hT1; (iterate 24 (try (obtain⟨hq,hT1⟩:=hT1))); (try subst hT1); exact rfl); exact aNs)
 | fail):P:=h
theorem aMf {P:Prop} (h:P:=by
 first
 | ((with_reducible apply Exists.intro); (with_reducible apply Exists.intro); (with_reducible apply And.intro); (iterate 12 (try (with_reducible apply Exists.intro))); (iterate 4 (try ((with_reducible apply And.intro); apply rfl))); (apply rfl); (case right=>((try dsimp only[List.cons_append,List.nil_append]); (with_reducible apply sfL); exact hZ; exact hTT; exact hA; exact hP; exact hS; exact nk; exact aSu)); (try (any_goals (first | exact (0:Nat) | exact undef))))
 | fail):P:=h
theorem Rt {P:Prop} (h:P:=by
 first
 | ((with_reducible apply iQ); (with_reducible first | apply iu | apply gE | apply f8 | apply gD | apply lV | apply lN | apply lh | apply kX | apply jX | apply iT | apply ip | apply io); (case h=>with_reducible exact hx1); (case e=>exact rfl); (all_goals exact qJ))
 | fail):P:=h
theorem Sj {P:Prop} (h:P:=by
 first
 | ((with_reducible apply iQ); (with_reducible first | apply iu | apply gE | apply f8 | apply gD | apply lV | apply lN | apply lh | apply kX | apply jX | apply iT | apply ip | apply io); (case h=>with_reducible exact hx2); (case e=>exact rfl); (all_goals exact qJ))
 | fail):P:=h
theorem Sa {P:Prop} (h:P:=by
 first
 | ((with_reducible apply iQ); (with_reducible first | apply iu | apply gE | apply f8 | apply gD | apply lV | apply lN | apply lh | apply kX | apply jX | apply iT | apply ip | apply io); (case h=>with_reducible exact hx3); (case e=>exact rfl); (all_goals exact qJ))
 | fail):P:=h
theorem RU {P:Prop} (h:P:=by
 first
 | ((with_reducible apply iQ); (with_reducible first | apply iu | apply gE | apply f8 | apply gD | apply lV | apply lN | apply lh | apply kX | apply jX | apply iT | apply ip | apply io); (case h=>with_reducible exact hx4); (case e=>exact rfl); (all_goals exact qJ))
 | fail):P:=h
theorem SN {P:Prop} (h:P:=by
 first
 | ((with_reducible apply iQ); (with_reducible first | apply iu | apply gE | apply f8 | apply gD | apply lV | apply lN | apply lh | apply kX | apply jX | apply iT | apply ip | apply io); (case h=>with_reducible exact hx5); (case e=>exact rfl); (all_goals exact qJ))
 | fail):P:=h
theorem SI {P:Prop} (h:P:=by
 first
 | ((with_reducible apply iQ); (with_reducible first | apply iu | apply gE | apply f8 | apply gD | apply lV | apply lN | apply lh | apply kX | apply jX | apply iT | apply ip | apply io); (case h=>with_reducible exact hx6); (case e=>exact rfl); (all_goals exact qJ))
 | fail):P:=h
theorem Ss {P:Prop} (h:P:=by
 first
 | ((with_reducible apply iQ); (with_reducible first | apply iu | apply gE | apply f8 | apply gD | apply lV | apply lN | apply lh | apply kX | apply jX | apply iT | apply ip | apply io); (case h=>with_reducible exact hx7); (case e=>exact rfl); (all_goals exact qJ))
 | fail):P:=h
theorem RG {P:Prop} (h:P:=by
 first
 | ((with_reducible apply LC.m); (intro hG; (with_reducible apply iQ); (with_reducible first | apply mK | apply mj); (case h=>with_reducible exact hx2); (case e=>exact rfl); (case hS=>(with_reducible apply St.give); exact hG)); (case hL=>exact nk); (all_goals exact CD))
 | fail):P:=h
theorem RE {P:Prop} (h:P:=by
 first
 | ((with_reducible apply LC.m); (intro hG; (with_reducible apply iQ); (with_reducible first | apply mK | apply mj); (case h=>with_reducible exact hx3); (case e=>exact rfl); (case hS=>(with_reducible apply St.give); exact hG)); (case hL=>exact nk); (all_goals exact CD))
 | fail):P:=h
theorem aMl {P:Prop} (h:P:=by
 first
 | exact RG
 | exact RE
 | fail):P:=h
theorem aMC {P:Prop} (h:P:=by
 first
 | (intro w Sl Tl hF hZ hTT hA hP hS; (try dsimp only[List.cons_append,List.nil_append]at hA hP hS); first | ((with_reducible apply sL); (case h=>first | exact Rt | exact Sj | exact Sa | exact RU | exact SN | exact SI | exact Ss); intro v w hT1; (iterate 9 (try (first | (replace hS:=hS.call hT1; clear hT1; (try dsimp only[List.set,List.eraseIdx,List.cons_append,List.nil_append]at hS)) | (obtain⟨hq,hT1⟩:=hT1; try subst hq)))); exact aMf) | ((with_reducible apply FV); exact hS; exact aMl; intro v w hT1 hG; (iterate 9 (try (first | (replace hS:=hG.back hT1; clear hT1 hG; (try dsimp only[List.set,List.eraseIdx,List.cons_append,List.nil_append]at hS)) | (replace hS:=hS.call hT1; clear hT1; (try dsimp only[List.set,List.eraseIdx,List.cons_append,List.nil_append]at hS)) | (obtain⟨hq,hT1⟩:=hT1; try subst hq)))); exact aMf) | ((with_reducible apply Io); exact hZ; exact hTT; exact hA; exact hP; exact hS; exact AA; (case hc=>(intro hZ' hTk hA' hP' hS'; (try dsimp only[List.cons_append,List.nil_append]at hA' hP'); (with_reducible apply iQ); (with_reducible apply se); (first | (case h=>with_reducible exact hx1) | (case h=>with_reducible exact hx2) | (case h=>with_reducible exact hx3) | (case h=>with_reducible exact hx4) | (case h=>with_reducible exact hx5) | (case h=>with_reducible exact hx6) | (case h=>with_reducible exact hx7)); (case e=>exact rfl); (all_goals exact LK))); intro v w hT1 hZ hA hP hS; (try dsimp only[List.cons_append,List.nil_append]at hA hP); (iterate 12 (try (first | (have hR1:Rds _ _ _:=hT1; clear hT1; obtain⟨_,_,hZ,hA,hP,hS⟩:=hZ.callK hA hP hS hS1 hR1 rfl; clear hR1; (try dsimp only[List.cons_append,List.nil_append]at hA hP)) | (obtain⟨hq,hT1⟩:=hT1; first | subst hq | (have hS1:St _ _ _ _:=hq; clear hq) | skip)))); exact aMf))
 | fail):P:=h
theorem aMN {P:Prop} (h:P:=by
 first
 | (intro w Sl Tl hF hZ hTT hA hP hS; (try dsimp only[List.cons_append,List.nil_append]at hA hP hS); first | ((with_reducible apply QC); exact aV; exact aMf) | ((with_reducible apply MG); exact aX; intro v w hT1; (iterate 4 (try (first | (have hS9:St _ _ _ _:=hT1; clear hT1; (try clear hS); have hS:=hS9; clear hS9) | (obtain⟨hq,hT1⟩:=hT1; try subst hq)))); (try dsimp only[List.set]at hS); (try (unfold spl at hS; dsimp only[List.take,List.drop,List.length,List.nil_append,List.cons_append,Nat.zero_add,Nat.add_zero]at hS)); (try (obtain⟨x,hx,h⟩:=jp h; rw[hx]at hS)); exact aMf))
 | fail):P:=h
theorem aMY {P:Prop} (h:P:=by
 first
 | (intro w Sl Tl hF hZ hTT hA hP hS; (try dsimp only[List.cons_append,List.nil_append]at hA hP hS); (with_reducible apply NU); exact aY; intro w hS; (try dsimp only[List.set]at hS); (try (unfold spl at hS; dsimp only[List.take,List.drop,List.length,List.nil_append,List.cons_append,Nat.zero_add,Nat.add_zero]at hS)); (try (obtain⟨x,hx,h⟩:=jp h; rw[hx]at hS)); exact aMf)
 | fail):P:=h
theorem aOd {P:Prop} (h:P:=by
 first
 | (with_reducible exact Oc.lf _)
 | ((with_reducible apply Oc.t); exact aOd)
 | ((with_reducible apply Oc.e); exact aOd)
 | ((with_reducible apply Oc.g); exact aOd)
 | ((with_reducible apply Oc.b); intro x; exact aOd)
 | ((with_reducible apply Oc.l); intro x; exact aOd)
 | fail):P:=h
theorem aOc {P:Prop} (h:P:=by
 first
 | (with_reducible exact Oc.lf _)
 | ((with_reducible apply Oc.t); exact aOd)
 | ((with_reducible apply Oc.e); exact aOd)
 | ((with_reducible apply Oc.g); exact aOd)
 | ((with_reducible apply Oc.b); intro x; exact aOd)
 | ((with_reducible apply Oc.l); intro x; exact aOd)
 | (apply Oc.t; exact aOd)
 | (apply Oc.e; exact aOd)
 | (apply Oc.g; exact aOd)
 | (apply Oc.b; intro x; exact aOd)
 | (apply Oc.l; intro x; exact aOd)
 | exact Oc.z _
 | fail):P:=h
theorem aKn {P:Prop} (h9:P:=by with_reducible (first | exact kq1 h | exact kq2 h | exact kq3 h | exact kq4 h | exact kq5 h | exact kq6 h | exact kq7 h | exact kq8 h | exact ocx h)):P:=h9
theorem aH {P:Prop} (h9:P:=by first | with_reducible exact h | ((fail_if_success (have h8:True:=aKn)); exact h)):P:=h9
set_option maxRecDepth 20000
theorem wk {P:Prop} (h:P:=by
 repeat' (first
 | ((with_reducible apply isR); first | (with_reducible exact nN h) | (with_reducible apply dy) | (have hT8:=hT1; clear hT8; first | (have hR1:Rds _ _ _:=hT1; clear hT1; obtain⟨_,_,hZ,hA,hP,hS⟩:=hZ.callK hA hP hS hS1 hR1 rfl; clear hR1; (try dsimp only[List.cons_append,List.nil_append]at hA hP)) | (have hS1:St _ _ _ _:=hT1; clear hT1; obtain⟨_,_,hZ,hA,hP,hS⟩:=hZ.callK hA hP hS hS1 Rds.nil rfl; (try dsimp only[List.cons_append,List.nil_append]at hA hP)) | (refine KP hT1 ?_ ?_ <;> clear hT1 <;> (first | (intro hc hT1; have h:=sO h hc) | (intro c hc hT1; have h:=s9 h hc))) | (obtain⟨hq,hT1⟩:=hT1; first | subst hq | (have hS1:St _ _ _ _:=hq; clear hq) | skip)) | ((with_reducible apply HY); exact rfl; exact rfl; assumption; exact rfl; intro hz; subst hz) | ((with_reducible apply QD); have h9:=jp aH; clear h; obtain⟨x,hx,h⟩:=h9; (with_reducible apply aQ); exact aAs; exact rfl) | ((with_reducible apply aQ); exact aV; exact rfl) | ((with_reducible apply Ru); first | ((with_reducible apply N2); exact rfl; exact rfl) | ((with_reducible apply xQ (b:=true)); exact rfl; exact rfl; exact rfl; exact rfl) | ((with_reducible apply xQ (b:=false)); exact rfl; exact rfl; exact rfl; exact rfl) | ((with_reducible apply EB); exact rfl; exact rfl; exact rfl) | ((with_reducible apply JF); exact rfl; exact rfl; all_goals (intro hb; (fail_if_success (with_reducible have h8:=lq1 hb)); (fail_if_success (with_reducible have h8:=lq2 hb)); refine BI.o ?_))) | (have h9:=jp aH; clear h; obtain⟨x,hx,h⟩:=h9; (with_reducible apply ia); ((with_reducible apply BN); exact hS; exact rfl; exact jd; exact hx; exact rfl; (first | exact jI rfl | exact jI A9 | exact rfl); exact aSZ; exact aGs; exact rfl; exact rfl); refine YI.o ?_) | ((with_reducible apply kQ); exact aX; exact rfl; refine XI.o ?_) | ((with_reducible apply ia); exact aY; refine YI.o ?_) | (have h9:=nv aH; clear h; obtain⟨hg,h⟩:=h9; (try have hg1:=hg.2); (try have hg2:=hg1.1)) | (have h8:True:=(by with_reducible exact ocx h); clear h8; refine Ir (by assumption) ?_ ?_ <;> (first | (intro hc hu; subst hu; have h9:=sO h hc; clear h; have h:=h9; clear h9; (try simp only[hc,iy,o7,bT]at hS)) | (intro c b hc hu; subst hu; have h9:=s9 h hc; clear h; have h:=h9; clear h9; (try simp only[hc,bL,o7,fZ,dA,bT]at hS)))) | (have h9:=dq aH; clear h; obtain⟨x,hx,h⟩:=h9; first | (obtain⟨y,hy,hR⟩:=jE.get (by assumption) hx; (with_reducible apply aQ); ((with_reducible apply oY); exact rfl; rotate_left; exact rfl; exact rfl; exact aRO; exact hy; (case hE=>exact aTI)); exact rfl) | ((with_reducible apply aQ); exact aVb; exact rfl) | ((with_reducible apply kQ); exact aXb; exact rfl; refine XI.o ?_) | ((with_reducible apply ia); exact aY; refine YI.o ?_) | ((with_reducible apply mI); kernel_rfl; exact rfl; exact Fg; exact rfl; refine CI.o ?_) | ((with_reducible apply HV); exact rfl; exact hS; exact aCG; kernel_rfl; exact rfl; refine GI.o ?_) | ((with_reducible apply EN); exact rfl; exact rfl; exact hS; exact aCG; kernel_rfl; exact rfl; refine GI.o ?_) | ((with_reducible apply Ic); (case hargs=>exact rfl); (case hZ=>exact hZ); (case hTT=>exact hTT); (case hA=>exact hA); (case hP=>exact hP); (case hS=>exact hS); (case hs=>exact AA); (case hc=>exact aCZ); (case hf=>kernel_rfl); (case hd=>exact rfl); intro v w hT1 hZ hA hP hS; (try dsimp only[List.cons_append,List.nil_append]at hA hP))) | ((with_reducible apply aQ); exact aVg; exact rfl) | (have h9:=dq aH; clear h; obtain⟨x,hx,h⟩:=h9))
 | ((with_reducible apply isE); first | (with_reducible exact nN h) | (with_reducible refine bA ?_) | (with_reducible refine bB ?_) | (with_reducible refine dQ ?_) | (with_reducible refine fk ?_) | (with_reducible refine fx ?_) | (with_reducible refine fc ?_) | (with_reducible refine Jz ?_) | ((with_reducible apply dF); exact rfl) | (have h9:=nv aH; clear h; obtain⟨hg,h⟩:=h9; (try have hg1:=hg.2); (try have hg2:=hg1.1)) | ((with_reducible have h9:=jp h); clear h; obtain⟨x,hx,h⟩:=h9; subst hx) | ((with_reducible apply Q8); exact ih; exact aH; exact hk; exact aI; exact rfl) | (obtain rfl:=dW h; first | ((with_reducible apply jl); exact rfl; exact rfl; exact aI) | ((with_reducible apply jP); exact rfl; exact rfl; exact rfl; exact aI) | ((with_reducible apply NN); exact rfl; exact rfl; exact rfl; exact rfl; exact aI) | ((with_reducible apply ql); exact rfl; exact rfl; exact rfl; exact rfl; exact rfl; exact rfl; exact rfl; exact aI) | ((with_reducible apply s8); exact rfl; exact aI) | ((with_reducible apply Ik); exact rfl; exact aRV; exact aI) | ((with_reducible apply Qh); exact rfl; exact aRV; exact aRV; exact aI) | ((with_reducible apply OY); exact rfl; exact aRV; exact aRV; exact aRV; exact aI)) | (have h8:True:=(by with_reducible exact ocx h); clear h8; refine Ir (by assumption) ?_ ?_ <;> (first | (intro hc hu; subst hu; have h9:=sO h hc; clear h; have h:=h9; clear h9; (try simp only[hc,iy,o7,bT]at hS)) | (intro c b hc hu; subst hu; have h9:=s9 h hc; clear h; have h:=h9; clear h9; (try simp only[hc,bL,o7,fZ,dA,bT]at hS)))) | (subst hx; obtain rfl:=dW h; (with_reducible apply jl); exact rfl; exact rfl; exact aI))
 | ((with_reducible apply isC); first | (with_reducible exact nN h) | ((with_reducible apply SH hK); exact aH; (first | (exact aI; exact aLe) | ((iterate 12 (try (with_reducible apply Exists.intro))); (with_reducible apply And.intro); (exact rfl); (case hl=>exact aLe); exact aI))) | ((with_reducible apply R6); (first | ((with_reducible apply jK (I:=j1)); exact rfl; exact rfl; exact h; exact aOc; (case hl=>exact aLe); (case hO=>exact aSt)) | ((with_reducible apply jK (I:=j1 ..)); exact rfl; exact rfl; exact h; exact aOc; (case hl=>exact aLe); (case hO=>exact aSt)) | ((with_reducible apply jK (I:=j2)); exact rfl; exact rfl; exact h; exact aOc; (case hl=>exact aLe); (case hO=>exact aSt)) | ((with_reducible apply jK (I:=j2 ..)); exact rfl; exact rfl; exact h; exact aOc; (case hl=>exact aLe); (case hO=>exact aSt)) | ((with_reducible apply jK (I:=j3)); exact rfl; exact rfl; exact h; exact aOc; (case hl=>exact aLe); (case hO=>exact aSt)) | ((with_reducible apply jK (I:=j3 ..)); exact rfl; exact rfl; exact h; exact aOc; (case hl=>exact aLe); (case hO=>exact aSt)) | ((with_reducible apply jK (I:=j4)); exact rfl; exact rfl; exact h; exact aOc; (case hl=>exact aLe); (case hO=>exact aSt)) | ((with_reducible apply jK (I:=j4 ..)); exact rfl; exact rfl; exact h; exact aOc; (case hl=>exact aLe); (case hO=>exact aSt)) | ((with_reducible apply jK (I:=j5)); exact rfl; exact rfl; exact h; exact aOc; (case hl=>exact aLe); (case hO=>exact aSt)) | ((with_reducible apply jK (I:=j5 ..)); exact rfl; exact rfl; exact h; exact aOc; (case hl=>exact aLe); (case hO=>exact aSt)) | ((with_reducible apply jK (I:=j6)); exact rfl; exact rfl; exact h; exact aOc; (case hl=>exact aLe); (case hO=>exact aSt)) | ((with_reducible apply jK (I:=j6 ..)); exact rfl; exact rfl; exact h; exact aOc; (case hl=>exact aLe); (case hO=>exact aSt)) | ((with_reducible apply jK (I:=j7)); exact rfl; exact rfl; exact h; exact aOc; (case hl=>exact aLe); (case hO=>exact aSt)) | ((with_reducible apply jK (I:=j7 ..)); exact rfl; exact rfl; exact h; exact aOc; (case hl=>exact aLe); (case hO=>exact aSt)) | ((with_reducible apply jK (I:=j8)); exact rfl; exact rfl; exact h; exact aOc; (case hl=>exact aLe); (case hO=>exact aSt)) | ((with_reducible apply jK (I:=j8 ..)); exact rfl; exact rfl; exact h; exact aOc; (case hl=>exact aLe); (case hO=>exact aSt)) | ((with_reducible apply jK (I:=j9)); exact rfl; exact rfl; exact h; exact aOc; (case hl=>exact aLe); (case hO=>exact aSt)) | ((with_reducible apply jK (I:=j9 ..)); exact rfl; exact rfl; exact h; exact aOc; (case hl=>exact aLe); (case hO=>exact aSt)) | ((with_reducible apply jK (I:=j10)); exact rfl; exact rfl; exact h; exact aOc; (case hl=>exact aLe); (case hO=>exact aSt)) | ((with_reducible apply jK (I:=j10 ..)); exact rfl; exact rfl; exact h; exact aOc; (case hl=>exact aLe); (case hO=>exact aSt)) | ((with_reducible apply jK (I:=j11)); exact rfl; exact rfl; exact h; exact aOc; (case hl=>exact aLe); (case hO=>exact aSt)) | ((with_reducible apply jK (I:=j11 ..)); exact rfl; exact rfl; exact h; exact aOc; (case hl=>exact aLe); (case hO=>exact aSt)) | ((with_reducible apply jK (I:=j12)); exact rfl; exact rfl; exact h; exact aOc; (case hl=>exact aLe); (case hO=>exact aSt)) | ((with_reducible apply jK (I:=j12 ..)); exact rfl; exact rfl; exact h; exact aOc; (case hl=>exact aLe); (case hO=>exact aSt)) | ((with_reducible apply jK (I:=j13)); exact rfl; exact rfl; exact h; exact aOc; (case hl=>exact aLe); (case hO=>exact aSt)) | ((with_reducible apply jK (I:=j13 ..)); exact rfl; exact rfl; exact h; exact aOc; (case hl=>exact aLe); (case hO=>exact aSt)) | ((with_reducible apply rN (I:=z1)); exact rfl; exact rfl; exact h; exact aOc; (case hl=>exact aLe); (case hO=>exact aSt); exact hA; exact hS; (case hX=>exact aSu)) | ((with_reducible apply rN (I:=z1 ..)); exact rfl; exact rfl; exact h; exact aOc; (case hl=>exact aLe); (case hO=>exact aSt); exact hA; exact hS; (case hX=>exact aSu)) | ((with_reducible apply rN (I:=z2)); exact rfl; exact rfl; exact h; exact aOc; (case hl=>exact aLe); (case hO=>exact aSt); exact hA; exact hS; (case hX=>exact aSu)) | ((with_reducible apply rN (I:=z2 ..)); exact rfl; exact rfl; exact h; exact aOc; (case hl=>exact aLe); (case hO=>exact aSt); exact hA; exact hS; (case hX=>exact aSu)) | ((with_reducible apply rN (I:=z3)); exact rfl; exact rfl; exact h; exact aOc; (case hl=>exact aLe); (case hO=>exact aSt); exact hA; exact hS; (case hX=>exact aSu)) | ((with_reducible apply rN (I:=z3 ..)); exact rfl; exact rfl; exact h; exact aOc; (case hl=>exact aLe); (case hO=>exact aSt); exact hA; exact hS; (case hX=>exact aSu)) | ((with_reducible apply rN (I:=z4)); exact rfl; exact rfl; exact h; exact aOc; (case hl=>exact aLe); (case hO=>exact aSt); exact hA; exact hS; (case hX=>exact aSu)) | ((with_reducible apply rN (I:=z4 ..)); exact rfl; exact rfl; exact h; exact aOc; (case hl=>exact aLe); (case hO=>exact aSt); exact hA; exact hS; (case hX=>exact aSu))); intro hK) | (with_reducible refine cI ?_) | (with_reducible refine bV ?_) | (with_reducible refine cR ?_) | (with_reducible refine mN ?_) | (with_reducible refine fw ?_) | (with_reducible refine gM ?_) | (with_reducible refine Ha ?_) | (with_reducible refine Gz ?_) | ((with_reducible apply SF); first | ((with_reducible apply F3); exact rfl; with_reducible exact h; all_goals (clear h; intro hb h; try subst hb)) | ((with_reducible apply F3); exact rfl; exact aH; all_goals (clear h; intro hb h; try subst hb)) | ((with_reducible apply Oo); exact rfl; (first | assumption | (subst hx; decide))) | ((with_reducible apply jF); exact rfl) | ((with_reducible apply sh); exact rfl) | (have h9:=nv aH; clear h; obtain⟨hg,h⟩:=h9; (try have hg1:=hg.2); (try have hg2:=hg1.1)) | ((with_reducible apply F3); exact rfl; exact h; all_goals (clear h; intro hb h; try subst hb))) | ((with_reducible apply RA); (first | ((with_reducible apply mA (I:=i1)); exact rfl; exact aH) | ((with_reducible apply mA (I:=i1 ..)); exact rfl; exact aH) | ((with_reducible apply mA (I:=i2)); exact rfl; exact aH) | ((with_reducible apply mA (I:=i2 ..)); exact rfl; exact aH) | ((with_reducible apply mA (I:=i3)); exact rfl; exact aH) | ((with_reducible apply mA (I:=i3 ..)); exact rfl; exact aH) | ((with_reducible apply mA (I:=i4)); exact rfl; exact aH) | ((with_reducible apply mA (I:=i4 ..)); exact rfl; exact aH) | ((with_reducible apply mA (I:=i5)); exact rfl; exact aH) | ((with_reducible apply mA (I:=i5 ..)); exact rfl; exact aH)); (first | (exact aI; exact aLe) | ((iterate 12 (try (with_reducible apply Exists.intro))); (with_reducible apply And.intro); (exact rfl); (case hl=>exact aLe); exact aI)); refine LI.o ?_) | ((with_reducible apply Rm); first | (have h9:=dq aH; clear h; obtain⟨x1,hx1,h⟩:=h9; ((with_reducible apply Ad (I:=m1c1 x1 ..)); exact rfl; exact aLe; exact hZ; exact hTT; exact hA; exact hP; exact hS; exact nk; exact rfl; exact rfl; exact rfl; exact aNs; exact ku; kernel_rfl; kernel_rfl; show kR _ _ _ _ _ _ _ _ _ _ _ _ _ _ _ _ (_ :: _) _ _)) | (have h9:=dq aH; clear h; obtain⟨x1,hx1,h⟩:=h9; have h9:=dq aH; clear h; obtain⟨x2,hx2,h⟩:=h9; have h9:=dq aH; clear h; obtain⟨x3,hx3,h⟩:=h9; ((with_reducible apply Ad (I:=m1c3 x1 x2 x3 ..)); exact rfl; exact aLe; exact hZ; exact hTT; exact hA; exact hP; exact hS; exact nk; exact rfl; exact rfl; exact rfl; exact aNs; exact ku; kernel_rfl; kernel_rfl; show kR _ _ _ _ _ _ _ _ _ _ _ _ _ _ _ _ (_ :: _) _ _)) | (have h9:=dq aH; clear h; obtain⟨x1,hx1,h⟩:=h9; have h9:=dq aH; clear h; obtain⟨x2,hx2,h⟩:=h9; have h9:=dq aH; clear h; obtain⟨x3,hx3,h⟩:=h9; have h9:=dq aH; clear h; obtain⟨x4,hx4,h⟩:=h9; have h9:=dq aH; clear h; obtain⟨x5,hx5,h⟩:=h9; ((with_reducible apply Ad (I:=m1c5 x1 x2 x3 x4 x5 ..)); exact rfl; exact aLe; exact hZ; exact hTT; exact hA; exact hP; exact hS; exact nk; exact rfl; exact rfl; exact rfl; exact aNs; exact ku; kernel_rfl; kernel_rfl; show kR _ _ _ _ _ _ _ _ _ _ _ _ _ _ _ _ (_ :: _) _ _)) | (have h9:=dq aH; clear h; obtain⟨x1,hx1,h⟩:=h9; ((with_reducible apply Ad (I:=m2c1 x1 ..)); exact rfl; exact aLe; exact hZ; exact hTT; exact hA; exact hP; exact hS; exact nk; exact rfl; exact rfl; exact rfl; exact aNs; exact ku; kernel_rfl; kernel_rfl; show kR _ _ _ _ _ _ _ _ _ _ _ _ _ _ _ _ (_ :: _) _ _)) | (have h9:=dq aH; clear h; obtain⟨x1,hx1,h⟩:=h9; have h9:=dq aH; clear h; obtain⟨x2,hx2,h⟩:=h9; have h9:=dq aH; clear h; obtain⟨x3,hx3,h⟩:=h9; have h9:=dq aH; clear h; obtain⟨x4,hx4,h⟩:=h9; have h9:=dq aH; clear h; obtain⟨x5,hx5,h⟩:=h9; have h9:=dq aH; clear h; obtain⟨x6,hx6,h⟩:=h9; have h9:=dq aH; clear h; obtain⟨x7,hx7,h⟩:=h9; ((with_reducible apply Ad (I:=m2c7 x1 x2 x3 x4 x5 x6 x7 ..)); exact rfl; exact aLe; exact hZ; exact hTT; exact hA; exact hP; exact hS; exact nk; exact rfl; exact rfl; exact rfl; exact aNs; exact ku; kernel_rfl; kernel_rfl; show kR _ _ _ _ _ _ _ _ _ _ _ _ _ _ _ _ (_ :: _) _ _)) | ((with_reducible apply P9 (I:=r1 ..)); exact rfl; exact rfl; exact hS; (intro w hS; exact aSt); exact ku; exact (fun _ _ _ hf=>hf.2); exact (fun _ _ hf=>hf); decide +kernel; intro w hS; show lxE _ _ _ _ _ _ _ (_ :: _) _ _) | ((with_reducible apply P9 (I:=r2 ..)); exact rfl; exact rfl; exact hS; (intro w hS; exact aSt); exact ku; exact (fun _ _ _ hf=>hf.2); exact (fun _ _ hf=>hf); decide +kernel; intro w hS; show lxE _ _ _ _ _ _ _ (_ :: _) _ _) | ((with_reducible apply Pd); exact cf; exact hS; exact aKs; exact ku; exact (fun _ _ _ hf=>hf.2); exact (fun _ _ hf=>hf); decide +kernel; intro w hS; show lxE _ _ _ _ _ _ _ (_ :: _) _ _) | ((with_reducible apply Og); exact cf; exact hS; exact aKs; exact ku; exact (fun _ _ _ hf=>hf.2); exact (fun _ _ hf=>hf); decide +kernel; intro w hS; show lxE _ _ _ _ _ _ _ (_ :: _) _ _) | ((with_reducible apply Pd); exact Cf.d; exact hS; exact aKs; exact ku; exact (fun _ _ _ hf=>hf.2); exact (fun _ _ hf=>hf); decide +kernel; intro w hS; show lxE _ _ _ _ _ _ _ (_ :: _) _ _) | ((with_reducible apply Og); exact Cf.d; exact hS; exact aKs; exact ku; exact (fun _ _ _ hf=>hf.2); exact (fun _ _ hf=>hf); decide +kernel; intro w hS; show lxE _ _ _ _ _ _ _ (_ :: _) _ _)) | ((with_reducible have h9:=jp h); clear h; obtain⟨x,hx,h⟩:=h9; subst hx))
 | ((with_reducible apply isX); first | (with_reducible exact nN h) | (have h9:=jp aH; clear h; obtain⟨x,hx,h⟩:=h9; (with_reducible apply cC); exact aSt; exact rfl; exact rfl; (intro w hF; first | (have hS:=hF; exact aAs) | exact aAs); exact rfl) | ((with_reducible apply cC); exact aSt; exact rfl; exact rfl; (intro w hF; first | (have hS:=hF; exact aV) | exact aV); exact rfl) | ((with_reducible apply qT); exact aSt; exact rfl; exact rfl; exact rfl; exact aV; exact rfl) | ((with_reducible apply gG); exact aSt; exact rfl; exact rfl; exact rfl; exact rfl; (intro w hF; first | (have hS:=hF; exact aV) | exact aV); exact rfl) | ((with_reducible apply eL (b:=true)); exact aSt; exact rfl; exact rfl; exact rfl; exact rfl; exact rfl; exact rfl) | ((with_reducible apply vm (b:=true)); exact aSt; exact rfl; exact rfl; exact rfl; exact rfl; exact rfl; exact rfl) | ((with_reducible apply eL (b:=false)); exact aSt; exact rfl; exact rfl; exact rfl; exact rfl; exact rfl; exact rfl) | ((with_reducible apply vm (b:=false)); exact aSt; exact rfl; exact rfl; exact rfl; exact rfl; exact rfl; exact rfl) | ((with_reducible apply Fx); exact aSt; exact rfl; exact rfl; exact rfl; exact rfl; exact rfl) | ((with_reducible apply Jr); exact rfl; exact rfl; exact rfl; all_goals (intro hb; (fail_if_success (with_reducible have h8:=lq1 hb)); (fail_if_success (with_reducible have h8:=lq2 hb)); refine BI.o ?_)) | (have h9:=jp aH; clear h; obtain⟨x,hx,h⟩:=h9; (with_reducible apply qK); exact aSt; exact rfl; exact rfl; ((with_reducible apply BN); exact hS; exact rfl; exact jd; exact hx; exact rfl; (first | exact jI rfl | exact jI A9 | exact rfl); exact aSZ; exact aGs; exact rfl; exact rfl); refine YI.o ?_) | ((with_reducible apply vH); exact aSt; exact rfl; exact rfl; exact aX; exact rfl; refine XI.o ?_) | ((with_reducible apply qK); exact aSt; exact rfl; exact rfl; exact aY; refine YI.o ?_) | ((with_reducible apply HX); exact aSt; exact rfl; exact rfl; exact aV; exact rfl) | (have h9:=nv aH; clear h; obtain⟨hg,h⟩:=h9; (try have hg1:=hg.2); (try have hg2:=hg1.1)) | (have h9:=dq aH; clear h; obtain⟨x,hx,h⟩:=h9; first | ((with_reducible apply cC); exact aSt; exact rfl; exact rfl; (intro w hF; first | (have hS:=hF; exact aVb) | exact aVb); exact rfl) | ((with_reducible apply gG); exact aSt; exact rfl; exact rfl; exact rfl; exact rfl; (intro w hF; first | (have hS:=hF; exact aVb) | exact aVb); exact rfl) | ((with_reducible apply vH); exact aSt; exact rfl; exact rfl; exact aXb; exact rfl; refine XI.o ?_) | ((with_reducible apply qK); exact aSt; exact rfl; exact rfl; exact aY; refine YI.o ?_) | ((with_reducible apply HX); exact aSt; exact rfl; exact rfl; exact aVb; exact rfl) | ((with_reducible apply jQ); exact aSt; exact rfl; exact rfl; kernel_rfl; exact rfl; exact Fg; exact rfl; refine CI.o ?_) | ((with_reducible apply HJ); exact aSt; exact rfl; exact rfl; exact rfl; exact rfl; kernel_rfl; exact rfl; exact Fg; exact rfl; refine CI.o ?_) | ((with_reducible apply Gv); exact aSt; exact rfl; exact rfl; exact rfl; exact hS; exact aCG; kernel_rfl; exact rfl; refine GI.o ?_)) | ((with_reducible apply cC); exact aSt; exact rfl; exact rfl; (intro w hF; first | (have hS:=hF; exact aVg) | exact aVg); exact rfl) | ((with_reducible apply gG); exact aSt; exact rfl; exact rfl; exact rfl; exact rfl; (intro w hF; first | (have hS:=hF; exact aVg) | exact aVg); exact rfl) | ((with_reducible apply iB); first | exact aSt | exact trivial))
 | ((with_reducible apply isM); first | ((with_reducible apply RW); exact rfl; exact rfl; (intro w Sb wb hZ hA hP hS; exact aV); exact rfl) | ((with_reducible apply Mf); exact rfl; exact rfl; kernel_rfl; exact rfl; exact aLk; exact aLk; exact aLx; exact aCm; exact aCm; exact aCm; exact aCm; exact (fun _ _ _ _=>rfl); exact rfl; exact rfl; exact rfl; exact rfl; exact aHx; exact aMC; exact rfl; refine MI.o ?_) | ((with_reducible apply KB); exact rfl; exact rfl; exact rfl; kernel_rfl; exact rfl; exact aLk; exact aLk; exact aLx; exact aCm; exact aCm; exact aCm; exact aCm; exact (fun _ _ _ _=>rfl); exact rfl; exact rfl; exact rfl; exact rfl; exact aHx; exact aMC; exact rfl; refine MI.o ?_) | ((with_reducible apply Qk); exact rfl; exact rfl; exact aLk; exact aLk; exact aLx; exact aCm; exact aCm; exact aCm; exact aCm; exact (fun _ _ _ _=>rfl); exact rfl; exact rfl; exact rfl; exact rfl; exact aHx; exact aMN; exact rfl; refine MI.o ?_) | ((with_reducible apply Rv); exact rfl; exact rfl; exact aLk; exact aLk; exact aLx; exact aCm; exact aCm; exact aCm; exact aCm; exact (fun _ _ _ _=>rfl); exact rfl; exact rfl; exact rfl; exact rfl; exact aHx; exact aMY; refine MI.o ?_) | ((with_reducible apply PV); exact aCm; exact aCm; exact rfl; exact rfl; refine NI.o ?_))
 | (have h9:=iR h hk; clear h hk ih; have h:=h9; clear h9)
 | ((with_reducible apply SE); (clear h; (intro s L w hI h; iterate 9 (try (obtain⟨x,s⟩:_×_:=s)); (try dsimp only at hI); (try dsimp only); iterate 9 (try (first | (have hS9:St _ _ _ _:=hI; clear hI; (try clear hS); have hS:=hS9; clear hS9) | (have hT9:SfT _ _ _ _ _ _:=hI; clear hI; (try clear hZ hA hP hS); obtain⟨_,_,hZ,hA,hP,hS⟩:=hT9) | (obtain⟨hq,hI⟩:=hI; try subst hq))); (try dsimp only))))
 | ((with_reducible apply XI.i); (intro v w hT1; (iterate 4 (try (first | (have hS9:St _ _ _ _:=hT1; clear hT1; (try clear hS); have hS:=hS9; clear hS9) | (obtain⟨hq,hT1⟩:=hT1; try subst hq)))); (try dsimp only[List.set]at hS); (try (unfold spl at hS; dsimp only[List.take,List.drop,List.length,List.nil_append,List.cons_append,Nat.zero_add,Nat.add_zero]at hS)); (try (obtain⟨x,hx,h⟩:=jp h; rw[hx]at hS))))
 | ((with_reducible apply YI.i); (intro w hS; (try dsimp only[List.set]at hS); (try (unfold spl at hS; dsimp only[List.take,List.drop,List.length,List.nil_append,List.cons_append,Nat.zero_add,Nat.add_zero]at hS)); (try (obtain⟨x,hx,h⟩:=jp h; rw[hx]at hS))))
 | ((with_reducible apply CI.i); (intro v w hT1; iterate 9 (try (first | (replace hS:=hS.call hT1; clear hT1; (try dsimp only[List.set,List.eraseIdx,List.cons_append,List.nil_append]at hS)) | (obtain⟨hq,hT1⟩:=hT1; try subst hq)))))
 | ((with_reducible apply GI.i); (intro v w hT1 hG; iterate 9 (try (first | (replace hS:=hG.back hT1; clear hT1 hG; (try dsimp only[List.set,List.eraseIdx,List.cons_append,List.nil_append]at hS)) | (replace hS:=hS.call hT1; clear hT1; (try dsimp only[List.set,List.eraseIdx,List.cons_append,List.nil_append]at hS)) | (obtain⟨hq,hT1⟩:=hT1; try subst hq)))))
 | ((with_reducible apply LI.i); (clear h; intro k s L w q hI ih h hk; iterate 9 (try (obtain⟨x,s⟩:_×_:=s)); (try dsimp only at hI); (try dsimp only); iterate 9 (try (first | (have hS9:St _ _ _ _:=hI; clear hI; (try clear hS); have hS:=hS9; clear hS9) | (have hT9:SfT _ _ _ _ _ _:=hI; clear hI; (try clear hZ hA hP hS); obtain⟨_,_,hZ,hA,hP,hS⟩:=hT9) | (obtain⟨hq,hI⟩:=hI; try subst hq))); (try dsimp only)))
 | ((with_reducible apply BI.i); ((first | (with_reducible have h9:=ik h hb) | (with_reducible have h9:=il h hb) | (have h8:True:=aKn; have h9:=h) | have h9:=ik h hb | have h9:=il h hb | have h9:=h); clear h; have h:=h9; clear h9; (first | subst hb | ((try simp only[hb]); (try rw[hb]at h)))))
 | ((with_reducible apply MI.i); (intro v x y hT1; (iterate 24 (try (obtain⟨hq,hT1⟩:=hT1; first | subst hq | (have h8:(_ :: _:List Th)=_:=hq; clear h8; cases hq) | skip))); (try subst hT1)))
 | ((with_reducible apply NI.i); (intro w hT1; clear hZ hA hP hS; obtain⟨_,_,hZ,hA,hP,hS⟩:=hT1))
 | fail)
 ):P:=h
end Go.Gk
