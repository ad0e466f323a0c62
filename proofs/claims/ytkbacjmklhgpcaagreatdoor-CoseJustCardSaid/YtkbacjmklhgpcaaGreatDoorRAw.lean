import Derived.Test.YtkbacjmklhgpcaaGreatDoorRAl
set_option linter.unusedVariables false
set_option linter.unusedSimpArgs false
set_option linter.unusedSectionVars false
set_option maxRecDepth 4000
namespace Go.Gk
open Go Go.RowKit
theorem aTI {P:Prop} (h:P:=by
 first
 | exact ti3
 | exact ti5
 | exact ti9
 | exact JB
 | exact FD
 | exact Sd
 | exact vK
 | fail):P:=h
theorem aTZ {P:Prop} (h:P:=by
 first
 | exact LM
 | exact Qy
 | exact QI
 | exact Re
 | exact Qv
 | exact QV
 | exact Rh
 | exact tz3
 | exact tz4
 | exact Pi
 | exact RL
 | exact SQ
 | exact RI
 | exact OX
 | exact Sm
 | exact RF
 | fail):P:=h
theorem aNZ {P:Prop} (h:P:=by
 first
 | exact vt
 | fail):P:=h
theorem aSZ {P:Prop} (h:P:=by
 first
 | exact Q8
 | exact Ga
 | exact Qt
 | exact qN
 | exact QT
 | exact SB
 | exact SX
 | exact SD
 | exact OB
 | exact Se
 | fail):P:=h
theorem Rv {P:Prop} (h:P:=by
 first
 | exact Hk
 | exact PW
 | exact Pu
 | exact Pf
 | exact OP
 | exact Pn
 | exact QF
 | exact QR
 | exact Qq
 | exact QO
 | exact QU
 | exact QX
 | exact Q2
 | fail):P:=h
theorem Kr {P:Prop} (h:P:=by
 first
 | exact Its.n _
 | ((with_reducible apply Its.l); (case hx=>exact rfl); (case hn=>exact rfl); exact Kr)
 | ((with_reducible apply Its.c); exact rfl; exact Kr)
 | fail):P:=h
theorem aGs {P:Prop} (h:P:=by
 first
 | assumption
 | ((with_reducible apply Nu); assumption; exact aGs)
 | fail):P:=h
theorem aUh {P:Prop} (h:P:=by
 first
 | exact Up.here
 | ((with_reducible apply Up.skipC); exact rfl; exact aUh)
 | ((with_reducible apply Up.skipL); exact aL1; exact rfl; exact aUh)
 | fail):P:=h
theorem aGO {P:Prop} (h:P:=by
 first
 | assumption
 | fail):P:=h
theorem aLn {P:Prop} (h:P:=by
 first
 | assumption
 | exact rfl
 | ((with_reducible apply fp); exact aLn; exact rfl)
 | exact bq
 | (rw[<-hx,dJ]; assumption)
 | (simp only[dJ]; exact aLn)
 | fail):P:=h
theorem aLs {P:Prop} (h:P:=by
 first
 | ((with_reducible apply NL); exact aLs; exact aLs; exact rfl)
 | ((with_reducible apply Q7); exact aLs; exact rfl)
 | ((with_reducible apply fp); (first | assumption | exact bq); exact rfl)
 | exact rfl
 | fail):P:=h
theorem aO1 {P:Prop} (h:P:=by
 first
 | exact vj
 | exact wM rfl
 | ((with_reducible apply M9); exact aO1; exact aO1)
 | fail):P:=h
theorem aL1 {P:Prop} (h:P:=by
 first
 | ((with_reducible apply fp); exact aLn; exact rfl)
 | exact rfl
 | fail):P:=h
theorem aTb {P:Prop} (h:P:=by
 first
 | exact hT.keyset_names.cells hS.fr
 | exact hT.rsa1_infos.cells hS.fr
 | exact hT.ed_orderLimbs.cells hS.fr
 | exact hT.ed_baseLimbs.cells hS.fr
 | exact hT.sha_start256.cells hS.fr
 | exact hT.sha_start384.cells hS.fr
 | exact hT.sha_start512.cells hS.fr
 | exact hT.ed_primeLimbs.cells hS.fr
 | exact hT.ed_curveLimbs.cells hS.fr
 | exact hT.ed_rootLimbs.cells hS.fr
 | exact hT.sha_k256.cells hS.fr
 | exact hT.sha_k512.cells hS.fr
 | exact hT.keyset_names.cells (hZ.st hS).fr
 | exact hT.rsa1_infos.cells (hZ.st hS).fr
 | exact hT.ed_orderLimbs.cells (hZ.st hS).fr
 | exact hT.ed_baseLimbs.cells (hZ.st hS).fr
 | exact hT.sha_start256.cells (hZ.st hS).fr
 | exact hT.sha_start384.cells (hZ.st hS).fr
 | exact hT.sha_start512.cells (hZ.st hS).fr
 | exact hT.ed_primeLimbs.cells (hZ.st hS).fr
 | exact hT.ed_curveLimbs.cells (hZ.st hS).fr
 | exact hT.ed_rootLimbs.cells (hZ.st hS).fr
 | exact hT.sha_k256.cells (hZ.st hS).fr
 | exact hT.sha_k512.cells (hZ.st hS).fr
 | fail):P:=h
theorem jf {P:Prop} (h:P:=by
 first
 | exact Nth.h _ _
 | ((with_reducible apply Nth.t); exact jf)
 | fail):P:=h
theorem aEr {P:Prop} (h:P:=by
 first
 | exact Er.h _
 | ((with_reducible apply Er.t); exact aEr)
 | fail):P:=h
theorem rm {P:Prop} (h:P:=by
 first
 | exact Mm.h _
 | ((with_reducible apply Mm.t); exact rm)
 | fail):P:=h
theorem aHk {P:Prop} (h:P:=by
 first
 | assumption
 | exact hg.2
 | exact hg.1
 | fail):P:=h
theorem aRO {P:Prop} (h:P:=by
 first
 | ((with_reducible apply St.roN); exact hS; exact jf)
 | ((with_reducible apply RP.now); assumption; exact hS.fr)
 | exact RO.nil _ _
 | ((with_reducible apply St.rroN); exact hS; exact jf)
 | ((with_reducible apply RP.now); ((with_reducible apply Rds.rpm); exact hA; exact rm); exact hS.fr)
 | ((with_reducible apply RP.now); assumption; exact (hZ.st hS).fr)
 | ((with_reducible apply RO.tk); exact aRO; exact aHk)
 | ((with_reducible apply RO.tk3); exact aRO; exact aHk)
 | ((with_reducible apply RO.g_sl); exact aRO; assumption)
 | ((with_reducible apply RO.g_sll); exact aRO; assumption)
 | ((with_reducible apply RO.g_slh); exact aRO; assumption)
 | ((with_reducible apply RO.g_sl3); exact aRO; assumption)
 | ((with_reducible apply St.bxroA); exact hS; exact jf; (case hu=>exact aUp); exact aLn)
 | ((with_reducible apply RO.po); (case hp=>assumption); exact aRO)
 | ((with_reducible apply RP.now); ((with_reducible apply RP.W_sl); assumption; assumption); exact hS.fr)
 | ((with_reducible apply RP.now); ((with_reducible apply RP.eW); assumption; assumption; exact hg.1; exact hg.2); exact hS.fr)
 | fail):P:=h
theorem aUp {P:Prop} (h:P:=by
 first
 | exact Up.last
 | exact Up.here
 | ((with_reducible apply Up.skipC); exact rfl; exact aUp)
 | ((with_reducible apply Up.skipL); exact aL1; exact rfl; exact aUp)
 | fail):P:=h
theorem aUg {P:Prop} (h:P:=by
 first
 | exact rfl
 | ((with_reducible apply Up.elr); exact aUp; assumption; exact rfl)
 | ((with_reducible apply Up.get0); exact aUp)
 | fail):P:=h
theorem Qk {P:Prop} (h:P:=by
 first
 | ((with_reducible apply St.bxcN); exact hS; exact jf; exact rfl)
 | ((with_reducible apply RB.cell'); assumption; exact hS.fr; exact rfl)
 | ((with_reducible apply RB.cell'); ((with_reducible apply Rds.rbm); exact hA; exact rm); exact hS.fr; exact rfl)
 | exact hT.keyset_names.cell hS.fr (by assumption) rfl
 | exact hT.rsa1_infos.cell hS.fr (by assumption) rfl
 | exact hT.ed_orderLimbs.cell hS.fr (by assumption) rfl
 | exact hT.ed_baseLimbs.cell hS.fr (by assumption) rfl
 | exact hT.sha_start256.cell hS.fr (by assumption) rfl
 | exact hT.sha_start384.cell hS.fr (by assumption) rfl
 | exact hT.sha_start512.cell hS.fr (by assumption) rfl
 | exact hT.ed_primeLimbs.cell hS.fr (by assumption) rfl
 | exact hT.ed_curveLimbs.cell hS.fr (by assumption) rfl
 | exact hT.ed_rootLimbs.cell hS.fr (by assumption) rfl
 | exact hT.sha_k256.cell hS.fr (by assumption) rfl
 | exact hT.sha_k512.cell hS.fr (by assumption) rfl
 | exact hT.keyset_names.cell (hZ.st hS).fr (by assumption) rfl
 | exact hT.rsa1_infos.cell (hZ.st hS).fr (by assumption) rfl
 | exact hT.ed_orderLimbs.cell (hZ.st hS).fr (by assumption) rfl
 | exact hT.ed_baseLimbs.cell (hZ.st hS).fr (by assumption) rfl
 | exact hT.sha_start256.cell (hZ.st hS).fr (by assumption) rfl
 | exact hT.sha_start384.cell (hZ.st hS).fr (by assumption) rfl
 | exact hT.sha_start512.cell (hZ.st hS).fr (by assumption) rfl
 | exact hT.ed_primeLimbs.cell (hZ.st hS).fr (by assumption) rfl
 | exact hT.ed_curveLimbs.cell (hZ.st hS).fr (by assumption) rfl
 | exact hT.ed_rootLimbs.cell (hZ.st hS).fr (by assumption) rfl
 | exact hT.sha_k256.cell (hZ.st hS).fr (by assumption) rfl
 | exact hT.sha_k512.cell (hZ.st hS).fr (by assumption) rfl
 | ((with_reducible apply St.bxgN); exact hS; exact jf; exact aUg)
 | fail):P:=h
theorem aB {P:Prop} (h:P:=by
 first
 | ((with_reducible apply lO .add); first | (with_reducible exact ms _ _ _) | (with_reducible exact DL _ _ _) | (with_reducible exact Et _ _ _))
 | ((with_reducible apply lO .sub); first | (with_reducible exact mC _ _ _) | (with_reducible exact MU _ _ _) | (with_reducible exact NU _ _ _) | (with_reducible exact PU _ _ _))
 | ((with_reducible apply lO .mul); first | (with_reducible exact mw _ _ _) | (with_reducible exact Nt _ _ _))
 | ((with_reducible apply lO .lss); first | (with_reducible exact lT _ _ _) | (with_reducible exact Ep _ _ _) | (with_reducible exact Nc _ _ _) | (with_reducible exact Pq _ _ _))
 | ((with_reducible apply lO .eql); first | (with_reducible exact BG _ _ _) | (with_reducible exact MZ _ _ _) | (with_reducible exact DI _ _ _) | (with_reducible exact PJ _ _ _) | (with_reducible exact Pg _ _ _) | (with_reducible exact Oi _ _ _ rfl rfl) | ((with_reducible apply G6); exact rfl) | ((with_reducible apply H8); exact rfl))
 | ((with_reducible apply lO .neq); first | (with_reducible exact H1 _ _ _) | (with_reducible exact xo _ _ _) | (with_reducible exact M4 _ _ _) | (with_reducible exact N2 _ _ _) | (with_reducible exact Qc _ _ _ rfl rfl) | ((with_reducible apply RP.eWne); assumption; exact rfl; assumption) | ((with_reducible apply Pc); exact rfl) | ((with_reducible apply OS); exact rfl))
 | ((with_reducible apply lO .gtr); first | (with_reducible exact vr _ _ _) | (with_reducible exact DW _ _ _) | (with_reducible exact NC _ _ _) | (with_reducible exact PN _ _ _))
 | ((with_reducible apply lO .geq); first | (with_reducible exact HE _ _ _) | (with_reducible exact L0 _ _ _) | (with_reducible exact Nf _ _ _) | (with_reducible exact P1 _ _ _))
 | ((with_reducible apply lO .leq); first | (with_reducible exact qu _ _ _) | (with_reducible exact MJ _ _ _) | (with_reducible exact PO _ _ _))
 | ((with_reducible apply lO .and); first | (with_reducible exact Qb _ _ _) | (with_reducible exact NV _ _ _) | (with_reducible exact M5 _ _ _) | (with_reducible exact PD _ _ _))
 | ((with_reducible apply lO .or); first | (with_reducible exact PT _ _ _) | (with_reducible exact Ov _ _ _) | (with_reducible exact zE _ _ _))
 | ((with_reducible apply lO .xor); first | (with_reducible exact Mp _ _ _) | (with_reducible exact NH _ _ _) | (with_reducible exact Ik _ _ _))
 | ((with_reducible apply lO .quo); first | ((with_reducible apply GY); first | decide | assumption) | ((with_reducible apply ME); first | decide | assumption))
 | ((with_reducible apply lO .rem); first | ((with_reducible apply Cc); first | decide | assumption) | ((with_reducible apply Dx); first | decide | assumption) | ((with_reducible apply OM); first | decide | assumption))
 | ((with_reducible apply lO .shr); first | (with_reducible exact jG _ _ _ 1 rfl) | (with_reducible exact jG _ _ _ 2 rfl) | (with_reducible exact jG _ _ _ 3 rfl) | (with_reducible exact jG _ _ _ 4 rfl) | (with_reducible exact jG _ _ _ 5 rfl) | (with_reducible exact jG _ _ _ 6 rfl) | (with_reducible exact jG _ _ _ 8 rfl) | (with_reducible exact jG _ _ _ 16 rfl) | (with_reducible exact jG _ _ _ 24 rfl) | (with_reducible exact jG _ _ _ 31 rfl) | (with_reducible exact jG _ _ _ 32 rfl) | (with_reducible exact Fs _ _ _) | ((with_reducible apply kE); first | assumption | decide) | (with_reducible exact oA _ _ _) | ((with_reducible apply Iq); first | assumption | decide) | (with_reducible exact Io _ _ _) | ((with_reducible apply IU); first | assumption | decide))
 | ((with_reducible apply lO .shl); first | (with_reducible exact EU _ _ _) | ((with_reducible apply Hr); first | assumption | decide) | (with_reducible exact EF _ _ _) | ((with_reducible apply GX); first | assumption | decide) | (with_reducible exact HO _ _ _) | ((with_reducible apply PF); first | assumption | decide))
 | ((with_reducible apply lO .andNot); first | (with_reducible exact GP _ _ _))
 | ((with_reducible apply No); (exact rfl); exact aB)
 | ((with_reducible apply MT); (exact rfl); exact aB)
 | ((with_reducible apply Mw); (exact rfl); exact aB)
 | ((with_reducible apply OK); (exact rfl); exact aB)
 | ((with_reducible apply N9); (exact rfl); exact aB)
 | fail):P:=h
theorem aUN {P:Prop} (h:P:=by
 first
 | (with_reducible exact Lo _)
 | (with_reducible exact Po _)
 | (with_reducible exact Mc _)
 | (with_reducible exact Mz _)
 | fail):P:=h
theorem aCV {P:Prop} (h:P:=by
 first
 | (with_reducible apply KN) <;> exact rfl
 | (with_reducible apply kV) <;> exact rfl
 | (with_reducible apply Dw) <;> exact rfl
 | (with_reducible apply JN) <;> exact rfl
 | (with_reducible apply qv) <;> exact rfl
 | (with_reducible apply Ni) <;> exact rfl
 | (with_reducible apply MW) <;> exact rfl
 | (with_reducible apply P3) <;> exact rfl
 | (with_reducible apply oH) <;> exact rfl
 | (with_reducible apply Hp) <;> exact rfl
 | fail):P:=h
theorem aFA {P:Prop} (h:P:=by
 first
 | ((with_reducible apply kg (k:=0)); exact rfl; exact rfl; exact rfl; exact aNZ; exact rfl)
 | ((with_reducible apply kg (k:=1)); exact rfl; exact rfl; exact rfl; exact aNZ; exact rfl)
 | ((with_reducible apply kg (k:=2)); exact rfl; exact rfl; exact rfl; exact aNZ; exact rfl)
 | ((with_reducible apply kg (k:=3)); exact rfl; exact rfl; exact rfl; exact aNZ; exact rfl)
 | ((with_reducible apply kg (k:=4)); exact rfl; exact rfl; exact rfl; exact aNZ; exact rfl)
 | ((with_reducible apply kg (k:=5)); exact rfl; exact rfl; exact rfl; exact aNZ; exact rfl)
 | ((with_reducible apply kg (k:=6)); exact rfl; exact rfl; exact rfl; exact aNZ; exact rfl)
 | ((with_reducible apply kg (k:=7)); exact rfl; exact rfl; exact rfl; exact aNZ; exact rfl)
 | ((with_reducible apply kg (k:=8)); exact rfl; exact rfl; exact rfl; exact aNZ; exact rfl)
 | ((with_reducible apply kg (k:=9)); exact rfl; exact rfl; exact rfl; exact aNZ; exact rfl)
 | ((with_reducible apply kg (k:=10)); exact rfl; exact rfl; exact rfl; exact aNZ; exact rfl)
 | ((with_reducible apply kg (k:=11)); exact rfl; exact rfl; exact rfl; exact aNZ; exact rfl)
 | ((with_reducible apply kg (k:=13)); exact rfl; exact rfl; exact rfl; exact aNZ; exact rfl)
 | ((with_reducible apply kg (k:=17)); exact rfl; exact rfl; exact rfl; exact aNZ; exact rfl)
 | ((with_reducible apply kg (k:=145)); exact rfl; exact rfl; exact rfl; exact aNZ; exact rfl)
 | ((with_reducible apply iQ (k:=0)); exact rfl; exact rfl; exact rfl; exact aNZ; exact rfl)
 | ((with_reducible apply iQ (k:=1)); exact rfl; exact rfl; exact rfl; exact aNZ; exact rfl)
 | ((with_reducible apply iQ (k:=2)); exact rfl; exact rfl; exact rfl; exact aNZ; exact rfl)
 | ((with_reducible apply iQ (k:=3)); exact rfl; exact rfl; exact rfl; exact aNZ; exact rfl)
 | ((with_reducible apply iQ (k:=4)); exact rfl; exact rfl; exact rfl; exact aNZ; exact rfl)
 | ((with_reducible apply iQ (k:=5)); exact rfl; exact rfl; exact rfl; exact aNZ; exact rfl)
 | ((with_reducible apply iQ (k:=6)); exact rfl; exact rfl; exact rfl; exact aNZ; exact rfl)
 | ((with_reducible apply iQ (k:=7)); exact rfl; exact rfl; exact rfl; exact aNZ; exact rfl)
 | ((with_reducible apply iQ (k:=8)); exact rfl; exact rfl; exact rfl; exact aNZ; exact rfl)
 | ((with_reducible apply iQ (k:=9)); exact rfl; exact rfl; exact rfl; exact aNZ; exact rfl)
 | ((with_reducible apply iQ (k:=10)); exact rfl; exact rfl; exact rfl; exact aNZ; exact rfl)
 | ((with_reducible apply iQ (k:=11)); exact rfl; exact rfl; exact rfl; exact aNZ; exact rfl)
 | fail):P:=h
theorem aLd {P:Prop} (h:P:=by
 first
 | ((with_reducible apply o7); (case hT=>exact rfl); exact rfl; exact rfl; exact aRO; exact aGO; exact rfl)
 | ((with_reducible apply cc); (case hT=>exact rfl); exact rfl; exact rfl; exact Qk)
 | ((with_reducible apply Ng); (case hT=>exact rfl); exact rfl; exact rfl; exact hS; exact jf; exact aSZ)
 | ((with_reducible apply MF); (case hT=>exact rfl); exact rfl; exact rfl; exact aRO; exact aGO; exact rfl; exact rfl)
 | ((with_reducible apply mW); (case hT=>exact rfl); exact rfl; exact aSZ; (case hx=>exact rfl); (case hc=>exact aTb); exact aLn)
 | ((with_reducible apply mW); (case hT=>exact rfl); exact rfl; exact aSZ; (case hx=>exact rfl); (case hc=>((with_reducible apply St.bxgs0); exact hS; exact jf; exact aUp)); exact aLs)
 | ((with_reducible apply mW); (case hT=>exact rfl); exact rfl; exact aSZ; (case hx=>exact rfl); (case hc=>((with_reducible apply St.bxgs0); exact hS; exact jf; exact aUh)); exact aLs)
 | fail):P:=h
theorem aV {P:Prop} (h:P:=by
 first
 | (with_reducible exact Mj rfl)
 | (with_reducible exact I4 rfl)
 | (with_reducible exact KV rfl)
 | ((with_reducible apply oR); exact rfl)
 | ((with_reducible apply du); exact rfl)
 | ((with_reducible apply bI); exact rfl; exact rfl; exact aB)
 | ((with_reducible apply LD); exact rfl; exact rfl; exact aRO; exact jD.len (by assumption))
 | ((with_reducible apply gx); exact rfl; exact rfl; exact aRO)
 | ((with_reducible apply IA); exact rfl; exact rfl)
 | ((with_reducible apply yg); exact rfl; exact rfl)
 | ((with_reducible apply yN); exact rfl; exact rfl)
 | ((with_reducible apply GF); exact rfl; exact aUN)
 | ((with_reducible apply fM); exact rfl; exact aCV)
 | ((with_reducible apply B7); exact rfl; exact rfl)
 | ((with_reducible apply ib); exact rfl)
 | ((with_reducible apply RQ); exact aFA)
 | ((with_reducible apply Pp); exact aLd)
 | ((with_reducible apply F3); exact rfl)
 | ((with_reducible apply J0); exact rfl)
 | ((with_reducible apply kv); exact rfl; exact aSZ; exact rfl; exact rfl; decide; decide)
 | ((with_reducible apply td); exact rfl; exact rfl)
 | ((with_reducible apply MQ); exact rfl; exact rfl)
 | ((with_reducible apply F9); exact aEv; exact Rv; exact zJ; exact rfl)
 | ((with_reducible apply DO); exact rfl; exact rfl; exact rfl; exact rfl; exact aRO)
 | fail):P:=h
theorem aVb {P:Prop} (h:P:=by
 first
 | ((with_reducible apply Nx); exact rfl; exact aSZ; exact rfl; exact rfl; ((with_reducible apply Ek); exact hx; exact aLn))
 | ((with_reducible apply JL); exact rfl; (case hE=>exact rfl); exact rfl; exact aSZ; exact rfl; exact rfl; ((with_reducible apply Ek); exact hx; exact aLn); (first | ((with_reducible apply xu); exact hx; exact rfl) | exact xu (e:=e32) hx rfl | exact xu (e:=e64) hx rfl))
 | ((with_reducible apply PH (e:=e8)); exact rfl; exact aSZ; exact rfl; exact rfl; exact rfl; exact rfl; exact aLn; exact hx)
 | ((with_reducible apply Qm (e:=e8)); exact rfl; exact aSZ; exact rfl; exact rfl; exact rfl; exact aLn; exact hx)
 | (have hc0:=e0; (with_reducible apply W_sl); exact rfl; rotate_left; exact rfl; exact rfl; exact rfl; exact aRO; exact hx; (case hE=>exact aTI))
 | ((with_reducible apply o8); exact rfl; rotate_left; exact rfl; exact rfl; exact aRO; exact hx; (case hE=>exact aTI))
 | ((with_reducible apply Ql); exact rfl; rotate_left; exact rfl; exact rfl; exact rfl; exact rfl; exact aRO; exact hx; (case hE=>exact aTI))
 | ((with_reducible apply Q1); exact rfl; exact rfl; exact rfl; exact hx)
 | ((with_reducible apply Py); exact rfl; exact rfl; exact rfl; exact hx)
 | ((with_reducible apply PS); exact rfl; rotate_left; exact rfl; exact rfl; exact rfl; exact aRO; exact hx; (case hE=>exact aTI))
 | ((with_reducible apply u7); exact rfl; rotate_left; exact rfl; exact rfl; exact aRO; exact hx; (case hE=>exact aTI))
 | ((with_reducible apply Lq); exact rfl; rotate_left; exact rfl; exact rfl; exact aRO; exact hx; (case hE=>exact aTI))
 | ((with_reducible apply Pp); exact aLd)
 | fail):P:=h
theorem aVg {P:Prop} (h:P:=by
 first
 | ((with_reducible apply HZ); exact rfl; rotate_left; exact rfl; exact rfl; exact rfl; exact aRO; assumption; (case hE=>exact aTI))
 | ((with_reducible apply Lq); exact rfl; rotate_left; exact rfl; exact rfl; exact aRO; exact Iu (by assumption); (case hE=>exact aTI))
 | fail):P:=h
theorem aAs {P:Prop} (h:P:=by
 first
 | ((with_reducible apply du); exact (by subst hx; rfl:_=some (vI x)))
 | ((with_reducible apply du); exact (by subst hx; rfl:_=some (v64 x)))
 | ((with_reducible apply du); exact (by subst hx; rfl:_=some (v32 x)))
 | ((with_reducible apply du); exact (by subst hx; rfl:_=some (v8 x)))
 | ((with_reducible apply du); exact (by subst hx; rfl:_=some (vB x)))
 | fail):P:=h
theorem aX {P:Prop} (h:P:=by
 first
 | ((with_reducible apply kw (e:=e32)); exact rfl; exact aTI; exact rfl; exact rfl; exact rfl; exact aFl; decide; decide; exact hS)
 | ((with_reducible apply kw (e:=e8)); exact rfl; exact aTI; exact rfl; exact rfl; exact rfl; exact aFl; decide; decide; exact hS)
 | ((with_reducible apply HQ); exact rfl; exact aTI; exact Kr; exact rfl; exact rfl; decide; decide; exact hS)
 | ((with_reducible apply ON); exact rfl; exact hS; exact jf; exact rfl; exact aTI; exact rfl)
 | ((with_reducible apply AL (e:=e8)); exact rfl; exact ti5; exact hS)
 | ((with_reducible apply AL (e:=e32)); exact rfl; exact aTI; exact hS)
 | ((with_reducible apply kw (e:=eV)); exact rfl; exact aTI; exact rfl; exact rfl; exact rfl; exact aFl; decide; decide; exact hS)
 | ((with_reducible apply kw (e:=eI)); exact rfl; exact aTI; exact rfl; exact rfl; exact rfl; exact aFl; decide; decide; exact hS)
 | ((with_reducible apply kw (e:=eS)); exact rfl; exact aTI; exact rfl; exact rfl; exact rfl; exact aFl; decide; decide; exact hS)
 | ((with_reducible apply Hs); exact rfl; exact rfl; exact rfl; exact rfl; exact hS)
 | ((with_reducible apply FQ); exact rfl; exact rfl; exact rfl; exact hS; exact jf; exact (by simp))
 | ((with_reducible apply Lb); exact rfl; exact hS)
 | ((with_reducible apply Jn); exact rfl; exact Ba; exact hS)
 | ((with_reducible apply FT); exact aTZ; exact hS)
 | ((with_reducible apply EB); exact aTZ; exact rfl; exact hS)
 | ((with_reducible apply Iy (e:=e32)); exact rfl; exact aTI; exact rfl; exact rfl; exact rfl; exact hS; exact jf; exact aRO)
 | ((with_reducible apply Iy (e:=e8)); exact rfl; exact aTI; exact rfl; exact rfl; exact rfl; exact hS; exact jf; exact aRO)
 | fail):P:=h
theorem aXb {P:Prop} (h:P:=by
 first
 | ((with_reducible apply Co (e:=e32)); exact rfl; rotate_left; rotate_left; exact rfl; exact rfl; exact hS; exact hx; (case hE=>exact aTI); (case hz=>exact rfl))
 | ((with_reducible apply Co (e:=e8)); exact rfl; rotate_left; rotate_left; exact rfl; exact rfl; exact hS; exact hx; (case hE=>exact aTI); (case hz=>exact rfl))
 | ((with_reducible apply qE); exact rfl; rotate_left; rotate_left; exact rfl; exact rfl; exact hS; exact jf; exact aRO; exact hx; (case hE=>exact aTI); (case hz=>exact rfl))
 | ((with_reducible apply He); exact rfl; rotate_left; rotate_left; exact rfl; exact rfl; exact hS; exact aRO; exact hx; (case hE=>exact aTI); (case hz=>exact rfl))
 | ((with_reducible apply yL); exact rfl; exact rfl; exact ti5; exact rfl; exact rfl; exact hS; exact jf; exact hx)
 | ((with_reducible apply FG); exact rfl; exact rfl; rotate_left; rotate_left; exact rfl; exact rfl; exact hS; exact aRO; exact hx; (case hE=>exact aTI); (case hz=>exact rfl))
 | fail):P:=h
theorem aY {P:Prop} (h:P:=by
 first
 | ((with_reducible apply Ms); exact rfl; exact rfl; exact hS; exact jf; exact rfl; exact zJ; exact aSZ)
 | ((with_reducible apply NB); exact rfl; exact rfl; exact hS; exact jf; exact rfl; exact Ba; exact aSZ)
 | ((with_reducible apply L3); exact rfl; exact rfl; exact hS; exact jf; exact rfl; exact zJ; exact aSZ)
 | ((with_reducible apply rf); exact aTI; exact rfl; exact rfl; exact hS; exact jf; assumption; (first | exact rfl | exact cl8 rfl))
 | ((with_reducible apply B5); exact aTI; exact rfl; exact rfl; exact hS; exact jf; assumption; assumption; (first | exact rfl | exact cl8 rfl))
 | ((with_reducible apply M2); exact hS; exact rfl; exact jf; exact aSZ; exact rfl; exact rfl; (with_reducible apply Up.elt); exact aUp; assumption; exact rfl; exact rfl)
 | ((with_reducible apply DH); exact hS; exact rfl; exact jf; exact aSZ; exact rfl; exact aUp; exact aLs; exact aLs; exact aO1)
 | ((with_reducible apply DH); exact hS; exact rfl; exact jf; exact aSZ; exact rfl; exact aUh; exact aLs; exact aLs; exact aO1)
 | fail):P:=h
theorem aEv {P:Prop} (h:P:=by
 first
 | exact EvP.nil _
 | ((with_reducible apply EvP.cons); exact rfl; exact aEv)
 | fail):P:=h
theorem nv {P:Prop} (h:P:=by
 first
 | exact Len.nil _
 | ((with_reducible apply Len.consE); exact aEr; exact nv)
 | ((with_reducible apply Len.trE); exact aEr; exact aHk; exact nv)
 | ((apply Len.own0 e32); exact nv)
 | ((apply Len.own0 e8); exact nv)
 | fail):P:=h
theorem Ba {P:Prop} (h:P:=by
 first
 | exact rfl
 | ((with_reducible apply RO.one); exact aRO)
 | fail):P:=h
theorem zJ {P:Prop} (h:P:=by
 first
 | exact trivial
 | (apply And.intro; exact Ba; exact zJ)
 | fail):P:=h
theorem AB {P:Prop} (h:P:=by
 first
 | exact Spl.n
 | ((with_reducible apply Spl.o); exact AB)
 | ((with_reducible apply Spl.b); exact AB)
 | ((with_reducible apply Spl.k); exact AB)
 | fail):P:=h
theorem aMo {P:Prop} (h:P:=by
 first
 | exact Mo.o _
 | exact Mo.b _
 | ((with_reducible apply Mo.t); exact aMo)
 | fail):P:=h
theorem aSu {P:Prop} (h:P:=by
 first
 | exact Su.n
 | ((with_reducible apply Su.e); exact rm; exact aSu)
 | ((with_reducible apply Su.o); exact aMo; exact aSu)
 | fail):P:=h
theorem ph {P:Prop} (h:P:=by
 first
 | exact Sel.nil _
 | ((apply Sel.own0 e32); exact ph)
 | ((apply Sel.own0 e8); exact ph)
 | ((with_reducible apply Sel.own0); exact ph)
 | ((apply Sel.red0 e8); exact ph)
 | ((apply Sel.red0 e32); exact ph)
 | ((with_reducible apply Sel.consE); exact aEr; exact ph)
 | ((with_reducible apply Sel.tr3E); exact aEr; exact aHk; exact ph)
 | ((with_reducible apply Sel.trE); exact aEr; exact aHk; exact ph)
 | ((with_reducible apply Sel.tr3tE); exact aEr; exact aHk; exact aHk; exact ph)
 | fail):P:=h
theorem aSt {P:Prop} (h:P:=by
 first
 | exact hS
 | ((with_reducible apply St.by); exact hS; exact ph)
 | fail):P:=h
theorem aLe {P:Prop} (h:P:=by
 first
 | exact trivial
 | ((with_reducible apply LeC); exact rfl; exact aLe)
 | ((with_reducible apply LeC); (simp only[Env.get,Nat.beq,cond]; try exact rfl); exact aLe)
 | fail):P:=h
theorem aI {P:Prop} (h:P:=by
 first
 | exact rfl
 | exact hS
 | exact SM hZ hS
 | ((with_reducible apply St.by); exact hZ.st hS; exact ph)
 | ((with_reducible apply RA); exact hZ; exact hTT; exact hA; exact hP; exact hS; exact aSu)
 | ((with_reducible apply sfL); exact hZ; exact hTT; exact hA; exact hP; exact hS; exact nv; exact aSu)
 | ((with_reducible apply Jy); exact aI)
 | ((with_reducible apply KM); exact aI)
 | ((with_reducible apply And.intro) <;> exact aI)
 | ((simp only[sG,pa,bO,iD,ge,bN]); exact aI)
 | ((with_reducible apply Exists.intro); exact aI)
 | exact aSt
 | assumption
 | exact trivial
 | exact ax _
 | exact aLn
 | fail):P:=h
theorem aRV {P:Prop} (h:P:=by
 first
 | exact (rfl:Env.get _ _=_)
 | ((with_reducible apply rvA); exact rfl; (case hT=>exact rfl); exact rfl; exact hS; exact jf; exact aSZ)
 | fail):P:=h
theorem aFl {P:Prop} (h:P:=by
 first
 | exact Q5
 | exact R8
 | exact Sn
 | exact R1
 | exact SW
 | ((with_reducible apply SP); exact aFl)
 | ((with_reducible apply Sr); exact aFl)
 | ((with_reducible apply sK); ((with_reducible apply RO.sv); exact aRO); exact aFl)
 | ((with_reducible apply QG); exact aFl)
 | ((with_reducible apply RN); exact aFl)
 | ((with_reducible apply Rf); exact rfl; exact aFl)
 | ((with_reducible apply Rl); exact rfl; exact aFl)
 | fail):P:=h
theorem OG {P:Prop} (h:P:=by
 first
 | exact jD.n _
 | ((with_reducible apply jD.c); exact aRO; exact OG)
 | fail):P:=h
theorem CE {P:Prop} (h:P:=by
 first
 | exact OG
 | ((with_reducible apply RO.rp); exact aRO)
 | exact hT.now hS.fr
 | exact hT.now (hZ.st hS).fr
 | assumption
 | exact (rfl:List.length _=_)
 | ((with_reducible apply RB.now); ((with_reducible apply Rds.rbm); exact hA; exact rm); exact hS.fr)
 | ((with_reducible apply RP.give); ((with_reducible apply Rds.rpm); exact hA; exact rm); exact (ao rfl); exact hG)
 | ((with_reducible apply RB.give); ((with_reducible apply Rds.rbm); exact hA; exact rm); exact hG)
 | ((with_reducible apply RP.give); assumption; exact (ao rfl); exact hG)
 | exact hT.give hG
 | ((with_reducible apply N4); exact hG; exact jf)
 | ((with_reducible apply Qf); exact hG; exact jf)
 | ((with_reducible apply RB.give); assumption; exact hG)
 | ((with_reducible apply RB.now); assumption; exact hS.fr)
 | ((with_reducible apply St.rbN); exact hS; exact jf)
 | ((with_reducible apply RO.whole); exact aRO)
 | ((with_reducible apply Rw); exact aRO; assumption)
 | ((with_reducible apply RP.give); ((with_reducible apply RP.tk3); assumption; assumption); exact (ao rfl); exact hG)
 | ((with_reducible apply RP.give); ((with_reducible apply RP.W_sl); assumption; assumption); exact (ao rfl); exact hG)
 | ((with_reducible apply RP.give); ((with_reducible apply RP.g_sl); assumption; assumption); exact (ao rfl); exact hG)
 | fail):P:=h
theorem LK {P:Prop} (h:P:=by
 first
 | exact hTk
 | ((with_reducible apply eZ); exact hA'; exact hP'; exact rm)
 | ((with_reducible apply QW); exact hA'; exact hP'; exact rm)
 | exact hT.now (hZ.st hS).fr
 | assumption
 | fail):P:=h
theorem Fi {P:Prop} (h:P:=by
 first
 | ((with_reducible apply iU); (first | ((with_reducible (first | apply xJ | apply Bg | apply Cq | apply yZ | apply zg | apply BS | apply wB | apply wN | apply wl | apply wW | apply BL | apply iB | apply zU | apply oT | apply uj | apply r8 | apply tA | apply rK | apply Bf | apply ui | apply sN | apply rX | apply zm | apply zl | apply yY | apply CG | apply yX | apply Cw | apply jM | apply yV | apply ub | apply z6 | apply yU | apply zf | apply xw | apply gL | apply gh | apply gK | apply uy | apply xe | apply Ad | apply CN | apply zi | apply F2 | apply uq | apply xb | apply sM | apply y9 | apply wG | apply xH | apply Ch | apply wL | apply CM | apply ri | apply ET | apply lW | apply lN | apply FA | apply JW | apply AC)); (case h=>first | with_reducible exact hx | exact hx)) | ((with_reducible (first | apply FI | apply GM | apply za | apply Dd | apply Ey | apply ld | apply kX | apply jX | apply ve | apply iX | apply iz | apply iy | apply L4 | apply Di | apply C4 | apply zp | apply EK | apply zW | apply Cj | apply Gc | apply Fc | apply C2 | apply zq | apply A7 | apply yW | apply Cn | apply xn | apply c_law31_CoseJust | apply v7 | apply zn | apply c_law31_CoseOthers | apply uH | apply sF | apply lD | apply qb | apply oz | apply nL | apply na | apply tE | apply zh | apply tF | apply ob | apply tD | apply o9 | apply pf | apply zj | apply lE | apply uz | apply Dc | apply sq | apply pM | apply E0 | apply AS | apply EZ | apply Eu | apply CY | apply EI | apply Ew | apply Bu)); (case h=>first | with_reducible exact hx | exact hx)) | ((with_reducible (first | apply vR | apply De | apply Fj | apply FH | apply xU | apply GB | apply CK | apply xE | apply xg | apply CL | apply Fl | apply AU | apply Ig | apply Ha | apply xR | apply Gs | apply C6 | apply Da | apply FF | apply Cx | apply Dk | apply zY | apply FL | apply Br | apply zk | apply ze | apply E6 | apply tV | apply yA | apply yv | apply zd | apply CT | apply B3)); (case h=>first | with_reducible exact hx | exact hx))); (case e=>exact rfl); (all_goals exact CE))
 | fail):P:=h
theorem aCG {P:Prop} (h:P:=by
 first
 | ((with_reducible apply LC.m); (intro hG; (with_reducible apply iU); (first | ((with_reducible apply hrc); any_goals (with_reducible exact hx)) | ((with_reducible (first | apply yQ | apply mj | apply pO | apply qy | apply uV | apply ur | apply qk | apply uD | apply uC | apply pp | apply p9 | apply rQ | apply sH | apply p7 | apply mB | apply pW | apply pU | apply pQ | apply mn | apply og | apply KP | apply E3 | apply EV | apply EW | apply Fp | apply rI | apply rG | apply ov | apply ou | apply pq)); (case h=>first | with_reducible exact hx | exact hx)) | ((with_reducible apply rJ); (case h=>with_reducible exact hx)) | ((with_reducible apply pn); (case h=>with_reducible exact hx)) | ((with_reducible apply pm); (case h=>with_reducible exact hx)) | ((with_reducible apply mO); (case h=>with_reducible exact hx)) | ((with_reducible apply qG); (case h=>with_reducible exact hx)) | ((with_reducible apply uK); (case h=>with_reducible exact hx)) | ((with_reducible apply rn); (case h=>with_reducible exact hx)) | ((with_reducible apply rg); (case h=>with_reducible exact hx)) | ((with_reducible apply rH); (case h=>with_reducible exact hx)) | ((with_reducible apply pj); (case h=>with_reducible exact hx)) | ((with_reducible apply uf); (case h=>with_reducible exact hx)) | ((with_reducible apply qO); (case h=>with_reducible exact hx)) | ((with_reducible apply qB); (case h=>with_reducible exact hx)) | ((with_reducible apply z7); (case h=>with_reducible exact hx))); (case e=>exact rfl); (case hS=>(with_reducible apply St.give); exact hG)); (case hL=>exact nv); (all_goals exact CE))
 | fail):P:=h
theorem aCZ {P:Prop} (h:P:=by
 first
 | (intro hZ' hTk hA' hP' hS'; (try dsimp only[List.cons_append,List.nil_append]at hA' hP'); (with_reducible apply iU); (((with_reducible (first | apply AY | apply Cz | apply EP | apply sh | apply BY | apply qY | apply tG | apply sj | apply vJ)); (case h=>with_reducible exact hx))); (case e=>exact rfl); (all_goals exact LK))
 | fail):P:=h
theorem aKs {P:Prop} (h:P:=by
 first
 | exact Ks.a _
 | exact Ks.n rfl _
 | exact Ks.z
 | ((with_reducible apply Ks.b); exact aKs)
 | ((with_reducible apply Ks.d); exact aKs)
 | fail):P:=h
theorem qQ {P:Prop} (h:P:=by
 first
 | exact hT.now hF
 | exact CE
 | fail):P:=h
theorem aLk {P:Prop} (h:P:=by
 first
 | exact Lk.h _ _
 | ((with_reducible apply Lk.t); exact aLk)
 | fail):P:=h
theorem aLx {P:Prop} (h:P:=by
 first
 | exact Lx.h _ _
 | exact Lx.n
 | ((with_reducible apply Lx.t); exact aLx)
 | fail):P:=h
theorem aLg {P:Prop} (h:P:=by
 first
 | exact Lg.h _ _ _
 | ((with_reducible apply Lg.t); exact aLg)
 | fail):P:=h
theorem aAp {P:Prop} (h:P:=by
 first
 | exact Ap.n _
 | ((with_reducible apply Ap.c); exact aAp)
 | fail):P:=h
theorem aCm {P:Prop} (h:P:=by
 first
 | exact Hm.n
 | ((with_reducible apply Hm.c); exact aLg; exact aCm)
 | exact Bm.n _
 | ((with_reducible apply Bm.c); exact aLx; exact aCm; exact aAp)
 | exact Cm.n _
 | exact Ck.n _
 | ((with_reducible apply Cm.c); exact aLg; exact aCm; exact aAp)
 | ((with_reducible apply Ck.c); exact aLg; exact aCm; exact aAp)
 | fail):P:=h
theorem aHx {P:Prop} (h:P:=by
 first
 | apply rfl
 | ((with_reducible apply And.intro); exact aHx; exact aHx)
 | ((with_reducible apply Exists.intro); (case h=>exact aHx); (try (first | exact (0:Nat) | exact undef)))
 | fail):P:=h
theorem aNs {P:Prop} (h:P:=by
 first
 | exact NsM.n
 | ((with_reducible apply NsM.c); (intro h v x y hT1; (iterate 24 (try (obtain⟨hq,hT1⟩:=hT1))); (try subst hT1); exact rfl); exact aNs)
 | fail):P:=h
theorem aMf {P:Prop} (h:P:=by
 first
 | ((with_reducible apply Exists.intro); (with_reducible apply Exists.intro); (with_reducible apply And.intro); (iterate 12 (try (with_reducible apply Exists.intro))); (iterate 4 (try ((with_reducible apply And.intro); apply rfl))); (apply rfl); (case right=>((try dsimp only[List.cons_append,List.nil_append]); (with_reducible apply sfL); exact hZ; exact hTT; exact hA; exact hP; exact hS; exact nv; exact aSu)); (try (any_goals (first | exact (0:Nat) | exact undef))))
 | fail):P:=h
theorem Rr {P:Prop} (h:P:=by
 first
 | ((with_reducible apply iU); (with_reducible first | apply iB | apply gL | apply gh | apply gK | apply lW | apply lN | apply ld | apply kX | apply jX | apply iX | apply iz | apply iy); (case h=>with_reducible exact hx1); (case e=>exact rfl); (all_goals exact qQ))
 | fail):P:=h
theorem Sj {P:Prop} (h:P:=by
 first
 | ((with_reducible apply iU); (with_reducible first | apply iB | apply gL | apply gh | apply gK | apply lW | apply lN | apply ld | apply kX | apply jX | apply iX | apply iz | apply iy); (case h=>with_reducible exact hx2); (case e=>exact rfl); (all_goals exact qQ))
 | fail):P:=h
theorem Sa {P:Prop} (h:P:=by
 first
 | ((with_reducible apply iU); (with_reducible first | apply iB | apply gL | apply gh | apply gK | apply lW | apply lN | apply ld | apply kX | apply jX | apply iX | apply iz | apply iy); (case h=>with_reducible exact hx3); (case e=>exact rfl); (all_goals exact qQ))
 | fail):P:=h
theorem RS {P:Prop} (h:P:=by
 first
 | ((with_reducible apply iU); (with_reducible first | apply iB | apply gL | apply gh | apply gK | apply lW | apply lN | apply ld | apply kX | apply jX | apply iX | apply iz | apply iy); (case h=>with_reducible exact hx4); (case e=>exact rfl); (all_goals exact qQ))
 | fail):P:=h
theorem SO {P:Prop} (h:P:=by
 first
 | ((with_reducible apply iU); (with_reducible first | apply iB | apply gL | apply gh | apply gK | apply lW | apply lN | apply ld | apply kX | apply jX | apply iX | apply iz | apply iy); (case h=>with_reducible exact hx5); (case e=>exact rfl); (all_goals exact qQ))
 | fail):P:=h
theorem SJ {P:Prop} (h:P:=by
 first
 | ((with_reducible apply iU); (with_reducible first | apply iB | apply gL | apply gh | apply gK | apply lW | apply lN | apply ld | apply kX | apply jX | apply iX | apply iz | apply iy); (case h=>with_reducible exact hx6); (case e=>exact rfl); (all_goals exact qQ))
 | fail):P:=h
theorem Sv {P:Prop} (h:P:=by
 first
 | ((with_reducible apply iU); (with_reducible first | apply iB | apply gL | apply gh | apply gK | apply lW | apply lN | apply ld | apply kX | apply jX | apply iX | apply iz | apply iy); (case h=>with_reducible exact hx7); (case e=>exact rfl); (all_goals exact qQ))
 | fail):P:=h
theorem RE {P:Prop} (h:P:=by
 first
 | ((with_reducible apply LC.m); (intro hG; (with_reducible apply iU); (with_reducible first | apply mO | apply mn); (case h=>with_reducible exact hx2); (case e=>exact rfl); (case hS=>(with_reducible apply St.give); exact hG)); (case hL=>exact nv); (all_goals exact CE))
 | fail):P:=h
theorem RC {P:Prop} (h:P:=by
 first
 | ((with_reducible apply LC.m); (intro hG; (with_reducible apply iU); (with_reducible first | apply mO | apply mn); (case h=>with_reducible exact hx3); (case e=>exact rfl); (case hS=>(with_reducible apply St.give); exact hG)); (case hL=>exact nv); (all_goals exact CE))
 | fail):P:=h
theorem aMl {P:Prop} (h:P:=by
 first
 | exact RE
 | exact RC
 | fail):P:=h
theorem aMC {P:Prop} (h:P:=by
 first
 | (intro w Sl Tl hF hZ hTT hA hP hS; (try dsimp only[List.cons_append,List.nil_append]at hA hP hS); first | ((with_reducible apply sR); (case h=>first | exact Rr | exact Sj | exact Sa | exact RS | exact SO | exact SJ | exact Sv); intro v w hT1; (iterate 9 (try (first | (replace hS:=hS.call hT1; clear hT1; (try dsimp only[List.set,List.eraseIdx,List.cons_append,List.nil_append]at hS)) | (obtain⟨hq,hT1⟩:=hT1; try subst hq)))); exact aMf) | ((with_reducible apply FV); exact hS; exact aMl; intro v w hT1 hG; (iterate 9 (try (first | (replace hS:=hG.back hT1; clear hT1 hG; (try dsimp only[List.set,List.eraseIdx,List.cons_append,List.nil_append]at hS)) | (replace hS:=hS.call hT1; clear hT1; (try dsimp only[List.set,List.eraseIdx,List.cons_append,List.nil_append]at hS)) | (obtain⟨hq,hT1⟩:=hT1; try subst hq)))); exact aMf) | ((with_reducible apply Im); exact hZ; exact hTT; exact hA; exact hP; exact hS; exact AB; (case hc=>(intro hZ' hTk hA' hP' hS'; (try dsimp only[List.cons_append,List.nil_append]at hA' hP'); (with_reducible apply iU); (with_reducible apply sj); (first | (case h=>with_reducible exact hx1) | (case h=>with_reducible exact hx2) | (case h=>with_reducible exact hx3) | (case h=>with_reducible exact hx4) | (case h=>with_reducible exact hx5) | (case h=>with_reducible exact hx6) | (case h=>with_reducible exact hx7)); (case e=>exact rfl); (all_goals exact LK))); intro v w hT1 hZ hA hP hS; (try dsimp only[List.cons_append,List.nil_append]at hA hP); (iterate 12 (try (first | (have hR1:Rds _ _ _:=hT1; clear hT1; obtain⟨_,_,hZ,hA,hP,hS⟩:=hZ.callK hA hP hS hS1 hR1 rfl; clear hR1; (try dsimp only[List.cons_append,List.nil_append]at hA hP)) | (obtain⟨hq,hT1⟩:=hT1; first | subst hq | (have hS1:St _ _ _ _:=hq; clear hq) | skip)))); exact aMf))
 | fail):P:=h
theorem aMN {P:Prop} (h:P:=by
 first
 | (intro w Sl Tl hF hZ hTT hA hP hS; (try dsimp only[List.cons_append,List.nil_append]at hA hP hS); first | ((with_reducible apply QA); exact aV; exact aMf) | ((with_reducible apply MH); exact aX; intro v w hT1; (iterate 4 (try (first | (have hS9:St _ _ _ _:=hT1; clear hT1; (try clear hS); have hS:=hS9; clear hS9) | (obtain⟨hq,hT1⟩:=hT1; try subst hq)))); (try dsimp only[List.set]at hS); (try (unfold spl at hS; dsimp only[List.take,List.drop,List.length,List.nil_append,List.cons_append,Nat.zero_add,Nat.add_zero]at hS)); (try (obtain⟨x,hx,h⟩:=jo h; rw[hx]at hS)); exact aMf))
 | fail):P:=h
theorem aMY {P:Prop} (h:P:=by
 first
 | (intro w Sl Tl hF hZ hTT hA hP hS; (try dsimp only[List.cons_append,List.nil_append]at hA hP hS); (with_reducible apply NT); exact aY; intro w hS; (try dsimp only[List.set]at hS); (try (unfold spl at hS; dsimp only[List.take,List.drop,List.length,List.nil_append,List.cons_append,Nat.zero_add,Nat.add_zero]at hS)); (try (obtain⟨x,hx,h⟩:=jo h; rw[hx]at hS)); exact aMf)
 | fail):P:=h
theorem aOd {P:Prop} (h:P:=by
 first
 | (with_reducible exact Oc.lf _)
 | ((with_reducible apply Oc.t); exact aOd)
 | ((with_reducible apply Oc.e); exact aOd)
 | ((with_reducible apply Oc.g); exact aOd)
 | ((with_reducible apply Oc.b); intro x; exact aOd)
 | ((with_reducible apply Oc.l); intro x; exact aOd)
 | fail):P:=h
theorem aOc {P:Prop} (h:P:=by
 first
 | (with_reducible exact Oc.lf _)
 | ((with_reducible apply Oc.t); exact aOd)
 | ((with_reducible apply Oc.e); exact aOd)
 | ((with_reducible apply Oc.g); exact aOd)
 | ((with_reducible apply Oc.b); intro x; exact aOd)
 | ((with_reducible apply Oc.l); intro x; exact aOd)
 | (apply Oc.t; exact aOd)
 | (apply Oc.e; exact aOd)
 | (apply Oc.g; exact aOd)
 | (apply Oc.b; intro x; exact aOd)
 | (apply Oc.l; intro x; exact aOd)
 | exact Oc.z _
 | fail):P:=h
theorem aKn {P:Prop} (h9:P:=by with_reducible (first | exact kq1 h | exact kq2 h | exact kq3 h | exact kq4 h | exact kq5 h | exact kq6 h | exact kq7 h | exact kq8 h | exact ocx h)):P:=h9
theorem aH {P:Prop} (h9:P:=by first | with_reducible exact h | ((fail_if_success (have h8:True:=aKn)); exact h)):P:=h9
set_option maxRecDepth 20000
theorem wk {P:Prop} (h:P:=by
 repeat' (first
 | ((with_reducible apply isR); first | (with_reducible exact nN h) | (with_reducible apply dB) | (have hT8:=hT1; clear hT8; first | (have hR1:Rds _ _ _:=hT1; clear hT1; obtain⟨_,_,hZ,hA,hP,hS⟩:=hZ.callK hA hP hS hS1 hR1 rfl; clear hR1; (try dsimp only[List.cons_append,List.nil_append]at hA hP)) | (have hS1:St _ _ _ _:=hT1; clear hT1; obtain⟨_,_,hZ,hA,hP,hS⟩:=hZ.callK hA hP hS hS1 Rds.nil rfl; (try dsimp only[List.cons_append,List.nil_append]at hA hP)) | (refine KS hT1 ?_ ?_ <;> clear hT1 <;> (first | (intro hc hT1; have h:=sU h hc) | (intro c hc hT1; have h:=th h hc))) | (obtain⟨hq,hT1⟩:=hT1; first | subst hq | (have hS1:St _ _ _ _:=hq; clear hq) | skip)) | ((with_reducible apply HX); exact rfl; exact rfl; assumption; exact rfl; intro hz; subst hz) | ((with_reducible apply QB); have h9:=jo aH; clear h; obtain⟨x,hx,h⟩:=h9; (with_reducible apply aO); exact aAs; exact rfl) | ((with_reducible apply aO); exact aV; exact rfl) | ((with_reducible apply Rs); first | ((with_reducible apply N1); exact rfl; exact rfl) | ((with_reducible apply xY (b:=true)); exact rfl; exact rfl; exact rfl; exact rfl) | ((with_reducible apply xY (b:=false)); exact rfl; exact rfl; exact rfl; exact rfl) | ((with_reducible apply EE); exact rfl; exact rfl; exact rfl) | ((with_reducible apply JJ); exact rfl; exact rfl; all_goals (intro hb; (fail_if_success (with_reducible have h8:=lq1 hb)); (fail_if_success (with_reducible have h8:=lq2 hb)); refine BI.o ?_))) | (have h9:=jo aH; clear h; obtain⟨x,hx,h⟩:=h9; (with_reducible apply ii); ((with_reducible apply BQ); exact hS; exact rfl; exact jf; exact hx; exact rfl; (first | exact jI rfl | exact jI Ba | exact rfl); exact aSZ; exact aGs; exact rfl; exact rfl); refine YI.o ?_) | ((with_reducible apply kP); exact aX; exact rfl; refine XI.o ?_) | ((with_reducible apply ii); exact aY; refine YI.o ?_) | (have h9:=nD aH; clear h; obtain⟨hg,h⟩:=h9; (try have hg1:=hg.2); (try have hg2:=hg1.1)) | (have h8:True:=(by with_reducible exact ocx h); clear h8; refine Ip (by assumption) ?_ ?_ <;> (first | (intro hc hu; subst hu; have h9:=sU h hc; clear h; have h:=h9; clear h9; (try simp only[hc,iD,pa,bN]at hS)) | (intro c b hc hu; subst hu; have h9:=th h hc; clear h; have h:=h9; clear h9; (try simp only[hc,bO,pa,ge,cW,bN]at hS)))) | (have h9:=cO aH; clear h; obtain⟨x,hx,h⟩:=h9; first | (obtain⟨y,hy,hR⟩:=jD.get (by assumption) hx; (with_reducible apply aO); ((with_reducible apply o8); exact rfl; rotate_left; exact rfl; exact rfl; exact aRO; exact hy; (case hE=>exact aTI)); exact rfl) | ((with_reducible apply aO); exact aVb; exact rfl) | ((with_reducible apply kP); exact aXb; exact rfl; refine XI.o ?_) | ((with_reducible apply ii); exact aY; refine YI.o ?_) | ((with_reducible apply mM); kernel_rfl; exact rfl; exact Fi; exact rfl; refine CI.o ?_) | ((with_reducible apply HU); exact rfl; exact hS; exact aCG; kernel_rfl; exact rfl; refine GI.o ?_) | ((with_reducible apply EQ); exact rfl; exact rfl; exact hS; exact aCG; kernel_rfl; exact rfl; refine GI.o ?_) | ((with_reducible apply Ia); (case hargs=>exact rfl); (case hZ=>exact hZ); (case hTT=>exact hTT); (case hA=>exact hA); (case hP=>exact hP); (case hS=>exact hS); (case hs=>exact AB); (case hc=>exact aCZ); (case hf=>kernel_rfl); (case hd=>exact rfl); intro v w hT1 hZ hA hP hS; (try dsimp only[List.cons_append,List.nil_append]at hA hP))) | ((with_reducible apply aO); exact aVg; exact rfl) | (have h9:=cO aH; clear h; obtain⟨x,hx,h⟩:=h9))
 | ((with_reducible apply isE); first | (with_reducible exact nN h) | (with_reducible refine bA ?_) | (with_reducible refine bB ?_) | (with_reducible refine dS ?_) | (with_reducible refine fg ?_) | (with_reducible refine fw ?_) | (with_reducible refine eX ?_) | (with_reducible refine JD ?_) | ((with_reducible apply dG); exact rfl) | (have h9:=nD aH; clear h; obtain⟨hg,h⟩:=h9; (try have hg1:=hg.2); (try have hg2:=hg1.1)) | ((with_reducible have h9:=jo h); clear h; obtain⟨x,hx,h⟩:=h9; subst hx) | ((with_reducible apply Q6); exact ih; exact aH; exact hk; exact aI; exact rfl) | (obtain rfl:=et h; first | ((with_reducible apply jm); exact rfl; exact rfl; exact aI) | ((with_reducible apply jP); exact rfl; exact rfl; exact rfl; exact aI) | ((with_reducible apply NN); exact rfl; exact rfl; exact rfl; exact rfl; exact aI) | ((with_reducible apply qo); exact rfl; exact rfl; exact rfl; exact rfl; exact rfl; exact rfl; exact rfl; exact aI) | ((with_reducible apply tg); exact rfl; exact aI) | ((with_reducible apply Ii); exact rfl; exact aRV; exact aI) | ((with_reducible apply Qe); exact rfl; exact aRV; exact aRV; exact aI) | ((with_reducible apply OZ); exact rfl; exact aRV; exact aRV; exact aRV; exact aI)) | (have h8:True:=(by with_reducible exact ocx h); clear h8; refine Ip (by assumption) ?_ ?_ <;> (first | (intro hc hu; subst hu; have h9:=sU h hc; clear h; have h:=h9; clear h9; (try simp only[hc,iD,pa,bN]at hS)) | (intro c b hc hu; subst hu; have h9:=th h hc; clear h; have h:=h9; clear h9; (try simp only[hc,bO,pa,ge,cW,bN]at hS)))) | (subst hx; obtain rfl:=et h; (with_reducible apply jm); exact rfl; exact rfl; exact aI))
 | ((with_reducible apply isC); first | (with_reducible exact nN h) | ((with_reducible apply SI hK); exact aH; (first | (exact aI; exact aLe) | ((iterate 12 (try (with_reducible apply Exists.intro))); (with_reducible apply And.intro); (exact rfl); (case hl=>exact aLe); exact aI))) | ((with_reducible apply R6); (first | ((with_reducible apply jK (I:=j1)); exact rfl; exact rfl; exact h; exact aOc; (case hl=>exact aLe); (case hO=>exact aSt)) | ((with_reducible apply jK (I:=j1 ..)); exact rfl; exact rfl; exact h; exact aOc; (case hl=>exact aLe); (case hO=>exact aSt)) | ((with_reducible apply jK (I:=j2)); exact rfl; exact rfl; exact h; exact aOc; (case hl=>exact aLe); (case hO=>exact aSt)) | ((with_reducible apply jK (I:=j2 ..)); exact rfl; exact rfl; exact h; exact aOc; (case hl=>exact aLe); (case hO=>exact aSt)) | ((with_reducible apply jK (I:=j3)); exact rfl; exact rfl; exact h; exact aOc; (case hl=>exact aLe); (case hO=>exact aSt)) | ((with_reducible apply jK (I:=j3 ..)); exact rfl; exact rfl; exact h; exact aOc; (case hl=>exact aLe); (case hO=>exact aSt)) | ((with_reducible apply jK (I:=j4)); exact rfl; exact rfl; exact h; exact aOc; (case hl=>exact aLe); (case hO=>exact aSt)) | ((with_reducible apply jK (I:=j4 ..)); exact rfl; exact rfl; exact h; exact aOc; (case hl=>exact aLe); (case hO=>exact aSt)) | ((with_reducible apply jK (I:=j5)); exact rfl; exact rfl; exact h; exact aOc; (case hl=>exact aLe); (case hO=>exact aSt)) | ((with_reducible apply jK (I:=j5 ..)); exact rfl; exact rfl; exact h; exact aOc; (case hl=>exact aLe); (case hO=>exact aSt)) | ((with_reducible apply jK (I:=j6)); exact rfl; exact rfl; exact h; exact aOc; (case hl=>exact aLe); (case hO=>exact aSt)) | ((with_reducible apply jK (I:=j6 ..)); exact rfl; exact rfl; exact h; exact aOc; (case hl=>exact aLe); (case hO=>exact aSt)) | ((with_reducible apply jK (I:=j7)); exact rfl; exact rfl; exact h; exact aOc; (case hl=>exact aLe); (case hO=>exact aSt)) | ((with_reducible apply jK (I:=j7 ..)); exact rfl; exact rfl; exact h; exact aOc; (case hl=>exact aLe); (case hO=>exact aSt)) | ((with_reducible apply jK (I:=j8)); exact rfl; exact rfl; exact h; exact aOc; (case hl=>exact aLe); (case hO=>exact aSt)) | ((with_reducible apply jK (I:=j8 ..)); exact rfl; exact rfl; exact h; exact aOc; (case hl=>exact aLe); (case hO=>exact aSt)) | ((with_reducible apply jK (I:=j9)); exact rfl; exact rfl; exact h; exact aOc; (case hl=>exact aLe); (case hO=>exact aSt)) | ((with_reducible apply jK (I:=j9 ..)); exact rfl; exact rfl; exact h; exact aOc; (case hl=>exact aLe); (case hO=>exact aSt)) | ((with_reducible apply jK (I:=j10)); exact rfl; exact rfl; exact h; exact aOc; (case hl=>exact aLe); (case hO=>exact aSt)) | ((with_reducible apply jK (I:=j10 ..)); exact rfl; exact rfl; exact h; exact aOc; (case hl=>exact aLe); (case hO=>exact aSt)) | ((with_reducible apply jK (I:=j11)); exact rfl; exact rfl; exact h; exact aOc; (case hl=>exact aLe); (case hO=>exact aSt)) | ((with_reducible apply jK (I:=j11 ..)); exact rfl; exact rfl; exact h; exact aOc; (case hl=>exact aLe); (case hO=>exact aSt)) | ((with_reducible apply jK (I:=j12)); exact rfl; exact rfl; exact h; exact aOc; (case hl=>exact aLe); (case hO=>exact aSt)) | ((with_reducible apply jK (I:=j12 ..)); exact rfl; exact rfl; exact h; exact aOc; (case hl=>exact aLe); (case hO=>exact aSt)) | ((with_reducible apply jK (I:=j13)); exact rfl; exact rfl; exact h; exact aOc; (case hl=>exact aLe); (case hO=>exact aSt)) | ((with_reducible apply jK (I:=j13 ..)); exact rfl; exact rfl; exact h; exact aOc; (case hl=>exact aLe); (case hO=>exact aSt)) | ((with_reducible apply rT (I:=z1)); exact rfl; exact rfl; exact h; exact aOc; (case hl=>exact aLe); (case hO=>exact aSt); exact hA; exact hS; (case hX=>exact aSu)) | ((with_reducible apply rT (I:=z1 ..)); exact rfl; exact rfl; exact h; exact aOc; (case hl=>exact aLe); (case hO=>exact aSt); exact hA; exact hS; (case hX=>exact aSu)) | ((with_reducible apply rT (I:=z2)); exact rfl; exact rfl; exact h; exact aOc; (case hl=>exact aLe); (case hO=>exact aSt); exact hA; exact hS; (case hX=>exact aSu)) | ((with_reducible apply rT (I:=z2 ..)); exact rfl; exact rfl; exact h; exact aOc; (case hl=>exact aLe); (case hO=>exact aSt); exact hA; exact hS; (case hX=>exact aSu)) | ((with_reducible apply rT (I:=z3)); exact rfl; exact rfl; exact h; exact aOc; (case hl=>exact aLe); (case hO=>exact aSt); exact hA; exact hS; (case hX=>exact aSu)) | ((with_reducible apply rT (I:=z3 ..)); exact rfl; exact rfl; exact h; exact aOc; (case hl=>exact aLe); (case hO=>exact aSt); exact hA; exact hS; (case hX=>exact aSu)) | ((with_reducible apply rT (I:=z4)); exact rfl; exact rfl; exact h; exact aOc; (case hl=>exact aLe); (case hO=>exact aSt); exact hA; exact hS; (case hX=>exact aSu)) | ((with_reducible apply rT (I:=z4 ..)); exact rfl; exact rfl; exact h; exact aOc; (case hl=>exact aLe); (case hO=>exact aSt); exact hA; exact hS; (case hX=>exact aSu))); intro hK) | (with_reducible refine cJ ?_) | (with_reducible refine bV ?_) | (with_reducible refine cU ?_) | (with_reducible refine mS ?_) | (with_reducible refine fv ?_) | (with_reducible refine gV ?_) | (with_reducible refine Hb ?_) | (with_reducible refine GD ?_) | ((with_reducible apply SG); first | ((with_reducible apply F4); exact rfl; with_reducible exact h; all_goals (clear h; intro hb h; try subst hb)) | ((with_reducible apply F4); exact rfl; exact aH; all_goals (clear h; intro hb h; try subst hb)) | ((with_reducible apply Ot); exact rfl; (first | assumption | (subst hx; decide))) | ((with_reducible apply jF); exact rfl) | ((with_reducible apply sm); exact rfl) | (have h9:=nD aH; clear h; obtain⟨hg,h⟩:=h9; (try have hg1:=hg.2); (try have hg2:=hg1.1)) | ((with_reducible apply F4); exact rfl; exact h; all_goals (clear h; intro hb h; try subst hb))) | ((with_reducible apply Ry); (first | ((with_reducible apply mE (I:=i1)); exact rfl; exact aH) | ((with_reducible apply mE (I:=i1 ..)); exact rfl; exact aH) | ((with_reducible apply mE (I:=i2)); exact rfl; exact aH) | ((with_reducible apply mE (I:=i2 ..)); exact rfl; exact aH) | ((with_reducible apply mE (I:=i3)); exact rfl; exact aH) | ((with_reducible apply mE (I:=i3 ..)); exact rfl; exact aH) | ((with_reducible apply mE (I:=i4)); exact rfl; exact aH) | ((with_reducible apply mE (I:=i4 ..)); exact rfl; exact aH) | ((with_reducible apply mE (I:=i5)); exact rfl; exact aH) | ((with_reducible apply mE (I:=i5 ..)); exact rfl; exact aH)); (first | (exact aI; exact aLe) | ((iterate 12 (try (with_reducible apply Exists.intro))); (with_reducible apply And.intro); (exact rfl); (case hl=>exact aLe); exact aI)); refine LI.o ?_) | ((with_reducible apply Rk); first | (have h9:=cO aH; clear h; obtain⟨x1,hx1,h⟩:=h9; ((with_reducible apply Ae (I:=m1c1 x1 ..)); exact rfl; exact aLe; exact hZ; exact hTT; exact hA; exact hP; exact hS; exact nv; exact rfl; exact rfl; exact rfl; exact aNs; exact kr; kernel_rfl; kernel_rfl; show kQ _ _ _ _ _ _ _ _ _ _ _ _ _ _ _ _ (_ :: _) _ _)) | (have h9:=cO aH; clear h; obtain⟨x1,hx1,h⟩:=h9; have h9:=cO aH; clear h; obtain⟨x2,hx2,h⟩:=h9; have h9:=cO aH; clear h; obtain⟨x3,hx3,h⟩:=h9; ((with_reducible apply Ae (I:=m1c3 x1 x2 x3 ..)); exact rfl; exact aLe; exact hZ; exact hTT; exact hA; exact hP; exact hS; exact nv; exact rfl; exact rfl; exact rfl; exact aNs; exact kr; kernel_rfl; kernel_rfl; show kQ _ _ _ _ _ _ _ _ _ _ _ _ _ _ _ _ (_ :: _) _ _)) | (have h9:=cO aH; clear h; obtain⟨x1,hx1,h⟩:=h9; have h9:=cO aH; clear h; obtain⟨x2,hx2,h⟩:=h9; have h9:=cO aH; clear h; obtain⟨x3,hx3,h⟩:=h9; have h9:=cO aH; clear h; obtain⟨x4,hx4,h⟩:=h9; have h9:=cO aH; clear h; obtain⟨x5,hx5,h⟩:=h9; ((with_reducible apply Ae (I:=m1c5 x1 x2 x3 x4 x5 ..)); exact rfl; exact aLe; exact hZ; exact hTT; exact hA; exact hP; exact hS; exact nv; exact rfl; exact rfl; exact rfl; exact aNs; exact kr; kernel_rfl; kernel_rfl; show kQ _ _ _ _ _ _ _ _ _ _ _ _ _ _ _ _ (_ :: _) _ _)) | (have h9:=cO aH; clear h; obtain⟨x1,hx1,h⟩:=h9; ((with_reducible apply Ae (I:=m2c1 x1 ..)); exact rfl; exact aLe; exact hZ; exact hTT; exact hA; exact hP; exact hS; exact nv; exact rfl; exact rfl; exact rfl; exact aNs; exact kr; kernel_rfl; kernel_rfl; show kQ _ _ _ _ _ _ _ _ _ _ _ _ _ _ _ _ (_ :: _) _ _)) | (have h9:=cO aH; clear h; obtain⟨x1,hx1,h⟩:=h9; have h9:=cO aH; clear h; obtain⟨x2,hx2,h⟩:=h9; have h9:=cO aH; clear h; obtain⟨x3,hx3,h⟩:=h9; have h9:=cO aH; clear h; obtain⟨x4,hx4,h⟩:=h9; have h9:=cO aH; clear h; obtain⟨x5,hx5,h⟩:=h9; have h9:=cO aH; clear h; obtain⟨x6,hx6,h⟩:=h9; have h9:=cO aH; clear h; obtain⟨x7,hx7,h⟩:=h9; ((with_reducible apply Ae (I:=m2c7 x1 x2 x3 x4 x5 x6 x7 ..)); exact rfl; exact aLe; exact hZ; exact hTT; exact hA; exact hP; exact hS; exact nv; exact rfl; exact rfl; exact rfl; exact aNs; exact kr; kernel_rfl; kernel_rfl; show kQ _ _ _ _ _ _ _ _ _ _ _ _ _ _ _ _ (_ :: _) _ _)) | ((with_reducible apply P5 (I:=r1 ..)); exact rfl; exact rfl; exact hS; (intro w hS; exact aSt); exact kr; exact (fun _ _ _ hf=>hf.2); exact (fun _ _ hf=>hf); decide +kernel; intro w hS; show lxE _ _ _ _ _ _ _ (_ :: _) _ _) | ((with_reducible apply P5 (I:=r2 ..)); exact rfl; exact rfl; exact hS; (intro w hS; exact aSt); exact kr; exact (fun _ _ _ hf=>hf.2); exact (fun _ _ hf=>hf); decide +kernel; intro w hS; show lxE _ _ _ _ _ _ _ (_ :: _) _ _) | ((with_reducible apply Pe); exact cf; exact hS; exact aKs; exact kr; exact (fun _ _ _ hf=>hf.2); exact (fun _ _ hf=>hf); decide +kernel; intro w hS; show lxE _ _ _ _ _ _ _ (_ :: _) _ _) | ((with_reducible apply Og); exact cf; exact hS; exact aKs; exact kr; exact (fun _ _ _ hf=>hf.2); exact (fun _ _ hf=>hf); decide +kernel; intro w hS; show lxE _ _ _ _ _ _ _ (_ :: _) _ _) | ((with_reducible apply Pe); exact Cf.d; exact hS; exact aKs; exact kr; exact (fun _ _ _ hf=>hf.2); exact (fun _ _ hf=>hf); decide +kernel; intro w hS; show lxE _ _ _ _ _ _ _ (_ :: _) _ _) | ((with_reducible apply Og); exact Cf.d; exact hS; exact aKs; exact kr; exact (fun _ _ _ hf=>hf.2); exact (fun _ _ hf=>hf); decide +kernel; intro w hS; show lxE _ _ _ _ _ _ _ (_ :: _) _ _)) | ((with_reducible have h9:=jo h); clear h; obtain⟨x,hx,h⟩:=h9; subst hx))
 | ((with_reducible apply isX); first | (with_reducible exact nN h) | (have h9:=jo aH; clear h; obtain⟨x,hx,h⟩:=h9; (with_reducible apply cC); exact aSt; exact rfl; exact rfl; (intro w hF; first | (have hS:=hF; exact aAs) | exact aAs); exact rfl) | ((with_reducible apply cC); exact aSt; exact rfl; exact rfl; (intro w hF; first | (have hS:=hF; exact aV) | exact aV); exact rfl) | ((with_reducible apply q7); exact aSt; exact rfl; exact rfl; exact rfl; exact aV; exact rfl) | ((with_reducible apply gN); exact aSt; exact rfl; exact rfl; exact rfl; exact rfl; (intro w hF; first | (have hS:=hF; exact aV) | exact aV); exact rfl) | ((with_reducible apply eK (b:=true)); exact aSt; exact rfl; exact rfl; exact rfl; exact rfl; exact rfl; exact rfl) | ((with_reducible apply vu (b:=true)); exact aSt; exact rfl; exact rfl; exact rfl; exact rfl; exact rfl; exact rfl) | ((with_reducible apply eK (b:=false)); exact aSt; exact rfl; exact rfl; exact rfl; exact rfl; exact rfl; exact rfl) | ((with_reducible apply vu (b:=false)); exact aSt; exact rfl; exact rfl; exact rfl; exact rfl; exact rfl; exact rfl) | ((with_reducible apply Fy); exact aSt; exact rfl; exact rfl; exact rfl; exact rfl; exact rfl) | ((with_reducible apply Jv); exact rfl; exact rfl; exact rfl; all_goals (intro hb; (fail_if_success (with_reducible have h8:=lq1 hb)); (fail_if_success (with_reducible have h8:=lq2 hb)); refine BI.o ?_)) | (have h9:=jo aH; clear h; obtain⟨x,hx,h⟩:=h9; (with_reducible apply qS); exact aSt; exact rfl; exact rfl; ((with_reducible apply BQ); exact hS; exact rfl; exact jf; exact hx; exact rfl; (first | exact jI rfl | exact jI Ba | exact rfl); exact aSZ; exact aGs; exact rfl; exact rfl); refine YI.o ?_) | ((with_reducible apply vP); exact aSt; exact rfl; exact rfl; exact aX; exact rfl; refine XI.o ?_) | ((with_reducible apply qS); exact aSt; exact rfl; exact rfl; exact aY; refine YI.o ?_) | ((with_reducible apply HW); exact aSt; exact rfl; exact rfl; exact aV; exact rfl) | (have h9:=nD aH; clear h; obtain⟨hg,h⟩:=h9; (try have hg1:=hg.2); (try have hg2:=hg1.1)) | (have h9:=cO aH; clear h; obtain⟨x,hx,h⟩:=h9; first | ((with_reducible apply cC); exact aSt; exact rfl; exact rfl; (intro w hF; first | (have hS:=hF; exact aVb) | exact aVb); exact rfl) | ((with_reducible apply gN); exact aSt; exact rfl; exact rfl; exact rfl; exact rfl; (intro w hF; first | (have hS:=hF; exact aVb) | exact aVb); exact rfl) | ((with_reducible apply vP); exact aSt; exact rfl; exact rfl; exact aXb; exact rfl; refine XI.o ?_) | ((with_reducible apply qS); exact aSt; exact rfl; exact rfl; exact aY; refine YI.o ?_) | ((with_reducible apply HW); exact aSt; exact rfl; exact rfl; exact aVb; exact rfl) | ((with_reducible apply jQ); exact aSt; exact rfl; exact rfl; kernel_rfl; exact rfl; exact Fi; exact rfl; refine CI.o ?_) | ((with_reducible apply HJ); exact aSt; exact rfl; exact rfl; exact rfl; exact rfl; kernel_rfl; exact rfl; exact Fi; exact rfl; refine CI.o ?_) | ((with_reducible apply Gx); exact aSt; exact rfl; exact rfl; exact rfl; exact hS; exact aCG; kernel_rfl; exact rfl; refine GI.o ?_)) | ((with_reducible apply cC); exact aSt; exact rfl; exact rfl; (intro w hF; first | (have hS:=hF; exact aVg) | exact aVg); exact rfl) | ((with_reducible apply gN); exact aSt; exact rfl; exact rfl; exact rfl; exact rfl; (intro w hF; first | (have hS:=hF; exact aVg) | exact aVg); exact rfl) | ((with_reducible apply iG); first | exact aSt | exact trivial))
 | ((with_reducible apply isM); first | ((with_reducible apply RU); exact rfl; exact rfl; (intro w Sb wb hZ hA hP hS; exact aV); exact rfl) | ((with_reducible apply Mg); exact rfl; exact rfl; kernel_rfl; exact rfl; exact aLk; exact aLk; exact aLx; exact aCm; exact aCm; exact aCm; exact aCm; exact (fun _ _ _ _=>rfl); exact rfl; exact rfl; exact rfl; exact rfl; exact aHx; exact aMC; exact rfl; refine MI.o ?_) | ((with_reducible apply KE); exact rfl; exact rfl; exact rfl; kernel_rfl; exact rfl; exact aLk; exact aLk; exact aLx; exact aCm; exact aCm; exact aCm; exact aCm; exact (fun _ _ _ _=>rfl); exact rfl; exact rfl; exact rfl; exact rfl; exact aHx; exact aMC; exact rfl; refine MI.o ?_) | ((with_reducible apply Qh); exact rfl; exact rfl; exact aLk; exact aLk; exact aLx; exact aCm; exact aCm; exact aCm; exact aCm; exact (fun _ _ _ _=>rfl); exact rfl; exact rfl; exact rfl; exact rfl; exact aHx; exact aMN; exact rfl; refine MI.o ?_) | ((with_reducible apply Rt); exact rfl; exact rfl; exact aLk; exact aLk; exact aLx; exact aCm; exact aCm; exact aCm; exact aCm; exact (fun _ _ _ _=>rfl); exact rfl; exact rfl; exact rfl; exact rfl; exact aHx; exact aMY; refine MI.o ?_) | ((with_reducible apply PQ); exact aCm; exact aCm; exact rfl; exact rfl; refine NI.o ?_))
 | (have h9:=iV h hk; clear h hk ih; have h:=h9; clear h9)
 | ((with_reducible apply SF); (clear h; (intro s L w hI h; iterate 9 (try (obtain⟨x,s⟩:_×_:=s)); (try dsimp only at hI); (try dsimp only); iterate 9 (try (first | (have hS9:St _ _ _ _:=hI; clear hI; (try clear hS); have hS:=hS9; clear hS9) | (have hT9:SfT _ _ _ _ _ _:=hI; clear hI; (try clear hZ hA hP hS); obtain⟨_,_,hZ,hA,hP,hS⟩:=hT9) | (obtain⟨hq,hI⟩:=hI; try subst hq))); (try dsimp only))))
 | ((with_reducible apply XI.i); (intro v w hT1; (iterate 4 (try (first | (have hS9:St _ _ _ _:=hT1; clear hT1; (try clear hS); have hS:=hS9; clear hS9) | (obtain⟨hq,hT1⟩:=hT1; try subst hq)))); (try dsimp only[List.set]at hS); (try (unfold spl at hS; dsimp only[List.take,List.drop,List.length,List.nil_append,List.cons_append,Nat.zero_add,Nat.add_zero]at hS)); (try (obtain⟨x,hx,h⟩:=jo h; rw[hx]at hS))))
 | ((with_reducible apply YI.i); (intro w hS; (try dsimp only[List.set]at hS); (try (unfold spl at hS; dsimp only[List.take,List.drop,List.length,List.nil_append,List.cons_append,Nat.zero_add,Nat.add_zero]at hS)); (try (obtain⟨x,hx,h⟩:=jo h; rw[hx]at hS))))
 | ((with_reducible apply CI.i); (intro v w hT1; iterate 9 (try (first | (replace hS:=hS.call hT1; clear hT1; (try dsimp only[List.set,List.eraseIdx,List.cons_append,List.nil_append]at hS)) | (obtain⟨hq,hT1⟩:=hT1; try subst hq)))))
 | ((with_reducible apply GI.i); (intro v w hT1 hG; iterate 9 (try (first | (replace hS:=hG.back hT1; clear hT1 hG; (try dsimp only[List.set,List.eraseIdx,List.cons_append,List.nil_append]at hS)) | (replace hS:=hS.call hT1; clear hT1; (try dsimp only[List.set,List.eraseIdx,List.cons_append,List.nil_append]at hS)) | (obtain⟨hq,hT1⟩:=hT1; try subst hq)))))
 | ((with_reducible apply LI.i); (clear h; intro k s L w q hI ih h hk; iterate 9 (try (obtain⟨x,s⟩:_×_:=s)); (try dsimp only at hI); (try dsimp only); iterate 9 (try (first | (have hS9:St _ _ _ _:=hI; clear hI; (try clear hS); have hS:=hS9; clear hS9) | (have hT9:SfT _ _ _ _ _ _:=hI; clear hI; (try clear hZ hA hP hS); obtain⟨_,_,hZ,hA,hP,hS⟩:=hT9) | (obtain⟨hq,hI⟩:=hI; try subst hq))); (try dsimp only)))
 | ((with_reducible apply BI.i); ((first | (with_reducible have h9:=iq h hb) | (with_reducible have h9:=ir h hb) | (have h8:True:=aKn; have h9:=h) | have h9:=iq h hb | have h9:=ir h hb | have h9:=h); clear h; have h:=h9; clear h9; (first | subst hb | ((try simp only[hb]); (try rw[hb]at h)))))
 | ((with_reducible apply MI.i); (intro v x y hT1; (iterate 24 (try (obtain⟨hq,hT1⟩:=hT1; first | subst hq | (have h8:(_ :: _:List Th)=_:=hq; clear h8; cases hq) | skip))); (try subst hT1)))
 | ((with_reducible apply NI.i); (intro w hT1; clear hZ hA hP hS; obtain⟨_,_,hZ,hA,hP,hS⟩:=hT1))
 | fail)
 ):P:=h
end Go.Gk
