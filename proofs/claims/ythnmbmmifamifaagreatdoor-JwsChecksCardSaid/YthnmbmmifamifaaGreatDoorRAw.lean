import Derived.Test.YthnmbmmifamifaaGreatDoorRAl
set_option linter.unusedVariables false
set_option linter.unusedSimpArgs false
set_option linter.unusedSectionVars false
set_option maxRecDepth 4000
namespace Go.Gk
open Go Go.RowKit
theorem aTI {P:Prop} (h:P:=by
 first
 | exact ti5
 | exact MR
 | exact QB
 | exact xb
 | fail):P:=h
theorem aTZ {P:Prop} (h:P:=by
 first
 | exact Sw
 | exact Sn
 | exact SO
 | exact Sp
 | exact NG
 | exact Nk
 | exact Sk
 | exact Sr
 | exact Ld
 | exact TA
 | exact PZ
 | fail):P:=h
theorem aNZ {P:Prop} (h:P:=by
 first
 | exact A5
 | fail):P:=h
theorem aSZ {P:Prop} (h:P:=by
 first
 | exact Ss
 | exact g8
 | exact RQ
 | exact om
 | exact SL
 | exact mb
 | exact Tr
 | fail):P:=h
theorem S6 {P:Prop} (h:P:=by
 first
 | exact P0
 | exact QK
 | exact Ri
 | exact Ih
 | exact H6
 | exact RA
 | exact QC
 | exact Sq
 | exact nK
 | exact No
 | fail):P:=h
theorem aUh {P:Prop} (h:P:=by
 first
 | exact Up.here
 | ((with_reducible apply Up.skipC); exact rfl; exact aUh)
 | ((with_reducible apply Up.skipL); exact aL1; exact rfl; exact aUh)
 | fail):P:=h
theorem aGO {P:Prop} (h:P:=by
 first
 | assumption
 | fail):P:=h
theorem aLn {P:Prop} (h:P:=by
 first
 | assumption
 | exact rfl
 | ((with_reducible apply dQ); exact aLn; exact rfl)
 | exact aZ
 | (rw[<-hx,bM]; assumption)
 | (simp only[bM]; exact aLn)
 | fail):P:=h
theorem aLs {P:Prop} (h:P:=by
 first
 | ((with_reducible apply PF); exact aLs; exact aLs; exact rfl)
 | ((with_reducible apply SH); exact aLs; exact rfl)
 | ((with_reducible apply dQ); (first | assumption | exact aZ); exact rfl)
 | exact rfl
 | fail):P:=h
theorem aO1 {P:Prop} (h:P:=by
 first
 | exact oU
 | exact nM rfl
 | ((with_reducible apply OY); exact aO1; exact aO1)
 | fail):P:=h
theorem aL1 {P:Prop} (h:P:=by
 first
 | ((with_reducible apply dQ); exact aLn; exact rfl)
 | exact rfl
 | fail):P:=h
theorem aTb {P:Prop} (h:P:=by
 first
 | exact hT.rsa1_infos.cells hS.fr
 | exact hT.ed_orderLimbs.cells hS.fr
 | exact hT.ed_baseLimbs.cells hS.fr
 | exact hT.ref4_start384.cells hS.fr
 | exact hT.ref4_start512.cells hS.fr
 | exact hT.sha_start256.cells hS.fr
 | exact hT.sha_start384.cells hS.fr
 | exact hT.sha_start512.cells hS.fr
 | exact hT.ed_primeLimbs.cells hS.fr
 | exact hT.ed_curveLimbs.cells hS.fr
 | exact hT.ref4_start256.cells hS.fr
 | exact hT.ref4_k256.cells hS.fr
 | exact hT.ref4_k512.cells hS.fr
 | exact hT.ed_rootLimbs.cells hS.fr
 | exact hT.sha_k256.cells hS.fr
 | exact hT.sha_k512.cells hS.fr
 | exact hT.rsa1_infos.cells (hZ.st hS).fr
 | exact hT.ed_orderLimbs.cells (hZ.st hS).fr
 | exact hT.ed_baseLimbs.cells (hZ.st hS).fr
 | exact hT.ref4_start384.cells (hZ.st hS).fr
 | exact hT.ref4_start512.cells (hZ.st hS).fr
 | exact hT.sha_start256.cells (hZ.st hS).fr
 | exact hT.sha_start384.cells (hZ.st hS).fr
 | exact hT.sha_start512.cells (hZ.st hS).fr
 | exact hT.ed_primeLimbs.cells (hZ.st hS).fr
 | exact hT.ed_curveLimbs.cells (hZ.st hS).fr
 | exact hT.ref4_start256.cells (hZ.st hS).fr
 | exact hT.ref4_k256.cells (hZ.st hS).fr
 | exact hT.ref4_k512.cells (hZ.st hS).fr
 | exact hT.ed_rootLimbs.cells (hZ.st hS).fr
 | exact hT.sha_k256.cells (hZ.st hS).fr
 | exact hT.sha_k512.cells (hZ.st hS).fr
 | fail):P:=h
theorem kX {P:Prop} (h:P:=by
 first
 | exact Nth.h _ _
 | ((with_reducible apply Nth.t); exact kX)
 | fail):P:=h
theorem aEr {P:Prop} (h:P:=by
 first
 | exact Er.h _
 | ((with_reducible apply Er.t); exact aEr)
 | fail):P:=h
theorem sK {P:Prop} (h:P:=by
 first
 | exact Mm.h _
 | ((with_reducible apply Mm.t); exact sK)
 | fail):P:=h
theorem aHk {P:Prop} (h:P:=by
 first
 | assumption
 | exact hg.2
 | exact hg.1
 | fail):P:=h
theorem aRO {P:Prop} (h:P:=by
 first
 | ((with_reducible apply St.roN); exact hS; exact kX)
 | ((with_reducible apply RP.now); assumption; exact hS.fr)
 | exact RO.nil _ _
 | ((with_reducible apply St.rroN); exact hS; exact kX)
 | ((with_reducible apply RP.now); ((with_reducible apply Rds.rpm); exact hA; exact sK); exact hS.fr)
 | ((with_reducible apply RP.now); assumption; exact (hZ.st hS).fr)
 | ((with_reducible apply RO.tk); exact aRO; exact aHk)
 | ((with_reducible apply RO.tk3); exact aRO; exact aHk)
 | ((with_reducible apply RO.g_sl); exact aRO; assumption)
 | ((with_reducible apply RO.g_sll); exact aRO; assumption)
 | ((with_reducible apply RO.g_slh); exact aRO; assumption)
 | ((with_reducible apply RO.g_sl3); exact aRO; assumption)
 | ((with_reducible apply St.bxroA); exact hS; exact kX; (case hu=>exact aUp); exact aLn)
 | ((with_reducible apply RO.po); (case hp=>assumption); exact aRO)
 | fail):P:=h
theorem aUp {P:Prop} (h:P:=by
 first
 | exact Up.last
 | exact Up.here
 | ((with_reducible apply Up.skipC); exact rfl; exact aUp)
 | ((with_reducible apply Up.skipL); exact aL1; exact rfl; exact aUp)
 | fail):P:=h
theorem aUg {P:Prop} (h:P:=by
 first
 | exact rfl
 | ((with_reducible apply Up.elr); exact aUp; assumption; exact rfl)
 | ((with_reducible apply Up.get0); exact aUp)
 | fail):P:=h
theorem RR {P:Prop} (h:P:=by
 first
 | ((with_reducible apply St.bxcN); exact hS; exact kX; exact rfl)
 | ((with_reducible apply RB.cell'); assumption; exact hS.fr; exact rfl)
 | ((with_reducible apply RB.cell'); ((with_reducible apply Rds.rbm); exact hA; exact sK); exact hS.fr; exact rfl)
 | exact hT.rsa1_infos.cell hS.fr (by assumption) rfl
 | exact hT.ed_orderLimbs.cell hS.fr (by assumption) rfl
 | exact hT.ed_baseLimbs.cell hS.fr (by assumption) rfl
 | exact hT.ref4_start384.cell hS.fr (by assumption) rfl
 | exact hT.ref4_start512.cell hS.fr (by assumption) rfl
 | exact hT.sha_start256.cell hS.fr (by assumption) rfl
 | exact hT.sha_start384.cell hS.fr (by assumption) rfl
 | exact hT.sha_start512.cell hS.fr (by assumption) rfl
 | exact hT.ed_primeLimbs.cell hS.fr (by assumption) rfl
 | exact hT.ed_curveLimbs.cell hS.fr (by assumption) rfl
 | exact hT.ref4_start256.cell hS.fr (by assumption) rfl
 | exact hT.ref4_k256.cell hS.fr (by assumption) rfl
 | exact hT.ref4_k512.cell hS.fr (by assumption) rfl
 | exact hT.ed_rootLimbs.cell hS.fr (by assumption) rfl
 | exact hT.sha_k256.cell hS.fr (by assumption) rfl
 | exact hT.sha_k512.cell hS.fr (by assumption) rfl
 | exact hT.rsa1_infos.cell (hZ.st hS).fr (by assumption) rfl
 | exact hT.ed_orderLimbs.cell (hZ.st hS).fr (by assumption) rfl
 | exact hT.ed_baseLimbs.cell (hZ.st hS).fr (by assumption) rfl
 | exact hT.ref4_start384.cell (hZ.st hS).fr (by assumption) rfl
 | exact hT.ref4_start512.cell (hZ.st hS).fr (by assumption) rfl
 | exact hT.sha_start256.cell (hZ.st hS).fr (by assumption) rfl
 | exact hT.sha_start384.cell (hZ.st hS).fr (by assumption) rfl
 | exact hT.sha_start512.cell (hZ.st hS).fr (by assumption) rfl
 | exact hT.ed_primeLimbs.cell (hZ.st hS).fr (by assumption) rfl
 | exact hT.ed_curveLimbs.cell (hZ.st hS).fr (by assumption) rfl
 | exact hT.ref4_start256.cell (hZ.st hS).fr (by assumption) rfl
 | exact hT.ref4_k256.cell (hZ.st hS).fr (by assumption) rfl
 | exact hT.ref4_k512.cell (hZ.st hS).fr (by assumption) rfl
 | exact hT.ed_rootLimbs.cell (hZ.st hS).fr (by assumption) rfl
 | exact hT.sha_k256.cell (hZ.st hS).fr (by assumption) rfl
 | exact hT.sha_k512.cell (hZ.st hS).fr (by assumption) rfl
 | ((with_reducible apply St.bxgN); exact hS; exact kX; exact aUg)
 | fail):P:=h
theorem aB {P:Prop} (h:P:=by
 first
 | ((with_reducible apply nt .add); first | (with_reducible exact IA _ _ _) | (with_reducible exact lV _ _ _) | (with_reducible exact lZ _ _ _))
 | ((with_reducible apply nt .sub); first | (with_reducible exact Ki _ _ _) | (with_reducible exact OG _ _ _) | (with_reducible exact PP _ _ _) | (with_reducible exact Rq _ _ _))
 | ((with_reducible apply nt .mul); first | (with_reducible exact rC _ _ _) | (with_reducible exact Pg _ _ _) | (with_reducible exact OO _ _ _))
 | ((with_reducible apply nt .lss); first | (with_reducible exact Js _ _ _) | (with_reducible exact PO _ _ _) | (with_reducible exact O0 _ _ _) | (with_reducible exact Q3 _ _ _))
 | ((with_reducible apply nt .eql); first | (with_reducible exact JS _ _ _) | (with_reducible exact OK _ _ _) | (with_reducible exact Fk _ _ _) | (with_reducible exact Rh _ _ _) | (with_reducible exact QT _ _ _) | (with_reducible exact Ig _ _ _ rfl rfl) | ((with_reducible apply IW); exact rfl) | ((with_reducible apply J5); exact rfl))
 | ((with_reducible apply nt .neq); first | (with_reducible exact JU _ _ _) | (with_reducible exact Pm _ _ _) | (with_reducible exact OS _ _ _) | (with_reducible exact tt _ _ _) | (with_reducible exact KC _ _ _ rfl rfl) | ((with_reducible apply QR); exact rfl) | ((with_reducible apply Qv); exact rfl))
 | ((with_reducible apply nt .gtr); first | (with_reducible exact Jc _ _ _) | (with_reducible exact OU _ _ _) | (with_reducible exact Pz _ _ _))
 | ((with_reducible apply nt .geq); first | (with_reducible exact xy _ _ _) | (with_reducible exact NN _ _ _) | (with_reducible exact O4 _ _ _) | (with_reducible exact Rt _ _ _))
 | ((with_reducible apply nt .leq); first | (with_reducible exact JY _ _ _) | (with_reducible exact Ou _ _ _) | (with_reducible exact Rk _ _ _))
 | ((with_reducible apply nt .and); first | (with_reducible exact RD _ _ _) | (with_reducible exact px _ _ _) | (with_reducible exact nQ _ _ _) | (with_reducible exact Ra _ _ _))
 | ((with_reducible apply nt .or); first | (with_reducible exact Ke _ _ _) | (with_reducible exact wD _ _ _) | (with_reducible exact R6 _ _ _))
 | ((with_reducible apply nt .xor); first | (with_reducible exact mj _ _ _) | (with_reducible exact mm _ _ _) | (with_reducible exact pQ _ _ _))
 | ((with_reducible apply nt .quo); first | ((with_reducible apply wN); first | decide | assumption) | ((with_reducible apply Om); first | decide | assumption) | ((with_reducible apply Pj); first | decide | assumption))
 | ((with_reducible apply nt .rem); first | ((with_reducible apply uo); first | decide | assumption) | ((with_reducible apply E9); first | decide | assumption) | ((with_reducible apply PM); first | decide | assumption) | ((with_reducible apply Qp); first | decide | assumption))
 | ((with_reducible apply nt .shr); first | (with_reducible exact kG _ _ _ 1 rfl) | (with_reducible exact kG _ _ _ 2 rfl) | (with_reducible exact kG _ _ _ 3 rfl) | (with_reducible exact kG _ _ _ 4 rfl) | (with_reducible exact kG _ _ _ 5 rfl) | (with_reducible exact kG _ _ _ 6 rfl) | (with_reducible exact kG _ _ _ 8 rfl) | (with_reducible exact kG _ _ _ 16 rfl) | (with_reducible exact kG _ _ _ 24 rfl) | (with_reducible exact kG _ _ _ 31 rfl) | (with_reducible exact kG _ _ _ 32 rfl) | (with_reducible exact qf _ _ _) | ((with_reducible apply IZ); first | assumption | decide) | (with_reducible exact kY _ _ _) | ((with_reducible apply Kw); first | assumption | decide) | (with_reducible exact Kr _ _ _) | ((with_reducible apply KR); first | assumption | decide))
 | ((with_reducible apply nt .shl); first | (with_reducible exact wJ _ _ _) | ((with_reducible apply Jg); first | assumption | decide) | (with_reducible exact qe _ _ _) | ((with_reducible apply IJ); first | assumption | decide))
 | ((with_reducible apply nt .andNot); first | (with_reducible exact ID _ _ _))
 | ((with_reducible apply Pc); (exact rfl); exact aB)
 | ((with_reducible apply OD); (exact rfl); exact aB)
 | ((with_reducible apply NS); (exact rfl); exact aB)
 | ((with_reducible apply Ob); (exact rfl); exact aB)
 | ((with_reducible apply Qm); (exact rfl); exact aB)
 | ((with_reducible apply PV); (exact rfl); exact aB)
 | fail):P:=h
theorem aUN {P:Prop} (h:P:=by
 first
 | (with_reducible exact Ng _)
 | (with_reducible exact QX _)
 | (with_reducible exact E6 _)
 | (with_reducible exact Oh _)
 | fail):P:=h
theorem aCV {P:Prop} (h:P:=by
 first
 | (with_reducible apply MF) <;> exact rfl
 | (with_reducible apply FH) <;> exact rfl
 | (with_reducible apply E8) <;> exact rfl
 | (with_reducible apply LQ) <;> exact rfl
 | (with_reducible apply nW) <;> exact rfl
 | (with_reducible apply FG) <;> exact rfl
 | (with_reducible apply rG) <;> exact rfl
 | (with_reducible apply Rw) <;> exact rfl
 | (with_reducible apply uN) <;> exact rfl
 | (with_reducible apply QM) <;> exact rfl
 | fail):P:=h
theorem aFA {P:Prop} (h:P:=by
 first
 | ((with_reducible apply mJ (k:=0)); exact rfl; exact rfl; exact rfl; exact aNZ; exact rfl)
 | ((with_reducible apply mJ (k:=1)); exact rfl; exact rfl; exact rfl; exact aNZ; exact rfl)
 | ((with_reducible apply mJ (k:=2)); exact rfl; exact rfl; exact rfl; exact aNZ; exact rfl)
 | ((with_reducible apply mJ (k:=3)); exact rfl; exact rfl; exact rfl; exact aNZ; exact rfl)
 | ((with_reducible apply mJ (k:=4)); exact rfl; exact rfl; exact rfl; exact aNZ; exact rfl)
 | ((with_reducible apply mJ (k:=5)); exact rfl; exact rfl; exact rfl; exact aNZ; exact rfl)
 | ((with_reducible apply mJ (k:=6)); exact rfl; exact rfl; exact rfl; exact aNZ; exact rfl)
 | ((with_reducible apply mJ (k:=7)); exact rfl; exact rfl; exact rfl; exact aNZ; exact rfl)
 | ((with_reducible apply mJ (k:=8)); exact rfl; exact rfl; exact rfl; exact aNZ; exact rfl)
 | ((with_reducible apply mJ (k:=9)); exact rfl; exact rfl; exact rfl; exact aNZ; exact rfl)
 | ((with_reducible apply mJ (k:=10)); exact rfl; exact rfl; exact rfl; exact aNZ; exact rfl)
 | ((with_reducible apply mJ (k:=17)); exact rfl; exact rfl; exact rfl; exact aNZ; exact rfl)
 | ((with_reducible apply mJ (k:=145)); exact rfl; exact rfl; exact rfl; exact aNZ; exact rfl)
 | ((with_reducible apply jH (k:=0)); exact rfl; exact rfl; exact rfl; exact aNZ; exact rfl)
 | ((with_reducible apply jH (k:=1)); exact rfl; exact rfl; exact rfl; exact aNZ; exact rfl)
 | ((with_reducible apply jH (k:=2)); exact rfl; exact rfl; exact rfl; exact aNZ; exact rfl)
 | ((with_reducible apply jH (k:=3)); exact rfl; exact rfl; exact rfl; exact aNZ; exact rfl)
 | ((with_reducible apply jH (k:=4)); exact rfl; exact rfl; exact rfl; exact aNZ; exact rfl)
 | ((with_reducible apply jH (k:=5)); exact rfl; exact rfl; exact rfl; exact aNZ; exact rfl)
 | ((with_reducible apply jH (k:=6)); exact rfl; exact rfl; exact rfl; exact aNZ; exact rfl)
 | ((with_reducible apply jH (k:=7)); exact rfl; exact rfl; exact rfl; exact aNZ; exact rfl)
 | ((with_reducible apply jH (k:=8)); exact rfl; exact rfl; exact rfl; exact aNZ; exact rfl)
 | ((with_reducible apply jH (k:=9)); exact rfl; exact rfl; exact rfl; exact aNZ; exact rfl)
 | ((with_reducible apply jH (k:=10)); exact rfl; exact rfl; exact rfl; exact aNZ; exact rfl)
 | fail):P:=h
theorem aLd {P:Prop} (h:P:=by
 first
 | ((with_reducible apply iu); (case hT=>exact rfl); exact rfl; exact rfl; exact aRO; exact aGO; exact rfl)
 | ((with_reducible apply bX); (case hT=>exact rfl); exact rfl; exact rfl; exact RR)
 | ((with_reducible apply O5); (case hT=>exact rfl); exact rfl; exact rfl; exact hS; exact kX; exact aSZ)
 | ((with_reducible apply Oo); (case hT=>exact rfl); exact rfl; exact rfl; exact aRO; exact aGO; exact rfl; exact rfl)
 | ((with_reducible apply Oj); (case hT=>exact rfl); exact rfl; (case hx=>exact rfl); exact aSZ; exact aRO; exact aGO)
 | ((with_reducible apply mH); (case hT=>exact rfl); exact rfl; exact aSZ; (case hx=>exact rfl); (case hc=>exact aTb); exact aLn)
 | ((with_reducible apply mH); (case hT=>exact rfl); exact rfl; exact aSZ; (case hx=>exact rfl); (case hc=>((with_reducible apply St.bxgs0); exact hS; exact kX; exact aUp)); exact aLs)
 | ((with_reducible apply mH); (case hT=>exact rfl); exact rfl; exact aSZ; (case hx=>exact rfl); (case hc=>((with_reducible apply St.bxgs0); exact hS; exact kX; exact aUh)); exact aLs)
 | fail):P:=h
theorem aV {P:Prop} (h:P:=by
 first
 | (with_reducible exact N1 rfl)
 | (with_reducible exact KZ rfl)
 | (with_reducible exact ML rfl)
 | ((with_reducible apply je); exact rfl)
 | ((with_reducible apply fk); exact rfl)
 | ((with_reducible apply bk); exact rfl; exact rfl; exact aB)
 | ((with_reducible apply Nz); exact rfl; exact rfl; exact aRO; exact ki.len (by assumption))
 | ((with_reducible apply dV); exact rfl; exact rfl; exact aRO)
 | ((with_reducible apply KH); exact rfl; exact rfl)
 | ((with_reducible apply qZ); exact rfl; exact rfl)
 | ((with_reducible apply rk); exact rfl; exact rfl)
 | ((with_reducible apply wF); exact rfl; exact aUN)
 | ((with_reducible apply io); exact rfl; exact aCV)
 | ((with_reducible apply Du); exact rfl; exact rfl)
 | ((with_reducible apply mU); exact rfl)
 | ((with_reducible apply Tp); exact aFA)
 | ((with_reducible apply Q2); exact aLd)
 | ((with_reducible apply uC); exact rfl; exact aSZ; exact rfl; exact rfl; decide; decide)
 | ((with_reducible apply yM); exact rfl; exact rfl)
 | ((with_reducible apply OB); exact rfl; exact rfl)
 | ((with_reducible apply HT); exact aEv; exact S6; exact G6; exact rfl)
 | ((with_reducible apply OC); exact rfl; exact rfl; exact rfl; exact rfl; exact aRO)
 | fail):P:=h
theorem aVb {P:Prop} (h:P:=by
 first
 | ((with_reducible apply cE); exact rfl; exact aSZ; exact rfl; exact rfl; ((with_reducible apply cA); exact hx; exact aLn))
 | ((with_reducible apply LO); exact rfl; (case hE=>exact rfl); exact rfl; exact aSZ; exact rfl; exact rfl; ((with_reducible apply cA); exact hx; exact aLn); (first | ((with_reducible apply zj); exact hx; exact rfl) | exact zj (e:=e32) hx rfl | exact zj (e:=e64) hx rfl))
 | ((with_reducible apply Rd (e:=e8)); exact rfl; exact aSZ; exact rfl; exact rfl; exact rfl; exact rfl; exact aLn; exact hx)
 | ((with_reducible apply RW (e:=e8)); exact rfl; exact aSZ; exact rfl; exact rfl; exact rfl; exact aLn; exact hx)
 | ((with_reducible apply mz); exact rfl; rotate_left; exact rfl; exact rfl; exact aRO; exact hx; (case hE=>exact aTI))
 | ((with_reducible apply RS); exact rfl; rotate_left; exact rfl; exact rfl; exact rfl; exact rfl; exact aRO; exact hx; (case hE=>exact aTI))
 | ((with_reducible apply SE); exact rfl; exact rfl; exact rfl; exact hx)
 | ((with_reducible apply Q6); exact rfl; exact rfl; exact rfl; exact hx)
 | ((with_reducible apply Rm); exact rfl; rotate_left; exact rfl; exact rfl; exact rfl; exact aRO; exact hx; (case hE=>exact aTI))
 | ((with_reducible apply wG); exact rfl; rotate_left; exact rfl; exact rfl; exact aRO; exact hx; (case hE=>exact aTI))
 | ((with_reducible apply GE); exact rfl; rotate_left; exact rfl; exact rfl; exact aRO; exact hx; (case hE=>exact aTI))
 | ((with_reducible apply Q2); exact aLd)
 | fail):P:=h
theorem aVg {P:Prop} (h:P:=by
 first
 | ((with_reducible apply JR); exact rfl; rotate_left; exact rfl; exact rfl; exact rfl; exact aRO; assumption; (case hE=>exact aTI))
 | ((with_reducible apply GE); exact rfl; rotate_left; exact rfl; exact rfl; exact aRO; exact ye (by assumption); (case hE=>exact aTI))
 | fail):P:=h
theorem aAs {P:Prop} (h:P:=by
 first
 | ((with_reducible apply fk); exact (by subst hx; rfl:_=some (vI x)))
 | ((with_reducible apply fk); exact (by subst hx; rfl:_=some (v64 x)))
 | ((with_reducible apply fk); exact (by subst hx; rfl:_=some (v32 x)))
 | ((with_reducible apply fk); exact (by subst hx; rfl:_=some (v8 x)))
 | ((with_reducible apply fk); exact (by subst hx; rfl:_=some (vB x)))
 | fail):P:=h
theorem aX {P:Prop} (h:P:=by
 first
 | ((with_reducible apply lR (e:=e32)); exact rfl; exact aTI; exact rfl; exact rfl; exact rfl; exact aFl; decide; decide; exact hS)
 | ((with_reducible apply lR (e:=e8)); exact rfl; exact aTI; exact rfl; exact rfl; exact rfl; exact aFl; decide; decide; exact hS)
 | ((with_reducible apply B1 (e:=e8)); exact rfl; exact ti5; exact hS)
 | ((with_reducible apply B1 (e:=e32)); exact rfl; exact aTI; exact hS)
 | ((with_reducible apply lR (e:=eV)); exact rfl; exact aTI; exact rfl; exact rfl; exact rfl; exact aFl; decide; decide; exact hS)
 | ((with_reducible apply lR (e:=eI)); exact rfl; exact aTI; exact rfl; exact rfl; exact rfl; exact aFl; decide; decide; exact hS)
 | ((with_reducible apply lR (e:=eS)); exact rfl; exact aTI; exact rfl; exact rfl; exact rfl; exact aFl; decide; decide; exact hS)
 | ((with_reducible apply Jh); exact rfl; exact rfl; exact rfl; exact rfl; exact hS)
 | ((with_reducible apply M3); exact rfl; exact hS)
 | ((with_reducible apply HE); exact aTZ; exact hS)
 | ((with_reducible apply KF (e:=e32)); exact rfl; exact aTI; exact rfl; exact rfl; exact rfl; exact hS; exact kX; exact aRO)
 | ((with_reducible apply KF (e:=e8)); exact rfl; exact aTI; exact rfl; exact rfl; exact rfl; exact hS; exact kX; exact aRO)
 | fail):P:=h
theorem aXb {P:Prop} (h:P:=by
 first
 | ((with_reducible apply Kv (e:=e32)); exact rfl; rotate_left; rotate_left; exact rfl; exact rfl; exact hS; exact hx; (case hE=>exact aTI); (case hz=>exact rfl))
 | ((with_reducible apply Kv (e:=e8)); exact rfl; rotate_left; rotate_left; exact rfl; exact rfl; exact hS; exact hx; (case hE=>exact aTI); (case hz=>exact rfl))
 | ((with_reducible apply pg); exact rfl; rotate_left; rotate_left; exact rfl; exact rfl; exact hS; exact kX; exact aRO; exact hx; (case hE=>exact aTI); (case hz=>exact rfl))
 | ((with_reducible apply pJ); exact rfl; rotate_left; rotate_left; exact rfl; exact rfl; exact hS; exact aRO; exact hx; (case hE=>exact aTI); (case hz=>exact rfl))
 | ((with_reducible apply KA); exact rfl; exact rfl; exact ti5; exact rfl; exact rfl; exact hS; exact kX; exact hx)
 | ((with_reducible apply HD); exact rfl; exact rfl; exact ti5; exact rfl; exact rfl; exact hS; exact hx)
 | ((with_reducible apply Hl); exact rfl; exact rfl; rotate_left; rotate_left; exact rfl; exact rfl; exact hS; exact aRO; exact hx; (case hE=>exact aTI); (case hz=>exact rfl))
 | fail):P:=h
theorem aY {P:Prop} (h:P:=by
 first
 | ((with_reducible apply N5); exact rfl; exact rfl; exact hS; exact kX; exact rfl; exact G6; exact aSZ)
 | ((with_reducible apply Py); exact rfl; exact rfl; exact hS; exact kX; exact rfl; exact QW; exact aSZ)
 | ((with_reducible apply nF); exact aTI; exact rfl; exact rfl; exact hS; exact kX; assumption; (first | exact rfl | exact Ru rfl | exact cl8 rfl))
 | ((with_reducible apply Ds); exact aTI; exact rfl; exact rfl; exact hS; exact kX; assumption; assumption; (first | exact rfl | exact Ru rfl | exact cl8 rfl))
 | ((with_reducible apply ON); exact hS; exact rfl; exact kX; exact aSZ; exact rfl; exact rfl; (with_reducible apply Up.elt); exact aUp; assumption; exact rfl; exact rfl)
 | ((with_reducible apply Fj); exact hS; exact rfl; exact kX; exact aSZ; exact rfl; exact aUp; exact aLs; exact aLs; exact aO1)
 | ((with_reducible apply Fj); exact hS; exact rfl; exact kX; exact aSZ; exact rfl; exact aUh; exact aLs; exact aLs; exact aO1)
 | fail):P:=h
theorem aEv {P:Prop} (h:P:=by
 first
 | exact EvP.nil _
 | ((with_reducible apply EvP.cons); exact rfl; exact aEv)
 | fail):P:=h
theorem ky {P:Prop} (h:P:=by
 first
 | exact Len.nil _
 | ((with_reducible apply Len.consE); exact aEr; exact ky)
 | ((apply Len.own0 e32); exact ky)
 | ((apply Len.own0 e8); exact ky)
 | fail):P:=h
theorem QW {P:Prop} (h:P:=by
 first
 | exact rfl
 | ((with_reducible apply RO.one); exact aRO)
 | fail):P:=h
theorem G6 {P:Prop} (h:P:=by
 first
 | exact trivial
 | (apply And.intro; exact QW; exact G6)
 | fail):P:=h
theorem L6 {P:Prop} (h:P:=by
 first
 | exact Spl.n
 | ((with_reducible apply Spl.k); exact L6)
 | fail):P:=h
theorem SS {P:Prop} (h:P:=by
 first
 | ((with_reducible apply Spl.o); exact L6)
 | fail):P:=h
theorem rq {P:Prop} (h:P:=by
 first
 | exact Spl.n
 | ((with_reducible apply Spl.o); exact rq)
 | ((with_reducible apply Spl.b); exact rq)
 | ((with_reducible apply Spl.k); exact rq)
 | fail):P:=h
theorem aMo {P:Prop} (h:P:=by
 first
 | exact Mo.o _
 | exact Mo.b _
 | ((with_reducible apply Mo.t); exact aMo)
 | fail):P:=h
theorem aSu {P:Prop} (h:P:=by
 first
 | exact Su.n
 | ((with_reducible apply Su.z); exact aSu)
 | ((with_reducible apply Su.e); exact sK; exact aSu)
 | ((with_reducible apply Su.o); exact aMo; exact aSu)
 | fail):P:=h
theorem sT {P:Prop} (h:P:=by
 first
 | exact Sel.nil _
 | ((apply Sel.own0 e32); exact sT)
 | ((apply Sel.own0 e8); exact sT)
 | ((with_reducible apply Sel.own0); exact sT)
 | ((with_reducible apply Sel.consE); exact aEr; exact sT)
 | ((with_reducible apply Sel.tr3E); exact aEr; exact aHk; exact sT)
 | ((with_reducible apply Sel.trE); exact aEr; exact aHk; exact sT)
 | ((with_reducible apply Sel.tr3tE); exact aEr; exact aHk; exact aHk; exact sT)
 | fail):P:=h
theorem aSt {P:Prop} (h:P:=by
 first
 | exact hS
 | ((with_reducible apply St.by); exact hS; exact sT)
 | fail):P:=h
theorem aRe {P:Prop} (h:P:=by
 first
 | ((with_reducible apply Qj); exact hZ; exact hTT; exact hA; exact hP; exact hS; exact aSu)
 | ((with_reducible apply Rds.cl); exact (ai rfl); exact aRe; assumption)
 | fail):P:=h
theorem aRd {P:Prop} (h:P:=by
 first
 | exact Rds.nil
 | ((with_reducible apply Rds.cc); exact aRe; exact aRd)
 | fail):P:=h
theorem aLe {P:Prop} (h:P:=by
 first
 | exact trivial
 | ((with_reducible apply LeC); exact rfl; exact aLe)
 | ((with_reducible apply LeC); (simp only[Env.get,Nat.beq,cond]; try exact rfl); exact aLe)
 | fail):P:=h
theorem aI {P:Prop} (h:P:=by
 first
 | exact rfl
 | exact hS
 | exact TV hZ hS
 | ((with_reducible apply St.by); exact hZ.st hS; exact sT)
 | ((with_reducible apply Qj); exact hZ; exact hTT; exact hA; exact hP; exact hS; exact aSu)
 | exact aRd
 | ((with_reducible apply sfL); exact hZ; exact hTT; exact hA; exact hP; exact hS; exact ky; exact aSu)
 | ((with_reducible apply Ly); exact aI)
 | ((with_reducible apply MC); exact aI)
 | ((with_reducible apply And.intro) <;> exact aI)
 | ((simp only[Hn,Hk,eN,Option.map_none,jC,cZ]); exact aI)
 | ((with_reducible apply Exists.intro); exact aI)
 | exact aSt
 | assumption
 | exact trivial
 | exact aq _
 | exact aLn
 | fail):P:=h
theorem aRV {P:Prop} (h:P:=by
 first
 | exact (rfl:Env.get _ _=_)
 | ((with_reducible apply rvA); exact rfl; (case hT=>exact rfl); exact rfl; exact hS; exact kX; exact aSZ)
 | fail):P:=h
theorem aFl {P:Prop} (h:P:=by
 first
 | exact SF
 | exact TF
 | exact TK
 | ((with_reducible apply ul); ((with_reducible apply RO.sv); exact aRO); exact aFl)
 | ((with_reducible apply R7); exact aFl)
 | ((with_reducible apply Tn); exact aFl)
 | ((with_reducible apply SQ); exact rfl; exact aFl)
 | ((with_reducible apply SX); exact rfl; exact aFl)
 | fail):P:=h
theorem Qi {P:Prop} (h:P:=by
 first
 | exact ki.n _
 | ((with_reducible apply ki.c); exact aRO; exact Qi)
 | fail):P:=h
theorem DS {P:Prop} (h:P:=by
 first
 | exact Qi
 | ((with_reducible apply RO.rp); exact aRO)
 | exact hT.now hS.fr
 | exact hT.now (hZ.st hS).fr
 | assumption
 | exact (rfl:List.length _=_)
 | ((with_reducible apply RB.now); ((with_reducible apply Rds.rbm); exact hA; exact sK); exact hS.fr)
 | ((with_reducible apply RP.give); ((with_reducible apply Rds.rpm); exact hA; exact sK); exact (ai rfl); exact hG)
 | ((with_reducible apply RB.give); ((with_reducible apply Rds.rbm); exact hA; exact sK); exact hG)
 | ((with_reducible apply RP.give); assumption; exact (ai rfl); exact hG)
 | exact hT.give hG
 | ((with_reducible apply PT); exact hG; exact kX)
 | ((with_reducible apply RH); exact hG; exact kX)
 | ((with_reducible apply RB.give); assumption; exact hG)
 | ((with_reducible apply RB.now); assumption; exact hS.fr)
 | ((with_reducible apply St.rbN); exact hS; exact kX)
 | ((with_reducible apply RO.whole); exact aRO)
 | ((with_reducible apply S7); exact aRO; assumption)
 | ((with_reducible apply RP.give); ((with_reducible apply RP.tk3); assumption; assumption); exact (ai rfl); exact hG)
 | ((with_reducible apply RP.give); ((with_reducible apply RP.g_sl); assumption; assumption); exact (ai rfl); exact hG)
 | fail):P:=h
theorem rf {P:Prop} (h:P:=by
 first
 | exact hTk
 | ((with_reducible apply Tz); exact hA'; exact hP'; exact sK)
 | ((with_reducible apply Sy); exact hA'; exact hP'; exact sK)
 | exact hT.now (hZ.st hS).fr
 | assumption
 | fail):P:=h
theorem GY {P:Prop} (h:P:=by
 first
 | ((with_reducible apply fZ); (first | ((with_reducible (first | apply zC | apply CF | apply DI | apply Au | apply AN | apply De | apply ym | apply yw | apply yb | apply yH | apply Db | apply iO | apply Bf | apply Cn | apply vw | apply tI | apply uX | apply th | apply CE | apply vv | apply zl | apply gH | apply fY | apply gD | apply vQ | apply yX | apply Bs | apply D4 | apply AR | apply HO | apply vJ | apply yU | apply um | apply AA | apply yo | apply zy | apply DC | apply yu | apply D3 | apply sF | apply Gy | apply mX | apply mS | apply He | apply L2 | apply BP | apply Hq | apply Iy | apply AB | apply EE | apply F9 | apply ms | apply mr | apply kz | apply wM | apply ja | apply iL | apply iH | apply NR | apply EN)); (case h=>first | with_reducible exact hx | exact hx)) | ((with_reducible (first | apply Ew | apply AW | apply Gl | apply Bh | apply DD | apply HU | apply si | apply pA | apply un | apply tV | apply ol | apply ny | apply c_law18_JwsChecks | apply u6 | apply AP | apply u9 | apply pS | apply u5 | apply qE | apply qF | apply AS | apply ED | apply tX | apply rn | apply GJ | apply B6 | apply GH | apply F5 | apply Ei | apply Gh | apply F6 | apply CU | apply xL | apply EG | apply GZ | apply Hp | apply zJ | apply Im | apply DZ | apply zq | apply yY | apply D0 | apply G1 | apply Ce | apply Kg | apply I0 | apply zI | apply Ii | apply Ex | apply EB | apply Hj | apply DN | apply EP | apply Bj | apply zt | apply BL | apply AE | apply ug | apply yQ | apply EQ)); (case h=>first | with_reducible exact hx | exact hx)) | ((with_reducible (first | apply rO | apply AF | apply yn | apply DE | apply yL | apply AO | apply zd | apply AQ | apply Eu | apply Et | apply Kt | apply En | apply Gs | apply zo | apply At | apply jI | apply yJ | apply wV | apply ze | apply AD | apply gE | apply gF | apply DB | apply AL | apply yZ | apply yx | apply mw | apply Av | apply Ch | apply IQ | apply jM | apply Hu | apply jc | apply yW | apply zA | apply A1 | apply AG | apply DJ | apply Dg | apply qH | apply oq | apply vf | apply pX | apply iq | apply BF | apply ir | apply Eg | apply Gu | apply CT | apply Aw | apply Gz | apply Bi | apply BH | apply AU | apply wm | apply Ep | apply G9 | apply ES | apply Gi | apply kB)); (case h=>first | with_reducible exact hx | exact hx)) | ((with_reducible (first | apply Hc | apply DT | apply GL | apply Bo | apply jV | apply xF | apply AH | apply ER | apply F7 | apply EV | apply jP | apply GD | apply GK | apply Hh | apply GW | apply G3 | apply EU | apply AY | apply As | apply Hs | apply CP | apply AT | apply AJ | apply GP | apply vl | apply Ah | apply Af | apply AI | apply Ea | apply Do)); (case h=>first | with_reducible exact hx | exact hx))); (case e=>exact rfl); (all_goals exact DS))
 | fail):P:=h
theorem aCG {P:Prop} (h:P:=by
 first
 | ((with_reducible apply LC.m); (intro hG; (with_reducible apply fZ); (first | ((with_reducible apply hrc); any_goals (with_reducible exact hx)) | ((with_reducible (first | apply Ar | apply u7 | apply rt | apply rQ | apply wo | apply vK | apply rB | apply vU | apply vT | apply qO | apply n6 | apply pT | apply MH | apply GN | apply GB | apply GC | apply G7 | apply td | apply ta | apply qa | apply p9 | apply qQ)); (case h=>first | with_reducible exact hx | exact hx)) | ((with_reducible apply te); (case h=>with_reducible exact hx)) | ((with_reducible apply qN); (case h=>with_reducible exact hx)) | ((with_reducible apply qM); (case h=>with_reducible exact hx)) | ((with_reducible apply oy); (case h=>with_reducible exact hx)) | ((with_reducible apply rZ); (case h=>with_reducible exact hx)) | ((with_reducible apply vZ); (case h=>with_reducible exact hx)) | ((with_reducible apply sM); (case h=>with_reducible exact hx)) | ((with_reducible apply sD); (case h=>with_reducible exact hx)) | ((with_reducible apply tc); (case h=>with_reducible exact hx)) | ((with_reducible apply qL); (case h=>with_reducible exact hx)) | ((with_reducible apply vu); (case h=>with_reducible exact hx)) | ((with_reducible apply sh); (case h=>with_reducible exact hx)) | ((with_reducible apply rW); (case h=>with_reducible exact hx))); (case e=>exact rfl); (case hS=>(with_reducible apply St.give); exact hG)); (case hL=>exact ky); (all_goals exact DS))
 | fail):P:=h
theorem aCZ {P:Prop} (h:P:=by
 first
 | (intro hZ' hTk hA' hP' hS'; (try dsimp only[List.cons_append,List.nil_append]at hA' hP'); (with_reducible apply fZ); (((with_reducible (first | apply Cj | apply DO | apply Gr | apply tQ | apply Dk | apply so | apply vb | apply kF | apply xD | apply CD | apply kb | apply iB | apply iC | apply ti | apply uf | apply rD | apply tf | apply j0 | apply lj | apply lL | apply lN | apply lE | apply AX | apply xj | apply yK | apply kD | apply lJ | apply ka | apply kf)); (case h=>with_reducible exact hx))); (case e=>exact rfl); (all_goals exact rf))
 | fail):P:=h
theorem aKs {P:Prop} (h:P:=by
 first
 | exact Ks.a _
 | exact Ks.n rfl _
 | fail):P:=h
theorem qX {P:Prop} (h:P:=by
 first
 | exact hT.now hF
 | exact DS
 | fail):P:=h
theorem aLk {P:Prop} (h:P:=by
 first
 | exact Lk.h _ _
 | ((with_reducible apply Lk.t); exact aLk)
 | fail):P:=h
theorem aLx {P:Prop} (h:P:=by
 first
 | exact Lx.h _ _
 | exact Lx.n
 | ((with_reducible apply Lx.t); exact aLx)
 | fail):P:=h
theorem aLg {P:Prop} (h:P:=by
 first
 | exact Lg.h _ _ _
 | ((with_reducible apply Lg.t); exact aLg)
 | fail):P:=h
theorem aAp {P:Prop} (h:P:=by
 first
 | exact Ap.n _
 | ((with_reducible apply Ap.c); exact aAp)
 | fail):P:=h
theorem aCm {P:Prop} (h:P:=by
 first
 | exact Hm.n
 | ((with_reducible apply Hm.c); exact aLg; exact aCm)
 | exact Bm.n _
 | ((with_reducible apply Bm.c); exact aLx; exact aCm; exact aAp)
 | exact Cm.n _
 | exact Ck.n _
 | ((with_reducible apply Cm.c); exact aLg; exact aCm; exact aAp)
 | ((with_reducible apply Ck.c); exact aLg; exact aCm; exact aAp)
 | fail):P:=h
theorem aHx {P:Prop} (h:P:=by
 first
 | apply rfl
 | ((with_reducible apply And.intro); exact aHx; exact aHx)
 | ((with_reducible apply Exists.intro); (case h=>exact aHx); (try (first | exact (0:Nat) | exact undef)))
 | fail):P:=h
theorem aNs {P:Prop} (h:P:=by
 first
 | exact NsM.n
 | ((with_reducible apply NsM.c); (intro h v x y hT1; (iterate 24 (try (obtain⟨hq,hT1⟩:=hT1))); (try subst hT1); exact rfl); exact aNs)
 | fail):P:=h
theorem aMf {P:Prop} (h:P:=by
 first
 | ((with_reducible apply Exists.intro); (with_reducible apply Exists.intro); (with_reducible apply And.intro); (iterate 12 (try (with_reducible apply Exists.intro))); (iterate 4 (try ((with_reducible apply And.intro); apply rfl))); (apply rfl); (case right=>((try dsimp only[List.cons_append,List.nil_append]); (with_reducible apply sfL); exact hZ; exact hTT; exact hA; exact hP; exact hS; exact ky; exact aSu)); (try (any_goals (first | exact (0:Nat) | exact undef))))
 | fail):P:=h
theorem S3 {P:Prop} (h:P:=by
 first
 | ((with_reducible apply fZ); (with_reducible first | apply iO | apply gH | apply fY | apply gD | apply mX | apply mS | apply ms | apply mr | apply kz | apply ja | apply iL | apply iH | apply jI | apply gE | apply gF | apply mw | apply jM | apply jc | apply kB | apply jV | apply jP); (case h=>with_reducible exact hx1); (case e=>exact rfl); (all_goals exact qX))
 | fail):P:=h
theorem TH {P:Prop} (h:P:=by
 first
 | ((with_reducible apply fZ); (with_reducible first | apply iO | apply gH | apply fY | apply gD | apply mX | apply mS | apply ms | apply mr | apply kz | apply ja | apply iL | apply iH | apply jI | apply gE | apply gF | apply mw | apply jM | apply jc | apply kB | apply jV | apply jP); (case h=>with_reducible exact hx2); (case e=>exact rfl); (all_goals exact qX))
 | fail):P:=h
theorem TG {P:Prop} (h:P:=by
 first
 | ((with_reducible apply fZ); (with_reducible first | apply iO | apply gH | apply fY | apply gD | apply mX | apply mS | apply ms | apply mr | apply kz | apply ja | apply iL | apply iH | apply jI | apply gE | apply gF | apply mw | apply jM | apply jc | apply kB | apply jV | apply jP); (case h=>with_reducible exact hx3); (case e=>exact rfl); (all_goals exact qX))
 | fail):P:=h
theorem Tq {P:Prop} (h:P:=by
 first
 | ((with_reducible apply fZ); (with_reducible first | apply iO | apply gH | apply fY | apply gD | apply mX | apply mS | apply ms | apply mr | apply kz | apply ja | apply iL | apply iH | apply jI | apply gE | apply gF | apply mw | apply jM | apply jc | apply kB | apply jV | apply jP); (case h=>with_reducible exact hx4); (case e=>exact rfl); (all_goals exact qX))
 | fail):P:=h
theorem TX {P:Prop} (h:P:=by
 first
 | ((with_reducible apply fZ); (with_reducible first | apply iO | apply gH | apply fY | apply gD | apply mX | apply mS | apply ms | apply mr | apply kz | apply ja | apply iL | apply iH | apply jI | apply gE | apply gF | apply mw | apply jM | apply jc | apply kB | apply jV | apply jP); (case h=>with_reducible exact hx5); (case e=>exact rfl); (all_goals exact qX))
 | fail):P:=h
theorem TU {P:Prop} (h:P:=by
 first
 | ((with_reducible apply fZ); (with_reducible first | apply iO | apply gH | apply fY | apply gD | apply mX | apply mS | apply ms | apply mr | apply kz | apply ja | apply iL | apply iH | apply jI | apply gE | apply gF | apply mw | apply jM | apply jc | apply kB | apply jV | apply jP); (case h=>with_reducible exact hx6); (case e=>exact rfl); (all_goals exact qX))
 | fail):P:=h
theorem TM {P:Prop} (h:P:=by
 first
 | ((with_reducible apply fZ); (with_reducible first | apply iO | apply gH | apply fY | apply gD | apply mX | apply mS | apply ms | apply mr | apply kz | apply ja | apply iL | apply iH | apply jI | apply gE | apply gF | apply mw | apply jM | apply jc | apply kB | apply jV | apply jP); (case h=>with_reducible exact hx7); (case e=>exact rfl); (all_goals exact qX))
 | fail):P:=h
theorem Tc {P:Prop} (h:P:=by
 first
 | ((with_reducible apply fZ); (with_reducible first | apply iO | apply gH | apply fY | apply gD | apply mX | apply mS | apply ms | apply mr | apply kz | apply ja | apply iL | apply iH | apply jI | apply gE | apply gF | apply mw | apply jM | apply jc | apply kB | apply jV | apply jP); (case h=>with_reducible exact hx8); (case e=>exact rfl); (all_goals exact qX))
 | fail):P:=h
theorem Tg {P:Prop} (h:P:=by
 first
 | ((with_reducible apply LC.m); (intro hG; (with_reducible apply fZ); (with_reducible first | apply oy | apply n6); (case h=>with_reducible exact hx2); (case e=>exact rfl); (case hS=>(with_reducible apply St.give); exact hG)); (case hL=>exact ky); (all_goals exact DS))
 | fail):P:=h
theorem Td {P:Prop} (h:P:=by
 first
 | ((with_reducible apply LC.m); (intro hG; (with_reducible apply fZ); (with_reducible first | apply oy | apply n6); (case h=>with_reducible exact hx3); (case e=>exact rfl); (case hS=>(with_reducible apply St.give); exact hG)); (case hL=>exact ky); (all_goals exact DS))
 | fail):P:=h
theorem SZ {P:Prop} (h:P:=by
 first
 | (intro hZ' hTk hA' hP' hS'; (try dsimp only[List.cons_append,List.nil_append]at hA' hP'); (with_reducible apply fZ); (with_reducible first | apply kF | apply kb | apply iB | apply iC | apply j0 | apply lj | apply lL | apply lN | apply lE | apply kD | apply lJ | apply ka | apply kf); (case h=>with_reducible exact hx1); (case e=>exact rfl); (all_goals exact rf))
 | fail):P:=h
theorem S9 {P:Prop} (h:P:=by
 first
 | (intro hZ' hTk hA' hP' hS'; (try dsimp only[List.cons_append,List.nil_append]at hA' hP'); (with_reducible apply fZ); (with_reducible first | apply kF | apply kb | apply iB | apply iC | apply j0 | apply lj | apply lL | apply lN | apply lE | apply kD | apply lJ | apply ka | apply kf); (case h=>with_reducible exact hx2); (case e=>exact rfl); (all_goals exact rf))
 | fail):P:=h
theorem Ta {P:Prop} (h:P:=by
 first
 | (intro hZ' hTk hA' hP' hS'; (try dsimp only[List.cons_append,List.nil_append]at hA' hP'); (with_reducible apply fZ); (with_reducible first | apply kF | apply kb | apply iB | apply iC | apply j0 | apply lj | apply lL | apply lN | apply lE | apply kD | apply lJ | apply ka | apply kf); (case h=>with_reducible exact hx3); (case e=>exact rfl); (all_goals exact rf))
 | fail):P:=h
theorem S8 {P:Prop} (h:P:=by
 first
 | (intro hZ' hTk hA' hP' hS'; (try dsimp only[List.cons_append,List.nil_append]at hA' hP'); (with_reducible apply fZ); (with_reducible first | apply kF | apply kb | apply iB | apply iC | apply j0 | apply lj | apply lL | apply lN | apply lE | apply kD | apply lJ | apply ka | apply kf); (case h=>with_reducible exact hx4); (case e=>exact rfl); (all_goals exact rf))
 | fail):P:=h
theorem SU {P:Prop} (h:P:=by
 first
 | (intro hZ' hTk hA' hP' hS'; (try dsimp only[List.cons_append,List.nil_append]at hA' hP'); (with_reducible apply fZ); (with_reducible first | apply kF | apply kb | apply iB | apply iC | apply j0 | apply lj | apply lL | apply lN | apply lE | apply kD | apply lJ | apply ka | apply kf); (case h=>with_reducible exact hx5); (case e=>exact rfl); (all_goals exact rf))
 | fail):P:=h
theorem Te {P:Prop} (h:P:=by
 first
 | (intro hZ' hTk hA' hP' hS'; (try dsimp only[List.cons_append,List.nil_append]at hA' hP'); (with_reducible apply fZ); (with_reducible first | apply kF | apply kb | apply iB | apply iC | apply j0 | apply lj | apply lL | apply lN | apply lE | apply kD | apply lJ | apply ka | apply kf); (case h=>with_reducible exact hx6); (case e=>exact rfl); (all_goals exact rf))
 | fail):P:=h
theorem To {P:Prop} (h:P:=by
 first
 | (intro hZ' hTk hA' hP' hS'; (try dsimp only[List.cons_append,List.nil_append]at hA' hP'); (with_reducible apply fZ); (with_reducible first | apply kF | apply kb | apply iB | apply iC | apply j0 | apply lj | apply lL | apply lN | apply lE | apply kD | apply lJ | apply ka | apply kf); (case h=>with_reducible exact hx7); (case e=>exact rfl); (all_goals exact rf))
 | fail):P:=h
theorem aMl {P:Prop} (h:P:=by
 first
 | exact Tg
 | exact Td
 | fail):P:=h
theorem LU {P:Prop} (h:P:=by
 first
 | (first | exact SZ | exact S9 | exact Ta | exact S8 | exact SU | exact Te | exact To)
 | fail):P:=h
theorem M6 {P:Prop} (h:P:=by
 first
 | (intro v w hT1 hZ hA hP hS; (try dsimp only[List.cons_append,List.nil_append]at hA hP); (iterate 12 (try (first | (have hR1:Rds _ _ _:=hT1; clear hT1; obtain⟨_,_,hZ,hA,hP,hS⟩:=hZ.callK hA hP hS hS1 hR1 rfl; clear hR1; (try dsimp only[List.cons_append,List.nil_append]at hA hP)) | (obtain⟨hq,hT1⟩:=hT1; first | subst hq | (have hS1:St _ _ _ _:=hq; clear hq) | skip)))); exact aMf)
 | fail):P:=h
theorem aMC {P:Prop} (h:P:=by
 first
 | (intro w Sl Tl hF hZ hTT hA hP hS; (try dsimp only[List.cons_append,List.nil_append]at hA hP hS); first | ((with_reducible apply ur); (case h=>first | exact S3 | exact TH | exact TG | exact Tq | exact TX | exact TU | exact TM | exact Tc); intro v w hT1; (iterate 9 (try (first | (replace hS:=hS.call hT1; clear hT1; (try dsimp only[List.set,List.eraseIdx,List.cons_append,List.nil_append]at hS)) | (obtain⟨hq,hT1⟩:=hT1; try subst hq)))); exact aMf) | ((with_reducible apply HF); exact hS; exact aMl; intro v w hT1 hG; (iterate 9 (try (first | (replace hS:=hG.back hT1; clear hT1 hG; (try dsimp only[List.set,List.eraseIdx,List.cons_append,List.nil_append]at hS)) | (replace hS:=hS.call hT1; clear hT1; (try dsimp only[List.set,List.eraseIdx,List.cons_append,List.nil_append]at hS)) | (obtain⟨hq,hT1⟩:=hT1; try subst hq)))); exact aMf) | ((with_reducible apply Km); exact hZ; exact hTT; exact hA; exact hP; exact hS; first | (exact rq; (case hc=>exact LU); exact M6) | (exact L6; (case hc=>exact LU); exact M6) | (exact SS; (case hc=>exact LU); exact M6)))
 | fail):P:=h
theorem aMN {P:Prop} (h:P:=by
 first
 | (intro w Sl Tl hF hZ hTT hA hP hS; (try dsimp only[List.cons_append,List.nil_append]at hA hP hS); first | ((with_reducible apply R4); exact aV; exact aMf) | ((with_reducible apply Ot); exact aX; intro v w hT1; (iterate 4 (try (first | (have hS9:St _ _ _ _:=hT1; clear hT1; (try clear hS); have hS:=hS9; clear hS9) | (obtain⟨hq,hT1⟩:=hT1; try subst hq)))); (try dsimp only[List.set]at hS); (try (unfold spl at hS; dsimp only[List.take,List.drop,List.length,List.nil_append,List.cons_append,Nat.zero_add,Nat.add_zero]at hS)); (try (obtain⟨x,hx,h⟩:=ke h; rw[hx]at hS)); exact aMf))
 | fail):P:=h
theorem aMY {P:Prop} (h:P:=by
 first
 | (intro w Sl Tl hF hZ hTT hA hP hS; (try dsimp only[List.cons_append,List.nil_append]at hA hP hS); (with_reducible apply PN); exact aY; intro w hS; (try dsimp only[List.set]at hS); (try (unfold spl at hS; dsimp only[List.take,List.drop,List.length,List.nil_append,List.cons_append,Nat.zero_add,Nat.add_zero]at hS)); (try (obtain⟨x,hx,h⟩:=ke h; rw[hx]at hS)); exact aMf)
 | fail):P:=h
theorem aOd {P:Prop} (h:P:=by
 first
 | (with_reducible exact Oc.lf _)
 | ((with_reducible apply Oc.t); exact aOd)
 | ((with_reducible apply Oc.e); exact aOd)
 | ((with_reducible apply Oc.g); exact aOd)
 | ((with_reducible apply Oc.b); intro x; exact aOd)
 | ((with_reducible apply Oc.l); intro x; exact aOd)
 | fail):P:=h
theorem aOc {P:Prop} (h:P:=by
 first
 | (with_reducible exact Oc.lf _)
 | ((with_reducible apply Oc.t); exact aOd)
 | ((with_reducible apply Oc.e); exact aOd)
 | ((with_reducible apply Oc.g); exact aOd)
 | ((with_reducible apply Oc.b); intro x; exact aOd)
 | ((with_reducible apply Oc.l); intro x; exact aOd)
 | (apply Oc.t; exact aOd)
 | (apply Oc.e; exact aOd)
 | (apply Oc.g; exact aOd)
 | (apply Oc.b; intro x; exact aOd)
 | (apply Oc.l; intro x; exact aOd)
 | exact Oc.z _
 | fail):P:=h
theorem aKn {P:Prop} (h9:P:=by with_reducible (first | exact kq1 h | exact kq2 h | exact kq3 h | exact kq4 h | exact kq5 h | exact kq6 h | exact kq7 h | exact kq8 h | exact ocx h)):P:=h9
theorem aH {P:Prop} (h9:P:=by first | with_reducible exact h | ((fail_if_success (have h8:True:=aKn)); exact h)):P:=h9
set_option maxRecDepth 20000
theorem wk {P:Prop} (h:P:=by
 repeat' (first
 | ((with_reducible apply isR); first | (with_reducible exact nN h) | (with_reducible apply d7) | (have hT8:=hT1; clear hT8; first | (have hR1:Rds _ _ _:=hT1; clear hT1; obtain⟨_,_,hZ,hA,hP,hS⟩:=hZ.callK hA hP hS hS1 hR1 rfl; clear hR1; (try dsimp only[List.cons_append,List.nil_append]at hA hP)) | (have hS1:St _ _ _ _:=hT1; clear hT1; obtain⟨_,_,hZ,hA,hP,hS⟩:=hZ.callK hA hP hS hS1 Rds.nil rfl; (try dsimp only[List.cons_append,List.nil_append]at hA hP)) | (refine MK hT1 ?_ ?_ <;> clear hT1 <;> (first | (intro hc hT1; have h:=EX h hc) | (intro c hc hT1; have h:=FJ h hc))) | (obtain⟨hq,hT1⟩:=hT1; first | subst hq | (have hS1:St _ _ _ _:=hq; clear hq) | skip)) | ((with_reducible apply JN); exact rfl; exact rfl; assumption; exact rfl; intro hz; subst hz) | ((with_reducible apply R5); have h9:=ke aH; clear h; obtain⟨x,hx,h⟩:=h9; (with_reducible apply aQ); exact aAs; exact rfl) | ((with_reducible apply aQ); exact aV; exact rfl) | ((with_reducible apply S4); first | ((with_reducible apply PR); exact rfl; exact rfl) | ((with_reducible apply zO (b:=true)); exact rfl; exact rfl; exact rfl; exact rfl) | ((with_reducible apply zO (b:=false)); exact rfl; exact rfl; exact rfl; exact rfl) | ((with_reducible apply Gd); exact rfl; exact rfl; exact rfl) | ((with_reducible apply LK); exact rfl; exact rfl; all_goals (intro hb; (fail_if_success (with_reducible have h8:=lq1 hb)); (fail_if_success (with_reducible have h8:=lq2 hb)); refine BI.o ?_))) | ((with_reducible apply mg); exact aX; exact rfl; refine XI.o ?_) | ((with_reducible apply kP); exact aY; refine YI.o ?_) | (have h9:=pf aH; clear h; obtain⟨hg,h⟩:=h9; (try have hg1:=hg.2); (try have hg2:=hg1.1)) | (have h9:=bq aH; clear h; obtain⟨x,hx,h⟩:=h9; first | (obtain⟨y,hy,hR⟩:=ki.get (by assumption) hx; (with_reducible apply aQ); ((with_reducible apply mz); exact rfl; rotate_left; exact rfl; exact rfl; exact aRO; exact hy; (case hE=>exact aTI)); exact rfl) | ((with_reducible apply aQ); exact aVb; exact rfl) | ((with_reducible apply mg); exact aXb; exact rfl; refine XI.o ?_) | ((with_reducible apply kP); exact aY; refine YI.o ?_) | ((with_reducible apply ou); kernel_rfl; exact rfl; exact GY; exact rfl; refine CI.o ?_) | ((with_reducible apply JI); exact rfl; exact hS; exact aCG; kernel_rfl; exact rfl; refine GI.o ?_) | ((with_reducible apply J7); (case hargs=>exact rfl); (case hZ=>exact hZ); (case hTT=>exact hTT); (case hA=>exact hA); (case hP=>exact hP); (case hS=>exact hS); (case hs=>exact rq); (case hc=>exact aCZ); (case hf=>kernel_rfl); (case hd=>exact rfl); intro v w hT1 hZ hA hP hS; (try dsimp only[List.cons_append,List.nil_append]at hA hP))) | ((with_reducible apply aQ); exact aVg; exact rfl) | (have h9:=bq aH; clear h; obtain⟨x,hx,h⟩:=h9))
 | ((with_reducible apply isE); first | (with_reducible exact nN h) | (with_reducible refine bL ?_) | (with_reducible refine cj ?_) | (with_reducible refine mp ?_) | (with_reducible refine eH ?_) | (with_reducible refine fe ?_) | (with_reducible refine pj ?_) | (with_reducible refine LF ?_) | ((with_reducible apply LM); exact rfl) | (have h9:=pf aH; clear h; obtain⟨hg,h⟩:=h9; (try have hg1:=hg.2); (try have hg2:=hg1.1)) | ((with_reducible have h9:=ke h); clear h; obtain⟨x,hx,h⟩:=h9; subst hx) | ((with_reducible apply SG); exact ih; exact aH; exact hk; exact aI; exact rfl) | (obtain rfl:=fv h; first | ((with_reducible apply gc); exact rfl; exact rfl; exact aI) | ((with_reducible apply uT); exact rfl; exact rfl; exact rfl; exact aI) | ((with_reducible apply PH); exact rfl; exact rfl; exact rfl; exact rfl; exact aI) | ((with_reducible apply uQ); exact rfl; exact aI) | ((with_reducible apply Kl); exact rfl; exact aRV; exact aI) | ((with_reducible apply RF); exact rfl; exact aRV; exact aRV; exact aI) | ((with_reducible apply Qz); exact rfl; exact aRV; exact aRV; exact aRV; exact aI)) | (subst hx; obtain rfl:=fv h; (with_reducible apply gc); exact rfl; exact rfl; exact aI))
 | ((with_reducible apply isC); first | (with_reducible exact nN h) | ((with_reducible apply TT hK); exact aH; (first | (exact aI; exact aLe) | ((iterate 12 (try (with_reducible apply Exists.intro))); (with_reducible apply And.intro); (exact rfl); (case hl=>exact aLe); exact aI))) | ((with_reducible apply TD); (first | ((with_reducible apply kK (I:=j1)); exact rfl; exact rfl; exact h; exact aOc; (case hl=>exact aLe); (case hO=>exact aSt)) | ((with_reducible apply kK (I:=j1 ..)); exact rfl; exact rfl; exact h; exact aOc; (case hl=>exact aLe); (case hO=>exact aSt)) | ((with_reducible apply kK (I:=j2)); exact rfl; exact rfl; exact h; exact aOc; (case hl=>exact aLe); (case hO=>exact aSt)) | ((with_reducible apply kK (I:=j2 ..)); exact rfl; exact rfl; exact h; exact aOc; (case hl=>exact aLe); (case hO=>exact aSt)) | ((with_reducible apply kK (I:=j3)); exact rfl; exact rfl; exact h; exact aOc; (case hl=>exact aLe); (case hO=>exact aSt)) | ((with_reducible apply kK (I:=j3 ..)); exact rfl; exact rfl; exact h; exact aOc; (case hl=>exact aLe); (case hO=>exact aSt)) | ((with_reducible apply kK (I:=j4)); exact rfl; exact rfl; exact h; exact aOc; (case hl=>exact aLe); (case hO=>exact aSt)) | ((with_reducible apply kK (I:=j4 ..)); exact rfl; exact rfl; exact h; exact aOc; (case hl=>exact aLe); (case hO=>exact aSt)) | ((with_reducible apply kK (I:=j5)); exact rfl; exact rfl; exact h; exact aOc; (case hl=>exact aLe); (case hO=>exact aSt)) | ((with_reducible apply kK (I:=j5 ..)); exact rfl; exact rfl; exact h; exact aOc; (case hl=>exact aLe); (case hO=>exact aSt)) | ((with_reducible apply kK (I:=j6)); exact rfl; exact rfl; exact h; exact aOc; (case hl=>exact aLe); (case hO=>exact aSt)) | ((with_reducible apply kK (I:=j6 ..)); exact rfl; exact rfl; exact h; exact aOc; (case hl=>exact aLe); (case hO=>exact aSt)) | ((with_reducible apply kK (I:=j7)); exact rfl; exact rfl; exact h; exact aOc; (case hl=>exact aLe); (case hO=>exact aSt)) | ((with_reducible apply kK (I:=j7 ..)); exact rfl; exact rfl; exact h; exact aOc; (case hl=>exact aLe); (case hO=>exact aSt)) | ((with_reducible apply kK (I:=j8)); exact rfl; exact rfl; exact h; exact aOc; (case hl=>exact aLe); (case hO=>exact aSt)) | ((with_reducible apply kK (I:=j8 ..)); exact rfl; exact rfl; exact h; exact aOc; (case hl=>exact aLe); (case hO=>exact aSt)) | ((with_reducible apply kK (I:=j9)); exact rfl; exact rfl; exact h; exact aOc; (case hl=>exact aLe); (case hO=>exact aSt)) | ((with_reducible apply kK (I:=j9 ..)); exact rfl; exact rfl; exact h; exact aOc; (case hl=>exact aLe); (case hO=>exact aSt)) | ((with_reducible apply kK (I:=j10)); exact rfl; exact rfl; exact h; exact aOc; (case hl=>exact aLe); (case hO=>exact aSt)) | ((with_reducible apply kK (I:=j10 ..)); exact rfl; exact rfl; exact h; exact aOc; (case hl=>exact aLe); (case hO=>exact aSt)) | ((with_reducible apply kK (I:=j11)); exact rfl; exact rfl; exact h; exact aOc; (case hl=>exact aLe); (case hO=>exact aSt)) | ((with_reducible apply kK (I:=j11 ..)); exact rfl; exact rfl; exact h; exact aOc; (case hl=>exact aLe); (case hO=>exact aSt)) | ((with_reducible apply kK (I:=j12)); exact rfl; exact rfl; exact h; exact aOc; (case hl=>exact aLe); (case hO=>exact aSt)) | ((with_reducible apply kK (I:=j12 ..)); exact rfl; exact rfl; exact h; exact aOc; (case hl=>exact aLe); (case hO=>exact aSt)) | ((with_reducible apply kK (I:=j13)); exact rfl; exact rfl; exact h; exact aOc; (case hl=>exact aLe); (case hO=>exact aSt)) | ((with_reducible apply kK (I:=j13 ..)); exact rfl; exact rfl; exact h; exact aOc; (case hl=>exact aLe); (case hO=>exact aSt)) | ((with_reducible apply tx (I:=z1)); exact rfl; exact rfl; exact h; exact aOc; (case hl=>exact aLe); (case hO=>exact aSt); exact hA; exact hS; (case hX=>exact aSu)) | ((with_reducible apply tx (I:=z1 ..)); exact rfl; exact rfl; exact h; exact aOc; (case hl=>exact aLe); (case hO=>exact aSt); exact hA; exact hS; (case hX=>exact aSu)) | ((with_reducible apply tx (I:=z2)); exact rfl; exact rfl; exact h; exact aOc; (case hl=>exact aLe); (case hO=>exact aSt); exact hA; exact hS; (case hX=>exact aSu)) | ((with_reducible apply tx (I:=z2 ..)); exact rfl; exact rfl; exact h; exact aOc; (case hl=>exact aLe); (case hO=>exact aSt); exact hA; exact hS; (case hX=>exact aSu)) | ((with_reducible apply tx (I:=z3)); exact rfl; exact rfl; exact h; exact aOc; (case hl=>exact aLe); (case hO=>exact aSt); exact hA; exact hS; (case hX=>exact aSu)) | ((with_reducible apply tx (I:=z3 ..)); exact rfl; exact rfl; exact h; exact aOc; (case hl=>exact aLe); (case hO=>exact aSt); exact hA; exact hS; (case hX=>exact aSu)) | ((with_reducible apply tx (I:=z4)); exact rfl; exact rfl; exact h; exact aOc; (case hl=>exact aLe); (case hO=>exact aSt); exact hA; exact hS; (case hX=>exact aSu)) | ((with_reducible apply tx (I:=z4 ..)); exact rfl; exact rfl; exact h; exact aOc; (case hl=>exact aLe); (case hO=>exact aSt); exact hA; exact hS; (case hX=>exact aSu))); intro hK) | (with_reducible refine cw ?_) | (with_reducible refine bS ?_) | (with_reducible refine cn ?_) | (with_reducible refine pu ?_) | (with_reducible refine fc ?_) | (with_reducible refine iY ?_) | (with_reducible refine I1 ?_) | (with_reducible refine Ip ?_) | ((with_reducible apply TS); first | ((with_reducible apply HP); exact rfl; with_reducible exact h; all_goals (clear h; intro hb h; try subst hb)) | ((with_reducible apply HP); exact rfl; exact aH; all_goals (clear h; intro hb h; try subst hb)) | ((with_reducible apply P7); exact rfl; (first | assumption | (subst hx; decide))) | ((with_reducible apply tu); exact rfl) | ((with_reducible apply zZ); exact rfl) | (have h9:=pf aH; clear h; obtain⟨hg,h⟩:=h9; (try have hg1:=hg.2); (try have hg2:=hg1.1)) | ((with_reducible apply HP); exact rfl; exact h; all_goals (clear h; intro hb h; try subst hb))) | ((with_reducible apply Tb); (first | ((with_reducible apply kT (I:=i1)); exact rfl; exact aH) | ((with_reducible apply kT (I:=i1 ..)); exact rfl; exact aH) | ((with_reducible apply kT (I:=i2)); exact rfl; exact aH) | ((with_reducible apply kT (I:=i2 ..)); exact rfl; exact aH) | ((with_reducible apply kT (I:=i3)); exact rfl; exact aH) | ((with_reducible apply kT (I:=i3 ..)); exact rfl; exact aH) | ((with_reducible apply kT (I:=i4)); exact rfl; exact aH) | ((with_reducible apply kT (I:=i4 ..)); exact rfl; exact aH) | ((with_reducible apply kT (I:=i5)); exact rfl; exact aH) | ((with_reducible apply kT (I:=i5 ..)); exact rfl; exact aH) | ((with_reducible apply kT (I:=i6)); exact rfl; exact aH) | ((with_reducible apply kT (I:=i6 ..)); exact rfl; exact aH) | ((with_reducible apply kT (I:=i7)); exact rfl; exact aH) | ((with_reducible apply kT (I:=i7 ..)); exact rfl; exact aH) | ((with_reducible apply kT (I:=i8)); exact rfl; exact aH) | ((with_reducible apply kT (I:=i8 ..)); exact rfl; exact aH)); (first | (exact aI; exact aLe) | ((iterate 12 (try (with_reducible apply Exists.intro))); (with_reducible apply And.intro); (exact rfl); (case hl=>exact aLe); exact aI)); refine LI.o ?_) | ((with_reducible apply SW); first | (have h8:=fr2; clear h8; obtain⟨hZ,hA,hP,hS⟩:=wn hZ hTT hA hP hS rq; (try dsimp only[List.cons_append,List.nil_append]at hA hP); have h9:=bq aH; clear h; obtain⟨x1,hx1,h⟩:=h9; ((with_reducible apply mR (I:=m2c1 x1 ..)); exact rfl; exact aLe; exact hZ; exact hTT; exact hA; exact hP; exact hS; exact ky; exact rfl; exact rfl; exact rfl; exact aNs; exact gC; decide +kernel; decide +kernel; show iZ _ _ _ _ _ _ _ _ _ _ _ _ _ _ _ _ (_ :: _) _ _)) | (have h8:=fr2; clear h8; obtain⟨hZ,hA,hP,hS⟩:=wn hZ hTT hA hP hS rq; (try dsimp only[List.cons_append,List.nil_append]at hA hP); have h9:=bq aH; clear h; obtain⟨x1,hx1,h⟩:=h9; have h9:=bq aH; clear h; obtain⟨x2,hx2,h⟩:=h9; ((with_reducible apply mR (I:=m2c2 x1 x2 ..)); exact rfl; exact aLe; exact hZ; exact hTT; exact hA; exact hP; exact hS; exact ky; exact rfl; exact rfl; exact rfl; exact aNs; exact gC; decide +kernel; decide +kernel; show iZ _ _ _ _ _ _ _ _ _ _ _ _ _ _ _ _ (_ :: _) _ _)) | (have h8:=fr2; clear h8; obtain⟨hZ,hA,hP,hS⟩:=wn hZ hTT hA hP hS rq; (try dsimp only[List.cons_append,List.nil_append]at hA hP); have h9:=bq aH; clear h; obtain⟨x1,hx1,h⟩:=h9; have h9:=bq aH; clear h; obtain⟨x2,hx2,h⟩:=h9; have h9:=bq aH; clear h; obtain⟨x3,hx3,h⟩:=h9; ((with_reducible apply mR (I:=m2c3 x1 x2 x3 ..)); exact rfl; exact aLe; exact hZ; exact hTT; exact hA; exact hP; exact hS; exact ky; exact rfl; exact rfl; exact rfl; exact aNs; exact gC; decide +kernel; decide +kernel; show iZ _ _ _ _ _ _ _ _ _ _ _ _ _ _ _ _ (_ :: _) _ _)) | (have h8:=fr2; clear h8; obtain⟨hZ,hA,hP,hS⟩:=wn hZ hTT hA hP hS rq; (try dsimp only[List.cons_append,List.nil_append]at hA hP); have h9:=bq aH; clear h; obtain⟨x1,hx1,h⟩:=h9; have h9:=bq aH; clear h; obtain⟨x2,hx2,h⟩:=h9; have h9:=bq aH; clear h; obtain⟨x3,hx3,h⟩:=h9; have h9:=bq aH; clear h; obtain⟨x4,hx4,h⟩:=h9; have h9:=bq aH; clear h; obtain⟨x5,hx5,h⟩:=h9; have h9:=bq aH; clear h; obtain⟨x6,hx6,h⟩:=h9; have h9:=bq aH; clear h; obtain⟨x7,hx7,h⟩:=h9; ((with_reducible apply mR (I:=m2c7 x1 x2 x3 x4 x5 x6 x7 ..)); exact rfl; exact aLe; exact hZ; exact hTT; exact hA; exact hP; exact hS; exact ky; exact rfl; exact rfl; exact rfl; exact aNs; exact gC; decide +kernel; decide +kernel; show iZ _ _ _ _ _ _ _ _ _ _ _ _ _ _ _ _ (_ :: _) _ _)) | (have h8:=fr2; clear h8; obtain⟨hZ,hA,hP,hS⟩:=wn hZ hTT hA hP hS rq; (try dsimp only[List.cons_append,List.nil_append]at hA hP); have h9:=bq aH; clear h; obtain⟨x1,hx1,h⟩:=h9; have h9:=bq aH; clear h; obtain⟨x2,hx2,h⟩:=h9; have h9:=bq aH; clear h; obtain⟨x3,hx3,h⟩:=h9; have h9:=bq aH; clear h; obtain⟨x4,hx4,h⟩:=h9; have h9:=bq aH; clear h; obtain⟨x5,hx5,h⟩:=h9; have h9:=bq aH; clear h; obtain⟨x6,hx6,h⟩:=h9; have h9:=bq aH; clear h; obtain⟨x7,hx7,h⟩:=h9; have h9:=bq aH; clear h; obtain⟨x8,hx8,h⟩:=h9; ((with_reducible apply mR (I:=m2c8 x1 x2 x3 x4 x5 x6 x7 x8 ..)); exact rfl; exact aLe; exact hZ; exact hTT; exact hA; exact hP; exact hS; exact ky; exact rfl; exact rfl; exact rfl; exact aNs; exact gC; decide +kernel; decide +kernel; show iZ _ _ _ _ _ _ _ _ _ _ _ _ _ _ _ _ (_ :: _) _ _)) | (have h9:=bq aH; clear h; obtain⟨x1,hx1,h⟩:=h9; ((with_reducible apply mR (I:=m1c1 x1 ..)); exact rfl; exact aLe; exact hZ; exact hTT; exact hA; exact hP; exact hS; exact ky; exact rfl; exact rfl; exact rfl; exact aNs; exact gC; decide +kernel; decide +kernel; show iZ _ _ _ _ _ _ _ _ _ _ _ _ _ _ _ _ (_ :: _) _ _)) | (have h9:=bq aH; clear h; obtain⟨x1,hx1,h⟩:=h9; have h9:=bq aH; clear h; obtain⟨x2,hx2,h⟩:=h9; ((with_reducible apply mR (I:=m1c2 x1 x2 ..)); exact rfl; exact aLe; exact hZ; exact hTT; exact hA; exact hP; exact hS; exact ky; exact rfl; exact rfl; exact rfl; exact aNs; exact gC; decide +kernel; decide +kernel; show iZ _ _ _ _ _ _ _ _ _ _ _ _ _ _ _ _ (_ :: _) _ _)) | (have h9:=bq aH; clear h; obtain⟨x1,hx1,h⟩:=h9; have h9:=bq aH; clear h; obtain⟨x2,hx2,h⟩:=h9; have h9:=bq aH; clear h; obtain⟨x3,hx3,h⟩:=h9; ((with_reducible apply mR (I:=m1c3 x1 x2 x3 ..)); exact rfl; exact aLe; exact hZ; exact hTT; exact hA; exact hP; exact hS; exact ky; exact rfl; exact rfl; exact rfl; exact aNs; exact gC; decide +kernel; decide +kernel; show iZ _ _ _ _ _ _ _ _ _ _ _ _ _ _ _ _ (_ :: _) _ _)) | (have h9:=bq aH; clear h; obtain⟨x1,hx1,h⟩:=h9; have h9:=bq aH; clear h; obtain⟨x2,hx2,h⟩:=h9; have h9:=bq aH; clear h; obtain⟨x3,hx3,h⟩:=h9; have h9:=bq aH; clear h; obtain⟨x4,hx4,h⟩:=h9; have h9:=bq aH; clear h; obtain⟨x5,hx5,h⟩:=h9; ((with_reducible apply mR (I:=m1c5 x1 x2 x3 x4 x5 ..)); exact rfl; exact aLe; exact hZ; exact hTT; exact hA; exact hP; exact hS; exact ky; exact rfl; exact rfl; exact rfl; exact aNs; exact gC; decide +kernel; decide +kernel; show iZ _ _ _ _ _ _ _ _ _ _ _ _ _ _ _ _ (_ :: _) _ _)) | (have h9:=bq aH; clear h; obtain⟨x1,hx1,h⟩:=h9; ((with_reducible apply mR (I:=m2c1 x1 ..)); exact rfl; exact aLe; exact hZ; exact hTT; exact hA; exact hP; exact hS; exact ky; exact rfl; exact rfl; exact rfl; exact aNs; exact gC; decide +kernel; decide +kernel; show iZ _ _ _ _ _ _ _ _ _ _ _ _ _ _ _ _ (_ :: _) _ _)) | (have h9:=bq aH; clear h; obtain⟨x1,hx1,h⟩:=h9; have h9:=bq aH; clear h; obtain⟨x2,hx2,h⟩:=h9; ((with_reducible apply mR (I:=m2c2 x1 x2 ..)); exact rfl; exact aLe; exact hZ; exact hTT; exact hA; exact hP; exact hS; exact ky; exact rfl; exact rfl; exact rfl; exact aNs; exact gC; decide +kernel; decide +kernel; show iZ _ _ _ _ _ _ _ _ _ _ _ _ _ _ _ _ (_ :: _) _ _)) | (have h9:=bq aH; clear h; obtain⟨x1,hx1,h⟩:=h9; have h9:=bq aH; clear h; obtain⟨x2,hx2,h⟩:=h9; have h9:=bq aH; clear h; obtain⟨x3,hx3,h⟩:=h9; ((with_reducible apply mR (I:=m2c3 x1 x2 x3 ..)); exact rfl; exact aLe; exact hZ; exact hTT; exact hA; exact hP; exact hS; exact ky; exact rfl; exact rfl; exact rfl; exact aNs; exact gC; decide +kernel; decide +kernel; show iZ _ _ _ _ _ _ _ _ _ _ _ _ _ _ _ _ (_ :: _) _ _)) | (have h9:=bq aH; clear h; obtain⟨x1,hx1,h⟩:=h9; have h9:=bq aH; clear h; obtain⟨x2,hx2,h⟩:=h9; have h9:=bq aH; clear h; obtain⟨x3,hx3,h⟩:=h9; have h9:=bq aH; clear h; obtain⟨x4,hx4,h⟩:=h9; have h9:=bq aH; clear h; obtain⟨x5,hx5,h⟩:=h9; have h9:=bq aH; clear h; obtain⟨x6,hx6,h⟩:=h9; have h9:=bq aH; clear h; obtain⟨x7,hx7,h⟩:=h9; ((with_reducible apply mR (I:=m2c7 x1 x2 x3 x4 x5 x6 x7 ..)); exact rfl; exact aLe; exact hZ; exact hTT; exact hA; exact hP; exact hS; exact ky; exact rfl; exact rfl; exact rfl; exact aNs; exact gC; decide +kernel; decide +kernel; show iZ _ _ _ _ _ _ _ _ _ _ _ _ _ _ _ _ (_ :: _) _ _)) | (have h9:=bq aH; clear h; obtain⟨x1,hx1,h⟩:=h9; have h9:=bq aH; clear h; obtain⟨x2,hx2,h⟩:=h9; have h9:=bq aH; clear h; obtain⟨x3,hx3,h⟩:=h9; have h9:=bq aH; clear h; obtain⟨x4,hx4,h⟩:=h9; have h9:=bq aH; clear h; obtain⟨x5,hx5,h⟩:=h9; have h9:=bq aH; clear h; obtain⟨x6,hx6,h⟩:=h9; have h9:=bq aH; clear h; obtain⟨x7,hx7,h⟩:=h9; have h9:=bq aH; clear h; obtain⟨x8,hx8,h⟩:=h9; ((with_reducible apply mR (I:=m2c8 x1 x2 x3 x4 x5 x6 x7 x8 ..)); exact rfl; exact aLe; exact hZ; exact hTT; exact hA; exact hP; exact hS; exact ky; exact rfl; exact rfl; exact rfl; exact aNs; exact gC; decide +kernel; decide +kernel; show iZ _ _ _ _ _ _ _ _ _ _ _ _ _ _ _ _ (_ :: _) _ _)) | (have h9:=bq aH; clear h; obtain⟨x1,hx1,h⟩:=h9; have h9:=bq aH; clear h; obtain⟨x2,hx2,h⟩:=h9; ((with_reducible apply mR (I:=m3c2 x1 x2 ..)); exact rfl; exact aLe; exact hZ; exact hTT; exact hA; exact hP; exact hS; exact ky; exact rfl; exact rfl; exact rfl; exact aNs; exact gC; decide +kernel; decide +kernel; show iZ _ _ _ _ _ _ _ _ _ _ _ _ _ _ _ _ (_ :: _) _ _)) | (have h9:=bq aH; clear h; obtain⟨x1,hx1,h⟩:=h9; have h9:=bq aH; clear h; obtain⟨x2,hx2,h⟩:=h9; have h9:=bq aH; clear h; obtain⟨x3,hx3,h⟩:=h9; ((with_reducible apply mR (I:=m3c3 x1 x2 x3 ..)); exact rfl; exact aLe; exact hZ; exact hTT; exact hA; exact hP; exact hS; exact ky; exact rfl; exact rfl; exact rfl; exact aNs; exact gC; decide +kernel; decide +kernel; show iZ _ _ _ _ _ _ _ _ _ _ _ _ _ _ _ _ (_ :: _) _ _)) | (have h9:=bq aH; clear h; obtain⟨x1,hx1,h⟩:=h9; have h9:=bq aH; clear h; obtain⟨x2,hx2,h⟩:=h9; have h9:=bq aH; clear h; obtain⟨x3,hx3,h⟩:=h9; have h9:=bq aH; clear h; obtain⟨x4,hx4,h⟩:=h9; ((with_reducible apply mR (I:=m4c4 x1 x2 x3 x4 ..)); exact rfl; exact aLe; exact hZ; exact hTT; exact hA; exact hP; exact hS; exact ky; exact rfl; exact rfl; exact rfl; exact aNs; exact gC; decide +kernel; decide +kernel; show iZ _ _ _ _ _ _ _ _ _ _ _ _ _ _ _ _ (_ :: _) _ _)) | (have h9:=bq aH; clear h; obtain⟨x1,hx1,h⟩:=h9; have h9:=bq aH; clear h; obtain⟨x2,hx2,h⟩:=h9; have h9:=bq aH; clear h; obtain⟨x3,hx3,h⟩:=h9; have h9:=bq aH; clear h; obtain⟨x4,hx4,h⟩:=h9; ((with_reducible apply mR (I:=m5c4 x1 x2 x3 x4 ..)); exact rfl; exact aLe; exact hZ; exact hTT; exact hA; exact hP; exact hS; exact ky; exact rfl; exact rfl; exact rfl; exact aNs; exact gC; decide +kernel; decide +kernel; show iZ _ _ _ _ _ _ _ _ _ _ _ _ _ _ _ _ (_ :: _) _ _)) | (have h9:=bq aH; clear h; obtain⟨x1,hx1,h⟩:=h9; have h9:=bq aH; clear h; obtain⟨x2,hx2,h⟩:=h9; ((with_reducible apply mR (I:=m6c2 x1 x2 ..)); exact rfl; exact aLe; exact hZ; exact hTT; exact hA; exact hP; exact hS; exact ky; exact rfl; exact rfl; exact rfl; exact aNs; exact gC; decide +kernel; decide +kernel; show iZ _ _ _ _ _ _ _ _ _ _ _ _ _ _ _ _ (_ :: _) _ _)) | ((with_reducible apply QS); exact cf; exact hS; exact aKs; exact gC; exact (fun _ _ _ hf=>hf.2); exact (fun _ _ hf=>hf); decide +kernel; intro w hS; show lxE _ _ _ _ _ _ _ (_ :: _) _ _) | ((with_reducible apply QS); exact Cf.d; exact hS; exact aKs; exact gC; exact (fun _ _ _ hf=>hf.2); exact (fun _ _ hf=>hf); decide +kernel; intro w hS; show lxE _ _ _ _ _ _ _ (_ :: _) _ _)) | ((with_reducible have h9:=ke h); clear h; obtain⟨x,hx,h⟩:=h9; subst hx))
 | ((with_reducible apply isX); first | (with_reducible exact nN h) | (have h9:=ke aH; clear h; obtain⟨x,hx,h⟩:=h9; (with_reducible apply aN); exact aSt; exact rfl; exact rfl; (intro w hF; first | (have hS:=hF; exact aAs) | exact aAs); exact rfl) | ((with_reducible apply aN); exact aSt; exact rfl; exact rfl; (intro w hF; first | (have hS:=hF; exact aV) | exact aV); exact rfl) | ((with_reducible apply G2); exact aSt; exact rfl; exact rfl; exact rfl; exact aV; exact rfl) | ((with_reducible apply eX); exact aSt; exact rfl; exact rfl; exact rfl; exact rfl; (intro w hF; first | (have hS:=hF; exact aV) | exact aV); exact rfl) | ((with_reducible apply ej (b:=true)); exact aSt; exact rfl; exact rfl; exact rfl; exact rfl; exact rfl; exact rfl) | ((with_reducible apply xn (b:=true)); exact aSt; exact rfl; exact rfl; exact rfl; exact rfl; exact rfl; exact rfl) | ((with_reducible apply ej (b:=false)); exact aSt; exact rfl; exact rfl; exact rfl; exact rfl; exact rfl; exact rfl) | ((with_reducible apply xn (b:=false)); exact aSt; exact rfl; exact rfl; exact rfl; exact rfl; exact rfl; exact rfl) | ((with_reducible apply nT); exact aSt; exact rfl; exact rfl; exact rfl; exact rfl; exact rfl) | ((with_reducible apply Ek); exact aSt; exact rfl; exact rfl; exact rfl; exact rfl; exact rfl) | ((with_reducible apply Lw); exact rfl; exact rfl; exact rfl; all_goals (intro hb; (fail_if_success (with_reducible have h8:=lq1 hb)); (fail_if_success (with_reducible have h8:=lq2 hb)); refine BI.o ?_)) | ((with_reducible apply sP); exact aSt; exact rfl; exact rfl; exact aX; exact rfl; refine XI.o ?_) | ((with_reducible apply mD); exact aSt; exact rfl; exact rfl; exact aY; refine YI.o ?_) | ((with_reducible apply JM); exact aSt; exact rfl; exact rfl; exact aV; exact rfl) | (have h9:=pf aH; clear h; obtain⟨hg,h⟩:=h9; (try have hg1:=hg.2); (try have hg2:=hg1.1)) | (have h9:=bq aH; clear h; obtain⟨x,hx,h⟩:=h9; first | ((with_reducible apply aN); exact aSt; exact rfl; exact rfl; (intro w hF; first | (have hS:=hF; exact aVb) | exact aVb); exact rfl) | ((with_reducible apply eX); exact aSt; exact rfl; exact rfl; exact rfl; exact rfl; (intro w hF; first | (have hS:=hF; exact aVb) | exact aVb); exact rfl) | ((with_reducible apply sP); exact aSt; exact rfl; exact rfl; exact aXb; exact rfl; refine XI.o ?_) | ((with_reducible apply mD); exact aSt; exact rfl; exact rfl; exact aY; refine YI.o ?_) | ((with_reducible apply JM); exact aSt; exact rfl; exact rfl; exact aVb; exact rfl) | ((with_reducible apply fM); exact aSt; exact rfl; exact rfl; kernel_rfl; exact rfl; exact GY; exact rfl; refine CI.o ?_) | ((with_reducible apply Jx); exact aSt; exact rfl; exact rfl; exact rfl; exact rfl; kernel_rfl; exact rfl; exact GY; exact rfl; refine CI.o ?_) | ((with_reducible apply Ik); exact aSt; exact rfl; exact rfl; exact rfl; exact hS; exact aCG; kernel_rfl; exact rfl; refine GI.o ?_)) | ((with_reducible apply aN); exact aSt; exact rfl; exact rfl; (intro w hF; first | (have hS:=hF; exact aVg) | exact aVg); exact rfl) | ((with_reducible apply eX); exact aSt; exact rfl; exact rfl; exact rfl; exact rfl; (intro w hF; first | (have hS:=hF; exact aVg) | exact aVg); exact rfl) | ((with_reducible apply gf); first | exact aSt | exact trivial))
 | ((with_reducible apply isM); first | ((with_reducible apply Ts); exact rfl; exact rfl; (intro w Sb wb hZ hA hP hS; exact aV); exact rfl) | ((with_reducible apply NZ); exact rfl; exact rfl; kernel_rfl; exact rfl; exact aLk; exact aLk; exact aLx; exact aCm; exact aCm; exact aCm; exact aCm; exact (fun _ _ _ _=>rfl); exact rfl; exact rfl; exact rfl; exact rfl; exact aHx; exact aMC; exact rfl; refine MI.o ?_) | ((with_reducible apply My); exact rfl; exact rfl; exact rfl; kernel_rfl; exact rfl; exact aLk; exact aLk; exact aLx; exact aCm; exact aCm; exact aCm; exact aCm; exact (fun _ _ _ _=>rfl); exact rfl; exact rfl; exact rfl; exact rfl; exact aHx; exact aMC; exact rfl; refine MI.o ?_) | ((with_reducible apply RK); exact rfl; exact rfl; exact aLk; exact aLk; exact aLx; exact aCm; exact aCm; exact aCm; exact aCm; exact (fun _ _ _ _=>rfl); exact rfl; exact rfl; exact rfl; exact rfl; exact aHx; exact aMN; exact rfl; refine MI.o ?_) | ((with_reducible apply S5); exact rfl; exact rfl; exact aLk; exact aLk; exact aLx; exact aCm; exact aCm; exact aCm; exact aCm; exact (fun _ _ _ _=>rfl); exact rfl; exact rfl; exact rfl; exact rfl; exact aHx; exact aMY; refine MI.o ?_) | ((with_reducible apply Rl); exact aCm; exact aCm; exact rfl; exact rfl; refine NI.o ?_))
 | (have h9:=ep h hk; clear h hk ih; have h:=h9; clear h9)
 | ((with_reducible apply TR); (clear h; (intro s L w hI h; iterate 9 (try (obtain⟨x,s⟩:_×_:=s)); (try dsimp only at hI); (try dsimp only); iterate 9 (try (first | (have hS9:St _ _ _ _:=hI; clear hI; (try clear hS); have hS:=hS9; clear hS9) | (have hT9:SfT _ _ _ _ _ _:=hI; clear hI; (try clear hZ hA hP hS); obtain⟨_,_,hZ,hA,hP,hS⟩:=hT9) | (obtain⟨hq,hI⟩:=hI; try subst hq))); (try dsimp only))))
 | ((with_reducible apply XI.i); (intro v w hT1; (iterate 4 (try (first | (have hS9:St _ _ _ _:=hT1; clear hT1; (try clear hS); have hS:=hS9; clear hS9) | (obtain⟨hq,hT1⟩:=hT1; try subst hq)))); (try dsimp only[List.set]at hS); (try (unfold spl at hS; dsimp only[List.take,List.drop,List.length,List.nil_append,List.cons_append,Nat.zero_add,Nat.add_zero]at hS)); (try (obtain⟨x,hx,h⟩:=ke h; rw[hx]at hS))))
 | ((with_reducible apply YI.i); (intro w hS; (try dsimp only[List.set]at hS); (try (unfold spl at hS; dsimp only[List.take,List.drop,List.length,List.nil_append,List.cons_append,Nat.zero_add,Nat.add_zero]at hS)); (try (obtain⟨x,hx,h⟩:=ke h; rw[hx]at hS))))
 | ((with_reducible apply CI.i); (intro v w hT1; iterate 9 (try (first | (replace hS:=hS.call hT1; clear hT1; (try dsimp only[List.set,List.eraseIdx,List.cons_append,List.nil_append]at hS)) | (obtain⟨hq,hT1⟩:=hT1; try subst hq)))))
 | ((with_reducible apply GI.i); (intro v w hT1 hG; iterate 9 (try (first | (replace hS:=hG.back hT1; clear hT1 hG; (try dsimp only[List.set,List.eraseIdx,List.cons_append,List.nil_append]at hS)) | (replace hS:=hS.call hT1; clear hT1; (try dsimp only[List.set,List.eraseIdx,List.cons_append,List.nil_append]at hS)) | (obtain⟨hq,hT1⟩:=hT1; try subst hq)))))
 | ((with_reducible apply LI.i); (clear h; intro k s L w q hI ih h hk; iterate 9 (try (obtain⟨x,s⟩:_×_:=s)); (try dsimp only at hI); (try dsimp only); iterate 9 (try (first | (have hS9:St _ _ _ _:=hI; clear hI; (try clear hS); have hS:=hS9; clear hS9) | (have hT9:SfT _ _ _ _ _ _:=hI; clear hI; (try clear hZ hA hP hS); obtain⟨_,_,hZ,hA,hP,hS⟩:=hT9) | (obtain⟨hq,hI⟩:=hI; try subst hq))); (try dsimp only)))
 | ((with_reducible apply BI.i); ((first | (with_reducible have h9:=md h hb) | (with_reducible have h9:=me h hb) | (have h8:True:=aKn; have h9:=h) | have h9:=md h hb | have h9:=me h hb | have h9:=h); clear h; have h:=h9; clear h9; (first | subst hb | ((try simp only[hb]); (try rw[hb]at h)))))
 | ((with_reducible apply MI.i); (intro v x y hT1; (iterate 24 (try (obtain⟨hq,hT1⟩:=hT1; first | subst hq | (have h8:(_ :: _:List Th)=_:=hq; clear h8; cases hq) | skip))); (try subst hT1)))
 | ((with_reducible apply NI.i); (intro w hT1; clear hZ hA hP hS; obtain⟨_,_,hZ,hA,hP,hS⟩:=hT1))
 | fail)
 ):P:=h
end Go.Gk
