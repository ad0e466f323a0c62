import Derived.Test.YtpndnjnogehdfaaGreatDoorRAl
set_option linter.unusedVariables false
set_option linter.unusedSimpArgs false
set_option linter.unusedSectionVars false
set_option maxRecDepth 4000
namespace Go.Gk
open Go Go.RowKit
theorem aTI {P:Prop} (h:P:=by
 first
 | exact ti3
 | exact ti5
 | exact ti9
 | exact MB
 | exact Mr
 | exact DB
 | exact z6
 | exact Ox
 | fail):P:=h
theorem aTZ {P:Prop} (h:P:=by
 first
 | exact Oi
 | exact DZ
 | exact JA
 | exact N5
 | exact OA
 | exact Qh
 | exact Om
 | exact OK
 | exact tz3
 | exact Po
 | exact tz4
 | exact Qn
 | exact Qy
 | exact PB
 | exact Nd
 | exact LV
 | exact PC
 | fail):P:=h
theorem aNZ {P:Prop} (h:P:=by
 first
 | exact Ok
 | exact uI
 | exact Oe
 | exact nz2
 | exact QF
 | exact JG
 | exact DW
 | exact JB
 | exact zq
 | exact Qm
 | exact nz3
 | exact QB
 | exact Pj
 | exact MA
 | exact nz4
 | exact ME
 | exact PM
 | exact P0
 | exact Pf
 | exact O1
 | exact tz
 | exact nz9
 | fail):P:=h
theorem aSZ {P:Prop} (h:P:=by
 first
 | exact OR
 | exact Ob
 | exact Es
 | exact O8
 | exact EH
 | exact uM
 | exact P1
 | exact N9
 | exact Nt
 | exact sz3
 | exact Qo
 | exact Pn
 | exact sz4
 | exact QD
 | exact PK
 | exact sz5
 | exact QG
 | exact Qj
 | exact No
 | exact yR
 | exact N1
 | exact sz9
 | exact Pu
 | exact Qb
 | fail):P:=h
theorem Ph {P:Prop} (h:P:=by
 first
 | exact NQ
 | exact M1
 | exact Mz
 | exact Na
 | exact NW
 | exact MY
 | exact N0
 | exact GT
 | exact OM
 | exact Of
 | exact OG
 | exact Od
 | exact OI
 | exact Ov
 | fail):P:=h
theorem IM {P:Prop} (h:P:=by
 first
 | exact Its.n _
 | ((with_reducible apply Its.l); (case hx=>exact rfl); (case hn=>exact rfl); exact IM)
 | ((with_reducible apply Its.c); exact rfl; exact IM)
 | fail):P:=h
theorem aGs {P:Prop} (h:P:=by
 first
 | assumption
 | ((with_reducible apply K7); assumption; exact aGs)
 | fail):P:=h
theorem aUh {P:Prop} (h:P:=by
 first
 | exact Up.here
 | ((with_reducible apply Up.skipC); exact rfl; exact aUh)
 | ((with_reducible apply Up.skipL); exact aL1; exact rfl; exact aUh)
 | fail):P:=h
theorem aGO {P:Prop} (h:P:=by
 first
 | assumption
 | fail):P:=h
theorem aLn {P:Prop} (h:P:=by
 first
 | assumption
 | exact rfl
 | ((with_reducible apply fG); exact aLn; exact rfl)
 | exact bd
 | (rw[<-hx,ig]; assumption)
 | (simp only[ig]; exact aLn)
 | fail):P:=h
theorem aLs {P:Prop} (h:P:=by
 first
 | ((with_reducible apply Lr); exact aLs; exact aLs; exact rfl)
 | ((with_reducible apply OU); exact aLs; exact rfl)
 | ((with_reducible apply fG); (first | assumption | exact bd); exact rfl)
 | exact rfl
 | fail):P:=h
theorem aO1 {P:Prop} (h:P:=by
 first
 | exact up
 | exact vF rfl
 | ((with_reducible apply KP); exact aO1; exact aO1)
 | fail):P:=h
theorem aL1 {P:Prop} (h:P:=by
 first
 | ((with_reducible apply fG); exact aLn; exact rfl)
 | exact rfl
 | fail):P:=h
theorem aTb {P:Prop} (h:P:=by
 first
 | exact hT.keyset_names.cells hS.fr
 | exact hT.sha_start256.cells hS.fr
 | exact hT.sha_start384.cells hS.fr
 | exact hT.sha_start512.cells hS.fr
 | exact hT.rsa1_infos.cells hS.fr
 | exact hT.ed_orderLimbs.cells hS.fr
 | exact hT.ed_baseLimbs.cells hS.fr
 | exact hT.ed_primeLimbs.cells hS.fr
 | exact hT.ed_curveLimbs.cells hS.fr
 | exact hT.sha_k256.cells hS.fr
 | exact hT.sha_k512.cells hS.fr
 | exact hT.ed_rootLimbs.cells hS.fr
 | exact hT.keyset_names.cells (hZ.st hS).fr
 | exact hT.sha_start256.cells (hZ.st hS).fr
 | exact hT.sha_start384.cells (hZ.st hS).fr
 | exact hT.sha_start512.cells (hZ.st hS).fr
 | exact hT.rsa1_infos.cells (hZ.st hS).fr
 | exact hT.ed_orderLimbs.cells (hZ.st hS).fr
 | exact hT.ed_baseLimbs.cells (hZ.st hS).fr
 | exact hT.ed_primeLimbs.cells (hZ.st hS).fr
 | exact hT.ed_curveLimbs.cells (hZ.st hS).fr
 | exact hT.sha_k256.cells (hZ.st hS).fr
 | exact hT.sha_k512.cells (hZ.st hS).fr
 | exact hT.ed_rootLimbs.cells (hZ.st hS).fr
 | fail):P:=h
theorem iW {P:Prop} (h:P:=by
 first
 | exact Nth.h _ _
 | ((with_reducible apply Nth.t); exact iW)
 | fail):P:=h
theorem aEr {P:Prop} (h:P:=by
 first
 | exact Er.h _
 | ((with_reducible apply Er.t); exact aEr)
 | fail):P:=h
theorem qG {P:Prop} (h:P:=by
 first
 | exact Mm.h _
 | ((with_reducible apply Mm.t); exact qG)
 | fail):P:=h
theorem aHk {P:Prop} (h:P:=by
 first
 | assumption
 | exact hg.2
 | exact hg.1
 | fail):P:=h
theorem aRO {P:Prop} (h:P:=by
 first
 | ((with_reducible apply St.roN); exact hS; exact iW)
 | ((with_reducible apply RP.now); assumption; exact hS.fr)
 | exact RO.nil _ _
 | ((with_reducible apply St.rroN); exact hS; exact iW)
 | ((with_reducible apply RP.now); ((with_reducible apply Rds.rpm); exact hA; exact qG); exact hS.fr)
 | ((with_reducible apply RP.now); assumption; exact (hZ.st hS).fr)
 | ((with_reducible apply RO.tk); exact aRO; exact aHk)
 | ((with_reducible apply RO.tk3); exact aRO; exact aHk)
 | ((with_reducible apply RO.g_sl); exact aRO; assumption)
 | ((with_reducible apply RO.g_sll); exact aRO; assumption)
 | ((with_reducible apply RO.g_slh); exact aRO; assumption)
 | ((with_reducible apply RO.g_sl3); exact aRO; assumption)
 | ((with_reducible apply St.bxroA); exact hS; exact iW; (case hu=>exact aUp); exact aLn)
 | ((with_reducible apply RO.po); (case hp=>assumption); exact aRO)
 | ((with_reducible apply RP.now); ((with_reducible apply RP.W_sl); assumption; assumption); exact hS.fr)
 | ((with_reducible apply RP.now); ((with_reducible apply RP.eW); assumption; assumption; exact hg.1; exact hg.2); exact hS.fr)
 | fail):P:=h
theorem aUp {P:Prop} (h:P:=by
 first
 | exact Up.last
 | exact Up.here
 | ((with_reducible apply Up.skipC); exact rfl; exact aUp)
 | ((with_reducible apply Up.skipL); exact aL1; exact rfl; exact aUp)
 | fail):P:=h
theorem aUg {P:Prop} (h:P:=by
 first
 | exact rfl
 | ((with_reducible apply Up.elr); exact aUp; assumption; exact rfl)
 | ((with_reducible apply Up.get0); exact aUp)
 | fail):P:=h
theorem N3 {P:Prop} (h:P:=by
 first
 | ((with_reducible apply St.bxcN); exact hS; exact iW; exact rfl)
 | ((with_reducible apply RB.cell'); assumption; exact hS.fr; exact rfl)
 | ((with_reducible apply RB.cell'); ((with_reducible apply Rds.rbm); exact hA; exact qG); exact hS.fr; exact rfl)
 | exact hT.keyset_names.cell hS.fr (by assumption) rfl
 | exact hT.sha_start256.cell hS.fr (by assumption) rfl
 | exact hT.sha_start384.cell hS.fr (by assumption) rfl
 | exact hT.sha_start512.cell hS.fr (by assumption) rfl
 | exact hT.rsa1_infos.cell hS.fr (by assumption) rfl
 | exact hT.ed_orderLimbs.cell hS.fr (by assumption) rfl
 | exact hT.ed_baseLimbs.cell hS.fr (by assumption) rfl
 | exact hT.ed_primeLimbs.cell hS.fr (by assumption) rfl
 | exact hT.ed_curveLimbs.cell hS.fr (by assumption) rfl
 | exact hT.sha_k256.cell hS.fr (by assumption) rfl
 | exact hT.sha_k512.cell hS.fr (by assumption) rfl
 | exact hT.ed_rootLimbs.cell hS.fr (by assumption) rfl
 | exact hT.keyset_names.cell (hZ.st hS).fr (by assumption) rfl
 | exact hT.sha_start256.cell (hZ.st hS).fr (by assumption) rfl
 | exact hT.sha_start384.cell (hZ.st hS).fr (by assumption) rfl
 | exact hT.sha_start512.cell (hZ.st hS).fr (by assumption) rfl
 | exact hT.rsa1_infos.cell (hZ.st hS).fr (by assumption) rfl
 | exact hT.ed_orderLimbs.cell (hZ.st hS).fr (by assumption) rfl
 | exact hT.ed_baseLimbs.cell (hZ.st hS).fr (by assumption) rfl
 | exact hT.ed_primeLimbs.cell (hZ.st hS).fr (by assumption) rfl
 | exact hT.ed_curveLimbs.cell (hZ.st hS).fr (by assumption) rfl
 | exact hT.sha_k256.cell (hZ.st hS).fr (by assumption) rfl
 | exact hT.sha_k512.cell (hZ.st hS).fr (by assumption) rfl
 | exact hT.ed_rootLimbs.cell (hZ.st hS).fr (by assumption) rfl
 | ((with_reducible apply St.bxgN); exact hS; exact iW; exact aUg)
 | fail):P:=h
theorem aB {P:Prop} (h:P:=by
 first
 | ((with_reducible apply kS .add); first | (with_reducible exact lH _ _ _) | (with_reducible exact Cy _ _ _) | (with_reducible exact LH _ _ _))
 | ((with_reducible apply kS .sub); first | (with_reducible exact lO _ _ _) | (with_reducible exact KD _ _ _) | (with_reducible exact LD _ _ _) | (with_reducible exact Nz _ _ _))
 | ((with_reducible apply kS .mul); first | (with_reducible exact lI _ _ _) | (with_reducible exact K5 _ _ _))
 | ((with_reducible apply kS .lss); first | (with_reducible exact kV _ _ _) | (with_reducible exact Df _ _ _) | (with_reducible exact KU _ _ _) | (with_reducible exact M3 _ _ _))
 | ((with_reducible apply kS .eql); first | (with_reducible exact AM _ _ _) | (with_reducible exact KI _ _ _) | (with_reducible exact Ct _ _ _) | (with_reducible exact Nl _ _ _) | (with_reducible exact MU _ _ _) | (with_reducible exact L0 _ _ _ rfl rfl) | ((with_reducible apply FE); exact rfl) | ((with_reducible apply GK); exact rfl))
 | ((with_reducible apply kS .neq); first | (with_reducible exact GD _ _ _) | (with_reducible exact wm _ _ _) | (with_reducible exact KK _ _ _) | (with_reducible exact mj _ _ _) | (with_reducible exact NS _ _ _ rfl rfl) | ((with_reducible apply RP.eWne); assumption; exact rfl; assumption) | ((with_reducible apply MR); exact rfl) | ((with_reducible apply Mv); exact rfl))
 | ((with_reducible apply kS .gtr); first | (with_reducible exact uy _ _ _) | (with_reducible exact CO _ _ _) | (with_reducible exact Lh _ _ _) | (with_reducible exact Nr _ _ _))
 | ((with_reducible apply kS .geq); first | (with_reducible exact Ga _ _ _) | (with_reducible exact JQ _ _ _) | (with_reducible exact KW _ _ _) | (with_reducible exact ND _ _ _))
 | ((with_reducible apply kS .leq); first | (with_reducible exact qa _ _ _) | (with_reducible exact Kv _ _ _) | (with_reducible exact Ns _ _ _))
 | ((with_reducible apply kS .and); first | (with_reducible exact NR _ _ _) | (with_reducible exact LF _ _ _) | (with_reducible exact KL _ _ _) | (with_reducible exact Nf _ _ _))
 | ((with_reducible apply kS .or); first | (with_reducible exact Ny _ _ _) | (with_reducible exact L7 _ _ _) | (with_reducible exact yo _ _ _))
 | ((with_reducible apply kS .xor); first | (with_reducible exact Ka _ _ _) | (with_reducible exact Lp _ _ _) | (with_reducible exact NF _ _ _))
 | ((with_reducible apply kS .quo); first | ((with_reducible apply Fu); first | decide | assumption) | ((with_reducible apply Kt); first | decide | assumption))
 | ((with_reducible apply kS .rem); first | ((with_reducible apply Bb); first | decide | assumption) | ((with_reducible apply Ch); first | decide | assumption) | ((with_reducible apply Mp); first | decide | assumption))
 | ((with_reducible apply kS .shr); first | (with_reducible exact jr _ _ _ 1 rfl) | (with_reducible exact jr _ _ _ 2 rfl) | (with_reducible exact jr _ _ _ 3 rfl) | (with_reducible exact jr _ _ _ 4 rfl) | (with_reducible exact jr _ _ _ 5 rfl) | (with_reducible exact jr _ _ _ 6 rfl) | (with_reducible exact jr _ _ _ 8 rfl) | (with_reducible exact jr _ _ _ 16 rfl) | (with_reducible exact jr _ _ _ 24 rfl) | (with_reducible exact jr _ _ _ 31 rfl) | (with_reducible exact jr _ _ _ 32 rfl) | (with_reducible exact Ei _ _ _) | ((with_reducible apply kb); first | assumption | decide) | (with_reducible exact Ed _ _ _) | ((with_reducible apply G4); first | assumption | decide) | (with_reducible exact G1 _ _ _) | ((with_reducible apply Hq); first | assumption | decide))
 | ((with_reducible apply kS .shl); first | (with_reducible exact DG _ _ _) | ((with_reducible apply FX); first | assumption | decide) | (with_reducible exact Dq _ _ _) | ((with_reducible apply Ft); first | assumption | decide) | (with_reducible exact Gp _ _ _) | ((with_reducible apply Nh); first | assumption | decide))
 | ((with_reducible apply kS .andNot); first | (with_reducible exact Fk _ _ _))
 | ((with_reducible apply K4); (exact rfl); exact aB)
 | ((with_reducible apply KC); (exact rfl); exact aB)
 | ((with_reducible apply Ki); (exact rfl); exact aB)
 | ((with_reducible apply Ml); (exact rfl); exact aB)
 | ((with_reducible apply LQ); (exact rfl); exact aB)
 | fail):P:=h
theorem aUN {P:Prop} (h:P:=by
 first
 | (with_reducible exact Jt _)
 | (with_reducible exact MZ _)
 | (with_reducible exact JX _)
 | (with_reducible exact Km _)
 | fail):P:=h
theorem aCV {P:Prop} (h:P:=by
 first
 | (with_reducible apply I9) <;> exact rfl
 | (with_reducible apply kq) <;> exact rfl
 | (with_reducible apply Cg) <;> exact rfl
 | (with_reducible apply Ib) <;> exact rfl
 | (with_reducible apply K6) <;> exact rfl
 | (with_reducible apply KY) <;> exact rfl
 | (with_reducible apply KF) <;> exact rfl
 | (with_reducible apply NH) <;> exact rfl
 | (with_reducible apply oa) <;> exact rfl
 | (with_reducible apply FV) <;> exact rfl
 | fail):P:=h
theorem aFA {P:Prop} (h:P:=by
 first
 | ((with_reducible apply jO (k:=0)); exact rfl; exact rfl; exact rfl; exact aNZ; exact rfl)
 | ((with_reducible apply jO (k:=1)); exact rfl; exact rfl; exact rfl; exact aNZ; exact rfl)
 | ((with_reducible apply jO (k:=2)); exact rfl; exact rfl; exact rfl; exact aNZ; exact rfl)
 | ((with_reducible apply jO (k:=3)); exact rfl; exact rfl; exact rfl; exact aNZ; exact rfl)
 | ((with_reducible apply jO (k:=4)); exact rfl; exact rfl; exact rfl; exact aNZ; exact rfl)
 | ((with_reducible apply jO (k:=5)); exact rfl; exact rfl; exact rfl; exact aNZ; exact rfl)
 | ((with_reducible apply jO (k:=6)); exact rfl; exact rfl; exact rfl; exact aNZ; exact rfl)
 | ((with_reducible apply jO (k:=7)); exact rfl; exact rfl; exact rfl; exact aNZ; exact rfl)
 | ((with_reducible apply jO (k:=8)); exact rfl; exact rfl; exact rfl; exact aNZ; exact rfl)
 | ((with_reducible apply jO (k:=9)); exact rfl; exact rfl; exact rfl; exact aNZ; exact rfl)
 | ((with_reducible apply jO (k:=10)); exact rfl; exact rfl; exact rfl; exact aNZ; exact rfl)
 | ((with_reducible apply jO (k:=11)); exact rfl; exact rfl; exact rfl; exact aNZ; exact rfl)
 | ((with_reducible apply jO (k:=13)); exact rfl; exact rfl; exact rfl; exact aNZ; exact rfl)
 | ((with_reducible apply jO (k:=17)); exact rfl; exact rfl; exact rfl; exact aNZ; exact rfl)
 | ((with_reducible apply jO (k:=145)); exact rfl; exact rfl; exact rfl; exact aNZ; exact rfl)
 | ((with_reducible apply iw (k:=0)); exact rfl; exact rfl; exact rfl; exact aNZ; exact rfl)
 | ((with_reducible apply iw (k:=1)); exact rfl; exact rfl; exact rfl; exact aNZ; exact rfl)
 | ((with_reducible apply iw (k:=2)); exact rfl; exact rfl; exact rfl; exact aNZ; exact rfl)
 | ((with_reducible apply iw (k:=3)); exact rfl; exact rfl; exact rfl; exact aNZ; exact rfl)
 | ((with_reducible apply iw (k:=4)); exact rfl; exact rfl; exact rfl; exact aNZ; exact rfl)
 | ((with_reducible apply iw (k:=5)); exact rfl; exact rfl; exact rfl; exact aNZ; exact rfl)
 | ((with_reducible apply iw (k:=6)); exact rfl; exact rfl; exact rfl; exact aNZ; exact rfl)
 | ((with_reducible apply iw (k:=7)); exact rfl; exact rfl; exact rfl; exact aNZ; exact rfl)
 | ((with_reducible apply iw (k:=8)); exact rfl; exact rfl; exact rfl; exact aNZ; exact rfl)
 | ((with_reducible apply iw (k:=9)); exact rfl; exact rfl; exact rfl; exact aNZ; exact rfl)
 | ((with_reducible apply iw (k:=10)); exact rfl; exact rfl; exact rfl; exact aNZ; exact rfl)
 | ((with_reducible apply iw (k:=11)); exact rfl; exact rfl; exact rfl; exact aNZ; exact rfl)
 | fail):P:=h
theorem aLd {P:Prop} (h:P:=by
 first
 | ((with_reducible apply kW); (case hT=>exact rfl); exact rfl; exact rfl; exact aRO; exact aGO; exact rfl)
 | ((with_reducible apply bY); (case hT=>exact rfl); exact rfl; exact rfl; exact N3)
 | ((with_reducible apply KX); (case hT=>exact rfl); exact rfl; exact rfl; exact hS; exact iW; exact aSZ)
 | ((with_reducible apply Ku); (case hT=>exact rfl); exact rfl; exact rfl; exact aRO; exact aGO; exact rfl; exact rfl)
 | ((with_reducible apply n8); (case hT=>exact rfl); exact rfl; exact aSZ; (case hx=>exact rfl); (case hc=>exact aTb); exact aLn)
 | ((with_reducible apply n8); (case hT=>exact rfl); exact rfl; exact aSZ; (case hx=>exact rfl); (case hc=>((with_reducible apply St.bxgs0); exact hS; exact iW; exact aUp)); exact aLs)
 | ((with_reducible apply n8); (case hT=>exact rfl); exact rfl; exact aSZ; (case hx=>exact rfl); (case hc=>((with_reducible apply St.bxgs0); exact hS; exact iW; exact aUh)); exact aLs)
 | fail):P:=h
theorem aV {P:Prop} (h:P:=by
 first
 | (with_reducible exact J5 rfl)
 | (with_reducible exact Hx rfl)
 | (with_reducible exact Je rfl)
 | ((with_reducible apply ow); exact rfl)
 | ((with_reducible apply dz); exact rfl)
 | ((with_reducible apply bE); exact rfl; exact rfl; exact aB)
 | ((with_reducible apply JC); exact rfl; exact rfl; exact aRO; exact jo.len (by assumption))
 | ((with_reducible apply fc); exact rfl; exact rfl; exact aRO)
 | ((with_reducible apply Hd); exact rfl; exact rfl)
 | ((with_reducible apply xe); exact rfl; exact rfl)
 | ((with_reducible apply xH); exact rfl; exact rfl)
 | ((with_reducible apply Fc); exact rfl; exact aUN)
 | ((with_reducible apply gr); exact rfl; exact aCV)
 | ((with_reducible apply A6); exact rfl; exact rfl)
 | ((with_reducible apply gf); exact rfl)
 | ((with_reducible apply PI); exact aFA)
 | ((with_reducible apply M2); exact aLd)
 | ((with_reducible apply EK); exact rfl)
 | ((with_reducible apply In); exact rfl)
 | ((with_reducible apply kK); exact rfl; exact aSZ; exact rfl; exact rfl; decide; decide)
 | ((with_reducible apply CP); exact rfl; exact rfl)
 | ((with_reducible apply KA); exact rfl; exact rfl)
 | ((with_reducible apply EP); exact aEv; exact Ph; exact yu; exact rfl)
 | ((with_reducible apply CC); exact rfl; exact rfl; exact rfl; exact rfl; exact aRO)
 | fail):P:=h
theorem aVb {P:Prop} (h:P:=by
 first
 | ((with_reducible apply La); exact rfl; exact aSZ; exact rfl; exact rfl; ((with_reducible apply Db); exact hx; exact aLn))
 | ((with_reducible apply H9); exact rfl; (case hE=>exact rfl); exact rfl; exact aSZ; exact rfl; exact rfl; ((with_reducible apply Db); exact hx; exact aLn); (first | ((with_reducible apply wv); exact hx; exact rfl) | exact wv (e:=e32) hx rfl | exact wv (e:=e64) hx rfl))
 | ((with_reducible apply Ni (e:=e8)); exact rfl; exact aSZ; exact rfl; exact rfl; exact rfl; exact rfl; exact aLn; exact hx)
 | ((with_reducible apply N6 (e:=e8)); exact rfl; exact aSZ; exact rfl; exact rfl; exact rfl; exact aLn; exact hx)
 | (have hc0:=e0; (with_reducible apply W_sl); exact rfl; rotate_left; exact rfl; exact rfl; exact rfl; exact aRO; exact hx; (case hE=>exact aTI))
 | ((with_reducible apply kP); exact rfl; rotate_left; exact rfl; exact rfl; exact aRO; exact hx; (case hE=>exact aTI))
 | ((with_reducible apply N4); exact rfl; rotate_left; exact rfl; exact rfl; exact rfl; exact rfl; exact aRO; exact hx; (case hE=>exact aTI))
 | ((with_reducible apply OQ); exact rfl; exact rfl; exact rfl; exact hx)
 | ((with_reducible apply M6); exact rfl; exact rfl; exact rfl; exact hx)
 | ((with_reducible apply Nw); exact rfl; rotate_left; exact rfl; exact rfl; exact rfl; exact aRO; exact hx; (case hE=>exact aTI))
 | ((with_reducible apply uh); exact rfl; rotate_left; exact rfl; exact rfl; exact aRO; exact hx; (case hE=>exact aTI))
 | ((with_reducible apply Ju); exact rfl; rotate_left; exact rfl; exact rfl; exact aRO; exact hx; (case hE=>exact aTI))
 | ((with_reducible apply M2); exact aLd)
 | fail):P:=h
theorem aVg {P:Prop} (h:P:=by
 first
 | ((with_reducible apply GC); exact rfl; rotate_left; exact rfl; exact rfl; exact rfl; exact aRO; assumption; (case hE=>exact aTI))
 | ((with_reducible apply Ju); exact rfl; rotate_left; exact rfl; exact rfl; exact aRO; exact G7 (by assumption); (case hE=>exact aTI))
 | fail):P:=h
theorem aAs {P:Prop} (h:P:=by
 first
 | ((with_reducible apply dz); exact (by subst hx; rfl:_=some (vI x)))
 | ((with_reducible apply dz); exact (by subst hx; rfl:_=some (v64 x)))
 | ((with_reducible apply dz); exact (by subst hx; rfl:_=some (v32 x)))
 | ((with_reducible apply dz); exact (by subst hx; rfl:_=some (v8 x)))
 | ((with_reducible apply dz); exact (by subst hx; rfl:_=some (vB x)))
 | fail):P:=h
theorem aX {P:Prop} (h:P:=by
 first
 | ((with_reducible apply jW (e:=e32)); exact rfl; exact aTI; exact rfl; exact rfl; exact rfl; exact aFl; decide; decide; exact hS)
 | ((with_reducible apply jW (e:=e8)); exact rfl; exact aTI; exact rfl; exact rfl; exact rfl; exact aFl; decide; decide; exact hS)
 | ((with_reducible apply Gr); exact rfl; exact aTI; exact IM; exact rfl; exact rfl; decide; decide; exact hS)
 | ((with_reducible apply Mq); exact rfl; exact hS; exact iW; exact rfl; exact aTI; exact rfl)
 | ((with_reducible apply zR (e:=e8)); exact rfl; exact ti5; exact hS)
 | ((with_reducible apply zR (e:=e32)); exact rfl; exact aTI; exact hS)
 | ((with_reducible apply jW (e:=eV)); exact rfl; exact aTI; exact rfl; exact rfl; exact rfl; exact aFl; decide; decide; exact hS)
 | ((with_reducible apply jW (e:=eI)); exact rfl; exact aTI; exact rfl; exact rfl; exact rfl; exact aFl; decide; decide; exact hS)
 | ((with_reducible apply jW (e:=eS)); exact rfl; exact aTI; exact rfl; exact rfl; exact rfl; exact aFl; decide; decide; exact hS)
 | ((with_reducible apply FY); exact rfl; exact rfl; exact rfl; exact rfl; exact hS)
 | ((with_reducible apply Ez); exact rfl; exact rfl; exact rfl; exact hS; exact iW; exact (by simp))
 | ((with_reducible apply Jp); exact rfl; exact hS)
 | ((with_reducible apply HM); exact rfl; exact Ah; exact hS)
 | ((with_reducible apply EC); exact aTZ; exact hS)
 | ((with_reducible apply Dm); exact aTZ; exact rfl; exact hS)
 | ((with_reducible apply Hb (e:=e32)); exact rfl; exact aTI; exact rfl; exact rfl; exact rfl; exact hS; exact iW; exact aRO)
 | ((with_reducible apply Hb (e:=e8)); exact rfl; exact aTI; exact rfl; exact rfl; exact rfl; exact hS; exact iW; exact aRO)
 | fail):P:=h
theorem aXb {P:Prop} (h:P:=by
 first
 | ((with_reducible apply rV (e:=e32)); exact rfl; rotate_left; rotate_left; exact rfl; exact rfl; exact hS; exact hx; (case hE=>exact aTI); (case hz=>exact rfl))
 | ((with_reducible apply rV (e:=e8)); exact rfl; rotate_left; rotate_left; exact rfl; exact rfl; exact hS; exact hx; (case hE=>exact aTI); (case hz=>exact rfl))
 | ((with_reducible apply qi); exact rfl; rotate_left; rotate_left; exact rfl; exact rfl; exact hS; exact iW; exact aRO; exact hx; (case hE=>exact aTI); (case hz=>exact rfl))
 | ((with_reducible apply FN); exact rfl; rotate_left; rotate_left; exact rfl; exact rfl; exact hS; exact aRO; exact hx; (case hE=>exact aTI); (case hz=>exact rfl))
 | ((with_reducible apply xE); exact rfl; exact rfl; exact ti5; exact rfl; exact rfl; exact hS; exact iW; exact hx)
 | ((with_reducible apply Et); exact rfl; exact rfl; rotate_left; rotate_left; exact rfl; exact rfl; exact hS; exact aRO; exact hx; (case hE=>exact aTI); (case hz=>exact rfl))
 | fail):P:=h
theorem aY {P:Prop} (h:P:=by
 first
 | ((with_reducible apply Ke); exact rfl; exact rfl; exact hS; exact iW; exact rfl; exact yu; exact aSZ)
 | ((with_reducible apply Lf); exact rfl; exact rfl; exact hS; exact iW; exact rfl; exact Ah; exact aSZ)
 | ((with_reducible apply JS); exact rfl; exact rfl; exact hS; exact iW; exact rfl; exact yu; exact aSZ)
 | ((with_reducible apply qD); exact aTI; exact rfl; exact rfl; exact hS; exact iW; assumption; (first | exact rfl | exact cl8 rfl))
 | ((with_reducible apply I7); exact aTI; exact rfl; exact rfl; exact hS; exact iW; assumption; assumption; (first | exact rfl | exact cl8 rfl))
 | ((with_reducible apply KJ); exact hS; exact rfl; exact iW; exact aSZ; exact rfl; exact rfl; (with_reducible apply Up.elt); exact aUp; assumption; exact rfl; exact rfl)
 | ((with_reducible apply Cs); exact hS; exact rfl; exact iW; exact aSZ; exact rfl; exact aUp; exact aLs; exact aLs; exact aO1)
 | ((with_reducible apply Cs); exact hS; exact rfl; exact iW; exact aSZ; exact rfl; exact aUh; exact aLs; exact aLs; exact aO1)
 | fail):P:=h
theorem aEv {P:Prop} (h:P:=by
 first
 | exact EvP.nil _
 | ((with_reducible apply EvP.cons); exact rfl; exact aEv)
 | fail):P:=h
theorem mT {P:Prop} (h:P:=by
 first
 | exact Len.nil _
 | ((with_reducible apply Len.consE); exact aEr; exact mT)
 | ((with_reducible apply Len.trE); exact aEr; exact aHk; exact mT)
 | ((apply Len.own0 e32); exact mT)
 | ((apply Len.own0 e8); exact mT)
 | fail):P:=h
theorem Ah {P:Prop} (h:P:=by
 first
 | exact rfl
 | ((with_reducible apply RO.one); exact aRO)
 | fail):P:=h
theorem yu {P:Prop} (h:P:=by
 first
 | exact trivial
 | (apply And.intro; exact Ah; exact yu)
 | fail):P:=h
theorem zG {P:Prop} (h:P:=by
 first
 | exact Spl.n
 | ((with_reducible apply Spl.o); exact zG)
 | ((with_reducible apply Spl.b); exact zG)
 | ((with_reducible apply Spl.k); exact zG)
 | fail):P:=h
theorem aMo {P:Prop} (h:P:=by
 first
 | exact Mo.o _
 | exact Mo.b _
 | ((with_reducible apply Mo.t); exact aMo)
 | fail):P:=h
theorem aSu {P:Prop} (h:P:=by
 first
 | exact Su.n
 | ((with_reducible apply Su.e); exact qG; exact aSu)
 | ((with_reducible apply Su.o); exact aMo; exact aSu)
 | fail):P:=h
theorem qO {P:Prop} (h:P:=by
 first
 | exact Sel.nil _
 | ((apply Sel.own0 e32); exact qO)
 | ((apply Sel.own0 e8); exact qO)
 | ((with_reducible apply Sel.own0); exact qO)
 | ((with_reducible apply Sel.consE); exact aEr; exact qO)
 | ((with_reducible apply Sel.tr3E); exact aEr; exact aHk; exact qO)
 | ((with_reducible apply Sel.trE); exact aEr; exact aHk; exact qO)
 | ((with_reducible apply Sel.tr3tE); exact aEr; exact aHk; exact aHk; exact qO)
 | fail):P:=h
theorem aSt {P:Prop} (h:P:=by
 first
 | exact hS
 | ((with_reducible apply St.by); exact hS; exact qO)
 | fail):P:=h
theorem aLe {P:Prop} (h:P:=by
 first
 | exact trivial
 | ((with_reducible apply LeC); exact rfl; exact aLe)
 | ((with_reducible apply LeC); (simp only[Env.get,Nat.beq,cond]; try exact rfl); exact aLe)
 | fail):P:=h
theorem aI {P:Prop} (h:P:=by
 first
 | exact rfl
 | exact hS
 | exact Qv hZ hS
 | ((with_reducible apply St.by); exact hZ.st hS; exact qO)
 | ((with_reducible apply Pq); exact hZ; exact hTT; exact hA; exact hP; exact hS; exact aSu)
 | ((with_reducible apply sfL); exact hZ; exact hTT; exact hA; exact hP; exact hS; exact mT; exact aSu)
 | ((with_reducible apply HY); exact aI)
 | ((with_reducible apply I8); exact aI)
 | ((with_reducible apply And.intro) <;> exact aI)
 | ((simp only[rO,oH,bQ,ij,gy,bJ]); exact aI)
 | ((with_reducible apply Exists.intro); exact aI)
 | exact aSt
 | assumption
 | exact trivial
 | exact av _
 | exact aLn
 | fail):P:=h
theorem aRV {P:Prop} (h:P:=by
 first
 | exact (rfl:Env.get _ _=_)
 | ((with_reducible apply rvA); exact rfl; (case hT=>exact rfl); exact rfl; exact hS; exact iW; exact aSZ)
 | fail):P:=h
theorem aFl {P:Prop} (h:P:=by
 first
 | exact OS
 | exact PX
 | exact P5
 | exact PQ
 | exact QC
 | ((with_reducible apply Qx); exact aFl)
 | ((with_reducible apply P8); exact aFl)
 | ((with_reducible apply AZ); ((with_reducible apply RO.sv); exact aRO); exact aFl)
 | ((with_reducible apply Oy); exact aFl)
 | ((with_reducible apply PH); exact aFl)
 | ((with_reducible apply OZ); exact rfl; exact aFl)
 | ((with_reducible apply O6); exact rfl; exact aFl)
 | fail):P:=h
theorem Mf {P:Prop} (h:P:=by
 first
 | exact jo.n _
 | ((with_reducible apply jo.c); exact aRO; exact Mf)
 | fail):P:=h
theorem Bu {P:Prop} (h:P:=by
 first
 | exact Mf
 | ((with_reducible apply RO.rp); exact aRO)
 | exact hT.now hS.fr
 | exact hT.now (hZ.st hS).fr
 | assumption
 | exact (rfl:List.length _=_)
 | ((with_reducible apply RB.now); ((with_reducible apply Rds.rbm); exact hA; exact qG); exact hS.fr)
 | ((with_reducible apply RP.give); ((with_reducible apply Rds.rpm); exact hA; exact qG); exact (an rfl); exact hG)
 | ((with_reducible apply RB.give); ((with_reducible apply Rds.rbm); exact hA; exact qG); exact hG)
 | ((with_reducible apply RP.give); assumption; exact (an rfl); exact hG)
 | exact hT.give hG
 | ((with_reducible apply LN); exact hG; exact iW)
 | ((with_reducible apply NV); exact hG; exact iW)
 | ((with_reducible apply RB.give); assumption; exact hG)
 | ((with_reducible apply RB.now); assumption; exact hS.fr)
 | ((with_reducible apply St.rbN); exact hS; exact iW)
 | ((with_reducible apply RO.whole); exact aRO)
 | ((with_reducible apply Pi); exact aRO; assumption)
 | ((with_reducible apply RP.give); ((with_reducible apply RP.tk3); assumption; assumption); exact (an rfl); exact hG)
 | ((with_reducible apply RP.give); ((with_reducible apply RP.W_sl); assumption; assumption); exact (an rfl); exact hG)
 | ((with_reducible apply RP.give); ((with_reducible apply RP.g_sl); assumption; assumption); exact (an rfl); exact hG)
 | fail):P:=h
theorem JE {P:Prop} (h:P:=by
 first
 | exact hTk
 | ((with_reducible apply dI); exact hA'; exact hP'; exact qG)
 | ((with_reducible apply OL); exact hA'; exact hP'; exact qG)
 | exact hT.now (hZ.st hS).fr
 | assumption
 | fail):P:=h
theorem D8 {P:Prop} (h:P:=by
 first
 | ((with_reducible apply jp); (first | ((with_reducible (first | apply wG | apply Ao | apply Bi | apply xU | apply nJ | apply jx | apply ya | apply AV | apply vo | apply vH | apply vc | apply vR | apply AQ | apply yK | apply oy | apply ti | apply nh | apply qZ | apply An | apply th | apply rT | apply rn | apply yd | apply yc | apply xR | apply Bw | apply xO | apply Bp | apply jv | apply xM | apply ta | apply yW | apply xL | apply x9 | apply wx | apply zb | apply EJ | apply tt | apply i9 | apply ii | apply i0 | apply tC | apply DR | apply BA | apply yb | apply vY | apply rS | apply xX | apply wC | apply vZ | apply vw | apply Bg | apply wF | apply uN | apply vE | apply EQ | apply D5 | apply BT | apply yf | apply rD)); (case h=>first | with_reducible exact hx | exact hx)) | ((with_reducible (first | apply xN | apply uZ | apply c_law31_CoseComplete | apply tL | apply rN | apply kE | apply pH | apply nQ | apply sI | apply sJ | apply nv | apply sH | apply oG | apply oJ | apply mQ | apply mf | apply kG | apply tD | apply B2 | apply rH | apply pi | apply BP | apply zX | apply Dv | apply DM | apply DL | apply AA | apply B3 | apply D9 | apply BW | apply B0 | apply uT | apply wP | apply By | apply wB | apply v7 | apply Bz | apply Eb | apply zZ | apply wO | apply E5 | apply FJ | apply GS | apply E8 | apply DU | apply xx | apply sY | apply GE | apply x8 | apply BH | apply A4)); (case h=>first | with_reducible exact hx | exact hx))); (case e=>exact rfl); (all_goals exact Bu))
 | fail):P:=h
theorem aCG {P:Prop} (h:P:=by
 first
 | ((with_reducible apply LC.m); (intro hG; (with_reducible apply jp); (first | ((with_reducible apply hrc); any_goals (with_reducible exact hx)) | ((with_reducible (first | apply xJ | apply lE | apply pp | apply qd | apply pT | apply tY | apply tu | apply tF | apply tE | apply oS | apply pF | apply q9 | apply rP | apply pE | apply lN | apply py | apply px | apply pt | apply lF | apply kR | apply tS | apply DI | apply Ja | apply DP | apply DH | apply qX | apply qV | apply nL | apply nK | apply oT)); (case h=>first | with_reducible exact hx | exact hx)) | ((with_reducible apply qY); (case h=>with_reducible exact hx)) | ((with_reducible apply oR); (case h=>with_reducible exact hx)) | ((with_reducible apply oQ); (case h=>with_reducible exact hx)) | ((with_reducible apply lZ); (case h=>with_reducible exact hx)) | ((with_reducible apply qk); (case h=>with_reducible exact hx)) | ((with_reducible apply tP); (case h=>with_reducible exact hx)) | ((with_reducible apply qJ); (case h=>with_reducible exact hx)) | ((with_reducible apply qE); (case h=>with_reducible exact hx)) | ((with_reducible apply qW); (case h=>with_reducible exact hx)) | ((with_reducible apply oP); (case h=>with_reducible exact hx)) | ((with_reducible apply td); (case h=>with_reducible exact hx)) | ((with_reducible apply qo); (case h=>with_reducible exact hx)) | ((with_reducible apply qg); (case h=>with_reducible exact hx)) | ((with_reducible apply yY); (case h=>with_reducible exact hx))); (case e=>exact rfl); (case hS=>(with_reducible apply St.give); exact hG)); (case hL=>exact mT); (all_goals exact Bu))
 | fail):P:=h
theorem aCZ {P:Prop} (h:P:=by
 first
 | (intro hZ' hTk hA' hP' hS'; (try dsimp only[List.cons_append,List.nil_append]at hA' hP'); (with_reducible apply jp); (((with_reducible (first | apply z7 | apply Br | apply DA | apply ry | apply rR | apply qw | apply sK | apply rz | apply uL)); (case h=>with_reducible exact hx))); (case e=>exact rfl); (all_goals exact JE))
 | fail):P:=h
theorem aKs {P:Prop} (h:P:=by
 first
 | exact Ks.a _
 | exact Ks.n rfl _
 | exact Ks.z
 | ((with_reducible apply Ks.b); exact aKs)
 | ((with_reducible apply Ks.d); exact aKs)
 | fail):P:=h
theorem ur {P:Prop} (h:P:=by
 first
 | exact hT.now hF
 | exact Bu
 | fail):P:=h
theorem aLk {P:Prop} (h:P:=by
 first
 | exact Lk.h _ _
 | ((with_reducible apply Lk.t); exact aLk)
 | fail):P:=h
theorem aLx {P:Prop} (h:P:=by
 first
 | exact Lx.h _ _
 | exact Lx.n
 | ((with_reducible apply Lx.t); exact aLx)
 | fail):P:=h
theorem aLg {P:Prop} (h:P:=by
 first
 | exact Lg.h _ _ _
 | ((with_reducible apply Lg.t); exact aLg)
 | fail):P:=h
theorem aAp {P:Prop} (h:P:=by
 first
 | exact Ap.n _
 | ((with_reducible apply Ap.c); exact aAp)
 | fail):P:=h
theorem aCm {P:Prop} (h:P:=by
 first
 | exact Hm.n
 | ((with_reducible apply Hm.c); exact aLg; exact aCm)
 | exact Bm.n _
 | ((with_reducible apply Bm.c); exact aLx; exact aCm; exact aAp)
 | exact Cm.n _
 | exact Ck.n _
 | ((with_reducible apply Cm.c); exact aLg; exact aCm; exact aAp)
 | ((with_reducible apply Ck.c); exact aLg; exact aCm; exact aAp)
 | fail):P:=h
theorem aHx {P:Prop} (h:P:=by
 first
 | apply rfl
 | ((with_reducible apply And.intro); exact aHx; exact aHx)
 | ((with_reducible apply Exists.intro); (case h=>exact aHx); (try (first | exact (0:Nat) | exact undef)))
 | fail):P:=h
theorem aNs {P:Prop} (h:P:=by
 first
 | exact NsM.n
 | ((with_reducible apply NsM.c); (intro h v x y hT1; (iterate 24 (try (obtain⟨hq,hT1⟩:=hT1))); (try subst hT1); exact rfl); exact aNs)
 | fail):P:=h
theorem aMf {P:Prop} (h:P:=by
 first
 | ((with_reducible apply Exists.intro); (with_reducible apply Exists.intro); (with_reducible apply And.intro); (iterate 12 (try (with_reducible apply Exists.intro))); (iterate 4 (try ((with_reducible apply And.intro); apply rfl))); (apply rfl); (case right=>((try dsimp only[List.cons_append,List.nil_append]); (with_reducible apply sfL); exact hZ; exact hTT; exact hA; exact hP; exact hS; exact mT; exact aSu)); (try (any_goals (first | exact (0:Nat) | exact undef))))
 | fail):P:=h
theorem Pb {P:Prop} (h:P:=by
 first
 | ((with_reducible apply jp); (with_reducible first | apply jx | apply i9 | apply ii | apply i0); (case h=>with_reducible exact hx1); (case e=>exact rfl); (all_goals exact ur))
 | fail):P:=h
theorem P3 {P:Prop} (h:P:=by
 first
 | ((with_reducible apply jp); (with_reducible first | apply jx | apply i9 | apply ii | apply i0); (case h=>with_reducible exact hx2); (case e=>exact rfl); (all_goals exact ur))
 | fail):P:=h
theorem PZ {P:Prop} (h:P:=by
 first
 | ((with_reducible apply jp); (with_reducible first | apply jx | apply i9 | apply ii | apply i0); (case h=>with_reducible exact hx3); (case e=>exact rfl); (all_goals exact ur))
 | fail):P:=h
theorem PJ {P:Prop} (h:P:=by
 first
 | ((with_reducible apply jp); (with_reducible first | apply jx | apply i9 | apply ii | apply i0); (case h=>with_reducible exact hx4); (case e=>exact rfl); (all_goals exact ur))
 | fail):P:=h
theorem Qw {P:Prop} (h:P:=by
 first
 | ((with_reducible apply jp); (with_reducible first | apply jx | apply i9 | apply ii | apply i0); (case h=>with_reducible exact hx5); (case e=>exact rfl); (all_goals exact ur))
 | fail):P:=h
theorem Py {P:Prop} (h:P:=by
 first
 | ((with_reducible apply LC.m); (intro hG; (with_reducible apply jp); (with_reducible first | apply lZ | apply lF | apply kR); (case h=>with_reducible exact hx2); (case e=>exact rfl); (case hS=>(with_reducible apply St.give); exact hG)); (case hL=>exact mT); (all_goals exact Bu))
 | fail):P:=h
theorem Ps {P:Prop} (h:P:=by
 first
 | ((with_reducible apply LC.m); (intro hG; (with_reducible apply jp); (with_reducible first | apply lZ | apply lF | apply kR); (case h=>with_reducible exact hx3); (case e=>exact rfl); (case hS=>(with_reducible apply St.give); exact hG)); (case hL=>exact mT); (all_goals exact Bu))
 | fail):P:=h
theorem aMl {P:Prop} (h:P:=by
 first
 | exact Py
 | exact Ps
 | fail):P:=h
theorem aMC {P:Prop} (h:P:=by
 first
 | (intro w Sl Tl hF hZ hTT hA hP hS; (try dsimp only[List.cons_append,List.nil_append]at hA hP hS); first | ((with_reducible apply nt); (case h=>first | exact Pb | exact P3 | exact PZ | exact PJ | exact Qw); intro v w hT1; (iterate 9 (try (first | (replace hS:=hS.call hT1; clear hT1; (try dsimp only[List.set,List.eraseIdx,List.cons_append,List.nil_append]at hS)) | (obtain⟨hq,hT1⟩:=hT1; try subst hq)))); exact aMf) | ((with_reducible apply EE); exact hS; exact aMl; intro v w hT1 hG; (iterate 9 (try (first | (replace hS:=hG.back hT1; clear hT1 hG; (try dsimp only[List.set,List.eraseIdx,List.cons_append,List.nil_append]at hS)) | (replace hS:=hS.call hT1; clear hT1; (try dsimp only[List.set,List.eraseIdx,List.cons_append,List.nil_append]at hS)) | (obtain⟨hq,hT1⟩:=hT1; try subst hq)))); exact aMf) | ((with_reducible apply GX); exact hZ; exact hTT; exact hA; exact hP; exact hS; exact zG; (case hc=>(intro hZ' hTk hA' hP' hS'; (try dsimp only[List.cons_append,List.nil_append]at hA' hP'); (with_reducible apply jp); (with_reducible apply rz); (first | (case h=>with_reducible exact hx1) | (case h=>with_reducible exact hx2) | (case h=>with_reducible exact hx3) | (case h=>with_reducible exact hx4) | (case h=>with_reducible exact hx5)); (case e=>exact rfl); (all_goals exact JE))); intro v w hT1 hZ hA hP hS; (try dsimp only[List.cons_append,List.nil_append]at hA hP); (iterate 12 (try (first | (have hR1:Rds _ _ _:=hT1; clear hT1; obtain⟨_,_,hZ,hA,hP,hS⟩:=hZ.callK hA hP hS hS1 hR1 rfl; clear hR1; (try dsimp only[List.cons_append,List.nil_append]at hA hP)) | (obtain⟨hq,hT1⟩:=hT1; first | subst hq | (have hS1:St _ _ _ _:=hq; clear hq) | skip)))); exact aMf))
 | fail):P:=h
theorem aMN {P:Prop} (h:P:=by
 first
 | (intro w Sl Tl hF hZ hTT hA hP hS; (try dsimp only[List.cons_append,List.nil_append]at hA hP hS); first | ((with_reducible apply Oq); exact aV; exact aMf) | ((with_reducible apply vO); exact aX; intro v w hT1; (iterate 4 (try (first | (have hS9:St _ _ _ _:=hT1; clear hT1; (try clear hS); have hS:=hS9; clear hS9) | (obtain⟨hq,hT1⟩:=hT1; try subst hq)))); (try dsimp only[List.set]at hS); (try (unfold spl at hS; dsimp only[List.take,List.drop,List.length,List.nil_append,List.cons_append,Nat.zero_add,Nat.add_zero]at hS)); (try (obtain⟨x,hx,h⟩:=ic h; rw[hx]at hS)); exact aMf))
 | fail):P:=h
theorem aMY {P:Prop} (h:P:=by
 first
 | (intro w Sl Tl hF hZ hTT hA hP hS; (try dsimp only[List.cons_append,List.nil_append]at hA hP hS); (with_reducible apply LA); exact aY; intro w hS; (try dsimp only[List.set]at hS); (try (unfold spl at hS; dsimp only[List.take,List.drop,List.length,List.nil_append,List.cons_append,Nat.zero_add,Nat.add_zero]at hS)); (try (obtain⟨x,hx,h⟩:=ic h; rw[hx]at hS)); exact aMf)
 | fail):P:=h
theorem aOd {P:Prop} (h:P:=by
 first
 | (with_reducible exact Oc.lf _)
 | ((with_reducible apply Oc.t); exact aOd)
 | ((with_reducible apply Oc.e); exact aOd)
 | ((with_reducible apply Oc.g); exact aOd)
 | ((with_reducible apply Oc.b); intro x; exact aOd)
 | ((with_reducible apply Oc.l); intro x; exact aOd)
 | fail):P:=h
theorem aOc {P:Prop} (h:P:=by
 first
 | (with_reducible exact Oc.lf _)
 | ((with_reducible apply Oc.t); exact aOd)
 | ((with_reducible apply Oc.e); exact aOd)
 | ((with_reducible apply Oc.g); exact aOd)
 | ((with_reducible apply Oc.b); intro x; exact aOd)
 | ((with_reducible apply Oc.l); intro x; exact aOd)
 | (apply Oc.t; exact aOd)
 | (apply Oc.e; exact aOd)
 | (apply Oc.g; exact aOd)
 | (apply Oc.b; intro x; exact aOd)
 | (apply Oc.l; intro x; exact aOd)
 | exact Oc.z _
 | fail):P:=h
theorem aKn {P:Prop} (h9:P:=by with_reducible (first | exact kq1 h | exact kq2 h | exact kq3 h | exact kq4 h | exact kq5 h | exact kq6 h | exact kq7 h | exact kq8 h | exact ocx h)):P:=h9
theorem aH {P:Prop} (h9:P:=by first | with_reducible exact h | ((fail_if_success (have h8:True:=aKn)); exact h)):P:=h9
set_option maxRecDepth 20000
theorem wk {P:Prop} (h:P:=by
 repeat' (first
 | ((with_reducible apply isR); first | (with_reducible exact nN h) | (with_reducible apply c6) | (have hT8:=hT1; clear hT8; first | (have hR1:Rds _ _ _:=hT1; clear hT1; obtain⟨_,_,hZ,hA,hP,hS⟩:=hZ.callK hA hP hS hS1 hR1 rfl; clear hR1; (try dsimp only[List.cons_append,List.nil_append]at hA hP)) | (have hS1:St _ _ _ _:=hT1; clear hT1; obtain⟨_,_,hZ,hA,hP,hS⟩:=hZ.callK hA hP hS hS1 Rds.nil rfl; (try dsimp only[List.cons_append,List.nil_append]at hA hP)) | (refine Jc hT1 ?_ ?_ <;> clear hT1 <;> (first | (intro hc hT1; have h:=pL h hc) | (intro c hc hT1; have h:=p8 h hc))) | (obtain⟨hq,hT1⟩:=hT1; first | subst hq | (have hS1:St _ _ _ _:=hq; clear hq) | skip)) | ((with_reducible apply Gz); exact rfl; exact rfl; assumption; exact rfl; intro hz; subst hz) | ((with_reducible apply Ot); have h9:=ic aH; clear h; obtain⟨x,hx,h⟩:=h9; (with_reducible apply aT); exact aAs; exact rfl) | ((with_reducible apply aT); exact aV; exact rfl) | ((with_reducible apply Pd); first | ((with_reducible apply LL); exact rfl; exact rfl) | ((with_reducible apply wT (b:=true)); exact rfl; exact rfl; exact rfl; exact rfl) | ((with_reducible apply wT (b:=false)); exact rfl; exact rfl; exact rfl; exact rfl) | ((with_reducible apply Dp); exact rfl; exact rfl; exact rfl) | ((with_reducible apply H8); exact rfl; exact rfl; all_goals (intro hb; (fail_if_success (with_reducible have h8:=lq1 hb)); (fail_if_success (with_reducible have h8:=lq2 hb)); refine BI.o ?_))) | (have h9:=ic aH; clear h; obtain⟨x,hx,h⟩:=h9; (with_reducible apply gh); ((with_reducible apply AU); exact hS; exact rfl; exact iW; exact hx; exact rfl; (first | exact kc rfl | exact kc Ah | exact rfl); exact aSZ; exact aGs; exact rfl; exact rfl); refine YI.o ?_) | ((with_reducible apply jC); exact aX; exact rfl; refine XI.o ?_) | ((with_reducible apply gh); exact aY; refine YI.o ?_) | (have h9:=mF aH; clear h; obtain⟨hg,h⟩:=h9; (try have hg1:=hg.2); (try have hg2:=hg1.1)) | (have h8:True:=(by with_reducible exact ocx h); clear h8; refine G3 (by assumption) ?_ ?_ <;> (first | (intro hc hu; subst hu; have h9:=pL h hc; clear h; have h:=h9; clear h9; (try simp only[hc,ij,oH,bJ]at hS)) | (intro c b hc hu; subst hu; have h9:=p8 h hc; clear h; have h:=h9; clear h9; (try simp only[hc,bQ,oH,gy,di,bJ]at hS)))) | (have h9:=ge aH; clear h; obtain⟨x,hx,h⟩:=h9; first | (obtain⟨y,hy,hR⟩:=jo.get (by assumption) hx; (with_reducible apply aT); ((with_reducible apply kP); exact rfl; rotate_left; exact rfl; exact rfl; exact aRO; exact hy; (case hE=>exact aTI)); exact rfl) | ((with_reducible apply aT); exact aVb; exact rfl) | ((with_reducible apply jC); exact aXb; exact rfl; refine XI.o ?_) | ((with_reducible apply gh); exact aY; refine YI.o ?_) | ((with_reducible apply lW); kernel_rfl; exact rfl; exact D8; exact rfl; refine CI.o ?_) | ((with_reducible apply Gv); exact rfl; exact hS; exact aCG; kernel_rfl; exact rfl; refine GI.o ?_) | ((with_reducible apply DC); exact rfl; exact rfl; exact hS; exact aCG; kernel_rfl; exact rfl; refine GI.o ?_) | ((with_reducible apply GM); (case hargs=>exact rfl); (case hZ=>exact hZ); (case hTT=>exact hTT); (case hA=>exact hA); (case hP=>exact hP); (case hS=>exact hS); (case hs=>exact zG); (case hc=>exact aCZ); (case hf=>kernel_rfl); (case hd=>exact rfl); intro v w hT1 hZ hA hP hS; (try dsimp only[List.cons_append,List.nil_append]at hA hP))) | ((with_reducible apply aT); exact aVg; exact rfl) | (have h9:=ge aH; clear h; obtain⟨x,hx,h⟩:=h9))
 | ((with_reducible apply isE); first | (with_reducible exact nN h) | (with_reducible refine bp ?_) | (with_reducible refine bu ?_) | (with_reducible refine de ?_) | (with_reducible refine ef ?_) | (with_reducible refine eF ?_) | (with_reducible refine dR ?_) | (with_reducible refine H3 ?_) | ((with_reducible apply dC); exact rfl) | (have h9:=mF aH; clear h; obtain⟨hg,h⟩:=h9; (try have hg1:=hg.2); (try have hg2:=hg1.1)) | ((with_reducible have h9:=ic h); clear h; obtain⟨x,hx,h⟩:=h9; subst hx) | ((with_reducible apply OT); exact ih; exact aH; exact hk; exact aI; exact rfl) | (obtain rfl:=eQ h; first | ((with_reducible apply gC); exact rfl; exact rfl; exact aI) | ((with_reducible apply jw); exact rfl; exact rfl; exact rfl; exact aI) | ((with_reducible apply sC); exact rfl; exact rfl; exact rfl; exact rfl; exact aI) | ((with_reducible apply pY); exact rfl; exact rfl; exact rfl; exact rfl; exact rfl; exact rfl; exact rfl; exact aI) | ((with_reducible apply CT); exact rfl; exact aI) | ((with_reducible apply NE); exact rfl; exact aRV; exact aI) | ((with_reducible apply NU); exact rfl; exact aRV; exact aRV; exact aI) | ((with_reducible apply MC); exact rfl; exact aRV; exact aRV; exact aRV; exact aI)) | (have h8:True:=(by with_reducible exact ocx h); clear h8; refine G3 (by assumption) ?_ ?_ <;> (first | (intro hc hu; subst hu; have h9:=pL h hc; clear h; have h:=h9; clear h9; (try simp only[hc,ij,oH,bJ]at hS)) | (intro c b hc hu; subst hu; have h9:=p8 h hc; clear h; have h:=h9; clear h9; (try simp only[hc,bQ,oH,gy,di,bJ]at hS)))) | (subst hx; obtain rfl:=eQ h; (with_reducible apply gC); exact rfl; exact rfl; exact aI))
 | ((with_reducible apply isC); first | (with_reducible exact nN h) | ((with_reducible apply Qr hK); exact aH; (first | (exact aI; exact aLe) | ((iterate 12 (try (with_reducible apply Exists.intro))); (with_reducible apply And.intro); (exact rfl); (case hl=>exact aLe); exact aI))) | ((with_reducible apply PV); (first | ((with_reducible apply jt (I:=j1)); exact rfl; exact rfl; exact h; exact aOc; (case hl=>exact aLe); (case hO=>exact aSt)) | ((with_reducible apply jt (I:=j1 ..)); exact rfl; exact rfl; exact h; exact aOc; (case hl=>exact aLe); (case hO=>exact aSt)) | ((with_reducible apply jt (I:=j2)); exact rfl; exact rfl; exact h; exact aOc; (case hl=>exact aLe); (case hO=>exact aSt)) | ((with_reducible apply jt (I:=j2 ..)); exact rfl; exact rfl; exact h; exact aOc; (case hl=>exact aLe); (case hO=>exact aSt)) | ((with_reducible apply jt (I:=j3)); exact rfl; exact rfl; exact h; exact aOc; (case hl=>exact aLe); (case hO=>exact aSt)) | ((with_reducible apply jt (I:=j3 ..)); exact rfl; exact rfl; exact h; exact aOc; (case hl=>exact aLe); (case hO=>exact aSt)) | ((with_reducible apply jt (I:=j4)); exact rfl; exact rfl; exact h; exact aOc; (case hl=>exact aLe); (case hO=>exact aSt)) | ((with_reducible apply jt (I:=j4 ..)); exact rfl; exact rfl; exact h; exact aOc; (case hl=>exact aLe); (case hO=>exact aSt)) | ((with_reducible apply jt (I:=j5)); exact rfl; exact rfl; exact h; exact aOc; (case hl=>exact aLe); (case hO=>exact aSt)) | ((with_reducible apply jt (I:=j5 ..)); exact rfl; exact rfl; exact h; exact aOc; (case hl=>exact aLe); (case hO=>exact aSt)) | ((with_reducible apply jt (I:=j6)); exact rfl; exact rfl; exact h; exact aOc; (case hl=>exact aLe); (case hO=>exact aSt)) | ((with_reducible apply jt (I:=j6 ..)); exact rfl; exact rfl; exact h; exact aOc; (case hl=>exact aLe); (case hO=>exact aSt)) | ((with_reducible apply jt (I:=j7)); exact rfl; exact rfl; exact h; exact aOc; (case hl=>exact aLe); (case hO=>exact aSt)) | ((with_reducible apply jt (I:=j7 ..)); exact rfl; exact rfl; exact h; exact aOc; (case hl=>exact aLe); (case hO=>exact aSt)) | ((with_reducible apply jt (I:=j8)); exact rfl; exact rfl; exact h; exact aOc; (case hl=>exact aLe); (case hO=>exact aSt)) | ((with_reducible apply jt (I:=j8 ..)); exact rfl; exact rfl; exact h; exact aOc; (case hl=>exact aLe); (case hO=>exact aSt)) | ((with_reducible apply jt (I:=j9)); exact rfl; exact rfl; exact h; exact aOc; (case hl=>exact aLe); (case hO=>exact aSt)) | ((with_reducible apply jt (I:=j9 ..)); exact rfl; exact rfl; exact h; exact aOc; (case hl=>exact aLe); (case hO=>exact aSt)) | ((with_reducible apply jt (I:=j10)); exact rfl; exact rfl; exact h; exact aOc; (case hl=>exact aLe); (case hO=>exact aSt)) | ((with_reducible apply jt (I:=j10 ..)); exact rfl; exact rfl; exact h; exact aOc; (case hl=>exact aLe); (case hO=>exact aSt)) | ((with_reducible apply jt (I:=j11)); exact rfl; exact rfl; exact h; exact aOc; (case hl=>exact aLe); (case hO=>exact aSt)) | ((with_reducible apply jt (I:=j11 ..)); exact rfl; exact rfl; exact h; exact aOc; (case hl=>exact aLe); (case hO=>exact aSt)) | ((with_reducible apply jt (I:=j12)); exact rfl; exact rfl; exact h; exact aOc; (case hl=>exact aLe); (case hO=>exact aSt)) | ((with_reducible apply jt (I:=j12 ..)); exact rfl; exact rfl; exact h; exact aOc; (case hl=>exact aLe); (case hO=>exact aSt)) | ((with_reducible apply jt (I:=j13)); exact rfl; exact rfl; exact h; exact aOc; (case hl=>exact aLe); (case hO=>exact aSt)) | ((with_reducible apply jt (I:=j13 ..)); exact rfl; exact rfl; exact h; exact aOc; (case hl=>exact aLe); (case hO=>exact aSt)) | ((with_reducible apply rh (I:=z1)); exact rfl; exact rfl; exact h; exact aOc; (case hl=>exact aLe); (case hO=>exact aSt); exact hA; exact hS; (case hX=>exact aSu)) | ((with_reducible apply rh (I:=z1 ..)); exact rfl; exact rfl; exact h; exact aOc; (case hl=>exact aLe); (case hO=>exact aSt); exact hA; exact hS; (case hX=>exact aSu)) | ((with_reducible apply rh (I:=z2)); exact rfl; exact rfl; exact h; exact aOc; (case hl=>exact aLe); (case hO=>exact aSt); exact hA; exact hS; (case hX=>exact aSu)) | ((with_reducible apply rh (I:=z2 ..)); exact rfl; exact rfl; exact h; exact aOc; (case hl=>exact aLe); (case hO=>exact aSt); exact hA; exact hS; (case hX=>exact aSu)) | ((with_reducible apply rh (I:=z3)); exact rfl; exact rfl; exact h; exact aOc; (case hl=>exact aLe); (case hO=>exact aSt); exact hA; exact hS; (case hX=>exact aSu)) | ((with_reducible apply rh (I:=z3 ..)); exact rfl; exact rfl; exact h; exact aOc; (case hl=>exact aLe); (case hO=>exact aSt); exact hA; exact hS; (case hX=>exact aSu)) | ((with_reducible apply rh (I:=z4)); exact rfl; exact rfl; exact h; exact aOc; (case hl=>exact aLe); (case hO=>exact aSt); exact hA; exact hS; (case hX=>exact aSu)) | ((with_reducible apply rh (I:=z4 ..)); exact rfl; exact rfl; exact h; exact aOc; (case hl=>exact aLe); (case hO=>exact aSt); exact hA; exact hS; (case hX=>exact aSu))); intro hK) | (with_reducible refine cb ?_) | (with_reducible refine bC ?_) | (with_reducible refine cx ?_) | (with_reducible refine kC ?_) | (with_reducible refine eE ?_) | (with_reducible refine f5 ?_) | (with_reducible refine FK ?_) | (with_reducible refine Fa ?_) | ((with_reducible apply Qp); first | ((with_reducible apply EL); exact rfl; with_reducible exact h; all_goals (clear h; intro hb h; try subst hb)) | ((with_reducible apply EL); exact rfl; exact aH; all_goals (clear h; intro hb h; try subst hb)) | ((with_reducible apply L5); exact rfl; (first | assumption | (subst hx; decide))) | ((with_reducible apply ja); exact rfl) | ((with_reducible apply rE); exact rfl) | (have h9:=mF aH; clear h; obtain⟨hg,h⟩:=h9; (try have hg1:=hg.2); (try have hg2:=hg1.1)) | ((with_reducible apply EL); exact rfl; exact h; all_goals (clear h; intro hb h; try subst hb))) | ((with_reducible apply Pp); (first | ((with_reducible apply kJ (I:=i1)); exact rfl; exact aH) | ((with_reducible apply kJ (I:=i1 ..)); exact rfl; exact aH) | ((with_reducible apply kJ (I:=i2)); exact rfl; exact aH) | ((with_reducible apply kJ (I:=i2 ..)); exact rfl; exact aH) | ((with_reducible apply kJ (I:=i3)); exact rfl; exact aH) | ((with_reducible apply kJ (I:=i3 ..)); exact rfl; exact aH) | ((with_reducible apply kJ (I:=i4)); exact rfl; exact aH) | ((with_reducible apply kJ (I:=i4 ..)); exact rfl; exact aH) | ((with_reducible apply kJ (I:=i5)); exact rfl; exact aH) | ((with_reducible apply kJ (I:=i5 ..)); exact rfl; exact aH) | ((with_reducible apply kJ (I:=i6)); exact rfl; exact aH) | ((with_reducible apply kJ (I:=i6 ..)); exact rfl; exact aH)); (first | (exact aI; exact aLe) | ((iterate 12 (try (with_reducible apply Exists.intro))); (with_reducible apply And.intro); (exact rfl); (case hl=>exact aLe); exact aI)); refine LI.o ?_) | ((with_reducible apply O5); first | (have h9:=ge aH; clear h; obtain⟨x1,hx1,h⟩:=h9; ((with_reducible apply Du (I:=m1c1 x1 ..)); exact rfl; exact aLe; exact hZ; exact hTT; exact hA; exact hP; exact hS; exact mT; exact rfl; exact rfl; exact rfl; exact aNs; exact ky; kernel_rfl; kernel_rfl; show jq _ _ _ _ _ _ _ _ _ _ _ _ _ _ _ _ (_ :: _) _ _)) | (have h9:=ge aH; clear h; obtain⟨x1,hx1,h⟩:=h9; have h9:=ge aH; clear h; obtain⟨x2,hx2,h⟩:=h9; have h9:=ge aH; clear h; obtain⟨x3,hx3,h⟩:=h9; have h9:=ge aH; clear h; obtain⟨x4,hx4,h⟩:=h9; ((with_reducible apply Du (I:=m1c4 x1 x2 x3 x4 ..)); exact rfl; exact aLe; exact hZ; exact hTT; exact hA; exact hP; exact hS; exact mT; exact rfl; exact rfl; exact rfl; exact aNs; exact ky; kernel_rfl; kernel_rfl; show jq _ _ _ _ _ _ _ _ _ _ _ _ _ _ _ _ (_ :: _) _ _)) | (have h9:=ge aH; clear h; obtain⟨x1,hx1,h⟩:=h9; have h9:=ge aH; clear h; obtain⟨x2,hx2,h⟩:=h9; have h9:=ge aH; clear h; obtain⟨x3,hx3,h⟩:=h9; have h9:=ge aH; clear h; obtain⟨x4,hx4,h⟩:=h9; have h9:=ge aH; clear h; obtain⟨x5,hx5,h⟩:=h9; ((with_reducible apply Du (I:=m1c5 x1 x2 x3 x4 x5 ..)); exact rfl; exact aLe; exact hZ; exact hTT; exact hA; exact hP; exact hS; exact mT; exact rfl; exact rfl; exact rfl; exact aNs; exact ky; kernel_rfl; kernel_rfl; show jq _ _ _ _ _ _ _ _ _ _ _ _ _ _ _ _ (_ :: _) _ _)) | (have h9:=ge aH; clear h; obtain⟨x1,hx1,h⟩:=h9; ((with_reducible apply Du (I:=m2c1 x1 ..)); exact rfl; exact aLe; exact hZ; exact hTT; exact hA; exact hP; exact hS; exact mT; exact rfl; exact rfl; exact rfl; exact aNs; exact ky; kernel_rfl; kernel_rfl; show jq _ _ _ _ _ _ _ _ _ _ _ _ _ _ _ _ (_ :: _) _ _)) | ((with_reducible apply NK (I:=r1 ..)); exact rfl; exact rfl; exact hS; (intro w hS; exact aSt); exact ky; exact (fun _ _ _ hf=>hf.2); exact (fun _ _ hf=>hf); decide +kernel; intro w hS; show lxE _ _ _ _ _ _ _ (_ :: _) _ _) | ((with_reducible apply NK (I:=r2 ..)); exact rfl; exact rfl; exact hS; (intro w hS; exact aSt); exact ky; exact (fun _ _ _ hf=>hf.2); exact (fun _ _ hf=>hf); decide +kernel; intro w hS; show lxE _ _ _ _ _ _ _ (_ :: _) _ _) | ((with_reducible apply MT); exact cf; exact hS; exact aKs; exact ky; exact (fun _ _ _ hf=>hf.2); exact (fun _ _ hf=>hf); decide +kernel; intro w hS; show lxE _ _ _ _ _ _ _ (_ :: _) _ _) | ((with_reducible apply LW); exact cf; exact hS; exact aKs; exact ky; exact (fun _ _ _ hf=>hf.2); exact (fun _ _ hf=>hf); decide +kernel; intro w hS; show lxE _ _ _ _ _ _ _ (_ :: _) _ _) | ((with_reducible apply MT); exact Cf.d; exact hS; exact aKs; exact ky; exact (fun _ _ _ hf=>hf.2); exact (fun _ _ hf=>hf); decide +kernel; intro w hS; show lxE _ _ _ _ _ _ _ (_ :: _) _ _) | ((with_reducible apply LW); exact Cf.d; exact hS; exact aKs; exact ky; exact (fun _ _ _ hf=>hf.2); exact (fun _ _ hf=>hf); decide +kernel; intro w hS; show lxE _ _ _ _ _ _ _ (_ :: _) _ _)) | ((with_reducible have h9:=ic h); clear h; obtain⟨x,hx,h⟩:=h9; subst hx))
 | ((with_reducible apply isX); first | (with_reducible exact nN h) | (have h9:=ic aH; clear h; obtain⟨x,hx,h⟩:=h9; (with_reducible apply dg); exact aSt; exact rfl; exact rfl; (intro w hF; first | (have hS:=hF; exact aAs) | exact aAs); exact rfl) | ((with_reducible apply dg); exact aSt; exact rfl; exact rfl; (intro w hF; first | (have hS:=hF; exact aV) | exact aV); exact rfl) | ((with_reducible apply uz); exact aSt; exact rfl; exact rfl; exact rfl; exact aV; exact rfl) | ((with_reducible apply gu); exact aSt; exact rfl; exact rfl; exact rfl; exact rfl; (intro w hF; first | (have hS:=hF; exact aV) | exact aV); exact rfl) | ((with_reducible apply eG (b:=true)); exact aSt; exact rfl; exact rfl; exact rfl; exact rfl; exact rfl; exact rfl) | ((with_reducible apply uB (b:=true)); exact aSt; exact rfl; exact rfl; exact rfl; exact rfl; exact rfl; exact rfl) | ((with_reducible apply eG (b:=false)); exact aSt; exact rfl; exact rfl; exact rfl; exact rfl; exact rfl; exact rfl) | ((with_reducible apply uB (b:=false)); exact aSt; exact rfl; exact rfl; exact rfl; exact rfl; exact rfl; exact rfl) | ((with_reducible apply En); exact aSt; exact rfl; exact rfl; exact rfl; exact rfl; exact rfl) | ((with_reducible apply HU); exact rfl; exact rfl; exact rfl; all_goals (intro hb; (fail_if_success (with_reducible have h8:=lq1 hb)); (fail_if_success (with_reducible have h8:=lq2 hb)); refine BI.o ?_)) | (have h9:=ic aH; clear h; obtain⟨x,hx,h⟩:=h9; (with_reducible apply D3); exact aSt; exact rfl; exact rfl; ((with_reducible apply AU); exact hS; exact rfl; exact iW; exact hx; exact rfl; (first | exact kc rfl | exact kc Ah | exact rfl); exact aSZ; exact aGs; exact rfl; exact rfl); refine YI.o ?_) | ((with_reducible apply uS); exact aSt; exact rfl; exact rfl; exact aX; exact rfl; refine XI.o ?_) | ((with_reducible apply D3); exact aSt; exact rfl; exact rfl; exact aY; refine YI.o ?_) | ((with_reducible apply Gy); exact aSt; exact rfl; exact rfl; exact aV; exact rfl) | (have h9:=mF aH; clear h; obtain⟨hg,h⟩:=h9; (try have hg1:=hg.2); (try have hg2:=hg1.1)) | (have h9:=ge aH; clear h; obtain⟨x,hx,h⟩:=h9; first | ((with_reducible apply dg); exact aSt; exact rfl; exact rfl; (intro w hF; first | (have hS:=hF; exact aVb) | exact aVb); exact rfl) | ((with_reducible apply gu); exact aSt; exact rfl; exact rfl; exact rfl; exact rfl; (intro w hF; first | (have hS:=hF; exact aVb) | exact aVb); exact rfl) | ((with_reducible apply uS); exact aSt; exact rfl; exact rfl; exact aXb; exact rfl; refine XI.o ?_) | ((with_reducible apply D3); exact aSt; exact rfl; exact rfl; exact aY; refine YI.o ?_) | ((with_reducible apply Gy); exact aSt; exact rfl; exact rfl; exact aVb; exact rfl) | ((with_reducible apply kf); exact aSt; exact rfl; exact rfl; kernel_rfl; exact rfl; exact D8; exact rfl; refine CI.o ?_) | ((with_reducible apply Gh); exact aSt; exact rfl; exact rfl; exact rfl; exact rfl; kernel_rfl; exact rfl; exact D8; exact rfl; refine CI.o ?_) | ((with_reducible apply E7); exact aSt; exact rfl; exact rfl; exact rfl; exact hS; exact aCG; kernel_rfl; exact rfl; refine GI.o ?_)) | ((with_reducible apply dg); exact aSt; exact rfl; exact rfl; (intro w hF; first | (have hS:=hF; exact aVg) | exact aVg); exact rfl) | ((with_reducible apply gu); exact aSt; exact rfl; exact rfl; exact rfl; exact rfl; (intro w hF; first | (have hS:=hF; exact aVg) | exact aVg); exact rfl) | ((with_reducible apply jk); first | exact aSt | exact trivial))
 | ((with_reducible apply isM); first | ((with_reducible apply PL); exact rfl; exact rfl; (intro w Sb wb hZ hA hP hS; exact aV); exact rfl) | ((with_reducible apply J1); exact rfl; exact rfl; kernel_rfl; exact rfl; exact aLk; exact aLk; exact aLx; exact aCm; exact aCm; exact aCm; exact aCm; exact (fun _ _ _ _=>rfl); exact rfl; exact rfl; exact rfl; exact rfl; exact aHx; exact aMC; exact rfl; refine MI.o ?_) | ((with_reducible apply IZ); exact rfl; exact rfl; exact rfl; kernel_rfl; exact rfl; exact aLk; exact aLk; exact aLx; exact aCm; exact aCm; exact aCm; exact aCm; exact (fun _ _ _ _=>rfl); exact rfl; exact rfl; exact rfl; exact rfl; exact aHx; exact aMC; exact rfl; refine MI.o ?_) | ((with_reducible apply NY); exact rfl; exact rfl; exact aLk; exact aLk; exact aLx; exact aCm; exact aCm; exact aCm; exact aCm; exact (fun _ _ _ _=>rfl); exact rfl; exact rfl; exact rfl; exact rfl; exact aHx; exact aMN; exact rfl; refine MI.o ?_) | ((with_reducible apply Pe); exact rfl; exact rfl; exact aLk; exact aLk; exact aLx; exact aCm; exact aCm; exact aCm; exact aCm; exact (fun _ _ _ _=>rfl); exact rfl; exact rfl; exact rfl; exact rfl; exact aHx; exact aMY; refine MI.o ?_) | ((with_reducible apply Nu); exact aCm; exact aCm; exact rfl; exact rfl; refine NI.o ?_))
 | (have h9:=fV h hk; clear h hk ih; have h:=h9; clear h9)
 | ((with_reducible apply Ql); (clear h; (intro s L w hI h; iterate 9 (try (obtain⟨x,s⟩:_×_:=s)); (try dsimp only at hI); (try dsimp only); iterate 9 (try (first | (have hS9:St _ _ _ _:=hI; clear hI; (try clear hS); have hS:=hS9; clear hS9) | (have hT9:SfT _ _ _ _ _ _:=hI; clear hI; (try clear hZ hA hP hS); obtain⟨_,_,hZ,hA,hP,hS⟩:=hT9) | (obtain⟨hq,hI⟩:=hI; try subst hq))); (try dsimp only))))
 | ((with_reducible apply XI.i); (intro v w hT1; (iterate 4 (try (first | (have hS9:St _ _ _ _:=hT1; clear hT1; (try clear hS); have hS:=hS9; clear hS9) | (obtain⟨hq,hT1⟩:=hT1; try subst hq)))); (try dsimp only[List.set]at hS); (try (unfold spl at hS; dsimp only[List.take,List.drop,List.length,List.nil_append,List.cons_append,Nat.zero_add,Nat.add_zero]at hS)); (try (obtain⟨x,hx,h⟩:=ic h; rw[hx]at hS))))
 | ((with_reducible apply YI.i); (intro w hS; (try dsimp only[List.set]at hS); (try (unfold spl at hS; dsimp only[List.take,List.drop,List.length,List.nil_append,List.cons_append,Nat.zero_add,Nat.add_zero]at hS)); (try (obtain⟨x,hx,h⟩:=ic h; rw[hx]at hS))))
 | ((with_reducible apply CI.i); (intro v w hT1; iterate 9 (try (first | (replace hS:=hS.call hT1; clear hT1; (try dsimp only[List.set,List.eraseIdx,List.cons_append,List.nil_append]at hS)) | (obtain⟨hq,hT1⟩:=hT1; try subst hq)))))
 | ((with_reducible apply GI.i); (intro v w hT1 hG; iterate 9 (try (first | (replace hS:=hG.back hT1; clear hT1 hG; (try dsimp only[List.set,List.eraseIdx,List.cons_append,List.nil_append]at hS)) | (replace hS:=hS.call hT1; clear hT1; (try dsimp only[List.set,List.eraseIdx,List.cons_append,List.nil_append]at hS)) | (obtain⟨hq,hT1⟩:=hT1; try subst hq)))))
 | ((with_reducible apply LI.i); (clear h; intro k s L w q hI ih h hk; iterate 9 (try (obtain⟨x,s⟩:_×_:=s)); (try dsimp only at hI); (try dsimp only); iterate 9 (try (first | (have hS9:St _ _ _ _:=hI; clear hI; (try clear hS); have hS:=hS9; clear hS9) | (have hT9:SfT _ _ _ _ _ _:=hI; clear hI; (try clear hZ hA hP hS); obtain⟨_,_,hZ,hA,hP,hS⟩:=hT9) | (obtain⟨hq,hI⟩:=hI; try subst hq))); (try dsimp only)))
 | ((with_reducible apply BI.i); ((first | (with_reducible have h9:=fD h hb) | (with_reducible have h9:=fE h hb) | (have h8:True:=aKn; have h9:=h) | have h9:=fD h hb | have h9:=fE h hb | have h9:=h); clear h; have h:=h9; clear h9; (first | subst hb | ((try simp only[hb]); (try rw[hb]at h)))))
 | ((with_reducible apply MI.i); (intro v x y hT1; (iterate 24 (try (obtain⟨hq,hT1⟩:=hT1; first | subst hq | (have h8:(_ :: _:List Th)=_:=hq; clear h8; cases hq) | skip))); (try subst hT1)))
 | ((with_reducible apply NI.i); (intro w hT1; clear hZ hA hP hS; obtain⟨_,_,hZ,hA,hP,hS⟩:=hT1))
 | fail)
 ):P:=h
end Go.Gk
