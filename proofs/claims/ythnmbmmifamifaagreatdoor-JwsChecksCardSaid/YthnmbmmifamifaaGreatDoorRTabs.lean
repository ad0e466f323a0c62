import Derived.Test.YthnmbmmifamifaaGreatDoorRWman
import Derived.Test.YthnmbmmifamifaaGreatDoorCards
import Derived.Test.YthnmbmmifamifaaGreatDoorTie
import Derived.Test.YthnmbmmifamifaaGreatDoorGkR
import Derived.Lib.LaidIn
import Derived.Lib.LaidU8T
import Derived.Deep.DeepHandedRow
import Derived.Deep.DeepWitnessRowRef
import Derived.PinnedBridge
import Derived.MakeChecks
import Derived.Lay
import Derived.SevenTiedAt
import Derived.ProofKit
import Derived.SizedLaws
set_option linter.unusedVariables false
set_option linter.unusedSimpArgs false
set_option linter.unusedSectionVars false
namespace Go.Proofs.YthnmbmmifamifaaGreatDoor
open Go Go.Proofs Go.RowKit Go.Gk Go.Shelf Go.Lib
theorem GS:(Rows.laid_signet_sha_k256:DataW Unit)=tabData .u32 (F.WC.map fun x=>(x.toNat:Int)):=by kernel_rfl
theorem HQ:(Rows.laid_signet_sha_k512:DataW Unit)=tabData .u64 (F.V9.map fun x=>(x.toNat:Int)):=by kernel_rfl
theorem zD:(Rows.laid_signet_sha_start256:DataW Unit)=tabData .u32 (F.UR.map fun x=>(x.toNat:Int)):=by kernel_rfl
theorem yB:(Rows.laid_signet_sha_start384:DataW Unit)=tabData .u64 (F.UQ.map fun x=>(x.toNat:Int)):=by kernel_rfl
theorem zb:(Rows.laid_signet_sha_start512:DataW Unit)=tabData .u64 (F.UU.map fun x=>(x.toNat:Int)):=by kernel_rfl
theorem EF:(Rows.laid_signet_signetref4_k256:DataW Unit)=tabData .u32 (F.UT.map fun x=>(x.toNat:Int)):=by kernel_rfl
theorem Ej:(Rows.laid_signet_signetref4_k512:DataW Unit)=tabData .u64 (F.US.map fun x=>(x.toNat:Int)):=by kernel_rfl
theorem xE:(Rows.laid_signet_signetref4_start256:DataW Unit)=tabData .u32 (F.Ut.map fun x=>(x.toNat:Int)):=by kernel_rfl
theorem wB:(Rows.laid_signet_signetref4_start384:DataW Unit)=tabData .u64 (F.VX.map fun x=>(x.toNat:Int)):=by kernel_rfl
theorem xt:(Rows.laid_signet_signetref4_start512:DataW Unit)=tabData .u64 (F.VM.map fun x=>(x.toNat:Int)):=by kernel_rfl
theorem xg:(Rows.laid_signet_ed_primeLimbs:DataW Unit)=tabData .u32 (F.WL.map fun x=>(x.toNat:Int)):=by kernel_rfl
theorem x9:(Rows.laid_signet_ed_orderLimbs:DataW Unit)=tabData .u32 (F.WN.map fun x=>(x.toNat:Int)):=by kernel_rfl
theorem xV:(Rows.laid_signet_ed_curveLimbs:DataW Unit)=tabData .u32 (F.Wq.map fun x=>(x.toNat:Int)):=by kernel_rfl
theorem yj:(Rows.laid_signet_ed_rootLimbs:DataW Unit)=tabData .u32 (F.Wz.map fun x=>(x.toNat:Int)):=by kernel_rfl
theorem yh:(Rows.laid_signet_ed_baseLimbs:DataW Unit)=sG .u32 ([F.U0,F.UW].map fun r=>r.map fun x=>(x.toNat:Int)):=by kernel_rfl
theorem C8:(Rows.laid_signet_rsa1_infos:DataW Unit)=uG F.VK:=by kernel_rfl
theorem Fh : Rows.jwsChecksRow.laid = [("signet/sha.k256", tabData .u32 (F.WC.map fun x => (x.toNat : Int))), ("signet/sha.k512", tabData .u64 (F.V9.map fun x => (x.toNat : Int))), ("signet/sha.start256", tabData .u32 (F.UR.map fun x => (x.toNat : Int))), ("signet/sha.start384", tabData .u64 (F.UQ.map fun x => (x.toNat : Int))), ("signet/sha.start512", tabData .u64 (F.UU.map fun x => (x.toNat : Int))), ("signet/signetref4.k256", tabData .u32 (F.UT.map fun x => (x.toNat : Int))), ("signet/signetref4.k512", tabData .u64 (F.US.map fun x => (x.toNat : Int))), ("signet/signetref4.start256", tabData .u32 (F.Ut.map fun x => (x.toNat : Int))), ("signet/signetref4.start384", tabData .u64 (F.VX.map fun x => (x.toNat : Int))), ("signet/signetref4.start512", tabData .u64 (F.VM.map fun x => (x.toNat : Int))), ("signet/ed.primeLimbs", tabData .u32 (F.WL.map fun x => (x.toNat : Int))), ("signet/ed.orderLimbs", tabData .u32 (F.WN.map fun x => (x.toNat : Int))), ("signet/ed.curveLimbs", tabData .u32 (F.Wq.map fun x => (x.toNat : Int))), ("signet/ed.rootLimbs", tabData .u32 (F.Wz.map fun x => (x.toNat : Int))), ("signet/ed.baseLimbs", sG .u32 ([F.U0, F.UW].map fun r => r.map fun x => (x.toNat : Int))), ("signet/rsa1.infos", uG F.VK)] := by
 rw[<-GS,<-HQ,<-zD,<-yB,<-zb,<-EF,<-Ej,<-xE,<-wB,<-xt,<-xg,<-x9,<-xV,<-yj,<-yh,<-C8]; rfl
theorem tabs {W:World} (hL:laidMetH Tryz.prog Rows.jwsChecksRow.laid W):TB [] W:=by
 rw[Fh,MakeChecks.laidMetH_plain _ _ _ (by kernel_rfl)]at hL
 exact⟨gaS (by kernel_rfl) (Lib.laidMet.reads hL (.tail _ (.tail _ (.tail _ (.tail _ (.tail _ (.tail _ (.tail _ (.tail _ (.tail _ (.tail _ (.tail _ (.tail _ (.tail _ (.tail _ (.tail _ (.head _))))))))))))))))),
  tM (by kernel_rfl) (Lib.laidMet.reads hL (.tail _ (.tail _ (.tail _ (.tail _ (.tail _ (.tail _ (.tail _ (.tail _ (.tail _ (.tail _ (.tail _ (.head _))))))))))))),
  R3 (j:=8) (rs:=[F.U0,F.UW]) rfl (by kernel_rfl) (Lib.laidMet.reads hL (.tail _ (.tail _ (.tail _ (.tail _ (.tail _ (.tail _ (.tail _ (.tail _ (.tail _ (.tail _ (.tail _ (.tail _ (.tail _ (.tail _ (.head _)))))))))))))))),
  zu (by kernel_rfl) (Lib.laidMet.reads hL (.tail _ (.tail _ (.tail _ (.tail _ (.tail _ (.tail _ (.tail _ (.tail _ (.head _)))))))))),
  zu (by kernel_rfl) (Lib.laidMet.reads hL (.tail _ (.tail _ (.tail _ (.tail _ (.tail _ (.tail _ (.tail _ (.tail _ (.tail _ (.head _))))))))))),
  tM (by kernel_rfl) (Lib.laidMet.reads hL (.tail _ (.tail _ (.head _)))),
  zu (by kernel_rfl) (Lib.laidMet.reads hL (.tail _ (.tail _ (.tail _ (.head _))))),
  zu (by kernel_rfl) (Lib.laidMet.reads hL (.tail _ (.tail _ (.tail _ (.tail _ (.head _)))))),
  tM (by kernel_rfl) (Lib.laidMet.reads hL (.tail _ (.tail _ (.tail _ (.tail _ (.tail _ (.tail _ (.tail _ (.tail _ (.tail _ (.tail _ (.head _)))))))))))),
  tM (by kernel_rfl) (Lib.laidMet.reads hL (.tail _ (.tail _ (.tail _ (.tail _ (.tail _ (.tail _ (.tail _ (.tail _ (.tail _ (.tail _ (.tail _ (.tail _ (.head _)))))))))))))),
  tM (by kernel_rfl) (Lib.laidMet.reads hL (.tail _ (.tail _ (.tail _ (.tail _ (.tail _ (.tail _ (.tail _ (.head _))))))))),
  tM (by kernel_rfl) (Lib.laidMet.reads hL (.tail _ (.tail _ (.tail _ (.tail _ (.tail _ (.head _))))))),
  zu (by kernel_rfl) (Lib.laidMet.reads hL (.tail _ (.tail _ (.tail _ (.tail _ (.tail _ (.tail _ (.head _)))))))),
  tM (by kernel_rfl) (Lib.laidMet.reads hL (.tail _ (.tail _ (.tail _ (.tail _ (.tail _ (.tail _ (.tail _ (.tail _ (.tail _ (.tail _ (.tail _ (.tail _ (.tail _ (.head _))))))))))))))),
  tM (by kernel_rfl) (Lib.laidMet.reads hL (.head _)),
  zu (by kernel_rfl) (Lib.laidMet.reads hL (.tail _ (.head _)))⟩
noncomputable def laidWorld (os:Os):World:=
 let w0:=World.holding Tryz.prog os ⟨#[],#[],[]⟩
 let h1:=nZ w0.heap 15 (F.WC.map fun x=>Value.int .u32 (x.toNat:Int)).toArray
 let h2:=nZ h1 16 (F.V9.map fun x=>Value.int .u64 (x.toNat:Int)).toArray
 let h3:=nZ h2 5 (F.UR.map fun x=>Value.int .u32 (x.toNat:Int)).toArray
 let h4:=nZ h3 6 (F.UQ.map fun x=>Value.int .u64 (x.toNat:Int)).toArray
 let h5:=nZ h4 7 (F.UU.map fun x=>Value.int .u64 (x.toNat:Int)).toArray
 let h6:=nZ h5 11 (F.UT.map fun x=>Value.int .u32 (x.toNat:Int)).toArray
 let h7:=nZ h6 12 (F.US.map fun x=>Value.int .u64 (x.toNat:Int)).toArray
 let h8:=nZ h7 10 (F.Ut.map fun x=>Value.int .u32 (x.toNat:Int)).toArray
 let h9:=nZ h8 3 (F.VX.map fun x=>Value.int .u64 (x.toNat:Int)).toArray
 let h10:=nZ h9 4 (F.VM.map fun x=>Value.int .u64 (x.toNat:Int)).toArray
 let h11:=nZ h10 8 (F.WL.map fun x=>Value.int .u32 (x.toNat:Int)).toArray
 let h12:=nZ h11 1 (F.WN.map fun x=>Value.int .u32 (x.toNat:Int)).toArray
 let h13:=nZ h12 9 (F.Wq.map fun x=>Value.int .u32 (x.toNat:Int)).toArray
 let h14:=nZ h13 13 (F.Wz.map fun x=>Value.int .u32 (x.toNat:Int)).toArray
 let h15:=nZ h14 2 (F.adq.map fun x=>Value.int .u32 (x.toNat:Int)).toArray
 let h16:=nZ h15 0 (F.VK.map fun x=>vS x).toArray
 { w0 with heap:=h16 }
theorem laidWorld_os (os:Os):(laidWorld os).os=os:=rfl
theorem laid_met (os:Os) (args:Array Value):laidMetH Tryz.prog Rows.jwsChecksRow.laid ((laidWorld os).forCall (fun _ _=>0) ⟨#[],args,[]⟩).memory:=by
 rw[Fh,MakeChecks.laidMetH_plain _ _ _ (by kernel_rfl)]
 exact (LaidIn.of_run (l := [("signet/sha.k256", tabData .u32 (F.WC.map fun x => (x.toNat : Int))), ("signet/sha.k512", tabData .u64 (F.V9.map fun x => (x.toNat : Int))), ("signet/sha.start256", tabData .u32 (F.UR.map fun x => (x.toNat : Int))), ("signet/sha.start384", tabData .u64 (F.UQ.map fun x => (x.toNat : Int))), ("signet/sha.start512", tabData .u64 (F.UU.map fun x => (x.toNat : Int))), ("signet/signetref4.k256", tabData .u32 (F.UT.map fun x => (x.toNat : Int))), ("signet/signetref4.k512", tabData .u64 (F.US.map fun x => (x.toNat : Int))), ("signet/signetref4.start256", tabData .u32 (F.Ut.map fun x => (x.toNat : Int))), ("signet/signetref4.start384", tabData .u64 (F.VX.map fun x => (x.toNat : Int))), ("signet/signetref4.start512", tabData .u64 (F.VM.map fun x => (x.toNat : Int))), ("signet/ed.primeLimbs", tabData .u32 (F.WL.map fun x => (x.toNat : Int))), ("signet/ed.orderLimbs", tabData .u32 (F.WN.map fun x => (x.toNat : Int))), ("signet/ed.curveLimbs", tabData .u32 (F.Wq.map fun x => (x.toNat : Int))), ("signet/ed.rootLimbs", tabData .u32 (F.Wz.map fun x => (x.toNat : Int))), ("signet/ed.baseLimbs", sG .u32 ([F.U0, F.UW].map fun r => r.map fun x => (x.toNat : Int))), ("signet/rsa1.infos", uG F.VK)]) [15, 16, 5, 6, 7, 11, 12, 10, 3, 4, 8, 1, 9, 13, 2, 0] 8 (by kernel_rfl) (by kernel_rfl) (by kernel_rfl) (by kernel_rfl)).met
#print axioms tabs
end Go.Proofs.YthnmbmmifamifaaGreatDoor
