import Derived.Test.YtmegjloifgfldaaGreatDoorRWman
import Derived.Test.YtmegjloifgfldaaGreatDoorCards
import Derived.Test.YtmegjloifgfldaaGreatDoorTie
import Derived.Test.YtmegjloifgfldaaGreatDoorGkZ
import Derived.Lib.LaidIn
import Derived.Lib.LaidU8T
import Derived.Deep.DeepHandedRow
import Derived.Deep.DeepWitnessRowRef
import Derived.PinnedBridge
import Derived.MakeChecks
import Derived.Lay
import Derived.SevenTiedAt
import Derived.ProofKit
import Derived.SizedLaws
set_option linter.unusedVariables false
set_option linter.unusedSimpArgs false
set_option linter.unusedSectionVars false
namespace Go.Proofs.YtmegjloifgfldaaGreatDoor
open Go Go.Proofs Go.RowKit Go.Gk Go.Shelf Go.Lib
theorem yt:(Rows.laid_signet_sha_k256:DataW Unit)=tabData .u32 (F.HX.map fun x=>(x.toNat:Int)):=by kernel_rfl
theorem zk:(Rows.laid_signet_sha_k512:DataW Unit)=tabData .u64 (F.HG.map fun x=>(x.toNat:Int)):=by kernel_rfl
theorem sq:(Rows.laid_signet_sha_start256:DataW Unit)=tabData .u32 (F.GZ.map fun x=>(x.toNat:Int)):=by kernel_rfl
theorem rO:(Rows.laid_signet_sha_start384:DataW Unit)=tabData .u64 (F.GY.map fun x=>(x.toNat:Int)):=by kernel_rfl
theorem r8:(Rows.laid_signet_sha_start512:DataW Unit)=tabData .u64 (F.G0.map fun x=>(x.toNat:Int)):=by kernel_rfl
theorem qH:(Rows.laid_signet_ed_primeLimbs:DataW Unit)=tabData .u32 (F.G8.map fun x=>(x.toNat:Int)):=by kernel_rfl
theorem rh:(Rows.laid_signet_ed_orderLimbs:DataW Unit)=tabData .u32 (F.G9.map fun x=>(x.toNat:Int)):=by kernel_rfl
theorem q8:(Rows.laid_signet_ed_curveLimbs:DataW Unit)=tabData .u32 (F.G3.map fun x=>(x.toNat:Int)):=by kernel_rfl
theorem rB:(Rows.laid_signet_ed_rootLimbs:DataW Unit)=tabData .u32 (F.G6.map fun x=>(x.toNat:Int)):=by kernel_rfl
theorem rA:(Rows.laid_signet_ed_baseLimbs:DataW Unit)=mP .u32 ([F.G5,F.G1].map fun r=>r.map fun x=>(x.toNat:Int)):=by kernel_rfl
theorem vk:(Rows.laid_signet_rsa1_infos:DataW Unit)=oI F.Hr:=by kernel_rfl
theorem xi : Rows.jwsBoundRow.laid = [("signet/sha.k256", tabData .u32 (F.HX.map fun x => (x.toNat : Int))), ("signet/sha.k512", tabData .u64 (F.HG.map fun x => (x.toNat : Int))), ("signet/sha.start256", tabData .u32 (F.GZ.map fun x => (x.toNat : Int))), ("signet/sha.start384", tabData .u64 (F.GY.map fun x => (x.toNat : Int))), ("signet/sha.start512", tabData .u64 (F.G0.map fun x => (x.toNat : Int))), ("signet/ed.primeLimbs", tabData .u32 (F.G8.map fun x => (x.toNat : Int))), ("signet/ed.orderLimbs", tabData .u32 (F.G9.map fun x => (x.toNat : Int))), ("signet/ed.curveLimbs", tabData .u32 (F.G3.map fun x => (x.toNat : Int))), ("signet/ed.rootLimbs", tabData .u32 (F.G6.map fun x => (x.toNat : Int))), ("signet/ed.baseLimbs", mP .u32 ([F.G5, F.G1].map fun r => r.map fun x => (x.toNat : Int))), ("signet/rsa1.infos", oI F.Hr)] := by
 rw[<-yt,<-zk,<-sq,<-rO,<-r8,<-qH,<-rh,<-q8,<-rB,<-rA,<-vk]; rfl
theorem tabs {W:World} (f:laidMetH Tryz.prog Rows.jwsBoundRow.laid W):TB [] W:=by
 rw[xi,MakeChecks.laidMetH_plain _ _ _ (by kernel_rfl)]at f
 exact⟨gaS (by kernel_rfl) (Lib.laidMet.reads f (.tail _ (.tail _ (.tail _ (.tail _ (.tail _ (.tail _ (.tail _ (.tail _ (.tail _ (.tail _ (.head _)))))))))))),
  rM (by kernel_rfl) (Lib.laidMet.reads f (.tail _ (.tail _ (.tail _ (.tail _ (.tail _ (.tail _ (.head _)))))))),
  FP (j:=8) (rs:=[F.G5,F.G1]) rfl (by kernel_rfl) (Lib.laidMet.reads f (.tail _ (.tail _ (.tail _ (.tail _ (.tail _ (.tail _ (.tail _ (.tail _ (.tail _ (.head _))))))))))),
  rM (by kernel_rfl) (Lib.laidMet.reads f (.tail _ (.tail _ (.head _)))),
  CM (by kernel_rfl) (Lib.laidMet.reads f (.tail _ (.tail _ (.tail _ (.head _))))),
  CM (by kernel_rfl) (Lib.laidMet.reads f (.tail _ (.tail _ (.tail _ (.tail _ (.head _)))))),
  rM (by kernel_rfl) (Lib.laidMet.reads f (.tail _ (.tail _ (.tail _ (.tail _ (.tail _ (.head _))))))),
  rM (by kernel_rfl) (Lib.laidMet.reads f (.tail _ (.tail _ (.tail _ (.tail _ (.tail _ (.tail _ (.tail _ (.head _))))))))),
  rM (by kernel_rfl) (Lib.laidMet.reads f (.tail _ (.tail _ (.tail _ (.tail _ (.tail _ (.tail _ (.tail _ (.tail _ (.head _)))))))))),
  rM (by kernel_rfl) (Lib.laidMet.reads f (.head _)),
  CM (by kernel_rfl) (Lib.laidMet.reads f (.tail _ (.head _)))⟩
noncomputable def laidWorld (os:Os):World:=
 let w0:=World.holding Tryz.prog os ⟨#[],#[],[]⟩
 let h1:=kv w0.heap 11 (F.HX.map fun x=>Value.int .u32 (x.toNat:Int)).toArray
 let h2:=kv h1 12 (F.HG.map fun x=>Value.int .u64 (x.toNat:Int)).toArray
 let h3:=kv h2 3 (F.GZ.map fun x=>Value.int .u32 (x.toNat:Int)).toArray
 let h4:=kv h3 4 (F.GY.map fun x=>Value.int .u64 (x.toNat:Int)).toArray
 let h5:=kv h4 5 (F.G0.map fun x=>Value.int .u64 (x.toNat:Int)).toArray
 let h6:=kv h5 6 (F.G8.map fun x=>Value.int .u32 (x.toNat:Int)).toArray
 let h7:=kv h6 1 (F.G9.map fun x=>Value.int .u32 (x.toNat:Int)).toArray
 let h8:=kv h7 7 (F.G3.map fun x=>Value.int .u32 (x.toNat:Int)).toArray
 let h9:=kv h8 9 (F.G6.map fun x=>Value.int .u32 (x.toNat:Int)).toArray
 let h10:=kv h9 2 (F.Mm.map fun x=>Value.int .u32 (x.toNat:Int)).toArray
 let h11:=kv h10 0 (F.Hr.map fun x=>vS x).toArray
 { w0 with heap:=h11 }
theorem laidWorld_os (os:Os):(laidWorld os).os=os:=rfl
theorem laid_met (os:Os) (args:Array Value):laidMetH Tryz.prog Rows.jwsBoundRow.laid ((laidWorld os).forCall (fun _ _=>0) ⟨#[],args,[]⟩).memory:=by
 rw[xi,MakeChecks.laidMetH_plain _ _ _ (by kernel_rfl)]
 exact (LaidIn.of_run (l := [("signet/sha.k256", tabData .u32 (F.HX.map fun x => (x.toNat : Int))), ("signet/sha.k512", tabData .u64 (F.HG.map fun x => (x.toNat : Int))), ("signet/sha.start256", tabData .u32 (F.GZ.map fun x => (x.toNat : Int))), ("signet/sha.start384", tabData .u64 (F.GY.map fun x => (x.toNat : Int))), ("signet/sha.start512", tabData .u64 (F.G0.map fun x => (x.toNat : Int))), ("signet/ed.primeLimbs", tabData .u32 (F.G8.map fun x => (x.toNat : Int))), ("signet/ed.orderLimbs", tabData .u32 (F.G9.map fun x => (x.toNat : Int))), ("signet/ed.curveLimbs", tabData .u32 (F.G3.map fun x => (x.toNat : Int))), ("signet/ed.rootLimbs", tabData .u32 (F.G6.map fun x => (x.toNat : Int))), ("signet/ed.baseLimbs", mP .u32 ([F.G5, F.G1].map fun r => r.map fun x => (x.toNat : Int))), ("signet/rsa1.infos", oI F.Hr)]) [11, 12, 3, 4, 5, 6, 1, 7, 9, 2, 0] 8 (by kernel_rfl) (by kernel_rfl) (by kernel_rfl) (by kernel_rfl)).met
#print axioms tabs
end Go.Proofs.YtmegjloifgfldaaGreatDoor
