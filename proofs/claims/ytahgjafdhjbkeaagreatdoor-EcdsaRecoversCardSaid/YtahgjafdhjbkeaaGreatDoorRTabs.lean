import Derived.Test.YtahgjafdhjbkeaaGreatDoorRWman
import Derived.Test.YtahgjafdhjbkeaaGreatDoorCards
import Derived.Test.YtahgjafdhjbkeaaGreatDoorTie
import Derived.Test.YtahgjafdhjbkeaaGreatDoorGkZ
import Derived.Lib.LaidIn
import Derived.Lib.LaidU8T
import Derived.Deep.DeepHandedRow
import Derived.Deep.DeepWitnessRowRef
import Derived.PinnedBridge
import Derived.MakeChecks
import Derived.Lay
import Derived.SevenTiedAt
import Derived.ProofKit
import Derived.SizedLaws
set_option linter.unusedVariables false
set_option linter.unusedSimpArgs false
set_option linter.unusedSectionVars false
namespace Go.Proofs.YtahgjafdhjbkeaaGreatDoor
open Go Go.Proofs Go.RowKit Go.Gk Go.Shelf Go.Lib
theorem wo:(Rows.laid_signet_sha_k256:DataW Unit)=tabData .u32 (F.EQ.map fun x=>(x.toNat:Int)):=by kernel_rfl
theorem wU:(Rows.laid_signet_sha_k512:DataW Unit)=tabData .u64 (F.Ex.map fun x=>(x.toNat:Int)):=by kernel_rfl
theorem q9:(Rows.laid_signet_sha_start256:DataW Unit)=tabData .u32 (F.DT.map fun x=>(x.toNat:Int)):=by kernel_rfl
theorem qx:(Rows.laid_signet_sha_start384:DataW Unit)=tabData .u64 (F.DS.map fun x=>(x.toNat:Int)):=by kernel_rfl
theorem qN:(Rows.laid_signet_sha_start512:DataW Unit)=tabData .u64 (F.DW.map fun x=>(x.toNat:Int)):=by kernel_rfl
theorem uQ:(Rows.laid_signet_signetref4_k256:DataW Unit)=tabData .u32 (F.DV.map fun x=>(x.toNat:Int)):=by kernel_rfl
theorem uD:(Rows.laid_signet_signetref4_k512:DataW Unit)=tabData .u64 (F.DU.map fun x=>(x.toNat:Int)):=by kernel_rfl
theorem pY:(Rows.laid_signet_signetref4_start256:DataW Unit)=tabData .u32 (F.DF.map fun x=>(x.toNat:Int)):=by kernel_rfl
theorem pm:(Rows.laid_signet_signetref4_start384:DataW Unit)=tabData .u64 (F.DX.map fun x=>(x.toNat:Int)):=by kernel_rfl
theorem pT:(Rows.laid_signet_signetref4_start512:DataW Unit)=tabData .u64 (F.DO.map fun x=>(x.toNat:Int)):=by kernel_rfl
theorem u7 : Rows.ecdsaVerifiesRow.laid = [("signet/sha.k256", tabData .u32 (F.EQ.map fun x => (x.toNat : Int))), ("signet/sha.k512", tabData .u64 (F.Ex.map fun x => (x.toNat : Int))), ("signet/sha.start256", tabData .u32 (F.DT.map fun x => (x.toNat : Int))), ("signet/sha.start384", tabData .u64 (F.DS.map fun x => (x.toNat : Int))), ("signet/sha.start512", tabData .u64 (F.DW.map fun x => (x.toNat : Int))), ("signet/signetref4.k256", tabData .u32 (F.DV.map fun x => (x.toNat : Int))), ("signet/signetref4.k512", tabData .u64 (F.DU.map fun x => (x.toNat : Int))), ("signet/signetref4.start256", tabData .u32 (F.DF.map fun x => (x.toNat : Int))), ("signet/signetref4.start384", tabData .u64 (F.DX.map fun x => (x.toNat : Int))), ("signet/signetref4.start512", tabData .u64 (F.DO.map fun x => (x.toNat : Int)))] := by
 rw[<-wo,<-wU,<-q9,<-qx,<-qN,<-uQ,<-uD,<-pY,<-pm,<-pT]; rfl
theorem tabs {W:World} (f:laidMetH Tryz.prog Rows.ecdsaVerifiesRow.laid W):TB [] W:=by
 rw[u7,MakeChecks.laidMetH_plain _ _ _ (by kernel_rfl)]at f
 exact⟨qY (by kernel_rfl) (Lib.laidMet.reads f (.tail _ (.tail _ (.tail _ (.tail _ (.tail _ (.tail _ (.tail _ (.tail _ (.head _)))))))))),
  qY (by kernel_rfl) (Lib.laidMet.reads f (.tail _ (.tail _ (.tail _ (.tail _ (.tail _ (.tail _ (.tail _ (.tail _ (.tail _ (.head _))))))))))),
  wg (by kernel_rfl) (Lib.laidMet.reads f (.tail _ (.tail _ (.head _)))),
  qY (by kernel_rfl) (Lib.laidMet.reads f (.tail _ (.tail _ (.tail _ (.head _))))),
  qY (by kernel_rfl) (Lib.laidMet.reads f (.tail _ (.tail _ (.tail _ (.tail _ (.head _)))))),
  wg (by kernel_rfl) (Lib.laidMet.reads f (.tail _ (.tail _ (.tail _ (.tail _ (.tail _ (.tail _ (.tail _ (.head _))))))))),
  wg (by kernel_rfl) (Lib.laidMet.reads f (.tail _ (.tail _ (.tail _ (.tail _ (.tail _ (.head _))))))),
  qY (by kernel_rfl) (Lib.laidMet.reads f (.tail _ (.tail _ (.tail _ (.tail _ (.tail _ (.tail _ (.head _)))))))),
  wg (by kernel_rfl) (Lib.laidMet.reads f (.head _)),
  qY (by kernel_rfl) (Lib.laidMet.reads f (.tail _ (.head _)))⟩
noncomputable def laidWorld (os:Os):World:=
 let w0:=World.holding Tryz.prog os ⟨#[],#[],[]⟩
 let h1:=kR w0.heap 9 (F.EQ.map fun x=>Value.int .u32 (x.toNat:Int)).toArray
 let h2:=kR h1 10 (F.Ex.map fun x=>Value.int .u64 (x.toNat:Int)).toArray
 let h3:=kR h2 2 (F.DT.map fun x=>Value.int .u32 (x.toNat:Int)).toArray
 let h4:=kR h3 3 (F.DS.map fun x=>Value.int .u64 (x.toNat:Int)).toArray
 let h5:=kR h4 4 (F.DW.map fun x=>Value.int .u64 (x.toNat:Int)).toArray
 let h6:=kR h5 6 (F.DV.map fun x=>Value.int .u32 (x.toNat:Int)).toArray
 let h7:=kR h6 7 (F.DU.map fun x=>Value.int .u64 (x.toNat:Int)).toArray
 let h8:=kR h7 5 (F.DF.map fun x=>Value.int .u32 (x.toNat:Int)).toArray
 let h9:=kR h8 0 (F.DX.map fun x=>Value.int .u64 (x.toNat:Int)).toArray
 let h10:=kR h9 1 (F.DO.map fun x=>Value.int .u64 (x.toNat:Int)).toArray
 { w0 with heap:=h10 }
theorem laidWorld_os (os:Os):(laidWorld os).os=os:=rfl
theorem laid_met (os:Os) (args:Array Value):laidMetH Tryz.prog Rows.ecdsaVerifiesRow.laid ((laidWorld os).forCall (fun _ _=>0) ⟨#[],args,[]⟩).memory:=by
 rw[u7,MakeChecks.laidMetH_plain _ _ _ (by kernel_rfl)]
 exact (LaidIn.of_run (l := [("signet/sha.k256", tabData .u32 (F.EQ.map fun x => (x.toNat : Int))), ("signet/sha.k512", tabData .u64 (F.Ex.map fun x => (x.toNat : Int))), ("signet/sha.start256", tabData .u32 (F.DT.map fun x => (x.toNat : Int))), ("signet/sha.start384", tabData .u64 (F.DS.map fun x => (x.toNat : Int))), ("signet/sha.start512", tabData .u64 (F.DW.map fun x => (x.toNat : Int))), ("signet/signetref4.k256", tabData .u32 (F.DV.map fun x => (x.toNat : Int))), ("signet/signetref4.k512", tabData .u64 (F.DU.map fun x => (x.toNat : Int))), ("signet/signetref4.start256", tabData .u32 (F.DF.map fun x => (x.toNat : Int))), ("signet/signetref4.start384", tabData .u64 (F.DX.map fun x => (x.toNat : Int))), ("signet/signetref4.start512", tabData .u64 (F.DO.map fun x => (x.toNat : Int)))]) [9, 10, 2, 3, 4, 6, 7, 5, 0, 1] 8 (by kernel_rfl) (by kernel_rfl) (by kernel_rfl) (by kernel_rfl)).met
#print axioms tabs
end Go.Proofs.YtahgjafdhjbkeaaGreatDoor
