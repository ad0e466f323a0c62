import Derived.Test.YtahgjafdhjbkeaaGreatDoorRWman
import Derived.Test.YtahgjafdhjbkeaaGreatDoorCards
import Derived.Test.YtahgjafdhjbkeaaGreatDoorTie
import Derived.Test.YtahgjafdhjbkeaaGreatDoorGkZ
import Derived.Lib.LaidIn
import Derived.Lib.LaidU8T
import Derived.Deep.DeepHandedRow
import Derived.Deep.DeepWitnessRowRef
import Derived.PinnedBridge
import Derived.MakeChecks
import Derived.Lay
import Derived.SevenTiedAt
import Derived.ProofKit
import Derived.SizedLaws
set_option linter.unusedVariables false
set_option linter.unusedSimpArgs false
set_option linter.unusedSectionVars false
namespace Go.Proofs.YtahgjafdhjbkeaaGreatDoor
open Go Go.Proofs Go.RowKit Go.Gk Go.Shelf Go.Lib
theorem vL:(Rows.laid_signet_sha_k256:DataW Unit)=tabData .u32 (F.Ej.map fun x=>(x.toNat:Int)):=by kernel_rfl
theorem ww:(Rows.laid_signet_sha_k512:DataW Unit)=tabData .u64 (F.D0.map fun x=>(x.toNat:Int)):=by kernel_rfl
theorem qB:(Rows.laid_signet_sha_start256:DataW Unit)=tabData .u32 (F.Dq.map fun x=>(x.toNat:Int)):=by kernel_rfl
theorem p8:(Rows.laid_signet_sha_start384:DataW Unit)=tabData .u64 (F.Dp.map fun x=>(x.toNat:Int)):=by kernel_rfl
theorem qm:(Rows.laid_signet_sha_start512:DataW Unit)=tabData .u64 (F.Dt.map fun x=>(x.toNat:Int)):=by kernel_rfl
theorem uo:(Rows.laid_signet_signetref4_k256:DataW Unit)=tabData .u32 (F.Ds.map fun x=>(x.toNat:Int)):=by kernel_rfl
theorem ub:(Rows.laid_signet_signetref4_k512:DataW Unit)=tabData .u64 (F.Dr.map fun x=>(x.toNat:Int)):=by kernel_rfl
theorem pz:(Rows.laid_signet_signetref4_start256:DataW Unit)=tabData .u32 (F.Db.map fun x=>(x.toNat:Int)):=by kernel_rfl
theorem o2:(Rows.laid_signet_signetref4_start384:DataW Unit)=tabData .u64 (F.Du.map fun x=>(x.toNat:Int)):=by kernel_rfl
theorem pv:(Rows.laid_signet_signetref4_start512:DataW Unit)=tabData .u64 (F.Dl.map fun x=>(x.toNat:Int)):=by kernel_rfl
theorem uC : Rows.ecdsaVerifiesRow.laid = [("signet/sha.k256", tabData .u32 (F.Ej.map fun x => (x.toNat : Int))), ("signet/sha.k512", tabData .u64 (F.D0.map fun x => (x.toNat : Int))), ("signet/sha.start256", tabData .u32 (F.Dq.map fun x => (x.toNat : Int))), ("signet/sha.start384", tabData .u64 (F.Dp.map fun x => (x.toNat : Int))), ("signet/sha.start512", tabData .u64 (F.Dt.map fun x => (x.toNat : Int))), ("signet/signetref4.k256", tabData .u32 (F.Ds.map fun x => (x.toNat : Int))), ("signet/signetref4.k512", tabData .u64 (F.Dr.map fun x => (x.toNat : Int))), ("signet/signetref4.start256", tabData .u32 (F.Db.map fun x => (x.toNat : Int))), ("signet/signetref4.start384", tabData .u64 (F.Du.map fun x => (x.toNat : Int))), ("signet/signetref4.start512", tabData .u64 (F.Dl.map fun x => (x.toNat : Int)))] := by
 rw [←vL,←ww,←qB,←p8,←qm,←uo,←ub,←pz,←o2,←pv]; rfl
theorem tabs {W:World} (f:laidMetH Tryz.prog Rows.ecdsaVerifiesRow.laid W):TB [] W:=by
 rw [uC,MakeChecks.laidMetH_plain _ _ _ (by kernel_rfl)]at f
 exact ⟨qx (by kernel_rfl) (Lib.laidMet.reads f (.tail _ (.tail _ (.tail _ (.tail _ (.tail _ (.tail _ (.tail _ (.tail _ (.head _)))))))))),
  qx (by kernel_rfl) (Lib.laidMet.reads f (.tail _ (.tail _ (.tail _ (.tail _ (.tail _ (.tail _ (.tail _ (.tail _ (.tail _ (.head _))))))))))),
  vE (by kernel_rfl) (Lib.laidMet.reads f (.tail _ (.tail _ (.head _)))),
  qx (by kernel_rfl) (Lib.laidMet.reads f (.tail _ (.tail _ (.tail _ (.head _))))),
  qx (by kernel_rfl) (Lib.laidMet.reads f (.tail _ (.tail _ (.tail _ (.tail _ (.head _)))))),
  vE (by kernel_rfl) (Lib.laidMet.reads f (.tail _ (.tail _ (.tail _ (.tail _ (.tail _ (.tail _ (.tail _ (.head _))))))))),
  vE (by kernel_rfl) (Lib.laidMet.reads f (.tail _ (.tail _ (.tail _ (.tail _ (.tail _ (.head _))))))),
  qx (by kernel_rfl) (Lib.laidMet.reads f (.tail _ (.tail _ (.tail _ (.tail _ (.tail _ (.tail _ (.head _)))))))),
  vE (by kernel_rfl) (Lib.laidMet.reads f (.head _)),
  qx (by kernel_rfl) (Lib.laidMet.reads f (.tail _ (.head _)))⟩
noncomputable def laidWorld (os:Os):World:=
 let w0:=World.holding Tryz.prog os ⟨#[],#[],[]⟩
 let h1:=kG w0.heap 9 (F.Ej.map fun x=>Value.int .u32 (x.toNat:Int)).toArray
 let h2:=kG h1 10 (F.D0.map fun x=>Value.int .u64 (x.toNat:Int)).toArray
 let h3:=kG h2 2 (F.Dq.map fun x=>Value.int .u32 (x.toNat:Int)).toArray
 let h4:=kG h3 3 (F.Dp.map fun x=>Value.int .u64 (x.toNat:Int)).toArray
 let h5:=kG h4 4 (F.Dt.map fun x=>Value.int .u64 (x.toNat:Int)).toArray
 let h6:=kG h5 6 (F.Ds.map fun x=>Value.int .u32 (x.toNat:Int)).toArray
 let h7:=kG h6 7 (F.Dr.map fun x=>Value.int .u64 (x.toNat:Int)).toArray
 let h8:=kG h7 5 (F.Db.map fun x=>Value.int .u32 (x.toNat:Int)).toArray
 let h9:=kG h8 0 (F.Du.map fun x=>Value.int .u64 (x.toNat:Int)).toArray
 let h10:=kG h9 1 (F.Dl.map fun x=>Value.int .u64 (x.toNat:Int)).toArray
 { w0 with heap:=h10 }
theorem laidWorld_os (os:Os):(laidWorld os).os=os:=rfl
theorem laid_met (os:Os) (args:Array Value):laidMetH Tryz.prog Rows.ecdsaVerifiesRow.laid ((laidWorld os).forCall (fun _ _=>0) ⟨#[],args,[]⟩).memory:=by
 rw [uC,MakeChecks.laidMetH_plain _ _ _ (by kernel_rfl)]
 exact (LaidIn.of_run (l := [("signet/sha.k256", tabData .u32 (F.Ej.map fun x => (x.toNat : Int))), ("signet/sha.k512", tabData .u64 (F.D0.map fun x => (x.toNat : Int))), ("signet/sha.start256", tabData .u32 (F.Dq.map fun x => (x.toNat : Int))), ("signet/sha.start384", tabData .u64 (F.Dp.map fun x => (x.toNat : Int))), ("signet/sha.start512", tabData .u64 (F.Dt.map fun x => (x.toNat : Int))), ("signet/signetref4.k256", tabData .u32 (F.Ds.map fun x => (x.toNat : Int))), ("signet/signetref4.k512", tabData .u64 (F.Dr.map fun x => (x.toNat : Int))), ("signet/signetref4.start256", tabData .u32 (F.Db.map fun x => (x.toNat : Int))), ("signet/signetref4.start384", tabData .u64 (F.Du.map fun x => (x.toNat : Int))), ("signet/signetref4.start512", tabData .u64 (F.Dl.map fun x => (x.toNat : Int)))]) [9, 10, 2, 3, 4, 6, 7, 5, 0, 1] 8 (by kernel_rfl) (by kernel_rfl) (by kernel_rfl) (by kernel_rfl)).met
#print axioms tabs
end Go.Proofs.YtahgjafdhjbkeaaGreatDoor
