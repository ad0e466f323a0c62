import Derived.Test.YtkickcbphbgldaaGreatDoorTWman
import Derived.Test.YtkickcbphbgldaaGreatDoorCards
import Derived.Test.YtkickcbphbgldaaGreatDoorTie
import Derived.Test.YtkickcbphbgldaaGreatDoorGkZ
import Derived.Lib.LaidIn
import Derived.Lib.LaidU8T
import Derived.Deep.DeepHandedRow
import Derived.Deep.DeepWitnessRowRef
import Derived.PinnedBridge
import Derived.MakeChecks
import Derived.Lay
import Derived.SevenTiedAt
import Derived.ProofKit
import Derived.SizedLaws
set_option linter.unusedVariables false
set_option linter.unusedSimpArgs false
set_option linter.unusedSectionVars false
namespace Go.Proofs.YtkickcbphbgldaaGreatDoor
open Go Go.Proofs Go.RowKit Go.Gk Go.Shelf Go.Lib
theorem tU:(Rows.laid_signet_sha_k256:DataW Unit)=tabData .u32 (F.Cm.map fun x=>(x.toNat:Int)):=by kernel_rfl
theorem tZ:(Rows.laid_signet_sha_k512:DataW Unit)=tabData .u64 (F.Cy.map fun x=>(x.toNat:Int)):=by kernel_rfl
theorem oY:(Rows.laid_signet_sha_start256:DataW Unit)=tabData .u32 (F.BY.map fun x=>(x.toNat:Int)):=by kernel_rfl
theorem oU:(Rows.laid_signet_sha_start384:DataW Unit)=tabData .u64 (F.BV.map fun x=>(x.toNat:Int)):=by kernel_rfl
theorem o6:(Rows.laid_signet_sha_start512:DataW Unit)=tabData .u64 (F.BX.map fun x=>(x.toNat:Int)):=by kernel_rfl
theorem sW : Rows.ecdsaSparesRow.laid = [("signet/sha.k256", tabData .u32 (F.Cm.map fun x => (x.toNat : Int))), ("signet/sha.k512", tabData .u64 (F.Cy.map fun x => (x.toNat : Int))), ("signet/sha.start256", tabData .u32 (F.BY.map fun x => (x.toNat : Int))), ("signet/sha.start384", tabData .u64 (F.BV.map fun x => (x.toNat : Int))), ("signet/sha.start512", tabData .u64 (F.BX.map fun x => (x.toNat : Int)))] := by
 rw [←tU,←tZ,←oY,←oU,←o6]; rfl
theorem tabs {W:World} (hL:laidMetH Tryz.prog Rows.ecdsaSparesRow.laid W):TB [] W:=by
 rw [sW,MakeChecks.laidMetH_plain _ _ _ (by kernel_rfl)]at hL
 exact ⟨Ax (by kernel_rfl) (Lib.laidMet.reads hL (.tail _ (.tail _ (.head _)))),
  x8 (by kernel_rfl) (Lib.laidMet.reads hL (.tail _ (.tail _ (.tail _ (.head _))))),
  x8 (by kernel_rfl) (Lib.laidMet.reads hL (.tail _ (.tail _ (.tail _ (.tail _ (.head _)))))),
  Ax (by kernel_rfl) (Lib.laidMet.reads hL (.head _)),
  x8 (by kernel_rfl) (Lib.laidMet.reads hL (.tail _ (.head _)))⟩
noncomputable def laidWorld (os:Os):World:=
 let w0:=World.holding Tryz.prog os ⟨#[],#[],[]⟩
 let h1:=rO w0.heap 9 (F.Cm.map fun x=>Value.int .u32 (x.toNat:Int)).toArray
 let h2:=rO h1 10 (F.Cy.map fun x=>Value.int .u64 (x.toNat:Int)).toArray
 let h3:=rO h2 2 (F.BY.map fun x=>Value.int .u32 (x.toNat:Int)).toArray
 let h4:=rO h3 3 (F.BV.map fun x=>Value.int .u64 (x.toNat:Int)).toArray
 let h5:=rO h4 4 (F.BX.map fun x=>Value.int .u64 (x.toNat:Int)).toArray
 { w0 with heap:=h5 }
theorem laidWorld_os (os:Os):(laidWorld os).os=os:=rfl
theorem laid_met (os:Os) (args:Array Value):laidMetH Tryz.prog Rows.ecdsaSparesRow.laid ((laidWorld os).forCall (fun _ _=>0) ⟨#[],args,[]⟩).memory:=by
 rw [sW,MakeChecks.laidMetH_plain _ _ _ (by kernel_rfl)]
 exact (LaidIn.of_run (l := [("signet/sha.k256", tabData .u32 (F.Cm.map fun x => (x.toNat : Int))), ("signet/sha.k512", tabData .u64 (F.Cy.map fun x => (x.toNat : Int))), ("signet/sha.start256", tabData .u32 (F.BY.map fun x => (x.toNat : Int))), ("signet/sha.start384", tabData .u64 (F.BV.map fun x => (x.toNat : Int))), ("signet/sha.start512", tabData .u64 (F.BX.map fun x => (x.toNat : Int)))]) [9, 10, 2, 3, 4] 8 (by kernel_rfl) (by kernel_rfl) (by kernel_rfl) (by kernel_rfl)).met
#print axioms tabs
end Go.Proofs.YtkickcbphbgldaaGreatDoor
