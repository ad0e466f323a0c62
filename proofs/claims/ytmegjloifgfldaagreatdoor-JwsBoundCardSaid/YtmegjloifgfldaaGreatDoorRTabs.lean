import Derived.Test.YtmegjloifgfldaaGreatDoorRWman
import Derived.Test.YtmegjloifgfldaaGreatDoorCards
import Derived.Test.YtmegjloifgfldaaGreatDoorTie
import Derived.Test.YtmegjloifgfldaaGreatDoorGkZ
import Derived.Lib.LaidIn
import Derived.Lib.LaidU8T
import Derived.Deep.DeepHandedRow
import Derived.Deep.DeepWitnessRowRef
import Derived.PinnedBridge
import Derived.MakeChecks
import Derived.Lay
import Derived.SevenTiedAt
import Derived.ProofKit
import Derived.SizedLaws
set_option linter.unusedVariables false
set_option linter.unusedSimpArgs false
set_option linter.unusedSectionVars false
namespace Go.Proofs.YtmegjloifgfldaaGreatDoor
open Go Go.Proofs Go.RowKit Go.Gk Go.Shelf Go.Lib
theorem yB:(Rows.laid_signet_sha_k256:DataW Unit)=tabData .u32 (F.H3.map fun x=>(x.toNat:Int)):=by kernel_rfl
theorem zo:(Rows.laid_signet_sha_k512:DataW Unit)=tabData .u64 (F.HK.map fun x=>(x.toNat:Int)):=by kernel_rfl
theorem sB:(Rows.laid_signet_sha_start256:DataW Unit)=tabData .u32 (F.G4.map fun x=>(x.toNat:Int)):=by kernel_rfl
theorem rU:(Rows.laid_signet_sha_start384:DataW Unit)=tabData .u64 (F.G3.map fun x=>(x.toNat:Int)):=by kernel_rfl
theorem sf:(Rows.laid_signet_sha_start512:DataW Unit)=tabData .u64 (F.G5.map fun x=>(x.toNat:Int)):=by kernel_rfl
theorem qM:(Rows.laid_signet_ed_primeLimbs:DataW Unit)=tabData .u32 (F.Hc.map fun x=>(x.toNat:Int)):=by kernel_rfl
theorem rn:(Rows.laid_signet_ed_orderLimbs:DataW Unit)=tabData .u32 (F.Hd.map fun x=>(x.toNat:Int)):=by kernel_rfl
theorem rg:(Rows.laid_signet_ed_curveLimbs:DataW Unit)=tabData .u32 (F.G7.map fun x=>(x.toNat:Int)):=by kernel_rfl
theorem rI:(Rows.laid_signet_ed_rootLimbs:DataW Unit)=tabData .u32 (F.Ha.map fun x=>(x.toNat:Int)):=by kernel_rfl
theorem rH:(Rows.laid_signet_ed_baseLimbs:DataW Unit)=mU .u32 ([F.G9,F.G6].map fun r=>r.map fun x=>(x.toNat:Int)):=by kernel_rfl
theorem vt:(Rows.laid_signet_rsa1_infos:DataW Unit)=oM F.Hw:=by kernel_rfl
theorem xp : Rows.jwsBoundRow.laid = [("signet/sha.k256", tabData .u32 (F.H3.map fun x => (x.toNat : Int))), ("signet/sha.k512", tabData .u64 (F.HK.map fun x => (x.toNat : Int))), ("signet/sha.start256", tabData .u32 (F.G4.map fun x => (x.toNat : Int))), ("signet/sha.start384", tabData .u64 (F.G3.map fun x => (x.toNat : Int))), ("signet/sha.start512", tabData .u64 (F.G5.map fun x => (x.toNat : Int))), ("signet/ed.primeLimbs", tabData .u32 (F.Hc.map fun x => (x.toNat : Int))), ("signet/ed.orderLimbs", tabData .u32 (F.Hd.map fun x => (x.toNat : Int))), ("signet/ed.curveLimbs", tabData .u32 (F.G7.map fun x => (x.toNat : Int))), ("signet/ed.rootLimbs", tabData .u32 (F.Ha.map fun x => (x.toNat : Int))), ("signet/ed.baseLimbs", mU .u32 ([F.G9, F.G6].map fun r => r.map fun x => (x.toNat : Int))), ("signet/rsa1.infos", oM F.Hw)] := by
 rw[<-yB,<-zo,<-sB,<-rU,<-sf,<-qM,<-rn,<-rg,<-rI,<-rH,<-vt]; rfl
theorem tabs {W:World} (f:laidMetH Tryz.prog Rows.jwsBoundRow.laid W):TB [] W:=by
 rw[xp,MakeChecks.laidMetH_plain _ _ _ (by kernel_rfl)]at f
 exact⟨gaS (by kernel_rfl) (Lib.laidMet.reads f (.tail _ (.tail _ (.tail _ (.tail _ (.tail _ (.tail _ (.tail _ (.tail _ (.tail _ (.tail _ (.head _)))))))))))),
  rS (by kernel_rfl) (Lib.laidMet.reads f (.tail _ (.tail _ (.tail _ (.tail _ (.tail _ (.tail _ (.head _)))))))),
  FW (j:=8) (rs:=[F.G9,F.G6]) rfl (by kernel_rfl) (Lib.laidMet.reads f (.tail _ (.tail _ (.tail _ (.tail _ (.tail _ (.tail _ (.tail _ (.tail _ (.tail _ (.head _))))))))))),
  rS (by kernel_rfl) (Lib.laidMet.reads f (.tail _ (.tail _ (.head _)))),
  CU (by kernel_rfl) (Lib.laidMet.reads f (.tail _ (.tail _ (.tail _ (.head _))))),
  CU (by kernel_rfl) (Lib.laidMet.reads f (.tail _ (.tail _ (.tail _ (.tail _ (.head _)))))),
  rS (by kernel_rfl) (Lib.laidMet.reads f (.tail _ (.tail _ (.tail _ (.tail _ (.tail _ (.head _))))))),
  rS (by kernel_rfl) (Lib.laidMet.reads f (.tail _ (.tail _ (.tail _ (.tail _ (.tail _ (.tail _ (.tail _ (.head _))))))))),
  rS (by kernel_rfl) (Lib.laidMet.reads f (.tail _ (.tail _ (.tail _ (.tail _ (.tail _ (.tail _ (.tail _ (.tail _ (.head _)))))))))),
  rS (by kernel_rfl) (Lib.laidMet.reads f (.head _)),
  CU (by kernel_rfl) (Lib.laidMet.reads f (.tail _ (.head _)))⟩
noncomputable def laidWorld (os:Os):World:=
 let w0:=World.holding Tryz.prog os ⟨#[],#[],[]⟩
 let h1:=kz w0.heap 11 (F.H3.map fun x=>Value.int .u32 (x.toNat:Int)).toArray
 let h2:=kz h1 12 (F.HK.map fun x=>Value.int .u64 (x.toNat:Int)).toArray
 let h3:=kz h2 3 (F.G4.map fun x=>Value.int .u32 (x.toNat:Int)).toArray
 let h4:=kz h3 4 (F.G3.map fun x=>Value.int .u64 (x.toNat:Int)).toArray
 let h5:=kz h4 5 (F.G5.map fun x=>Value.int .u64 (x.toNat:Int)).toArray
 let h6:=kz h5 6 (F.Hc.map fun x=>Value.int .u32 (x.toNat:Int)).toArray
 let h7:=kz h6 1 (F.Hd.map fun x=>Value.int .u32 (x.toNat:Int)).toArray
 let h8:=kz h7 7 (F.G7.map fun x=>Value.int .u32 (x.toNat:Int)).toArray
 let h9:=kz h8 9 (F.Ha.map fun x=>Value.int .u32 (x.toNat:Int)).toArray
 let h10:=kz h9 2 (F.Mv.map fun x=>Value.int .u32 (x.toNat:Int)).toArray
 let h11:=kz h10 0 (F.Hw.map fun x=>vS x).toArray
 { w0 with heap:=h11 }
theorem laidWorld_os (os:Os):(laidWorld os).os=os:=rfl
theorem laid_met (os:Os) (args:Array Value):laidMetH Tryz.prog Rows.jwsBoundRow.laid ((laidWorld os).forCall (fun _ _=>0) ⟨#[],args,[]⟩).memory:=by
 rw[xp,MakeChecks.laidMetH_plain _ _ _ (by kernel_rfl)]
 exact (LaidIn.of_run (l := [("signet/sha.k256", tabData .u32 (F.H3.map fun x => (x.toNat : Int))), ("signet/sha.k512", tabData .u64 (F.HK.map fun x => (x.toNat : Int))), ("signet/sha.start256", tabData .u32 (F.G4.map fun x => (x.toNat : Int))), ("signet/sha.start384", tabData .u64 (F.G3.map fun x => (x.toNat : Int))), ("signet/sha.start512", tabData .u64 (F.G5.map fun x => (x.toNat : Int))), ("signet/ed.primeLimbs", tabData .u32 (F.Hc.map fun x => (x.toNat : Int))), ("signet/ed.orderLimbs", tabData .u32 (F.Hd.map fun x => (x.toNat : Int))), ("signet/ed.curveLimbs", tabData .u32 (F.G7.map fun x => (x.toNat : Int))), ("signet/ed.rootLimbs", tabData .u32 (F.Ha.map fun x => (x.toNat : Int))), ("signet/ed.baseLimbs", mU .u32 ([F.G9, F.G6].map fun r => r.map fun x => (x.toNat : Int))), ("signet/rsa1.infos", oM F.Hw)]) [11, 12, 3, 4, 5, 6, 1, 7, 9, 2, 0] 8 (by kernel_rfl) (by kernel_rfl) (by kernel_rfl) (by kernel_rfl)).met
#print axioms tabs
end Go.Proofs.YtmegjloifgfldaaGreatDoor
