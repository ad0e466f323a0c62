import Derived.Test.YtkbacjmklhgpcaaGreatDoorSWman
import Derived.Test.YtkbacjmklhgpcaaGreatDoorCards
import Derived.Test.YtkbacjmklhgpcaaGreatDoorTie
import Derived.Test.YtkbacjmklhgpcaaGreatDoorQGkR
import Derived.Lib.LaidIn
import Derived.Lib.LaidU8T
import Derived.Deep.DeepHandedRow
import Derived.Deep.DeepWitnessRowRef
import Derived.PinnedBridge
import Derived.MakeChecks
import Derived.Lay
import Derived.SevenTiedAt
import Derived.ProofKit
import Derived.SizedLaws
set_option linter.unusedVariables false
set_option linter.unusedSimpArgs false
set_option linter.unusedSectionVars false
namespace Go.Proofs.YtkbacjmklhgpcaaGreatDoor
open Go Go.Proofs Go.RowKit Go.Gk Go.Shelf Go.Lib
theorem E8:(Rows.laid_signet_sha_k256:DataW Unit)=tabData .u32 (F.VF.map fun x=>(x.toNat:Int)):=by kernel_rfl
theorem F4:(Rows.laid_signet_sha_k512:DataW Unit)=tabData .u64 (F.Vg.map fun x=>(x.toNat:Int)):=by kernel_rfl
theorem xE:(Rows.laid_signet_sha_start256:DataW Unit)=tabData .u32 (F.TT.map fun x=>(x.toNat:Int)):=by kernel_rfl
theorem wM:(Rows.laid_signet_sha_start384:DataW Unit)=tabData .u64 (F.TS.map fun x=>(x.toNat:Int)):=by kernel_rfl
theorem xb:(Rows.laid_signet_sha_start512:DataW Unit)=tabData .u64 (F.TU.map fun x=>(x.toNat:Int)):=by kernel_rfl
theorem vi:(Rows.laid_signet_ed_primeLimbs:DataW Unit)=tabData .u32 (F.VK.map fun x=>(x.toNat:Int)):=by kernel_rfl
theorem vV:(Rows.laid_signet_ed_orderLimbs:DataW Unit)=tabData .u32 (F.VM.map fun x=>(x.toNat:Int)):=by kernel_rfl
theorem vO:(Rows.laid_signet_ed_curveLimbs:DataW Unit)=tabData .u32 (F.Vt.map fun x=>(x.toNat:Int)):=by kernel_rfl
theorem wn:(Rows.laid_signet_ed_rootLimbs:DataW Unit)=tabData .u32 (F.VA.map fun x=>(x.toNat:Int)):=by kernel_rfl
theorem wl:(Rows.laid_signet_ed_baseLimbs:DataW Unit)=q8 .u32 ([F.TZ,F.TW].map fun r=>r.map fun x=>(x.toNat:Int)):=by kernel_rfl
theorem BF:(Rows.laid_signet_rsa1_infos:DataW Unit)=nB F.US:=by kernel_rfl
theorem xm:(Rows.laid_signet_keyset_names:DataW Unit)=nB F.Vi:=by kernel_rfl
theorem OF:(Rows.laid_unicode_utf8_acceptRanges:DataW Unit)=Lib.acceptData:=by kernel_rfl
theorem ny : Rows.coseJustRow.laid = [("unicode/utf8.acceptRanges", Lib.acceptData), ("signet/sha.k256", tabData .u32 (F.VF.map fun x => (x.toNat : Int))), ("signet/sha.k512", tabData .u64 (F.Vg.map fun x => (x.toNat : Int))), ("signet/sha.start256", tabData .u32 (F.TT.map fun x => (x.toNat : Int))), ("signet/sha.start384", tabData .u64 (F.TS.map fun x => (x.toNat : Int))), ("signet/sha.start512", tabData .u64 (F.TU.map fun x => (x.toNat : Int))), ("signet/ed.primeLimbs", tabData .u32 (F.VK.map fun x => (x.toNat : Int))), ("signet/ed.orderLimbs", tabData .u32 (F.VM.map fun x => (x.toNat : Int))), ("signet/ed.curveLimbs", tabData .u32 (F.Vt.map fun x => (x.toNat : Int))), ("signet/ed.rootLimbs", tabData .u32 (F.VA.map fun x => (x.toNat : Int))), ("signet/ed.baseLimbs", q8 .u32 ([F.TZ, F.TW].map fun r => r.map fun x => (x.toNat : Int))), ("signet/rsa1.infos", nB F.US), ("signet/keyset.names", nB F.Vi), ("unicode/utf8.first", Lib.firstData)] := by
 rw[<-E8,<-F4,<-xE,<-wM,<-xb,<-vi,<-vV,<-vO,<-wn,<-wl,<-BF,<-xm,<-OF,<-Pinned.utf8First_eq]; rfl
theorem tabs {W:World} (hL:laidMetH Tryz.prog Rows.coseJustRow.laid W):TB [] W:=by
 rw[ny,MakeChecks.laidMetH_plain _ _ _ (by kernel_rfl)]at hL
 exact⟨⟨utf8Tabs_of_readsT (U8Types.of196 Tryz.laysValid) ⟨by kernel_rfl,by kernel_rfl,by kernel_rfl,by kernel_rfl,by kernel_rfl,by kernel_rfl,by kernel_rfl⟩ (Lib.laidMet.reads hL (.tail _ (.tail _ (.tail _ (.tail _ (.tail _ (.tail _ (.tail _ (.tail _ (.tail _ (.tail _ (.tail _ (.tail _ (.tail _ (.head _))))))))))))))) (Lib.laidMet.reads hL (.head _)),by simp,by simp⟩,
  gaS (by kernel_rfl) (Lib.laidMet.reads hL (.tail _ (.tail _ (.tail _ (.tail _ (.tail _ (.tail _ (.tail _ (.tail _ (.tail _ (.tail _ (.tail _ (.tail _ (.head _)))))))))))))),
  gaS (by kernel_rfl) (Lib.laidMet.reads hL (.tail _ (.tail _ (.tail _ (.tail _ (.tail _ (.tail _ (.tail _ (.tail _ (.tail _ (.tail _ (.tail _ (.head _))))))))))))),
  wJ (by kernel_rfl) (Lib.laidMet.reads hL (.tail _ (.tail _ (.tail _ (.tail _ (.tail _ (.tail _ (.tail _ (.head _))))))))),
  Qz (j:=8) (rs:=[F.TZ,F.TW]) rfl (by kernel_rfl) (Lib.laidMet.reads hL (.tail _ (.tail _ (.tail _ (.tail _ (.tail _ (.tail _ (.tail _ (.tail _ (.tail _ (.tail _ (.head _)))))))))))),
  wJ (by kernel_rfl) (Lib.laidMet.reads hL (.tail _ (.tail _ (.tail _ (.head _))))),
  K1 (by kernel_rfl) (Lib.laidMet.reads hL (.tail _ (.tail _ (.tail _ (.tail _ (.head _)))))),
  K1 (by kernel_rfl) (Lib.laidMet.reads hL (.tail _ (.tail _ (.tail _ (.tail _ (.tail _ (.head _))))))),
  wJ (by kernel_rfl) (Lib.laidMet.reads hL (.tail _ (.tail _ (.tail _ (.tail _ (.tail _ (.tail _ (.head _)))))))),
  wJ (by kernel_rfl) (Lib.laidMet.reads hL (.tail _ (.tail _ (.tail _ (.tail _ (.tail _ (.tail _ (.tail _ (.tail _ (.head _)))))))))),
  wJ (by kernel_rfl) (Lib.laidMet.reads hL (.tail _ (.tail _ (.tail _ (.tail _ (.tail _ (.tail _ (.tail _ (.tail _ (.tail _ (.head _))))))))))),
  wJ (by kernel_rfl) (Lib.laidMet.reads hL (.tail _ (.head _))),
  K1 (by kernel_rfl) (Lib.laidMet.reads hL (.tail _ (.tail _ (.head _))))⟩
noncomputable def laidWorld (os:Os):World:=
 let w0:=World.holding Tryz.prog os ⟨#[],#[],[]⟩
 let h1:=mZ w0.heap 2 ((List.range 16).flatMap fun i=>[Value.int .u8 (Lib.accLo i),Value.int .u8 (Lib.accHi i)]).toArray
 let h2:=mZ h1 13 (F.VF.map fun x=>Value.int .u32 (x.toNat:Int)).toArray
 let h3:=mZ h2 14 (F.Vg.map fun x=>Value.int .u64 (x.toNat:Int)).toArray
 let h4:=mZ h3 6 (F.TT.map fun x=>Value.int .u32 (x.toNat:Int)).toArray
 let h5:=mZ h4 7 (F.TS.map fun x=>Value.int .u64 (x.toNat:Int)).toArray
 let h6:=mZ h5 8 (F.TU.map fun x=>Value.int .u64 (x.toNat:Int)).toArray
 let h7:=mZ h6 9 (F.VK.map fun x=>Value.int .u32 (x.toNat:Int)).toArray
 let h8:=mZ h7 4 (F.VM.map fun x=>Value.int .u32 (x.toNat:Int)).toArray
 let h9:=mZ h8 10 (F.Vt.map fun x=>Value.int .u32 (x.toNat:Int)).toArray
 let h10:=mZ h9 11 (F.VA.map fun x=>Value.int .u32 (x.toNat:Int)).toArray
 let h11:=mZ h10 5 (F.abG.map fun x=>Value.int .u32 (x.toNat:Int)).toArray
 let h12:=mZ h11 3 (F.US.map fun x=>vS x).toArray
 let h13:=mZ h12 0 (F.Vi.map fun x=>vS x).toArray
 let h14:=mZ h13 1 (Lib.firstTab.map fun z=>Value.int .u8 z).toArray
 { w0 with heap:=h14 }
theorem laidWorld_os (os:Os):(laidWorld os).os=os:=rfl
theorem laid_met (os:Os) (args:Array Value):laidMetH Tryz.prog Rows.coseJustRow.laid ((laidWorld os).forCall (fun _ _=>0) ⟨#[],args,[]⟩).memory:=by
 rw[ny,MakeChecks.laidMetH_plain _ _ _ (by kernel_rfl)]
 exact (LaidIn.of_run (l := [("unicode/utf8.acceptRanges", Lib.acceptData), ("signet/sha.k256", tabData .u32 (F.VF.map fun x => (x.toNat : Int))), ("signet/sha.k512", tabData .u64 (F.Vg.map fun x => (x.toNat : Int))), ("signet/sha.start256", tabData .u32 (F.TT.map fun x => (x.toNat : Int))), ("signet/sha.start384", tabData .u64 (F.TS.map fun x => (x.toNat : Int))), ("signet/sha.start512", tabData .u64 (F.TU.map fun x => (x.toNat : Int))), ("signet/ed.primeLimbs", tabData .u32 (F.VK.map fun x => (x.toNat : Int))), ("signet/ed.orderLimbs", tabData .u32 (F.VM.map fun x => (x.toNat : Int))), ("signet/ed.curveLimbs", tabData .u32 (F.Vt.map fun x => (x.toNat : Int))), ("signet/ed.rootLimbs", tabData .u32 (F.VA.map fun x => (x.toNat : Int))), ("signet/ed.baseLimbs", q8 .u32 ([F.TZ, F.TW].map fun r => r.map fun x => (x.toNat : Int))), ("signet/rsa1.infos", nB F.US), ("signet/keyset.names", nB F.Vi), ("unicode/utf8.first", Lib.firstData)]) [2, 13, 14, 6, 7, 8, 9, 4, 10, 11, 5, 3, 0, 1] 8 (by kernel_rfl) (by kernel_rfl) (by kernel_rfl) (by kernel_rfl)).met
#print axioms tabs
end Go.Proofs.YtkbacjmklhgpcaaGreatDoor
