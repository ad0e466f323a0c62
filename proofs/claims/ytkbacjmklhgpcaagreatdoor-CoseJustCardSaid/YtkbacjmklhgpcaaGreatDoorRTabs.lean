import Derived.Test.YtkbacjmklhgpcaaGreatDoorRWman
import Derived.Test.YtkbacjmklhgpcaaGreatDoorCards
import Derived.Test.YtkbacjmklhgpcaaGreatDoorTie
import Derived.Test.YtkbacjmklhgpcaaGreatDoorGkR
import Derived.Lib.LaidIn
import Derived.Lib.LaidU8T
import Derived.Deep.DeepHandedRow
import Derived.Deep.DeepWitnessRowRef
import Derived.PinnedBridge
import Derived.MakeChecks
import Derived.Lay
import Derived.SevenTiedAt
import Derived.ProofKit
import Derived.SizedLaws
set_option linter.unusedVariables false
set_option linter.unusedSimpArgs false
set_option linter.unusedSectionVars false
namespace Go.Proofs.YtkbacjmklhgpcaaGreatDoor
open Go Go.Proofs Go.RowKit Go.Gk Go.Shelf Go.Lib
theorem Fa:(Rows.laid_signet_sha_k256:DataW Unit)=tabData .u32 (F.VH.map fun x=>(x.toNat:Int)):=by kernel_rfl
theorem F6:(Rows.laid_signet_sha_k512:DataW Unit)=tabData .u64 (F.Vj.map fun x=>(x.toNat:Int)):=by kernel_rfl
theorem xK:(Rows.laid_signet_sha_start256:DataW Unit)=tabData .u32 (F.TU.map fun x=>(x.toNat:Int)):=by kernel_rfl
theorem wT:(Rows.laid_signet_sha_start384:DataW Unit)=tabData .u64 (F.TT.map fun x=>(x.toNat:Int)):=by kernel_rfl
theorem xm:(Rows.laid_signet_sha_start512:DataW Unit)=tabData .u64 (F.TW.map fun x=>(x.toNat:Int)):=by kernel_rfl
theorem vo:(Rows.laid_signet_ed_primeLimbs:DataW Unit)=tabData .u32 (F.VM.map fun x=>(x.toNat:Int)):=by kernel_rfl
theorem wg:(Rows.laid_signet_ed_orderLimbs:DataW Unit)=tabData .u32 (F.VN.map fun x=>(x.toNat:Int)):=by kernel_rfl
theorem vW:(Rows.laid_signet_ed_curveLimbs:DataW Unit)=tabData .u32 (F.Vv.map fun x=>(x.toNat:Int)):=by kernel_rfl
theorem wA:(Rows.laid_signet_ed_rootLimbs:DataW Unit)=tabData .u32 (F.VC.map fun x=>(x.toNat:Int)):=by kernel_rfl
theorem wy:(Rows.laid_signet_ed_baseLimbs:DataW Unit)=rj .u32 ([F.T5,F.TZ].map fun r=>r.map fun x=>(x.toNat:Int)):=by kernel_rfl
theorem BH:(Rows.laid_signet_rsa1_infos:DataW Unit)=nH F.UU:=by kernel_rfl
theorem xt:(Rows.laid_signet_keyset_names:DataW Unit)=nH F.Vl:=by kernel_rfl
theorem OI:(Rows.laid_unicode_utf8_acceptRanges:DataW Unit)=Lib.acceptData:=by kernel_rfl
theorem nF : Rows.coseJustRow.laid = [("unicode/utf8.acceptRanges", Lib.acceptData), ("signet/sha.k256", tabData .u32 (F.VH.map fun x => (x.toNat : Int))), ("signet/sha.k512", tabData .u64 (F.Vj.map fun x => (x.toNat : Int))), ("signet/sha.start256", tabData .u32 (F.TU.map fun x => (x.toNat : Int))), ("signet/sha.start384", tabData .u64 (F.TT.map fun x => (x.toNat : Int))), ("signet/sha.start512", tabData .u64 (F.TW.map fun x => (x.toNat : Int))), ("signet/ed.primeLimbs", tabData .u32 (F.VM.map fun x => (x.toNat : Int))), ("signet/ed.orderLimbs", tabData .u32 (F.VN.map fun x => (x.toNat : Int))), ("signet/ed.curveLimbs", tabData .u32 (F.Vv.map fun x => (x.toNat : Int))), ("signet/ed.rootLimbs", tabData .u32 (F.VC.map fun x => (x.toNat : Int))), ("signet/ed.baseLimbs", rj .u32 ([F.T5, F.TZ].map fun r => r.map fun x => (x.toNat : Int))), ("signet/rsa1.infos", nH F.UU), ("signet/keyset.names", nH F.Vl), ("unicode/utf8.first", Lib.firstData)] := by
 rw[<-Fa,<-F6,<-xK,<-wT,<-xm,<-vo,<-wg,<-vW,<-wA,<-wy,<-BH,<-xt,<-OI,<-Pinned.utf8First_eq]; rfl
theorem tabs {W:World} (hL:laidMetH Tryz.prog Rows.coseJustRow.laid W):TB [] W:=by
 rw[nF,MakeChecks.laidMetH_plain _ _ _ (by kernel_rfl)]at hL
 exact⟨⟨utf8Tabs_of_readsT (U8Types.of196 Tryz.laysValid) ⟨by kernel_rfl,by kernel_rfl,by kernel_rfl,by kernel_rfl,by kernel_rfl,by kernel_rfl,by kernel_rfl⟩ (Lib.laidMet.reads hL (.tail _ (.tail _ (.tail _ (.tail _ (.tail _ (.tail _ (.tail _ (.tail _ (.tail _ (.tail _ (.tail _ (.tail _ (.tail _ (.head _))))))))))))))) (Lib.laidMet.reads hL (.head _)),by simp,by simp⟩,
  gaS (by kernel_rfl) (Lib.laidMet.reads hL (.tail _ (.tail _ (.tail _ (.tail _ (.tail _ (.tail _ (.tail _ (.tail _ (.tail _ (.tail _ (.tail _ (.tail _ (.head _)))))))))))))),
  gaS (by kernel_rfl) (Lib.laidMet.reads hL (.tail _ (.tail _ (.tail _ (.tail _ (.tail _ (.tail _ (.tail _ (.tail _ (.tail _ (.tail _ (.tail _ (.head _))))))))))))),
  wQ (by kernel_rfl) (Lib.laidMet.reads hL (.tail _ (.tail _ (.tail _ (.tail _ (.tail _ (.tail _ (.tail _ (.head _))))))))),
  Qx (j:=8) (rs:=[F.T5,F.TZ]) rfl (by kernel_rfl) (Lib.laidMet.reads hL (.tail _ (.tail _ (.tail _ (.tail _ (.tail _ (.tail _ (.tail _ (.tail _ (.tail _ (.tail _ (.head _)))))))))))),
  wQ (by kernel_rfl) (Lib.laidMet.reads hL (.tail _ (.tail _ (.tail _ (.head _))))),
  K4 (by kernel_rfl) (Lib.laidMet.reads hL (.tail _ (.tail _ (.tail _ (.tail _ (.head _)))))),
  K4 (by kernel_rfl) (Lib.laidMet.reads hL (.tail _ (.tail _ (.tail _ (.tail _ (.tail _ (.head _))))))),
  wQ (by kernel_rfl) (Lib.laidMet.reads hL (.tail _ (.tail _ (.tail _ (.tail _ (.tail _ (.tail _ (.head _)))))))),
  wQ (by kernel_rfl) (Lib.laidMet.reads hL (.tail _ (.tail _ (.tail _ (.tail _ (.tail _ (.tail _ (.tail _ (.tail _ (.head _)))))))))),
  wQ (by kernel_rfl) (Lib.laidMet.reads hL (.tail _ (.tail _ (.tail _ (.tail _ (.tail _ (.tail _ (.tail _ (.tail _ (.tail _ (.head _))))))))))),
  wQ (by kernel_rfl) (Lib.laidMet.reads hL (.tail _ (.head _))),
  K4 (by kernel_rfl) (Lib.laidMet.reads hL (.tail _ (.tail _ (.head _))))⟩
noncomputable def laidWorld (os:Os):World:=
 let w0:=World.holding Tryz.prog os ⟨#[],#[],[]⟩
 let h1:=nh w0.heap 2 ((List.range 16).flatMap fun i=>[Value.int .u8 (Lib.accLo i),Value.int .u8 (Lib.accHi i)]).toArray
 let h2:=nh h1 13 (F.VH.map fun x=>Value.int .u32 (x.toNat:Int)).toArray
 let h3:=nh h2 14 (F.Vj.map fun x=>Value.int .u64 (x.toNat:Int)).toArray
 let h4:=nh h3 6 (F.TU.map fun x=>Value.int .u32 (x.toNat:Int)).toArray
 let h5:=nh h4 7 (F.TT.map fun x=>Value.int .u64 (x.toNat:Int)).toArray
 let h6:=nh h5 8 (F.TW.map fun x=>Value.int .u64 (x.toNat:Int)).toArray
 let h7:=nh h6 9 (F.VM.map fun x=>Value.int .u32 (x.toNat:Int)).toArray
 let h8:=nh h7 4 (F.VN.map fun x=>Value.int .u32 (x.toNat:Int)).toArray
 let h9:=nh h8 10 (F.Vv.map fun x=>Value.int .u32 (x.toNat:Int)).toArray
 let h10:=nh h9 11 (F.VC.map fun x=>Value.int .u32 (x.toNat:Int)).toArray
 let h11:=nh h10 5 (F.abN.map fun x=>Value.int .u32 (x.toNat:Int)).toArray
 let h12:=nh h11 3 (F.UU.map fun x=>vS x).toArray
 let h13:=nh h12 0 (F.Vl.map fun x=>vS x).toArray
 let h14:=nh h13 1 (Lib.firstTab.map fun z=>Value.int .u8 z).toArray
 { w0 with heap:=h14 }
theorem laidWorld_os (os:Os):(laidWorld os).os=os:=rfl
theorem laid_met (os:Os) (args:Array Value):laidMetH Tryz.prog Rows.coseJustRow.laid ((laidWorld os).forCall (fun _ _=>0) ⟨#[],args,[]⟩).memory:=by
 rw[nF,MakeChecks.laidMetH_plain _ _ _ (by kernel_rfl)]
 exact (LaidIn.of_run (l := [("unicode/utf8.acceptRanges", Lib.acceptData), ("signet/sha.k256", tabData .u32 (F.VH.map fun x => (x.toNat : Int))), ("signet/sha.k512", tabData .u64 (F.Vj.map fun x => (x.toNat : Int))), ("signet/sha.start256", tabData .u32 (F.TU.map fun x => (x.toNat : Int))), ("signet/sha.start384", tabData .u64 (F.TT.map fun x => (x.toNat : Int))), ("signet/sha.start512", tabData .u64 (F.TW.map fun x => (x.toNat : Int))), ("signet/ed.primeLimbs", tabData .u32 (F.VM.map fun x => (x.toNat : Int))), ("signet/ed.orderLimbs", tabData .u32 (F.VN.map fun x => (x.toNat : Int))), ("signet/ed.curveLimbs", tabData .u32 (F.Vv.map fun x => (x.toNat : Int))), ("signet/ed.rootLimbs", tabData .u32 (F.VC.map fun x => (x.toNat : Int))), ("signet/ed.baseLimbs", rj .u32 ([F.T5, F.TZ].map fun r => r.map fun x => (x.toNat : Int))), ("signet/rsa1.infos", nH F.UU), ("signet/keyset.names", nH F.Vl), ("unicode/utf8.first", Lib.firstData)]) [2, 13, 14, 6, 7, 8, 9, 4, 10, 11, 5, 3, 0, 1] 8 (by kernel_rfl) (by kernel_rfl) (by kernel_rfl) (by kernel_rfl)).met
#print axioms tabs
end Go.Proofs.YtkbacjmklhgpcaaGreatDoor
