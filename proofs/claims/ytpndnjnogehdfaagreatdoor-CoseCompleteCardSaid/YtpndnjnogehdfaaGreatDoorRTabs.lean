import Derived.Test.YtpndnjnogehdfaaGreatDoorRWman
import Derived.Test.YtpndnjnogehdfaaGreatDoorCards
import Derived.Test.YtpndnjnogehdfaaGreatDoorTie
import Derived.Test.YtpndnjnogehdfaaGreatDoorGkR
import Derived.Lib.LaidIn
import Derived.Lib.LaidU8T
import Derived.Deep.DeepHandedRow
import Derived.Deep.DeepWitnessRowRef
import Derived.PinnedBridge
import Derived.MakeChecks
import Derived.Lay
import Derived.SevenTiedAt
import Derived.ProofKit
import Derived.SizedLaws
set_option linter.unusedVariables false
set_option linter.unusedSimpArgs false
set_option linter.unusedSectionVars false
namespace Go.Proofs.YtpndnjnogehdfaaGreatDoor
open Go Go.Proofs Go.RowKit Go.Gk Go.Shelf Go.Lib
theorem DY:(Rows.laid_signet_sha_k256:DataW Unit)=tabData .u32 (F.Ta.map fun x=>(x.toNat:Int)):=by kernel_rfl
theorem EN:(Rows.laid_signet_sha_k512:DataW Unit)=tabData .u64 (F.SP.map fun x=>(x.toNat:Int)):=by kernel_rfl
theorem wH:(Rows.laid_signet_sha_start256:DataW Unit)=tabData .u32 (F.Rm.map fun x=>(x.toNat:Int)):=by kernel_rfl
theorem vP:(Rows.laid_signet_sha_start384:DataW Unit)=tabData .u64 (F.Rl.map fun x=>(x.toNat:Int)):=by kernel_rfl
theorem wl:(Rows.laid_signet_sha_start512:DataW Unit)=tabData .u64 (F.Rn.map fun x=>(x.toNat:Int)):=by kernel_rfl
theorem ux:(Rows.laid_signet_ed_primeLimbs:DataW Unit)=tabData .u32 (F.VW.map fun x=>(x.toNat:Int)):=by kernel_rfl
theorem u7:(Rows.laid_signet_ed_orderLimbs:DataW Unit)=tabData .u32 (F.VZ.map fun x=>(x.toNat:Int)):=by kernel_rfl
theorem uX:(Rows.laid_signet_ed_curveLimbs:DataW Unit)=tabData .u32 (F.Vr.map fun x=>(x.toNat:Int)):=by kernel_rfl
theorem vm:(Rows.laid_signet_ed_rootLimbs:DataW Unit)=tabData .u32 (F.VC.map fun x=>(x.toNat:Int)):=by kernel_rfl
theorem vk:(Rows.laid_signet_ed_baseLimbs:DataW Unit)=qF .u32 ([F.WX,F.WI].map fun r=>r.map fun x=>(x.toNat:Int)):=by kernel_rfl
theorem AN:(Rows.laid_signet_rsa1_infos:DataW Unit)=mM F.Vt:=by kernel_rfl
theorem wu:(Rows.laid_signet_keyset_names:DataW Unit)=mM F.TH:=by kernel_rfl
theorem Mh:(Rows.laid_unicode_utf8_acceptRanges:DataW Unit)=Lib.acceptData:=by kernel_rfl
theorem mH : Rows.coseCompleteRow.laid = [("unicode/utf8.acceptRanges", Lib.acceptData), ("signet/sha.k256", tabData .u32 (F.Ta.map fun x => (x.toNat : Int))), ("signet/sha.k512", tabData .u64 (F.SP.map fun x => (x.toNat : Int))), ("signet/sha.start256", tabData .u32 (F.Rm.map fun x => (x.toNat : Int))), ("signet/sha.start384", tabData .u64 (F.Rl.map fun x => (x.toNat : Int))), ("signet/sha.start512", tabData .u64 (F.Rn.map fun x => (x.toNat : Int))), ("signet/ed.primeLimbs", tabData .u32 (F.VW.map fun x => (x.toNat : Int))), ("signet/ed.orderLimbs", tabData .u32 (F.VZ.map fun x => (x.toNat : Int))), ("signet/ed.curveLimbs", tabData .u32 (F.Vr.map fun x => (x.toNat : Int))), ("signet/ed.rootLimbs", tabData .u32 (F.VC.map fun x => (x.toNat : Int))), ("signet/ed.baseLimbs", qF .u32 ([F.WX, F.WI].map fun r => r.map fun x => (x.toNat : Int))), ("signet/rsa1.infos", mM F.Vt), ("signet/keyset.names", mM F.TH), ("unicode/utf8.first", Lib.firstData)] := by
 rw[<-DY,<-EN,<-wH,<-vP,<-wl,<-ux,<-u7,<-uX,<-vm,<-vk,<-AN,<-wu,<-Mh,<-Pinned.utf8First_eq]; rfl
theorem tabs {W:World} (hL:laidMetH Tryz.prog Rows.coseCompleteRow.laid W):TB [] W:=by
 rw[mH,MakeChecks.laidMetH_plain _ _ _ (by kernel_rfl)]at hL
 exact⟨⟨utf8Tabs_of_readsT (U8Types.of196 Tryz.laysValid) ⟨by kernel_rfl,by kernel_rfl,by kernel_rfl,by kernel_rfl,by kernel_rfl,by kernel_rfl,by kernel_rfl⟩ (Lib.laidMet.reads hL (.tail _ (.tail _ (.tail _ (.tail _ (.tail _ (.tail _ (.tail _ (.tail _ (.tail _ (.tail _ (.tail _ (.tail _ (.tail _ (.head _))))))))))))))) (Lib.laidMet.reads hL (.head _)),by simp,by simp⟩,
  gaS (by kernel_rfl) (Lib.laidMet.reads hL (.tail _ (.tail _ (.tail _ (.tail _ (.tail _ (.tail _ (.tail _ (.tail _ (.tail _ (.tail _ (.tail _ (.tail _ (.head _)))))))))))))),
  vL (by kernel_rfl) (Lib.laidMet.reads hL (.tail _ (.tail _ (.tail _ (.head _))))),
  Jk (by kernel_rfl) (Lib.laidMet.reads hL (.tail _ (.tail _ (.tail _ (.tail _ (.head _)))))),
  Jk (by kernel_rfl) (Lib.laidMet.reads hL (.tail _ (.tail _ (.tail _ (.tail _ (.tail _ (.head _))))))),
  gaS (by kernel_rfl) (Lib.laidMet.reads hL (.tail _ (.tail _ (.tail _ (.tail _ (.tail _ (.tail _ (.tail _ (.tail _ (.tail _ (.tail _ (.tail _ (.head _))))))))))))),
  vL (by kernel_rfl) (Lib.laidMet.reads hL (.tail _ (.tail _ (.tail _ (.tail _ (.tail _ (.tail _ (.tail _ (.head _))))))))),
  Ol (j:=8) (rs:=[F.WX,F.WI]) rfl (by kernel_rfl) (Lib.laidMet.reads hL (.tail _ (.tail _ (.tail _ (.tail _ (.tail _ (.tail _ (.tail _ (.tail _ (.tail _ (.tail _ (.head _)))))))))))),
  vL (by kernel_rfl) (Lib.laidMet.reads hL (.tail _ (.tail _ (.tail _ (.tail _ (.tail _ (.tail _ (.head _)))))))),
  vL (by kernel_rfl) (Lib.laidMet.reads hL (.tail _ (.tail _ (.tail _ (.tail _ (.tail _ (.tail _ (.tail _ (.tail _ (.head _)))))))))),
  vL (by kernel_rfl) (Lib.laidMet.reads hL (.tail _ (.head _))),
  Jk (by kernel_rfl) (Lib.laidMet.reads hL (.tail _ (.tail _ (.head _)))),
  vL (by kernel_rfl) (Lib.laidMet.reads hL (.tail _ (.tail _ (.tail _ (.tail _ (.tail _ (.tail _ (.tail _ (.tail _ (.tail _ (.head _)))))))))))⟩
noncomputable def laidWorld (os:Os):World:=
 let w0:=World.holding Tryz.prog os ⟨#[],#[],[]⟩
 let h1:=mo w0.heap 2 ((List.range 16).flatMap fun i=>[Value.int .u8 (Lib.accLo i),Value.int .u8 (Lib.accHi i)]).toArray
 let h2:=mo h1 12 (F.Ta.map fun x=>Value.int .u32 (x.toNat:Int)).toArray
 let h3:=mo h2 13 (F.SP.map fun x=>Value.int .u64 (x.toNat:Int)).toArray
 let h4:=mo h3 3 (F.Rm.map fun x=>Value.int .u32 (x.toNat:Int)).toArray
 let h5:=mo h4 4 (F.Rl.map fun x=>Value.int .u64 (x.toNat:Int)).toArray
 let h6:=mo h5 5 (F.Rn.map fun x=>Value.int .u64 (x.toNat:Int)).toArray
 let h7:=mo h6 10 (F.VW.map fun x=>Value.int .u32 (x.toNat:Int)).toArray
 let h8:=mo h7 7 (F.VZ.map fun x=>Value.int .u32 (x.toNat:Int)).toArray
 let h9:=mo h8 11 (F.Vr.map fun x=>Value.int .u32 (x.toNat:Int)).toArray
 let h10:=mo h9 14 (F.VC.map fun x=>Value.int .u32 (x.toNat:Int)).toArray
 let h11:=mo h10 8 (F.Ys.map fun x=>Value.int .u32 (x.toNat:Int)).toArray
 let h12:=mo h11 6 (F.Vt.map fun x=>vS x).toArray
 let h13:=mo h12 0 (F.TH.map fun x=>vS x).toArray
 let h14:=mo h13 1 (Lib.firstTab.map fun z=>Value.int .u8 z).toArray
 { w0 with heap:=h14 }
theorem laidWorld_os (os:Os):(laidWorld os).os=os:=rfl
theorem laid_met (os:Os) (args:Array Value):laidMetH Tryz.prog Rows.coseCompleteRow.laid ((laidWorld os).forCall (fun _ _=>0) ⟨#[],args,[]⟩).memory:=by
 rw[mH,MakeChecks.laidMetH_plain _ _ _ (by kernel_rfl)]
 exact (LaidIn.of_run (l := [("unicode/utf8.acceptRanges", Lib.acceptData), ("signet/sha.k256", tabData .u32 (F.Ta.map fun x => (x.toNat : Int))), ("signet/sha.k512", tabData .u64 (F.SP.map fun x => (x.toNat : Int))), ("signet/sha.start256", tabData .u32 (F.Rm.map fun x => (x.toNat : Int))), ("signet/sha.start384", tabData .u64 (F.Rl.map fun x => (x.toNat : Int))), ("signet/sha.start512", tabData .u64 (F.Rn.map fun x => (x.toNat : Int))), ("signet/ed.primeLimbs", tabData .u32 (F.VW.map fun x => (x.toNat : Int))), ("signet/ed.orderLimbs", tabData .u32 (F.VZ.map fun x => (x.toNat : Int))), ("signet/ed.curveLimbs", tabData .u32 (F.Vr.map fun x => (x.toNat : Int))), ("signet/ed.rootLimbs", tabData .u32 (F.VC.map fun x => (x.toNat : Int))), ("signet/ed.baseLimbs", qF .u32 ([F.WX, F.WI].map fun r => r.map fun x => (x.toNat : Int))), ("signet/rsa1.infos", mM F.Vt), ("signet/keyset.names", mM F.TH), ("unicode/utf8.first", Lib.firstData)]) [2, 12, 13, 3, 4, 5, 10, 7, 11, 14, 8, 6, 0, 1] 8 (by kernel_rfl) (by kernel_rfl) (by kernel_rfl) (by kernel_rfl)).met
#print axioms tabs
end Go.Proofs.YtpndnjnogehdfaaGreatDoor
