import Derived.Test.YthnmbmmifamifaaGreatDoorProg
import Derived.Test.YthnmbmmifamifaaGreatDoorGkI
import Derived.Test.YthnmbmmifamifaaGreatDoorRWman
set_option linter.unusedVariables false
set_option linter.unusedSimpArgs false
set_option linter.unusedSectionVars false
abbrev L02:Go.Value:=.slice none 0 0
namespace Go.Proofs
open Go Go.RowKit Go.Gk
theorem gC:Tryz.prog.follows .mixedOrders=true:=by kernel_rfl
theorem ti5:TI Tryz.prog 5 (.int .u8 0) 1 1:=by unfold TI; kernel_rfl
theorem MR:TI Tryz.prog 25 (.slice none 0 0) 1 24:=by unfold TI; kernel_rfl
theorem QB:TI Tryz.prog 47 (.agg #[.int .i64 0,.int .i64 0,.int .i64 0,.int .i64 0,.int .i64 0]) 5 40:=by unfold TI; kernel_rfl
theorem Tt:TI Tryz.prog 55 (.slice none 0 0) 1 24:=by unfold TI; kernel_rfl
theorem xb:TI Tryz.prog 109 (.int .u32 0) 1 4:=by unfold TI; kernel_rfl
theorem P0:mV Tryz.prog 100=some ([(0,1),(1,1),(2,1),(3,1)],[.slice none 0 0,.slice none 0 0,.slice none 0 0,.slice none 0 0]):=by kernel_rfl
theorem QK:mV Tryz.prog 129=some ([(0,1),(1,1),(2,1),(3,1),(4,1),(5,1),(6,1)],[.pointer none,.pointer none,.pointer none,.pointer none,.pointer none,vI 0,.nilFunc]):=by kernel_rfl
theorem Ri:mV Tryz.prog 136=some ([(0,1),(1,1),(2,1)],[.pointer none,.pointer none,.pointer none]):=by kernel_rfl
theorem Ih:mV Tryz.prog 150=some ([(0,1),(1,1),(2,1),(3,1),(4,1),(5,1),(6,1),(7,1)],e32.fl (List.replicate 8 0)):=by kernel_rfl
theorem H6:mV Tryz.prog 166=some ([(0,1),(1,1),(2,1),(3,1),(4,1),(5,1),(6,1),(7,1)],e64.fl (List.replicate 8 0)):=by kernel_rfl
theorem Qg:mV Tryz.prog 172=some ([(0,1),(1,8),(9,8),(17,128),(145,1)],[vI 0]++(e32.fl (List.replicate 8 0)++(e64.fl (List.replicate 8 0)++(e8.fl (List.replicate 128 0)++[v64 0])))):=by kernel_rfl
theorem RA:mV Tryz.prog 207=some ([(0,1),(1,1),(2,1)],[.slice none 0 0,.slice none 0 0,vI 0]):=by kernel_rfl
theorem QC:mV Tryz.prog 210=some ([(0,1),(1,1),(2,1)],[.slice none 0 0,.slice none 0 0,.slice none 0 0]):=by kernel_rfl
theorem Sq:mV Tryz.prog 27=some ([(0,1),(1,1),(2,1),(3,1),(4,1),(5,1),(6,1)],[vI 0,vI 0,.slice none 0 0,.slice none 0 0,.slice none 0 0,.slice none 0 0,.slice none 0 0]):=by kernel_rfl
theorem nK:mV Tryz.prog 47=some ([(0,1),(1,1),(2,1),(3,1),(4,1)],[vI 0,vI 0,vI 0,vI 0,vI 0]):=by kernel_rfl
theorem No:mV Tryz.prog 69=some ([(0,1),(1,1),(2,1)],[.slice none 0 0,.slice none 0 0,vB false]):=by kernel_rfl
theorem A5:(Tryz.prog.info? 106).map (·.size == 0)=some false:=by kernel_rfl
theorem Sx:(Tryz.prog.info? 150).map (·.size == 0)=some false:=by kernel_rfl
theorem NF:(Tryz.prog.info? 166).map (·.size == 0)=some false:=by kernel_rfl
theorem Sa:(Tryz.prog.info? 170).map (·.size == 0)=some false:=by kernel_rfl
theorem K5:(Tryz.prog.info? 23).map (·.size == 0)=some false:=by kernel_rfl
theorem nk:(Tryz.prog.info? 25).map (·.size == 0)=some false:=by kernel_rfl
theorem TN:(Tryz.prog.info? 37).map (·.size == 0)=some false:=by kernel_rfl
theorem Ss:(Tryz.prog.info? 100).map (·.size)=some 4:=by kernel_rfl
theorem g8:(Tryz.prog.info? 106).map (·.size)=some 1:=by kernel_rfl
theorem gG:(Tryz.prog.info? 109).map (·.size)=some 1:=by kernel_rfl
theorem RQ:(Tryz.prog.info? 136).map (·.size)=some 3:=by kernel_rfl
theorem om:(Tryz.prog.info? 150).map (·.size)=some 8:=by kernel_rfl
theorem rT:(Tryz.prog.info? 166).map (·.size)=some 8:=by kernel_rfl
theorem SL:(Tryz.prog.info? 172).map (·.size)=some 146:=by kernel_rfl
theorem Q1:(Tryz.prog.info? 23).map (·.size)=some 1:=by kernel_rfl
theorem Hv:(Tryz.prog.info? 25).map (·.size)=some 1:=by kernel_rfl
theorem mb:(Tryz.prog.info? 27).map (·.size)=some 7:=by kernel_rfl
theorem Tr:(Tryz.prog.info? 47).map (·.size)=some 5:=by kernel_rfl
theorem sz5:(Tryz.prog.info? 5).map (·.size)=some 1:=by kernel_rfl
theorem RN:(Tryz.prog.info? 69).map (·.size)=some 3:=by kernel_rfl
theorem Sw:(Tryz.prog.info? 100).map (·.zero)=some (some (.agg #[.slice none 0 0,.slice none 0 0,.slice none 0 0,.slice none 0 0])):=by kernel_rfl
theorem Sn:(Tryz.prog.info? 132).map (·.zero)=some (some (.agg #[.bool false,.slice none 0 0])):=by kernel_rfl
theorem SO:(Tryz.prog.info? 136).map (·.zero)=some (some (.agg #[.pointer none,.pointer none,.pointer none])):=by kernel_rfl
theorem NK:(Tryz.prog.info? 150).map (·.zero)=some (some (.agg #[.int .u32 0,.int .u32 0,.int .u32 0,.int .u32 0,.int .u32 0,.int .u32 0,.int .u32 0,.int .u32 0])):=by kernel_rfl
theorem R1:(Tryz.prog.info? 166).map (·.zero)=some (some (.agg #[.int .u64 0,.int .u64 0,.int .u64 0,.int .u64 0,.int .u64 0,.int .u64 0,.int .u64 0,.int .u64 0])):=by kernel_rfl
theorem Sp:(Tryz.prog.info? 172).map (·.zero)=some (some (.agg #[.int .i64 0,.int .u32 0,.int .u32 0,.int .u32 0,.int .u32 0,.int .u32 0,.int .u32 0,.int .u32 0,.int .u32 0,.int .u64 0,.int .u64 0,.int .u64 0,.int .u64 0,.int .u64 0,.int .u64 0,.int .u64 0,.int .u64 0,.int .u8 0,.int .u8 0,.int .u8 0,.int .u8 0,.int .u8 0,.int .u8 0,.int .u8 0,.int .u8 0,.int .u8 0,.int .u8 0,.int .u8 0,.int .u8 0,.int .u8 0,.int .u8 0,.int .u8 0,.int .u8 0,.int .u8 0,.int .u8 0,.int .u8 0,.int .u8 0,.int .u8 0,.int .u8 0,.int .u8 0,.int .u8 0,.int .u8 0,.int .u8 0,.int .u8 0,.int .u8 0,.int .u8 0,.int .u8 0,.int .u8 0,.int .u8 0,.int .u8 0,.int .u8 0,.int .u8 0,.int .u8 0,.int .u8 0,.int .u8 0,.int .u8 0,.int .u8 0,.int .u8 0,.int .u8 0,.int .u8 0,.int .u8 0,.int .u8 0,.int .u8 0,.int .u8 0,.int .u8 0,.int .u8 0,.int .u8 0,.int .u8 0,.int .u8 0,.int .u8 0,.int .u8 0,.int .u8 0,.int .u8 0,.int .u8 0,.int .u8 0,.int .u8 0,.int .u8 0,.int .u8 0,.int .u8 0,.int .u8 0,.int .u8 0,.int .u8 0,.int .u8 0,.int .u8 0,.int .u8 0,.int .u8 0,.int .u8 0,.int .u8 0,.int .u8 0,.int .u8 0,.int .u8 0,.int .u8 0,.int .u8 0,.int .u8 0,.int .u8 0,.int .u8 0,.int .u8 0,.int .u8 0,.int .u8 0,.int .u8 0,.int .u8 0,.int .u8 0,.int .u8 0,.int .u8 0,.int .u8 0,.int .u8 0,.int .u8 0,.int .u8 0,.int .u8 0,.int .u8 0,.int .u8 0,.int .u8 0,.int .u8 0,.int .u8 0,.int .u8 0,.int .u8 0,.int .u8 0,.int .u8 0,.int .u8 0,.int .u8 0,.int .u8 0,.int .u8 0,.int .u8 0,.int .u8 0,.int .u8 0,.int .u8 0,.int .u8 0,.int .u8 0,.int .u8 0,.int .u8 0,.int .u8 0,.int .u8 0,.int .u8 0,.int .u8 0,.int .u8 0,.int .u8 0,.int .u8 0,.int .u8 0,.int .u8 0,.int .u8 0,.int .u8 0,.int .u8 0,.int .u8 0,.int .u8 0,.int .u8 0,.int .u64 0])):=by kernel_rfl
theorem NG:(Tryz.prog.info? 200).map (·.zero)=some (some (.agg #[.int .u32 0,.int .u32 0,.int .u32 0,.int .u32 0,.int .u32 0,.int .u32 0,.int .u32 0,.int .u32 0,.int .u32 0,.int .u32 0,.int .u32 0,.int .u32 0,.int .u32 0,.int .u32 0,.int .u32 0,.int .u32 0,.int .u32 0,.int .u32 0,.int .u32 0,.int .u32 0,.int .u32 0,.int .u32 0,.int .u32 0,.int .u32 0,.int .u32 0,.int .u32 0,.int .u32 0,.int .u32 0,.int .u32 0,.int .u32 0,.int .u32 0,.int .u32 0,.int .u32 0,.int .u32 0,.int .u32 0,.int .u32 0,.int .u32 0,.int .u32 0,.int .u32 0,.int .u32 0,.int .u32 0,.int .u32 0,.int .u32 0,.int .u32 0,.int .u32 0,.int .u32 0,.int .u32 0,.int .u32 0,.int .u32 0,.int .u32 0,.int .u32 0,.int .u32 0,.int .u32 0,.int .u32 0,.int .u32 0,.int .u32 0,.int .u32 0,.int .u32 0,.int .u32 0,.int .u32 0,.int .u32 0,.int .u32 0,.int .u32 0,.int .u32 0])):=by kernel_rfl
theorem Nk:(Tryz.prog.info? 202).map (·.zero)=some (some (.agg #[.int .u64 0,.int .u64 0,.int .u64 0,.int .u64 0,.int .u64 0,.int .u64 0,.int .u64 0,.int .u64 0,.int .u64 0,.int .u64 0,.int .u64 0,.int .u64 0,.int .u64 0,.int .u64 0,.int .u64 0,.int .u64 0,.int .u64 0,.int .u64 0,.int .u64 0,.int .u64 0,.int .u64 0,.int .u64 0,.int .u64 0,.int .u64 0,.int .u64 0,.int .u64 0,.int .u64 0,.int .u64 0,.int .u64 0,.int .u64 0,.int .u64 0,.int .u64 0,.int .u64 0,.int .u64 0,.int .u64 0,.int .u64 0,.int .u64 0,.int .u64 0,.int .u64 0,.int .u64 0,.int .u64 0,.int .u64 0,.int .u64 0,.int .u64 0,.int .u64 0,.int .u64 0,.int .u64 0,.int .u64 0,.int .u64 0,.int .u64 0,.int .u64 0,.int .u64 0,.int .u64 0,.int .u64 0,.int .u64 0,.int .u64 0,.int .u64 0,.int .u64 0,.int .u64 0,.int .u64 0,.int .u64 0,.int .u64 0,.int .u64 0,.int .u64 0,.int .u64 0,.int .u64 0,.int .u64 0,.int .u64 0,.int .u64 0,.int .u64 0,.int .u64 0,.int .u64 0,.int .u64 0,.int .u64 0,.int .u64 0,.int .u64 0,.int .u64 0,.int .u64 0,.int .u64 0,.int .u64 0])):=by kernel_rfl
theorem Sk:(Tryz.prog.info? 207).map (·.zero)=some (some (.agg #[.slice none 0 0,.slice none 0 0,.int .i64 0])):=by kernel_rfl
theorem Sr:(Tryz.prog.info? 210).map (·.zero)=some (some (.agg #[.slice none 0 0,.slice none 0 0,.slice none 0 0])):=by kernel_rfl
theorem Ld:(Tryz.prog.info? 27).map (·.zero)=some (some (.agg #[.int .i64 0,.int .i64 0,.slice none 0 0,.slice none 0 0,.slice none 0 0,.slice none 0 0,.slice none 0 0])):=by kernel_rfl
theorem TA:(Tryz.prog.info? 47).map (·.zero)=some (some (.agg #[.int .i64 0,.int .i64 0,.int .i64 0,.int .i64 0,.int .i64 0])):=by kernel_rfl
theorem PZ:(Tryz.prog.info? 69).map (·.zero)=some (some (.agg #[.slice none 0 0,.slice none 0 0,.bool false])):=by kernel_rfl
theorem u25:type_of% Tryz.underlying25:=Tryz.underlying25
theorem u27:type_of% Tryz.underlying27:=Tryz.underlying27
theorem u54:type_of% Tryz.underlying54:=Tryz.underlying54
theorem u106:type_of% Tryz.underlying106:=Tryz.underlying106
theorem u109:type_of% Tryz.underlying109:=Tryz.underlying109
theorem u119:type_of% Tryz.underlying119:=Tryz.underlying119
theorem u150:type_of% Tryz.underlying150:=Tryz.underlying150
theorem u166:type_of% Tryz.underlying166:=Tryz.underlying166
theorem u172:type_of% Tryz.underlying172:=Tryz.underlying172
theorem u200:type_of% Tryz.underlying200:=Tryz.underlying200
theorem u202:type_of% Tryz.underlying202:=Tryz.underlying202
end Go.Proofs
namespace Go.Gk
theorem GA.f:type_of% @GA.now:=@GA.now
theorem RB.f:type_of% @RB.now:=@RB.now
theorem RP.f:type_of% @RP.now:=@RP.now
theorem St.j:type_of% @St.pk:=@St.pk
theorem St.p:type_of% @St.call:=@St.call
abbrev OE.q:=@OE.kept
theorem RB.q:type_of% @RB.kept:=@RB.kept
theorem RP.q:type_of% @RP.kept:=@RP.kept
theorem Fz.r:type_of% @Fz.start:=@Fz.start
theorem St.r:type_of% @St.start:=@St.start
theorem Up.s:type_of% @Up.skip:=@Up.skip
theorem St.u:type_of% @St.bxs:=@St.bxs
theorem St.w:type_of% @St.bxc:=@St.bxc
theorem St.x:type_of% @St.bxg:=@St.bxg
end Go.Gk
namespace Go.Proofs
theorem TB.f:type_of% @TB.now:=@TB.now
end Go.Proofs
theorem Go.Gk.Z:∀{α:Sort _}{a:α},a=a:=rfl
theorem Go.Gk.I:True:=trivial
