import Derived.Test.YtkickcbphbgldaaGreatDoorProg
import Derived.Test.YtkickcbphbgldaaGreatDoorGkV
import Derived.Test.YtkickcbphbgldaaGreatDoorTWman
set_option linter.unusedVariables false
set_option linter.unusedSimpArgs false
set_option linter.unusedSectionVars false
namespace Go.Proofs
open Go Go.RowKit Go.Gk
theorem bR:Tryz.prog.follows .mixedOrders=true:=by kernel_rfl
theorem ti5:TI Tryz.prog 5 (.int .u8 0) 1 1:=by unfold TI; kernel_rfl
theorem cd:TI Tryz.prog 24 (.slice none 0 0) 1 24:=by unfold TI; kernel_rfl
theorem qE:TI Tryz.prog 31 (.slice none 0 0) 1 24:=by unfold TI; kernel_rfl
theorem aZ:TI Tryz.prog 38 (.int .u32 0) 1 4:=by unfold TI; kernel_rfl
theorem Am:iL Tryz.prog 160=some ([(0,1),(1,1),(2,1),(3,1),(4,1),(5,1),(6,1),(7,1)],e64.fl (List.replicate 8 0)):=by kernel_rfl
theorem Aw:iL Tryz.prog 165=some ([(0,1),(1,1),(2,1),(3,1),(4,1),(5,1),(6,1),(7,1)],e32.fl (List.replicate 8 0)):=by kernel_rfl
theorem Au:iL Tryz.prog 168=some ([(0,1),(1,8),(9,8),(17,128),(145,1)],[vI 0]++(e32.fl (List.replicate 8 0)++(e64.fl (List.replicate 8 0)++(e8.fl (List.replicate 128 0)++[v64 0])))):=by kernel_rfl
theorem gr:iL Tryz.prog 33=some ([(0,1),(1,1),(2,1)],[.slice none 0 0,.slice none 0 0,vB false]):=by kernel_rfl
theorem yw:iL Tryz.prog 76=some ([(0,1),(1,1),(2,1),(3,1),(4,1),(5,1),(6,1)],[.pointer none,.pointer none,.pointer none,.pointer none,.pointer none,vI 0,.nilFunc]):=by kernel_rfl
theorem mp:iL Tryz.prog 91=some ([(0,1),(1,1),(2,1)],[.pointer none,.pointer none,.pointer none]):=by kernel_rfl
theorem fy:(Tryz.prog.info? 160).map (·.size == 0)=some false:=by kernel_rfl
theorem fU:(Tryz.prog.info? 165).map (·.size == 0)=some false:=by kernel_rfl
theorem un:(Tryz.prog.info? 166).map (·.size == 0)=some false:=by kernel_rfl
theorem oZ:(Tryz.prog.info? 22).map (·.size == 0)=some false:=by kernel_rfl
theorem nz3:(Tryz.prog.info? 3).map (·.size == 0)=some false:=by kernel_rfl
theorem da:(Tryz.prog.info? 30).map (·.size == 0)=some false:=by kernel_rfl
theorem rZ:(Tryz.prog.info? 31).map (·.size == 0)=some false:=by kernel_rfl
theorem nz4:(Tryz.prog.info? 4).map (·.size == 0)=some false:=by kernel_rfl
theorem cC:(Tryz.prog.info? 73).map (·.size == 0)=some false:=by kernel_rfl
theorem Bu:(Tryz.prog.info? 74).map (·.size == 0)=some false:=by kernel_rfl
theorem uf:(Tryz.prog.info? 87).map (·.size == 0)=some false:=by kernel_rfl
theorem nP:(Tryz.prog.info? 160).map (·.size)=some 8:=by kernel_rfl
theorem ux:(Tryz.prog.info? 165).map (·.size)=some 8:=by kernel_rfl
theorem yq:(Tryz.prog.info? 168).map (·.size)=some 146:=by kernel_rfl
theorem Br:(Tryz.prog.info? 30).map (·.size)=some 1:=by kernel_rfl
theorem cx:(Tryz.prog.info? 33).map (·.size)=some 3:=by kernel_rfl
theorem ea:(Tryz.prog.info? 38).map (·.size)=some 1:=by kernel_rfl
theorem sz4:(Tryz.prog.info? 4).map (·.size)=some 1:=by kernel_rfl
theorem sz5:(Tryz.prog.info? 5).map (·.size)=some 1:=by kernel_rfl
theorem dO:(Tryz.prog.info? 87).map (·.size)=some 1:=by kernel_rfl
theorem bV:(Tryz.prog.info? 91).map (·.size)=some 3:=by kernel_rfl
theorem cW:(Tryz.prog.info? 101).map (·.zero)=some (some (.agg #[.bool false,.slice none 0 0])):=by kernel_rfl
theorem A2:(Tryz.prog.info? 168).map (·.zero)=some (some (.agg #[.int .i64 0,.int .u32 0,.int .u32 0,.int .u32 0,.int .u32 0,.int .u32 0,.int .u32 0,.int .u32 0,.int .u32 0,.int .u64 0,.int .u64 0,.int .u64 0,.int .u64 0,.int .u64 0,.int .u64 0,.int .u64 0,.int .u64 0,.int .u8 0,.int .u8 0,.int .u8 0,.int .u8 0,.int .u8 0,.int .u8 0,.int .u8 0,.int .u8 0,.int .u8 0,.int .u8 0,.int .u8 0,.int .u8 0,.int .u8 0,.int .u8 0,.int .u8 0,.int .u8 0,.int .u8 0,.int .u8 0,.int .u8 0,.int .u8 0,.int .u8 0,.int .u8 0,.int .u8 0,.int .u8 0,.int .u8 0,.int .u8 0,.int .u8 0,.int .u8 0,.int .u8 0,.int .u8 0,.int .u8 0,.int .u8 0,.int .u8 0,.int .u8 0,.int .u8 0,.int .u8 0,.int .u8 0,.int .u8 0,.int .u8 0,.int .u8 0,.int .u8 0,.int .u8 0,.int .u8 0,.int .u8 0,.int .u8 0,.int .u8 0,.int .u8 0,.int .u8 0,.int .u8 0,.int .u8 0,.int .u8 0,.int .u8 0,.int .u8 0,.int .u8 0,.int .u8 0,.int .u8 0,.int .u8 0,.int .u8 0,.int .u8 0,.int .u8 0,.int .u8 0,.int .u8 0,.int .u8 0,.int .u8 0,.int .u8 0,.int .u8 0,.int .u8 0,.int .u8 0,.int .u8 0,.int .u8 0,.int .u8 0,.int .u8 0,.int .u8 0,.int .u8 0,.int .u8 0,.int .u8 0,.int .u8 0,.int .u8 0,.int .u8 0,.int .u8 0,.int .u8 0,.int .u8 0,.int .u8 0,.int .u8 0,.int .u8 0,.int .u8 0,.int .u8 0,.int .u8 0,.int .u8 0,.int .u8 0,.int .u8 0,.int .u8 0,.int .u8 0,.int .u8 0,.int .u8 0,.int .u8 0,.int .u8 0,.int .u8 0,.int .u8 0,.int .u8 0,.int .u8 0,.int .u8 0,.int .u8 0,.int .u8 0,.int .u8 0,.int .u8 0,.int .u8 0,.int .u8 0,.int .u8 0,.int .u8 0,.int .u8 0,.int .u8 0,.int .u8 0,.int .u8 0,.int .u8 0,.int .u8 0,.int .u8 0,.int .u8 0,.int .u8 0,.int .u8 0,.int .u8 0,.int .u8 0,.int .u8 0,.int .u8 0,.int .u8 0,.int .u8 0,.int .u8 0,.int .u8 0,.int .u64 0])):=by kernel_rfl
theorem Bo:(Tryz.prog.info? 177).map (·.zero)=some (some (.agg #[.int .u32 0,.int .u32 0,.int .u32 0,.int .u32 0,.int .u32 0,.int .u32 0,.int .u32 0,.int .u32 0,.int .u32 0,.int .u32 0,.int .u32 0,.int .u32 0,.int .u32 0,.int .u32 0,.int .u32 0,.int .u32 0,.int .u32 0,.int .u32 0,.int .u32 0,.int .u32 0,.int .u32 0,.int .u32 0,.int .u32 0,.int .u32 0,.int .u32 0,.int .u32 0,.int .u32 0,.int .u32 0,.int .u32 0,.int .u32 0,.int .u32 0,.int .u32 0,.int .u32 0,.int .u32 0,.int .u32 0,.int .u32 0,.int .u32 0,.int .u32 0,.int .u32 0,.int .u32 0,.int .u32 0,.int .u32 0,.int .u32 0,.int .u32 0,.int .u32 0,.int .u32 0,.int .u32 0,.int .u32 0,.int .u32 0,.int .u32 0,.int .u32 0,.int .u32 0,.int .u32 0,.int .u32 0,.int .u32 0,.int .u32 0,.int .u32 0,.int .u32 0,.int .u32 0,.int .u32 0,.int .u32 0,.int .u32 0,.int .u32 0,.int .u32 0])):=by kernel_rfl
theorem Bf:(Tryz.prog.info? 179).map (·.zero)=some (some (.agg #[.int .u64 0,.int .u64 0,.int .u64 0,.int .u64 0,.int .u64 0,.int .u64 0,.int .u64 0,.int .u64 0,.int .u64 0,.int .u64 0,.int .u64 0,.int .u64 0,.int .u64 0,.int .u64 0,.int .u64 0,.int .u64 0,.int .u64 0,.int .u64 0,.int .u64 0,.int .u64 0,.int .u64 0,.int .u64 0,.int .u64 0,.int .u64 0,.int .u64 0,.int .u64 0,.int .u64 0,.int .u64 0,.int .u64 0,.int .u64 0,.int .u64 0,.int .u64 0,.int .u64 0,.int .u64 0,.int .u64 0,.int .u64 0,.int .u64 0,.int .u64 0,.int .u64 0,.int .u64 0,.int .u64 0,.int .u64 0,.int .u64 0,.int .u64 0,.int .u64 0,.int .u64 0,.int .u64 0,.int .u64 0,.int .u64 0,.int .u64 0,.int .u64 0,.int .u64 0,.int .u64 0,.int .u64 0,.int .u64 0,.int .u64 0,.int .u64 0,.int .u64 0,.int .u64 0,.int .u64 0,.int .u64 0,.int .u64 0,.int .u64 0,.int .u64 0,.int .u64 0,.int .u64 0,.int .u64 0,.int .u64 0,.int .u64 0,.int .u64 0,.int .u64 0,.int .u64 0,.int .u64 0,.int .u64 0,.int .u64 0,.int .u64 0,.int .u64 0,.int .u64 0,.int .u64 0,.int .u64 0])):=by kernel_rfl
theorem kE:(Tryz.prog.info? 33).map (·.zero)=some (some (.agg #[.slice none 0 0,.slice none 0 0,.bool false])):=by kernel_rfl
theorem ft:(Tryz.prog.info? 91).map (·.zero)=some (some (.agg #[.pointer none,.pointer none,.pointer none])):=by kernel_rfl
theorem u22:type_of% Tryz.underlying22:=Tryz.underlying22
theorem u24:type_of% Tryz.underlying24:=Tryz.underlying24
theorem u30:type_of% Tryz.underlying30:=Tryz.underlying30
theorem u31:type_of% Tryz.underlying31:=Tryz.underlying31
theorem u33:type_of% Tryz.underlying33:=Tryz.underlying33
theorem u38:type_of% Tryz.underlying38:=Tryz.underlying38
theorem u56:type_of% Tryz.underlying56:=Tryz.underlying56
theorem u71:type_of% Tryz.underlying71:=Tryz.underlying71
theorem u73:type_of% Tryz.underlying73:=Tryz.underlying73
theorem u76:type_of% Tryz.underlying76:=Tryz.underlying76
theorem u87:type_of% Tryz.underlying87:=Tryz.underlying87
theorem u91:type_of% Tryz.underlying91:=Tryz.underlying91
theorem u101:type_of% Tryz.underlying101:=Tryz.underlying101
theorem u112:type_of% Tryz.underlying112:=Tryz.underlying112
theorem u120:type_of% Tryz.underlying120:=Tryz.underlying120
theorem u160:type_of% Tryz.underlying160:=Tryz.underlying160
theorem u165:type_of% Tryz.underlying165:=Tryz.underlying165
theorem u166:type_of% Tryz.underlying166:=Tryz.underlying166
theorem u168:type_of% Tryz.underlying168:=Tryz.underlying168
theorem u177:type_of% Tryz.underlying177:=Tryz.underlying177
theorem u179:type_of% Tryz.underlying179:=Tryz.underlying179
end Go.Proofs
namespace Go.Gk
theorem Off.b:type_of% @Off.nth:=@Off.nth
theorem Rds.b:type_of% @Rds.nth:=@Rds.nth
theorem gC.b:type_of% @gC.nth:=@gC.nth
theorem GA.d:type_of% @GA.now:=@GA.now
theorem RB.d:type_of% @RB.now:=@RB.now
theorem RP.d:type_of% @RP.now:=@RP.now
theorem St.e:type_of% @St.pk:=@St.pk
theorem St.f:type_of% @St.call:=@St.call
theorem GA.g:type_of% @GA.give:=@GA.give
theorem RB.g:type_of% @RB.give:=@RB.give
theorem RP.g:type_of% @RP.give:=@RP.give
theorem St.g:type_of% @St.give:=@St.give
theorem St.h:type_of% @St.back:=@St.back
abbrev OE.i:=@OE.kept
theorem RB.i:type_of% @RB.kept:=@RB.kept
theorem RP.i:type_of% @RP.kept:=@RP.kept
theorem Rds.j:type_of% @Rds.rpT:=@Rds.rpT
theorem Rds.k:type_of% @Rds.rbT:=@Rds.rbT
theorem Fz.l:type_of% @Fz.start:=@Fz.start
theorem St.l:type_of% @St.start:=@St.start
theorem Fz.m:type_of% @Fz.callK:=@Fz.callK
theorem Up.o:type_of% @Up.skip:=@Up.skip
theorem Up.p:type_of% @Up.here:=@Up.here
theorem St.q:type_of% @St.bxs:=@St.bxs
theorem St.r:type_of% @St.bxc:=@St.bxc
theorem St.s:type_of% @St.bxg:=@St.bxg
end Go.Gk
namespace Go.Proofs
theorem TB.d:type_of% @TB.now:=@TB.now
theorem TB.g:type_of% @TB.give:=@TB.give
end Go.Proofs
theorem Go.Gk.Z:∀{α:Sort _}{a:α},a=a:=rfl
theorem Go.Gk.V:True:=trivial
