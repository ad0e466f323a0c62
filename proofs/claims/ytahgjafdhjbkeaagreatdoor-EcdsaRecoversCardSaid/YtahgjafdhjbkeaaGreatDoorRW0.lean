import Derived.Test.YtahgjafdhjbkeaaGreatDoorProg
import Derived.Test.YtahgjafdhjbkeaaGreatDoorGkV
import Derived.Test.YtahgjafdhjbkeaaGreatDoorRWman
set_option linter.unusedVariables false
set_option linter.unusedSimpArgs false
set_option linter.unusedSectionVars false
abbrev L3:Go.Value:=.slice none 0 0
namespace Go.Proofs
open Go Go.RowKit Go.Gk
theorem bQ:Tryz.prog.follows .mixedOrders=true:=by kernel_rfl
theorem ti5:TI Tryz.prog 5 (.int .u8 0) 1 1:=by unfold TI; kernel_rfl
theorem Ca:TI Tryz.prog 24 (.slice none 0 0) 1 24:=by unfold TI; kernel_rfl
theorem kU:TI Tryz.prog 31 (.slice none 0 0) 1 24:=by unfold TI; kernel_rfl
theorem aN:TI Tryz.prog 38 (.int .u32 0) 1 4:=by unfold TI; kernel_rfl
theorem CH:iJ Tryz.prog 101=some ([(0,1),(1,1),(2,1)],[.slice none 0 0,.slice none 0 0,vI 0]):=by kernel_rfl
theorem lj:iJ Tryz.prog 104=some ([(0,1),(1,1),(2,1)],[.slice none 0 0,.slice none 0 0,.slice none 0 0]):=by kernel_rfl
theorem yH:iJ Tryz.prog 143=some ([(0,1),(1,1),(2,1),(3,1),(4,1),(5,1),(6,1),(7,1)],e64.fl (List.replicate 8 0)):=by kernel_rfl
theorem x6:iJ Tryz.prog 154=some ([(0,1),(1,1),(2,1),(3,1),(4,1),(5,1),(6,1),(7,1)],e32.fl (List.replicate 8 0)):=by kernel_rfl
theorem BP:iJ Tryz.prog 157=some ([(0,1),(1,8),(9,8),(17,128),(145,1)],[vI 0]++(e32.fl (List.replicate 8 0)++(e64.fl (List.replicate 8 0)++(e8.fl (List.replicate 128 0)++[v64 0])))):=by kernel_rfl
theorem gW:iJ Tryz.prog 33=some ([(0,1),(1,1),(2,1)],[.slice none 0 0,.slice none 0 0,vB false]):=by kernel_rfl
theorem Ap:iJ Tryz.prog 62=some ([(0,1),(1,1),(2,1),(3,1),(4,1),(5,1),(6,1)],[.pointer none,.pointer none,.pointer none,.pointer none,.pointer none,vI 0,.nilFunc]):=by kernel_rfl
theorem od:iJ Tryz.prog 78=some ([(0,1),(1,1),(2,1)],[.pointer none,.pointer none,.pointer none]):=by kernel_rfl
theorem rZ:(Tryz.prog.info? 119).map (·.size == 0)=some false:=by kernel_rfl
theorem gB:(Tryz.prog.info? 143).map (·.size == 0)=some false:=by kernel_rfl
theorem gV:(Tryz.prog.info? 154).map (·.size == 0)=some false:=by kernel_rfl
theorem wB:(Tryz.prog.info? 155).map (·.size == 0)=some false:=by kernel_rfl
theorem q8:(Tryz.prog.info? 22).map (·.size == 0)=some false:=by kernel_rfl
theorem nz3:(Tryz.prog.info? 3).map (·.size == 0)=some false:=by kernel_rfl
theorem dV:(Tryz.prog.info? 30).map (·.size == 0)=some false:=by kernel_rfl
theorem cH:(Tryz.prog.info? 31).map (·.size == 0)=some false:=by kernel_rfl
theorem nz4:(Tryz.prog.info? 4).map (·.size == 0)=some false:=by kernel_rfl
theorem dn:(Tryz.prog.info? 59).map (·.size == 0)=some false:=by kernel_rfl
theorem Dm:(Tryz.prog.info? 60).map (·.size == 0)=some false:=by kernel_rfl
theorem bU:(Tryz.prog.info? 101).map (·.size)=some 3:=by kernel_rfl
theorem cT:(Tryz.prog.info? 104).map (·.size)=some 3:=by kernel_rfl
theorem ce:(Tryz.prog.info? 119).map (·.size)=some 1:=by kernel_rfl
theorem i8:(Tryz.prog.info? 143).map (·.size)=some 8:=by kernel_rfl
theorem kv:(Tryz.prog.info? 154).map (·.size)=some 8:=by kernel_rfl
theorem AB:(Tryz.prog.info? 157).map (·.size)=some 146:=by kernel_rfl
theorem Dg:(Tryz.prog.info? 30).map (·.size)=some 1:=by kernel_rfl
theorem cR:(Tryz.prog.info? 33).map (·.size)=some 3:=by kernel_rfl
theorem cE:(Tryz.prog.info? 38).map (·.size)=some 1:=by kernel_rfl
theorem sz4:(Tryz.prog.info? 4).map (·.size)=some 1:=by kernel_rfl
theorem sz5:(Tryz.prog.info? 5).map (·.size)=some 1:=by kernel_rfl
theorem cp:(Tryz.prog.info? 78).map (·.size)=some 3:=by kernel_rfl
theorem Aq:(Tryz.prog.info? 101).map (·.zero)=some (some (.agg #[.slice none 0 0,.slice none 0 0,.int .i64 0])):=by kernel_rfl
theorem mj:(Tryz.prog.info? 104).map (·.zero)=some (some (.agg #[.slice none 0 0,.slice none 0 0,.slice none 0 0])):=by kernel_rfl
theorem Da:(Tryz.prog.info? 143).map (·.zero)=some (some (.agg #[.int .u64 0,.int .u64 0,.int .u64 0,.int .u64 0,.int .u64 0,.int .u64 0,.int .u64 0,.int .u64 0])):=by kernel_rfl
theorem Af:(Tryz.prog.info? 154).map (·.zero)=some (some (.agg #[.int .u32 0,.int .u32 0,.int .u32 0,.int .u32 0,.int .u32 0,.int .u32 0,.int .u32 0,.int .u32 0])):=by kernel_rfl
theorem C6:(Tryz.prog.info? 157).map (·.zero)=some (some (.agg #[.int .i64 0,.int .u32 0,.int .u32 0,.int .u32 0,.int .u32 0,.int .u32 0,.int .u32 0,.int .u32 0,.int .u32 0,.int .u64 0,.int .u64 0,.int .u64 0,.int .u64 0,.int .u64 0,.int .u64 0,.int .u64 0,.int .u64 0,.int .u8 0,.int .u8 0,.int .u8 0,.int .u8 0,.int .u8 0,.int .u8 0,.int .u8 0,.int .u8 0,.int .u8 0,.int .u8 0,.int .u8 0,.int .u8 0,.int .u8 0,.int .u8 0,.int .u8 0,.int .u8 0,.int .u8 0,.int .u8 0,.int .u8 0,.int .u8 0,.int .u8 0,.int .u8 0,.int .u8 0,.int .u8 0,.int .u8 0,.int .u8 0,.int .u8 0,.int .u8 0,.int .u8 0,.int .u8 0,.int .u8 0,.int .u8 0,.int .u8 0,.int .u8 0,.int .u8 0,.int .u8 0,.int .u8 0,.int .u8 0,.int .u8 0,.int .u8 0,.int .u8 0,.int .u8 0,.int .u8 0,.int .u8 0,.int .u8 0,.int .u8 0,.int .u8 0,.int .u8 0,.int .u8 0,.int .u8 0,.int .u8 0,.int .u8 0,.int .u8 0,.int .u8 0,.int .u8 0,.int .u8 0,.int .u8 0,.int .u8 0,.int .u8 0,.int .u8 0,.int .u8 0,.int .u8 0,.int .u8 0,.int .u8 0,.int .u8 0,.int .u8 0,.int .u8 0,.int .u8 0,.int .u8 0,.int .u8 0,.int .u8 0,.int .u8 0,.int .u8 0,.int .u8 0,.int .u8 0,.int .u8 0,.int .u8 0,.int .u8 0,.int .u8 0,.int .u8 0,.int .u8 0,.int .u8 0,.int .u8 0,.int .u8 0,.int .u8 0,.int .u8 0,.int .u8 0,.int .u8 0,.int .u8 0,.int .u8 0,.int .u8 0,.int .u8 0,.int .u8 0,.int .u8 0,.int .u8 0,.int .u8 0,.int .u8 0,.int .u8 0,.int .u8 0,.int .u8 0,.int .u8 0,.int .u8 0,.int .u8 0,.int .u8 0,.int .u8 0,.int .u8 0,.int .u8 0,.int .u8 0,.int .u8 0,.int .u8 0,.int .u8 0,.int .u8 0,.int .u8 0,.int .u8 0,.int .u8 0,.int .u8 0,.int .u8 0,.int .u8 0,.int .u8 0,.int .u8 0,.int .u8 0,.int .u8 0,.int .u8 0,.int .u8 0,.int .u8 0,.int .u8 0,.int .u8 0,.int .u8 0,.int .u64 0])):=by kernel_rfl
theorem AD:(Tryz.prog.info? 165).map (·.zero)=some (some (.agg #[.int .u32 0,.int .u32 0,.int .u32 0,.int .u32 0,.int .u32 0,.int .u32 0,.int .u32 0,.int .u32 0,.int .u32 0,.int .u32 0,.int .u32 0,.int .u32 0,.int .u32 0,.int .u32 0,.int .u32 0,.int .u32 0,.int .u32 0,.int .u32 0,.int .u32 0,.int .u32 0,.int .u32 0,.int .u32 0,.int .u32 0,.int .u32 0,.int .u32 0,.int .u32 0,.int .u32 0,.int .u32 0,.int .u32 0,.int .u32 0,.int .u32 0,.int .u32 0,.int .u32 0,.int .u32 0,.int .u32 0,.int .u32 0,.int .u32 0,.int .u32 0,.int .u32 0,.int .u32 0,.int .u32 0,.int .u32 0,.int .u32 0,.int .u32 0,.int .u32 0,.int .u32 0,.int .u32 0,.int .u32 0,.int .u32 0,.int .u32 0,.int .u32 0,.int .u32 0,.int .u32 0,.int .u32 0,.int .u32 0,.int .u32 0,.int .u32 0,.int .u32 0,.int .u32 0,.int .u32 0,.int .u32 0,.int .u32 0,.int .u32 0,.int .u32 0])):=by kernel_rfl
theorem At:(Tryz.prog.info? 167).map (·.zero)=some (some (.agg #[.int .u64 0,.int .u64 0,.int .u64 0,.int .u64 0,.int .u64 0,.int .u64 0,.int .u64 0,.int .u64 0,.int .u64 0,.int .u64 0,.int .u64 0,.int .u64 0,.int .u64 0,.int .u64 0,.int .u64 0,.int .u64 0,.int .u64 0,.int .u64 0,.int .u64 0,.int .u64 0,.int .u64 0,.int .u64 0,.int .u64 0,.int .u64 0,.int .u64 0,.int .u64 0,.int .u64 0,.int .u64 0,.int .u64 0,.int .u64 0,.int .u64 0,.int .u64 0,.int .u64 0,.int .u64 0,.int .u64 0,.int .u64 0,.int .u64 0,.int .u64 0,.int .u64 0,.int .u64 0,.int .u64 0,.int .u64 0,.int .u64 0,.int .u64 0,.int .u64 0,.int .u64 0,.int .u64 0,.int .u64 0,.int .u64 0,.int .u64 0,.int .u64 0,.int .u64 0,.int .u64 0,.int .u64 0,.int .u64 0,.int .u64 0,.int .u64 0,.int .u64 0,.int .u64 0,.int .u64 0,.int .u64 0,.int .u64 0,.int .u64 0,.int .u64 0,.int .u64 0,.int .u64 0,.int .u64 0,.int .u64 0,.int .u64 0,.int .u64 0,.int .u64 0,.int .u64 0,.int .u64 0,.int .u64 0,.int .u64 0,.int .u64 0,.int .u64 0,.int .u64 0,.int .u64 0,.int .u64 0])):=by kernel_rfl
theorem mY:(Tryz.prog.info? 33).map (·.zero)=some (some (.agg #[.slice none 0 0,.slice none 0 0,.bool false])):=by kernel_rfl
theorem eM:(Tryz.prog.info? 65).map (·.zero)=some (some (.agg #[.bool false,.slice none 0 0])):=by kernel_rfl
theorem gq:(Tryz.prog.info? 78).map (·.zero)=some (some (.agg #[.pointer none,.pointer none,.pointer none])):=by kernel_rfl
theorem u3:type_of% Tryz.underlying3:=Tryz.underlying3
theorem u22:type_of% Tryz.underlying22:=Tryz.underlying22
theorem u24:type_of% Tryz.underlying24:=Tryz.underlying24
theorem u30:type_of% Tryz.underlying30:=Tryz.underlying30
theorem u31:type_of% Tryz.underlying31:=Tryz.underlying31
theorem u33:type_of% Tryz.underlying33:=Tryz.underlying33
theorem u38:type_of% Tryz.underlying38:=Tryz.underlying38
theorem u57:type_of% Tryz.underlying57:=Tryz.underlying57
theorem u59:type_of% Tryz.underlying59:=Tryz.underlying59
theorem u62:type_of% Tryz.underlying62:=Tryz.underlying62
theorem u65:type_of% Tryz.underlying65:=Tryz.underlying65
theorem u78:type_of% Tryz.underlying78:=Tryz.underlying78
theorem u87:type_of% Tryz.underlying87:=Tryz.underlying87
theorem u98:type_of% Tryz.underlying98:=Tryz.underlying98
theorem u101:type_of% Tryz.underlying101:=Tryz.underlying101
theorem u104:type_of% Tryz.underlying104:=Tryz.underlying104
theorem u119:type_of% Tryz.underlying119:=Tryz.underlying119
theorem u127:type_of% Tryz.underlying127:=Tryz.underlying127
theorem u143:type_of% Tryz.underlying143:=Tryz.underlying143
theorem u154:type_of% Tryz.underlying154:=Tryz.underlying154
theorem u155:type_of% Tryz.underlying155:=Tryz.underlying155
theorem u157:type_of% Tryz.underlying157:=Tryz.underlying157
theorem u165:type_of% Tryz.underlying165:=Tryz.underlying165
theorem u167:type_of% Tryz.underlying167:=Tryz.underlying167
end Go.Proofs
namespace Go.Gk
theorem GA.b:type_of% @GA.now:=@GA.now
theorem RB.b:type_of% @RB.now:=@RB.now
theorem RP.b:type_of% @RP.now:=@RP.now
theorem St.d:type_of% @St.pk:=@St.pk
theorem St.e:type_of% @St.call:=@St.call
theorem GA.f:type_of% @GA.give:=@GA.give
theorem RB.f:type_of% @RB.give:=@RB.give
theorem RP.f:type_of% @RP.give:=@RP.give
theorem St.f:type_of% @St.give:=@St.give
theorem St.g:type_of% @St.back:=@St.back
abbrev OE.h:=@OE.kept
theorem RB.h:type_of% @RB.kept:=@RB.kept
theorem RP.h:type_of% @RP.kept:=@RP.kept
theorem Rds.i:type_of% @Rds.rpT:=@Rds.rpT
theorem Rds.j:type_of% @Rds.rbT:=@Rds.rbT
theorem Fz.k:type_of% @Fz.start:=@Fz.start
theorem St.k:type_of% @St.start:=@St.start
theorem Fz.l:type_of% @Fz.callK:=@Fz.callK
theorem Up.m:type_of% @Up.skip:=@Up.skip
theorem Up.o:type_of% @Up.here:=@Up.here
theorem St.p:type_of% @St.bxs:=@St.bxs
theorem St.q:type_of% @St.bxc:=@St.bxc
theorem St.r:type_of% @St.bxg:=@St.bxg
end Go.Gk
namespace Go.Proofs
theorem TB.b:type_of% @TB.now:=@TB.now
theorem TB.f:type_of% @TB.give:=@TB.give
end Go.Proofs
theorem Go.Gk.Z:∀{α:Sort _}{a:α},a=a:=rfl
