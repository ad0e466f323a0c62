import Derived.Test.YtmegjloifgfldaaGreatDoorProg
import Derived.Test.YtmegjloifgfldaaGreatDoorGkV
import Derived.Test.YtmegjloifgfldaaGreatDoorRWman
set_option linter.unusedVariables false
set_option linter.unusedSimpArgs false
set_option linter.unusedSectionVars false
abbrev Q3:Go.Value:=.slice none 0 0
namespace Go.Proofs
open Go Go.RowKit Go.Gk
theorem bK:Tryz.prog.follows .mixedOrders=true:=by kernel_rfl
theorem Gr:ExtF Tryz.prog 107 Extern.BytealgCount.count:=⟨Tryz.f107,by kernel_rfl,by kernel_rfl,by kernel_rfl,by kernel_rfl,by kernel_rfl⟩
theorem Gh:ExtF Tryz.prog 173 Extern.BytealgIndexByte.indexByte:=⟨Tryz.f173,by kernel_rfl,by kernel_rfl,by kernel_rfl,by kernel_rfl,by kernel_rfl⟩
theorem ti5:TI Tryz.prog 5 (.int .u8 0) 1 1:=by unfold TI; kernel_rfl
theorem iy:TI Tryz.prog 25 (.slice none 0 0) 1 24:=by unfold TI; kernel_rfl
theorem qa:TI Tryz.prog 58 (.slice none 0 0) 1 24:=by unfold TI; kernel_rfl
theorem aL:TI Tryz.prog 106 (.int .u32 0) 1 4:=by unfold TI; kernel_rfl
theorem Aa:gV Tryz.prog 127=some ([(0,1),(1,1),(2,1),(3,1),(4,1),(5,1),(6,1)],[.pointer none,.pointer none,.pointer none,.pointer none,.pointer none,vI 0,.nilFunc]):=by kernel_rfl
theorem mh:gV Tryz.prog 136=some ([(0,1),(1,1),(2,1)],[.pointer none,.pointer none,.pointer none]):=by kernel_rfl
theorem EE:gV Tryz.prog 150=some ([(0,1),(1,1),(2,1),(3,1),(4,1),(5,1),(6,1),(7,1)],e32.fl (List.replicate 8 0)):=by kernel_rfl
theorem Ex:gV Tryz.prog 166=some ([(0,1),(1,1),(2,1),(3,1),(4,1),(5,1),(6,1),(7,1)],e64.fl (List.replicate 8 0)):=by kernel_rfl
theorem Fx:gV Tryz.prog 169=some ([(0,1),(1,8),(9,8),(17,128),(145,1)],[vI 0]++(e32.fl (List.replicate 8 0)++(e64.fl (List.replicate 8 0)++(e8.fl (List.replicate 128 0)++[v64 0])))):=by kernel_rfl
theorem FW:gV Tryz.prog 27=some ([(0,1),(1,1),(2,1),(3,1),(4,1),(5,1),(6,1)],[vI 0,vI 0,.slice none 0 0,.slice none 0 0,.slice none 0 0,.slice none 0 0,.slice none 0 0]):=by kernel_rfl
theorem fL:gV Tryz.prog 71=some ([(0,1),(1,1),(2,1)],[.slice none 0 0,.slice none 0 0,vB false]):=by kernel_rfl
theorem tC:gV Tryz.prog 87=some ([(0,1),(1,1),(2,1),(3,1)],[.slice none 0 0,.slice none 0 0,.slice none 0 0,.slice none 0 0]):=by kernel_rfl
theorem F4:gV Tryz.prog 97=some ([(0,1),(1,1),(2,1)],[.slice none 0 0,.slice none 0 0,.slice none 0 0]):=by kernel_rfl
theorem FZ:gV Tryz.prog 98=some ([(0,1),(1,1),(2,1)],[vS [],vS [],vS []]):=by kernel_rfl
theorem tM:(Tryz.prog.info? 103).map (·.size == 0)=some false:=by kernel_rfl
theorem cF:(Tryz.prog.info? 124).map (·.size == 0)=some false:=by kernel_rfl
theorem FJ:(Tryz.prog.info? 125).map (·.size == 0)=some false:=by kernel_rfl
theorem im:(Tryz.prog.info? 150).map (·.size == 0)=some false:=by kernel_rfl
theorem gW:(Tryz.prog.info? 166).map (·.size == 0)=some false:=by kernel_rfl
theorem ya:(Tryz.prog.info? 167).map (·.size == 0)=some false:=by kernel_rfl
theorem lF:(Tryz.prog.info? 23).map (·.size == 0)=some false:=by kernel_rfl
theorem qb:(Tryz.prog.info? 24).map (·.size == 0)=some false:=by kernel_rfl
theorem dU:(Tryz.prog.info? 25).map (·.size == 0)=some false:=by kernel_rfl
theorem nz3:(Tryz.prog.info? 3).map (·.size == 0)=some false:=by kernel_rfl
theorem r9:(Tryz.prog.info? 31).map (·.size == 0)=some false:=by kernel_rfl
theorem nz4:(Tryz.prog.info? 4).map (·.size == 0)=some false:=by kernel_rfl
theorem dA:(Tryz.prog.info? 57).map (·.size == 0)=some false:=by kernel_rfl
theorem cO:(Tryz.prog.info? 58).map (·.size == 0)=some false:=by kernel_rfl
theorem dO:(Tryz.prog.info? 103).map (·.size)=some 1:=by kernel_rfl
theorem dS:(Tryz.prog.info? 106).map (·.size)=some 1:=by kernel_rfl
theorem bV:(Tryz.prog.info? 136).map (·.size)=some 3:=by kernel_rfl
theorem iP:(Tryz.prog.info? 150).map (·.size)=some 8:=by kernel_rfl
theorem qf:(Tryz.prog.info? 166).map (·.size)=some 8:=by kernel_rfl
theorem De:(Tryz.prog.info? 169).map (·.size)=some 146:=by kernel_rfl
theorem Gq:(Tryz.prog.info? 23).map (·.size)=some 1:=by kernel_rfl
theorem Gc:(Tryz.prog.info? 24).map (·.size)=some 1:=by kernel_rfl
theorem j2:(Tryz.prog.info? 25).map (·.size)=some 1:=by kernel_rfl
theorem kw:(Tryz.prog.info? 27).map (·.size)=some 7:=by kernel_rfl
theorem sz4:(Tryz.prog.info? 4).map (·.size)=some 1:=by kernel_rfl
theorem sz5:(Tryz.prog.info? 5).map (·.size)=some 1:=by kernel_rfl
theorem Ge:(Tryz.prog.info? 57).map (·.size)=some 1:=by kernel_rfl
theorem cE:(Tryz.prog.info? 71).map (·.size)=some 3:=by kernel_rfl
theorem ir:(Tryz.prog.info? 87).map (·.size)=some 4:=by kernel_rfl
theorem sz9:(Tryz.prog.info? 9).map (·.size)=some 1:=by kernel_rfl
theorem dt:(Tryz.prog.info? 130).map (·.zero)=some (some (.agg #[.bool false,.slice none 0 0])):=by kernel_rfl
theorem gZ:(Tryz.prog.info? 136).map (·.zero)=some (some (.agg #[.pointer none,.pointer none,.pointer none])):=by kernel_rfl
theorem FL:(Tryz.prog.info? 169).map (·.zero)=some (some (.agg #[.int .i64 0,.int .u32 0,.int .u32 0,.int .u32 0,.int .u32 0,.int .u32 0,.int .u32 0,.int .u32 0,.int .u32 0,.int .u64 0,.int .u64 0,.int .u64 0,.int .u64 0,.int .u64 0,.int .u64 0,.int .u64 0,.int .u64 0,.int .u8 0,.int .u8 0,.int .u8 0,.int .u8 0,.int .u8 0,.int .u8 0,.int .u8 0,.int .u8 0,.int .u8 0,.int .u8 0,.int .u8 0,.int .u8 0,.int .u8 0,.int .u8 0,.int .u8 0,.int .u8 0,.int .u8 0,.int .u8 0,.int .u8 0,.int .u8 0,.int .u8 0,.int .u8 0,.int .u8 0,.int .u8 0,.int .u8 0,.int .u8 0,.int .u8 0,.int .u8 0,.int .u8 0,.int .u8 0,.int .u8 0,.int .u8 0,.int .u8 0,.int .u8 0,.int .u8 0,.int .u8 0,.int .u8 0,.int .u8 0,.int .u8 0,.int .u8 0,.int .u8 0,.int .u8 0,.int .u8 0,.int .u8 0,.int .u8 0,.int .u8 0,.int .u8 0,.int .u8 0,.int .u8 0,.int .u8 0,.int .u8 0,.int .u8 0,.int .u8 0,.int .u8 0,.int .u8 0,.int .u8 0,.int .u8 0,.int .u8 0,.int .u8 0,.int .u8 0,.int .u8 0,.int .u8 0,.int .u8 0,.int .u8 0,.int .u8 0,.int .u8 0,.int .u8 0,.int .u8 0,.int .u8 0,.int .u8 0,.int .u8 0,.int .u8 0,.int .u8 0,.int .u8 0,.int .u8 0,.int .u8 0,.int .u8 0,.int .u8 0,.int .u8 0,.int .u8 0,.int .u8 0,.int .u8 0,.int .u8 0,.int .u8 0,.int .u8 0,.int .u8 0,.int .u8 0,.int .u8 0,.int .u8 0,.int .u8 0,.int .u8 0,.int .u8 0,.int .u8 0,.int .u8 0,.int .u8 0,.int .u8 0,.int .u8 0,.int .u8 0,.int .u8 0,.int .u8 0,.int .u8 0,.int .u8 0,.int .u8 0,.int .u8 0,.int .u8 0,.int .u8 0,.int .u8 0,.int .u8 0,.int .u8 0,.int .u8 0,.int .u8 0,.int .u8 0,.int .u8 0,.int .u8 0,.int .u8 0,.int .u8 0,.int .u8 0,.int .u8 0,.int .u8 0,.int .u8 0,.int .u8 0,.int .u8 0,.int .u8 0,.int .u8 0,.int .u8 0,.int .u8 0,.int .u8 0,.int .u8 0,.int .u64 0])):=by kernel_rfl
theorem FX:(Tryz.prog.info? 206).map (·.zero)=some (some (.agg #[.int .u32 0,.int .u32 0,.int .u32 0,.int .u32 0,.int .u32 0,.int .u32 0,.int .u32 0,.int .u32 0,.int .u32 0,.int .u32 0,.int .u32 0,.int .u32 0,.int .u32 0,.int .u32 0,.int .u32 0,.int .u32 0,.int .u32 0,.int .u32 0,.int .u32 0,.int .u32 0,.int .u32 0,.int .u32 0,.int .u32 0,.int .u32 0,.int .u32 0,.int .u32 0,.int .u32 0,.int .u32 0,.int .u32 0,.int .u32 0,.int .u32 0,.int .u32 0,.int .u32 0,.int .u32 0,.int .u32 0,.int .u32 0,.int .u32 0,.int .u32 0,.int .u32 0,.int .u32 0,.int .u32 0,.int .u32 0,.int .u32 0,.int .u32 0,.int .u32 0,.int .u32 0,.int .u32 0,.int .u32 0,.int .u32 0,.int .u32 0,.int .u32 0,.int .u32 0,.int .u32 0,.int .u32 0,.int .u32 0,.int .u32 0,.int .u32 0,.int .u32 0,.int .u32 0,.int .u32 0,.int .u32 0,.int .u32 0,.int .u32 0,.int .u32 0])):=by kernel_rfl
theorem FN:(Tryz.prog.info? 208).map (·.zero)=some (some (.agg #[.int .u64 0,.int .u64 0,.int .u64 0,.int .u64 0,.int .u64 0,.int .u64 0,.int .u64 0,.int .u64 0,.int .u64 0,.int .u64 0,.int .u64 0,.int .u64 0,.int .u64 0,.int .u64 0,.int .u64 0,.int .u64 0,.int .u64 0,.int .u64 0,.int .u64 0,.int .u64 0,.int .u64 0,.int .u64 0,.int .u64 0,.int .u64 0,.int .u64 0,.int .u64 0,.int .u64 0,.int .u64 0,.int .u64 0,.int .u64 0,.int .u64 0,.int .u64 0,.int .u64 0,.int .u64 0,.int .u64 0,.int .u64 0,.int .u64 0,.int .u64 0,.int .u64 0,.int .u64 0,.int .u64 0,.int .u64 0,.int .u64 0,.int .u64 0,.int .u64 0,.int .u64 0,.int .u64 0,.int .u64 0,.int .u64 0,.int .u64 0,.int .u64 0,.int .u64 0,.int .u64 0,.int .u64 0,.int .u64 0,.int .u64 0,.int .u64 0,.int .u64 0,.int .u64 0,.int .u64 0,.int .u64 0,.int .u64 0,.int .u64 0,.int .u64 0,.int .u64 0,.int .u64 0,.int .u64 0,.int .u64 0,.int .u64 0,.int .u64 0,.int .u64 0,.int .u64 0,.int .u64 0,.int .u64 0,.int .u64 0,.int .u64 0,.int .u64 0,.int .u64 0,.int .u64 0,.int .u64 0])):=by kernel_rfl
theorem Gb:(Tryz.prog.info? 27).map (·.zero)=some (some (.agg #[.int .i64 0,.int .i64 0,.slice none 0 0,.slice none 0 0,.slice none 0 0,.slice none 0 0,.slice none 0 0])):=by kernel_rfl
theorem jd:(Tryz.prog.info? 71).map (·.zero)=some (some (.agg #[.slice none 0 0,.slice none 0 0,.bool false])):=by kernel_rfl
theorem wg:(Tryz.prog.info? 87).map (·.zero)=some (some (.agg #[.slice none 0 0,.slice none 0 0,.slice none 0 0,.slice none 0 0])):=by kernel_rfl
theorem Gx:(Tryz.prog.info? 97).map (·.zero)=some (some (.agg #[.slice none 0 0,.slice none 0 0,.slice none 0 0])):=by kernel_rfl
theorem u3:type_of% Tryz.underlying3:=Tryz.underlying3
theorem u4:type_of% Tryz.underlying4:=Tryz.underlying4
theorem u23:type_of% Tryz.underlying23:=Tryz.underlying23
theorem u24:type_of% Tryz.underlying24:=Tryz.underlying24
theorem u25:type_of% Tryz.underlying25:=Tryz.underlying25
theorem u27:type_of% Tryz.underlying27:=Tryz.underlying27
theorem u31:type_of% Tryz.underlying31:=Tryz.underlying31
theorem u57:type_of% Tryz.underlying57:=Tryz.underlying57
theorem u58:type_of% Tryz.underlying58:=Tryz.underlying58
theorem u67:type_of% Tryz.underlying67:=Tryz.underlying67
theorem u71:type_of% Tryz.underlying71:=Tryz.underlying71
theorem u87:type_of% Tryz.underlying87:=Tryz.underlying87
theorem u97:type_of% Tryz.underlying97:=Tryz.underlying97
theorem u98:type_of% Tryz.underlying98:=Tryz.underlying98
theorem u103:type_of% Tryz.underlying103:=Tryz.underlying103
theorem u106:type_of% Tryz.underlying106:=Tryz.underlying106
theorem u117:type_of% Tryz.underlying117:=Tryz.underlying117
theorem u122:type_of% Tryz.underlying122:=Tryz.underlying122
theorem u124:type_of% Tryz.underlying124:=Tryz.underlying124
theorem u127:type_of% Tryz.underlying127:=Tryz.underlying127
theorem u130:type_of% Tryz.underlying130:=Tryz.underlying130
theorem u136:type_of% Tryz.underlying136:=Tryz.underlying136
theorem u150:type_of% Tryz.underlying150:=Tryz.underlying150
theorem u165:type_of% Tryz.underlying165:=Tryz.underlying165
theorem u166:type_of% Tryz.underlying166:=Tryz.underlying166
theorem u167:type_of% Tryz.underlying167:=Tryz.underlying167
theorem u169:type_of% Tryz.underlying169:=Tryz.underlying169
theorem u206:type_of% Tryz.underlying206:=Tryz.underlying206
theorem u208:type_of% Tryz.underlying208:=Tryz.underlying208
end Go.Proofs
namespace Go.Gk
theorem GA.b:type_of% @GA.now:=@GA.now
theorem RB.b:type_of% @RB.now:=@RB.now
theorem RP.b:type_of% @RP.now:=@RP.now
theorem St.d:type_of% @St.pk:=@St.pk
theorem St.e:type_of% @St.call:=@St.call
theorem GA.f:type_of% @GA.give:=@GA.give
theorem RB.f:type_of% @RB.give:=@RB.give
theorem RP.f:type_of% @RP.give:=@RP.give
theorem St.f:type_of% @St.give:=@St.give
theorem St.g:type_of% @St.back:=@St.back
abbrev OE.h:=@OE.kept
theorem RB.h:type_of% @RB.kept:=@RB.kept
theorem RP.h:type_of% @RP.kept:=@RP.kept
theorem Rds.i:type_of% @Rds.rpT:=@Rds.rpT
theorem Rds.j:type_of% @Rds.rbT:=@Rds.rbT
theorem Fz.k:type_of% @Fz.start:=@Fz.start
theorem St.k:type_of% @St.start:=@St.start
theorem Fz.l:type_of% @Fz.callK:=@Fz.callK
theorem Up.m:type_of% @Up.skip:=@Up.skip
theorem Up.o:type_of% @Up.here:=@Up.here
theorem St.p:type_of% @St.bxs:=@St.bxs
theorem St.q:type_of% @St.bxc:=@St.bxc
theorem St.r:type_of% @St.bxg:=@St.bxg
end Go.Gk
namespace Go.Proofs
theorem TB.b:type_of% @TB.now:=@TB.now
theorem TB.f:type_of% @TB.give:=@TB.give
end Go.Proofs
theorem Go.Gk.Z:∀{α:Sort _}{a:α},a=a:=rfl
theorem Go.Gk.K:True:=trivial
