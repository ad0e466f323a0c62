import Derived.Test.YtpndnjnogehdfaaGreatDoorProg
import Derived.Test.YtpndnjnogehdfaaGreatDoorGkI
import Derived.Test.YtpndnjnogehdfaaGreatDoorRWman
set_option linter.unusedVariables false
set_option linter.unusedSimpArgs false
set_option linter.unusedSectionVars false
abbrev Y5:Go.Value:=.slice none 0 0
namespace Go.Proofs
open Go Go.RowKit Go.Gk
theorem ky:Tryz.prog.follows .mixedOrders=true:=by kernel_rfl
theorem ti3:TI Tryz.prog 3 (.int .i64 0) 1 8:=by unfold TI; kernel_rfl
theorem ti5:TI Tryz.prog 5 (.int .u8 0) 1 1:=by unfold TI; kernel_rfl
theorem ti9:TI Tryz.prog 9 (.string ⟨#[]⟩) 1 16:=by unfold TI; kernel_rfl
theorem MB:TI Tryz.prog 22 (.slice none 0 0) 1 24:=by unfold TI; kernel_rfl
theorem Mr:TI Tryz.prog 24 (.slice none 0 0) 1 24:=by unfold TI; kernel_rfl
theorem DB:TI Tryz.prog 64 (.agg #[.int .i64 0,.int .u64 0,.string ⟨#[]⟩,.int .i64 0]) 4 40:=by unfold TI; kernel_rfl
theorem z6:TI Tryz.prog 97 (.int .u32 0) 1 4:=by unfold TI; kernel_rfl
theorem Ox:TI Tryz.prog 112 (.agg #[.int .i64 0,.int .i64 0,.int .u64 0,.bool false,.int .i64 0,.slice none 0 0]) 6 64:=by unfold TI; kernel_rfl
theorem Pl:Tryz.prog.eqGuardType Tryz.prog.depth 64=false:=by kernel_rfl
theorem NQ:jS Tryz.prog 106=some ([(0,1),(1,1),(2,1),(3,1)],[.slice none 0 0,vI 0,.slice none 0 0,.slice none 0 0]):=by kernel_rfl
theorem M1:jS Tryz.prog 110=some ([(0,1),(1,1)],[vI 0,vI 0]):=by kernel_rfl
theorem Mz:jS Tryz.prog 112=some ([(0,1),(1,1),(2,1),(3,1),(4,1),(5,1)],[vI 0,vI 0,v64 0,vB false,vI 0,.slice none 0 0]):=by kernel_rfl
theorem Na:jS Tryz.prog 123=some ([(0,1),(1,1),(2,1),(3,1),(4,1),(5,1),(6,1)],[.pointer none,.pointer none,.pointer none,.pointer none,.pointer none,vI 0,.nilFunc]):=by kernel_rfl
theorem NW:jS Tryz.prog 125=some ([(0,1),(1,1),(2,1)],[.pointer none,.pointer none,.pointer none]):=by kernel_rfl
theorem MY:jS Tryz.prog 227=some ([(0,1),(1,1),(2,1),(3,1),(4,1),(5,1),(6,1),(7,1)],e32.fl (List.replicate 8 0)):=by kernel_rfl
theorem N0:jS Tryz.prog 228=some ([(0,1),(1,1),(2,1),(3,1),(4,1),(5,1),(6,1),(7,1)],e64.fl (List.replicate 8 0)):=by kernel_rfl
theorem GT:jS Tryz.prog 231=some ([(0,1),(1,8),(9,8),(17,128),(145,1)],[vI 0]++(e32.fl (List.replicate 8 0)++(e64.fl (List.replicate 8 0)++(e8.fl (List.replicate 128 0)++[v64 0])))):=by kernel_rfl
theorem OM:jS Tryz.prog 26=some ([(0,1),(1,1),(2,1)],[.slice none 0 0,.slice none 0 0,vB false]):=by kernel_rfl
theorem Of:jS Tryz.prog 45=some ([(0,1),(1,1),(2,1),(3,1),(4,1),(5,1),(6,1)],[vI 0,vI 0,.slice none 0 0,.slice none 0 0,.slice none 0 0,.slice none 0 0,.slice none 0 0]):=by kernel_rfl
theorem OG:jS Tryz.prog 52=some ([(0,1),(1,1)],[vB false,vI 0]):=by kernel_rfl
theorem Od:jS Tryz.prog 54=some ([(0,1),(1,1),(2,1),(3,1),(4,1),(5,1),(6,1),(7,1),(8,1),(9,2),(11,2),(13,2)],[.slice none 0 0,vS [],vB false,vS [],vB false,.slice none 0 0,vB false,vS [],vB false,vB false,vI 0,vB false,vI 0,vB false,vI 0]):=by kernel_rfl
theorem OI:jS Tryz.prog 64=some ([(0,1),(1,1),(2,1),(3,1)],[vI 0,v64 0,vS [],vI 0]):=by kernel_rfl
theorem Ov:jS Tryz.prog 69=some ([(0,1),(1,1),(2,1),(3,1),(4,1)],[vI 0,vS [],vS [],vS [],vS []]):=by kernel_rfl
theorem Ok:(Tryz.prog.info? 104).map (·.size == 0)=some false:=by kernel_rfl
theorem uI:(Tryz.prog.info? 120).map (·.size == 0)=some false:=by kernel_rfl
theorem Oe:(Tryz.prog.info? 121).map (·.size == 0)=some false:=by kernel_rfl
theorem nz2:(Tryz.prog.info? 2).map (·.size == 0)=some false:=by kernel_rfl
theorem QF:(Tryz.prog.info? 22).map (·.size == 0)=some false:=by kernel_rfl
theorem JG:(Tryz.prog.info? 227).map (·.size == 0)=some false:=by kernel_rfl
theorem DW:(Tryz.prog.info? 228).map (·.size == 0)=some false:=by kernel_rfl
theorem JB:(Tryz.prog.info? 229).map (·.size == 0)=some false:=by kernel_rfl
theorem zq:(Tryz.prog.info? 23).map (·.size == 0)=some false:=by kernel_rfl
theorem Qm:(Tryz.prog.info? 24).map (·.size == 0)=some false:=by kernel_rfl
theorem nz3:(Tryz.prog.info? 3).map (·.size == 0)=some false:=by kernel_rfl
theorem QB:(Tryz.prog.info? 30).map (·.size == 0)=some false:=by kernel_rfl
theorem Pj:(Tryz.prog.info? 33).map (·.size == 0)=some false:=by kernel_rfl
theorem MA:(Tryz.prog.info? 35).map (·.size == 0)=some false:=by kernel_rfl
theorem nz4:(Tryz.prog.info? 4).map (·.size == 0)=some false:=by kernel_rfl
theorem ME:(Tryz.prog.info? 41).map (·.size == 0)=some false:=by kernel_rfl
theorem PM:(Tryz.prog.info? 42).map (·.size == 0)=some false:=by kernel_rfl
theorem P0:(Tryz.prog.info? 43).map (·.size == 0)=some false:=by kernel_rfl
theorem Pf:(Tryz.prog.info? 47).map (·.size == 0)=some false:=by kernel_rfl
theorem O1:(Tryz.prog.info? 52).map (·.size == 0)=some false:=by kernel_rfl
theorem tz:(Tryz.prog.info? 62).map (·.size == 0)=some false:=by kernel_rfl
theorem nz9:(Tryz.prog.info? 9).map (·.size == 0)=some false:=by kernel_rfl
theorem Qc:Tryz.prog.stoodInHeld 64=false:=by kernel_rfl
theorem OR:(Tryz.prog.info? 104).map (·.size)=some 1:=by kernel_rfl
theorem Ob:(Tryz.prog.info? 112).map (·.size)=some 6:=by kernel_rfl
theorem Es:(Tryz.prog.info? 125).map (·.size)=some 3:=by kernel_rfl
theorem O8:(Tryz.prog.info? 22).map (·.size)=some 1:=by kernel_rfl
theorem EH:(Tryz.prog.info? 227).map (·.size)=some 8:=by kernel_rfl
theorem uM:(Tryz.prog.info? 228).map (·.size)=some 8:=by kernel_rfl
theorem P1:(Tryz.prog.info? 23).map (·.size)=some 1:=by kernel_rfl
theorem N9:(Tryz.prog.info? 231).map (·.size)=some 146:=by kernel_rfl
theorem Nt:(Tryz.prog.info? 26).map (·.size)=some 3:=by kernel_rfl
theorem sz3:(Tryz.prog.info? 3).map (·.size)=some 1:=by kernel_rfl
theorem Qo:(Tryz.prog.info? 33).map (·.size)=some 1:=by kernel_rfl
theorem Pn:(Tryz.prog.info? 35).map (·.size)=some 1:=by kernel_rfl
theorem sz4:(Tryz.prog.info? 4).map (·.size)=some 1:=by kernel_rfl
theorem QD:(Tryz.prog.info? 45).map (·.size)=some 7:=by kernel_rfl
theorem PK:(Tryz.prog.info? 47).map (·.size)=some 1:=by kernel_rfl
theorem sz5:(Tryz.prog.info? 5).map (·.size)=some 1:=by kernel_rfl
theorem QG:(Tryz.prog.info? 52).map (·.size)=some 2:=by kernel_rfl
theorem Qj:(Tryz.prog.info? 54).map (·.size)=some 15:=by kernel_rfl
theorem No:(Tryz.prog.info? 62).map (·.size)=some 1:=by kernel_rfl
theorem yR:(Tryz.prog.info? 64).map (·.size)=some 4:=by kernel_rfl
theorem N1:(Tryz.prog.info? 69).map (·.size)=some 5:=by kernel_rfl
theorem sz9:(Tryz.prog.info? 9).map (·.size)=some 1:=by kernel_rfl
theorem Pu:(Tryz.prog.info? 92).map (·.size)=some 1:=by kernel_rfl
theorem Qb:(Tryz.prog.info? 97).map (·.size)=some 1:=by kernel_rfl
theorem Oi:(Tryz.prog.info? 112).map (·.zero)=some (some (.agg #[.int .i64 0,.int .i64 0,.int .u64 0,.bool false,.int .i64 0,.slice none 0 0])):=by kernel_rfl
theorem DZ:(Tryz.prog.info? 125).map (·.zero)=some (some (.agg #[.pointer none,.pointer none,.pointer none])):=by kernel_rfl
theorem JA:(Tryz.prog.info? 168).map (·.zero)=some (some (.agg #[.int .u8 0,.int .u8 0,.int .u8 0,.int .u8 0,.int .u8 0,.int .u8 0,.int .u8 0,.int .u8 0])):=by kernel_rfl
theorem N5:(Tryz.prog.info? 194).map (·.zero)=some (some (.agg #[.bool false,.slice none 0 0])):=by kernel_rfl
theorem OA:(Tryz.prog.info? 231).map (·.zero)=some (some (.agg #[.int .i64 0,.int .u32 0,.int .u32 0,.int .u32 0,.int .u32 0,.int .u32 0,.int .u32 0,.int .u32 0,.int .u32 0,.int .u64 0,.int .u64 0,.int .u64 0,.int .u64 0,.int .u64 0,.int .u64 0,.int .u64 0,.int .u64 0,.int .u8 0,.int .u8 0,.int .u8 0,.int .u8 0,.int .u8 0,.int .u8 0,.int .u8 0,.int .u8 0,.int .u8 0,.int .u8 0,.int .u8 0,.int .u8 0,.int .u8 0,.int .u8 0,.int .u8 0,.int .u8 0,.int .u8 0,.int .u8 0,.int .u8 0,.int .u8 0,.int .u8 0,.int .u8 0,.int .u8 0,.int .u8 0,.int .u8 0,.int .u8 0,.int .u8 0,.int .u8 0,.int .u8 0,.int .u8 0,.int .u8 0,.int .u8 0,.int .u8 0,.int .u8 0,.int .u8 0,.int .u8 0,.int .u8 0,.int .u8 0,.int .u8 0,.int .u8 0,.int .u8 0,.int .u8 0,.int .u8 0,.int .u8 0,.int .u8 0,.int .u8 0,.int .u8 0,.int .u8 0,.int .u8 0,.int .u8 0,.int .u8 0,.int .u8 0,.int .u8 0,.int .u8 0,.int .u8 0,.int .u8 0,.int .u8 0,.int .u8 0,.int .u8 0,.int .u8 0,.int .u8 0,.int .u8 0,.int .u8 0,.int .u8 0,.int .u8 0,.int .u8 0,.int .u8 0,.int .u8 0,.int .u8 0,.int .u8 0,.int .u8 0,.int .u8 0,.int .u8 0,.int .u8 0,.int .u8 0,.int .u8 0,.int .u8 0,.int .u8 0,.int .u8 0,.int .u8 0,.int .u8 0,.int .u8 0,.int .u8 0,.int .u8 0,.int .u8 0,.int .u8 0,.int .u8 0,.int .u8 0,.int .u8 0,.int .u8 0,.int .u8 0,.int .u8 0,.int .u8 0,.int .u8 0,.int .u8 0,.int .u8 0,.int .u8 0,.int .u8 0,.int .u8 0,.int .u8 0,.int .u8 0,.int .u8 0,.int .u8 0,.int .u8 0,.int .u8 0,.int .u8 0,.int .u8 0,.int .u8 0,.int .u8 0,.int .u8 0,.int .u8 0,.int .u8 0,.int .u8 0,.int .u8 0,.int .u8 0,.int .u8 0,.int .u8 0,.int .u8 0,.int .u8 0,.int .u8 0,.int .u8 0,.int .u8 0,.int .u8 0,.int .u8 0,.int .u8 0,.int .u8 0,.int .u8 0,.int .u8 0,.int .u64 0])):=by kernel_rfl
theorem Qh:(Tryz.prog.info? 26).map (·.zero)=some (some (.agg #[.slice none 0 0,.slice none 0 0,.bool false])):=by kernel_rfl
theorem Om:(Tryz.prog.info? 262).map (·.zero)=some (some (.agg #[.int .u32 0,.int .u32 0,.int .u32 0,.int .u32 0,.int .u32 0,.int .u32 0,.int .u32 0,.int .u32 0,.int .u32 0,.int .u32 0,.int .u32 0,.int .u32 0,.int .u32 0,.int .u32 0,.int .u32 0,.int .u32 0,.int .u32 0,.int .u32 0,.int .u32 0,.int .u32 0,.int .u32 0,.int .u32 0,.int .u32 0,.int .u32 0,.int .u32 0,.int .u32 0,.int .u32 0,.int .u32 0,.int .u32 0,.int .u32 0,.int .u32 0,.int .u32 0,.int .u32 0,.int .u32 0,.int .u32 0,.int .u32 0,.int .u32 0,.int .u32 0,.int .u32 0,.int .u32 0,.int .u32 0,.int .u32 0,.int .u32 0,.int .u32 0,.int .u32 0,.int .u32 0,.int .u32 0,.int .u32 0,.int .u32 0,.int .u32 0,.int .u32 0,.int .u32 0,.int .u32 0,.int .u32 0,.int .u32 0,.int .u32 0,.int .u32 0,.int .u32 0,.int .u32 0,.int .u32 0,.int .u32 0,.int .u32 0,.int .u32 0,.int .u32 0])):=by kernel_rfl
theorem OK:(Tryz.prog.info? 264).map (·.zero)=some (some (.agg #[.int .u64 0,.int .u64 0,.int .u64 0,.int .u64 0,.int .u64 0,.int .u64 0,.int .u64 0,.int .u64 0,.int .u64 0,.int .u64 0,.int .u64 0,.int .u64 0,.int .u64 0,.int .u64 0,.int .u64 0,.int .u64 0,.int .u64 0,.int .u64 0,.int .u64 0,.int .u64 0,.int .u64 0,.int .u64 0,.int .u64 0,.int .u64 0,.int .u64 0,.int .u64 0,.int .u64 0,.int .u64 0,.int .u64 0,.int .u64 0,.int .u64 0,.int .u64 0,.int .u64 0,.int .u64 0,.int .u64 0,.int .u64 0,.int .u64 0,.int .u64 0,.int .u64 0,.int .u64 0,.int .u64 0,.int .u64 0,.int .u64 0,.int .u64 0,.int .u64 0,.int .u64 0,.int .u64 0,.int .u64 0,.int .u64 0,.int .u64 0,.int .u64 0,.int .u64 0,.int .u64 0,.int .u64 0,.int .u64 0,.int .u64 0,.int .u64 0,.int .u64 0,.int .u64 0,.int .u64 0,.int .u64 0,.int .u64 0,.int .u64 0,.int .u64 0,.int .u64 0,.int .u64 0,.int .u64 0,.int .u64 0,.int .u64 0,.int .u64 0,.int .u64 0,.int .u64 0,.int .u64 0,.int .u64 0,.int .u64 0,.int .u64 0,.int .u64 0,.int .u64 0,.int .u64 0,.int .u64 0])):=by kernel_rfl
theorem tz3:(Tryz.prog.info? 3).map (·.zero)=some (some (.int .i64 0)):=by kernel_rfl
theorem Po:(Tryz.prog.info? 33).map (·.zero)=some (some (.slice none 0 0)):=by kernel_rfl
theorem tz4:(Tryz.prog.info? 4).map (·.zero)=some (some (.bool false)):=by kernel_rfl
theorem Qn:(Tryz.prog.info? 45).map (·.zero)=some (some (.agg #[.int .i64 0,.int .i64 0,.slice none 0 0,.slice none 0 0,.slice none 0 0,.slice none 0 0,.slice none 0 0])):=by kernel_rfl
theorem Qy:(Tryz.prog.info? 52).map (·.zero)=some (some (.agg #[.bool false,.int .i64 0])):=by kernel_rfl
theorem PB:(Tryz.prog.info? 54).map (·.zero)=some (some (.agg #[.slice none 0 0,.string ⟨#[]⟩,.bool false,.string ⟨#[]⟩,.bool false,.slice none 0 0,.bool false,.string ⟨#[]⟩,.bool false,.bool false,.int .i64 0,.bool false,.int .i64 0,.bool false,.int .i64 0])):=by kernel_rfl
theorem Nd:(Tryz.prog.info? 64).map (·.zero)=some (some (.agg #[.int .i64 0,.int .u64 0,.string ⟨#[]⟩,.int .i64 0])):=by kernel_rfl
theorem LV:(Tryz.prog.info? 69).map (·.zero)=some (some (.agg #[.int .i64 0,.string ⟨#[]⟩,.string ⟨#[]⟩,.string ⟨#[]⟩,.string ⟨#[]⟩])):=by kernel_rfl
theorem PC:(Tryz.prog.info? 92).map (·.zero)=some (some (.nilFunc)):=by kernel_rfl
theorem u22:type_of% Tryz.underlying22:=Tryz.underlying22
theorem u23:type_of% Tryz.underlying23:=Tryz.underlying23
theorem u33:type_of% Tryz.underlying33:=Tryz.underlying33
theorem u62:type_of% Tryz.underlying62:=Tryz.underlying62
theorem u69:type_of% Tryz.underlying69:=Tryz.underlying69
theorem u120:type_of% Tryz.underlying120:=Tryz.underlying120
theorem u125:type_of% Tryz.underlying125:=Tryz.underlying125
theorem u168:type_of% Tryz.underlying168:=Tryz.underlying168
theorem u194:type_of% Tryz.underlying194:=Tryz.underlying194
theorem u231:type_of% Tryz.underlying231:=Tryz.underlying231
end Go.Proofs
namespace Go.Gk
theorem St.f:type_of% @St.pk:=@St.pk
theorem St.j:type_of% @St.back:=@St.back
abbrev OE.p:=@OE.kept
theorem RB.p:type_of% @RB.kept:=@RB.kept
theorem RP.p:type_of% @RP.kept:=@RP.kept
theorem Fz.q:type_of% @Fz.start:=@Fz.start
theorem St.q:type_of% @St.start:=@St.start
theorem Up.r:type_of% @Up.skip:=@Up.skip
theorem St.s:type_of% @St.bxc:=@St.bxc
end Go.Gk
theorem Go.Gk.Z:∀{α:Sort _}{a:α},a=a:=rfl
