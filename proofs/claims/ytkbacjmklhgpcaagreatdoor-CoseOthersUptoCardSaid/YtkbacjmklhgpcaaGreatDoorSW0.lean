import Derived.Test.YtkbacjmklhgpcaaGreatDoorProg
import Derived.Test.YtkbacjmklhgpcaaGreatDoorQGkI
import Derived.Test.YtkbacjmklhgpcaaGreatDoorSWman
set_option linter.unusedVariables false
set_option linter.unusedSimpArgs false
set_option linter.unusedSectionVars false
abbrev L03:Go.Value:=.slice none 0 0
namespace Go.Proofs
open Go Go.RowKit Go.Gk
theorem ku:Tryz.prog.follows .mixedOrders=true:=by kernel_rfl
theorem ti3:TI Tryz.prog 3 (.int .i64 0) 1 8:=by unfold TI; kernel_rfl
theorem ti5:TI Tryz.prog 5 (.int .u8 0) 1 1:=by unfold TI; kernel_rfl
theorem ti9:TI Tryz.prog 9 (.string ⟨#[]⟩) 1 16:=by unfold TI; kernel_rfl
theorem Jx:TI Tryz.prog 22 (.slice none 0 0) 1 24:=by unfold TI; kernel_rfl
theorem FC:TI Tryz.prog 40 (.agg #[.int .i64 0,.int .u64 0,.string ⟨#[]⟩,.int .i64 0]) 4 40:=by unfold TI; kernel_rfl
theorem Sd:TI Tryz.prog 95 (.agg #[.int .i64 0,.int .i64 0,.int .u64 0,.bool false,.int .i64 0,.slice none 0 0]) 6 64:=by unfold TI; kernel_rfl
theorem QO:TI Tryz.prog 111 (.slice none 0 0) 1 24:=by unfold TI; kernel_rfl
theorem vC:TI Tryz.prog 163 (.int .u32 0) 1 4:=by unfold TI; kernel_rfl
theorem SK:Tryz.prog.eqGuardType Tryz.prog.depth 40=false:=by kernel_rfl
theorem Hi:ko Tryz.prog 122=some ([(0,1),(1,1),(2,1)],[.slice none 0 0,.slice none 0 0,vB false]):=by kernel_rfl
theorem P0:ko Tryz.prog 138=some ([(0,1),(1,1),(2,1),(3,1)],[.slice none 0 0,.slice none 0 0,.slice none 0 0,.slice none 0 0]):=by kernel_rfl
theorem Ps:ko Tryz.prog 183=some ([(0,1),(1,1),(2,1),(3,1),(4,1),(5,1),(6,1)],[.pointer none,.pointer none,.pointer none,.pointer none,.pointer none,vI 0,.nilFunc]):=by kernel_rfl
theorem Pe:ko Tryz.prog 192=some ([(0,1),(1,1),(2,1)],[.pointer none,.pointer none,.pointer none]):=by kernel_rfl
theorem OO:ko Tryz.prog 206=some ([(0,1),(1,1),(2,1),(3,1),(4,1),(5,1),(6,1),(7,1)],e32.fl (List.replicate 8 0)):=by kernel_rfl
theorem Pm:ko Tryz.prog 218=some ([(0,1),(1,1),(2,1),(3,1),(4,1),(5,1),(6,1),(7,1)],e64.fl (List.replicate 8 0)):=by kernel_rfl
theorem Pk:ko Tryz.prog 221=some ([(0,1),(1,8),(9,8),(17,128),(145,1)],[vI 0]++(e32.fl (List.replicate 8 0)++(e64.fl (List.replicate 8 0)++(e8.fl (List.replicate 128 0)++[v64 0])))):=by kernel_rfl
theorem QH:ko Tryz.prog 40=some ([(0,1),(1,1),(2,1),(3,1)],[vI 0,v64 0,vS [],vI 0]):=by kernel_rfl
theorem QT:ko Tryz.prog 52=some ([(0,1),(1,1)],[vB false,vI 0]):=by kernel_rfl
theorem Qt:ko Tryz.prog 54=some ([(0,1),(1,1),(2,1),(3,1),(4,1),(5,1),(6,1),(7,1),(8,1),(9,2),(11,2),(13,2)],[.slice none 0 0,vS [],vB false,vS [],vB false,.slice none 0 0,vB false,vS [],vB false,vB false,vI 0,vB false,vI 0,vB false,vI 0]):=by kernel_rfl
theorem QQ:ko Tryz.prog 61=some ([(0,1),(1,1),(2,1),(3,1),(4,1)],[vI 0,vS [],vS [],vS [],vS []]):=by kernel_rfl
theorem QW:ko Tryz.prog 89=some ([(0,1),(1,1),(2,1),(3,1)],[.slice none 0 0,vI 0,.slice none 0 0,.slice none 0 0]):=by kernel_rfl
theorem QZ:ko Tryz.prog 93=some ([(0,1),(1,1)],[vI 0,vI 0]):=by kernel_rfl
theorem Q5:ko Tryz.prog 95=some ([(0,1),(1,1),(2,1),(3,1),(4,1),(5,1)],[vI 0,vI 0,v64 0,vB false,vI 0,.slice none 0 0]):=by kernel_rfl
theorem vl:(Tryz.prog.info? 110).map (·.size == 0)=some false:=by kernel_rfl
theorem QG:(Tryz.prog.info? 206).map (·.size == 0)=some false:=by kernel_rfl
theorem LG:(Tryz.prog.info? 218).map (·.size == 0)=some false:=by kernel_rfl
theorem Q6:(Tryz.prog.info? 219).map (·.size == 0)=some false:=by kernel_rfl
theorem Sw:(Tryz.prog.info? 29).map (·.size == 0)=some false:=by kernel_rfl
theorem nz3:(Tryz.prog.info? 3).map (·.size == 0)=some false:=by kernel_rfl
theorem xv:(Tryz.prog.info? 38).map (·.size == 0)=some false:=by kernel_rfl
theorem nz4:(Tryz.prog.info? 4).map (·.size == 0)=some false:=by kernel_rfl
theorem Rq:(Tryz.prog.info? 69).map (·.size == 0)=some false:=by kernel_rfl
theorem nz9:(Tryz.prog.info? 9).map (·.size == 0)=some false:=by kernel_rfl
theorem RC:Tryz.prog.stoodInHeld 40=false:=by kernel_rfl
theorem Ra:(Tryz.prog.info? 110).map (·.size)=some 1:=by kernel_rfl
theorem F8:(Tryz.prog.info? 122).map (·.size)=some 3:=by kernel_rfl
theorem Qv:(Tryz.prog.info? 138).map (·.size)=some 4:=by kernel_rfl
theorem Qs:(Tryz.prog.info? 163).map (·.size)=some 1:=by kernel_rfl
theorem qG:(Tryz.prog.info? 206).map (·.size)=some 8:=by kernel_rfl
theorem zA:(Tryz.prog.info? 218).map (·.size)=some 8:=by kernel_rfl
theorem QV:(Tryz.prog.info? 221).map (·.size)=some 146:=by kernel_rfl
theorem SA:(Tryz.prog.info? 26).map (·.size)=some 7:=by kernel_rfl
theorem R3:(Tryz.prog.info? 38).map (·.size)=some 1:=by kernel_rfl
theorem F6:(Tryz.prog.info? 40).map (·.size)=some 4:=by kernel_rfl
theorem sz5:(Tryz.prog.info? 5).map (·.size)=some 1:=by kernel_rfl
theorem SU:(Tryz.prog.info? 52).map (·.size)=some 2:=by kernel_rfl
theorem SC:(Tryz.prog.info? 54).map (·.size)=some 15:=by kernel_rfl
theorem Oz:(Tryz.prog.info? 61).map (·.size)=some 5:=by kernel_rfl
theorem Se:(Tryz.prog.info? 95).map (·.size)=some 6:=by kernel_rfl
theorem LM:(Tryz.prog.info? 122).map (·.zero)=some (some (.agg #[.slice none 0 0,.slice none 0 0,.bool false])):=by kernel_rfl
theorem QA:(Tryz.prog.info? 138).map (·.zero)=some (some (.agg #[.slice none 0 0,.slice none 0 0,.slice none 0 0,.slice none 0 0])):=by kernel_rfl
theorem Q1:(Tryz.prog.info? 157).map (·.zero)=some (some (.agg #[.int .u8 0,.int .u8 0,.int .u8 0,.int .u8 0,.int .u8 0,.int .u8 0,.int .u8 0,.int .u8 0])):=by kernel_rfl
theorem QK:(Tryz.prog.info? 186).map (·.zero)=some (some (.agg #[.bool false,.slice none 0 0])):=by kernel_rfl
theorem Rg:(Tryz.prog.info? 192).map (·.zero)=some (some (.agg #[.pointer none,.pointer none,.pointer none])):=by kernel_rfl
theorem Qx:(Tryz.prog.info? 221).map (·.zero)=some (some (.agg #[.int .i64 0,.int .u32 0,.int .u32 0,.int .u32 0,.int .u32 0,.int .u32 0,.int .u32 0,.int .u32 0,.int .u32 0,.int .u64 0,.int .u64 0,.int .u64 0,.int .u64 0,.int .u64 0,.int .u64 0,.int .u64 0,.int .u64 0,.int .u8 0,.int .u8 0,.int .u8 0,.int .u8 0,.int .u8 0,.int .u8 0,.int .u8 0,.int .u8 0,.int .u8 0,.int .u8 0,.int .u8 0,.int .u8 0,.int .u8 0,.int .u8 0,.int .u8 0,.int .u8 0,.int .u8 0,.int .u8 0,.int .u8 0,.int .u8 0,.int .u8 0,.int .u8 0,.int .u8 0,.int .u8 0,.int .u8 0,.int .u8 0,.int .u8 0,.int .u8 0,.int .u8 0,.int .u8 0,.int .u8 0,.int .u8 0,.int .u8 0,.int .u8 0,.int .u8 0,.int .u8 0,.int .u8 0,.int .u8 0,.int .u8 0,.int .u8 0,.int .u8 0,.int .u8 0,.int .u8 0,.int .u8 0,.int .u8 0,.int .u8 0,.int .u8 0,.int .u8 0,.int .u8 0,.int .u8 0,.int .u8 0,.int .u8 0,.int .u8 0,.int .u8 0,.int .u8 0,.int .u8 0,.int .u8 0,.int .u8 0,.int .u8 0,.int .u8 0,.int .u8 0,.int .u8 0,.int .u8 0,.int .u8 0,.int .u8 0,.int .u8 0,.int .u8 0,.int .u8 0,.int .u8 0,.int .u8 0,.int .u8 0,.int .u8 0,.int .u8 0,.int .u8 0,.int .u8 0,.int .u8 0,.int .u8 0,.int .u8 0,.int .u8 0,.int .u8 0,.int .u8 0,.int .u8 0,.int .u8 0,.int .u8 0,.int .u8 0,.int .u8 0,.int .u8 0,.int .u8 0,.int .u8 0,.int .u8 0,.int .u8 0,.int .u8 0,.int .u8 0,.int .u8 0,.int .u8 0,.int .u8 0,.int .u8 0,.int .u8 0,.int .u8 0,.int .u8 0,.int .u8 0,.int .u8 0,.int .u8 0,.int .u8 0,.int .u8 0,.int .u8 0,.int .u8 0,.int .u8 0,.int .u8 0,.int .u8 0,.int .u8 0,.int .u8 0,.int .u8 0,.int .u8 0,.int .u8 0,.int .u8 0,.int .u8 0,.int .u8 0,.int .u8 0,.int .u8 0,.int .u8 0,.int .u8 0,.int .u8 0,.int .u8 0,.int .u8 0,.int .u8 0,.int .u8 0,.int .u8 0,.int .u64 0])):=by kernel_rfl
theorem QX:(Tryz.prog.info? 256).map (·.zero)=some (some (.agg #[.int .u32 0,.int .u32 0,.int .u32 0,.int .u32 0,.int .u32 0,.int .u32 0,.int .u32 0,.int .u32 0,.int .u32 0,.int .u32 0,.int .u32 0,.int .u32 0,.int .u32 0,.int .u32 0,.int .u32 0,.int .u32 0,.int .u32 0,.int .u32 0,.int .u32 0,.int .u32 0,.int .u32 0,.int .u32 0,.int .u32 0,.int .u32 0,.int .u32 0,.int .u32 0,.int .u32 0,.int .u32 0,.int .u32 0,.int .u32 0,.int .u32 0,.int .u32 0,.int .u32 0,.int .u32 0,.int .u32 0,.int .u32 0,.int .u32 0,.int .u32 0,.int .u32 0,.int .u32 0,.int .u32 0,.int .u32 0,.int .u32 0,.int .u32 0,.int .u32 0,.int .u32 0,.int .u32 0,.int .u32 0,.int .u32 0,.int .u32 0,.int .u32 0,.int .u32 0,.int .u32 0,.int .u32 0,.int .u32 0,.int .u32 0,.int .u32 0,.int .u32 0,.int .u32 0,.int .u32 0,.int .u32 0,.int .u32 0,.int .u32 0,.int .u32 0])):=by kernel_rfl
theorem Rj:(Tryz.prog.info? 258).map (·.zero)=some (some (.agg #[.int .u64 0,.int .u64 0,.int .u64 0,.int .u64 0,.int .u64 0,.int .u64 0,.int .u64 0,.int .u64 0,.int .u64 0,.int .u64 0,.int .u64 0,.int .u64 0,.int .u64 0,.int .u64 0,.int .u64 0,.int .u64 0,.int .u64 0,.int .u64 0,.int .u64 0,.int .u64 0,.int .u64 0,.int .u64 0,.int .u64 0,.int .u64 0,.int .u64 0,.int .u64 0,.int .u64 0,.int .u64 0,.int .u64 0,.int .u64 0,.int .u64 0,.int .u64 0,.int .u64 0,.int .u64 0,.int .u64 0,.int .u64 0,.int .u64 0,.int .u64 0,.int .u64 0,.int .u64 0,.int .u64 0,.int .u64 0,.int .u64 0,.int .u64 0,.int .u64 0,.int .u64 0,.int .u64 0,.int .u64 0,.int .u64 0,.int .u64 0,.int .u64 0,.int .u64 0,.int .u64 0,.int .u64 0,.int .u64 0,.int .u64 0,.int .u64 0,.int .u64 0,.int .u64 0,.int .u64 0,.int .u64 0,.int .u64 0,.int .u64 0,.int .u64 0,.int .u64 0,.int .u64 0,.int .u64 0,.int .u64 0,.int .u64 0,.int .u64 0,.int .u64 0,.int .u64 0,.int .u64 0,.int .u64 0,.int .u64 0,.int .u64 0,.int .u64 0,.int .u64 0,.int .u64 0,.int .u64 0])):=by kernel_rfl
theorem tz3:(Tryz.prog.info? 3).map (·.zero)=some (some (.int .i64 0)):=by kernel_rfl
theorem tz4:(Tryz.prog.info? 4).map (·.zero)=some (some (.bool false)):=by kernel_rfl
theorem Ph:(Tryz.prog.info? 40).map (·.zero)=some (some (.agg #[.int .i64 0,.int .u64 0,.string ⟨#[]⟩,.int .i64 0])):=by kernel_rfl
theorem RN:(Tryz.prog.info? 41).map (·.zero)=some (some (.slice none 0 0)):=by kernel_rfl
theorem SP:(Tryz.prog.info? 52).map (·.zero)=some (some (.agg #[.bool false,.int .i64 0])):=by kernel_rfl
theorem RK:(Tryz.prog.info? 54).map (·.zero)=some (some (.agg #[.slice none 0 0,.string ⟨#[]⟩,.bool false,.string ⟨#[]⟩,.bool false,.slice none 0 0,.bool false,.string ⟨#[]⟩,.bool false,.bool false,.int .i64 0,.bool false,.int .i64 0,.bool false,.int .i64 0])):=by kernel_rfl
theorem OW:(Tryz.prog.info? 61).map (·.zero)=some (some (.agg #[.int .i64 0,.string ⟨#[]⟩,.string ⟨#[]⟩,.string ⟨#[]⟩,.string ⟨#[]⟩])):=by kernel_rfl
theorem Sm:(Tryz.prog.info? 82).map (·.zero)=some (some (.nilFunc)):=by kernel_rfl
theorem RH:(Tryz.prog.info? 95).map (·.zero)=some (some (.agg #[.int .i64 0,.int .i64 0,.int .u64 0,.bool false,.int .i64 0,.slice none 0 0])):=by kernel_rfl
theorem u22:type_of% Tryz.underlying22:=Tryz.underlying22
theorem u38:type_of% Tryz.underlying38:=Tryz.underlying38
theorem u40:type_of% Tryz.underlying40:=Tryz.underlying40
theorem u41:type_of% Tryz.underlying41:=Tryz.underlying41
theorem u61:type_of% Tryz.underlying61:=Tryz.underlying61
theorem u110:type_of% Tryz.underlying110:=Tryz.underlying110
theorem u157:type_of% Tryz.underlying157:=Tryz.underlying157
theorem u163:type_of% Tryz.underlying163:=Tryz.underlying163
theorem u173:type_of% Tryz.underlying173:=Tryz.underlying173
theorem u186:type_of% Tryz.underlying186:=Tryz.underlying186
theorem u206:type_of% Tryz.underlying206:=Tryz.underlying206
theorem u221:type_of% Tryz.underlying221:=Tryz.underlying221
end Go.Proofs
namespace Go.Gk
theorem St.f:type_of% @St.pk:=@St.pk
theorem St.j:type_of% @St.call:=@St.call
theorem St.p:type_of% @St.back:=@St.back
abbrev OE.q:=@OE.kept
theorem RB.q:type_of% @RB.kept:=@RB.kept
theorem RP.q:type_of% @RP.kept:=@RP.kept
theorem Fz.r:type_of% @Fz.start:=@Fz.start
theorem St.r:type_of% @St.start:=@St.start
theorem Up.s:type_of% @Up.skip:=@Up.skip
theorem St.u:type_of% @St.bxc:=@St.bxc
end Go.Gk
theorem Go.Gk.Z:∀{α:Sort _}{a:α},a=a:=rfl
