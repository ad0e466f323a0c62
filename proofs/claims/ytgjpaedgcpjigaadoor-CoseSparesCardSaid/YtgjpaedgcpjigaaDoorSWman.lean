import Derived.Test.YtgjpaedgcpjigaaDoorProg
import Derived.Test.YtgjpaedgcpjigaaDoorGkI
import Derived.Test.YtgjpaedgcpjigaaDoorGkFman
import Derived.Test.YtgjpaedgcpjigaaDoorGkFman2
import Derived.Shelf.Unicode.ValidAny
set_option linter.unusedVariables false
set_option linter.unusedSimpArgs false
namespace Go.Proofs
open Go Go.RowKit Go.Gk Go.Shelf Go.Lib
def Tryd.laysValid_ren : Go.Shelf.Ren :=
  {
    f := fun x =>
      match x with
      | 196 => 53
      | 259 => 69
      | n => n,
    t := fun x =>
      match x with
      | 9 => 9
      | 4 => 4
      | 3 => 3
      | 5 => 5
      | 12 => 12
      | 119 => 120
      | 0 => 0
      | 46 => 79
      | 139 => 123
      | 138 => 122
      | 53 => 40
      | n => n,
    g := fun x =>
      match x with
      | 3 => 0
      | 4 => 1
      | n => n }
theorem Tryd.laysValid : Lays.n196 Tryd.prog Tryd.laysValid_ren :=
  { mixed := Eq.refl true, f196 := Eq.trans Tryd.func53 (congrArg some (Eq.refl (Body.n196 Tryd.laysValid_ren))),
    f259 := Eq.trans Tryd.func69 (congrArg some (Eq.refl (Body.n259 Tryd.laysValid_ren))), t0 := Tryd.underlying0,
    a0 := Tryd.isAgg0, z0 := Tryd.sizeOf0, v0 := Tryd.zeroValue0, t3 := Tryd.underlying3, a3 := Tryd.isAgg3,
    z3 := Tryd.sizeOf3, v3 := Tryd.zeroValue3, t4 := Tryd.underlying4, a4 := Tryd.isAgg4, z4 := Tryd.sizeOf4,
    v4 := Tryd.zeroValue4, t5 := Tryd.underlying5, a5 := Tryd.isAgg5, z5 := Tryd.sizeOf5, v5 := Tryd.zeroValue5,
    t9 := Tryd.underlying9, a9 := Tryd.isAgg9, z9 := Tryd.sizeOf9, v9 := Tryd.zeroValue9, t12 := Tryd.underlying12,
    a12 := Tryd.isAgg12, z12 := Tryd.sizeOf12, v12 := Tryd.zeroValue12, t46 := Tryd.underlying79, a46 := Tryd.isAgg79,
    z46 := Tryd.sizeOf79, v46 := Tryd.zeroValue79, t53 := Tryd.underlying40, a53 := Tryd.isAgg40, z53 := Tryd.sizeOf40,
    v53 := Tryd.zeroValue40, t119 := Tryd.underlying120, a119 := Tryd.isAgg120, z119 := Tryd.sizeOf120,
    t138 := Tryd.underlying122, a138 := Tryd.isAgg122, z138 := Tryd.sizeOf122, v138 := Tryd.zeroValue122,
    t139 := Tryd.underlying123, a139 := Tryd.isAgg123, z139 := Tryd.sizeOf123, v139 := Tryd.zeroValue123,
    g3 := by kernel_rfl, g4 := by kernel_rfl }
def TB (S : List Nat) (w : World) : Prop := Lib.Utf8Tabs 0 1 w ∧ 0 ∉ S ∧ 1 ∉ S
theorem tab_fr {S : List Nat} {w w' : World} {b k : Nat} {u : Value} (hf : Fr S w w') (hb : b ∉ S) (h : w.cell? ⟨b, k, none⟩ = some u) : w'.cell? ⟨b, k, none⟩ = some u := by
  rw [hf.cell (cell_lt h) hb]; exact h
theorem TB.fr {S R : List Nat} {w w' : World} (h : TB S w) (hf : Fr S w w') (h3 : 0 ∉ R) (h4 : 1 ∉ R) : TB R w' :=
  ⟨⟨fun c hc => tab_fr hf h.2.1 (h.1.1 c hc), fun i hi => ⟨tab_fr hf h.2.2 (h.1.2 i hi).1, tab_fr hf h.2.2 (h.1.2 i hi).2⟩⟩, h3, h4⟩
theorem TB.now {S : List Nat} {w w' : World} (h : TB S w) (hf : Fr S w w') : TB [] w' := h.fr hf (by simp) (by simp)
theorem TB.out {S : List Nat} {w0 w : World} {os0 os : List OE} {b : Nat} {u : Value} (hG : St S w0 w (os0 ++ os)) (hb : b ∉ S) (hc : w0.cell? ⟨b, 0, none⟩ = some u) : b ∉ blks os0 := fun hm => by
  obtain ⟨o, ho, hob⟩ := mem_blks.1 hm
  rcases ((hG.ok o (List.mem_append_left _ ho)).lt hob).2 with h1 | h1
  · have := cell_lt hc; simp only at this; omega
  · exact hb h1
theorem TB.give {S : List Nat} {w0 w : World} {os0 os : List OE} (h : TB S w0) (hG : St S w0 w (os0 ++ os)) : TB (blks os0) w :=
  h.fr hG.fr (TB.out hG h.2.1 (h.1.1 0 (by decide))) (TB.out hG h.2.2 (h.1.2 0 (by decide)).1)
theorem c_unicode_utf8_ValidString (w0 : World) (a0 : List UInt8) (hT : TB [] w0) (r : Bool) (h : F.unicode_utf8_ValidString a0 = some r) :
    Calls Tryd.prog 53 #[vS a0] w0 (Ret fun v w => v = vB r ∧ St [] w0 w []) := by
  unfold F.unicode_utf8_ValidString at h
  split at h
  · rename_i hl
    cases h
    have hc := Any.utf8_ValidString Tryd.laysValid ⟨⟨a0⟩⟩ w0 (by simpa [size_mk] using hl) hT.1
    refine Calls.mono hc fun e w' he => ?_
    obtain ⟨rfl, hb⟩ := he
    exact ⟨rfl, ⟨hb.os, hb.tape, hb.output, hb.size, fun k hk _ => hb.block k hk⟩, by simp, List.Pairwise.nil⟩
  · cases h
theorem zero50 : (Tryd.prog.info? 50).map (·.zero) = some (some (.int .i64 0)) := by kernel_rfl
theorem c_cose_algorithm (w0 : World) (a0 : UInt64) (r : Int) (h : F.cose_algorithm a0 = some r) : Calls Tryd.prog 56 #[v64 a0] w0 (Ret fun v w => v = vI r ∧ St [] w0 w []) := by
  refine calls_at 7 Tryd.func56 rfl rfl rfl ?_
  have hS := St.start w0
  refine wpC_le [(0, v64 a0)] ⟨rfl, trivial⟩ ?_
  unfold F.cose_algorithm at h
  refine wpC_seq ?_
  refine wpC_region ?_
  refine wpR_v (OpV_assign rfl) rfl ?_
  refine wpR_nil ?_
  refine QE_then_n ?_
  refine wpC_seq ?_
  refine wpC_region ?_
  refine wpR_x (OpX_makeMap hS) rfl ?_
  rintro _ w ⟨q, rfl, hM⟩
  refine wpR_y (OpY_insert Tryd.underlying125 Tryd.underlying40 rfl hM rfl) ?_
  intro w hM
  refine wpR_y (OpY_insert Tryd.underlying125 Tryd.underlying40 rfl hM rfl) ?_
  intro w hM
  refine wpR_y (OpY_insert Tryd.underlying125 Tryd.underlying40 rfl hM rfl) ?_
  intro w hM
  refine wpR_y (OpY_insert Tryd.underlying125 Tryd.underlying40 rfl hM rfl) ?_
  intro w hM
  refine wpR_y (OpY_insert Tryd.underlying125 Tryd.underlying40 rfl hM rfl) ?_
  intro w hM
  refine wpR_y (OpY_insert Tryd.underlying125 Tryd.underlying40 rfl hM rfl) ?_
  intro w hM
  refine wpR_y (OpY_insert Tryd.underlying125 Tryd.underlying40 rfl hM rfl) ?_
  intro w hM
  refine wpR_y (OpY_insert Tryd.underlying125 Tryd.underlying40 rfl hM rfl) ?_
  intro w hM
  refine wpR_y (OpY_insert Tryd.underlying125 Tryd.underlying40 rfl hM rfl) ?_
  intro w hM
  refine wpR_v (OpV_move rfl) rfl ?_
  refine wpR_v (OpV_move rfl) rfl ?_
  have key : ∃ res, Instr.findNow (.int .u64) (.int .u64 (a0.toNat : Int)) [⟨.int .u64 6, .int .i64 10, 0⟩, ⟨.int .u64 34, .int .i64 11, 1⟩, ⟨.int .u64 7, .int .i64 12, 2⟩, ⟨.int .u64 36, .int .i64 7, 3⟩, ⟨.int .u64 37, .int .i64 8, 4⟩, ⟨.int .u64 38, .int .i64 9, 5⟩, ⟨.int .u64 256, .int .i64 4, 6⟩, ⟨.int .u64 257, .int .i64 5, 7⟩, ⟨.int .u64 258, .int .i64 6, 8⟩] 0 = some res ∧ (res.map (·.2)).getD (.int .i64 0) = vI r := by
    have e : ∀ k : UInt64, (a0 = k) = ((a0.toNat : Int) = (k.toNat : Int)) := fun k => propext ⟨fun h => by rw [h], fun h => UInt64.toNat_inj.1 (by omega)⟩
    simp only [e] at h
    simp only [Instr.findNow, Instr.sameNow, if_true]
    generalize (a0.toNat : Int) = z at h ⊢
    by_cases h6 : z = 6
    · subst h6; simp at h; subst h; exact ⟨_, rfl, rfl⟩
    by_cases h34 : z = 34
    · subst h34; simp at h; subst h; exact ⟨_, rfl, rfl⟩
    by_cases h7 : z = 7
    · subst h7; simp at h; subst h; exact ⟨_, rfl, rfl⟩
    by_cases h36 : z = 36
    · subst h36; simp at h; subst h; exact ⟨_, rfl, rfl⟩
    by_cases h37 : z = 37
    · subst h37; simp at h; subst h; exact ⟨_, rfl, rfl⟩
    by_cases h38 : z = 38
    · subst h38; simp at h; subst h; exact ⟨_, rfl, rfl⟩
    by_cases h256 : z = 256
    · subst h256; simp at h; subst h; exact ⟨_, rfl, rfl⟩
    by_cases h257 : z = 257
    · subst h257; simp at h; subst h; exact ⟨_, rfl, rfl⟩
    by_cases h258 : z = 258
    · subst h258; simp at h; subst h; exact ⟨_, rfl, rfl⟩
    have g : ∀ k : Int, (z == k) = decide (z = k) := fun k => by by_cases h : z = k <;> simp [h]
    simp [h6, h34, h7, h36, h37, h38, h256, h257, h258] at h
    subst h
    simp only [g, h6, h34, h7, h36, h37, h38, h256, h257, h258, decide_false]
    exact ⟨none, rfl, rfl⟩
  obtain ⟨res, hf, hv⟩ := key
  refine wpR_v (OpV_lookup Tryd.underlying125 Tryd.underlying40 rfl rfl hM hf zero50) rfl ?_
  refine wpR_v (OpV_assign rfl) rfl ?_
  refine wpR_nil ?_
  refine QE_then_n ?_
  refine wpC_ret ?_
  exact QE_ret1 rfl rfl ⟨hv, ⟨hM.1, by simp, List.Pairwise.nil⟩⟩
end Go.Proofs
