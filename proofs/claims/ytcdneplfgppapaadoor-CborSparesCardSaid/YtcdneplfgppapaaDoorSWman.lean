import Derived.Test.YtcdneplfgppapaaDoorProg
import Derived.Test.YtcdneplfgppapaaDoorGkI
import Derived.Test.YtcdneplfgppapaaDoorGkFman
import Derived.Shelf.Unicode.ValidAny
set_option linter.unusedVariables false
set_option linter.unusedSimpArgs false
namespace Go.Proofs
open Go Go.RowKit Go.Gk Go.Shelf Go.Lib
def Tryd.laysValid_ren : Go.Shelf.Ren :=
  {
    f := fun x =>
      match x with
      | 196 => 46
      | 259 => 58
      | n => n,
    t := fun x =>
      match x with
      | 9 => 9
      | 4 => 4
      | 3 => 3
      | 5 => 5
      | 12 => 12
      | 119 => 89
      | 0 => 0
      | 46 => 46
      | 139 => 92
      | 138 => 91
      | 53 => 31
      | n => n,
    g := fun x =>
      match x with
      | 3 => 0
      | 4 => 1
      | n => n }
theorem Tryd.laysValid : Lays.n196 Tryd.prog Tryd.laysValid_ren :=
  { mixed := Eq.refl true, f196 := Eq.trans Tryd.func46 (congrArg some (Eq.refl (Body.n196 Tryd.laysValid_ren))),
    f259 := Eq.trans Tryd.func58 (congrArg some (Eq.refl (Body.n259 Tryd.laysValid_ren))), t0 := Tryd.underlying0,
    a0 := Tryd.isAgg0, z0 := Tryd.sizeOf0, v0 := Tryd.zeroValue0, t3 := Tryd.underlying3, a3 := Tryd.isAgg3,
    z3 := Tryd.sizeOf3, v3 := Tryd.zeroValue3, t4 := Tryd.underlying4, a4 := Tryd.isAgg4, z4 := Tryd.sizeOf4,
    v4 := Tryd.zeroValue4, t5 := Tryd.underlying5, a5 := Tryd.isAgg5, z5 := Tryd.sizeOf5, v5 := Tryd.zeroValue5,
    t9 := Tryd.underlying9, a9 := Tryd.isAgg9, z9 := Tryd.sizeOf9, v9 := Tryd.zeroValue9, t12 := Tryd.underlying12,
    a12 := Tryd.isAgg12, z12 := Tryd.sizeOf12, v12 := Tryd.zeroValue12, t46 := Tryd.underlying46, a46 := Tryd.isAgg46,
    z46 := Tryd.sizeOf46, v46 := Tryd.zeroValue46, t53 := Tryd.underlying31, a53 := Tryd.isAgg31, z53 := Tryd.sizeOf31,
    v53 := Tryd.zeroValue31, t119 := Tryd.underlying89, a119 := Tryd.isAgg89, z119 := Tryd.sizeOf89,
    t138 := Tryd.underlying91, a138 := Tryd.isAgg91, z138 := Tryd.sizeOf91, v138 := Tryd.zeroValue91,
    t139 := Tryd.underlying92, a139 := Tryd.isAgg92, z139 := Tryd.sizeOf92, v139 := Tryd.zeroValue92,
    g3 := by kernel_rfl, g4 := by kernel_rfl }
def TB (S : List Nat) (w : World) : Prop := Lib.Utf8Tabs 0 1 w ∧ 0 ∉ S ∧ 1 ∉ S
theorem tab_fr {S : List Nat} {w w' : World} {b k : Nat} {u : Value} (hf : Fr S w w') (hb : b ∉ S) (h : w.cell? ⟨b, k, none⟩ = some u) : w'.cell? ⟨b, k, none⟩ = some u := by
  rw [hf.cell (cell_lt h) hb]; exact h
theorem TB.fr {S R : List Nat} {w w' : World} (h : TB S w) (hf : Fr S w w') (h3 : 0 ∉ R) (h4 : 1 ∉ R) : TB R w' :=
  ⟨⟨fun c hc => tab_fr hf h.2.1 (h.1.1 c hc), fun i hi => ⟨tab_fr hf h.2.2 (h.1.2 i hi).1, tab_fr hf h.2.2 (h.1.2 i hi).2⟩⟩, h3, h4⟩
theorem TB.now {S : List Nat} {w w' : World} (h : TB S w) (hf : Fr S w w') : TB [] w' := h.fr hf (by simp) (by simp)
theorem TB.out {S : List Nat} {w0 w : World} {os0 os : List OE} {b : Nat} {u : Value} (hG : St S w0 w (os0 ++ os)) (hb : b ∉ S) (hc : w0.cell? ⟨b, 0, none⟩ = some u) : b ∉ blks os0 := fun hm => by
  obtain ⟨o, ho, hob⟩ := mem_blks.1 hm
  rcases ((hG.ok o (List.mem_append_left _ ho)).lt hob).2 with h1 | h1
  · have := cell_lt hc; simp only at this; omega
  · exact hb h1
theorem TB.give {S : List Nat} {w0 w : World} {os0 os : List OE} (h : TB S w0) (hG : St S w0 w (os0 ++ os)) : TB (blks os0) w :=
  h.fr hG.fr (TB.out hG h.2.1 (h.1.1 0 (by decide))) (TB.out hG h.2.2 (h.1.2 0 (by decide)).1)
theorem c_unicode_utf8_ValidString (w0 : World) (a0 : List UInt8) (hT : TB [] w0) (r : Bool) (h : F.unicode_utf8_ValidString a0 = some r) :
    Calls Tryd.prog 46 #[vS a0] w0 (Ret fun v w => v = vB r ∧ St [] w0 w []) := by
  unfold F.unicode_utf8_ValidString at h
  split at h
  · rename_i hl
    cases h
    have hc := Any.utf8_ValidString Tryd.laysValid ⟨⟨a0⟩⟩ w0 (by simpa [size_mk] using hl) hT.1
    refine Calls.mono hc fun e w' he => ?_
    obtain ⟨rfl, hb⟩ := he
    exact ⟨rfl, ⟨hb.os, hb.tape, hb.output, hb.size, fun k hk _ => hb.block k hk⟩, by simp, List.Pairwise.nil⟩
  · cases h
end Go.Proofs
