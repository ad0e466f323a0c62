import Derived.Test.YtmmlnghanonbjaaGkP6
set_option linter.unusedVariables false
set_option linter.unusedSimpArgs false
set_option linter.unusedSimpArgs false
set_option linter.unusedVariables false
set_option linter.unusedSectionVars false
namespace Go.Gk
theorem law1_awake_eq : F.law1_awake = some true := by
  unfold F.law1_awake
  rw [b64_Decode_eq _ (by decide), bind_some', b64_DecodeStd_eq _ (by decide), bind_some']
  have h1 : decU [45, 95, 56] = ([251, 255], 0, 0) := by
    have := decU_spell [251, 255]
    rwa [show spellL urlS [251, 255] = [45, 95, 56] by decide] at this
  have h2 : decS [43, 47, 56, 61] = ([251, 255], 0, 0) := by
    have := decS_spell [251, 255]
    rwa [show fillL (spellL stdS [251, 255]) = [43, 47, 56, 61] by decide] at this
  rw [h1, h2]
  dsimp only
  rw [if_pos (by decide), if_pos (by decide), if_pos (by decide), if_pos (by decide), getO_lit0, bind_some', if_pos (by decide), getO_lit1, bind_some', if_pos (by decide), b64_Encode_eq _ (by decide), bind_some', if_pos (by decide), b64_EncodeStd_eq _ (by decide), bind_some']
  rfl
section
variable (l : List UInt8) (hl : l.length ≤ 140737488355328) (q x : Nat)
include hl
end
def numSt (l : List UInt8) (q : Nat) : Int × Int × Int × Int :=
  let p := min l.length ((6 * q + 7) / 8)
  ((8 * p - 6 * q : Nat), ((l.getD (p - 1) 0).toNat % 2 ^ (8 * p - 6 * q) : Nat), (p : Nat), (q : Nat))
end Go.Gk
