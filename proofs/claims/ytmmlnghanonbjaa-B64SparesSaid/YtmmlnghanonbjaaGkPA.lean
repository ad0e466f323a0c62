import Derived.Test.YtmmlnghanonbjaaGkSp
import Derived.Test.YtmmlnghanonbjaaGkP7
set_option linter.unusedVariables false
set_option linter.unusedSimpArgs false
set_option linter.unusedSimpArgs false
set_option linter.unusedVariables false
namespace Go.Gk
open Go
theorem decU_len (l : List UInt8) : (decU l).1.length ≤ l.length := by
  unfold decU
  split
  · simp
  · split
    · simp
    · split
      · simp only [readL_length]; omega
      · simp
theorem decS_len (l : List UInt8) : (decS l).1.length ≤ l.length := by
  have := stdEnd_le l
  unfold decS
  split
  · simp
  · split
    · simp
    · split
      · simp only [readL_length, List.length_take]; omega
      · simp
theorem law1_B64Spares_eq (s : List UInt8) (hl : s.length ≤ 140737488355328) : F.law1_B64Spares s = some true := by
  have l1 := decU_len s
  have l2 := decS_len s
  unfold F.law1_B64Spares
  rw [law1_awake_eq, bind_some']
  simp only [Bool.not_true, Bool.false_eq_true, if_false, b64_Decode_eq s (by omega), b64_DecodeStd_eq s (by omega), bind_some', bne_self_eq_false]
  generalize hR : decU s = R at *
  generalize hT : decS s = T at *
  rw [law1_same_self _ (by omega), bind_some', law1_same_self _ (by omega), bind_some']
  simp only [Bool.not_true, Bool.false_eq_true, if_false, F.law1_B64Spares_K1]
  rw [law1_roomy_eq _ (by omega), bind_some', law1_roomy_eq _ (by omega), bind_some']
  rw [fill_loop (c := 69) (X := fun l => loop (F.law1_B64Spares_L2 R T (R.1 ++ List.replicate 9 165, R.1.length) (T.1 ++ List.replicate 9 165, T.1.length) l s R T) (0, T.1)) (fun i l => rfl) R.1 (by omega)]
  rw [fill_loop (c := 68) (X := fun l => obind (F.law1_same R.1 ((R.1 ++ List.replicate 9 165).take R.1.length)) fun x =>
    if (!x) = true then F.law1_B64Spares_K2 (List.replicate R.1.length 69) R l T s R T (R.1 ++ List.replicate 9 165, R.1.length) (T.1 ++ List.replicate 9 165, T.1.length) true
    else obind (F.law1_same T.1 ((T.1 ++ List.replicate 9 165).take T.1.length)) fun y => F.law1_B64Spares_K2 (List.replicate R.1.length 69) R l T s R T (R.1 ++ List.replicate 9 165, R.1.length) (T.1 ++ List.replicate 9 165, T.1.length) (!y)) (fun i l => rfl) T.1 (by omega)]
  simp only [List.take_left]
  rw [law1_same_self _ (by omega), bind_some', law1_same_self _ (by omega), bind_some']
  simp only [Bool.not_true, Bool.false_eq_true, if_false, F.law1_B64Spares_K2]
  rw [fill_loop (c := 70) (fun i l => rfl) _ (by simp; omega), fill_loop (c := 71) (fun i l => rfl) _ (by omega), fill_loop (c := 72) (fun i l => rfl) _ (by simp; omega), fill_loop (c := 73) (fun i l => rfl) _ (by omega)]
  simp only [List.length_replicate]
  rw [more_loop (c := 80) (bytes := 1) (fun l k => rfl) _ (by simp; omega), more_loop (c := 81) (bytes := 1) (fun l k => rfl) _ (by simp; omega), more_loop (c := 82) (bytes := 1) (fun l k => rfl) _ (by simp; omega), more_loop (c := 83) (bytes := 1) (fun l k => rfl) _ (by simp; omega)]
  refine look_to R.1.length 70 80 (fun x => x != UInt8.ofInt 70) (fun x => x != UInt8.ofInt 80) rfl rfl (by omega) (fun i => rfl) ?_
  refine look_to R.1.length 71 81 (fun x => x != UInt8.ofInt 71) (fun x => x != UInt8.ofInt 81) rfl rfl (by omega) (fun i => rfl) ?_
  refine look_to T.1.length 72 82 (fun x => x != UInt8.ofInt 72) (fun x => x != UInt8.ofInt 82) rfl rfl (by omega) (fun i => rfl) ?_
  refine look_to T.1.length 73 83 (fun x => x != UInt8.ofInt 73) (fun x => x != UInt8.ofInt 83) rfl rfl (by omega) (fun i => rfl) ?_
  rw [b64_Decode_eq s (by omega), bind_some', b64_DecodeStd_eq s (by omega), bind_some', hR, hT]
  simp only [beq_self_eq_true, if_true, List.take_left]
  rw [law1_same_self _ (by omega), bind_some', law1_same_self _ (by omega), bind_some']
  rfl
end Go.Gk
