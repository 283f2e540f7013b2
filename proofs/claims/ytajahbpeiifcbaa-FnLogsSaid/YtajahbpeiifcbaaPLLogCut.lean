/- LogCut of the program and of the reference tell the same. No condition. -/
import Derived.Test.YtajahbpeiifcbaaPLTermAt
import Derived.Test.YtajahbpeiifcbaaPLCopyLog
import Derived.Test.YtajahbpeiifcbaaTLe1
namespace Go.Proofs.Ytajahbpeiifcbaa.E.TL
open Go.Proofs.Ytajahbpeiifcbaa.E
set_option linter.unusedVariables false
theorem logCut_same (l : impl_Log) (i : Int) (hl : l.List.length ≤ 1048576) (hb : InI l.Base) (hi : InI i) : ∃ y : impl_Log, s_LogCut l i = some (y, ()) ∧ i_LogCut l i = some (y, ()) ∧ y.List.length ≤ 1048576 := by
  obtain ⟨t, t1, t2, t3⟩ := termAt_same l i (by omega) hb hi
  rw [s_LogCut_eq, i_LogCut_eq, at_ok l i (by omega) hb hi, there_ok l (by omega), copyLog_ok l (by omega), cloneLog_ok l (by omega), t2]
  simp only [Option.bind_some, decide_eq_true_eq]
  have hi' := has_iff l i
  have hlen := there_len l
  unfold InI at *
  by_cases h : Has_ l i
  · have h' := hi'.1 h
    have hh := h
    unfold Has_ at hh
    have e1 : w64 (l.Base + ((thereOf l).length : Int)) = l.Base + (thereOf l).length := w64_id (by omega) (by split at hlen <;> omega)
    have e2 : w64 (i - l.Base) = i - l.Base := w64_id (by omega) (by omega)
    have e3 : w64 (i - l.Base - 1 + 1) = i - l.Base := by rw [w64_id (by omega) (by omega)]; omega
    have c1 : ¬ i - l.Base - 1 < 0 := by omega
    have c2 : 0 ≤ i - l.Base - 1 ∧ i - l.Base - 1 < (l.List.length : Int) := by omega
    have c3 : ¬ i ≤ l.Base := by omega
    have c4 : ¬ ((thereOf l).length : Int) = 0 := by omega
    have c5 : ¬ i > l.Base + (thereOf l).length := by omega
    have c6 : 0 ≤ i - l.Base ∧ i - l.Base ≤ (l.List.length : Int) := by omega
    have c7 : 0 + List.length (List.take (l.List.length - (i - l.Base).toNat) (List.drop (i - l.Base).toNat l.List)) ≤ room := by
      rw [List.length_take, List.length_drop, room_eq]; omega
    have c8 : List.length (List.take (l.List.length - (i - l.Base).toNat) (List.drop (i - l.Base).toNat l.List)) ≤ 1048576 := by
      rw [List.length_take, List.length_drop]; omega
    simp only [if_pos h, e1, e2, e3, if_neg c1, if_pos c2, if_neg c3, if_neg c4, if_neg c5, if_pos c6, if_pos c7]
    rw [clone_Entry _ (by omega), t3 h]
    exact ⟨_, rfl, rfl, c8⟩
  · simp only [if_neg h]
    have h' : ¬ (l.Base < i ∧ 0 < ((thereOf l).length : Int) ∧ i ≤ l.Base + (thereOf l).length) := fun x => h (hi'.2 x)
    refine ⟨l, rfl, ?_, hl⟩
    by_cases c1 : i ≤ l.Base
    · simp only [if_pos c1]
    · simp only [if_neg c1]
      by_cases c2 : ((thereOf l).length : Int) = 0
      · simp only [if_pos c2]
      · have e1 : w64 (l.Base + ((thereOf l).length : Int)) = l.Base + (thereOf l).length := w64_id (by omega) (by split at hlen <;> omega)
        have c3 : i > l.Base + ((thereOf l).length : Int) := by omega
        simp only [if_neg c2, e1, if_pos c3]
end Go.Proofs.Ytajahbpeiifcbaa.E.TL
