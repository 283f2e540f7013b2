/- TermAt of the program and of the reference tell the same. No condition. -/
import Derived.Test.YtajahbpeiifcbaaPLThere
import Derived.Test.YtajahbpeiifcbaaTLe1
namespace Go.Proofs.Ytajahbpeiifcbaa.E.TL
open Go.Proofs.Ytajahbpeiifcbaa.E
set_option linter.unusedVariables false
theorem termAt_same (l : impl_Log) (i : Int) (hl : l.List.length ≤ 4294967296) (hb : InI l.Base) (hi : InI i) : ∃ y, s_TermAt l i = some (y, ()) ∧ i_TermAt l i = some (y, ()) ∧ (Has_ l i → y = (l.List.getD (i - l.Base - 1).toNat z_impl_Entry).Term) := by
  rw [s_TermAt_eq, i_TermAt_eq, at_ok l i hl hb hi, there_ok l hl]
  simp only [Option.bind_some, decide_eq_true_eq]
  by_cases h1 : i = l.Base
  · simp only [if_pos h1]
    exact ⟨_, rfl, rfl, fun h => absurd h.1 (by omega)⟩
  · simp only [if_neg h1]
    have hi' := has_iff l i
    have hlen := there_len l
    unfold InI at *
    by_cases h : Has_ l i
    · have h' := hi'.1 h
      have hh := h
      unfold Has_ at hh
      have e1 : w64 (l.Base + ((thereOf l).length : Int)) = l.Base + (thereOf l).length := w64_id (by omega) (by split at hlen <;> omega)
      have e2 : w64 (i - l.Base) = i - l.Base := w64_id (by omega) (by omega)
      have e3 : w64 (i - l.Base - 1) = i - l.Base - 1 := w64_id (by omega) (by omega)
      have c1 : ¬ i - l.Base - 1 < 0 := by omega
      have c2 : 0 ≤ i - l.Base - 1 ∧ i - l.Base - 1 < (l.List.length : Int) := by omega
      have c3 : i > l.Base := by omega
      have c4 : ((thereOf l).length : Int) > 0 := by omega
      have c5 : i ≤ l.Base + (thereOf l).length := by omega
      have c6 : 0 ≤ i - l.Base - 1 ∧ i - l.Base - 1 < ((thereOf l).length : Int) := by omega
      simp only [if_pos h, e1, e2, e3, if_neg c1, if_pos c2, if_pos c3, if_pos c4, if_pos c5, if_pos c6]
      rw [there_get l _ (by omega)]
      exact ⟨_, rfl, rfl, fun _ => rfl⟩
    · simp only [if_neg h]
      have h' : ¬ (l.Base < i ∧ 0 < ((thereOf l).length : Int) ∧ i ≤ l.Base + (thereOf l).length) := fun x => h (hi'.2 x)
      refine ⟨-1, rfl, ?_, fun h' => absurd h' h⟩
      by_cases c1 : i > l.Base
      · simp only [if_pos c1]
        by_cases c2 : ((thereOf l).length : Int) > 0
        · have e1 : w64 (l.Base + ((thereOf l).length : Int)) = l.Base + (thereOf l).length := w64_id (by omega) (by split at hlen <;> omega)
          have c3 : ¬ i ≤ l.Base + ((thereOf l).length : Int) := by omega
          simp only [if_pos c2, e1, if_neg c3]
        · simp only [if_neg c2]
      · simp only [if_neg c1]
end Go.Proofs.Ytajahbpeiifcbaa.E.TL
