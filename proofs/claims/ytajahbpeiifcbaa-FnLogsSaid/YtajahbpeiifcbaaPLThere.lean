/- Where an index of a log leads: the program's and the reference's way. No condition. -/
import Derived.Test.YtajahbpeiifcbaaPLLog
import Derived.Test.YtajahbpeiifcbaaPLIsIndex
import Derived.Test.YtajahbpeiifcbaaTLe1
namespace Go.Proofs.Ytajahbpeiifcbaa.E.TL
open Go.Proofs.Ytajahbpeiifcbaa.E
set_option linter.unusedVariables false
theorem fine_LogI {l : laws_Log} (h : Fine (G := gam) 40 (.nm 2) l) : InI l.Base ∧ InI l.BaseTerm := by
  have h' : w64 l.Base = l.Base ∧ w64 l.BaseTerm = l.BaseTerm ∧ _ := h
  have a := w64_bd l.Base
  have b := w64_bd l.BaseTerm
  rw [h'.1] at a
  rw [h'.2.1] at b
  exact ⟨a, b⟩
/-- The index i is there. -/
abbrev Has_ (l : impl_Log) (i : Int) : Prop := l.Base < i ∧ i ≤ 300 ∧ 0 ≤ l.Base ∧ i - l.Base - 1 < (l.List.length : Int)
theorem at_ok (l : impl_Log) (i : Int) (hl : l.List.length ≤ 4294967296) (hb : InI l.Base) (hi : InI i) : s_l18At l i = some (if Has_ l i then i - l.Base - 1 else -1, ()) := by
  unfold InI at *
  rw [s_l18At_eq]
  unfold Has_
  by_cases h1 : i ≤ l.Base
  · rw [if_pos (decide_eq_true h1), if_neg (by omega)]
  · rw [if_neg (by rw [decide_eq_true_eq]; exact h1)]
    by_cases h2 : i > 300
    · rw [if_pos (decide_eq_true h2), if_neg (by omega)]
    · rw [if_neg (by rw [decide_eq_true_eq]; exact h2)]
      by_cases h3 : l.Base < 0
      · rw [if_pos (decide_eq_true h3), if_neg (by omega)]
      · rw [if_neg (by rw [decide_eq_true_eq]; exact h3), w64_id (n := i - l.Base) (by omega) (by omega), w64_id (n := i - l.Base - 1) (by omega) (by omega)]
        by_cases h4 : i - l.Base - 1 ≥ (l.List.length : Int)
        · rw [if_pos (decide_eq_true h4), if_neg (by omega)]
        · rw [if_neg (by rw [decide_eq_true_eq]; exact h4), if_pos (by omega)]
def thereOf (l : impl_Log) : List impl_Entry := if 0 ≤ l.Base ∧ l.Base ≤ 300 then l.List.take (300 - l.Base).toNat else []
theorem there_ok (l : impl_Log) (hl : l.List.length ≤ 4294967296) : i_there l = some (thereOf l, ()) := by
  rw [i_there_eq, isIndex_ok, Option.bind_some]
  unfold thereOf
  by_cases h : 0 ≤ l.Base ∧ l.Base ≤ 300
  · rw [if_neg (by simp [h]), if_pos h, w64_id (n := 300 - l.Base) (by omega) (by omega)]
    have hm : mnI (l.List.length : Int) (300 - l.Base) = min (l.List.length : Int) (300 - l.Base) := by unfold mnI; split <;> omega
    rw [hm, if_pos (by omega), List.drop_zero, Nat.sub_zero]
    congr 2
    by_cases h2 : (l.List.length : Int) ≤ 300 - l.Base
    · rw [List.take_of_length_le (by omega), List.take_of_length_le (by omega)]
    · rw [show (min (l.List.length : Int) (300 - l.Base)) = 300 - l.Base by omega]
  · rw [if_pos (by simp [h]), if_neg h]
theorem there_len (l : impl_Log) : ((thereOf l).length : Int) = if 0 ≤ l.Base ∧ l.Base ≤ 300 then min (300 - l.Base) (l.List.length : Int) else 0 := by
  unfold thereOf
  split
  · rw [List.length_take]; omega
  · rfl
theorem has_iff (l : impl_Log) (i : Int) : Has_ l i ↔ l.Base < i ∧ 0 < ((thereOf l).length : Int) ∧ i ≤ l.Base + (thereOf l).length := by
  rw [there_len]
  unfold Has_
  split <;> omega
theorem there_get (l : impl_Log) (j : Nat) (h : j < (thereOf l).length) (z : impl_Entry) : (thereOf l).getD j z = l.List.getD j z := by
  unfold thereOf at h ⊢
  split at h
  · rename_i hb
    rw [if_pos hb]
    rw [List.length_take] at h
    rw [List.getD_eq_getElem?_getD, List.getD_eq_getElem?_getD, List.getElem?_take, if_pos (by omega)]
  · cases h
end Go.Proofs.Ytajahbpeiifcbaa.E.TL
