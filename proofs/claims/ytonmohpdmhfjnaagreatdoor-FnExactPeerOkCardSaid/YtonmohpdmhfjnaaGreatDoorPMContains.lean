/- Whether a text has a byte. No condition. -/
import Derived.Test.YtonmohpdmhfjnaaGreatDoorPBase
import Derived.Test.YtonmohpdmhfjnaaGreatDoorTMe1
import Derived.Test.YtonmohpdmhfjnaaGreatDoorTMe2
namespace Go.Proofs.YtonmohpdmhfjnaaGreatDoor.E.TM
open Go.Proofs.YtonmohpdmhfjnaaGreatDoor.E
set_option linter.unusedVariables false
theorem idx_mem (l : List Int) (c : Int) : 0 ≤ idxI l c ↔ c ∈ l := by
  induction l with
  | nil => simp [idxI]
  | cons b l ih =>
    have := idxI_bd l c
    unfold idxI
    rw [List.mem_cons]
    by_cases hb : b = c
    · rw [if_pos hb]; simp [hb]
    · rw [if_neg hb]
      have hb' : ¬ c = b := fun h => hb h.symm
      by_cases hi : idxI l c = -1
      · rw [if_pos hi]
        constructor
        · intro h; omega
        · rintro (h | h)
          · exact absurd h hb'
          · have := ih.2 h; omega
      · rw [if_neg hi]
        constructor
        · intro h; exact .inr (ih.1 (by omega))
        · rintro (h | h)
          · exact absurd h hb'
          · have := ih.2 h; omega
theorem contains_one (l : List Int) (c : Int) : x_strings_Contains l [c] = some (decide (c ∈ l), ()) := by
  rw [x_strings_Contains_eq, x_strings_Index_eq, x_internal_stringslite_Index_eq]
  rw [if_neg (by simp)]
  by_cases h : [c] = l
  · rw [if_pos (decide_eq_true h)]
    subst h
    simp
  · rw [if_neg (by rw [decide_eq_true_eq]; exact h), if_pos (by simp), if_pos (by simp), x_internal_stringslite_IndexByte_eq, x_internal_bytealg_IndexByteString_eq]
    simp only [Option.bind_some, List.getD_cons_zero, ge_iff_le, idx_mem]
end Go.Proofs.YtonmohpdmhfjnaaGreatDoor.E.TM
