/- The text of a mark: there is one. No condition. -/
import Derived.Test.YtonmohpdmhfjnaaGreatDoorPBase
import Derived.Test.YtonmohpdmhfjnaaGreatDoorTMe1
import Derived.Test.YtonmohpdmhfjnaaGreatDoorTMe2
import Derived.Test.YtonmohpdmhfjnaaGreatDoorTMe3
namespace Go.Proofs.YtonmohpdmhfjnaaGreatDoor.E.TM
open Go.Proofs.YtonmohpdmhfjnaaGreatDoor.E
set_option linter.unusedVariables false
theorem markText_L1_ok (n : Nat) : ∀ (k : Int) (s : List Int), k ≤ 9223372036854775807 → 0 ≤ k → k < 10 ^ n → s.length + n ≤ 1000 → ∃ t, l_markText_L1 k s = some (t, ()) := by
  induction n with
  | zero =>
    intro k s h h0 hk hs
    have : k = 0 := by simp at hk; omega
    subst this
    rw [l_markText_L1_eq, if_neg (by simp), if_pos (by show 1 + s.length ≤ _; omega)]
    exact ⟨_, rfl⟩
  | succ n ih =>
    intro k s h h0 hk hs
    rw [l_markText_L1_eq]
    by_cases h : k > 0
    · rw [if_pos (decide_eq_true h), if_pos (by show 1 + s.length ≤ _; omega), Int.tdiv_eq_ediv_of_nonneg h0, w64_id (n := k / 10) (by omega) (by omega)]
      refine ih (k / 10) _ (by omega) (by omega) ?_ (by show (s.length + 1) + n ≤ 1000; omega)
      rw [Int.pow_succ] at hk
      omega
    · rw [if_neg (by rw [decide_eq_true_eq]; exact h), if_pos (by show 1 + s.length ≤ _; omega)]
      exact ⟨_, rfl⟩
theorem markText_ok (k : Int) (h : k ≤ 9223372036854775807) : ∃ t, l_markText k = some (t, ()) := by
  rw [l_markText_eq]
  by_cases h0 : k ≤ 0
  · rw [if_pos (decide_eq_true h0)]; exact ⟨_, rfl⟩
  · rw [if_neg (by rw [decide_eq_true_eq]; exact h0)]
    exact markText_L1_ok 19 k [] h (by omega) (by omega) (by simp)
open Classical in
noncomputable def mText (k : Int) : List Int := if h : ∃ t, l_markText k = some (t, ()) then Classical.choose h else []
theorem markText_eq (k : Int) (h : k ≤ 9223372036854775807) : l_markText k = some (mText k, ()) := by
  have := markText_ok k h
  unfold mText
  rw [dif_pos this]
  exact Classical.choose_spec this
end Go.Proofs.YtonmohpdmhfjnaaGreatDoor.E.TM
