/- Numbers and texts that are written are read as they were. No condition. -/
import Derived.Test.YtonmohpdmhfjnaaGreatDoorPMReadText
import Derived.Test.YtonmohpdmhfjnaaGreatDoorTMe1
import Derived.Test.YtonmohpdmhfjnaaGreatDoorTMe2
import Derived.Test.YtonmohpdmhfjnaaGreatDoorTMe3
namespace Go.Proofs.YtonmohpdmhfjnaaGreatDoor.E.TM
open Go.Proofs.YtonmohpdmhfjnaaGreatDoor.E
set_option linter.unusedVariables false
def zig (n : Int) : Int := if n < 0 then -2 * n - 1 else 2 * n
def InZ (n : Int) : Prop := -2305843009213693951 ≤ n ∧ n ≤ 2305843009213693951
instance (n : Int) : Decidable (InZ n) := inferInstanceAs (Decidable (_ ∧ _))
def putInt (n : Int) : List Int := if InZ n then putNumOf (zig n) else []
theorem i_PutInt_ok (n : Int) : i_PutInt n = some (putInt n, ()) := by
  rw [i_PutInt_eq, i_in_ok, Option.bind_some]
  unfold putInt
  by_cases h : InZ n
  · have hh := h
    unfold InZ at hh
    rw [if_pos h, if_neg (by simp [hh])]
    unfold zig
    by_cases h2 : n < 0
    · rw [if_pos (decide_eq_true h2), if_pos h2, w64_id (n := -2 * n) (by omega) (by omega), w64_id (by omega) (by omega), i_PutNum_ok]; rfl
    · rw [if_neg (by rw [decide_eq_true_eq]; exact h2), if_neg h2, w64_id (by omega) (by omega), i_PutNum_ok]; rfl
  · have hh := h
    unfold InZ at hh
    rw [if_neg h, if_pos (by simp [hh])]
theorem s_PutInt_ok (n : Int) : s_PutInt n = some (putInt n, ()) := by
  rw [s_PutInt_eq, s_l1In_ok, Option.bind_some]
  unfold putInt
  by_cases h : InZ n
  · have hh := h
    unfold InZ at hh
    rw [if_pos h, if_neg (by simp [hh])]
    unfold zig
    by_cases h2 : n < 0
    · rw [if_pos (decide_eq_true h2), if_pos h2, w64_id (n := -2 * n) (by omega) (by omega), w64_id (by omega) (by omega), s_PutNum_ok]; rfl
    · rw [if_neg (by rw [decide_eq_true_eq]; exact h2), if_neg h2, w64_id (by omega) (by omega), s_PutNum_ok]; rfl
  · have hh := h
    unfold InZ at hh
    rw [if_neg h, if_pos (by simp [hh])]
end Go.Proofs.YtonmohpdmhfjnaaGreatDoor.E.TM
