/- The pure statement of FnExactAppend. No condition. -/
import Derived.Test.YtfafpanihhikoaaPADiskOk
import Derived.Test.YtfafpanihhikoaaPAMarkDisk
import Derived.Test.YtfafpanihhikoaaTAe1
import Derived.Test.YtfafpanihhikoaaQFnExactAppend
namespace Go.Proofs.Ytfafpanihhikoaa.E.TA
open Go.Proofs.Ytfafpanihhikoaa.E
set_option linter.unusedVariables false
theorem append_same (d : impl_Disk) (b : List Int) (hl : d.Bytes.length ≤ 1048576) (hb : b.length ≤ 1048576) : ∃ y ok, s_Append d b = some (y, ok, ()) ∧ i_Append d b = some (y, ok, ()) ∧ y.Bytes.length ≤ 4294967296 := by
  rw [s_Append_eq, i_Append_eq, copyDisk_ok d (by omega), cloneDisk_ok d (by omega), s_DiskOk_ok, i_DiskOk_ok]
  simp only [Option.bind_some]
  rw [w64_id (n := 80000 - (d.Bytes.length : Int)) (by omega) (by omega), w64_id (n := (d.Bytes.length : Int) + b.length) (by omega) (by omega)]
  cases diskOk d with
  | false => exact ⟨_, _, rfl, rfl, by omega⟩
  | true =>
    have hr : d.Bytes.length + b.length ≤ room := by rw [room_eq]; omega
    simp only [Bool.not_true, Bool.false_eq_true, if_false, if_pos hr]
    by_cases h : (b.length : Int) > 80000 - (d.Bytes.length : Int)
    · rw [if_pos (decide_eq_true h), if_pos (decide_eq_true (by omega))]
      exact ⟨_, _, rfl, rfl, by omega⟩
    · rw [if_neg (by rw [decide_eq_true_eq]; exact h), if_neg (by rw [decide_eq_true_eq]; omega)]
      exact ⟨_, _, rfl, rfl, by show (d.Bytes ++ b).length ≤ _; rw [List.length_append]; omega⟩
theorem pureFnExactAppend : PureFnExactAppend := by
  intro d b hd hb
  have hd' : (d.Bytes.length ≤ 9223372036854775807 ∧ _) ∧ _ := hd
  have hb' : b.length ≤ 9223372036854775807 ∧ _ := hb
  rw [l_FnExactAppend_eq]
  by_cases hbl : (b.length : Int) > 1048576
  · rw [if_pos (decide_eq_true hbl)]
  · rw [if_neg (by rw [decide_eq_true_eq]; exact hbl), szDisk_ok d _ (by omega) (by omega) hd'.1.1, Option.bind_some]
    by_cases h : (d.Bytes.length : Int) ≤ 1048576
    · simp only [if_pos h]
      rw [if_neg (by rw [decide_eq_true_eq]; omega)]
      have hl : d.Bytes.length ≤ 1048576 := by omega
      have hl' : (cDisk d).Bytes.length ≤ 1048576 := hl
      obtain ⟨y, ok, h1, h2, hy⟩ := append_same (cDisk d) b hl' (by omega)
      obtain ⟨k, x', m1, m2, m3⟩ := markDisk_ok (cDisk d) (by omega)
      obtain ⟨q, y', n1, n2, n3⟩ := markDisk_ok y hy
      simp only [toDisk_ok d hl, toByteS_ok b (by omega), Option.bind_some, h1, h2, eqDisk_ok y hy, eqDisk_ok (cDisk d) (by omega), eqByteS_ok b (by omega), m1, n1, n3, markByteS_ok b k (by omega) (by omega)]
      simp [show ¬ k + (b.length : Int) < 0 by omega, show ¬ q < 0 by omega]
    · simp only [if_neg h]; rfl
end Go.Proofs.Ytfafpanihhikoaa.E.TA
