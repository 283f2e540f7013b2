/- The pure statement of FnExactFall. No condition. -/
import Derived.Test.YtajahbpeiifcbaaPADiskOk
import Derived.Test.YtajahbpeiifcbaaPAMarkDisk
import Derived.Test.YtajahbpeiifcbaaPAThere
import Derived.Test.YtajahbpeiifcbaaTAe1
import Derived.Test.YtajahbpeiifcbaaQFnExactFall
namespace Go.Proofs.Ytajahbpeiifcbaa.E.TA
open Go.Proofs.Ytajahbpeiifcbaa.E
set_option linter.unusedVariables false
theorem s_l1Min_ok (a b : Int) : s_l1Min a b = some (mnI b a, ()) := by
  rw [s_l1Min_eq]; unfold mnI
  by_cases h : a < b
  · rw [if_pos (decide_eq_true h), if_pos h]
  · rw [if_neg (by rw [decide_eq_true_eq]; exact h), if_neg h]
theorem s_l1Max_ok (a b : Int) : s_l1Max a b = some (mxI b a, ()) := by
  rw [s_l1Max_eq]; unfold mxI
  by_cases h : a > b
  · rw [if_pos (decide_eq_true h), if_pos h]
  · rw [if_neg (by rw [decide_eq_true_eq]; exact h), if_neg h]
theorem fall_same (d : impl_Disk) (k : Int) (hl : d.Bytes.length ≤ 1048576) (hk : InI k) : ∃ y, s_Fall d k = some (y, ()) ∧ i_Fall d k = some (y, ()) ∧ y.Bytes.length ≤ 4294967296 := by
  rw [s_Fall_eq, i_Fall_eq, copyDisk_ok d (by omega), cloneDisk_ok d (by omega), s_DiskOk_ok, i_DiskOk_ok]
  simp only [Option.bind_some]
  unfold InI at hk
  cases hd : diskOk d with
  | false => exact ⟨_, rfl, rfl, by omega⟩
  | true =>
    obtain ⟨d1, d2, d3⟩ := diskOk_iff.1 hd
    simp only [Bool.not_true, Bool.false_eq_true, if_false, if_true, s_l1Min_ok, s_l1Max_ok, Option.bind_some]
    rw [w64_id (n := (d.Bytes.length : Int) - d.Sure) (by omega) (by omega)]
    have e1 : mxI (mnI ((d.Bytes.length : Int) - d.Sure) k) 0 = max 0 (min k ((d.Bytes.length : Int) - d.Sure)) := by unfold mxI mnI; split <;> split <;> omega
    have e2 : mxI 0 (mnI k ((d.Bytes.length : Int) - d.Sure)) = max 0 (min k ((d.Bytes.length : Int) - d.Sure)) := by unfold mxI mnI; split <;> split <;> omega
    rw [e1, e2]
    generalize hm : max 0 (min k ((d.Bytes.length : Int) - d.Sure)) = m
    have hm' : 0 ≤ m ∧ m ≤ (d.Bytes.length : Int) - d.Sure := by omega
    have e3 : w64 (d.Sure + m) = d.Sure + m := w64_id (by omega) (by omega)
    have c1 : 0 ≤ d.Sure + m ∧ d.Sure + m ≤ (d.Bytes.length : Int) := by omega
    have c2 : 0 + List.length (List.take ((d.Sure + m).toNat - 0) (List.drop 0 d.Bytes)) ≤ room := by
      rw [List.length_take, List.length_drop, room_eq]; omega
    simp only [e3, if_pos c1, if_pos c2]
    refine ⟨_, rfl, ?_, ?_⟩
    · rw [List.drop_zero, Nat.sub_zero]; rfl
    · show (List.append [] (List.take ((d.Sure + m).toNat - 0) (List.drop 0 d.Bytes))).length ≤ _
      show (List.take ((d.Sure + m).toNat - 0) (List.drop 0 d.Bytes)).length ≤ _
      rw [List.length_take, List.length_drop]; omega
theorem pureFnExactFall : PureFnExactFall := by
  intro d k hd hk
  have hd' : (d.Bytes.length ≤ 9223372036854775807 ∧ _) ∧ _ := hd
  rw [l_FnExactFall_eq, szDisk_ok d _ (by omega) (by omega) hd'.1.1, Option.bind_some]
  by_cases h : (d.Bytes.length : Int) ≤ 1048576
  · simp only [if_pos h]
    rw [if_neg (by rw [decide_eq_true_eq]; omega)]
    have hl : d.Bytes.length ≤ 1048576 := by omega
    have hl' : (cDisk d).Bytes.length ≤ 1048576 := hl
    obtain ⟨y, h1, h2, hy⟩ := fall_same (cDisk d) k hl' (fineI hk)
    obtain ⟨m, x', m1, m2, m3⟩ := markDisk_ok (cDisk d) (by omega)
    obtain ⟨q, y', n1, n2, n3⟩ := markDisk_ok y hy
    simp only [toDisk_ok d hl, Option.bind_some, h1, h2, eqDisk_ok y hy, eqDisk_ok (cDisk d) (by omega), m1, n1, n3]
    simp [show ¬ m < 0 by omega, show ¬ q < 0 by omega]
  · simp only [if_neg h]; rfl
end Go.Proofs.Ytajahbpeiifcbaa.E.TA
