/- The pure statement of FnExactSync. No condition. -/
import Derived.Test.YtfafpanihhikoaaPADiskOk
import Derived.Test.YtfafpanihhikoaaPAMarkDisk
import Derived.Test.YtfafpanihhikoaaTAe1
import Derived.Test.YtfafpanihhikoaaQFnExactSync
namespace Go.Proofs.Ytfafpanihhikoaa.E.TA
open Go.Proofs.Ytfafpanihhikoaa.E
set_option linter.unusedVariables false
theorem sync_same (d : impl_Disk) (hl : d.Bytes.length ≤ 4294967296) : ∃ y, s_Sync d = some (y, ()) ∧ i_Sync d = some (y, ()) ∧ y.Bytes = d.Bytes := by
  rw [s_Sync_eq, i_Sync_eq, copyDisk_ok d hl, cloneDisk_ok d hl, s_DiskOk_ok, i_DiskOk_ok]
  simp only [Option.bind_some]
  cases diskOk d with
  | true => exact ⟨_, rfl, rfl, rfl⟩
  | false => exact ⟨_, rfl, rfl, rfl⟩
theorem pureFnExactSync : PureFnExactSync := by
  intro d hd
  have hd' : (d.Bytes.length ≤ 9223372036854775807 ∧ _) ∧ _ := hd
  rw [l_FnExactSync_eq, szDisk_ok d _ (by omega) (by omega) hd'.1.1, Option.bind_some]
  by_cases h : (d.Bytes.length : Int) ≤ 1048576
  · simp only [if_pos h]
    rw [if_neg (by rw [decide_eq_true_eq]; omega)]
    have hl : d.Bytes.length ≤ 1048576 := by omega
    obtain ⟨y, h1, h2, h3⟩ := sync_same (cDisk d) (show d.Bytes.length ≤ _ by omega)
    have hy : y.Bytes.length ≤ 4294967296 := by rw [h3]; show d.Bytes.length ≤ _; omega
    obtain ⟨k, x', m1, m2, m3⟩ := markDisk_ok (cDisk d) (show d.Bytes.length ≤ _ by omega)
    obtain ⟨q, y', n1, n2, n3⟩ := markDisk_ok y hy
    simp only [toDisk_ok d hl, Option.bind_some, h1, h2, eqDisk_ok y hy, eqDisk_ok (cDisk d) (show d.Bytes.length ≤ _ by omega), m1, n1, n3]
    simp [show ¬ k < 0 by omega, show ¬ q < 0 by omega]
  · simp only [if_neg h]; rfl
end Go.Proofs.Ytfafpanihhikoaa.E.TA
