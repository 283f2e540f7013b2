/- The harness at disks; copies of disks; whether a disk is right. No condition. -/
import Derived.Test.YtajahbpeiifcbaaPABytes
import Derived.Test.YtajahbpeiifcbaaPAClone
import Derived.Test.YtajahbpeiifcbaaTAe1
namespace Go.Proofs.Ytajahbpeiifcbaa.E.TA
open Go.Proofs.Ytajahbpeiifcbaa.E
set_option linter.unusedVariables false
theorem szByteS_ok (l : List Int) (n : Int) (h0 : 0 ≤ n) (h : n ≤ 1048576) (hl : l.length ≤ 9223372036854775807) : l_szByteS l n = some (if (l.length : Int) ≤ n then n - l.length else -1, ()) := by
  rw [l_szByteS_eq, w64_id (by omega) (by omega)]
  by_cases h : (l.length : Int) ≤ n
  · rw [if_pos h, if_neg (by rw [decide_eq_true_eq]; omega)]
  · rw [if_neg h, if_pos (decide_eq_true (by omega))]
theorem szDisk_ok (d : laws_Disk) (n : Int) (h0 : 0 ≤ n) (h : n ≤ 1048576) (hl : d.Bytes.length ≤ 9223372036854775807) : l_szDisk d n = some (if (d.Bytes.length : Int) ≤ n then n - d.Bytes.length else -1, ()) := by
  rw [l_szDisk_eq, szByteS_ok _ _ h0 h hl, Option.bind_some]
  by_cases h : (d.Bytes.length : Int) ≤ n
  · simp only [if_pos h]; rw [if_neg (by rw [decide_eq_true_eq]; omega)]
  · simp only [if_neg h]; rfl
def cDisk (d : laws_Disk) : impl_Disk := ⟨d.Bytes, d.Sure⟩
theorem toDisk_ok (d : laws_Disk) (hl : d.Bytes.length ≤ 1048576) : l_toDisk d = some (cDisk d, ()) := by
  rw [l_toDisk_eq, toByteS_ok _ hl]; rfl
theorem eqDisk_ok (d : impl_Disk) (hl : d.Bytes.length ≤ 4294967296) : l_eqDisk d d = some (true, ()) := by
  rw [l_eqDisk_eq, eqByteS_ok _ hl, Option.bind_some]; simp
theorem copyDisk_ok (d : impl_Disk) (hl : d.Bytes.length ≤ 4294967296) : s_l20Copy d = some (d, ()) := by
  rw [s_l20Copy_eq, if_pos (by rw [room_eq]; omega)]; rfl
theorem cloneDisk_ok (d : impl_Disk) (hl : d.Bytes.length ≤ 4294967296) : i_cloneDisk d = some (d, ()) := by
  rw [i_cloneDisk_eq, clone_byte _ hl]; rfl
end Go.Proofs.Ytajahbpeiifcbaa.E.TA
