/- PutNum, PutText of the program and of the reference tell the same. No condition. -/
import Derived.Test.YtonmohpdmhfjnaaGreatDoorPBase
import Derived.Test.YtonmohpdmhfjnaaGreatDoorPMImplIn
import Derived.Test.YtonmohpdmhfjnaaGreatDoorPMSpecIn
import Derived.Test.YtonmohpdmhfjnaaGreatDoorTMe1
import Derived.Test.YtonmohpdmhfjnaaGreatDoorTMe2
import Derived.Test.YtonmohpdmhfjnaaGreatDoorTMe3
namespace Go.Proofs.YtonmohpdmhfjnaaGreatDoor.E.TM
open Go.Proofs.YtonmohpdmhfjnaaGreatDoor.E
set_option linter.unusedVariables false
def putNum : Nat → Int → List Int
  | 0, n => [n % 256]
  | d + 1, n => if n > 127 then (n % 128 + 128) :: putNum d (n / 128) else [n % 256]
theorem putNum_len (d : Nat) : ∀ n : Int, (putNum d n).length ≤ d + 1 := by
  induction d with
  | zero => intro n; simp [putNum]
  | succ d ih =>
    intro n; unfold putNum; split
    · have := ih (n / 128); simp; omega
    · simp
theorem w8_mod (n : Int) : w8 n = n % 256 := IntKind.wrap_u8 n
theorem shr7 {n : Int} (h : 0 ≤ n) : shrI .i64 n 7 = n / 128 := by
  show n.fdiv (2 ^ 7) = n / 128
  rw [Int.fdiv_eq_ediv_of_nonneg n (by decide)]; rfl
theorem s_PutNum_L1_ok (d : Nat) : ∀ (n : Int) (out : List Int), 0 ≤ n → n < 128 ^ (d + 1) → n ≤ 9223372036854775807 → out.length + d ≤ 1000 → s_PutNum_L1 n out = some (out ++ putNum d n, ()) := by
  induction d with
  | zero =>
    intro n out h0 h1 h2 h3
    rw [s_PutNum_L1_eq, if_neg (by rw [decide_eq_true_eq]; simp at h1; omega), if_pos (by rw [room_eq]; omega), w8_mod]; rfl
  | succ d ih =>
    intro n out h0 h1 h2 h3
    rw [s_PutNum_L1_eq]
    unfold putNum
    have c1 : out.length + 1 ≤ room := by rw [room_eq]; omega
    by_cases h : n > 127
    · have e := ih (n / 128) (out ++ [n % 128 + 128]) (by omega) (by rw [Int.pow_succ] at h1; omega) (by omega) (by simp; omega)
      rw [List.append_assoc, List.singleton_append] at e
      rw [if_pos h, if_pos (decide_eq_true h), if_pos c1, Int.tdiv_eq_ediv_of_nonneg h0, Int.tmod_eq_emod_of_nonneg h0, w64_id (n := n / 128) (by omega) (by omega), w64_id (n := n % 128 + 128) (by omega) (by omega), w8_id (n := n % 128 + 128) (by omega) (by omega)]
      exact e
    · rw [if_neg h, if_neg (by rw [decide_eq_true_eq]; exact h), if_pos c1, w8_mod]; rfl
theorem i_PutNum_L1_ok (d : Nat) : ∀ (n : Int) (out : List Int), 0 ≤ n → n < 128 ^ (d + 1) → n ≤ 9223372036854775807 → out.length + d ≤ 1000 → i_PutNum_L1 n out = some (out ++ putNum d n, ()) := by
  induction d with
  | zero =>
    intro n out h0 h1 h2 h3
    rw [i_PutNum_L1_eq, if_neg (by rw [decide_eq_true_eq]; simp at h1; omega), if_pos (by rw [room_eq]; omega), w8_mod]; rfl
  | succ d ih =>
    intro n out h0 h1 h2 h3
    rw [i_PutNum_L1_eq]
    unfold putNum
    have c1 : out.length + 1 ≤ room := by rw [room_eq]; omega
    by_cases h : n > 127
    · have e := ih (n / 128) (out ++ [n % 128 + 128]) (by omega) (by rw [Int.pow_succ] at h1; omega) (by omega) (by simp; omega)
      rw [List.append_assoc, List.singleton_append] at e
      rw [if_pos h, if_pos (decide_eq_true h), if_pos c1, shr7 h0, and_127 h0 (by omega), or_128 (by omega) (by omega), w8_id (n := n % 128 + 128) (by omega) (by omega)]
      exact e
    · rw [if_neg h, if_neg (by rw [decide_eq_true_eq]; exact h), if_pos c1, w8_mod]; rfl
def putNumOf (n : Int) : List Int := if 0 ≤ n ∧ n ≤ 4611686018427387903 then putNum 8 n else []
theorem putNumOf_len (n : Int) : (putNumOf n).length ≤ 9 := by
  unfold putNumOf; split
  · exact putNum_len 8 n
  · simp
theorem s_PutNum_ok (n : Int) : s_PutNum n = some (putNumOf n, ()) := by
  rw [s_PutNum_eq, s_l1In_ok, Option.bind_some]
  unfold putNumOf
  by_cases h : 0 ≤ n ∧ n ≤ 4611686018427387903
  · rw [if_pos h, if_neg (by simp [h])]
    exact s_PutNum_L1_ok 8 n [] h.1 (by have := h.2; omega) (by omega) (by simp)
  · rw [if_neg h, if_pos (by simp [h])]
theorem i_PutNum_ok (n : Int) : i_PutNum n = some (putNumOf n, ()) := by
  rw [i_PutNum_eq, i_in_ok, Option.bind_some]
  unfold putNumOf
  by_cases h : 0 ≤ n ∧ n ≤ 4611686018427387903
  · rw [if_pos h, if_neg (by simp [h])]
    exact i_PutNum_L1_ok 8 n [] h.1 (by have := h.2; omega) (by omega) (by simp)
  · rw [if_neg h, if_pos (by simp [h])]
def putText (s : List Int) : List Int := putNumOf s.length ++ s
theorem putText_len (s : List Int) : (putText s).length ≤ 9 + s.length := by
  unfold putText; rw [List.length_append]; have := putNumOf_len s.length; omega
theorem s_PutText_ok (s : List Int) (h : s.length ≤ 4000000000) : s_PutText s = some (putText s, ()) := by
  have := putNumOf_len s.length
  rw [s_PutText_eq, s_PutNum_ok, Option.bind_some]
  dsimp only
  rw [if_pos (by rw [room_eq]; omega), if_pos (by rw [room_eq]; omega)]; rfl
theorem i_PutText_ok (s : List Int) (h : s.length ≤ 4000000000) : i_PutText s = some (putText s, ()) := by
  have := putNumOf_len s.length
  rw [i_PutText_eq, i_PutNum_ok, Option.bind_some]
  dsimp only
  rw [if_pos (by rw [room_eq]; omega)]; rfl
end Go.Proofs.YtonmohpdmhfjnaaGreatDoor.E.TM
