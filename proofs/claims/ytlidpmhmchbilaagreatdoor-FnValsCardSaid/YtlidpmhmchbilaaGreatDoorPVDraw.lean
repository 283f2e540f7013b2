/- Draws: a cursor over bytes gives a number within its bounds, or one of a list. No condition but the cursor's place. -/
import Derived.Test.YtlidpmhmchbilaaGreatDoorPBase
import Derived.Test.YtlidpmhmchbilaaGreatDoorTVe1
namespace Go.Proofs.YtlidpmhmchbilaaGreatDoor.E.TV
open Go.Proofs.YtlidpmhmchbilaaGreatDoor.E
set_option linter.unusedVariables false
theorem and_bd (y : Int) (m : Nat) (hm : m < 9223372036854775808) : 0 ≤ Go.bits .and .i64 y m ∧ Go.bits .and .i64 y m ≤ m := by
  have h : Go.bits .and .i64 y m = IntKind.i64.wrap (((BitVec.ofInt 64 y).toNat &&& m : Nat) : Int) := by
    simp only [Go.bits, BitVec.toNat_and, BitVec.ofInt_natCast]
    congr 3
    exact Nat.mod_eq_of_lt (by show m < 2 ^ 64; omega)
  have h2 : (BitVec.ofInt 64 y).toNat &&& m ≤ m := Nat.and_le_right
  rw [h, IntKind.wrap_i64]
  omega
def CurOK (c : spec_l1Cur) : Prop := 0 ≤ c.i ∧ c.b.length ≤ 1048576
theorem byte_ok {c : spec_l1Cur} (h : CurOK c) : ∃ x c', s_l1Byte c = some (x, c', ()) ∧ CurOK c' ∧ 0 ≤ x ∧ x ≤ 255 := by
  obtain ⟨h1, h2⟩ := h
  rw [s_l1Byte_eq]
  by_cases hi : c.i < (c.b.length : Int)
  · rw [if_pos (decide_eq_true hi), if_pos ⟨h1, hi⟩]
    refine ⟨_, _, rfl, ⟨?_, h2⟩, (and_bd _ 255 (by decide)).1, (and_bd _ 255 (by decide)).2⟩
    show 0 ≤ w64 (c.i + 1)
    rw [w64_id (by omega) (by omega)]; omega
  · rw [if_neg (by rw [decide_eq_true_eq]; exact hi)]
    exact ⟨_, _, rfl, ⟨h1, h2⟩, (and_bd _ 255 (by decide)).1, (and_bd _ 255 (by decide)).2⟩
theorem below_ok {c : spec_l1Cur} (h : CurOK c) (n : Int) : ∃ x c', s_l1Below c n = some (x, c', ()) ∧ CurOK c' ∧ 0 ≤ x ∧ (0 < n → x < n) ∧ (n ≤ 0 → x = 0) := by
  rw [s_l1Below_eq]
  by_cases h0 : n ≤ 0
  · rw [if_pos (decide_eq_true h0)]
    exact ⟨0, c, rfl, h, by omega, fun h => by omega, fun _ => rfl⟩
  · rw [if_neg (by rw [decide_eq_true_eq]; exact h0)]
    have hn : 0 < n := by omega
    by_cases h1 : n ≤ 256
    · rw [if_pos (decide_eq_true h1)]
      obtain ⟨x, c', e, k1, k2, k3⟩ := byte_ok h
      simp only [e, Option.bind_some]
      rw [if_pos (by omega)]
      exact ⟨_, _, rfl, k1, Int.tmod_nonneg _ k2, fun _ => Int.tmod_lt_of_pos _ hn, fun h => by omega⟩
    · rw [if_neg (by rw [decide_eq_true_eq]; exact h1)]
      obtain ⟨x1, c1, e1, k1, a1, b1⟩ := byte_ok h
      obtain ⟨x2, c2, e2, k2, a2, b2⟩ := byte_ok k1
      obtain ⟨x3, c3, e3, k3, a3, b3⟩ := byte_ok k2
      obtain ⟨x4, c4, e4, k4, a4, b4⟩ := byte_ok k3
      simp only [e1, e2, e3, e4, Option.bind_some]
      rw [if_pos (by omega)]
      refine ⟨_, _, rfl, k4, Int.tmod_nonneg _ ?_, fun _ => Int.tmod_lt_of_pos _ hn, fun h => by omega⟩
      rw [w64_id (n := x1 * 16777216) (by omega) (by omega), w64_id (n := x2 * 65536) (by omega) (by omega), w64_id (n := x3 * 256) (by omega) (by omega)]
      rw [w64_id (n := x1 * 16777216 + x2 * 65536) (by omega) (by omega), w64_id (n := x1 * 16777216 + x2 * 65536 + x3 * 256) (by omega) (by omega)]
      rw [w64_id (by omega) (by omega)]; omega
theorem pickInt_ok {c : spec_l1Cur} (h : CurOK c) (l : List Int) (hl : l ≠ []) : ∃ x c', s_l1PickInt c l = some (x, c', ()) ∧ CurOK c' ∧ x ∈ l := by
  have hp : 0 < l.length := List.length_pos_iff.2 hl
  rw [s_l1PickInt_eq]
  obtain ⟨x, c', e, k1, k2, k3, _⟩ := below_ok h (l.length : Int)
  have k3 := k3 (by omega)
  simp only [e, Option.bind_some]
  rw [if_pos ⟨k2, k3⟩]
  obtain ⟨i, rfl⟩ := Int.eq_ofNat_of_zero_le k2
  have hi : i < l.length := by omega
  exact ⟨_, _, rfl, k1, by rw [getD_nat hi]; exact List.getElem_mem hi⟩
theorem pick_ok {c : spec_l1Cur} (h : CurOK c) (l : List (List Int)) (hl : l ≠ []) : ∃ x c', s_l1Pick c l = some (x, c', ()) ∧ CurOK c' ∧ x ∈ l := by
  have hp : 0 < l.length := List.length_pos_iff.2 hl
  rw [s_l1Pick_eq]
  obtain ⟨x, c', e, k1, k2, k3, _⟩ := below_ok h (l.length : Int)
  have k3 := k3 (by omega)
  simp only [e, Option.bind_some]
  rw [if_pos ⟨k2, k3⟩]
  obtain ⟨i, rfl⟩ := Int.eq_ofNat_of_zero_le k2
  have hi : i < l.length := by omega
  exact ⟨_, _, rfl, k1, by rw [getD_nat hi]; exact List.getElem_mem hi⟩
theorem new_ok (b : List Int) (h : b.length ≤ 1048576) : ∃ c, s_l1New b = some (((), c), ()) ∧ CurOK c := by
  rw [s_l1New_eq]
  have key : ∀ (d i : Nat) (k : Int), i + d = b.length → ∃ c, s_l1New_L1 b k (i : Int) = some (((), c), ()) ∧ CurOK c := by
    intro d
    induction d with
    | zero =>
      intro i k hd
      rw [s_l1New_L1_eq, if_neg (by rw [decide_eq_true_eq]; omega)]
      exact ⟨_, rfl, Int.le_refl 0, h⟩
    | succ d ih =>
      intro i k hd
      rw [s_l1New_L1_eq, if_pos (decide_eq_true (by omega))]
      by_cases h4 : (i : Int) < 4000
      · rw [if_pos (decide_eq_true h4), if_pos (by omega), w64_succ (n := b.length) (by omega) (by omega)]
        exact ih (i + 1) _ (by omega)
      · rw [if_neg (by rw [decide_eq_true_eq]; exact h4)]
        exact ⟨_, rfl, Int.le_refl 0, h⟩
  exact key b.length 0 _ (by omega)
theorem big_ok (b : List Int) : l_big b = some (decide ((b.length : Int) > 1048576), ()) := l_big_eq b
end Go.Proofs.YtlidpmhmchbilaaGreatDoor.E.TV
