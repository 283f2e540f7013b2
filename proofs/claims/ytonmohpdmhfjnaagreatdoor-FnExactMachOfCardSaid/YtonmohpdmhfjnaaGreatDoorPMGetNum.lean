/- GetNum of the program and of the reference tell the same. No condition. -/
import Derived.Test.YtonmohpdmhfjnaaGreatDoorPBase
import Derived.Test.YtonmohpdmhfjnaaGreatDoorPMImplIn
import Derived.Test.YtonmohpdmhfjnaaGreatDoorTMe1
import Derived.Test.YtonmohpdmhfjnaaGreatDoorTMe2
import Derived.Test.YtonmohpdmhfjnaaGreatDoorTMe3
namespace Go.Proofs.YtonmohpdmhfjnaaGreatDoor.E.TM
open Go.Proofs.YtonmohpdmhfjnaaGreatDoor.E
set_option linter.unusedVariables false
def getNum (b : List Int) (p : Int) : Nat → Int → Int → Int × Int × Bool
  | 0, _, _ => (0, 0, false)
  | d + 1, n, k =>
    if p + k < (b.length : Int) then
      (let x := b.getD (p + k).toNat 0
       let m := bits .or .i64 n (shlI .i64 (x % 128) (7 * k))
       if 127 < x then getNum b p d m (k + 1)
       else if (x = 0 ∧ 0 < k) ∨ ¬ (0 ≤ m ∧ m ≤ 4611686018427387903) then (0, 0, false)
       else (m, p + k + 1, true))
    else (0, 0, false)
def tr3 (x : Int × Int × Bool) : Int × Int × Bool × Unit := (x.1, x.2.1, x.2.2, ())
theorem byte_at {b : List Int} (hw : ∀ x ∈ b, 0 ≤ x ∧ x ≤ 255) {p : Int} (h0 : 0 ≤ p) (h : p < (b.length : Int)) : 0 ≤ b.getD p.toNat 0 ∧ b.getD p.toNat 0 ≤ 255 := by
  rw [getD_lt (by omega)]
  exact hw _ (List.getElem_mem _)
theorem s_GetNum_L1_ok (b : List Int) (hb : b.length ≤ 1048576) (hw : ∀ x ∈ b, 0 ≤ x ∧ x ≤ 255) (p : Int) (hp : 0 ≤ p) (hp2 : p ≤ (b.length : Int)) (d : Nat) : ∀ (n k : Int), 0 ≤ k → k + d = 9 → s_GetNum_L1 b p n k = some (tr3 (getNum b p d n k)) := by
  induction d with
  | zero =>
    intro n k h0 hd
    rw [s_GetNum_L1_eq, if_neg (by rw [decide_eq_true_eq]; omega)]; rfl
  | succ d ih =>
    intro n k h0 hd
    have w1 : w64 ((b.length : Int) - k) = (b.length : Int) - k := w64_id (by omega) (by omega)
    have w2 : w64 (p + k) = p + k := w64_id (by omega) (by omega)
    have w3 : w64 (7 * k) = 7 * k := w64_id (by omega) (by omega)
    have w4 : w64 (k + 1) = k + 1 := w64_id (by omega) (by omega)
    have w5 : w64 (p + k + 1) = p + k + 1 := w64_id (by omega) (by omega)
    rw [s_GetNum_L1_eq, if_pos (decide_eq_true (by omega)), if_neg (by rw [decide_eq_true_eq]; omega), w1, w2, w3, w4, w5]
    unfold getNum
    by_cases h : p + k < (b.length : Int)
    · have hx := byte_at hw (show 0 ≤ p + k by omega) h
      have w6 : w64 (b.getD (p + k).toNat 0) = b.getD (p + k).toNat 0 := w64_id (by omega) (by omega)
      have t1 : Int.tmod (b.getD (p + k).toNat 0) 128 = b.getD (p + k).toNat 0 % 128 := Int.tmod_eq_emod_of_nonneg hx.1
      rw [if_neg (by rw [decide_eq_true_eq]; omega), if_pos (by omega), if_pos (by omega), if_pos h, w6, t1]
      dsimp only
      generalize hm : bits .or .i64 n (shlI .i64 (b.getD (p + k).toNat 0 % 128) (7 * k)) = m
      by_cases h2 : 127 < b.getD (p + k).toNat 0
      · rw [if_pos h2, if_neg (by rw [decide_eq_true_eq]; omega)]
        exact ih m (k + 1) (by omega) (by omega)
      · rw [if_neg h2, if_pos (decide_eq_true (by omega))]
        simp only [decide_eq_true_eq]
        split
        · split
          · rw [if_pos (by omega)]; rfl
          · split
            · rw [if_pos (by omega)]; rfl
            · split
              · rw [if_pos (by omega)]; rfl
              · rw [if_neg (by omega)]; rfl
        · split
          · rw [if_pos (by omega)]; rfl
          · split
            · rw [if_pos (by omega)]; rfl
            · rw [if_neg (by omega)]; rfl
    · rw [if_neg h, if_pos (decide_eq_true (by omega))]; rfl
theorem i_GetNum_L1_ok (b : List Int) (hb : b.length ≤ 1048576) (hw : ∀ x ∈ b, 0 ≤ x ∧ x ≤ 255) (p : Int) (hp : 0 ≤ p) (hp2 : p ≤ (b.length : Int)) (d : Nat) : ∀ (n k : Int), 0 ≤ k → k + d = 9 → i_GetNum_L1 b p n k = some (tr3 (getNum b p d n k)) := by
  induction d with
  | zero =>
    intro n k h0 hd
    rw [i_GetNum_L1_eq, if_neg (by rw [decide_eq_true_eq]; omega)]; rfl
  | succ d ih =>
    intro n k h0 hd
    have w2 : w64 (p + k) = p + k := w64_id (by omega) (by omega)
    have w3 : w64 (7 * k) = 7 * k := w64_id (by omega) (by omega)
    have w4 : w64 (k + 1) = k + 1 := w64_id (by omega) (by omega)
    have w5 : w64 (p + k + 1) = p + k + 1 := w64_id (by omega) (by omega)
    rw [i_GetNum_L1_eq, if_pos (decide_eq_true (by omega)), w2, w3, w4, w5]
    unfold getNum
    by_cases h : p + k < (b.length : Int)
    · have hx := byte_at hw (show 0 ≤ p + k by omega) h
      have w6 : w64 (b.getD (p + k).toNat 0) = b.getD (p + k).toNat 0 := w64_id (by omega) (by omega)
      have t1 : bits .and .i64 (b.getD (p + k).toNat 0) 127 = b.getD (p + k).toNat 0 % 128 := and_127 hx.1 (by omega)
      rw [if_pos (decide_eq_true h), if_pos (by omega), if_pos (by omega), if_pos h, w6, t1]
      dsimp only
      generalize hm : bits .or .i64 n (shlI .i64 (b.getD (p + k).toNat 0 % 128) (7 * k)) = m
      by_cases h2 : 127 < b.getD (p + k).toNat 0
      · rw [if_pos h2, if_pos (decide_eq_true (by omega))]
        exact ih m (k + 1) (by omega) (by omega)
      · rw [if_neg h2, if_neg (by rw [decide_eq_true_eq]; omega)]
        simp only [decide_eq_true_eq, i_in_ok, Option.bind_some, Bool.not_eq_true', decide_eq_false_iff_not]
        split
        · split
          · rw [if_pos (by omega)]; rfl
          · split
            · rw [if_pos (by omega)]; rfl
            · rw [if_neg (by omega)]; rfl
        · split
          · rw [if_pos (by omega)]; rfl
          · rw [if_neg (by omega)]; rfl
    · rw [if_neg h, if_neg (by rw [decide_eq_true_eq]; omega)]; rfl
def getNumOf (b : List Int) (p : Int) : Int × Int × Bool := if 0 ≤ p ∧ p ≤ (b.length : Int) then getNum b p 9 0 0 else (0, 0, false)
theorem i_GetNum_ok (b : List Int) (hb : b.length ≤ 1048576) (hw : ∀ x ∈ b, 0 ≤ x ∧ x ≤ 255) (p : Int) : i_GetNum b p = some (tr3 (getNumOf b p)) := by
  rw [i_GetNum_eq, i_in_ok, Option.bind_some]
  unfold getNumOf
  by_cases h : 0 ≤ p ∧ p ≤ (b.length : Int)
  · rw [if_pos h, if_neg (by simp [h])]; exact i_GetNum_L1_ok b hb hw p h.1 h.2 9 0 0 (by omega) (by omega)
  · rw [if_neg h, if_pos (by simp [h])]; rfl
theorem s_GetNum_ok (b : List Int) (hb : b.length ≤ 1048576) (hw : ∀ x ∈ b, 0 ≤ x ∧ x ≤ 255) (p : Int) (hp : -9223372036854775808 ≤ p ∧ p ≤ 9223372036854775807) : s_GetNum b p = some (tr3 (getNumOf b p)) := by
  rw [s_GetNum_eq]
  unfold getNumOf
  by_cases h : 0 ≤ p ∧ p ≤ (b.length : Int)
  · rw [if_pos h]; exact s_GetNum_L1_ok b hb hw p h.1 h.2 9 0 0 (by omega) (by omega)
  · rw [if_neg h, s_GetNum_L1_eq, if_pos (by decide)]
    by_cases h1 : p < 0
    · rw [if_pos (by simp [h1])]; rfl
    · rw [if_neg (by simp [h1]), w64_id (by omega) (by omega), if_pos (decide_eq_true (by omega))]; rfl
theorem getNum_bd (b : List Int) (p : Int) (hp : 0 ≤ p) (hp2 : p ≤ (b.length : Int)) (d : Nat) : ∀ n k : Int, 0 ≤ k → k + d = 9 → 0 ≤ (getNum b p d n k).1 ∧ (getNum b p d n k).1 ≤ 4611686018427387903 ∧ 0 ≤ (getNum b p d n k).2.1 ∧ (getNum b p d n k).2.1 ≤ (b.length : Int) := by
  induction d with
  | zero => intro n k h0 hd; simp [getNum]
  | succ d ih =>
    intro n k h0 hd
    unfold getNum
    split
    · dsimp only; split
      · exact ih _ _ (by omega) (by omega)
      · split
        · simp
        · rename_i h1 _ h2
          dsimp only; omega
    · simp
theorem getNumOf_bd (b : List Int) (p : Int) : 0 ≤ (getNumOf b p).1 ∧ (getNumOf b p).1 ≤ 4611686018427387903 ∧ 0 ≤ (getNumOf b p).2.1 ∧ (getNumOf b p).2.1 ≤ (b.length : Int) := by
  unfold getNumOf; split
  · rename_i h; exact getNum_bd b p h.1 h.2 9 0 0 (by omega) (by omega)
  · simp
end Go.Proofs.YtonmohpdmhfjnaaGreatDoor.E.TM
