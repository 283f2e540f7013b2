/- What is read of bytes is written as those bytes. No condition. -/
import Derived.Test.YtonmohpdmhfjnaaGreatDoorPMGetNum
import Derived.Test.YtonmohpdmhfjnaaGreatDoorPMPutNum
import Derived.Test.YtonmohpdmhfjnaaGreatDoorTMe1
import Derived.Test.YtonmohpdmhfjnaaGreatDoorTMe2
import Derived.Test.YtonmohpdmhfjnaaGreatDoorTMe3
namespace Go.Proofs.YtonmohpdmhfjnaaGreatDoor.E.TM
open Go.Proofs.YtonmohpdmhfjnaaGreatDoor.E
set_option linter.unusedVariables false
theorem or_shl {n y : Int} {k : Nat} (h0 : 0 ≤ n) (h1 : n < 128 ^ k) (y0 : 0 ≤ y) (y1 : y < 128) (hk : k ≤ 8) : bits .or .i64 n (shlI .i64 y (7 * (k : Int))) = n + y * 128 ^ k := by
  obtain ⟨a, rfl⟩ := Int.eq_ofNat_of_zero_le h0
  obtain ⟨c, rfl⟩ := Int.eq_ofNat_of_zero_le y0
  have e128 : (128 : Nat) ^ k = 2 ^ (7 * k) := by rw [Nat.pow_mul]
  have ha : a < 2 ^ (7 * k) := by rw [← e128]; exact_mod_cast h1
  have hc : c < 128 := by omega
  have hp : 2 ^ (7 * k) * c + a < 2 ^ 63 := by
    have h1 : 2 ^ (7 * k) * c + a < 2 ^ (7 * k) * 128 := by
      have : 2 ^ (7 * k) * c + 2 ^ (7 * k) ≤ 2 ^ (7 * k) * 128 := by
        rw [← Nat.mul_succ]; exact Nat.mul_le_mul_left _ (by omega)
      omega
    have h2 : 2 ^ (7 * k) * 128 = 2 ^ (7 * k + 7) := by rw [Nat.pow_add]
    have h3 : (2 : Nat) ^ (7 * k + 7) ≤ 2 ^ 63 := Nat.pow_le_pow_right (by omega) (by omega)
    omega
  have hcp : c * 2 ^ (7 * k) < 2 ^ 63 := by rw [Nat.mul_comm]; omega
  have hs : shlI .i64 (c : Int) (7 * (k : Int)) = ((c * 2 ^ (7 * k) : Nat) : Int) := by
    unfold shlI
    have ht : (7 * (k : Int)).toNat = 7 * k := by omega
    have hm : min (7 * (k : Int)).toNat IntKind.i64.bits = 7 * k := by rw [ht]; show min (7 * k) 64 = 7 * k; omega
    rw [hm]
    have e : (c : Int) * 2 ^ (7 * k) = ((c * 2 ^ (7 * k) : Nat) : Int) := by rw [Int.natCast_mul, Int.natCast_pow]; rfl
    rw [e]
    exact w64_id (by omega) (by have := hcp; have e2 : (2 : Nat) ^ 63 = 9223372036854775808 := by decide
                                omega)
  rw [hs]
  have hb := (bits_nat .i64 63 (by decide) (wraps_i64 63 (by omega)) a (c * 2 ^ (7 * k)) (by omega) hcp).2
  rw [hb, Nat.or_comm, Nat.mul_comm, ← Nat.two_pow_add_eq_or_of_lt ha c, Int.natCast_add, Int.natCast_mul, Int.natCast_pow, Int.add_comm, Int.mul_comm]
  congr 2
  rw [Int.pow_mul]; rfl
theorem drop_get {b : List Int} {p : Int} (h0 : 0 ≤ p) (h : p < (b.length : Int)) : b.drop p.toNat = b.getD p.toNat 0 :: b.drop (p + 1).toNat := by
  rw [List.drop_eq_getElem_cons (show p.toNat < b.length by omega), getD_lt (by omega), show (p + 1).toNat = p.toNat + 1 by omega]
theorem putNum_big (d : Nat) {n : Int} (h : n > 127) : putNum (d + 1) n = (n % 128 + 128) :: putNum d (n / 128) := by show (if n > 127 then _ else _) = _; rw [if_pos h]
theorem getNum_enc (b : List Int) (hw : ∀ x ∈ b, 0 ≤ x ∧ x ≤ 255) (p : Int) (hp : 0 ≤ p) (hp2 : p ≤ (b.length : Int)) (v q : Int) : ∀ (d k : Nat) (n : Int), k + d = 9 → 0 ≤ n → n < 128 ^ k → getNum b p d n k = (v, q, true) →
    ∃ w, 0 ≤ w ∧ v = n + w * 128 ^ k ∧ p + k < q ∧ q ≤ (b.length : Int) ∧ (b.drop (p + k).toNat).take (q - (p + k)).toNat = putNum (d - 1) w ∧ (0 < k → 0 < w) := by
  intro d
  induction d with
  | zero => intro k n hd h0 h1 h; simp [getNum] at h
  | succ d ih =>
    intro k n hd h0 h1 h
    unfold getNum at h
    by_cases hlt : p + k < (b.length : Int)
    · rw [if_pos hlt] at h
      dsimp only at h
      have hx := byte_at hw (show 0 ≤ p + k by omega) hlt
      have hdr := drop_get (b := b) (p := p + k) (by omega) hlt
      generalize b.getD (p + k).toNat 0 = x at h hx hdr
      rw [or_shl h0 h1 (by omega) (by omega) (by omega)] at h
      by_cases h2 : 127 < x
      · rw [if_pos h2] at h
        have hpow : (0 : Int) < 128 ^ k := Int.pow_pos (by omega)
        have hps : (128 : Int) ^ (k + 1) = 128 ^ k * 128 := Int.pow_succ ..
        obtain ⟨w, w0, e1, e2, e3, e4, e5⟩ := ih (k + 1) (n + x % 128 * 128 ^ k) (by omega) (Int.add_nonneg h0 (Int.mul_nonneg (by omega) (by omega))) (by
          have : x % 128 * 128 ^ k ≤ 127 * 128 ^ k := Int.mul_le_mul_of_nonneg_right (by omega) (by omega)
          rw [hps]; omega) (by rw [show ((k + 1 : Nat) : Int) = (k : Int) + 1 by omega]; exact h)
        have w5 := e5 (by omega)
        rw [show p + ((k + 1 : Nat) : Int) = p + k + 1 by omega] at e2 e4
        refine ⟨x % 128 + 128 * w, by omega, ?_, by omega, e3, ?_, fun _ => by omega⟩
        · rw [e1, hps, Int.add_mul, Int.add_assoc, Int.mul_assoc 128 w, Int.mul_comm 128 (w * 128 ^ k), Int.mul_assoc w]
        · rw [hdr, show (q - (p + k)).toNat = (q - (p + k + 1)).toNat + 1 by omega, List.take_succ_cons, e4]
          cases d with
          | zero => simp [getNum] at h
          | succ d =>
            show _ = putNum (d + 1) _
            rw [putNum_big _ (by omega), show (x % 128 + 128 * w) % 128 + 128 = x by omega, show (x % 128 + 128 * w) / 128 = w by omega]
            rfl
      · rw [if_neg h2] at h
        by_cases h3 : (x = 0 ∧ (0 : Int) < k) ∨ ¬ (0 ≤ n + x % 128 * 128 ^ k ∧ n + x % 128 * 128 ^ k ≤ 4611686018427387903)
        · rw [if_pos h3] at h; simp at h
        · rw [if_neg h3] at h
          simp only [Prod.mk.injEq, and_true] at h
          obtain ⟨e1, e2⟩ := h
          have hxm : x % 128 = x := by omega
          refine ⟨x, hx.1, by rw [← e1, hxm], by omega, by omega, ?_, fun hk => by omega⟩
          rw [hdr, show (q - (p + k)).toNat = 0 + 1 by omega, List.take_succ_cons, List.take_zero]
          cases d with
          | zero => show _ = [x % 256]; rw [show x % 256 = x by omega]
          | succ d =>
            show _ = putNum (d + 1) x
            unfold putNum
            rw [if_neg (by omega), show x % 256 = x by omega]
    · rw [if_neg hlt] at h; simp at h
theorem num_canon (b : List Int) (hw : ∀ x ∈ b, 0 ≤ x ∧ x ≤ 255) (p v q : Int) (h : getNumOf b p = (v, q, true)) : 0 ≤ p ∧ p < q ∧ q ≤ (b.length : Int) ∧ b.take q.toNat = b.take p.toNat ++ putNumOf v ∧ 0 ≤ v ∧ v ≤ 4611686018427387903 := by
  have hbd := getNumOf_bd b p
  unfold getNumOf at h hbd
  by_cases hc : 0 ≤ p ∧ p ≤ (b.length : Int)
  · rw [if_pos hc] at h hbd
    rw [h] at hbd
    obtain ⟨w, w0, e1, e2, e3, e4, _⟩ := getNum_enc b hw p hc.1 hc.2 v q 9 0 0 rfl (by omega) (by simp) h
    have ev : v = w := by rw [e1]; simp
    have hv : 0 ≤ v ∧ v ≤ 4611686018427387903 := ⟨hbd.1, hbd.2.1⟩
    refine ⟨hc.1, by omega, e3, ?_, hv.1, hv.2⟩
    have e4' : (b.drop p.toNat).take (q - p).toNat = putNum 8 w := by simpa using e4
    have ep : putNumOf v = putNum 8 w := by unfold putNumOf; rw [if_pos hv, ev]
    rw [ep, ← e4', show q.toNat = p.toNat + (q - p).toNat by omega, List.take_add]
  · rw [if_neg hc] at h; simp at h
end Go.Proofs.YtonmohpdmhfjnaaGreatDoor.E.TM
