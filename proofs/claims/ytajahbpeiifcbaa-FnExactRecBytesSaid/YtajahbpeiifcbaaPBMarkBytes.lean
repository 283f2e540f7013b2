/- Marks on slices of bytes: what is marked is held. No condition. -/
import Derived.Test.YtajahbpeiifcbaaPBase
import Derived.Test.YtajahbpeiifcbaaTBe1
namespace Go.Proofs.Ytajahbpeiifcbaa.E.TB
open Go.Proofs.Ytajahbpeiifcbaa.E
set_option linter.unusedVariables false
/-- A list, its first i bytes marked from k on. -/
def mkd (l : List Int) (k : Int) (i : Nat) : List Int := (List.range i).map (fun (j : Nat) => w8 (k + (j : Int))) ++ l.drop i
theorem mkd_len (l : List Int) (k : Int) (i : Nat) (h : i ≤ l.length) : (mkd l k i).length = l.length := by
  unfold mkd; simp; omega
theorem mkd_set (l : List Int) (k : Int) (i : Nat) (h : i < l.length) : (mkd l k i).set i (w8 (k + i)) = mkd l k (i + 1) := by
  unfold mkd
  rw [List.set_append_right _ _ (by simp), List.range_succ, List.map_append, List.append_assoc]
  congr 1
  simp only [List.length_map, List.length_range, Nat.sub_self, List.map_cons, List.map_nil, List.singleton_append]
  rw [List.drop_eq_getElem_cons h]
  rfl
theorem mkd_get (l : List Int) (k : Int) (i n : Nat) (h : i < n) : (mkd l k n)[i]? = some (w8 (k + i)) := by
  unfold mkd
  rw [List.getElem?_append_left (by simpa using h)]
  simp [h]
theorem markByteS_ok (l : List Int) (k : Int) (hk : 0 ≤ k) (h : k + l.length ≤ 4611686018427387904) : l_markByteS l k = some (k + l.length, mkd l k l.length, ()) := by
  rw [l_markByteS_eq]
  have key : ∀ (d i : Nat), i + d = l.length → l_markByteS_L1 (mkd l k i) (k + i) (i : Int) = some (k + l.length, mkd l k l.length, ()) := by
    intro d
    induction d with
    | zero =>
      intro i hd
      have hi : i = l.length := by omega
      subst hi
      rw [l_markByteS_L1_eq, mkd_len _ _ _ (Nat.le_refl _), if_neg (by simp)]
    | succ d ih =>
      intro i hd
      rw [l_markByteS_L1_eq, mkd_len _ _ _ (by omega), if_pos (decide_eq_true (by omega)), if_pos (by omega), w64_succ (n := l.length) (by omega) (by omega), w64_id (n := k + i + 1) (by omega) (by omega), Int.toNat_natCast, mkd_set _ _ _ (by omega), ← ih (i + 1) (by omega)]
      congr 1; omega
  have := key l.length 0 (by omega)
  simpa [mkd] using this
theorem heldByteS_ok (l : List Int) (k : Int) (hk : 0 ≤ k) (h : k + l.length ≤ 4611686018427387904) : l_heldByteS (mkd l k l.length) k = some (k + l.length, ()) := by
  rw [l_heldByteS_eq]
  have hl := mkd_len l k l.length (Nat.le_refl _)
  have key : ∀ (d i : Nat), i + d = l.length → l_heldByteS_L1 (mkd l k l.length) (k + i) (i : Int) = some (k + l.length, ()) := by
    intro d
    induction d with
    | zero =>
      intro i hd
      have hi : i = l.length := by omega
      subst hi
      rw [l_heldByteS_L1_eq, hl, if_neg (by simp)]
    | succ d ih =>
      intro i hd
      have hg : List.getD (mkd l k l.length) i 0 = w8 (k + i) := by
        rw [List.getD_eq_getElem?_getD, mkd_get l k i l.length (by omega)]; rfl
      rw [l_heldByteS_L1_eq, hl, if_pos (decide_eq_true (by omega)), if_pos (by omega), Int.toNat_natCast, hg, if_neg (by simp), w64_succ (n := l.length) (by omega) (by omega), w64_id (n := k + i + 1) (by omega) (by omega), ← ih (i + 1) (by omega)]
      congr 1; omega
  have := key l.length 0 (by omega)
  simpa using this
end Go.Proofs.Ytajahbpeiifcbaa.E.TB
