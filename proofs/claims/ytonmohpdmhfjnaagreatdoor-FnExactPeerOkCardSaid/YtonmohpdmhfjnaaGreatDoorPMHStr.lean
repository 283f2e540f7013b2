/- The harness of the exact laws at slices of texts: sizes, copies, likeness, marks. No condition but lengths. -/
import Derived.Test.YtonmohpdmhfjnaaGreatDoorPMRows
import Derived.Test.YtonmohpdmhfjnaaGreatDoorPMMarkText
import Derived.Test.YtonmohpdmhfjnaaGreatDoorPMLoops
import Derived.Test.YtonmohpdmhfjnaaGreatDoorTMe1
import Derived.Test.YtonmohpdmhfjnaaGreatDoorTMe2
namespace Go.Proofs.YtonmohpdmhfjnaaGreatDoor.E.TM
open Go.Proofs.YtonmohpdmhfjnaaGreatDoor.E
set_option linter.unusedVariables false
theorem hsz_StringS (l : List (List Int)) (n : Int) (h : l.length ≤ 9223372036854775807 ∧ ∀ x ∈ l, x.length ≤ 9223372036854775807) (h0 : 0 ≤ n) (h1 : n ≤ 1048576) : ∃ r, l_szStringS l n = some (r, ()) ∧ r ≤ 1048576 ∧ (0 ≤ r → l.length ≤ 1048576 ∧ ∀ x ∈ l, x.length ≤ 1048576) := by
  have hl := h.1
  rw [l_szStringS_eq, w64_id (n := n - (l.length : Int)) (by omega) (by omega)]
  by_cases c : n - (l.length : Int) < 0
  · rw [if_pos (decide_eq_true c)]; exact ⟨-1, rfl, by omega, fun h => by omega⟩
  · rw [if_neg (by rw [decide_eq_true_eq]; exact c)]
    have key : ∀ (d i : Nat) (k : Int), i + d = l.length → 0 ≤ k → k ≤ 1048576 → ∃ r, l_szStringS_L1 l k i = some (r, ()) ∧ r ≤ 1048576 ∧ (0 ≤ r → ∀ j (h : j < l.length), i ≤ j → l[j].length ≤ 1048576) := by
      intro d
      induction d with
      | zero =>
        intro i k hd k0 k1
        rw [l_szStringS_L1_eq, if_neg (by rw [decide_eq_true_eq]; omega)]
        exact ⟨k, rfl, k1, fun _ j hj hij => by omega⟩
      | succ d ih =>
        intro i k hd k0 k1
        have hi : i < l.length := by omega
        have hx := h.2 _ (List.getElem_mem hi)
        rw [l_szStringS_L1_eq, if_pos (decide_eq_true (by omega)), if_pos (by omega), getD_nat hi, w64_succ hi (by omega), w64_id (n := k - (l[i].length : Int)) (by omega) (by omega)]
        by_cases g : k - (l[i].length : Int) < 0
        · rw [if_pos (decide_eq_true g)]; exact ⟨-1, rfl, by omega, fun h => by omega⟩
        · rw [if_neg (by rw [decide_eq_true_eq]; exact g)]
          obtain ⟨r, e1, e2, e3⟩ := ih (i + 1) (k - (l[i].length : Int)) (by omega) (by omega) (by omega)
          refine ⟨r, e1, e2, fun hr j hj hij => ?_⟩
          by_cases e : j = i
          · subst e; omega
          · exact e3 hr j hj (by omega)
    obtain ⟨r, e1, e2, e3⟩ := key l.length 0 (n - l.length) (by omega) (by omega) (by omega)
    exact ⟨r, e1, e2, fun hr => ⟨by omega, fun x hx => by
      obtain ⟨j, hj, rfl⟩ := List.mem_iff_getElem.1 hx
      exact e3 hr j hj (by omega)⟩⟩
theorem hto_StringS (l : List (List Int)) (h : l.length ≤ 1048576 ∧ ∀ x ∈ l, x.length ≤ 1048576) : l_toStringS l = some (l, ()) := by
  rw [l_toStringS_eq, if_pos (by have := h.1; rw [room_eq]; omega)]
  have := to_loop (fun acc i => l_toStringS_L1 l acc i) id l (fun acc i hi ha => by
    show l_toStringS_L1 l acc i = _
    have hl := h.1
    rw [l_toStringS_L1_eq, if_pos (decide_eq_true (by omega)), if_pos (by omega), if_pos (by omega), w64_succ hi (by omega), Int.toNat_natCast, getD_lt hi]
    rfl) (fun acc ha => by
    show l_toStringS_L1 l acc _ = _
    rw [l_toStringS_L1_eq, if_neg (by simp)]) (List.replicate (List.length l : Int).toNat []) (by simp)
  rw [List.map_id] at this
  exact this
theorem heq_StringS (l : List (List Int)) (h : l.length ≤ 2097152 ∧ ∀ x ∈ l, x.length ≤ 2097152) : l_eqStringS l l = some (true, ()) := by
  have hl := h.1
  rw [l_eqStringS_eq, if_neg (by simp)]
  exact all_loop (fun i => l_eqStringS_L1 l l i) l _ (fun i hi => by
    show l_eqStringS_L1 l l i = _
    rw [l_eqStringS_L1_eq, if_pos (decide_eq_true (by omega)), if_pos (by omega), if_pos (by omega), if_neg (by simp), w64_succ hi (by omega)]) (by
    show l_eqStringS_L1 l l _ = _
    rw [l_eqStringS_L1_eq, if_neg (by simp)])
end Go.Proofs.YtonmohpdmhfjnaaGreatDoor.E.TM
