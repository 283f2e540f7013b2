/- Loops over slices of structs: sizes, marks. No condition. -/
import Derived.Test.YtonmohpdmhfjnaaGreatDoorPBase
import Derived.Test.YtonmohpdmhfjnaaGreatDoorTMe1
import Derived.Test.YtonmohpdmhfjnaaGreatDoorTMe2
namespace Go.Proofs.YtonmohpdmhfjnaaGreatDoor.E
set_option linter.unusedVariables false
theorem sz_rows {α : Type} (L : Int → Int → Option (Int × Unit)) (S : α → Int → Option (Int × Unit)) (l : List α) (Q : α → Prop) (hl : l.length ≤ 9223372036854775807)
    (hS : ∀ x ∈ l, ∀ k : Int, 0 ≤ k → k ≤ 1048576 → ∃ r, S x k = some (r, ()) ∧ r ≤ 1048576 ∧ (0 ≤ r → Q x))
    (stop : ∀ k, L k (l.length : Int) = some (k, ()))
    (step : ∀ (k : Int) (i : Nat) (h : i < l.length), L k i = (S l[i] k).bind fun (r0 : Int × Unit) => if (decide (r0.1 < 0)) = true then some ((-1), ()) else L r0.1 ((i + 1 : Nat) : Int))
    (n : Int) (h0 : 0 ≤ n) (h1 : n ≤ 1048576) : ∃ r, L n 0 = some (r, ()) ∧ r ≤ 1048576 ∧ (0 ≤ r → ∀ x ∈ l, Q x) := by
  have key : ∀ (d i : Nat) (k : Int), i + d = l.length → 0 ≤ k → k ≤ 1048576 → ∃ r, L k i = some (r, ()) ∧ r ≤ 1048576 ∧ (0 ≤ r → ∀ j (h : j < l.length), i ≤ j → Q l[j]) := by
    intro d
    induction d with
    | zero =>
      intro i k hd k0 k1
      have hi : i = l.length := by omega
      subst hi
      exact ⟨k, stop k, k1, fun _ j hj hij => by omega⟩
    | succ d ih =>
      intro i k hd k0 k1
      have hi : i < l.length := by omega
      obtain ⟨r, e1, e2, e3⟩ := hS l[i] (List.getElem_mem hi) k k0 k1
      rw [step k i hi, e1, Option.bind_some]
      by_cases h : r < 0
      · rw [if_pos (decide_eq_true h)]
        exact ⟨-1, rfl, by omega, fun h => by omega⟩
      · rw [if_neg (by rw [decide_eq_true_eq]; exact h)]
        obtain ⟨r', g1, g2, g3⟩ := ih (i + 1) r (by omega) (by omega) e2
        refine ⟨r', g1, g2, fun hr j hj hij => ?_⟩
        by_cases e : j = i
        · subst e; exact e3 (by omega)
        · exact g3 hr j hj (by omega)
  obtain ⟨r, e1, e2, e3⟩ := key l.length 0 n (by omega) h0 h1
  exact ⟨r, e1, e2, fun hr x hx => by
    obtain ⟨j, hj, rfl⟩ := List.mem_iff_getElem.1 hx
    exact e3 hr j hj (by omega)⟩
end Go.Proofs.YtonmohpdmhfjnaaGreatDoor.E
