/- Loops over slices of structs: sizes, marks. No condition. -/
import Derived.Test.YtonmohpdmhfjnaaGreatDoorPBase
import Derived.Test.YtonmohpdmhfjnaaGreatDoorTMe1
import Derived.Test.YtonmohpdmhfjnaaGreatDoorTMe2
import Derived.Test.YtonmohpdmhfjnaaGreatDoorTMe3
namespace Go.Proofs.YtonmohpdmhfjnaaGreatDoor.E
set_option linter.unusedVariables false
theorem sz_rows {α : Type} (L : Int → Int → Option (Int × Unit)) (S : α → Int → Option (Int × Unit)) (l : List α) (Q : α → Prop) (hl : l.length ≤ 9223372036854775807)
    (hS : ∀ x ∈ l, ∀ k : Int, 0 ≤ k → k ≤ 1048576 → ∃ r, S x k = some (r, ()) ∧ r ≤ 1048576 ∧ (0 ≤ r → Q x))
    (stop : ∀ k, L k (l.length : Int) = some (k, ()))
    (step : ∀ (k : Int) (i : Nat) (h : i < l.length), L k i = (S l[i] k).bind fun (r0 : Int × Unit) => if (decide (r0.1 < 0)) = true then some ((-1), ()) else L r0.1 ((i + 1 : Nat) : Int))
    (n : Int) (h0 : 0 ≤ n) (h1 : n ≤ 1048576) : ∃ r, L n 0 = some (r, ()) ∧ r ≤ 1048576 ∧ (0 ≤ r → ∀ x ∈ l, Q x) := by
  have key : ∀ (d i : Nat) (k : Int), i + d = l.length → 0 ≤ k → k ≤ 1048576 → ∃ r, L k i = some (r, ()) ∧ r ≤ 1048576 ∧ (0 ≤ r → ∀ j (h : j < l.length), i ≤ j → Q l[j]) := by
    intro d
    induction d with
    | zero =>
      intro i k hd k0 k1
      have hi : i = l.length := by omega
      subst hi
      exact ⟨k, stop k, k1, fun _ j hj hij => by omega⟩
    | succ d ih =>
      intro i k hd k0 k1
      have hi : i < l.length := by omega
      obtain ⟨r, e1, e2, e3⟩ := hS l[i] (List.getElem_mem hi) k k0 k1
      rw [step k i hi, e1, Option.bind_some]
      by_cases h : r < 0
      · rw [if_pos (decide_eq_true h)]
        exact ⟨-1, rfl, by omega, fun h => by omega⟩
      · rw [if_neg (by rw [decide_eq_true_eq]; exact h)]
        obtain ⟨r', g1, g2, g3⟩ := ih (i + 1) r (by omega) (by omega) e2
        refine ⟨r', g1, g2, fun hr j hj hij => ?_⟩
        by_cases e : j = i
        · subst e; exact e3 (by omega)
        · exact g3 hr j hj (by omega)
  obtain ⟨r, e1, e2, e3⟩ := key l.length 0 n (by omega) h0 h1
  exact ⟨r, e1, e2, fun hr x hx => by
    obtain ⟨j, hj, rfl⟩ := List.mem_iff_getElem.1 hx
    exact e3 hr j hj (by omega)⟩
theorem mark_rows {α : Type} (L : List α → Int → Int → Option (Int × List α × Unit)) (H : List α → Int → Int → Option (Int × Unit)) (P : α → Prop) (b : Nat) (bd : Int)
    (stop : ∀ a k, L a k (a.length : Int) = some (k, a, ())) (hstop : ∀ a k, H a k (a.length : Int) = some (k, ()))
    (step : ∀ (a : List α) (k : Int) (i : Nat) (h : i < a.length), a.length ≤ 4294967296 → P a[i] → 0 ≤ k → k + b ≤ bd →
      ∃ y k', L a k i = L (a.set i y) k' ((i + 1 : Nat) : Int) ∧ k ≤ k' ∧ k' ≤ k + b ∧ ∀ (c : List α) (hc : i < c.length), c.length ≤ 4294967296 → c[i] = y → H c k i = H c k' ((i + 1 : Nat) : Int))
    (l : List α) (k : Int) (hl : l.length ≤ 4294967296) (hP : ∀ x ∈ l, P x) (hk : 0 ≤ k) (hb : k + b * l.length ≤ bd) :
    ∃ k' l', L l k 0 = some (k', l', ()) ∧ H l' k 0 = some (k', ()) ∧ l'.length = l.length ∧ k ≤ k' ∧ k' ≤ k + b * l.length := by
  have hs : ∀ d : Nat, (b * ((d + 1 : Nat) : Int) : Int) = b * d + b := fun d => by rw [Int.natCast_add, Int.mul_add]; simp
  have hz : ∀ d : Nat, (0 : Int) ≤ b * d := fun d => by exact_mod_cast Nat.zero_le (b * d)
  have key : ∀ (d i : Nat) (a : List α) (k : Int), i + d = a.length → a.length ≤ 4294967296 → (∀ j (h : j < a.length), i ≤ j → P a[j]) → 0 ≤ k → k + b * d ≤ bd →
      ∃ k' a', L a k (i : Int) = some (k', a', ()) ∧ k ≤ k' ∧ k' ≤ k + b * d ∧ a'.length = a.length ∧ (∀ j, j < i → a'[j]? = a[j]?) ∧
        ∀ c : List α, c.length = a.length → (∀ j, i ≤ j → c[j]? = a'[j]?) → H c k (i : Int) = some (k', ()) := by
    intro d
    induction d with
    | zero =>
      intro i a k hd hl hp hk hb
      have hi : i = a.length := by omega
      subst hi
      refine ⟨k, a, stop a k, Int.le_refl k, by simp, rfl, fun _ _ => rfl, fun c hc _ => ?_⟩
      rw [← hc]; exact hstop c k
    | succ d ih =>
      intro i a k hd hl hp hk hb
      have hi : i < a.length := by omega
      have h0 := hz d
      rw [hs] at hb
      obtain ⟨y, k1, e1, e2, e3, e4⟩ := step a k i hi hl (hp i hi (Nat.le_refl i)) hk (by omega)
      obtain ⟨k', a', f1, f2, f3, f4, f5, f6⟩ := ih (i + 1) (a.set i y) k1 (by rw [List.length_set]; omega) (by rw [List.length_set]; exact hl)
        (fun j hj hij => by rw [List.getElem_set_ne (by omega)]; exact hp j (by rw [List.length_set] at hj; exact hj) (by omega)) (by omega) (by omega)
      rw [List.length_set] at f4 f6
      refine ⟨k', a', e1.trans f1, by omega, by rw [hs]; omega, f4, fun j hj => ?_, fun c hc hcj => ?_⟩
      · rw [f5 j (by omega), List.getElem?_set_ne (by omega)]
      · have hic : i < c.length := by omega
        have hc0 : c[i]? = some y := by rw [hcj i (Nat.le_refl i), f5 i (by omega), List.getElem?_set_self hi]
        rw [List.getElem?_eq_getElem hic] at hc0
        rw [e4 c hic (by omega) (Option.some.inj hc0)]
        exact f6 c hc fun j hj => hcj j (by omega)
  obtain ⟨k', a', e1, e2, e3, e4, _, e6⟩ := key l.length 0 l k (by omega) hl (fun j hj _ => hP _ (List.getElem_mem hj)) hk hb
  exact ⟨k', a', e1, e6 a' e4 fun _ _ => rfl, e4, e2, e3⟩
end Go.Proofs.YtonmohpdmhfjnaaGreatDoor.E
