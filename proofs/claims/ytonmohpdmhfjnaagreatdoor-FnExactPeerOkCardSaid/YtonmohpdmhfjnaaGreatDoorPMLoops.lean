/- Loops that look for something. No condition. -/
import Derived.Test.YtonmohpdmhfjnaaGreatDoorPBase
import Derived.Test.YtonmohpdmhfjnaaGreatDoorTMe1
import Derived.Test.YtonmohpdmhfjnaaGreatDoorTMe2
namespace Go.Proofs.YtonmohpdmhfjnaaGreatDoor.E
set_option linter.unusedVariables false
def anyB (p : Nat → Bool) (n : Nat) : Bool := (List.range n).any p
theorem anyB_iff {p : Nat → Bool} {n : Nat} : anyB p n = true ↔ ∃ i, i < n ∧ p i = true := by
  unfold anyB
  rw [List.any_eq_true]
  constructor
  · rintro ⟨i, h, e⟩; exact ⟨i, List.mem_range.1 h, e⟩
  · rintro ⟨i, h, e⟩; exact ⟨i, List.mem_range.2 h, e⟩
theorem anyB_false {p : Nat → Bool} {n : Nat} : anyB p n = false ↔ ∀ i, i < n → p i = false := by
  rw [← Bool.not_eq_true, anyB_iff]
  constructor
  · intro h i hi
    cases e : p i with
    | false => rfl
    | true => exact absurd ⟨i, hi, e⟩ h
  · rintro h ⟨i, hi, e⟩
    rw [h i hi] at e; cases e
theorem anyB_or (p q : Nat → Bool) (n : Nat) : anyB (fun i => p i || q i) n = (anyB p n || anyB q n) := by
  cases h : anyB p n with
  | true =>
    obtain ⟨i, hi, e⟩ := anyB_iff.1 h
    rw [Bool.true_or, anyB_iff]; exact ⟨i, hi, by rw [e]; rfl⟩
  | false =>
    rw [Bool.false_or]
    have h' := anyB_false.1 h
    cases g : anyB q n with
    | true =>
      obtain ⟨i, hi, e⟩ := anyB_iff.1 g
      rw [anyB_iff]; exact ⟨i, hi, by rw [e, Bool.or_true]⟩
    | false => rw [anyB_false]; intro i hi; rw [h' i hi, anyB_false.1 g i hi]; rfl
theorem find_loopN {ρ : Type} (F : Int → Option ρ) (n : Nat) (p : Nat → Bool) (x y : Option ρ)
    (step : ∀ i : Nat, i < n → F i = if p i = true then x else F ((i + 1 : Nat) : Int)) (stop : F (n : Int) = y) : F 0 = if anyB p n = true then x else y := by
  have key : ∀ (d i : Nat), i + d = n → (∀ j, j < i → p j = false) → F (i : Int) = if anyB p n = true then x else y := by
    intro d
    induction d with
    | zero =>
      intro i hd hj
      have hi : i = n := by omega
      subst hi
      rw [stop, anyB_false.2 hj]; rfl
    | succ d ih =>
      intro i hd hj
      rw [step i (by omega)]
      cases e : p i with
      | true => rw [if_pos rfl, anyB_iff.2 ⟨i, by omega, e⟩, if_pos rfl]
      | false =>
        rw [if_neg (by simp)]
        refine ih (i + 1) (by omega) fun j h => ?_
        by_cases h' : j = i
        · subst h'; exact e
        · exact hj j (by omega)
  exact key n 0 (by omega) (fun j h => absurd h (by omega))
theorem index_loop {σ : Type} (F : Int → Option (Int × σ)) (s : σ) (n : Nat) (p : Nat → Bool)
    (step : ∀ i : Nat, i < n → F i = if p i = true then some ((i : Int), s) else F ((i + 1 : Nat) : Int)) (stop : F (n : Int) = some (-1, s)) :
    ∃ k : Int, F 0 = some (k, s) ∧ decide (k ≥ 0) = anyB p n ∧ k < n ∧ (0 ≤ k → p k.toNat = true ∧ ∀ j : Nat, (j : Int) < k → p j = false) ∧ (k < 0 → k = -1) := by
  have key : ∀ (d i : Nat), i + d = n → (∀ j, j < i → p j = false) → ∃ k : Int, F (i : Int) = some (k, s) ∧ decide (k ≥ 0) = anyB p n ∧ k < n ∧ (0 ≤ k → p k.toNat = true ∧ ∀ j : Nat, (j : Int) < k → p j = false) ∧ (k < 0 → k = -1) := by
    intro d
    induction d with
    | zero =>
      intro i hd hj
      have hi : i = n := by omega
      subst hi
      exact ⟨-1, stop, by rw [anyB_false.2 hj]; rfl, by omega, fun h => by omega, fun _ => rfl⟩
    | succ d ih =>
      intro i hd hj
      rw [step i (by omega)]
      cases e : p i with
      | true => rw [if_pos rfl]; exact ⟨i, rfl, by rw [anyB_iff.2 ⟨i, by omega, e⟩]; exact decide_eq_true (by omega), by omega, fun _ => ⟨by rw [Int.toNat_natCast]; exact e, fun j h => hj j (by omega)⟩, fun h => by omega⟩
      | false =>
        rw [if_neg (by simp)]
        refine ih (i + 1) (by omega) fun j h => ?_
        by_cases h' : j = i
        · subst h'; exact e
        · exact hj j (by omega)
  exact key n 0 (by omega) (fun j h => absurd h (by omega))
theorem anyB_list {α : Type} (l : List α) (z : α) (p : α → Bool) : anyB (fun i => p (l.getD i z)) l.length = l.any p := by
  cases h : l.any p with
  | true =>
    obtain ⟨x, hx, e⟩ := List.any_eq_true.1 h
    obtain ⟨i, hi, rfl⟩ := List.mem_iff_getElem.1 hx
    exact anyB_iff.2 ⟨i, hi, by rw [getD_lt hi]; exact e⟩
  | false =>
    rw [anyB_false]
    intro i hi
    rw [getD_lt hi]
    cases e : p l[i] with
    | false => rfl
    | true =>
      have : l.any p = true := List.any_eq_true.2 ⟨l[i], List.getElem_mem hi, e⟩
      rw [h] at this; cases this
end Go.Proofs.YtonmohpdmhfjnaaGreatDoor.E
