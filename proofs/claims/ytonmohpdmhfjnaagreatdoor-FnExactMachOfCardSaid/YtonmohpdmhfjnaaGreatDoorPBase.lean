/- Small laws for the pure proofs: words of 64 bits, loops over lists. No condition. -/
import Derived.Test.YtonmohpdmhfjnaaGreatDoorEG4
import Derived.Laws.BitsLemmas
namespace Go.Proofs.YtonmohpdmhfjnaaGreatDoor.E
set_option linter.unusedVariables false
theorem w64_id {n : Int} (h : -9223372036854775808 ≤ n) (h' : n ≤ 9223372036854775807) : w64 n = n := by
  show IntKind.i64.wrap n = n
  rw [IntKind.wrap_i64]; omega
theorem w8_id {n : Int} (h : 0 ≤ n) (h' : n ≤ 255) : w8 n = n := by
  show IntKind.u8.wrap n = n
  rw [IntKind.wrap_u8]; omega
theorem w8_bd (n : Int) : 0 ≤ w8 n ∧ w8 n ≤ 255 := by
  show 0 ≤ IntKind.u8.wrap n ∧ IntKind.u8.wrap n ≤ 255
  rw [IntKind.wrap_u8]; omega
theorem w64_succ {i : Nat} {n : Nat} (h : i < n) (hn : n ≤ 9223372036854775807) : w64 ((i : Int) + 1) = ((i + 1 : Nat) : Int) := by
  rw [w64_id (by omega) (by omega)]; omega
theorem wraps_i64 (j : Nat) (hj : j ≤ 63) (n : Int) (h₀ : 0 ≤ n) (h₁ : n < 2 ^ j) : IntKind.i64.wrap n = n := by
  rw [IntKind.wrap_i64]
  have : (2 : Int) ^ j ≤ 2 ^ 63 := by exact_mod_cast Nat.pow_le_pow_right (by omega) hj
  omega
theorem and_127 {x : Int} (h0 : 0 ≤ x) (h1 : x < 9223372036854775808) : Go.bits .and .i64 x 127 = x % 128 :=
  bits_mask .i64 63 (by decide) (wraps_i64 63 (by omega)) 7 (by decide) x h0 h1
theorem room_eq : room = 4294967296 := rfl
theorem getD_lt {α : Type} {l : List α} {i : Nat} (h : i < l.length) (z : α) : l.getD i z = l[i] := by
  rw [List.getD_eq_getElem?_getD, List.getElem?_eq_getElem h]; rfl
theorem getD_nat {α : Type} {l : List α} {i : Nat} (h : i < l.length) (z : α) : l.getD (i : Int).toNat z = l[i] := by
  rw [Int.toNat_natCast]; exact getD_lt h z
theorem to_loop {α β : Type} (L : List β → Int → Option (List β × Unit)) (f : α → β) (l : List α)
    (step : ∀ (acc : List β) (i : Nat) (h : i < l.length), acc.length = l.length → L acc i = L (acc.set i (f l[i])) ((i + 1 : Nat) : Int))
    (stop : ∀ acc : List β, acc.length = l.length → L acc (l.length : Int) = some (acc, ())) (acc : List β) (ha : acc.length = l.length) : L acc 0 = some (l.map f, ()) := by
  have key : ∀ (d i : Nat) (acc : List β), acc.length = l.length → i + d = l.length → (∀ j (hj : j < i) (h : j < l.length), acc[j]? = some (f l[j])) → L acc (i : Int) = some (l.map f, ()) := by
    intro d
    induction d with
    | zero =>
      intro i acc ha hd hj
      have hi : i = l.length := by omega
      subst hi
      rw [stop acc ha]
      congr 2
      apply List.ext_getElem?
      intro j
      by_cases h : j < l.length
      · rw [hj j h h, List.getElem?_map, List.getElem?_eq_getElem h]; rfl
      · rw [List.getElem?_eq_none (by omega), List.getElem?_eq_none (by rw [List.length_map]; omega)]
    | succ d ih =>
      intro i acc ha hd hj
      have hi : i < l.length := by omega
      rw [step acc i hi ha]
      refine ih (i + 1) _ (by rw [List.length_set]; exact ha) (by omega) fun j hji h => ?_
      by_cases e : i = j
      · subst e
        rw [List.getElem?_set_self (by omega)]
      · rw [List.getElem?_set_ne e]
        exact hj j (by omega) h
  exact key l.length 0 acc ha (by omega) fun j hj _ => absurd hj (by omega)
theorem all_loop {ρ α : Type} (L : Int → Option ρ) (l : List α) (y : Option ρ) (step : ∀ (i : Nat) (h : i < l.length), L i = L ((i + 1 : Nat) : Int)) (stop : L (l.length : Int) = y) : L 0 = y := by
  have key : ∀ (d i : Nat), i + d = l.length → L (i : Int) = y := by
    intro d
    induction d with
    | zero => intro i hd; rw [show i = l.length by omega]; exact stop
    | succ d ih => intro i hd; rw [step i (by omega)]; exact ih (i + 1) (by omega)
  exact key l.length 0 (by omega)
theorem getD_set {α : Type} {l : List α} {i : Nat} (h : i < l.length) (a z : α) : (l.set i a).getD i z = a := by
  rw [List.getD_eq_getElem?_getD, List.getElem?_set_self h]; rfl
end Go.Proofs.YtonmohpdmhfjnaaGreatDoor.E
