/- Small laws for the pure proofs: words of 64 bits, loops over lists. No condition. -/
import Derived.Test.YtlidpmhmchbilaaGreatEG4
import Derived.Laws.BitsLemmas
namespace Go.Proofs.YtlidpmhmchbilaaGreat.E
set_option linter.unusedVariables false
theorem w64_id {n : Int} (h : -9223372036854775808 ≤ n) (h' : n ≤ 9223372036854775807) : w64 n = n := by
  show IntKind.i64.wrap n = n
  rw [IntKind.wrap_i64]; omega
theorem w64_bd (n : Int) : -9223372036854775808 ≤ w64 n ∧ w64 n ≤ 9223372036854775807 := by
  show -9223372036854775808 ≤ IntKind.i64.wrap n ∧ IntKind.i64.wrap n ≤ 9223372036854775807
  rw [IntKind.wrap_i64]; omega
theorem w8_id {n : Int} (h : 0 ≤ n) (h' : n ≤ 255) : w8 n = n := by
  show IntKind.u8.wrap n = n
  rw [IntKind.wrap_u8]; omega
theorem w8_bd (n : Int) : 0 ≤ w8 n ∧ w8 n ≤ 255 := by
  show 0 ≤ IntKind.u8.wrap n ∧ IntKind.u8.wrap n ≤ 255
  rw [IntKind.wrap_u8]; omega
theorem w64_succ {i : Nat} {n : Nat} (h : i < n) (hn : n ≤ 9223372036854775807) : w64 ((i : Int) + 1) = ((i + 1 : Nat) : Int) := by
  rw [w64_id (by omega) (by omega)]; omega
theorem wraps_i64 (j : Nat) (hj : j ≤ 63) (n : Int) (h₀ : 0 ≤ n) (h₁ : n < 2 ^ j) : IntKind.i64.wrap n = n := by
  rw [IntKind.wrap_i64]
  have : (2 : Int) ^ j ≤ 2 ^ 63 := by exact_mod_cast Nat.pow_le_pow_right (by omega) hj
  omega
theorem and_127 {x : Int} (h0 : 0 ≤ x) (h1 : x < 9223372036854775808) : Go.bits .and .i64 x 127 = x % 128 :=
  bits_mask .i64 63 (by decide) (wraps_i64 63 (by omega)) 7 (by decide) x h0 h1
theorem or_128 {x : Int} (h0 : 0 ≤ x) (h1 : x < 128) : Go.bits .or .i64 x 128 = x + 128 := by
  obtain ⟨a, rfl⟩ := Int.eq_ofNat_of_zero_le h0
  have e := (bits_nat .i64 63 (by decide) (wraps_i64 63 (by omega)) a 128 (by omega) (by decide)).2
  have e2 := Nat.two_pow_add_eq_or_of_lt (i := 7) (b := a) (by omega) 1
  have e3 : ((128 : Nat) : Int) = 128 := rfl
  rw [e3] at e
  rw [e, Nat.or_comm]
  simp at e2
  omega
theorem room_eq : room = 4294967296 := rfl
theorem amb_self {ρ : Type} (a : Option ρ) : amb a a = a := by unfold amb; rw [if_pos rfl]
theorem getD_lt {α : Type} {l : List α} {i : Nat} (h : i < l.length) (z : α) : l.getD i z = l[i] := by
  rw [List.getD_eq_getElem?_getD, List.getElem?_eq_getElem h]; rfl
theorem getD_nat {α : Type} {l : List α} {i : Nat} (h : i < l.length) (z : α) : l.getD (i : Int).toNat z = l[i] := by
  rw [Int.toNat_natCast]; exact getD_lt h z

/-- A loop that fills a list of its own, one by one. -/
theorem to_loop {α β : Type} (L : List β → Int → Option (List β × Unit)) (f : α → β) (l : List α)
    (step : ∀ (acc : List β) (i : Nat) (h : i < l.length), acc.length = l.length → L acc i = L (acc.set i (f l[i])) ((i + 1 : Nat) : Int))
    (stop : ∀ acc : List β, acc.length = l.length → L acc (l.length : Int) = some (acc, ())) (acc : List β) (ha : acc.length = l.length) : L acc 0 = some (l.map f, ()) := by
  have key : ∀ (d i : Nat) (acc : List β), acc.length = l.length → i + d = l.length → (∀ j (hj : j < i) (h : j < l.length), acc[j]? = some (f l[j])) → L acc (i : Int) = some (l.map f, ()) := by
    intro d
    induction d with
    | zero =>
      intro i acc ha hd hj
      have hi : i = l.length := by omega
      subst hi
      rw [stop acc ha]
      congr 2
      apply List.ext_getElem?
      intro j
      by_cases h : j < l.length
      · rw [hj j h h, List.getElem?_map, List.getElem?_eq_getElem h]; rfl
      · rw [List.getElem?_eq_none (by omega), List.getElem?_eq_none (by rw [List.length_map]; omega)]
    | succ d ih =>
      intro i acc ha hd hj
      have hi : i < l.length := by omega
      rw [step acc i hi ha]
      refine ih (i + 1) _ (by rw [List.length_set]; exact ha) (by omega) fun j hji h => ?_
      by_cases e : i = j
      · subst e
        rw [List.getElem?_set_self (by omega)]
      · rw [List.getElem?_set_ne e]
        exact hj j (by omega) h
  exact key l.length 0 acc ha (by omega) fun j hj _ => absurd hj (by omega)

/-- A loop that looks at each. -/
theorem all_loop {ρ α : Type} (L : Int → Option ρ) (l : List α) (y : Option ρ) (step : ∀ (i : Nat) (h : i < l.length), L i = L ((i + 1 : Nat) : Int)) (stop : L (l.length : Int) = y) : L 0 = y := by
  have key : ∀ (d i : Nat), i + d = l.length → L (i : Int) = y := by
    intro d
    induction d with
    | zero => intro i hd; rw [show i = l.length by omega]; exact stop
    | succ d ih => intro i hd; rw [step i (by omega)]; exact ih (i + 1) (by omega)
  exact key l.length 0 (by omega)

theorem getD_set {α : Type} {l : List α} {i : Nat} (h : i < l.length) (a z : α) : (l.set i a).getD i z = a := by
  rw [List.getD_eq_getElem?_getD, List.getElem?_set_self h]; rfl
/-- Marks on each of a list: what is marked is held. -/
theorem mark_loop {α : Type} (L : List α → Int → Int → Option (Int × List α × Unit)) (H : List α → Int → Int → Option (Int × Unit)) (m : Int → α → α) (c : Nat)
    (stop : ∀ l k, L l k (l.length : Int) = some (k, l, ()))
    (step : ∀ (l : List α) (k : Int) (i : Nat) (h : i < l.length), l.length ≤ 4294967296 → 0 ≤ k → k + c ≤ 4611686018427387904 → L l k i = L (l.set i (m k l[i])) (k + c) ((i + 1 : Nat) : Int))
    (hstop : ∀ l k, H l k (l.length : Int) = some (k, ()))
    (hstep : ∀ (l : List α) (k : Int) (i : Nat) (h : i < l.length) (x : α), l.length ≤ 4294967296 → 0 ≤ k → k + c ≤ 4611686018427387904 → l[i] = m k x → H l k i = H l (k + c) ((i + 1 : Nat) : Int))
    (l : List α) (k : Int) (hl : l.length ≤ 4294967296) (hk : 0 ≤ k) (hb : k + c * l.length ≤ 4611686018427387904) :
    ∃ l', L l k 0 = some (k + c * l.length, l', ()) ∧ H l' k 0 = some (k + c * l.length, ()) ∧ l'.length = l.length := by
  have hc : ∀ i : Nat, i ≤ l.length → (c * i : Int) ≤ c * l.length := fun i hi => by
    have := Nat.mul_le_mul_left c hi
    exact_mod_cast this
  have hs : ∀ i : Nat, (c * ((i + 1 : Nat) : Int) : Int) = c * i + c := fun i => by rw [Int.natCast_add, Int.mul_add]; simp
  have hz : ∀ i : Nat, (0 : Int) ≤ c * i := fun i => by exact_mod_cast Nat.zero_le (c * i)
  have key : ∀ (d i : Nat) (a : List α), i + d = l.length → a.length = l.length → (∀ j (h : j < a.length), j < i → ∃ x, a[j] = m (k + c * j) x) →
      ∃ l' : List α, L a (k + c * i) (i : Int) = some (k + c * l.length, l', ()) ∧ l'.length = l.length ∧ ∀ j (h : j < l'.length), ∃ x, l'[j] = m (k + c * j) x := by
    intro d
    induction d with
    | zero =>
      intro i a hd ha hj
      have hi : i = a.length := by omega
      subst hi
      refine ⟨a, ?_, ha, fun j h => hj j h h⟩
      rw [stop, ha]
    | succ d ih =>
      intro i a hd ha hj
      have hi : i < a.length := by omega
      have h1 := hc (i + 1) (by omega)
      rw [hs] at h1
      have h0 := hz i
      rw [step a (k + c * i) i hi (by omega) (by omega) (by omega), show k + c * i + c = k + c * ((i + 1 : Nat) : Int) by rw [hs]; omega]
      refine ih (i + 1) _ (by omega) (by simpa using ha) fun j h hji => ?_
      by_cases e : i = j
      · subst e
        exact ⟨a[i], List.getElem_set_self ..⟩
      · rw [List.getElem_set_ne e]
        exact hj j (by simpa using h) (by omega)
  obtain ⟨l', e1, e2, e3⟩ := key l.length 0 l (by omega) rfl fun j h hj => absurd hj (by omega)
  refine ⟨l', by simpa using e1, ?_, e2⟩
  have held : ∀ (d i : Nat), i + d = l'.length → H l' (k + c * i) (i : Int) = some (k + c * l.length, ()) := by
    intro d
    induction d with
    | zero =>
      intro i hd
      have hi : i = l'.length := by omega
      subst hi
      rw [hstop, e2]
    | succ d ih =>
      intro i hd
      have hi : i < l'.length := by omega
      have h1 := hc (i + 1) (by omega)
      rw [hs] at h1
      have h0 := hz i
      obtain ⟨x, hx⟩ := e3 i hi
      rw [hstep l' (k + c * i) i hi x (by omega) (by omega) (by omega) hx, show k + c * i + c = k + c * ((i + 1 : Nat) : Int) by rw [hs]; omega]
      exact ih (i + 1) (by omega)
  simpa using held l'.length 0 (by omega)
end Go.Proofs.YtlidpmhmchbilaaGreat.E
