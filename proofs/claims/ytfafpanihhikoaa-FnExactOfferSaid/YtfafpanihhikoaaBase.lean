/- Small laws of numbers, lists and rounds that the pure statements share; no condition. -/
import Derived.Test.YtfafpanihhikoaaWWords
import Derived.Test.YtfafpanihhikoaaWMore
import Derived.Laws.BitsLemmas
import Derived.OpenShut
import Derived.Lib.MinMax
namespace Go.Proofs.Ytfafpanihhikoaa.Base
open Go.RowKit Go.Proofs.YtfafpanihhikoaaW.PrintWords Go.Proofs.YtfafpanihhikoaaW.PrintMore
set_option linter.unusedVariables false

theorem w64 {x : Int} (h0 : -9223372036854775808 ≤ x) (h1 : x ≤ 9223372036854775807) : wrap64 x = x := by unfold wrap64; omega
theorem w64_range (x : Int) : -9223372036854775808 ≤ wrap64 x ∧ wrap64 x ≤ 9223372036854775807 := by unfold wrap64; omega
theorem wf_i64 {x : Int} (h : (Lit.int .i64 x).wf = true) : -9223372036854775808 ≤ x ∧ x ≤ 9223372036854775807 := by
  simp [Lit.wf, IntKind.min, IntKind.max, IntKind.bits, IntKind.signed] at h; omega
theorem wf_u8 {x : Int} (h : (Lit.int .u8 x).wf = true) : 0 ≤ x ∧ x ≤ 255 := by
  simp [Lit.wf, IntKind.min, IntKind.max, IntKind.bits, IntKind.signed] at h; omega

section
variable {α β : Type}
theorem ev_pos {c : Prop} [Decidable c] {f g : Nat → Option α} {r : α} (h : c) (e : Ev f r) : Ev (fun k => if c then f k else g k) r := by
  obtain ⟨K, hK⟩ := e; exact ⟨K, fun k hk => (if_pos h).trans (hK k hk)⟩
theorem ev_neg {c : Prop} [Decidable c] {f g : Nat → Option α} {r : α} (h : ¬ c) (e : Ev g r) : Ev (fun k => if c then f k else g k) r := by
  obtain ⟨K, hK⟩ := e; exact ⟨K, fun k hk => (if_neg h).trans (hK k hk)⟩
theorem ev_some {r s : α} (h : r = s) : Ev (fun _ => some r) s := h ▸ Ev.now r
theorem ev_of_eq {g : Nat → Option α} {r : α} (h : ∀ k, g k = some r) : Ev g r := ⟨0, fun k _ => h k⟩
theorem ev_bind_eq {o : Option α} {a : α} {f : Nat → α → Option β} {r : β} (h : o = some a) (e : Ev (fun k => f k a) r) : Ev (fun k => o.bind (f k)) r := by
  subst h; exact e
theorem ev_rounds {g : Nat → Option α} {r : α} (e : Ev g r) : ∃ k, g k = some r := e.rounds
end

theorem rd_get {l : List Int} {i : Int} (h0 : 0 ≤ i) (h1 : i < (l.length : Int)) : ∃ h : i.toNat < l.length, rd l i = l[i.toNat] := by
  have h : i.toNat < l.length := by omega
  exact ⟨h, by simp [rd, h]⟩
theorem rd_mem {l : List Int} {i : Int} (h0 : 0 ≤ i) (h1 : i < (l.length : Int)) : rd l i ∈ l := by
  obtain ⟨h, e⟩ := rd_get h0 h1
  rw [e]; exact List.getElem_mem h
theorem rd_set {l : List Int} {i j x : Int} (hi : 0 ≤ i) (hj : 0 ≤ j) (hl : j < (l.length : Int)) : rd (l.set j.toNat x) i = if i = j then x else rd l i := by
  unfold rd
  rw [List.getD_eq_getElem?_getD, List.getD_eq_getElem?_getD, List.getElem?_set]
  by_cases h : i = j
  · subst h
    rw [if_pos rfl, if_pos rfl, if_pos (by omega)]; rfl
  · rw [if_neg (by omega), if_neg h]
theorem ext_rd {a b : List Int} (hl : a.length = b.length) (h : ∀ i : Int, 0 ≤ i → i < (a.length : Int) → rd a i = rd b i) : a = b := by
  apply List.ext_getElem hl
  intro n h1 h2
  have := h n (by omega) (by omega)
  simpa [rd, h1, h2] using this
theorem bt_wf (s : ByteArray) (i : Int) : 0 ≤ bt s i ∧ bt s i ≤ 255 := bt_range s i
theorem wraps_i64 (j : Nat) (hj : j ≤ 63) (n : Int) (h₀ : 0 ≤ n) (h₁ : n < 2 ^ j) : IntKind.i64.wrap n = n := by
  rw [IntKind.wrap_i64]
  have : (2 : Int) ^ j ≤ 2 ^ 63 := by exact_mod_cast Nat.pow_le_pow_right (by omega) hj
  omega
theorem and_127 {x : Int} (h0 : 0 ≤ x) (h1 : x < 9223372036854775808) : Go.bits .and .i64 x 127 = x % 128 :=
  bits_mask .i64 63 (by decide) (wraps_i64 63 (by omega)) 7 (by decide) x h0 h1
theorem or_128 {x : Int} (h0 : 0 ≤ x) (h1 : x < 128) : Go.bits .or .i64 x 128 = x + 128 := by
  obtain ⟨a, rfl⟩ := Int.eq_ofNat_of_zero_le h0
  have e := (bits_nat .i64 63 (by decide) (wraps_i64 63 (by omega)) a 128 (by omega) (by decide)).2
  have e2 := Nat.two_pow_add_eq_or_of_lt (i := 7) (b := a) (by omega) 1
  have e3 : ((128 : Nat) : Int) = 128 := rfl
  rw [e3] at e
  rw [e, Nat.or_comm]
  simp at e2
  omega
theorem toList_inj {s t : ByteArray} (h : s.toList = t.toList) : s = t := by
  rw [Go.ByteArray.toList_eq, Go.ByteArray.toList_eq] at h
  cases s; cases t; simp at h; rw [h]
end Go.Proofs.Ytfafpanihhikoaa.Base
