/- The harness at entries. No condition. -/
import Derived.Test.YtajahbpeiifcbaaPBase
import Derived.Test.YtajahbpeiifcbaaTLe1
namespace Go.Proofs.Ytajahbpeiifcbaa.E.TL
open Go.Proofs.Ytajahbpeiifcbaa.E
set_option linter.unusedVariables false
/-- A loop of sizes: what is left, or less than none; if something is left there was room for all. -/
theorem sz_loop {α : Type} (L : Int → Int → Option (Int × Unit)) (l : List α) (c : α → Nat) (hc : l.length ≤ 9223372036854775807)
    (stop : ∀ k, L k (l.length : Int) = some (k, ()))
    (step : ∀ (k : Int) (i : Nat) (h : i < l.length), 0 ≤ k → k ≤ 1048576 → L k i = if (c l[i] : Int) ≤ k then L (k - c l[i]) ((i + 1 : Nat) : Int) else some (-1, ())) (n : Int) (h0 : 0 ≤ n) (h1 : n ≤ 1048576) :
    ∃ r, L n 0 = some (r, ()) ∧ r ≤ 1048576 ∧ (0 ≤ r → ∀ x ∈ l, (c x : Int) ≤ 1048576) ∧ -1 ≤ r := by
  have key : ∀ (d i : Nat) (k : Int), i + d = l.length → 0 ≤ k → k ≤ 1048576 → ∃ r, L k i = some (r, ()) ∧ r ≤ 1048576 ∧ (0 ≤ r → ∀ j (h : j < l.length), i ≤ j → (c l[j] : Int) ≤ 1048576) ∧ -1 ≤ r := by
    intro d
    induction d with
    | zero =>
      intro i k hd k0 k1
      have hi : i = l.length := by omega
      subst hi
      exact ⟨k, stop k, k1, fun _ j hj hij => by omega, by omega⟩
    | succ d ih =>
      intro i k hd k0 k1
      have hi : i < l.length := by omega
      rw [step k i hi k0 k1]
      by_cases h : (c l[i] : Int) ≤ k
      · rw [if_pos h]
        obtain ⟨r, e1, e2, e3, e4⟩ := ih (i + 1) (k - c l[i]) (by omega) (by omega) (by omega)
        refine ⟨r, e1, e2, fun hr j hj hij => ?_, e4⟩
        by_cases e : j = i
        · subst e; omega
        · exact e3 hr j hj (by omega)
      · rw [if_neg h]
        exact ⟨-1, rfl, by omega, fun h => by omega, by omega⟩
  obtain ⟨r, e1, e2, e3, e4⟩ := key l.length 0 n (by omega) h0 h1
  exact ⟨r, e1, e2, fun hr x hx => by
    obtain ⟨j, hj, rfl⟩ := List.mem_iff_getElem.1 hx
    exact e3 hr j hj (by omega), e4⟩
def cCmd (c : laws_Cmd) : impl_Cmd := ⟨c.Who, c.Seq, c.Line⟩
def cEntry (e : laws_Entry) : impl_Entry := ⟨e.Term, cCmd e.C⟩
end Go.Proofs.Ytajahbpeiifcbaa.E.TL
