/- The pure statement of FnExactLogPut. No condition. -/
import Derived.Test.YtajahbpeiifcbaaPBLawLog
import Derived.Test.YtajahbpeiifcbaaPBLogPut
import Derived.Test.YtajahbpeiifcbaaPBHeldLog
import Derived.Test.YtajahbpeiifcbaaTBe1
import Derived.Test.YtajahbpeiifcbaaQFnExactLogPut
namespace Go.Proofs.Ytajahbpeiifcbaa.E.TB
open Go.Proofs.Ytajahbpeiifcbaa.E
set_option linter.unusedVariables false
theorem fine_EntryS {l : List laws_Entry} (h : Fine (G := gam) 40 (.sl (.nm 2)) l) : l.length ≤ 9223372036854775807 ∧ ∀ e ∈ l, e.C.Line.length ≤ 9223372036854775807 := by
  have h' : l.length ≤ 9223372036854775807 ∧ ∀ e ∈ l, _ ∧ (_ ∧ _ ∧ (e.C.Line.length ≤ 9223372036854775807 ∧ _) ∧ _) ∧ _ := h
  exact ⟨h'.1, fun e he => (h'.2 e he).2.1.2.2.1.1⟩
theorem pureFnExactLogPut : PureFnExactLogPut := by
  intro l p t lst hl hp ht hlst
  rw [l_FnExactLogPut_eq]
  have hl' := fine_Log hl
  obtain ⟨f1, f2⟩ := fine_EntryS hlst
  obtain ⟨r, e1, g2, g3, g4⟩ := szLog_ok l 1048576 (by omega) (by omega) hl'.1 hl'.2
  rw [e1, Option.bind_some]
  by_cases h : r < 0
  · rw [if_pos (decide_eq_true h)]
  · rw [if_neg (by rw [decide_eq_true_eq]; exact h)]
    obtain ⟨n1, n2⟩ := g3 (by omega)
    obtain ⟨q, e2, g5, g6, g7⟩ := szEntryS_ok lst r (by omega) (by omega) f1 f2
    rw [e2, Option.bind_some]
    by_cases h2 : q < 0
    · rw [if_pos (decide_eq_true h2)]
    · rw [if_neg (by rw [decide_eq_true_eq]; exact h2)]
      obtain ⟨n3, n4⟩ := g6 (by omega)
      have hc : (cLog l).List.length ≤ 1048576 := by show (l.List.map cEntry).length ≤ _; rw [List.length_map]; exact n1
      have hd : (lst.map cEntry).length ≤ 1048576 := by rw [List.length_map]; exact n3
      obtain ⟨y, ok, h1, h2, hy⟩ := logPut_same (cLog l) p t (lst.map cEntry) hc hd (lines_map f2) (lines_map hl'.2) (fine_LogI hl).1 (fineI hp)
      obtain ⟨m, m1, m2⟩ := markLog_ok (cLog l) 1 (by omega) (by omega) (by omega)
      obtain ⟨m', m3, m4, m5⟩ := markEntryS_ok (lst.map cEntry) (1 + 4 * (cLog l).List.length) (by omega) (by omega) (by omega)
      obtain ⟨n, k1, k2⟩ := markLog_ok y 1 (by omega) (by omega) (by omega)
      have k3 := heldLog_ok k2 (by omega)
      have c1 : ¬ 1 + 4 * ((cLog l).List.length : Int) + 4 * ((lst.map cEntry).length : Int) < 0 := by omega
      have c2 : ¬ 1 + 4 * (y.List.length : Int) < 0 := by omega
      simp only [toLog_ok l n1, toEntryS_ok lst n3, h1, h2, m1, m3, k1, k3, eqLog_ok y (by omega), eqLog_ok (cLog l) (by omega), eqEntryS_ok (lst.map cEntry) (by omega), Option.bind_some, decide_eq_true_eq, if_neg c1, if_neg c2]
      simp
end Go.Proofs.Ytajahbpeiifcbaa.E.TB
