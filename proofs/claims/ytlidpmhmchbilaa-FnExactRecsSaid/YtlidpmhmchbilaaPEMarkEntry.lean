/- Marks on entries. No condition. -/
import Derived.Test.YtlidpmhmchbilaaPEMarkText
import Derived.Test.YtlidpmhmchbilaaTEe1
namespace Go.Proofs.Ytlidpmhmchbilaa.E.TE
open Go.Proofs.Ytlidpmhmchbilaa.E
set_option linter.unusedVariables false
theorem markEntryS_ok (l : List impl_Entry) (k : Int) (hl : l.length ≤ 4294967296) (hk : 0 ≤ k) (hb : k ≤ 1000000000000) :
    ∃ l', l_markEntryS l k = some (k + 4 * l.length, l', ()) ∧ l_heldEntryS l' k = some (k + 4 * l.length, ()) ∧ l'.length = l.length := by
  rw [l_markEntryS_eq]
  obtain ⟨l', e1, e2, e3⟩ := mark_loop (fun l k i => l_markEntryS_L1 l k i) (fun l k i => l_heldEntryS_L1 l k i) (fun k x => ⟨k, ⟨k + 1, k + 1 + 1, mText (k + 1 + 1 + 1)⟩⟩) 4
    (fun l k => by show l_markEntryS_L1 l k _ = _; rw [l_markEntryS_L1_eq, if_neg (by simp)])
    (fun l k i h hl hk hb => by
      show l_markEntryS_L1 l k i = _
      have c : (0 : Int) ≤ (i : Int) ∧ (i : Int) < (l.length : Int) := by omega
      rw [l_markEntryS_L1_eq, if_pos (decide_eq_true c.2), if_pos c, w64_id (n := k + 1) (by omega) (by omega), w64_id (n := k + 1 + 1) (by omega) (by omega), w64_id (n := k + 1 + 1 + 1) (by omega) (by omega), w64_id (n := k + 1 + 1 + 1 + 1) (by omega) (by omega), w64_succ h (by omega), markText_eq _ (by omega)]
      simp only [List.length_set, if_pos c, Option.bind_some, Int.toNat_natCast, getD_set, h, List.set_set]
      rw [show k + 1 + 1 + 1 + 1 = k + (4 : Nat) by omega])
    (fun l k => by show l_heldEntryS_L1 l k _ = _; rw [l_heldEntryS_L1_eq, if_neg (by simp)])
    (fun l k i h x hl hk hb hx => by
      show l_heldEntryS_L1 l k i = _
      have c : (0 : Int) ≤ (i : Int) ∧ (i : Int) < (l.length : Int) := by omega
      rw [l_heldEntryS_L1_eq, if_pos (decide_eq_true c.2), w64_id (n := k + 1) (by omega) (by omega), w64_id (n := k + 1 + 1) (by omega) (by omega), w64_id (n := k + 1 + 1 + 1) (by omega) (by omega), w64_id (n := k + 1 + 1 + 1 + 1) (by omega) (by omega), w64_succ h (by omega), markText_eq _ (by omega), getD_nat h, hx]
      simp only [if_pos c, Option.bind_some, decide_true, Bool.not_true, Bool.false_eq_true, if_false]
      rw [show k + 1 + 1 + 1 + 1 = k + (4 : Nat) by omega])
    l k hl hk (by omega)
  exact ⟨l', e1, by rw [l_heldEntryS_eq]; exact e2, e3⟩
end Go.Proofs.Ytlidpmhmchbilaa.E.TE
