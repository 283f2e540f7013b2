/- Marks on records. No condition. -/
import Derived.Test.YtlidpmhmchbilaaPAMarkEntry
import Derived.Test.YtlidpmhmchbilaaTAe1
namespace Go.Proofs.Ytlidpmhmchbilaa.E.TA
open Go.Proofs.Ytlidpmhmchbilaa.E
set_option linter.unusedVariables false
theorem markRec_ok (r : impl_Rec) (k : Int) (hl : r.List.length ≤ 4294967296) (hk : 0 ≤ k) (hb : k ≤ 1000000000000) :
    ∃ r', l_markRec r k = some (k + 4 * r.List.length, r', ()) ∧ l_heldRec r' k = some (k + 4 * r.List.length, ()) := by
  obtain ⟨l', e1, e2, e3⟩ := markEntryS_ok r.List k hl hk hb
  refine ⟨⟨r.Kind, r.Term, r.Vote, r.Prev, l', r.Snap⟩, by rw [l_markRec_eq, e1]; rfl, ?_⟩
  rw [l_heldRec_eq, e2, Option.bind_some, if_neg (by rw [decide_eq_true_eq]; omega)]
end Go.Proofs.Ytlidpmhmchbilaa.E.TA
