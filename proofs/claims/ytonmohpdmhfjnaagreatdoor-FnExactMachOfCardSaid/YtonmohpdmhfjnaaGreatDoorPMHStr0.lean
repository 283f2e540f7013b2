/- Marks on slices of texts, not held afterwards. No condition but lengths. -/
import Derived.Test.YtonmohpdmhfjnaaGreatDoorPMHStr
import Derived.Test.YtonmohpdmhfjnaaGreatDoorTMe1
import Derived.Test.YtonmohpdmhfjnaaGreatDoorTMe2
import Derived.Test.YtonmohpdmhfjnaaGreatDoorTMe3
namespace Go.Proofs.YtonmohpdmhfjnaaGreatDoor.E.TM
open Go.Proofs.YtonmohpdmhfjnaaGreatDoor.E
set_option linter.unusedVariables false
theorem hmk_StringS (l : List (List Int)) (k : Int) (h : l.length ≤ 2097152 ∧ ∀ x ∈ l, x.length ≤ 2097152) (hk : 0 ≤ k) (hb : k + 2097152 ≤ 2305843009213693952) : ∃ k', l_markStringS l k = some (k', ()) ∧ k ≤ k' ∧ k' ≤ k + 2097152 := by
  have hl := h.1
  rw [l_markStringS_eq]
  obtain ⟨k', e1, e2, e3⟩ := mark_only (fun a k i => l_markStringS_L1 a k i) (fun _ => True) 1 2305843009213693952 (fun a k => by show l_markStringS_L1 a k _ = _; rw [l_markStringS_L1_eq, if_neg (by simp)])
    (fun a k i hi ha hp hk hb => ⟨mText k, k + 1, by
      show l_markStringS_L1 a k i = l_markStringS_L1 _ _ _
      rw [l_markStringS_L1_eq, if_pos (decide_eq_true (by omega)), markText_eq _ (by omega), Option.bind_some, if_pos (by omega), w64_id (n := k + 1) (by omega) (by omega), w64_succ hi (by omega), Int.toNat_natCast], by omega, by omega⟩) l k (by omega) (fun _ _ => trivial) hk (by omega)
  exact ⟨k', e1, e2, by omega⟩
end Go.Proofs.YtonmohpdmhfjnaaGreatDoor.E.TM
