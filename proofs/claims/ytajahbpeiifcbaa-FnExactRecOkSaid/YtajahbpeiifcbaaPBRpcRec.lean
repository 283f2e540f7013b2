/- The harness at messages and records. No condition. -/
import Derived.Test.YtajahbpeiifcbaaPBLog
import Derived.Test.YtajahbpeiifcbaaTBe1
namespace Go.Proofs.Ytajahbpeiifcbaa.E.TB
open Go.Proofs.Ytajahbpeiifcbaa.E
set_option linter.unusedVariables false
theorem szEntrySnap (l : List laws_Entry) (s : List Int) (hl : l.length ≤ 9223372036854775807) (he : ∀ e ∈ l, e.C.Line.length ≤ 9223372036854775807) (hs : s.length ≤ 9223372036854775807) :
    ∃ r q, l_szEntryS l 1048576 = some (r, ()) ∧ (if r < 0 then some ((-1 : Int), ()) else if w64 (r - (s.length : Int)) < 0 then some (-1, ()) else some (w64 (r - (s.length : Int)), ())) = some (q, ()) ∧ (0 ≤ q → l.length ≤ 1048576 ∧ s.length ≤ 1048576) := by
  obtain ⟨r, e1, e2, e3, e4⟩ := szEntryS_ok l 1048576 (by omega) (by omega) hl he
  by_cases h : r < 0
  · exact ⟨r, -1, e1, by rw [if_pos h], fun h => by omega⟩
  · have ew : w64 (r - (s.length : Int)) = r - s.length := w64_id (by omega) (by omega)
    by_cases h2 : r - (s.length : Int) < 0
    · exact ⟨r, -1, e1, by rw [if_neg h, ew, if_pos h2], fun h => by omega⟩
    · exact ⟨r, r - s.length, e1, by rw [if_neg h, ew, if_neg h2], fun _ => ⟨(e3 (by omega)).1, by omega⟩⟩
def cRpc (r : laws_Rpc) : impl_Rpc := ⟨r.Kind, r.From, r.To, r.Term, r.Index, r.IndexTerm, r.Commit, r.List.map cEntry, r.Ok, r.Snap⟩
theorem toRpc_ok (r : laws_Rpc) (hl : r.List.length ≤ 1048576) : l_toRpc r = some (cRpc r, ()) := by
  rw [l_toRpc_eq, toEntryS_ok _ hl]; rfl
theorem eqRpc_ok (r : impl_Rpc) (hl : r.List.length ≤ 4294967296) : l_eqRpc r r = some (true, ()) := by
  rw [l_eqRpc_eq, eqEntryS_ok _ hl]; simp
def cRec (r : laws_Rec) : impl_Rec := ⟨r.Kind, r.Term, r.Vote, r.Prev, r.List.map cEntry, r.Snap⟩
theorem toRec_ok (r : laws_Rec) (hl : r.List.length ≤ 1048576) : l_toRec r = some (cRec r, ()) := by
  rw [l_toRec_eq, toEntryS_ok _ hl]; rfl
theorem eqRec_ok (r : impl_Rec) (hl : r.List.length ≤ 4294967296) : l_eqRec r r = some (true, ()) := by
  rw [l_eqRec_eq, eqEntryS_ok _ hl]; simp
theorem fine_Rpc {r : laws_Rpc} (h : Fine (G := gam) 40 (.nm 8) r) : r.List.length ≤ 9223372036854775807 ∧ (∀ e ∈ r.List, e.C.Line.length ≤ 9223372036854775807) ∧ r.Snap.length ≤ 9223372036854775807 := by
  have h' : _ ∧ _ ∧ _ ∧ _ ∧ _ ∧ _ ∧ _ ∧ (r.List.length ≤ 9223372036854775807 ∧ ∀ e ∈ r.List, _ ∧ (_ ∧ _ ∧ (e.C.Line.length ≤ 9223372036854775807 ∧ _) ∧ _) ∧ _) ∧ _ ∧ (r.Snap.length ≤ 9223372036854775807 ∧ _) ∧ _ := h
  obtain ⟨_, _, _, _, _, _, _, h1, _, h2, _⟩ := h'
  exact ⟨h1.1, fun e he => (h1.2 e he).2.1.2.2.1.1, h2.1⟩
theorem fine_Rec {r : laws_Rec} (h : Fine (G := gam) 40 (.nm 10) r) : r.List.length ≤ 9223372036854775807 ∧ (∀ e ∈ r.List, e.C.Line.length ≤ 9223372036854775807) ∧ r.Snap.length ≤ 9223372036854775807 := by
  have h' : _ ∧ _ ∧ _ ∧ _ ∧ (r.List.length ≤ 9223372036854775807 ∧ ∀ e ∈ r.List, _ ∧ (_ ∧ _ ∧ (e.C.Line.length ≤ 9223372036854775807 ∧ _) ∧ _) ∧ _) ∧ (r.Snap.length ≤ 9223372036854775807 ∧ _) ∧ _ := h
  obtain ⟨_, _, _, _, h1, h2, _⟩ := h'
  exact ⟨h1.1, fun e he => (h1.2 e he).2.1.2.2.1.1, h2.1⟩
theorem law_rpc (r : laws_Rpc) (hr : Fine (G := gam) 40 (.nm 8) r) : ∃ q, l_szRpc r 1048576 = some (q, ()) ∧ (q < 0 ∨ (¬ q < 0 ∧ l_toRpc r = some (cRpc r, ()) ∧ (cRpc r).List.length ≤ 1048576 ∧ l_eqRpc (cRpc r) (cRpc r) = some (true, ()))) := by
  obtain ⟨h1, h2, h3⟩ := fine_Rpc hr
  obtain ⟨s, q, e1, e2, e3⟩ := szEntrySnap r.List r.Snap h1 h2 h3
  refine ⟨q, by rw [l_szRpc_eq, e1]; simpa only [Option.bind_some, decide_eq_true_eq] using e2, ?_⟩
  by_cases h : q < 0
  · exact .inl h
  · obtain ⟨n1, n2⟩ := e3 (by omega)
    have hc : (cRpc r).List.length ≤ 1048576 := by show (r.List.map cEntry).length ≤ _; rw [List.length_map]; exact n1
    exact .inr ⟨h, toRpc_ok r n1, hc, eqRpc_ok _ (by omega)⟩
theorem law_rec (r : laws_Rec) (hr : Fine (G := gam) 40 (.nm 10) r) : ∃ q, l_szRec r 1048576 = some (q, ()) ∧ (q < 0 ∨ (¬ q < 0 ∧ l_toRec r = some (cRec r, ()) ∧ (cRec r).List.length ≤ 1048576 ∧ (cRec r).Snap.length ≤ 1048576 ∧ l_eqRec (cRec r) (cRec r) = some (true, ()))) := by
  obtain ⟨h1, h2, h3⟩ := fine_Rec hr
  obtain ⟨s, q, e1, e2, e3⟩ := szEntrySnap r.List r.Snap h1 h2 h3
  refine ⟨q, by rw [l_szRec_eq, e1]; simpa only [Option.bind_some, decide_eq_true_eq] using e2, ?_⟩
  by_cases h : q < 0
  · exact .inl h
  · obtain ⟨n1, n2⟩ := e3 (by omega)
    have hc : (cRec r).List.length ≤ 1048576 := by show (r.List.map cEntry).length ≤ _; rw [List.length_map]; exact n1
    exact .inr ⟨h, toRec_ok r n1, hc, n2, eqRec_ok _ (by omega)⟩
end Go.Proofs.Ytajahbpeiifcbaa.E.TB
