/- Whether a message is right: the program and the reference say the same. No condition. -/
import Derived.Test.YtajahbpeiifcbaaPBEntries
import Derived.Test.YtajahbpeiifcbaaTBe1
namespace Go.Proofs.Ytajahbpeiifcbaa.E.TB
open Go.Proofs.Ytajahbpeiifcbaa.E
set_option linter.unusedVariables false
theorem rpcOk_same (r : impl_Rpc) (n : Int) (hl : r.List.length ≤ 4294967296) (hw : LinesOk r.List) : ∃ y, s_RpcOk r n = some (y, ()) ∧ i_RpcOk r n = some (y, ()) := by
  rw [s_RpcOk_eq, i_RpcOk_eq]
  simp only [s_l1In_ok, i_in_ok, isIndex_ok, s_l19List_ok _ _ hl hw, i_entriesOk_ok _ _ hl, Option.bind_some]
  cases decide (1 ≤ r.Kind ∧ r.Kind ≤ 5) with
  | false => exact ⟨_, rfl, rfl⟩
  | true =>
  cases decide (1 ≤ n ∧ n ≤ 5) with
  | false => exact ⟨_, rfl, rfl⟩
  | true =>
  cases decide (0 ≤ r.From ∧ r.From ≤ w64 (n - 1)) with
  | false => exact ⟨_, rfl, rfl⟩
  | true =>
  cases decide (0 ≤ r.To ∧ r.To ≤ w64 (n - 1)) with
  | false => exact ⟨_, rfl, rfl⟩
  | true =>
  cases decide (r.From = r.To) with
  | true => exact ⟨_, rfl, rfl⟩
  | false =>
  cases decide (0 ≤ r.Term ∧ r.Term ≤ 300) with
  | false => exact ⟨_, rfl, rfl⟩
  | true =>
  cases decide (0 ≤ r.Index ∧ r.Index ≤ 300) with
  | false => exact ⟨_, rfl, rfl⟩
  | true =>
  cases decide (0 ≤ r.IndexTerm ∧ r.IndexTerm ≤ 300) with
  | false => exact ⟨_, rfl, rfl⟩
  | true =>
  cases decide (0 ≤ r.Commit ∧ r.Commit ≤ 300) with
  | false => exact ⟨_, rfl, rfl⟩
  | true =>
  cases entriesOk r.List r.Term with
  | false => exact ⟨_, rfl, rfl⟩
  | true => exact ⟨_, rfl, rfl⟩
end Go.Proofs.Ytajahbpeiifcbaa.E.TB
