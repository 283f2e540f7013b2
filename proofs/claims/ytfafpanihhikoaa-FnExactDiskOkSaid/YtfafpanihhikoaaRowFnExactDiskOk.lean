/- The law FnExactDiskOk: for every input its call returns true, and each argument reads behind the call as it read before; no condition. The row, out of the printed contract and the pure statement. -/
import Derived.Test.YtfafpanihhikoaaRows
import Derived.Test.YtfafpanihhikoaaQFnExactDiskOk
import Derived.Test.YtfafpanihhikoaaPureFnExactDiskOk
import Derived.WalkKit
import Derived.ProofKit
import Derived.OpenShut
import Derived.ShutString
import Derived.ChangeOld
import Derived.Below
import Derived.SizedLaws
namespace Go.Proofs.Ytfafpanihhikoaa.fnExactDiskOk
open Go.ChangeShapes Go.WideShapes Go.ChangeAt Go.RowKit Go.Proofs.Ytfafpanihhikoaa.Opens Go.Proofs.Ytfafpanihhikoaa.QFnExactDiskOk Go.Proofs.Ytfafpanihhikoaa.PFnExactDiskOk Go.Proofs.YtfafpanihhikoaaW.PrintWords
open Go.ChangeMaps (open_string shut_string)
set_option linter.unusedVariables false
theorem own : ownKnob Try.prog.godebug = none := by kernel_rfl
theorem laidOut : laidOutB Try.prog = true := by kernel_rfl
set_option maxRecDepth 100000 in
theorem lifted (os : Os) (started : os.Started) (H : Type) (enc : TypeId × Value → H) :
    ReturnsInHanded {} Try.checked os 6 .any (Rows.fnExactDiskOkSpec.pre6 enc Try.prog Try.f6 Rows.fnExactDiskOkRow.domain false) (Rows.fnExactDiskOkSpec.post enc Try.prog Try.f6 false true false false) := by
  refine returnsInHanded_of_change_sized (C := Try.checked) own started (by kernel_rfl) Try.func6
    (ChangeSpec.witness6 (enc := enc) (C := Try.checked) false ⟨#[], #[.agg #[.slice none 0 0, .int .i64 0]], []⟩ 8 (by kernel_rfl) (by kernel_rfl) (by kernel_rfl) (by kernel_rfl)) ?_
  intro W base args ds gs before hval0 hW hcnd hsz0 _
  have hval : ∀ (j : Nat) t v, Try.f6.params[j]? = some t → args[j]? = some v → Value.okWide Try.prog W .any base t v := hval0
  have hW' := hW
  obtain ⟨p, q, hA0, hV, rfl, hfz, hnd⟩ := hW
  have hA : DataW.TrodAll enc Try.prog W 0 (fun _ => true) true Try.f6.params.toList args.toList ds p := hA0
  rw [Try.params6] at hA hval
  obtain ⟨v0, vs0, d0, ds0, p0, q0, hargs, rfl, rfl, h0, r0⟩ := trodAll_cons hA
  obtain ⟨rfl, rfl, rfl⟩ := trodAll_nil r0
  obtain rfl : args = #[v0] := by cases args; simp_all
  obtain ⟨rfl, rfl⟩ := trodVars_none hV
  have k0' := h0
  have lt0 := trod_lt' k0'
  obtain ⟨y0, cs0, rfl, K0, w0⟩ := agg_of Try.underlying37 opens_arg0 (hval 0 37 v0 rfl rfl) h0
  obtain ⟨cs0⟩ := cs0
  have L0 : ∃ A1 c1, cs0 = [.slice A1 (y0.1).length c1, .int .i64 y0.2] ∧ (y0.1).length ≤ c1 ∧ Kd.C (Kd.int .u8) W A1 (y0.1).length (y0.1) := by
    obtain ⟨_, _, rfl, ⟨A1, c1, rfl, hl1, hC1⟩, rfl⟩ := K0
    exact ⟨A1, c1, rfl, hl1, hC1⟩
  obtain ⟨A1, c1, rfl, hl1, hC1⟩ := L0
  clear hA0 hval0 hsz0
  obtain ⟨k, h⟩ := Pure.FnExactDiskOk (y0.1) (y0.2) (w0.1) (w0.2)
  refine (laws_FnExactDiskOk.calls k _ _ (y0.1) (y0.2) true W hC1 hl1 h).mono fun e W' ⟨he, bel0⟩ => ?_
  have bel := bel0
  subst he
  exact ⟨_, rfl, _, _, _, [], _, [], hW', trodAll_mk1 (shut_bool Try.underlying4 _), (trodAll_cons_mk (Below.trod laidOut (by kernel_rfl) (of_decide_eq_true (by kernel_rfl)) k0' bel lt0) trodAll_mk0), rfl, bel.frame _, fun h => by cases h⟩
theorem over : Rows.fnExactDiskOkRow.holds Try.pinned (OpenSpec.ofChange Rows.fnExactDiskOkSpec) :=
  OpenClaim.holds_of_wide 6 Try.f6 rfl rfl rfl rfl rfl rfl rfl ⟨rfl, rfl, rfl, rfl, rfl⟩ rfl rfl rfl rfl rfl (by kernel_rfl) Try.func6 (by kernel_rfl)
    (of_decide_eq_true (by kernel_rfl)) (by unfold Func.isWrapper; first | (rw [if_pos (by decide +kernel)]; kernel_rfl) | (rw [if_neg (by decide +kernel)]; exact ⟨rfl, rfl⟩))
    (fun os started H enc _ => lifted os started H enc)
theorem proved : Rows.FnExactDiskOkSaid := over
#print axioms proved
end Go.Proofs.Ytfafpanihhikoaa.fnExactDiskOk
namespace Go.Proofs.Ytfafpanihhikoaa
/-- The row, under a short name, for the claim. -/
theorem fnExactDiskOk_holds : Rows.FnExactDiskOkSaid := fnExactDiskOk.proved
end Go.Proofs.Ytfafpanihhikoaa
