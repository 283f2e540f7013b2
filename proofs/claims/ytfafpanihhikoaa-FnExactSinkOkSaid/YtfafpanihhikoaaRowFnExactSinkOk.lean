/- The law FnExactSinkOk: for every input its call returns true, and each argument reads behind the call as it read before; no condition. The row, out of the printed contract and the pure statement. -/
import Derived.Test.YtfafpanihhikoaaRows
import Derived.Test.YtfafpanihhikoaaQFnExactSinkOk
import Derived.Test.YtfafpanihhikoaaPureFnExactSinkOk
import Derived.WalkKit
import Derived.ProofKit
import Derived.OpenShut
import Derived.ShutString
import Derived.ChangeOld
import Derived.Below
import Derived.SizedLaws
namespace Go.Proofs.Ytfafpanihhikoaa.fnExactSinkOk
open Go.ChangeShapes Go.WideShapes Go.ChangeAt Go.RowKit Go.Proofs.Ytfafpanihhikoaa.Opens Go.Proofs.Ytfafpanihhikoaa.QFnExactSinkOk Go.Proofs.Ytfafpanihhikoaa.PFnExactSinkOk Go.Proofs.YtfafpanihhikoaaW.PrintWords
open Go.ChangeMaps (open_string shut_string)
set_option linter.unusedVariables false
theorem own : ownKnob Try.prog.godebug = none := by kernel_rfl
theorem laidOut : laidOutB Try.prog = true := by kernel_rfl
set_option maxRecDepth 100000 in
theorem lifted (os : Os) (started : os.Started) (H : Type) (enc : TypeId × Value → H) :
    ReturnsInHanded {} Try.checked os 4 .any (Rows.fnExactSinkOkSpec.pre6 enc Try.prog Try.f4 Rows.fnExactSinkOkRow.domain false) (Rows.fnExactSinkOkSpec.post enc Try.prog Try.f4 false true false false) := by
  refine returnsInHanded_of_change_sized (C := Try.checked) own started (by kernel_rfl) Try.func4
    (ChangeSpec.witness6 (enc := enc) (C := Try.checked) false ⟨#[], #[.agg #[.int .i64 0, .string ⟨#[]⟩]], []⟩ 8 (by kernel_rfl) (by kernel_rfl) (by kernel_rfl) (by kernel_rfl)) ?_
  intro W base args ds gs before hval0 hW hcnd hsz0 _
  have hval : ∀ (j : Nat) t v, Try.f4.params[j]? = some t → args[j]? = some v → Value.okWide Try.prog W .any base t v := hval0
  have hW' := hW
  obtain ⟨p, q, hA0, hV, rfl, hfz, hnd⟩ := hW
  have hA : DataW.TrodAll enc Try.prog W 0 (fun _ => true) true Try.f4.params.toList args.toList ds p := hA0
  rw [Try.params4] at hA hval
  obtain ⟨v0, vs0, d0, ds0, p0, q0, hargs, rfl, rfl, h0, r0⟩ := trodAll_cons hA
  obtain ⟨rfl, rfl, rfl⟩ := trodAll_nil r0
  obtain rfl : args = #[v0] := by cases args; simp_all
  obtain ⟨rfl, rfl⟩ := trodVars_none hV
  have k0' := h0
  have lt0 := trod_lt' k0'
  obtain ⟨y0, cs0, rfl, K0, w0⟩ := agg_of Try.underlying25 opens_arg0 (hval 0 25 v0 rfl rfl) h0
  obtain ⟨cs0⟩ := cs0
  have L0 : cs0 = [.int .i64 y0.1, .string y0.2] := by
    obtain ⟨_, _, rfl, rfl, rfl⟩ := K0
    exact rfl
  obtain rfl := L0
  clear hA0 hval0 hsz0
  have h := Pure.FnExactSinkOk (y0.1) (y0.2) (w0.1) (w0.2)
  refine (laws_FnExactSinkOk.calls (y0.1) (y0.2) true W h).mono fun e W' ⟨he, bel0⟩ => ?_
  have bel := bel0
  subst he
  exact ⟨_, rfl, _, _, _, [], _, [], hW', trodAll_mk1 (shut_bool Try.underlying4 _), (trodAll_cons_mk (Below.trod laidOut (by kernel_rfl) (of_decide_eq_true (by kernel_rfl)) k0' bel lt0) trodAll_mk0), rfl, bel.frame _, fun h => by cases h⟩
theorem over : Rows.fnExactSinkOkRow.holds Try.pinned (OpenSpec.ofChange Rows.fnExactSinkOkSpec) :=
  OpenClaim.holds_of_wide 4 Try.f4 rfl rfl rfl rfl rfl rfl rfl ⟨rfl, rfl, rfl, rfl, rfl⟩ rfl rfl rfl rfl rfl (by kernel_rfl) Try.func4 (by kernel_rfl)
    (of_decide_eq_true (by kernel_rfl)) (by unfold Func.isWrapper; first | (rw [if_pos (by decide +kernel)]; kernel_rfl) | (rw [if_neg (by decide +kernel)]; exact ⟨rfl, rfl⟩))
    (fun os started H enc _ => lifted os started H enc)
theorem proved : Rows.FnExactSinkOkSaid := over
#print axioms proved
end Go.Proofs.Ytfafpanihhikoaa.fnExactSinkOk
namespace Go.Proofs.Ytfafpanihhikoaa
/-- The row, under a short name, for the claim. -/
theorem fnExactSinkOk_holds : Rows.FnExactSinkOkSaid := fnExactSinkOk.proved
end Go.Proofs.Ytfafpanihhikoaa
