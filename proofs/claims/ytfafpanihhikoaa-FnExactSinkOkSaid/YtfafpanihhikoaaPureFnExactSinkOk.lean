/- For every sink the program's SinkOk returns what the reference's returns; no condition. -/
import Derived.Test.YtfafpanihhikoaaQFnExactSinkOk
import Derived.Test.YtfafpanihhikoaaBase
namespace Go.Proofs.Ytfafpanihhikoaa.Pure
open Go.RowKit Go.Proofs.Ytfafpanihhikoaa.Base Go.Proofs.Ytfafpanihhikoaa.PFnExactSinkOk Go.Proofs.YtfafpanihhikoaaW.PrintWords Go.Proofs.YtfafpanihhikoaaW.PrintLast Go.Proofs.YtfafpanihhikoaaW.PrintMore Go.Proofs.Ytfafpanihhikoaa.QFnExactSinkOk
set_option linter.unusedVariables false
theorem spec_in_eq (a b c : Int) : spec_l1In.f a b c = some (decide (b ≤ a ∧ a ≤ c)) := by
  unfold spec_l1In.f
  by_cases h : a ≥ b
  · rw [if_pos h]; simp [show b ≤ a from h]
  · rw [if_neg h]; simp [show ¬ b ≤ a from h]
theorem impl_in_eq (a b c : Int) : impl_in.f a b c = some (decide (b ≤ a ∧ a ≤ c)) := by
  unfold impl_in.f
  by_cases h : a ≥ b
  · rw [if_pos h]; simp [show b ≤ a from h]
  · rw [if_neg h]; simp [show ¬ b ≤ a from h]
theorem isIndex_eq (a : Int) : impl_isIndex.f a = some (decide (0 ≤ a ∧ a ≤ 300)) := by
  simp only [impl_isIndex.f, impl_in_eq, Option.bind_some]
def sinkOk (e : Int) (s : ByteArray) : Bool := decide (0 ≤ e ∧ e ≤ 300) && decide ((s.size : Int) ≤ 1500)
theorem spec_SinkOk_eq (e : Int) (s : ByteArray) : spec_SinkOk.f e s = some (sinkOk e s) := by
  simp only [spec_SinkOk.f, spec_in_eq, Option.bind_some, sinkOk]
  by_cases h : (0 ≤ e ∧ e ≤ 300) <;> simp [h]
theorem impl_SinkOk_eq (e : Int) (s : ByteArray) : impl_SinkOk.f e s = some (sinkOk e s) := by
  simp only [impl_SinkOk.f, isIndex_eq, Option.bind_some, sinkOk]
  by_cases h : (0 ≤ e ∧ e ≤ 300) <;> simp [h]
theorem szSink_eq (e : Int) (s : ByteArray) (hs : s.size ≤ 9223372036854775807) : laws_szSink.f e s 1048576 = some (if 1048576 < (s.size : Int) then (-1 : Int) else 1048576 - (s.size : Int)) := by
  simp only [laws_szSink.f]; rw [w64 (by omega) (by omega)]
  by_cases h : 1048576 < (s.size : Int)
  · rw [if_pos h, if_pos (by omega)]
  · rw [if_neg h, if_neg (by omega)]
theorem FnExactSinkOk : QFnExactSinkOk.Pure := by
  intro e s _ hs
  simp only [laws_FnExactSinkOk.f, szSink_eq e s hs, Option.bind_some]
  by_cases h : 1048576 < (s.size : Int)
  · rw [if_pos h, if_pos (by omega)]
  · rw [if_neg h, if_neg (by omega)]
    simp [laws_toSink.f, spec_SinkOk_eq, impl_SinkOk_eq]
end Go.Proofs.Ytfafpanihhikoaa.Pure
