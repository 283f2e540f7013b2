/- Marks on slices of bytes that are not looked at again. No condition. -/
import Derived.Test.YtlidpmhmchbilaaPBase
import Derived.Test.YtlidpmhmchbilaaTEe1
namespace Go.Proofs.Ytlidpmhmchbilaa.E.TE
open Go.Proofs.Ytlidpmhmchbilaa.E
set_option linter.unusedVariables false
theorem markByteS0_ok (l : List Int) (k : Int) (hk : 0 ≤ k) (h : k + l.length ≤ 4611686018427387904) : l_markByteS l k = some (k + l.length, ()) := by
  rw [l_markByteS_eq]
  have key : ∀ (d i : Nat) (a : List Int), i + d = l.length → a.length = l.length → l_markByteS_L1 a (k + i) (i : Int) = some (k + l.length, ()) := by
    intro d
    induction d with
    | zero =>
      intro i a hd ha
      rw [l_markByteS_L1_eq, if_neg (by rw [decide_eq_true_eq]; omega), show i = l.length by omega]
    | succ d ih =>
      intro i a hd ha
      rw [l_markByteS_L1_eq, if_pos (decide_eq_true (by omega)), if_pos (by omega), w64_succ (i := i) (n := l.length) (by omega) (by omega), w64_id (n := k + i + 1) (by omega) (by omega)]
      have := ih (i + 1) (a.set (i : Int).toNat (w8 (k + i))) (by omega) (by rw [List.length_set]; exact ha)
      rw [show k + ((i + 1 : Nat) : Int) = k + i + 1 by omega] at this
      exact this
  have := key l.length 0 l (by omega) rfl
  simpa using this
end Go.Proofs.Ytlidpmhmchbilaa.E.TE
