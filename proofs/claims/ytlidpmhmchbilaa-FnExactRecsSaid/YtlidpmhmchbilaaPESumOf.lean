/- SumOf of the program and of the reference tell the same. No condition. -/
import Derived.Test.YtlidpmhmchbilaaPBase
import Derived.Test.YtlidpmhmchbilaaTEe1
namespace Go.Proofs.Ytlidpmhmchbilaa.E.TE
open Go.Proofs.Ytlidpmhmchbilaa.E
set_option linter.unusedVariables false
/-- The sum, byte by byte. -/
def sumL : List Int → Int → Int → Int
  | [], a, b => w64 (w64 (b * 65536) + a)
  | x :: l, a, b => sumL l (Int.tmod (w64 (a + w64 x)) 65521) (Int.tmod (w64 (b + Int.tmod (w64 (a + w64 x)) 65521)) 65521)
def sumOf (l : List Int) : Int := sumL l 1 0
theorem s_SumOf_ok (l : List Int) (hl : l.length ≤ 4294967296) : s_SumOf l = some (sumOf l, ()) := by
  rw [s_SumOf_eq]
  have key : ∀ (d i : Nat) (a b : Int), i + d = l.length → s_SumOf_L1 l a b i = some (sumL (l.drop i) a b, ()) := by
    intro d
    induction d with
    | zero =>
      intro i a b hd
      rw [s_SumOf_L1_eq, if_neg (by rw [decide_eq_true_eq]; omega), List.drop_eq_nil_of_le (by omega)]; rfl
    | succ d ih =>
      intro i a b hd
      have hi : i < l.length := by omega
      rw [s_SumOf_L1_eq, if_pos (decide_eq_true (by omega)), if_pos (by omega), getD_nat hi, w64_succ hi (by omega), ih (i + 1) _ _ (by omega), List.drop_eq_getElem_cons hi]; rfl
  have := key l.length 0 1 0 (by omega)
  simpa [sumOf] using this
theorem i_SumOf_ok (l : List Int) (hl : l.length ≤ 4294967296) : i_SumOf l = some (sumOf l, ()) := by
  rw [i_SumOf_eq]
  have key : ∀ (d i : Nat) (a b : Int), i + d = l.length → i_SumOf_L1 a b l (l.length : Int) i = some (sumL (l.drop i) a b, ()) := by
    intro d
    induction d with
    | zero =>
      intro i a b hd
      rw [i_SumOf_L1_eq, if_neg (by rw [decide_eq_true_eq]; omega), List.drop_eq_nil_of_le (by omega)]; rfl
    | succ d ih =>
      intro i a b hd
      have hi : i < l.length := by omega
      rw [i_SumOf_L1_eq, if_pos (decide_eq_true (by omega)), if_pos (by omega), getD_nat hi, w64_succ hi (by omega), ih (i + 1) _ _ (by omega), List.drop_eq_getElem_cons hi]; rfl
  have := key l.length 0 1 0 (by omega)
  simpa [sumOf] using this
end Go.Proofs.Ytlidpmhmchbilaa.E.TE
