/- Whether a command is right: the program and the reference say the same. No condition. -/
import Derived.Test.YtonmohpdmhfjnaaGreatDoorPMContains
import Derived.Test.YtonmohpdmhfjnaaGreatDoorPMImplIn
import Derived.Test.YtonmohpdmhfjnaaGreatDoorPMSpecIn
import Derived.Test.YtonmohpdmhfjnaaGreatDoorTMe1
import Derived.Test.YtonmohpdmhfjnaaGreatDoorTMe2
namespace Go.Proofs.YtonmohpdmhfjnaaGreatDoor.E.TM
open Go.Proofs.YtonmohpdmhfjnaaGreatDoor.E
set_option linter.unusedVariables false
theorem s_l9Line_ok (l : List Int) (hl : l.length ≤ 9223372036854775807) : s_l9Line l = some (!decide ((10 : Int) ∈ l), ()) := by
  rw [s_l9Line_eq]
  have key : ∀ (d i : Nat), i + d = l.length → s_l9Line_L1 l i = some (!decide ((10 : Int) ∈ l.drop i), ()) := by
    intro d
    induction d with
    | zero =>
      intro i hd
      rw [s_l9Line_L1_eq, if_neg (by rw [decide_eq_true_eq]; omega), List.drop_eq_nil_of_le (by omega)]; simp
    | succ d ih =>
      intro i hd
      have hi : i < l.length := by omega
      rw [s_l9Line_L1_eq, if_pos (decide_eq_true (by omega)), if_pos (by omega), getD_nat hi, w64_succ hi hl, ih (i + 1) (by omega), List.drop_eq_getElem_cons hi]
      by_cases h : l[i] = 10
      · rw [if_pos (decide_eq_true h), h]; simp
      · rw [if_neg (by rw [decide_eq_true_eq]; exact h)]
        have h' : ¬ (10 : Int) = l[i] := fun e => h e.symm
        simp only [List.mem_cons, h', false_or]
  have := key l.length 0 (by omega)
  simpa using this
def cmdOk (c : impl_Cmd) : Bool :=
  if c.Who = -1 then decide (c.Seq = 0) && decide (c.Line = [])
  else decide (0 ≤ c.Who ∧ c.Who ≤ 2) && (decide (1 ≤ c.Seq ∧ c.Seq ≤ 100000) && (decide ((c.Line.length : Int) ≤ 60) && !decide ((10 : Int) ∈ c.Line)))
theorem i_lineOk_ok (l : List Int) : i_lineOk l = some (decide ((l.length : Int) ≤ 60) && !decide ((10 : Int) ∈ l), ()) := by
  rw [i_lineOk_eq]
  by_cases h : (l.length : Int) ≤ 60
  · rw [if_pos (decide_eq_true h), contains_one, Option.bind_some, decide_eq_true h]; rfl
  · rw [if_neg (by rw [decide_eq_true_eq]; exact h), decide_eq_false h]; rfl
theorem i_CmdOk_ok (c : impl_Cmd) : i_CmdOk c = some (cmdOk c, ()) := by
  rw [i_CmdOk_eq]
  unfold cmdOk
  simp only [i_in_ok, i_lineOk_ok, Option.bind_some, decide_eq_true_eq]
  by_cases h1 : c.Who = -1
  · simp only [if_pos h1]
    by_cases h2 : c.Seq = 0
    · simp only [if_pos h2, decide_eq_true h2, Bool.true_and]
    · simp only [if_neg h2, decide_eq_false h2, Bool.false_and]
  · simp only [if_neg h1]
    by_cases h2 : 0 ≤ c.Who ∧ c.Who ≤ 2
    · simp only [if_pos h2, decide_eq_true h2, Bool.true_and]
      by_cases h3 : 1 ≤ c.Seq ∧ c.Seq ≤ 100000
      · simp only [if_pos h3, decide_eq_true h3, Bool.true_and]
      · simp only [if_neg h3, decide_eq_false h3, Bool.false_and]
    · simp only [if_neg h2, decide_eq_false h2, Bool.false_and]
theorem s_CmdOk_ok (c : impl_Cmd) (hl : c.Line.length ≤ 9223372036854775807) : s_CmdOk c = some (cmdOk c, ()) := by
  rw [s_CmdOk_eq]
  unfold cmdOk
  simp only [s_l1In_ok, s_l9Line_ok _ hl, Option.bind_some, decide_eq_true_eq]
  by_cases h1 : c.Who = -1
  · simp only [if_pos h1]
    by_cases h2 : c.Seq = 0
    · simp only [if_pos h2, decide_eq_true h2, Bool.true_and]
    · simp only [if_neg h2, decide_eq_false h2, Bool.false_and]
  · simp only [if_neg h1]
    by_cases h2 : 0 ≤ c.Who ∧ c.Who ≤ 2
    · simp only [if_pos h2, decide_eq_true h2, Bool.true_and]
      by_cases h3 : 1 ≤ c.Seq ∧ c.Seq ≤ 100000
      · simp only [if_pos h3, decide_eq_true h3, Bool.true_and]
        by_cases h4 : (c.Line.length : Int) ≤ 60
        · simp only [if_pos h4, decide_eq_true h4, Bool.true_and]
        · simp only [if_neg h4, decide_eq_false h4, Bool.false_and]
      · simp only [if_neg h3, decide_eq_false h3, Bool.false_and]
    · simp only [if_neg h2, decide_eq_false h2, Bool.false_and]
end Go.Proofs.YtonmohpdmhfjnaaGreatDoor.E.TM
