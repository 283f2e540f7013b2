/- Whether a log is right: the program and the reference say the same. No condition. -/
import Derived.Test.YtonmohpdmhfjnaaGreatDoorPMCmdOk
import Derived.Test.YtonmohpdmhfjnaaGreatDoorPMIsIndex
import Derived.Test.YtonmohpdmhfjnaaGreatDoorPMLines
import Derived.Test.YtonmohpdmhfjnaaGreatDoorTMe1
import Derived.Test.YtonmohpdmhfjnaaGreatDoorTMe2
namespace Go.Proofs.YtonmohpdmhfjnaaGreatDoor.E.TM
open Go.Proofs.YtonmohpdmhfjnaaGreatDoor.E
set_option linter.unusedVariables false
def listOk : List impl_Entry → Int → Bool
  | [], _ => true
  | e :: l, t => decide (t ≤ e.Term ∧ e.Term ≤ 300) && (cmdOk e.C && listOk l e.Term)
def logOk (l : impl_Log) : Bool := decide (0 ≤ l.Base ∧ l.Base ≤ 300) && (decide (0 ≤ l.BaseTerm ∧ l.BaseTerm ≤ 300) && (decide ((l.List.length : Int) ≤ 300 - l.Base) && listOk l.List l.BaseTerm))
theorem s_LogOk_L1_ok (l : impl_Log) (hl : l.List.length ≤ 4294967296) (hw : LinesOk l.List) : ∀ (d i : Nat) (t : Int), i + d = l.List.length → s_LogOk_L1 t i l = some (listOk (l.List.drop i) t, ()) := by
  intro d
  induction d with
  | zero =>
    intro i t hd
    rw [s_LogOk_L1_eq, if_neg (by rw [decide_eq_true_eq]; omega), List.drop_eq_nil_of_le (by omega)]; rfl
  | succ d ih =>
    intro i t hd
    have hi : i < l.List.length := by omega
    have c : (0 : Int) ≤ (i : Int) ∧ (i : Int) < (l.List.length : Int) := by omega
    rw [s_LogOk_L1_eq, if_pos (decide_eq_true c.2), getD_nat hi, w64_succ hi (by omega), List.drop_eq_getElem_cons hi]
    simp only [if_pos c, s_l1In_ok, s_CmdOk_ok _ (hw _ (List.getElem_mem hi)), Option.bind_some]
    rw [ih (i + 1) _ (by omega)]
    simp only [listOk]
    cases decide (t ≤ l.List[i].Term ∧ l.List[i].Term ≤ 300) with
    | false => rfl
    | true => cases cmdOk l.List[i].C <;> rfl
theorem i_LogOk_L1_ok (l : List impl_Entry) (hl : l.length ≤ 4294967296) : ∀ (d i : Nat) (t : Int), i + d = l.length → i_LogOk_L1 t l (l.length : Int) i = some (listOk (l.drop i) t, ()) := by
  intro d
  induction d with
  | zero =>
    intro i t hd
    rw [i_LogOk_L1_eq, if_neg (by rw [decide_eq_true_eq]; omega), List.drop_eq_nil_of_le (by omega)]; rfl
  | succ d ih =>
    intro i t hd
    have hi : i < l.length := by omega
    have c : (0 : Int) ≤ (i : Int) ∧ (i : Int) < (l.length : Int) := by omega
    rw [i_LogOk_L1_eq, if_pos (decide_eq_true c.2), getD_nat hi, w64_succ hi (by omega), List.drop_eq_getElem_cons hi]
    simp only [if_pos c, i_in_ok, i_CmdOk_ok, Option.bind_some]
    rw [ih (i + 1) _ (by omega)]
    simp only [listOk]
    cases decide (t ≤ l[i].Term ∧ l[i].Term ≤ 300) with
    | false => rfl
    | true => cases cmdOk l[i].C <;> rfl
theorem s_LogOk_ok (l : impl_Log) (hl : l.List.length ≤ 4294967296) (hw : LinesOk l.List) : s_LogOk l = some (logOk l, ()) := by
  rw [s_LogOk_eq]
  unfold logOk
  simp only [s_l1In_ok, Option.bind_some, Bool.not_eq_true', decide_eq_false_iff_not, decide_eq_true_eq]
  by_cases h1 : 0 ≤ l.Base ∧ l.Base ≤ 300
  · have e1 : w64 (300 - l.Base) = 300 - l.Base := w64_id (by omega) (by omega)
    rw [if_neg (not_not_intro h1), decide_eq_true h1, e1, Bool.true_and]
    by_cases h2 : 0 ≤ l.BaseTerm ∧ l.BaseTerm ≤ 300
    · rw [if_neg (not_not_intro h2), decide_eq_true h2, Bool.true_and]
      by_cases h3 : (l.List.length : Int) ≤ 300 - l.Base
      · rw [if_neg (by omega), decide_eq_true h3, Bool.true_and]
        exact s_LogOk_L1_ok l hl hw l.List.length 0 _ (by omega)
      · rw [if_pos (by omega), decide_eq_false h3, Bool.false_and]
    · rw [if_pos h2, decide_eq_false h2, Bool.false_and]
  · rw [if_pos h1, decide_eq_false h1, Bool.false_and]
theorem i_LogOk_ok (l : impl_Log) (hl : l.List.length ≤ 4294967296) : i_LogOk l = some (logOk l, ()) := by
  rw [i_LogOk_eq]
  unfold logOk
  simp only [isIndex_ok, Option.bind_some, Bool.not_eq_true', decide_eq_false_iff_not, decide_eq_true_eq]
  by_cases h1 : 0 ≤ l.Base ∧ l.Base ≤ 300
  · have e1 : w64 (l.Base + (l.List.length : Int)) = l.Base + l.List.length := w64_id (by omega) (by omega)
    rw [if_neg (not_not_intro h1), decide_eq_true h1, e1, Bool.true_and]
    by_cases h2 : 0 ≤ l.BaseTerm ∧ l.BaseTerm ≤ 300
    · rw [if_neg (not_not_intro h2), decide_eq_true h2, Bool.true_and]
      by_cases h3 : (l.List.length : Int) ≤ 300 - l.Base
      · rw [if_neg (by omega), decide_eq_true h3, Bool.true_and]
        exact i_LogOk_L1_ok l.List hl l.List.length 0 _ (by omega)
      · rw [if_pos (by omega), decide_eq_false h3, Bool.false_and]
    · rw [if_pos h2, decide_eq_false h2, Bool.false_and]
  · rw [if_pos h1, decide_eq_false h1, Bool.false_and]
end Go.Proofs.YtonmohpdmhfjnaaGreatDoor.E.TM
