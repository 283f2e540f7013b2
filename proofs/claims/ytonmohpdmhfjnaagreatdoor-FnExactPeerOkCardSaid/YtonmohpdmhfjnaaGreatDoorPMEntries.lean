/- Whether a list of entries is right: the program and the reference say the same. No condition. -/
import Derived.Test.YtonmohpdmhfjnaaGreatDoorPMCmdOk
import Derived.Test.YtonmohpdmhfjnaaGreatDoorPMLines
import Derived.Test.YtonmohpdmhfjnaaGreatDoorTMe1
import Derived.Test.YtonmohpdmhfjnaaGreatDoorTMe2
namespace Go.Proofs.YtonmohpdmhfjnaaGreatDoor.E.TM
open Go.Proofs.YtonmohpdmhfjnaaGreatDoor.E
set_option linter.unusedVariables false
def entOk (m : Int) (e : impl_Entry) : Bool := decide (0 ≤ e.Term ∧ e.Term ≤ m) && cmdOk e.C
def entriesOk (l : List impl_Entry) (m : Int) : Bool := decide ((l.length : Int) ≤ 40) && l.all (entOk m)
theorem s_l19List_ok (l : List impl_Entry) (m : Int) (hl : l.length ≤ 4294967296) (hw : LinesOk l) : s_l19List l m = some (entriesOk l m, ()) := by
  rw [s_l19List_eq]
  have key : ∀ (d i : Nat), i + d = l.length → s_l19List_L1 l m i = some ((l.drop i).all (entOk m) && decide ((l.length : Int) ≤ 40), ()) := by
    intro d
    induction d with
    | zero =>
      intro i hd
      rw [s_l19List_L1_eq, if_neg (by rw [decide_eq_true_eq]; omega), List.drop_eq_nil_of_le (by omega)]; rfl
    | succ d ih =>
      intro i hd
      have hi : i < l.length := by omega
      have c : (0 : Int) ≤ (i : Int) ∧ (i : Int) < (l.length : Int) := by omega
      rw [s_l19List_L1_eq, if_pos (decide_eq_true c.2), getD_nat hi, w64_succ hi (by omega), List.drop_eq_getElem_cons hi]
      simp only [if_pos c, s_l1In_ok, s_CmdOk_ok _ (hw _ (List.getElem_mem hi)), Option.bind_some]
      rw [ih (i + 1) (by omega), List.all_cons]
      unfold entOk
      cases decide (0 ≤ l[i].Term ∧ l[i].Term ≤ m) with
      | false => rfl
      | true => cases cmdOk l[i].C <;> rfl
  have := key l.length 0 (by omega)
  unfold entriesOk
  rw [Bool.and_comm]
  simpa using this
theorem i_entriesOk_1_ok (e : impl_Entry) (m : Int) : i_entriesOk_1 e m = some (!entOk m e, m, ()) := by
  rw [i_entriesOk_1_eq, i_in_ok, i_CmdOk_ok]
  unfold entOk
  simp only [Option.bind_some]
  cases decide (0 ≤ e.Term ∧ e.Term ≤ m) <;> rfl
theorem i_entriesOk_ok (l : List impl_Entry) (m : Int) (hl : l.length ≤ 4294967296) : i_entriesOk l m = some (entriesOk l m, ()) := by
  have key : ∀ (d i : Nat), i + d = l.length → ∃ r, x_slices_IndexFunc_impl_Entry_entriesOk_1_L1 l (l.length : Int) i m = some (r, m, ()) ∧ (r ≥ 0 ↔ (l.drop i).all (entOk m) = false) := by
    intro d
    induction d with
    | zero =>
      intro i hd
      rw [x_slices_IndexFunc_impl_Entry_entriesOk_1_L1_eq, if_neg (by rw [decide_eq_true_eq]; omega), List.drop_eq_nil_of_le (by omega)]
      exact ⟨-1, rfl, by simp⟩
    | succ d ih =>
      intro i hd
      have hi : i < l.length := by omega
      have c : (0 : Int) ≤ (i : Int) ∧ (i : Int) < (l.length : Int) := by omega
      rw [x_slices_IndexFunc_impl_Entry_entriesOk_1_L1_eq, if_pos (decide_eq_true c.2), getD_nat hi, w64_succ hi (by omega), List.drop_eq_getElem_cons hi]
      simp only [if_pos c, i_entriesOk_1_ok, Option.bind_some, List.all_cons]
      cases entOk m l[i] with
      | false => exact ⟨_, rfl, by simp⟩
      | true =>
        obtain ⟨r, e1, e2⟩ := ih (i + 1) (by omega)
        exact ⟨r, by simpa using e1, by simpa using e2⟩
  obtain ⟨r, e1, e2⟩ := key l.length 0 (by omega)
  rw [i_entriesOk_eq]
  unfold entriesOk
  by_cases h : (l.length : Int) ≤ 40
  · have e1' : x_slices_IndexFunc_impl_Entry_entriesOk_1_L1 l (l.length : Int) 0 m = some (r, m, ()) := e1
    rw [if_pos (decide_eq_true h), decide_eq_true h, x_slices_ContainsFunc_impl_Entry_entriesOk_1_eq, x_slices_IndexFunc_impl_Entry_entriesOk_1_eq, e1']
    simp only [Option.bind_some, Bool.true_and]
    rw [List.drop_zero] at e2
    cases hb : l.all (entOk m) with
    | false => rw [decide_eq_true (e2.2 hb)]; rfl
    | true => rw [decide_eq_false (fun h => by rw [e2.1 h] at hb; cases hb)]; rfl
  · rw [if_neg (by rw [decide_eq_true_eq]; exact h), decide_eq_false h]; rfl
end Go.Proofs.YtonmohpdmhfjnaaGreatDoor.E.TM
