/- Whether a record is right: the program and the reference say the same. No condition. -/
import Derived.Test.YtlidpmhmchbilaaPEEntries
import Derived.Test.YtlidpmhmchbilaaPEIsIndex
import Derived.Test.YtlidpmhmchbilaaTEe1
namespace Go.Proofs.Ytlidpmhmchbilaa.E.TE
open Go.Proofs.Ytlidpmhmchbilaa.E
set_option linter.unusedVariables false
/-- What is said of a record. -/
def recOk (r : impl_Rec) : Bool :=
  if decide (0 ≤ r.Term ∧ r.Term ≤ 300) && (decide (0 ≤ r.Prev ∧ r.Prev ≤ 300) && (entriesOk r.List 300 && !decide ((r.Snap.length : Int) > 30000))) then
    if r.Kind = 1 then decide (-1 ≤ r.Vote ∧ r.Vote ≤ 4) && (decide (r.Prev = 0) && (decide ((r.List.length : Int) = 0) && decide (r.Snap = [])))
    else if r.Kind = 2 then decide (r.Vote = 0) && decide (r.Snap = [])
    else if r.Kind = 3 then decide (r.Vote = 0) && decide ((r.List.length : Int) = 0)
    else false
  else false
theorem i_isVote_ok (n : Int) : i_isVote n = some (decide (-1 ≤ n ∧ n ≤ 4), ()) := by rw [i_isVote_eq, i_in_ok]; rfl
theorem rec_tail {k v p : Int} {a b c : Bool} : (if k = 1 then
      if a = true then if p = 0 then if b = true then some (c, ()) else some (false, ()) else some (false, ()) else some (false, ())
    else if k = 2 then if v = 0 then some (c, ()) else some (false, ())
    else if k = 3 then if v = 0 then some (b, ()) else some (false, ()) else some (false, ())) =
    some (if k = 1 then a && (decide (p = 0) && (b && c)) else if k = 2 then decide (v = 0) && c else if k = 3 then decide (v = 0) && b else false, ()) := by
  by_cases h1 : k = 1
  · simp only [if_pos h1]
    cases a
    · rfl
    · by_cases h2 : p = 0
      · simp only [h2]; cases b <;> simp
      · simp [h2]
  · simp only [if_neg h1]
    by_cases h2 : k = 2
    · simp only [if_pos h2]
      by_cases h3 : v = 0 <;> simp [h3]
    · simp only [if_neg h2]
      by_cases h3 : k = 3
      · simp only [if_pos h3]
        by_cases h4 : v = 0 <;> simp [h4]
      · simp only [if_neg h3]
theorem s_RecOk_ok (r : impl_Rec) (hl : r.List.length ≤ 4294967296) (hw : LinesOk r.List) : s_RecOk r = some (recOk r, ()) := by
  rw [s_RecOk_eq]
  unfold recOk
  simp only [s_l1In_ok, s_l19List_ok _ _ hl hw, Option.bind_some]
  cases decide (0 ≤ r.Term ∧ r.Term ≤ 300) with
  | false => rfl
  | true =>
  cases decide (0 ≤ r.Prev ∧ r.Prev ≤ 300) with
  | false => rfl
  | true =>
  cases entriesOk r.List 300 with
  | false => rfl
  | true =>
  cases decide ((r.Snap.length : Int) > 30000) with
  | true => rfl
  | false =>
    have := rec_tail (k := r.Kind) (v := r.Vote) (p := r.Prev) (a := decide (-1 ≤ r.Vote ∧ r.Vote ≤ 4)) (b := decide ((r.List.length : Int) = 0)) (c := decide (r.Snap = []))
    simpa only [decide_eq_true_eq, Bool.not_true, Bool.not_false, Bool.false_eq_true, if_false, Bool.true_and, if_true] using this
theorem i_RecOk_ok (r : impl_Rec) (hl : r.List.length ≤ 4294967296) : i_RecOk r = some (recOk r, ()) := by
  rw [i_RecOk_eq]
  unfold recOk
  simp only [isIndex_ok, i_isVote_ok, i_entriesOk_ok _ _ hl, Option.bind_some]
  cases decide (0 ≤ r.Term ∧ r.Term ≤ 300) with
  | false => rfl
  | true =>
  cases decide (0 ≤ r.Prev ∧ r.Prev ≤ 300) with
  | false => rfl
  | true =>
  cases entriesOk r.List 300 with
  | false => rfl
  | true =>
  cases decide ((r.Snap.length : Int) > 30000) with
  | true => rfl
  | false =>
    have := rec_tail (k := r.Kind) (v := r.Vote) (p := r.Prev) (a := decide (-1 ≤ r.Vote ∧ r.Vote ≤ 4)) (b := decide ((r.List.length : Int) = 0)) (c := decide (r.Snap = []))
    simpa only [decide_eq_true_eq, Bool.not_true, Bool.not_false, Bool.false_eq_true, if_false, Bool.true_and, if_true] using this
end Go.Proofs.Ytlidpmhmchbilaa.E.TE
