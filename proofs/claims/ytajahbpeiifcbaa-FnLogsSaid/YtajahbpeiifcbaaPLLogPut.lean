/- LogPut of the program and of the reference tell the same. No condition. -/
import Derived.Test.YtajahbpeiifcbaaPLTermAt
import Derived.Test.YtajahbpeiifcbaaPLCopyLog
import Derived.Test.YtajahbpeiifcbaaPLLogOk
import Derived.Test.YtajahbpeiifcbaaTLe1
namespace Go.Proofs.Ytajahbpeiifcbaa.E.TL
open Go.Proofs.Ytajahbpeiifcbaa.E
set_option linter.unusedVariables false
theorem lines_app {a b : List impl_Entry} (ha : LinesOk a) (hb : LinesOk b) : LinesOk (a ++ b) := fun e he => (List.mem_append.1 he).elim (ha e) (hb e)
theorem lines_take {a : List impl_Entry} {n : Nat} (ha : LinesOk a) : LinesOk (a.take n) := fun e he => ha e (List.mem_of_mem_take he)
theorem lines_one {a : List impl_Entry} (ha : LinesOk a) {i : Nat} (h : i < a.length) : LinesOk [a[i]] := fun e he => by rw [List.mem_singleton.1 he]; exact ha _ (List.getElem_mem h)
theorem logPut_L1 (l : impl_Log) (lst : List impl_Entry) (p : Int) (z : impl_Log) (hl : l.List.length ≤ 1048576) (hlst : lst.length ≤ 1048576) (hw : LinesOk lst) (hwl : LinesOk l.List) (h0 : 0 ≤ p - l.Base) (h1 : p - l.Base ≤ 1048576) :
    ∀ (d i : Nat) (o : impl_Log), i + d = lst.length → p - l.Base + i ≤ (o.List.length : Int) → o.List.length ≤ 1048576 + i → LinesOk o.List →
      ∃ y ok, s_LogPut_L1 p lst i l z o = some (y, ok, ()) ∧ i_LogPut_L1 p lst (lst.length : Int) i l z o = some (y, ok, ()) ∧ y.List.length ≤ 2097152 := by
  intro d
  induction d with
  | zero =>
    intro i o hd hk ho hwo
    rw [s_LogPut_L1_eq, i_LogPut_L1_eq, if_neg (by rw [decide_eq_true_eq]; omega), if_neg (by rw [decide_eq_true_eq]; omega), s_LogOk_ok o (by omega) hwo, i_LogOk_ok o (by omega), copyLog_ok l (by omega), cloneLog_ok l (by omega)]
    simp only [Option.bind_some]
    cases logOk o with
    | false => exact ⟨_, _, rfl, rfl, by omega⟩
    | true => exact ⟨_, _, rfl, rfl, by omega⟩
  | succ d ih =>
    intro i o hd hk ho hwo
    have hi : i < lst.length := by omega
    have c : (0 : Int) ≤ (i : Int) ∧ (i : Int) < (lst.length : Int) := by omega
    have e1 : w64 (p - l.Base) = p - l.Base := w64_id (by omega) (by omega)
    have e2 : w64 (p - l.Base + i) = p - l.Base + i := w64_id (by omega) (by omega)
    have e3 : w64 ((i : Int) + 1) = ((i + 1 : Nat) : Int) := w64_succ hi (by omega)
    rw [s_LogPut_L1_eq, i_LogPut_L1_eq, if_pos (decide_eq_true c.2), if_pos (decide_eq_true c.2), e1, e2, e3, getD_nat hi]
    simp only [if_pos c, decide_eq_true_eq]
    by_cases h : p - l.Base + i < (o.List.length : Int)
    · have c2 : 0 ≤ p - l.Base + i ∧ p - l.Base + i < (o.List.length : Int) := by omega
      have c3 : 0 ≤ p - l.Base + i ∧ p - l.Base + i ≤ (o.List.length : Int) := by omega
      simp only [if_pos h, if_pos c2, if_pos c3]
      by_cases h2 : (List.getD o.List (p - l.Base + i).toNat z_impl_Entry).Term = lst[i].Term
      · simp only [if_pos h2]
        exact ih (i + 1) o (by omega) (by omega) (by omega) hwo
      · simp only [if_neg h2]
        have hlen : (List.take (p - l.Base + i).toNat o.List).length = (p - l.Base + i).toNat := by rw [List.length_take]; omega
        have c4 : 0 + List.length (List.take (p - l.Base + i).toNat o.List) ≤ room := by rw [hlen, room_eq]; omega
        have c5 : List.length (List.append [] (List.take (p - l.Base + i).toNat o.List)) + 1 ≤ room := by show (List.take (p - l.Base + i).toNat o.List).length + 1 ≤ room; rw [hlen, room_eq]; omega
        have c6 : List.length (List.take (p - l.Base + i).toNat o.List) + 1 ≤ room := c5
        simp only [if_pos c4, if_pos c5, if_pos c6]
        have hn : (List.take (p - l.Base + i).toNat o.List ++ [lst[i]]).length = (p - l.Base + i).toNat + 1 := by rw [List.length_append, hlen]; rfl
        exact ih (i + 1) ⟨o.Base, o.BaseTerm, List.take (p - l.Base + i).toNat o.List ++ [lst[i]]⟩ (by omega) (by show _ ≤ ((List.take (p - l.Base + i).toNat o.List ++ [lst[i]]).length : Int); rw [hn]; omega)
          (by show (List.take (p - l.Base + i).toNat o.List ++ [lst[i]]).length ≤ _; rw [hn]; omega) (lines_app (lines_take hwo) (lines_one hw hi))
    · simp only [if_neg h]
      have c5 : List.length o.List + 1 ≤ room := by rw [room_eq]; omega
      simp only [if_pos c5]
      have hn : (o.List ++ [lst[i]]).length = o.List.length + 1 := by rw [List.length_append]; rfl
      exact ih (i + 1) ⟨o.Base, o.BaseTerm, o.List ++ [lst[i]]⟩ (by omega) (by show _ ≤ ((o.List ++ [lst[i]]).length : Int); rw [hn]; omega)
        (by show (o.List ++ [lst[i]]).length ≤ _; rw [hn]; omega) (lines_app hwo (lines_one hw hi))
theorem logPut_same (l : impl_Log) (p t : Int) (lst : List impl_Entry) (hl : l.List.length ≤ 1048576) (hlst : lst.length ≤ 1048576) (hw : LinesOk lst) (hwl : LinesOk l.List) (hb : InI l.Base) (hp : InI p) :
    ∃ y ok, s_LogPut l p t lst = some (y, ok, ()) ∧ i_LogPut l p t lst = some (y, ok, ()) ∧ y.List.length ≤ 2097152 := by
  obtain ⟨q, q1, q2, q3⟩ := termAt_same l p (by omega) hb hp
  rw [s_LogPut_eq, i_LogPut_eq, s_LogOk_ok l (by omega) hwl, i_LogOk_ok l (by omega), copyLog_ok l (by omega), cloneLog_ok l (by omega), q1, q2]
  simp only [Option.bind_some, decide_eq_true_eq]
  cases hlog : logOk l with
  | false => exact ⟨_, _, rfl, rfl, Nat.zero_le _⟩
  | true =>
    simp only [Bool.not_true, Bool.false_eq_true, if_false]
    by_cases ht : t < 0
    · simp only [if_pos ht]; exact ⟨_, _, rfl, rfl, by omega⟩
    · simp only [if_neg ht]
      by_cases hq : q = t
      · subst hq
        simp only [decide_true, Bool.not_true, Bool.false_eq_true, if_false]
        have hpb : 0 ≤ p - l.Base ∧ p - l.Base ≤ (l.List.length : Int) := by
          by_cases h1 : p = l.Base
          · omega
          · by_cases h2 : Has_ l p
            · unfold Has_ at h2; omega
            · exfalso
              rw [s_TermAt_eq, if_neg (by rw [decide_eq_true_eq]; exact h1), at_ok l p (by omega) hb hp, if_neg h2] at q1
              have : (-1 : Int) = q := by simpa using q1
              omega
        exact logPut_L1 l lst p z_impl_Log hl hlst hw hwl hpb.1 (by omega) lst.length 0 l (by omega) (by omega) (by omega) hwl
      · simp only [decide_eq_false hq, Bool.not_false, if_true]
        exact ⟨_, _, rfl, rfl, by omega⟩
end Go.Proofs.Ytajahbpeiifcbaa.E.TL
