/- RecOf of the program and of the reference tell the same. No condition. -/
import Derived.Test.YtlidpmhmchbilaaPEReadRec
import Derived.Test.YtlidpmhmchbilaaTEe1
namespace Go.Proofs.Ytlidpmhmchbilaa.E.TE
open Go.Proofs.Ytlidpmhmchbilaa.E
set_option linter.unusedVariables false
theorem equal_byte_ok (a b : List Int) (ha : a.length ≤ 4294967296) : x_slices_Equal_byte a b = some (decide (a = b), ()) := by
  rw [x_slices_Equal_byte_eq]
  by_cases hl : (a.length : Int) = b.length
  · rw [if_neg (by simp [hl])]
    have key : ∀ (d i : Nat), i + d = a.length → x_slices_Equal_byte_L1 a b (a.length : Int) i = some (decide (a.drop i = b.drop i), ()) := by
      intro d
      induction d with
      | zero =>
        intro i hd
        rw [x_slices_Equal_byte_L1_eq, if_neg (by rw [decide_eq_true_eq]; omega), List.drop_eq_nil_of_le (by omega), List.drop_eq_nil_of_le (by omega)]; simp
      | succ d ih =>
        intro i hd
        have hi : i < a.length := by omega
        have hi2 : i < b.length := by omega
        rw [x_slices_Equal_byte_L1_eq, if_pos (decide_eq_true (by omega)), if_pos (by omega), if_pos (by omega), getD_nat hi, getD_nat hi2, w64_succ hi (by omega), ih (i + 1) (by omega), List.drop_eq_getElem_cons hi, List.drop_eq_getElem_cons hi2]
        simp only [List.cons.injEq]
        by_cases h : a[i] = b[i]
        · simp only [h, decide_true, Bool.not_true, Bool.false_eq_true, if_false, true_and]
        · simp only [h, decide_false, Bool.not_false, if_true, false_and]
    have := key a.length 0 (by omega)
    simpa using this
  · rw [if_pos (by simpa using hl), decide_eq_false (fun h => hl (by rw [h]))]
theorem s_l19Sum_ok (b : List Int) (hb : b.length ≤ 4294967296) : s_l19Sum b = some (sumBytes b, ()) := by
  rw [s_l19Sum_eq, s_SumOf_ok b hb]; rfl
theorem recOf_same (b : List Int) (hb : b.length ≤ 1048576) (hw : Bytes b) (p : Int) (hp : -9223372036854775808 ≤ p ∧ p ≤ 9223372036854775807) :
    ∃ r q ok, s_RecOf b p = some (r, q, ok, ()) ∧ i_RecOf b p = some (r, q, ok, ()) ∧ r.List.length ≤ 1048576 ∧ (ok = true → 0 ≤ p ∧ p < q ∧ q ≤ (b.length : Int) ∧ r.List.length ≤ 40) := by
  rw [s_RecOf_eq, i_RecOf_eq, s_GetNum_ok b hb hw p hp, i_GetNum_ok b hb hw p]
  simp only [Option.bind_some, tr3]
  have hbd := getNumOf_bd b p
  cases hg : getNumOf b p with | mk n mo =>
  obtain ⟨m, ok0⟩ := mo
  rw [hg] at hbd
  dsimp only at hbd ⊢
  obtain ⟨h1, h2, h3, h4⟩ := hbd
  cases ok0 with
  | false => exact ⟨_, _, _, rfl, rfl, Nat.zero_le _, fun h => by cases h⟩
  | true =>
    obtain ⟨g1, g2, g3, g4, g5, g6⟩ := num_canon b hw p n m hg
    simp only [Bool.not_true, Bool.false_eq_true, if_false, decide_eq_true_eq]
    rw [w64_id (n := (b.length : Int) - m) (by omega) (by omega), w64_id (n := (b.length : Int) - m - 4) (by omega) (by omega)]
    by_cases hn : n > (b.length : Int) - m - 4
    · simp only [if_pos hn]; exact ⟨_, _, _, rfl, rfl, Nat.zero_le _, fun h => by cases h⟩
    · have e1 : w64 (m + n) = m + n := w64_id (by omega) (by omega)
      have e2 : w64 (m + n + 4) = m + n + 4 := w64_id (by omega) (by omega)
      have c1 : 0 ≤ m ∧ m ≤ m + n ∧ m + n ≤ (b.length : Int) := by omega
      have c2 : 0 ≤ m + n ∧ m + n ≤ m + n + 4 ∧ m + n + 4 ≤ (b.length : Int) := by omega
      have c3 : 0 ≤ p ∧ p ≤ m + n + 4 ∧ m + n + 4 ≤ (b.length : Int) := by omega
      simp only [if_neg hn, e1, e2, if_pos c1, if_pos c2, if_pos c3]
      generalize hB : List.take ((m + n).toNat - m.toNat) (List.drop m.toNat b) = B
      generalize hT : List.take ((m + n + 4).toNat - (m + n).toNat) (List.drop (m + n).toNat b) = T
      have hBl : (B.length : Int) = n := by rw [← hB, List.length_take, List.length_drop]; omega
      have hTl : T.length = 4 := by rw [← hT, List.length_take, List.length_drop]; omega
      have hBw : Bytes B := fun x hx => hw x (by rw [← hB] at hx; exact List.mem_of_mem_drop (List.mem_of_mem_take hx))
      have hU : List.take ((m + n + 4).toNat - p.toNat) (List.drop p.toNat b) = (putNumOf n ++ B) ++ T := by
        rw [← List.drop_take, show (m + n + 4).toNat = (m + n).toNat + ((m + n + 4).toNat - (m + n).toNat) by omega, List.take_add, hT, show (m + n).toNat = m.toNat + ((m + n).toNat - m.toNat) by omega, List.take_add, hB, g4,
          List.append_assoc, List.append_assoc, List.drop_left' (by rw [List.length_take]; omega), List.append_assoc]
      rw [hU]
      obtain ⟨r, s, q1, q2, r2, s2, q3, q4, q5, q6⟩ := rec_read B (by omega) hBw
      rw [s_l19Sum_ok B (by omega), q1, q3]
      simp only [Option.bind_some]
      by_cases hs2 : s2.2 = true
      · obtain ⟨rfl, rfl⟩ := q5 hs2
        obtain ⟨k1, k2, k3, k4⟩ := q6 hs2
        rw [i_RecBytes_ok r2 (by omega), s_RecOk_ok r2 (by omega) q2]
        simp only [hs2, Bool.not_true, Bool.false_eq_true, if_false, Option.bind_some]
        by_cases hat : s2.1 = n
        · have hbody : recBody r2 = B := by rw [← k1, hat, List.take_of_length_le (by omega)]
          have hat2 : s2.1 = (B.length : Int) := by omega
          rw [equal_byte_ok _ _ (by have := recBytes_len r2; omega)]
          simp only [decide_eq_true hat, decide_eq_true hat2, Bool.not_true, Bool.false_eq_true, if_false, Option.bind_some]
          cases hr : recOk r2 with
          | false =>
            have hne : ¬ recBytes r2 = (putNumOf n ++ B) ++ T := by
              unfold recBytes; rw [hr]; simp only [Bool.false_eq_true, if_false]
              intro h
              have := congrArg List.length h
              simp only [List.length_append, List.length_nil, hTl] at this
              omega
            simp only [decide_eq_false hne, Bool.not_false, if_true]
            by_cases hsum : sumBytes B = T
            · simp only [decide_eq_true hsum, Bool.not_true, Bool.false_eq_true, if_false]
              exact ⟨_, _, _, rfl, rfl, Nat.zero_le _, fun h => by cases h⟩
            · simp only [decide_eq_false hsum, Bool.not_false, if_true]
              exact ⟨_, _, _, rfl, rfl, Nat.zero_le _, fun h => by cases h⟩
          | true =>
            have he : recBytes r2 = (putNumOf n ++ B) ++ sumBytes B := by
              unfold recBytes; rw [hr, if_pos rfl, hbody, hBl]
            by_cases hsum : sumBytes B = T
            · have h2 : recBytes r2 = (putNumOf n ++ B) ++ T := by rw [he, hsum]
              simp only [decide_eq_true hsum, decide_eq_true h2, Bool.not_true, Bool.false_eq_true, if_false]
              exact ⟨_, _, _, rfl, rfl, k4, fun _ => ⟨g1, by omega, by omega, (recOk_spec hr).1⟩⟩
            · have h2 : ¬ recBytes r2 = (putNumOf n ++ B) ++ T := by
                rw [he]; intro h; exact hsum (List.append_cancel_left h)
              simp only [decide_eq_false hsum, decide_eq_false h2, Bool.not_false, if_true]
              exact ⟨_, _, _, rfl, rfl, Nat.zero_le _, fun h => by cases h⟩
        · have hat2 : ¬ s2.1 = (B.length : Int) := by omega
          simp only [decide_eq_false hat, decide_eq_false hat2, Bool.not_false, if_true]
          by_cases hsum : sumBytes B = T
          · simp only [decide_eq_true hsum, Bool.not_true, Bool.false_eq_true, if_false]
            exact ⟨_, _, _, rfl, rfl, Nat.zero_le _, fun h => by cases h⟩
          · simp only [decide_eq_false hsum, Bool.not_false, if_true]
            exact ⟨_, _, _, rfl, rfl, Nat.zero_le _, fun h => by cases h⟩
      · have hs2' : s2.2 = false := by simpa using hs2
        simp only [hs2', Bool.not_false, if_true]
        by_cases hsum : sumBytes B = T
        · simp only [decide_eq_true hsum, Bool.not_true, Bool.false_eq_true, if_false]
          by_cases hs : s.2 = true
          · obtain ⟨k1, k2, k3, k4⟩ := q6 hs
            have hlong : ¬ r.List.length ≤ 40 := fun h => hs2 (q4.2 ⟨hs, h⟩)
            have hr : recOk r = false := by
              cases h : recOk r with
              | false => rfl
              | true => exact absurd (recOk_spec h).1 hlong
            rw [s_RecOk_ok r (by omega) q2, hr]
            simp only [hs, Bool.not_true, Bool.false_eq_true, if_false, Option.bind_some, Bool.not_false, if_true]
            by_cases hat : s.1 = (B.length : Int)
            · simp only [decide_eq_true hat, Bool.not_true, Bool.false_eq_true, if_false]
              exact ⟨_, _, _, rfl, rfl, Nat.zero_le _, fun h => by cases h⟩
            · simp only [decide_eq_false hat, Bool.not_false, if_true]
              exact ⟨_, _, _, rfl, rfl, Nat.zero_le _, fun h => by cases h⟩
          · have hs' : s.2 = false := by simpa using hs
            simp only [hs', Bool.not_false, if_true]
            exact ⟨_, _, _, rfl, rfl, Nat.zero_le _, fun h => by cases h⟩
        · simp only [decide_eq_false hsum, Bool.not_false, if_true]
          exact ⟨_, _, _, rfl, rfl, Nat.zero_le _, fun h => by cases h⟩
end Go.Proofs.Ytlidpmhmchbilaa.E.TE
