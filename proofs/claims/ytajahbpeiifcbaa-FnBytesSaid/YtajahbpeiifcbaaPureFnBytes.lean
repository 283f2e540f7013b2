/- The pure statement of FnBytes. No condition. -/
import Derived.Test.YtajahbpeiifcbaaPCDrawNums
import Derived.Test.YtajahbpeiifcbaaTCe1
import Derived.Test.YtajahbpeiifcbaaQFnBytes
namespace Go.Proofs.Ytajahbpeiifcbaa.E.TC
open Go.Proofs.Ytajahbpeiifcbaa.E
set_option linter.unusedVariables false
theorem fin_step {o : Bool} {C E : Prop} [Decidable C] [Decidable E] (T : o = true → C ∧ E) (X : Option (Bool × Unit)) : (if (!o) = true then X else if C then (if decide E = true then X else some (false, ())) else none) = X := by
  cases o with
  | false => rfl
  | true => rw [if_neg (by simp), if_pos (T rfl).1, if_pos (decide_eq_true (T rfl).2)]
theorem fin_last {o : Bool} {C E : Prop} [Decidable C] [Decidable E] (T : o = true → C ∧ E) : (if (!o) = true then some (true, ()) else if C then some (decide E, ()) else none) = some (true, ()) := by
  cases o with
  | false => rfl
  | true => rw [if_neg (by simp), if_pos (T rfl).1, decide_eq_true (T rfl).2]
theorem pureFnBytes : PureFnBytes := by
  intro b hb
  rw [l_FnBytes_eq, big_ok, Option.bind_some]
  by_cases h : (b.length : Int) > 1048576
  · rw [if_pos (decide_eq_true h)]
  · rw [if_neg (by rw [decide_eq_true_eq]; exact h)]
    have hl : b.length ≤ 1048576 := by omega
    obtain ⟨c, e0, K0⟩ := new_ok b hl
    obtain ⟨x, c1, e1, K1, _⟩ := pickInt_ok K0 [0, 1, 127, 128, 300, 16384, 4611686018427387903, (-1), 9223372036854775807] (by simp)
    obtain ⟨y, c2, e2, K2, _⟩ := pickInt_ok K0 [0, 1, (-1), 63, (-64), 64, 2305843009213693951, (-2305843009213693951), 4611686018427387903, (-9223372036854775808)] (by simp)
    obtain ⟨t, c3, e3, K3, m3⟩ := pick_ok K0 [[], [97], [116, 119, 111, 32, 119, 111, 114, 100, 115], [0, 255]] (by simp)
    have ht : t.length ≤ 9 ∧ Bytes t := by
      simp only [List.mem_cons, List.not_mem_nil, or_false] at m3
      unfold Bytes
      rcases m3 with rfl | rfl | rfl | rfl <;> decide
    have d1 : s_DrawPutNum b = some (x, ()) := by rw [s_DrawPutNum_eq, e0, Option.bind_some, e1]; rfl
    have d2 : s_DrawPutInt b = some (y, ()) := by rw [s_DrawPutInt_eq, e0, Option.bind_some, e2]; rfl
    have d3 : s_DrawPutText b = some (t, ()) := by rw [s_DrawPutText_eq, e0, Option.bind_some, e3]; rfl
    obtain ⟨raw, k, d4, l4, w4, p4⟩ := draw_getNum b hl
    have d5 : s_DrawGetInt b = some (raw, k, ()) := by rw [s_DrawGetInt_eq, d4]; rfl
    obtain ⟨raw3, k3, d6, l6, w6, p6⟩ := draw_getText b hl
    have n1 := putNumOf_len x
    have n2 : (putInt y).length ≤ 9 := by unfold putInt; split; exact putNumOf_len _; simp
    have b2 : Bytes (putInt y) := by unfold putInt; split; exact putNumOf_bytes _; intro x hx; cases hx
    have n3 := putText_len t
    have b3 : Bytes (putText t) := (putNumOf_bytes _).app ht.2
    -- what is read
    have g1 := i_GetNum_ok (putNumOf x) (by omega) (putNumOf_bytes x) 0
    have g2 := i_GetInt_ok (putInt y) (by omega) b2 0
    have g3 := i_GetText_ok (putText t) (by omega) b3 0
    rw [text_round t (by omega)] at g3
    have r1 := i_GetNum_ok raw (by omega) w4 k
    have r2 := s_GetNum_ok raw (by omega) w4 k p4
    have r3 := i_GetInt_ok raw (by omega) w4 k
    have r4 := s_GetInt_ok raw (by omega) w4 k p4
    have r5 := i_GetText_ok raw3 (by omega) w6 k3
    have r6 := s_GetText_ok raw3 (by omega) w6 k3 p6
    have t1 : (getNumOf raw k).2.2 = true → (0 ≤ k ∧ k ≤ (getNumOf raw k).2.1 ∧ (getNumOf raw k).2.1 ≤ (raw.length : Int)) ∧ putNumOf (getNumOf raw k).1 = List.take ((getNumOf raw k).2.1.toNat - k.toNat) (List.drop k.toNat raw) := by
      intro ho
      obtain ⟨q1, q2, q3, q4, _⟩ := num_canon raw w4 k (getNumOf raw k).1 (getNumOf raw k).2.1 (by rw [← ho])
      exact ⟨⟨q1, by omega, q3⟩, (canon_bytes q1 q2 q3 q4).symm⟩
    have t2 : (getIntOf raw k).2.2 = true → (0 ≤ k ∧ k ≤ (getIntOf raw k).2.1 ∧ (getIntOf raw k).2.1 ≤ (raw.length : Int)) ∧ putInt (getIntOf raw k).1 = List.take ((getIntOf raw k).2.1.toNat - k.toNat) (List.drop k.toNat raw) := by
      intro ho
      obtain ⟨q1, q2, q3, q4⟩ := int_canon raw w4 k (getIntOf raw k).1 (getIntOf raw k).2.1 (by rw [← ho])
      exact ⟨⟨q1, by omega, q3⟩, (canon_bytes q1 q2 q3 q4).symm⟩
    have t3 : (getTextOf raw3 k3).2.2 = true → (0 ≤ k3 ∧ k3 ≤ (getTextOf raw3 k3).2.1 ∧ (getTextOf raw3 k3).2.1 ≤ (raw3.length : Int)) ∧ putText (getTextOf raw3 k3).1 = List.take ((getTextOf raw3 k3).2.1.toNat - k3.toNat) (List.drop k3.toNat raw3) := by
      intro ho
      obtain ⟨q1, q2, q3, q4, q5⟩ := text_canon raw3 w6 k3 (getTextOf raw3 k3).2.1 (getTextOf raw3 k3).1 (by rw [← ho])
      exact ⟨⟨q1, by omega, q3⟩, (canon_bytes q1 q2 q3 q4).symm⟩
    have l3 : (getTextOf raw3 k3).1.length ≤ 3000 := by
      unfold getTextOf
      split
      · rw [List.length_take, List.length_drop]; omega
      · simp
    generalize getNumOf raw k = G1 at r1 r2 t1
    generalize getIntOf raw k = G2 at r3 r4 t2
    generalize getTextOf raw3 k3 = G3 at r5 r6 t3 l3
    obtain ⟨v1, q1, o1⟩ := G1
    obtain ⟨v2, q2, o2⟩ := G2
    obtain ⟨v3, q3, o3⟩ := G3
    simp only [tr3, trT] at r1 r2 r3 r4 r5 r6 g1 g2 g3
    dsimp only at t1 t2 t3 l3
    have c1 : (0 < (putNumOf x).length → getNumOf (putNumOf x) 0 = (x, ((putNumOf x).length : Int), true)) := by
      intro hp
      by_cases hx : 0 ≤ x ∧ x ≤ 4611686018427387903
      · have := (num_round x hx []).1
        rwa [List.append_nil] at this
      · unfold putNumOf at hp; rw [if_neg hx] at hp; cases hp
    have c2 : (0 < (putInt y).length → getIntOf (putInt y) 0 = (y, ((putInt y).length : Int), true)) := by
      intro hp
      by_cases hy : InZ y
      · exact int_round y hy
      · unfold putInt at hp; rw [if_neg hy] at hp; cases hp
    simp only [d1, d2, d3, i_PutNum_ok, s_PutNum_ok, i_PutInt_ok, s_PutInt_ok, i_PutText_ok t (by omega), s_PutText_ok t (by omega), Option.bind_some, decide_true, Bool.not_true, Bool.false_eq_true, if_false, g1, g2, g3]
    by_cases hx : ((putNumOf x).length : Int) > 0
    · rw [if_pos (decide_eq_true hx), c1 (by omega)]
      simp only [decide_true, Bool.not_true, Bool.false_eq_true, if_false]
      by_cases hy : ((putInt y).length : Int) > 0
      · rw [if_pos (decide_eq_true hy), c2 (by omega)]
        simp only [decide_true, Bool.not_true, Bool.false_eq_true, if_false, d4, d5, d6, r1, r2, r3, r4, r5, r6, Option.bind_some, i_PutText_ok v3 (by omega)]
        rw [fin_last t3, fin_step t2, fin_step t1]
      · rw [if_neg (by rw [decide_eq_true_eq]; exact hy)]
        simp only [decide_true, Bool.not_true, Bool.false_eq_true, if_false, d4, d5, d6, r1, r2, r3, r4, r5, r6, Option.bind_some, i_PutText_ok v3 (by omega)]
        rw [fin_last t3, fin_step t2, fin_step t1]
    · rw [if_neg (by rw [decide_eq_true_eq]; exact hx)]
      by_cases hy : ((putInt y).length : Int) > 0
      · rw [if_pos (decide_eq_true hy), c2 (by omega)]
        simp only [decide_true, Bool.not_true, Bool.false_eq_true, if_false, d4, d5, d6, r1, r2, r3, r4, r5, r6, Option.bind_some, i_PutText_ok v3 (by omega)]
        rw [fin_last t3, fin_step t2, fin_step t1]
      · rw [if_neg (by rw [decide_eq_true_eq]; exact hy)]
        simp only [decide_true, Bool.not_true, Bool.false_eq_true, if_false, d4, d5, d6, r1, r2, r3, r4, r5, r6, Option.bind_some, i_PutText_ok v3 (by omega)]
        rw [fin_last t3, fin_step t2, fin_step t1]
end Go.Proofs.Ytajahbpeiifcbaa.E.TC
