/- Draws of bytes with numbers in them. No condition but the cursor's place. -/
import Derived.Test.YtajahbpeiifcbaaPCDraw
import Derived.Test.YtajahbpeiifcbaaPCRound
import Derived.Test.YtajahbpeiifcbaaTCe1
namespace Go.Proofs.Ytajahbpeiifcbaa.E.TC
open Go.Proofs.Ytajahbpeiifcbaa.E
set_option linter.unusedVariables false
theorem once_ok {c : spec_l1Cur} (h : CurOK c) (n : Int) : ∃ x c', s_l1Once c n = some (x, c', ()) ∧ CurOK c' := by
  obtain ⟨x, c', e, k, _⟩ := below_ok h n
  rw [s_l1Once_eq, e]
  exact ⟨_, _, rfl, k⟩
theorem Bytes.app {a b : List Int} (ha : Bytes a) (hb : Bytes b) : Bytes (a ++ b) := fun x hx => (List.mem_append.1 hx).elim (ha x) (hb x)
theorem pickInt_bd {l : List Int} {x : Int} (hl : (l.all fun t => decide (-9223372036854775808 ≤ t ∧ t ≤ 9223372036854775807)) = true) (h : x ∈ l) : -9223372036854775808 ≤ x ∧ x ≤ 9223372036854775807 := of_decide_eq_true (List.all_eq_true.1 hl x h)
theorem draw_nums_L2 {c : spec_l1Cur} (h : CurOK c) (l : List Int) (hl : l.length ≤ 1000) (hw : Bytes l) : ∃ l' c', s_l17DrawNums_L2 l c = some (l', c', ()) ∧ CurOK c' ∧ l'.length ≤ 2000 ∧ Bytes l' := by
  rw [s_l17DrawNums_L2_eq]
  obtain ⟨x, c1, e1, k1⟩ := once_ok h 12
  rw [e1, Option.bind_some]
  cases x with
  | false => rw [if_neg (by simp)]; exact ⟨_, _, rfl, k1, by omega, hw⟩
  | true =>
    obtain ⟨y, c2, e2, k2, _⟩ := pickInt_ok k1 [63, 64, 127, 128] (by simp)
    rw [if_pos rfl, e2, Option.bind_some, if_pos (by rw [room_eq]; omega)]
    refine ⟨_, _, rfl, k2, ?_, hw.app fun x hx => ?_⟩
    · show (l ++ _).length ≤ 2000
      rw [List.length_append]; simp only [List.length_cons, List.length_nil]; omega
    · have := w8_bd y
      simp only [List.mem_cons, List.not_mem_nil, or_false] at hx
      rcases hx with rfl | rfl | rfl | rfl | rfl | rfl | rfl | rfl | rfl <;> omega
theorem draw_nums {c : spec_l1Cur} (h : CurOK c) : ∃ l c', s_l17DrawNums c = some (l, c', ()) ∧ CurOK c' ∧ l.length ≤ 2000 ∧ Bytes l := by
  rw [s_l17DrawNums_eq]
  have stop : ∀ (t : List Int) (c : spec_l1Cur), CurOK c → t.length ≤ 900 → Bytes t → ∃ l c',
      ((s_l1Once c 3).bind fun (r3 : Bool × spec_l1Cur × Unit) =>
      if r3.1 = true then
        (s_l1PickInt r3.2.1 [0, 128, 255]).bind fun (r4 : Int × spec_l1Cur × Unit) =>
        (s_l1Below r4.2.1 3).bind fun (r5 : Int × spec_l1Cur × Unit) =>
        if List.length t + 2 ≤ room then
          s_l17DrawNums_L2 (List.append t [(w8 r4.1), (w8 r5.1)]) r5.2.1
        else none
      else
        s_l17DrawNums_L2 t r3.2.1) = some (l, c', ()) ∧ CurOK c' ∧ l.length ≤ 2000 ∧ Bytes l := by
    intro t c hc ht hw
    obtain ⟨x, c1, e1, k1⟩ := once_ok hc 3
    rw [e1, Option.bind_some]
    cases x with
    | false => rw [if_neg (by simp)]; exact draw_nums_L2 k1 t (by omega) hw
    | true =>
      obtain ⟨y, c2, e2, k2, _⟩ := pickInt_ok k1 [0, 128, 255] (by simp)
      obtain ⟨z, c3, e3, k3, _⟩ := below_ok k2 3
      rw [if_pos rfl, e2, Option.bind_some, e3, Option.bind_some, if_pos (by rw [room_eq]; omega)]
      refine draw_nums_L2 k3 (t ++ [w8 y, w8 z]) (by rw [List.length_append]; simp only [List.length_cons, List.length_nil]; omega) (hw.app fun x hx => ?_)
      have := w8_bd y
      have := w8_bd z
      simp only [List.mem_cons, List.not_mem_nil, or_false] at hx
      rcases hx with rfl | rfl <;> omega
  have key : ∀ (d i : Nat) (t : List Int) (c : spec_l1Cur), CurOK c → i + d = 3 → t.length ≤ 9 * i → Bytes t → ∃ l c', s_l17DrawNums_L1 t (i : Int) c = some (l, c', ()) ∧ CurOK c' ∧ l.length ≤ 2000 ∧ Bytes l := by
    intro d
    induction d with
    | zero =>
      intro i t c hc hd ht hw
      obtain ⟨x, c1, e1, k1, _, b1, _⟩ := below_ok hc 4
      have b1 := b1 (by omega)
      rw [s_l17DrawNums_L1_eq, e1, Option.bind_some, if_neg (by rw [decide_eq_true_eq]; omega)]
      exact stop t c1 k1 (by omega) hw
    | succ d ih =>
      intro i t c hc hd ht hw
      obtain ⟨x, c1, e1, k1, _, b1, _⟩ := below_ok hc 4
      rw [s_l17DrawNums_L1_eq, e1, Option.bind_some]
      by_cases hx : (i : Int) < x
      · obtain ⟨y, c2, e2, k2, _⟩ := pickInt_ok k1 [0, 1, 127, 128, 300, 4611686018427387903, 4611686018427387902] (by simp)
        have hl := putNumOf_len y
        rw [if_pos (decide_eq_true hx), e2, Option.bind_some, s_PutNum_ok, Option.bind_some, if_pos (show t.length + (putNumOf y).length ≤ room by rw [room_eq]; omega), w64_succ (n := 3) (by omega) (by omega)]
        exact ih (i + 1) (t ++ putNumOf y) c2 k2 (by omega) (by rw [List.length_append]; omega) (hw.app (putNumOf_bytes y))
      · rw [if_neg (by rw [decide_eq_true_eq]; exact hx)]
        exact stop t c1 k1 (by omega) hw
  exact key 3 0 [] c h (by omega) (by simp) fun x hx => by cases hx
theorem draw_getNum (b : List Int) (hb : b.length ≤ 1048576) : ∃ l p, s_DrawGetNum b = some (l, p, ()) ∧ l.length ≤ 2000 ∧ Bytes l ∧ (-9223372036854775808 ≤ p ∧ p ≤ 9223372036854775807) := by
  rw [s_DrawGetNum_eq]
  obtain ⟨c, e1, k1⟩ := new_ok b hb
  obtain ⟨l, c2, e2, k2, l2, w2⟩ := draw_nums k1
  obtain ⟨p, c3, e3, k3, m3⟩ := pickInt_ok k2 [0, 0, 1, (List.length l : Int), (w64 ((List.length l : Int) - 9)), (-1), 9223372036854775807] (by simp)
  simp only [e1, e2, e3, Option.bind_some]
  refine ⟨_, _, rfl, l2, w2, ?_⟩
  have := w64_bd ((List.length l : Int) - 9)
  simp only [List.mem_cons, List.not_mem_nil, or_false] at m3
  rcases m3 with rfl | rfl | rfl | rfl | rfl | rfl | rfl <;> omega
theorem draw_getText (b : List Int) (hb : b.length ≤ 1048576) : ∃ l p, s_DrawGetText b = some (l, p, ()) ∧ l.length ≤ 3000 ∧ Bytes l ∧ (-9223372036854775808 ≤ p ∧ p ≤ 9223372036854775807) := by
  rw [s_DrawGetText_eq]
  obtain ⟨c, e1, k1⟩ := new_ok b hb
  obtain ⟨t, c2, e2, k2, m2⟩ := pick_ok k1 [[], [97, 98, 99], [120]] (by simp)
  obtain ⟨l, c3, e3, k3, l3, w3⟩ := draw_nums k2
  have ht : t.length ≤ 3 ∧ Bytes t := by
    simp only [List.mem_cons, List.not_mem_nil, or_false] at m2
    unfold Bytes
    rcases m2 with rfl | rfl | rfl <;> decide
  have hpl := putText_len t
  have hpw : Bytes (putText t) := (putNumOf_bytes _).app ht.2
  have hal : (List.append (putText t) l).length = (putText t).length + l.length := List.length_append ..
  have haw : Bytes (List.append (putText t) l) := hpw.app w3
  obtain ⟨x, c4, e4, k4⟩ := once_ok k3 4
  simp only [e1, e2, e3, e4, Option.bind_some, s_PutText_ok t (by omega)]
  rw [if_pos (by rw [room_eq]; omega)]
  generalize List.append (putText t) l = u at hal haw
  have pk : ∀ (n : Nat) (x : Int), n ≤ 100000 → x ∈ [0, 0, 0, 1, (n : Int), (-1)] → -9223372036854775808 ≤ x ∧ x ≤ 9223372036854775807 := by
    intro n x hn m3
    simp only [List.mem_cons, List.not_mem_nil, or_false] at m3
    rcases m3 with rfl | rfl | rfl | rfl | rfl | rfl <;> omega
  cases x with
  | true =>
    obtain ⟨y, c5, e5, k5, a5, b5, _⟩ := below_ok k4 (w64 ((List.length u : Int) + 1))
    have hw : w64 ((List.length u : Int) + 1) = (List.length u : Int) + 1 := w64_id (by omega) (by omega)
    have b5 := b5 (by omega)
    rw [hw] at e5 b5
    obtain ⟨z, c6, e6, k6, m6⟩ := pickInt_ok k5 [0, 0, 0, 1, (List.length (List.take y.toNat u) : Int), (-1)] (by simp)
    have hc : (0 : Int) ≤ y ∧ y ≤ (List.length u : Int) := by omega
    simp only [if_true, hw, e5, Option.bind_some, if_pos hc, e6]
    exact ⟨_, _, rfl, by rw [List.length_take]; omega, fun x hx => haw x (List.mem_of_mem_take hx), pk _ _ (by rw [List.length_take]; omega) m6⟩
  | false =>
    obtain ⟨z, c6, e6, k6, m6⟩ := pickInt_ok k4 [0, 0, 0, 1, (List.length u : Int), (-1)] (by simp)
    simp only [Bool.false_eq_true, if_false, e6, Option.bind_some]
    exact ⟨_, _, rfl, by omega, haw, pk _ _ (by omega) m6⟩
end Go.Proofs.Ytajahbpeiifcbaa.E.TC
