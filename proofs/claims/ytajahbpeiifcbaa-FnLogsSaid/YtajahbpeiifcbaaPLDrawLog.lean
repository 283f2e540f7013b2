/- Draws of commands, entries, logs. No condition but the cursor's place. -/
import Derived.Test.YtajahbpeiifcbaaPLDraw
import Derived.Test.YtajahbpeiifcbaaPLThere
import Derived.Test.YtajahbpeiifcbaaPLLines
import Derived.Test.YtajahbpeiifcbaaPLTermAt
import Derived.Test.YtajahbpeiifcbaaTLe1
namespace Go.Proofs.Ytajahbpeiifcbaa.E.TL
open Go.Proofs.Ytajahbpeiifcbaa.E
set_option linter.unusedVariables false
theorem once_ok {c : spec_l1Cur} (h : CurOK c) (n : Int) : ∃ x c', s_l1Once c n = some (x, c', ()) ∧ CurOK c' := by
  obtain ⟨x, c', e, k, _⟩ := below_ok h n
  rw [s_l1Once_eq, e]
  exact ⟨_, _, rfl, k⟩
theorem max_ok (a b : Int) : ∃ x, s_l1Max a b = some (x, ()) := by
  rw [s_l1Max_eq]
  by_cases h : a > b
  · rw [if_pos (decide_eq_true h)]; exact ⟨_, rfl⟩
  · rw [if_neg (by rw [decide_eq_true_eq]; exact h)]; exact ⟨_, rfl⟩
theorem pick_len {l : List (List Int)} {n : Nat} {x : List Int} (hl : (l.all fun t => decide (t.length ≤ n)) = true) (h : x ∈ l) : x.length ≤ n := of_decide_eq_true (List.all_eq_true.1 hl x h)
theorem pickInt_bd {l : List Int} {x : Int} (hl : (l.all fun t => decide (-9223372036854775808 ≤ t ∧ t ≤ 9223372036854775807)) = true) (h : x ∈ l) : InI x := by
  have := of_decide_eq_true (List.all_eq_true.1 hl x h)
  exact this
theorem draw_line {c : spec_l1Cur} (h : CurOK c) : ∃ t c', s_l11DrawLine c = some (t, c', ()) ∧ CurOK c' ∧ t.length ≤ 100 := by
  rw [s_l11DrawLine_eq]
  have key : ∀ (d i : Nat) (t : List Int) (c : spec_l1Cur), CurOK c → i + d = 4 → t.length ≤ 5 * i → ∃ t' c', s_l11DrawLine_L1 t (i : Int) c = some (t', c', ()) ∧ CurOK c' ∧ t'.length ≤ 100 := by
    intro d
    induction d with
    | zero =>
      intro i t c h hd ht
      obtain ⟨x, c1, e1, k1, _, b1, _⟩ := below_ok h 5
      have b1 := b1 (by omega)
      rw [s_l11DrawLine_L1_eq, e1, Option.bind_some, if_neg (by rw [decide_eq_true_eq]; omega)]
      exact ⟨_, _, rfl, k1, by omega⟩
    | succ d ih =>
      intro i t c h hd ht
      obtain ⟨x, c1, e1, k1, _, b1, _⟩ := below_ok h 5
      obtain ⟨u, c2, e2, k2, m2⟩ := pick_ok k1 [[97], [120], [49, 48], [55, 46, 53], [97, 98, 99], [98, 98, 99], [45, 51], [52], [120, 121, 122]] (by simp)
      obtain ⟨v, c3, e3, k3, m3⟩ := pick_ok k2 [[32], [32], [32, 32]] (by simp)
      have l2 := pick_len (n := 3) (by decide) m2
      have l3 := pick_len (n := 2) (by decide) m3
      rw [s_l11DrawLine_L1_eq, e1, Option.bind_some]
      by_cases hx : (i : Int) < x
      · rw [if_pos (decide_eq_true hx), e2, Option.bind_some, if_pos (show t.length + u.length ≤ 9223372036854775807 by omega), e3, Option.bind_some, if_pos (show (t ++ u).length + v.length ≤ 9223372036854775807 by rw [List.length_append]; omega), w64_succ (n := 4) (by omega) (by omega)]
        exact ih (i + 1) ((t ++ u) ++ v) c3 k3 (by omega) (by rw [List.length_append, List.length_append]; omega)
      · rw [if_neg (by rw [decide_eq_true_eq]; exact hx)]
        exact ⟨_, _, rfl, k1, by omega⟩
  exact key 4 0 [] c h (by omega) (by simp)
theorem draw_cmd {c : spec_l1Cur} (h : CurOK c) : ∃ t c', s_l16DrawCmd c = some (t, c', ()) ∧ CurOK c' ∧ t.Line.length ≤ 100 := by
  rw [s_l16DrawCmd_eq]
  obtain ⟨x, c1, e1, k1⟩ := once_ok h 8
  rw [e1, Option.bind_some]
  cases x with
  | true => rw [if_pos rfl]; exact ⟨_, _, rfl, k1, Nat.zero_le _⟩
  | false =>
    obtain ⟨x2, c2, e2, k2, _⟩ := below_ok k1 3
    obtain ⟨x3, c3, e3, k3, _⟩ := below_ok k2 5
    obtain ⟨t, c4, e4, k4, l4⟩ := draw_line k3
    simp only [Bool.false_eq_true, if_false, e2, e3, e4, Option.bind_some]
    exact ⟨_, _, rfl, k4, l4⟩
theorem spoil_ok {c : spec_l1Cur} (h : CurOK c) (t : impl_Cmd) (ht : t.Line.length ≤ 100) : ∃ t' c', s_l16Spoil c t = some (t', c', ()) ∧ CurOK c' ∧ t'.Line.length ≤ 100 := by
  rw [s_l16Spoil_eq]
  obtain ⟨x, c1, e1, k1, _⟩ := below_ok h 12
  rw [e1, Option.bind_some]
  by_cases h0 : x = 0
  · rw [if_pos (decide_eq_true h0)]
    obtain ⟨y, c2, e2, k2, _⟩ := pickInt_ok k1 [(-2), (-1), 3] (by simp)
    rw [e2]; exact ⟨_, _, rfl, k2, ht⟩
  · rw [if_neg (by rw [decide_eq_true_eq]; exact h0)]
    by_cases h1 : x = 1
    · rw [if_pos (decide_eq_true h1)]
      obtain ⟨y, c2, e2, k2, _⟩ := pickInt_ok k1 [0, (-1), 100000, 100001] (by simp)
      rw [e2]; exact ⟨_, _, rfl, k2, ht⟩
    · rw [if_neg (by rw [decide_eq_true_eq]; exact h1)]
      by_cases h2 : x = 2
      · rw [if_pos (decide_eq_true h2)]
        obtain ⟨y, c2, e2, k2, m2⟩ := pick_ok k1 [[10], [48, 49, 50, 51, 52, 53, 54, 55, 56, 57, 48, 49, 50, 51, 52, 53, 54, 55, 56, 57, 48, 49, 50, 51, 52, 53, 54, 55, 56, 57, 48, 49, 50, 51, 52, 53, 54, 55, 56, 57, 48, 49, 50, 51, 52, 53, 54, 55, 56, 57, 48, 49, 50, 51, 52, 53, 54, 55, 56, 57, 48]] (by simp)
        have l2 := pick_len (n := 61) (by decide) m2
        rw [e2]; exact ⟨_, _, rfl, k2, by show y.length ≤ 100; omega⟩
      · rw [if_neg (by rw [decide_eq_true_eq]; exact h2)]
        exact ⟨_, _, rfl, k1, ht⟩
def Lines100 (l : List impl_Entry) : Prop := ∀ e ∈ l, e.C.Line.length ≤ 100
theorem Lines100.ok {l : List impl_Entry} (h : Lines100 l) : LinesOk l := fun e he => Nat.le_trans (h e he) (by omega)
theorem Lines100.snoc {l : List impl_Entry} (h : Lines100 l) {e : impl_Entry} (he : e.C.Line.length ≤ 100) : Lines100 (l ++ [e]) := fun x hx => by
  rcases List.mem_append.1 hx with hx | hx
  · exact h x hx
  · rw [List.mem_singleton.1 hx]; exact he
theorem draw_entries {c : spec_l1Cur} (h : CurOK c) (t : Int) (n : Nat) (hn : n ≤ 100) : ∃ l c', s_l18DrawEntries c t n = some (l, c', ()) ∧ CurOK c' ∧ l.length ≤ n ∧ Lines100 l := by
  rw [s_l18DrawEntries_eq, w64_id (by omega) (by omega)]
  obtain ⟨x, c1, e1, k1, a1, b1, _⟩ := below_ok h ((n : Int) + 1)
  have b1 := b1 (by omega)
  rw [e1, Option.bind_some]
  obtain ⟨m, rfl⟩ := Int.eq_ofNat_of_zero_le a1
  have key : ∀ (d i : Nat) (t : Int) (l : List impl_Entry) (c : spec_l1Cur), CurOK c → i + d = m → l.length = i → Lines100 l → ∃ l' c', s_l18DrawEntries_L1 t l (m : Int) (i : Int) c = some (l', c', ()) ∧ CurOK c' ∧ l'.length ≤ n ∧ Lines100 l' := by
    intro d
    induction d with
    | zero =>
      intro i t l c hc hd hl hw
      rw [s_l18DrawEntries_L1_eq, if_neg (by rw [decide_eq_true_eq]; omega)]
      exact ⟨_, _, rfl, hc, by omega, hw⟩
    | succ d ih =>
      intro i t l c hc hd hl hw
      obtain ⟨x2, c2, e2, k2, _⟩ := below_ok hc 2
      obtain ⟨q, c3, e3, k3, l3⟩ := draw_cmd k2
      rw [s_l18DrawEntries_L1_eq, if_pos (decide_eq_true (by omega)), e2, Option.bind_some, e3, Option.bind_some, if_pos (show l.length + 1 ≤ room by rw [room_eq]; omega), w64_succ (n := 100) (by omega) (by omega)]
      exact ih (i + 1) _ _ _ k3 (by omega) (by show (l ++ [_]).length = i + 1; rw [List.length_append, hl]; rfl) (hw.snoc l3)
  exact key m 0 t [] c1 k1 (by omega) rfl fun e he => by cases he
theorem draw_right {c : spec_l1Cur} (h : CurOK c) : ∃ l c', s_l18DrawRight c = some (l, c', ()) ∧ CurOK c' ∧ 0 ≤ l.Base ∧ l.Base ≤ 2 ∧ l.List.length ≤ 6 ∧ Lines100 l.List := by
  rw [s_l18DrawRight_eq]
  obtain ⟨x1, c1, e1, k1, a1, b1, _⟩ := below_ok h 3
  have b1 := b1 (by omega)
  obtain ⟨x2, c2, e2, k2, _⟩ := below_ok k1 2
  obtain ⟨l, c3, e3, k3, l3, w3⟩ := draw_entries k2 x2 6 (by omega)
  have e3' : s_l18DrawEntries c2 x2 6 = some (l, c3, ()) := e3
  simp only [e1, e2, e3', Option.bind_some]
  exact ⟨_, _, rfl, k3, a1, by show x1 ≤ 2; omega, l3, w3⟩
theorem draw_log {c : spec_l1Cur} (h : CurOK c) : ∃ l c', s_l18Draw c = some (l, c', ()) ∧ CurOK c' ∧ InI l.Base ∧ l.List.length ≤ 7 ∧ Lines100 l.List := by
  rw [s_l18Draw_eq]
  obtain ⟨l, c1, e1, k1, a1, b1, l1, w1⟩ := draw_right h
  obtain ⟨x, c2, e2, k2, _⟩ := below_ok k1 14
  simp only [e1, e2, Option.bind_some]
  have hB : InI l.Base := ⟨by omega, by omega⟩
  by_cases h0 : x = 0
  · rw [if_pos (decide_eq_true h0)]
    obtain ⟨y, c3, e3, k3, m3⟩ := pickInt_ok k2 [(-1), 299, 300, 301, (-9223372036854775808)] (by simp)
    rw [e3]; exact ⟨_, _, rfl, k3, pickInt_bd (by decide) m3, by show l.List.length ≤ 7; omega, w1⟩
  · rw [if_neg (by rw [decide_eq_true_eq]; exact h0)]
    by_cases h1 : x = 1
    · rw [if_pos (decide_eq_true h1)]
      obtain ⟨y, c3, e3, k3, _⟩ := pickInt_ok k2 [(-1), 2, 300, 301] (by simp)
      rw [e3]; exact ⟨_, _, rfl, k3, hB, by show l.List.length ≤ 7; omega, w1⟩
    · rw [if_neg (by rw [decide_eq_true_eq]; exact h1)]
      by_cases h2 : x = 2
      · rw [if_pos (decide_eq_true h2)]
        obtain ⟨y, c3, e3, k3, _⟩ := below_ok k2 5
        obtain ⟨q, c4, e4, k4, l4⟩ := draw_cmd k3
        obtain ⟨q2, c5, e5, k5, l5⟩ := spoil_ok k4 q l4
        simp only [e3, e4, e5, Option.bind_some]
        rw [if_pos (by rw [room_eq]; omega)]
        exact ⟨_, _, rfl, k5, hB, by show (l.List ++ [_]).length ≤ 7; rw [List.length_append]; simp only [List.length_cons, List.length_nil]; omega, w1.snoc l5⟩
      · rw [if_neg (by rw [decide_eq_true_eq]; exact h2)]
        exact ⟨_, _, rfl, k2, hB, by omega, w1⟩
theorem draw_at (b : List Int) (hb : b.length ≤ 1048576) : ∃ l i, s_l18DrawAt b = some (l, i, ()) ∧ InI l.Base ∧ l.List.length ≤ 7 ∧ Lines100 l.List ∧ InI i ∧ (i ≤ 9 ∨ 300 < i) := by
  rw [s_l18DrawAt_eq]
  obtain ⟨c, e1, k1⟩ := new_ok b hb
  obtain ⟨l, c2, e2, k2, h1, h2, h3⟩ := draw_log k1
  obtain ⟨y, c3, e3, k3, m3⟩ := pickInt_ok k2 [0, 1, 2, 3, 4, 5, 9, (-1), 9223372036854775807, (-9223372036854775808)] (by simp)
  simp only [e1, e2, e3, Option.bind_some]
  refine ⟨_, _, rfl, h1, h2, h3, pickInt_bd (by decide) m3, ?_⟩
  have hl : ([0, 1, 2, 3, 4, 5, 9, (-1), 9223372036854775807, (-9223372036854775808)].all fun t : Int => decide (t ≤ 9 ∨ 300 < t)) = true := by decide
  exact of_decide_eq_true (List.all_eq_true.1 hl y m3)
theorem draw_put (b : List Int) (hb : b.length ≤ 1048576) : ∃ l p t lst, s_DrawLogPut b = some (l, p, t, lst, ()) ∧ InI l.Base ∧ l.List.length ≤ 7 ∧ Lines100 l.List ∧ InI p ∧ lst.length ≤ 4 ∧ Lines100 lst := by
  rw [s_DrawLogPut_eq]
  obtain ⟨c, e1, k1⟩ := new_ok b hb
  obtain ⟨l, c2, e2, k2, h1, h2, h3⟩ := draw_log k1
  have tail : ∀ (p : Int) (z : impl_Log) (c : spec_l1Cur), CurOK c → InI p → ∃ l' p' t lst, s_DrawLogPut_L1 p z l c = some (l', p', t, lst, ()) ∧ InI l'.Base ∧ l'.List.length ≤ 7 ∧ Lines100 l'.List ∧ InI p' ∧ lst.length ≤ 4 ∧ Lines100 lst := by
    intro p z c hc hp
    rw [s_DrawLogPut_L1_eq]
    obtain ⟨y, y1, _⟩ := termAt_same l p (by omega) h1 hp
    obtain ⟨x, c3, e3, k3⟩ := once_ok hc 8
    simp only [y1, e3, Option.bind_some]
    cases x with
    | true =>
      obtain ⟨x4, c4, e4, k4, _⟩ := below_ok k3 4
      obtain ⟨m, hm⟩ := max_ok (w64 (x4 - 1)) 0
      obtain ⟨lst, c5, e5, k5, l5, w5⟩ := draw_entries k4 m 4 (by omega)
      have e5' : s_l18DrawEntries c4 m 4 = some (lst, c5, ()) := e5
      simp only [if_true, e4, hm, e5', Option.bind_some]
      exact ⟨_, _, _, _, rfl, h1, h2, h3, hp, l5, w5⟩
    | false =>
      obtain ⟨m, hm⟩ := max_ok y 0
      obtain ⟨lst, c5, e5, k5, l5, w5⟩ := draw_entries k3 m 4 (by omega)
      have e5' : s_l18DrawEntries c3 m 4 = some (lst, c5, ()) := e5
      simp only [Bool.false_eq_true, if_false, hm, e5', Option.bind_some]
      exact ⟨_, _, _, _, rfl, h1, h2, h3, hp, l5, w5⟩
  simp only [e1, e2, Option.bind_some]
  by_cases ha : (l.List.length : Int) > 0
  · rw [if_pos (decide_eq_true ha), if_pos (decide_eq_true (by omega))]
    obtain ⟨x, c3, e3, k3, _⟩ := below_ok k2 (w64 ((List.length l.List : Int) + 1))
    rw [e3, Option.bind_some]
    exact tail _ _ _ k3 (w64_bd _)
  · rw [if_neg (by rw [decide_eq_true_eq]; exact ha)]
    exact tail _ _ _ k2 h1
end Go.Proofs.Ytajahbpeiifcbaa.E.TL
