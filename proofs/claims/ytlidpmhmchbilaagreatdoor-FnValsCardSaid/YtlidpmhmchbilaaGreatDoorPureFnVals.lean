/- The pure statement of FnVals. No condition. -/
import Derived.Test.YtlidpmhmchbilaaGreatDoorPVVals
import Derived.Test.YtlidpmhmchbilaaGreatDoorPVDraw
import Derived.Test.YtlidpmhmchbilaaGreatDoorTVe1
import Derived.Test.YtlidpmhmchbilaaGreatDoorQFnVals
namespace Go.Proofs.YtlidpmhmchbilaaGreatDoor.E.TV
open Go.Proofs.YtlidpmhmchbilaaGreatDoor.E
set_option linter.unusedVariables false
theorem once_some {c : spec_l1Cur} (h : CurOK c) (n : Int) : ∃ x c', s_l1Once c n = some (x, c', ()) ∧ CurOK c' := by
  obtain ⟨x, c', e, k, _⟩ := below_ok h n
  rw [s_l1Once_eq, e]
  exact ⟨_, _, rfl, k⟩
theorem drawDec_ok {c : spec_l1Cur} (h : CurOK c) : ∃ x c', s_l1DrawDec c = some (x, c', ()) ∧ CurOK c' := by
  rw [s_l1DrawDec_eq]
  obtain ⟨x, c1, e1, k1, _⟩ := pickInt_ok h [0, 1000000, (-1000000), 1, (-1), 2500000, (-3333333), 7000000, 123456789, 9000000000000, (-9000000000000), 3000000000000, 1500] (by simp)
  rw [e1]
  exact ⟨_, _, rfl, k1⟩
theorem drawAny_ok {c : spec_l1Cur} (h : CurOK c) : ∃ x c', s_l1DrawAny c = some (x, c', ()) ∧ CurOK c' := by
  rw [s_l1DrawAny_eq]
  obtain ⟨o, c1, e1, k1⟩ := once_some h 6
  rw [e1, Option.bind_some]
  cases o with
  | true =>
    obtain ⟨x, c2, e2, k2, _⟩ := pickInt_ok k1 [9000000000001, (-9000000000001), 9223372036854775807, (-9223372036854775808)] (by simp)
    rw [if_pos rfl, e2]
    exact ⟨_, _, rfl, k2⟩
  | false =>
    obtain ⟨x, c2, e2, k2⟩ := drawDec_ok k1
    rw [if_neg (by simp), e2]
    exact ⟨_, _, rfl, k2⟩
theorem bt_of {l : List Int} (h : (l.all fun x => decide (0 ≤ x ∧ x ≤ 255)) = true) : Bt l := fun x hx => of_decide_eq_true (List.all_eq_true.1 h x hx)
theorem bt_app {a b : List Int} (ha : Bt a) (hb : Bt b) : Bt (a ++ b) := fun x hx => (List.mem_append.1 hx).elim (ha x) (hb x)
theorem pick_bd {ll : List (List Int)} {x : List Int} (hl : (ll.all fun l => decide (l.length ≤ 100) && l.all fun x => decide (0 ≤ x ∧ x ≤ 255)) = true) (h : x ∈ ll) : x.length ≤ 100 ∧ Bt x := by
  have := List.all_eq_true.1 hl x h
  rw [Bool.and_eq_true, decide_eq_true_eq] at this
  exact ⟨this.1, bt_of this.2⟩
theorem drawRight_ok {c : spec_l1Cur} (h : CurOK c) : ∃ v c', s_l6DrawRight c = some (v, c', ()) ∧ CurOK c' ∧ v.S.length ≤ 1000 ∧ Bt v.S := by
  rw [s_l6DrawRight_eq]
  obtain ⟨x, c1, e1, k1, _⟩ := below_ok h 4
  rw [e1, Option.bind_some]
  dsimp only
  split
  · exact ⟨_, _, rfl, k1, by simp, fun x hx => by cases hx⟩
  · split
    · obtain ⟨y, c2, e2, k2⟩ := drawDec_ok k1
      rw [e2]
      exact ⟨_, _, rfl, k2, by simp, fun x hx => by cases hx⟩
    · split
      · obtain ⟨y, c2, e2, k2, m2⟩ := pick_ok k1 [[], [97], [49, 48], [97, 98, 99], [50, 120], [45, 51]] (by simp)
        have := pick_bd (by decide) m2
        rw [e2]
        exact ⟨_, _, rfl, k2, by show y.length ≤ 1000; omega, this.2⟩
      · obtain ⟨y, c2, e2, k2, m2⟩ := pick_ok k1 [[49, 48], [32, 50, 46, 53, 48], [97, 98, 99], [45, 51], [], [48, 48, 55]] (by simp)
        have := pick_bd (by decide) m2
        obtain ⟨v, v1, _, _, v4, v5⟩ := read_spec y (by omega) this.2
        rw [e2, Option.bind_some]
        dsimp only
        rw [v1]
        exact ⟨_, _, rfl, k2, (show v.S.length ≤ 1000 by omega), v5⟩
theorem draw_ok {c : spec_l1Cur} (h : CurOK c) : ∃ v c', s_l6Draw c = some (v, c', ()) ∧ CurOK c' ∧ VDrawn v := by
  rw [s_l6Draw_eq]
  obtain ⟨v, c1, e1, k1, l1, b1⟩ := drawRight_ok h
  obtain ⟨x, c2, e2, k2, _⟩ := below_ok k1 12
  rw [e1, Option.bind_some]
  dsimp only
  rw [e2, Option.bind_some]
  dsimp only
  split
  · obtain ⟨y, c3, e3, k3, _⟩ := below_ok k2 6
    rw [e3]
    exact ⟨_, _, rfl, k3, (show v.S.length ≤ 100000 by omega), b1⟩
  · split
    · obtain ⟨y, c3, e3, k3⟩ := drawAny_ok k2
      rw [e3]
      exact ⟨_, _, rfl, k3, (show v.S.length ≤ 100000 by omega), b1⟩
    · split
      · rw [if_pos (by simp only [List.length_cons, List.length_nil]; omega)]
        refine ⟨_, _, rfl, k2, ?_, bt_app b1 (bt_of (by decide))⟩
        show (v.S ++ [57]).length ≤ 100000
        rw [List.length_append, List.length_singleton]; omega
      · exact ⟨_, _, rfl, k2, (show v.S.length ≤ 100000 by omega), b1⟩
theorem digI_bt (n : Nat) : Bt (digI n) := fun x hx => by have := (digI_spec n).1 x hx; omega
theorem decT_bt (n : Int) : Bt (decT n) := by
  unfold decT
  split
  · refine bt_app ?_ ?_
    · split
      · exact bt_of (by decide)
      · exact fun x hx => by cases hx
    · refine bt_app (digI_bt _) ?_
      unfold fracT
      split
      · intro x hx
        rcases List.mem_cons.1 hx with rfl | hx
        · omega
        · obtain ⟨k, e, _⟩ := trimR_back 48 _ ((digI (1000000 + n.natAbs % 1000000)).drop 1) rfl
          refine digI_bt (1000000 + n.natAbs % 1000000) x (List.mem_of_mem_drop (i := 1) ?_)
          rw [e]; exact List.mem_append_left _ hx
      · exact fun x hx => by cases hx
  · exact fun x hx => by cases hx
theorem drawText_ok {c : spec_l1Cur} (h : CurOK c) : ∃ l c', s_l2DrawText c = some (l, c', ()) ∧ CurOK c' ∧ l.length ≤ 1000 ∧ Bt l := by
  rw [s_l2DrawText_eq]
  obtain ⟨p, c1, e1, k1, m1⟩ := pick_ok h [[], [32, 32], [45], [43]] (by simp)
  have b1 := pick_bd (by decide) m1
  obtain ⟨n, c2, e2, k2⟩ := drawDec_ok k1
  have hd := decT_len n
  have hdb := decT_bt n
  obtain ⟨q, c3, e3, k3, m3⟩ := pick_ok k2 [[], [32], [120], [46], [48], [46, 53]] (by simp)
  have b3 := pick_bd (by decide) m3
  generalize hu : p ++ decT n = u
  have hul : u.length = p.length + (decT n).length := by rw [← hu, List.length_append]
  have hub : Bt u := by rw [← hu]; exact bt_app b1.2 hdb
  generalize hw : u ++ q = w
  have hwl : w.length = u.length + q.length := by rw [← hw, List.length_append]
  have hwb : Bt w := by rw [← hw]; exact bt_app hub b3.2
  have ew : w64 ((w.length : Int) + 1) = (w.length : Int) + 1 := w64_id (by omega) (by omega)
  obtain ⟨i, c4, e4, k4, i0, i1, _⟩ := below_ok k3 ((w.length : Int) + 1)
  have i1 := i1 (by omega)
  obtain ⟨j, c5, e5, k5, _⟩ := below_ok k4 7
  rw [e1, Option.bind_some]
  dsimp only
  rw [e2, Option.bind_some]
  dsimp only
  rw [s_DecText_ok, Option.bind_some]
  dsimp only
  rw [if_pos (by omega), e3, Option.bind_some]
  dsimp only
  rw [hu, if_pos (by omega), hw, ew, e4, Option.bind_some]
  dsimp only
  rw [e5, Option.bind_some]
  dsimp only
  have ht : (List.take (i.toNat - 0) (List.drop 0 w)).length ≤ w.length := by rw [List.length_take, List.drop_zero]; omega
  have htb : Bt (List.take (i.toNat - 0) (List.drop 0 w)) := fun x hx => hwb x (List.mem_of_mem_drop (List.mem_of_mem_take hx))
  have hr : (List.take (w.length - i.toNat) (List.drop i.toNat w)).length ≤ w.length := by rw [List.length_take, List.length_drop]; omega
  have hrb : Bt (List.take (w.length - i.toNat) (List.drop i.toNat w)) := fun x hx => hwb x (List.mem_of_mem_drop (List.mem_of_mem_take hx))
  split
  · obtain ⟨z, c6, e6, k6, m6⟩ := pick_ok k5 [[48], [45], [32], [46], [57], [48, 48]] (by simp)
    have b6 := pick_bd (by decide) m6
    rw [if_pos (by omega), e6, Option.bind_some]
    dsimp only
    rw [if_pos (by omega), if_pos (by omega), if_pos (by rw [List.length_append]; omega)]
    refine ⟨_, _, rfl, k6, ?_, bt_app (bt_app htb b6.2) hrb⟩
    rw [List.length_append, List.length_append]; omega
  · split
    · rw [if_pos (by omega)]
      exact ⟨_, _, rfl, k5, by omega, htb⟩
    · split
      · obtain ⟨z, c6, e6, k6, m6⟩ := pick_ok k5 [[], [97, 98, 99], [57, 48, 48, 48, 48, 48, 48], [57, 48, 48, 48, 48, 48, 48, 46, 48, 48, 48, 48, 48, 49], [57, 57, 57, 57, 57, 57, 57, 57, 57, 57, 57, 57, 57, 57, 57, 57, 57, 57, 57, 57, 57, 57, 57], [48, 46, 48, 48, 48, 48, 48, 48, 49], [46, 53], [49, 46], [45, 32, 49]] (by simp)
        have b6 := pick_bd (by decide) m6
        rw [e6]
        exact ⟨_, _, rfl, k6, by show z.length ≤ 1000; omega, b6.2⟩
      · exact ⟨_, _, rfl, k5, by omega, hwb⟩
theorem drawRead_L1 : ∀ (d : Nat) (t : List Int) (c : spec_l1Cur), CurOK c → t.length ≤ 2000 → 400 ≤ t.length + d → Bt t → ∃ l, s_DrawRead_L1 t c = some (l, ()) ∧ l.length ≤ 2000 ∧ Bt l
  | 0, t, c, h, hl, hd, hb => by
    rw [s_DrawRead_L1_eq]
    obtain ⟨x, c1, e1, k1, x0, x1, _⟩ := below_ok h 2
    have x1 := x1 (by omega)
    rw [e1, Option.bind_some]
    dsimp only
    rw [w64_id (by omega) (by omega), if_neg (by rw [decide_eq_true_eq]; omega)]
    exact ⟨_, rfl, hl, hb⟩
  | d + 1, t, c, h, hl, hd, hb => by
    rw [s_DrawRead_L1_eq]
    obtain ⟨x, c1, e1, k1, x0, x1, _⟩ := below_ok h 2
    have x1 := x1 (by omega)
    rw [e1, Option.bind_some]
    dsimp only
    rw [w64_id (by omega) (by omega)]
    by_cases hlt : (t.length : Int) < 300 + x
    · rw [if_pos (decide_eq_true hlt), if_pos (by simp only [List.length_singleton]; omega)]
      exact drawRead_L1 d (t ++ [49]) c1 k1 (by rw [List.length_append, List.length_singleton]; omega) (by rw [List.length_append, List.length_singleton]; omega) (bt_app hb (bt_of (by decide)))
    · rw [if_neg (by rw [decide_eq_true_eq]; exact hlt)]
      exact ⟨_, rfl, hl, hb⟩
theorem drawRead_ok (t : List Int) (h : t.length ≤ 1048576) : ∃ l, s_DrawRead t = some (l, ()) ∧ l.length ≤ 2000 ∧ Bt l := by
  rw [s_DrawRead_eq]
  obtain ⟨c, e0, k0⟩ := new_ok t h
  obtain ⟨l, c1, e1, k1, l1, b1⟩ := drawText_ok k0
  obtain ⟨o, c2, e2, k2⟩ := once_some k1 30
  rw [e0, Option.bind_some]
  dsimp only
  rw [e1, Option.bind_some]
  dsimp only
  rw [e2, Option.bind_some]
  dsimp only
  cases o with
  | true => rw [if_pos rfl]; exact drawRead_L1 400 l c2 k2 (by omega) (by omega) b1
  | false => rw [if_neg (by decide)]; exact ⟨_, rfl, by omega, b1⟩
theorem drawVal_ok (t : List Int) (h : t.length ≤ 1048576) : ∃ v, VDrawn v ∧ s_DrawValOk t = some (v, ()) ∧ s_DrawToNum t = some (v, ()) ∧ s_DrawToText t = some (v, ()) ∧ s_DrawTruth t = some (v, ()) := by
  obtain ⟨c, e0, k0⟩ := new_ok t h
  obtain ⟨v, c1, e1, k1, hv⟩ := draw_ok k0
  refine ⟨v, hv, ?_, ?_, ?_, ?_⟩
  · rw [s_DrawValOk_eq, e0, Option.bind_some]; dsimp only; rw [e1]; rfl
  · rw [s_DrawToNum_eq, e0, Option.bind_some]; dsimp only; rw [e1]; rfl
  · rw [s_DrawToText_eq, e0, Option.bind_some]; dsimp only; rw [e1]; rfl
  · rw [s_DrawTruth_eq, e0, Option.bind_some]; dsimp only; rw [e1]; rfl
theorem drawCompare_ok (t : List Int) (h : t.length ≤ 1048576) : ∃ a b, VDrawn a ∧ VDrawn b ∧ s_DrawCompare t = some (a, b, ()) := by
  rw [s_DrawCompare_eq]
  obtain ⟨c, e0, k0⟩ := new_ok t h
  obtain ⟨v, c1, e1, k1, hv⟩ := draw_ok k0
  obtain ⟨o, c2, e2, k2⟩ := once_some k1 4
  obtain ⟨u, c3, e3, k3, hu⟩ := draw_ok k2
  rw [e0, Option.bind_some]
  dsimp only
  rw [e1, Option.bind_some]
  dsimp only
  rw [e2, Option.bind_some]
  dsimp only
  cases o with
  | true => rw [if_pos rfl]; exact ⟨_, _, hv, hv, rfl⟩
  | false => rw [if_neg (by decide), e3]; exact ⟨_, _, hv, hu, rfl⟩
theorem drawDecText_ok (t : List Int) (h : t.length ≤ 1048576) : ∃ x, s_DrawDecText t = some (x, ()) := by
  rw [s_DrawDecText_eq]
  obtain ⟨c, e0, k0⟩ := new_ok t h
  obtain ⟨x, c1, e1, k1⟩ := drawAny_ok k0
  rw [e0, Option.bind_some]
  dsimp only
  rw [e1]
  exact ⟨_, rfl⟩
theorem pureFnVals : PureFnVals := by
  intro t ht
  rw [l_FnVals_eq, big_ok, Option.bind_some]
  by_cases h : (t.length : Int) > 1048576
  · rw [if_pos (decide_eq_true h)]
  · rw [if_neg (by rw [decide_eq_true_eq]; exact h)]
    have hb : t.length ≤ 1048576 := by omega
    obtain ⟨a, b, ha, hb', e1⟩ := drawCompare_ok t hb
    obtain ⟨c, c1, c2, c3, c4, c5⟩ := compare_same ha hb'
    obtain ⟨v, hv, v1, v2, v3, v4⟩ := drawVal_ok t hb
    obtain ⟨n, n1, n2⟩ := toNum_same hv
    obtain ⟨q, q1, q2⟩ := truth_same v
    obtain ⟨o, o1, o2⟩ := valOk_same hv
    obtain ⟨s, s1, s2, s3⟩ := drawRead_ok t hb
    obtain ⟨r, r1, r2, r3, _⟩ := read_spec s (by omega) s3
    obtain ⟨x, x1⟩ := drawDecText_ok t hb
    have c6 : w64 (0 - c) = 0 - c := w64_id (by omega) (by omega)
    simp only [e1, c1, c2, v1, v2, v3, v4, n1, n2, q1, q2, o1, o2, s1, r1, r2, r3, x1, i_ToText_ok, s_ToText_ok, compare_self ha, c3, c6, Option.bind_some, decide_true, Bool.not_true, Bool.false_eq_true, if_false, Bool.and_self, i_DecOk_ok]
    by_cases hx : -9000000000000 ≤ x ∧ x ≤ 9000000000000
    · obtain ⟨w, w1, w2⟩ := back_ok x hx
      rw [decide_eq_true hx, if_neg (by decide), i_DecText_ok, Option.bind_some]
      dsimp only
      rw [w1, Option.bind_some]
      dsimp only
      rw [w2, Option.bind_some]
      simp
    · rw [decide_eq_false hx, if_pos (by decide)]
end Go.Proofs.YtlidpmhmchbilaaGreatDoor.E.TV
