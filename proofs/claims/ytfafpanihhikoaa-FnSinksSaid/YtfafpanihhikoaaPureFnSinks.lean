/- The pure statement of FnSinks. No condition. -/
import Derived.Test.YtfafpanihhikoaaPSSink
import Derived.Test.YtfafpanihhikoaaTSe1
import Derived.Test.YtfafpanihhikoaaQFnSinks
namespace Go.Proofs.Ytfafpanihhikoaa.E.TS
open Go.Proofs.Ytfafpanihhikoaa.E
set_option linter.unusedVariables false
theorem pureFnSinks : PureFnSinks := by
  intro b hb
  rw [l_FnSinks_eq, big_ok, Option.bind_some]
  by_cases h : (b.length : Int) > 1048576
  · rw [if_pos (decide_eq_true h)]
  · rw [if_neg (by rw [decide_eq_true_eq]; exact h)]
    obtain ⟨c, e1, k1⟩ := new_ok b (by omega)
    obtain ⟨s, c1, e2, k2, l2⟩ := draw_sink k1
    obtain ⟨x3, c3, e3, k3, m3⟩ := pickInt_ok k2 [0, 1, 2, 3, 300, 301, (-1)] (by simp)
    obtain ⟨x4, c4, e4, k4, m4⟩ := pickInt_ok k3 [0, 0, 1, 2, (List.length s.Text : Int), (w64 ((List.length s.Text : Int) + 1)), (-1)] (by simp)
    obtain ⟨t, c5, e5, k5, m5⟩ := pick_ok k4 [[], [97, 98, 99, 100], [98, 99, 49], [49, 10, 50, 10, 51, 10]] (by simp)
    have l5 : t.length ≤ 1000000 := by
      simp only [List.mem_cons, List.not_mem_nil, or_false] at m5
      rcases m5 with rfl | rfl | rfl | rfl <;> decide
    have d1 : s_DrawOffer b = some (s, x3, x4, t, ()) := by
      rw [s_DrawOffer_eq]
      simp only [e1, e2, e3, e4, e5, Option.bind_some]
    have d2 : s_DrawSinkOk b = some (s, ()) := by
      rw [s_DrawSinkOk_eq]
      simp only [e1, e2, Option.bind_some]
    simp only [d1, d2, Option.bind_some, i_Offer_ok _ _ _ _ l5, s_Offer_ok _ _ _ _ l5]
    cases hm : mayOffer s x3 x4 t with
    | false =>
      have ho : offer s x3 x4 t = some (s, false, ()) := by unfold offer; rw [hm]; rfl
      simp only [ho, Option.bind_some, i_SinkOk_ok, s_SinkOk_ok]
      simp
    | true =>
      have ho : offer s x3 x4 t = some (offered s x3 x4 t, true, ()) := by unfold offer; rw [hm]; rfl
      have hm' := hm
      unfold mayOffer at hm'
      simp only [Bool.and_eq_true, decide_eq_true_eq] at hm'
      obtain ⟨⟨⟨h1, h2⟩, h3⟩, h4⟩ := hm'
      have g1 : (offered s x3 x4 t).Text = s.Text ++ t.drop (s.Text.length - x4.toNat) := rfl
      have g2 : (offered s x3 x4 t).Epoch = x3 := rfl
      simp only [ho, Option.bind_some, i_SinkOk_ok, s_SinkOk_ok, offer_again hm, h4, g2]
      have g3 : s.Text.length ≤ (offered s x3 x4 t).Text.length := by rw [g1, List.length_append]; omega
      rw [if_neg (by simp), if_neg (by simp), if_neg (by simp), if_neg (by simp), if_pos (by rw [decide_eq_true_eq]; omega), if_pos (by simp), if_pos (by rw [decide_eq_true_eq]; omega), if_pos (by omega)]
      rw [if_pos (by rw [decide_eq_true_eq, g1]; simp)]
      simp
end Go.Proofs.Ytfafpanihhikoaa.E.TS
