/- Sinks: what is offered is put behind. No condition but the lengths. -/
import Derived.Test.YtfafpanihhikoaaPSDraw
import Derived.Test.YtfafpanihhikoaaPSImplIn
import Derived.Test.YtfafpanihhikoaaPSSpecIn
import Derived.Test.YtfafpanihhikoaaTSe1
namespace Go.Proofs.Ytfafpanihhikoaa.E.TS
open Go.Proofs.Ytfafpanihhikoaa.E
set_option linter.unusedVariables false
def sinkOk (s : impl_Sink) : Bool := decide (0 ≤ s.Epoch ∧ s.Epoch ≤ 300) && decide (s.Text.length ≤ 1500)
theorem i_SinkOk_ok (s : impl_Sink) : i_SinkOk s = some (sinkOk s, ()) := by
  rw [i_SinkOk_eq, i_isIndex_eq, i_in_ok]
  simp only [Option.bind_some]
  unfold sinkOk
  by_cases h : 0 ≤ s.Epoch ∧ s.Epoch ≤ 300
  · rw [if_pos (decide_eq_true h), decide_eq_true h, Bool.true_and]
    congr 3
    exact propext ⟨fun h => by omega, fun h => by omega⟩
  · rw [if_neg (by rw [decide_eq_true_eq]; exact h), decide_eq_false h, Bool.false_and]
theorem s_SinkOk_ok (s : impl_Sink) : s_SinkOk s = some (sinkOk s, ()) := by
  rw [s_SinkOk_eq, s_l1In_ok]
  simp only [Option.bind_some]
  unfold sinkOk
  by_cases h : 0 ≤ s.Epoch ∧ s.Epoch ≤ 300
  · rw [if_pos (decide_eq_true h), decide_eq_true h, Bool.true_and]
    congr 3
    exact propext ⟨fun h => by omega, fun h => by omega⟩
  · rw [if_neg (by rw [decide_eq_true_eq]; exact h), decide_eq_false h, Bool.false_and]
def offered (s : impl_Sink) (e a : Int) (t : List Int) : impl_Sink := impl_Sink.mk e (s.Text ++ t.drop (s.Text.length - a.toNat))
def mayOffer (s : impl_Sink) (e a : Int) (t : List Int) : Bool :=
  sinkOk s && decide (s.Epoch ≤ e ∧ e ≤ 300) && decide (0 ≤ a ∧ a ≤ s.Text.length) && sinkOk (offered s e a t)
def offer (s : impl_Sink) (e a : Int) (t : List Int) : Option (impl_Sink × Bool × Unit) :=
  if mayOffer s e a t = true then some (offered s e a t, true, ()) else some (s, false, ())
theorem offer_end (L : impl_Sink → impl_Sink → impl_Sink → Option (impl_Sink × Bool × Unit)) (hL : ∀ a b c, L a b c = if (!sinkOk c) = true then some (a, false, ()) else some (c, true, ()))
    {s : impl_Sink} {e a : Int} {t : List Int} {z : impl_Sink} (h1 : sinkOk s = true) (h2 : s.Epoch ≤ e ∧ e ≤ 300) (h3 : 0 ≤ a ∧ a ≤ s.Text.length) {o : impl_Sink} (ho : o = offered s e a t) : L s z o = offer s e a t := by
  rw [hL, ho]
  unfold offer mayOffer
  rw [h1, decide_eq_true h2, decide_eq_true h3]
  cases sinkOk (offered s e a t) <;> rfl
theorem sinkText {s : impl_Sink} (h : sinkOk s = true) : s.Text.length ≤ 1500 := by
  unfold sinkOk at h
  rw [Bool.and_eq_true, decide_eq_true_eq, decide_eq_true_eq] at h
  exact h.2
theorem i_Offer_ok (s : impl_Sink) (e a : Int) (t : List Int) (ht : t.length ≤ 1000000) : i_Offer s e a t = offer s e a t := by
  rw [i_Offer_eq, i_SinkOk_ok]
  simp only [Option.bind_some]
  cases h1 : sinkOk s with
  | false => unfold offer mayOffer; rw [h1]; rfl
  | true =>
    have hl := sinkText h1
    simp only [i_in_ok, Option.bind_some]
    rw [if_neg (by simp)]
    by_cases h2 : s.Epoch ≤ e ∧ e ≤ 300
    · rw [decide_eq_true h2, if_neg (by simp)]
      by_cases h3 : 0 ≤ a ∧ a ≤ (s.Text.length : Int)
      · rw [decide_eq_true h3, if_neg (by simp), w64_id (n := a + (t.length : Int)) (by omega) (by omega), w64_id (n := (s.Text.length : Int) - a) (by omega) (by omega)]
        have hL := fun (x y z : impl_Sink) => (i_Offer_L1_eq x y z).trans (by rw [i_SinkOk_ok, Option.bind_some])
        have hn : ((s.Text.length : Int) - a).toNat = s.Text.length - a.toNat := by omega
        by_cases h4 : a + (t.length : Int) > (s.Text.length : Int)
        · rw [if_pos (decide_eq_true h4), if_pos (by omega), if_pos (by simp only [List.length_take, List.length_drop]; omega)]
          refine offer_end _ hL h1 h2 h3 ?_
          unfold offered
          rw [hn, ← List.length_drop, List.take_length]
        · rw [if_neg (by rw [decide_eq_true_eq]; exact h4)]
          refine offer_end _ hL h1 h2 h3 ?_
          unfold offered
          rw [List.drop_eq_nil_of_le (by omega), List.append_nil]
      · rw [decide_eq_false h3, if_pos (show (!false) = true from rfl)]
        unfold offer mayOffer; rw [decide_eq_false h3]; simp
    · rw [decide_eq_false h2, if_pos (show (!false) = true from rfl)]
      unfold offer mayOffer; rw [decide_eq_false h2]; simp
theorem s_Offer_ok (s : impl_Sink) (e a : Int) (t : List Int) (ht : t.length ≤ 1000000) : s_Offer s e a t = offer s e a t := by
  rw [s_Offer_eq, s_SinkOk_ok]
  simp only [Option.bind_some]
  cases h1 : sinkOk s with
  | false => unfold offer mayOffer; rw [h1]; rfl
  | true =>
    have hl := sinkText h1
    simp only [s_l1In_ok, Option.bind_some]
    rw [if_neg (by simp)]
    by_cases h2 : s.Epoch ≤ e ∧ e ≤ 300
    · rw [decide_eq_true h2, if_neg (by simp)]
      by_cases h3 : 0 ≤ a ∧ a ≤ (s.Text.length : Int)
      · rw [decide_eq_true h3, if_neg (by simp), w64_id (n := (s.Text.length : Int) - a) (by omega) (by omega)]
        have hL := fun (x y z : impl_Sink) => (s_Offer_L1_eq x y z).trans (by rw [s_SinkOk_ok, Option.bind_some])
        have hn : ((s.Text.length : Int) - a).toNat = s.Text.length - a.toNat := by omega
        by_cases h4 : (t.length : Int) > (s.Text.length : Int) - a
        · rw [if_pos (decide_eq_true h4), if_pos (by omega), if_pos (by simp only [List.length_take, List.length_drop]; omega)]
          refine offer_end _ hL h1 h2 h3 ?_
          unfold offered
          rw [hn, ← List.length_drop, List.take_length]
        · rw [if_neg (by rw [decide_eq_true_eq]; exact h4)]
          refine offer_end _ hL h1 h2 h3 ?_
          unfold offered
          rw [List.drop_eq_nil_of_le (by omega), List.append_nil]
      · rw [decide_eq_false h3, if_pos (show (!false) = true from rfl)]
        unfold offer mayOffer; rw [decide_eq_false h3]; simp
    · rw [decide_eq_false h2, if_pos (show (!false) = true from rfl)]
      unfold offer mayOffer; rw [decide_eq_false h2]; simp
/-- Offered again nothing turns. -/
theorem offer_again {s : impl_Sink} {e a : Int} {t : List Int} (h : mayOffer s e a t = true) : offer (offered s e a t) e a t = some (offered s e a t, true, ()) := by
  unfold mayOffer at h
  simp only [Bool.and_eq_true, decide_eq_true_eq] at h
  obtain ⟨⟨⟨h1, h2⟩, h3⟩, h4⟩ := h
  have e1 : offered (offered s e a t) e a t = offered s e a t := by
    unfold offered
    congr 1
    have : t.drop ((s.Text ++ t.drop (s.Text.length - a.toNat)).length - a.toNat) = [] := List.drop_eq_nil_of_le (by rw [List.length_append, List.length_drop]; omega)
    rw [this, List.append_nil]
  have h5 : mayOffer (offered s e a t) e a t = true := by
    unfold mayOffer
    rw [e1, h4, decide_eq_true (show (offered s e a t).Epoch ≤ e ∧ e ≤ 300 from ⟨Int.le_refl _, h2.2⟩), decide_eq_true (show 0 ≤ a ∧ a ≤ ((offered s e a t).Text.length : Int) from ⟨h3.1, by
      show a ≤ ((s.Text ++ t.drop (s.Text.length - a.toNat)).length : Int)
      rw [List.length_append]; omega⟩)]
    rfl
  unfold offer
  rw [if_pos h5, e1]
theorem draw_sink {c : spec_l1Cur} (h : CurOK c) : ∃ s c', s_l25Draw c = some (s, c', ()) ∧ CurOK c' ∧ s.Text.length ≤ 1502 := by
  rw [s_l25Draw_eq]
  obtain ⟨x1, c1, e1, k1, a1, b1⟩ := below_ok h 4
  obtain ⟨x2, c2, e2, k2, m2⟩ := pick_ok k1 [[], [97, 98, 99], [49, 10, 50, 10]] (by simp)
  obtain ⟨x3, c3, e3, k3, a3, b3⟩ := below_ok k2 12
  have l2 : x2.length ≤ 4 := by
    simp only [List.mem_cons, List.not_mem_nil, or_false] at m2
    rcases m2 with rfl | rfl | rfl <;> decide
  simp only [e1, e2, e3, Option.bind_some]
  by_cases h0 : x3 = 0
  · rw [if_pos (decide_eq_true h0)]
    obtain ⟨x4, c4, e4, k4, m4⟩ := pickInt_ok k3 [(-1), 300, 301] (by simp)
    simp only [e4, Option.bind_some]
    exact ⟨_, _, rfl, k4, by show x2.length ≤ 1502; omega⟩
  · rw [if_neg (by rw [decide_eq_true_eq]; exact h0)]
    by_cases h1 : x3 = 1
    · rw [if_pos (decide_eq_true h1)]
      have key : ∀ (d : Nat) (c : spec_l1Cur) (z s : impl_Sink), CurOK c → s.Text.length ≤ 1502 → s.Text.length + d = 1502 → ∃ s' c', s_l25Draw_L1 c z s = some (s', c', ()) ∧ CurOK c' ∧ s'.Text.length ≤ 1502 := by
        intro d
        induction d with
        | zero =>
          intro c z s hc hs hd
          rw [s_l25Draw_L1_eq]
          obtain ⟨x, c', e, k, a, b, _⟩ := below_ok hc 2
          have b := b (by omega)
          simp only [e, Option.bind_some]
          rw [w64_id (by omega) (by omega), if_neg (by rw [decide_eq_true_eq]; omega)]
          exact ⟨_, _, rfl, k, hs⟩
        | succ d ih =>
          intro c z s hc hs hd
          rw [s_l25Draw_L1_eq]
          obtain ⟨x, c', e, k, a, b, _⟩ := below_ok hc 2
          have b := b (by omega)
          simp only [e, Option.bind_some]
          rw [w64_id (by omega) (by omega)]
          by_cases hx : (s.Text.length : Int) < 1500 + x
          · rw [if_pos (decide_eq_true hx), if_pos (by simp only [List.length_cons, List.length_nil]; omega)]
            exact ih c' z _ k (by show (s.Text ++ [120]).length ≤ 1502; rw [List.length_append]; simp only [List.length_cons, List.length_nil]; omega) (by show (s.Text ++ [120]).length + d = 1502; rw [List.length_append]; simp only [List.length_cons, List.length_nil]; omega)
          · rw [if_neg (by rw [decide_eq_true_eq]; exact hx)]
            exact ⟨_, _, rfl, k, hs⟩
      exact key (1502 - x2.length) c3 _ _ k3 (by show x2.length ≤ 1502; omega) (by show x2.length + (1502 - x2.length) = 1502; omega)
    · rw [if_neg (by rw [decide_eq_true_eq]; exact h1)]
      exact ⟨_, _, rfl, k3, by show x2.length ≤ 1502; omega⟩
end Go.Proofs.Ytfafpanihhikoaa.E.TS
