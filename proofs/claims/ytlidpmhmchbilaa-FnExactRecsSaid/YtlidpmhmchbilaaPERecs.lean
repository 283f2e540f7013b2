/- Recs of the program and of the reference tell the same; marks on records in a row. No condition. -/
import Derived.Test.YtlidpmhmchbilaaPERecOf
import Derived.Test.YtlidpmhmchbilaaPEMarkEntry
import Derived.Test.YtlidpmhmchbilaaPEEqRec
import Derived.Test.YtlidpmhmchbilaaTEe1
namespace Go.Proofs.Ytlidpmhmchbilaa.E.TE
open Go.Proofs.Ytlidpmhmchbilaa.E
set_option linter.unusedVariables false
def Short (l : List impl_Rec) : Prop := ∀ r ∈ l, r.List.length ≤ 40
theorem recs_same (b : List Int) (hb : b.length ≤ 1048576) (hw : Bytes b) : ∃ l q, s_Recs b = some (l, q, ()) ∧ i_Recs b = some (l, q, ()) ∧ l.length ≤ 1048576 ∧ Short l := by
  rw [s_Recs_eq, i_Recs_eq]
  have key : ∀ (d : Nat) (p : Int) (acc : List impl_Rec), 0 ≤ p → p ≤ (b.length : Int) → (b.length : Int) - p ≤ d → (acc.length : Int) ≤ p → Short acc →
      ∃ l q, s_Recs_L1 b acc p = some (l, q, ()) ∧ i_Recs_L1 b acc p = some (l, q, ()) ∧ l.length ≤ 1048576 ∧ Short l := by
    intro d
    induction d with
    | zero =>
      intro p acc h0 h1 hd ha hs
      obtain ⟨r, q, ok, e1, e2, e3, e4⟩ := recOf_same b hb hw p (by omega)
      rw [s_Recs_L1_eq, i_Recs_L1_eq, if_neg (by rw [decide_eq_true_eq]; omega), e2, Option.bind_some]
      cases ok with
      | false => exact ⟨acc, p, rfl, rfl, by omega, hs⟩
      | true => have := e4 rfl; omega
    | succ d ih =>
      intro p acc h0 h1 hd ha hs
      obtain ⟨r, q, ok, e1, e2, e3, e4⟩ := recOf_same b hb hw p (by omega)
      rw [s_Recs_L1_eq, i_Recs_L1_eq, e1, e2]
      simp only [Option.bind_some]
      cases ok with
      | false =>
        refine ⟨acc, p, ?_, rfl, by omega, hs⟩
        by_cases h : p < (b.length : Int)
        · rw [if_pos (decide_eq_true h)]; rfl
        · rw [if_neg (by rw [decide_eq_true_eq]; exact h)]
      | true =>
        obtain ⟨k1, k2, k3, k4⟩ := e4 rfl
        have hr : acc.length + 1 ≤ room := by rw [room_eq]; omega
        rw [if_pos (decide_eq_true (by omega))]
        simp only [Bool.not_true, Bool.false_eq_true, if_false, if_pos hr]
        refine ih q _ (by omega) k3 (by omega) ?_ fun x hx => ?_
        · show ((acc ++ [r]).length : Int) ≤ q
          rw [List.length_append]; simp only [List.length_cons, List.length_nil]; omega
        · rcases List.mem_append.1 hx with hx | hx
          · exact hs x hx
          · rw [List.mem_singleton.1 hx]; exact k4
  exact key b.length 0 [] (by omega) (by omega) (by omega) (by simp) fun x hx => by cases hx
theorem eqRecS_ok (l : List impl_Rec) (hl : l.length ≤ 4294967296) (hs : Short l) : l_eqRecS l l = some (true, ()) := by
  rw [l_eqRecS_eq, if_neg (by simp)]
  exact all_loop (fun i => l_eqRecS_L1 l l i) l _ (fun i h => by
    show l_eqRecS_L1 l l i = _
    rw [l_eqRecS_L1_eq, if_pos (decide_eq_true (by omega)), if_pos (by omega), if_pos (by omega), getD_nat h, eqRec_ok _ (by have := hs l[i] (List.getElem_mem h); omega), Option.bind_some, if_neg (by simp), w64_succ h (by omega)]) (by
    show l_eqRecS_L1 l l _ = _
    rw [l_eqRecS_L1_eq, if_neg (by simp)])
theorem markRecS_ok (l : List impl_Rec) (hl : l.length ≤ 1048576) (hs : Short l) : ∃ k l', l_markRecS l 1 = some (k, l', ()) ∧ l_heldRecS l' 1 = some (k, ()) ∧ 0 ≤ k := by
  rw [l_markRecS_eq]
  have key : ∀ (d i : Nat) (a : List impl_Rec) (k : Int), i + d = a.length → a.length ≤ 1048576 → Short a → 0 ≤ k → k + 200 * d ≤ 1000000000 →
      ∃ k' a', l_markRecS_L1 a k (i : Int) = some (k', a', ()) ∧ 0 ≤ k' ∧ a'.length = a.length ∧ (∀ j, j < i → a'[j]? = a[j]?) ∧
        ∀ c : List impl_Rec, c.length = a.length → (∀ j, i ≤ j → c[j]? = a'[j]?) → l_heldRecS_L1 c k (i : Int) = some (k', ()) := by
    intro d
    induction d with
    | zero =>
      intro i a k hd hl hs hk hb
      refine ⟨k, a, ?_, hk, rfl, fun _ _ => rfl, fun c hc _ => ?_⟩
      · rw [l_markRecS_L1_eq, if_neg (by rw [decide_eq_true_eq]; omega)]
      · rw [l_heldRecS_L1_eq, if_neg (by rw [decide_eq_true_eq]; omega)]
    | succ d ih =>
      intro i a k hd hl hs hk hb
      have hi : i < a.length := by omega
      have c0 : (0 : Int) ≤ (i : Int) ∧ (i : Int) < (a.length : Int) := by omega
      have hsi := hs a[i] (List.getElem_mem hi)
      obtain ⟨l1, m1, m2, m3⟩ := markEntryS_ok a[i].List (k + 1 + 1 + 1 + 1) (by omega) (by omega) (by omega)
      have step : l_markRecS_L1 a k (i : Int) = l_markRecS_L1 (a.set i ⟨k, k + 1, k + 1 + 1, k + 1 + 1 + 1, l1, mText (k + 1 + 1 + 1 + 1 + 4 * a[i].List.length)⟩) (k + 1 + 1 + 1 + 1 + 4 * a[i].List.length + 1) ((i + 1 : Nat) : Int) := by
        rw [l_markRecS_L1_eq, if_pos (decide_eq_true c0.2), if_pos c0, w64_id (n := k + 1) (by omega) (by omega), w64_id (n := k + 1 + 1) (by omega) (by omega), w64_id (n := k + 1 + 1 + 1) (by omega) (by omega), w64_id (n := k + 1 + 1 + 1 + 1) (by omega) (by omega), w64_succ hi (by omega)]
        simp only [List.length_set, if_pos c0, Int.toNat_natCast, getD_set, hi, List.set_set]
        rw [getD_lt hi, m1, Option.bind_some, markText_eq _ (by omega), Option.bind_some, w64_id (by omega) (by omega)]
      have hs' : Short (a.set i ⟨k, k + 1, k + 1 + 1, k + 1 + 1 + 1, l1, mText (k + 1 + 1 + 1 + 1 + 4 * a[i].List.length)⟩) := by
        intro x hx
        rcases List.mem_or_eq_of_mem_set hx with hx | rfl
        · exact hs x hx
        · show l1.length ≤ 40
          omega
      obtain ⟨k', a', e1, e2, e3, e4, e5⟩ := ih (i + 1) (a.set i ⟨k, k + 1, k + 1 + 1, k + 1 + 1 + 1, l1, mText (k + 1 + 1 + 1 + 1 + 4 * a[i].List.length)⟩) (k + 1 + 1 + 1 + 1 + 4 * a[i].List.length + 1) (by rw [List.length_set]; omega) (by rw [List.length_set]; omega) hs' (by omega) (by omega)
      rw [List.length_set] at e3 e5
      refine ⟨k', a', step.trans e1, e2, e3, fun j hj => ?_, fun c hc hcj => ?_⟩
      · rw [e4 j (by omega), List.getElem?_set_ne (by omega)]
      · have hic : i < c.length := by omega
        have hc0 : c[i]? = some ⟨k, k + 1, k + 1 + 1, k + 1 + 1 + 1, l1, mText (k + 1 + 1 + 1 + 1 + 4 * a[i].List.length)⟩ := by
          rw [hcj i (Nat.le_refl i), e4 i (by omega), List.getElem?_set_self hi]
        have hc1 : c[i] = ⟨k, k + 1, k + 1 + 1, k + 1 + 1 + 1, l1, mText (k + 1 + 1 + 1 + 1 + 4 * a[i].List.length)⟩ := by
          rw [List.getElem?_eq_getElem hic] at hc0; exact Option.some.inj hc0
        have c2 : (0 : Int) ≤ (i : Int) ∧ (i : Int) < (c.length : Int) := by omega
        rw [l_heldRecS_L1_eq, if_pos (decide_eq_true c2.2), w64_id (n := k + 1) (by omega) (by omega), w64_id (n := k + 1 + 1) (by omega) (by omega), w64_id (n := k + 1 + 1 + 1) (by omega) (by omega), w64_id (n := k + 1 + 1 + 1 + 1) (by omega) (by omega), w64_succ hi (by omega), getD_nat hic, hc1]
        simp only [if_pos c2, m2, Option.bind_some, decide_true, Bool.not_true, Bool.false_eq_true, if_false]
        rw [if_neg (by rw [decide_eq_true_eq]; omega), markText_eq _ (by omega), Option.bind_some, w64_id (by omega) (by omega)]
        simp only [decide_true, Bool.not_true, Bool.false_eq_true, if_false]
        exact e5 c hc fun j hj => hcj j (by omega)
  obtain ⟨k', a', e1, e2, e3, _, e5⟩ := key l.length 0 l 1 (by omega) hl hs (by omega) (by omega)
  exact ⟨k', a', e1, by rw [l_heldRecS_eq]; exact e5 a' e3 fun _ _ => rfl, e2⟩
end Go.Proofs.Ytlidpmhmchbilaa.E.TE
