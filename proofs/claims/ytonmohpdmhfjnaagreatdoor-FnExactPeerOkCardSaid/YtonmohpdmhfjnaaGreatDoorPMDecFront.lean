/- DecFront, DecLooks, Read of the program and of the reference tell the same. No condition but that texts hold bytes and are short. -/
import Derived.Test.YtonmohpdmhfjnaaGreatDoorPMDec
import Derived.Test.YtonmohpdmhfjnaaGreatDoorTMe1
import Derived.Test.YtonmohpdmhfjnaaGreatDoorTMe2
namespace Go.Proofs.YtonmohpdmhfjnaaGreatDoor.E.TM
open Go.Proofs.YtonmohpdmhfjnaaGreatDoor.E
set_option linter.unusedVariables false
def Bt (b : List Int) : Prop := ∀ x ∈ b, 0 ≤ x ∧ x ≤ 255
theorem l2Digit_ok (x : Int) : s_l2Digit x = some (isD x, ()) := by
  rw [s_l2Digit_eq]
  unfold isD
  by_cases h : x ≥ 48
  · rw [if_pos (decide_eq_true h), show decide (48 ≤ x) = true from decide_eq_true h, Bool.true_and]
  · rw [if_neg (by rw [decide_eq_true_eq]; exact h), show decide (48 ≤ x) = false from decide_eq_false h, Bool.false_and]
def fin (p : Int) (b : Bool) (n m : Int) : Option (Int × Int × Unit) := if m = 0 then some (0, 0, ()) else if n > 9000000000000 then some (0, 0, ()) else some (if b = true then 0 - n else n, p, ())
theorem L5_ok (p : Int) (b : Bool) (n m : Int) (h0 : 0 ≤ n) : s_DecFront_L5 p b n m = fin p b n m := by
  rw [s_DecFront_L5_eq]
  unfold fin
  by_cases h1 : m = 0
  · rw [if_pos (decide_eq_true h1), if_pos h1]
  · rw [if_neg (by rw [decide_eq_true_eq]; exact h1), if_neg h1]
    by_cases h2 : n > 9000000000000
    · rw [if_pos (decide_eq_true h2), if_pos h2]
    · rw [if_neg (by rw [decide_eq_true_eq]; exact h2), if_neg h2, w64_id (by omega) (by omega)]
      cases b <;> rfl
theorem L4_ok (s : List Int) (hs : s.length ≤ 1000000) (b : Bool) : ∀ (d i : Nat) (n m u : Int), i + d = s.length → 0 ≤ n → 0 ≤ u → u ≤ 100000 → n ≤ 200000000000000 + 1000000 * i → 0 ≤ m → m ≤ 2000000 + i →
    ∃ n', s_DecFront_L4 s (i : Int) b n m u = s_DecFront_L5 ((i + (digs (s.drop i)).length : Nat) : Int) b n' (m + (digs (s.drop i)).length) ∧ n' = n + fr (digs (s.drop i)) u := by
  intro d
  induction d with
  | zero =>
    intro i n m u hd h0 hu hu2 hn hm hm2
    rw [digs_at_end (show s.length ≤ i by omega)]
    refine ⟨n, ?_, by show n = n + 0; omega⟩
    rw [s_DecFront_L4_eq, if_neg (by rw [decide_eq_true_eq]; omega)]
    simp
  | succ d ih =>
    intro i n m u hd h0 hu hu2 hn hm hm2
    have hi : i < s.length := by omega
    rw [s_DecFront_L4_eq, if_pos (decide_eq_true (by omega)), if_pos (by omega), getD_nat hi, l2Digit_ok, Option.bind_some]
    cases hx : isD s[i] with
    | true =>
      have hxb := (isD_iff _).1 hx
      have hmul : 0 ≤ (s[i] - 48) * u ∧ (s[i] - 48) * u ≤ 900000 := by
        have h1 : (s[i] - 48) * u ≤ 9 * u := Int.mul_le_mul_of_nonneg_right (by omega) hu
        exact ⟨Int.mul_nonneg (by omega) hu, by omega⟩
      rw [if_pos rfl, if_pos (by omega), Int.tdiv_eq_ediv_of_nonneg hu, w64_id (n := s[i]) (by omega) (by omega), w64_id (n := s[i] - 48) (by omega) (by omega), w64_id (n := (s[i] - 48) * u) (by omega) (by omega), w64_id (n := n + (s[i] - 48) * u) (by omega) (by omega), w64_id (n := m + 1) (by omega) (by omega), w64_id (n := u / 10) (by omega) (by omega), w64_succ hi (by omega)]
      obtain ⟨n', e1, e2⟩ := ih (i + 1) (n + (s[i] - 48) * u) (m + 1) (u / 10) (by omega) (by omega) (by omega) (by omega) (by omega) (by omega) (by omega)
      rw [digs_at_pos hi hx, List.length_cons]
      refine ⟨n', ?_, ?_⟩
      · rw [e1]
        congr 1
        · omega
        · omega
      · rw [e2]
        show _ = n + ((s[i] - 48) * u + fr _ (u / 10))
        omega
    | false =>
      rw [if_neg (by simp), digs_at_neg hi hx]
      exact ⟨n, by simp, by show n = n + 0; omega⟩
def frac (s : List Int) (p : Nat) : List Int := if s[p]? = some 46 then digs (s.drop (p + 1)) else []
def endOf (s : List Int) (p : Nat) : Nat := if frac s p = [] then p else p + 1 + (frac s p).length
theorem L3_end (s : List Int) (hs : s.length ≤ 1000000) (b : Bool) (p : Nat) (hp : p ≤ s.length) (n m : Int) (h0 : 0 ≤ n) (hn : n ≤ 100000000000000) (hm : 0 ≤ m) (hm2 : m ≤ 1000000) :
    (if (decide ((w64 ((p : Int) + 1)) < (List.length s : Int))) = true then
      if (0 : Int) ≤ (p : Int) ∧ (p : Int) < (List.length s : Int) then
        if (decide ((List.getD s (p : Int).toNat 0) = 46)) = true then
          if (0 : Int) ≤ (w64 ((p : Int) + 1)) ∧ (w64 ((p : Int) + 1)) < (List.length s : Int) then
            (s_l2Digit (List.getD s (w64 ((p : Int) + 1)).toNat 0)).bind fun (r2 : Bool × Unit) =>
            if r2.1 = true then
              s_DecFront_L4 s (w64 ((p : Int) + 1)) b n m 100000
            else
              s_DecFront_L5 (p : Int) b n m
          else none
        else
          s_DecFront_L5 (p : Int) b n m
      else none
    else
      s_DecFront_L5 (p : Int) b n m) = fin (endOf s p) b (n + fr (frac s p) 100000) (m + (frac s p).length) := by
  have hw : w64 ((p : Int) + 1) = ((p + 1 : Nat) : Int) := w64_succ (n := 1000001) (by omega) (by omega)
  rw [hw]
  have none : frac s p = [] → s_DecFront_L5 (p : Int) b n m = fin (endOf s p) b (n + fr (frac s p) 100000) (m + (frac s p).length) := by
    intro h
    unfold endOf
    rw [h, if_pos rfl, L5_ok _ _ _ _ h0]
    show fin p b n m = fin p b (n + 0) (m + (0 : Nat))
    congr 1
    · omega
    · omega
  by_cases h1 : ((p + 1 : Nat) : Int) < (s.length : Int)
  · have hp1 : p < s.length := by omega
    have hp2 : p + 1 < s.length := by omega
    rw [if_pos (decide_eq_true h1), if_pos (by omega), getD_nat hp1]
    by_cases h2 : s[p] = 46
    · rw [if_pos (decide_eq_true h2), if_pos (by omega), getD_nat hp2, l2Digit_ok, Option.bind_some]
      have hf : frac s p = digs (s.drop (p + 1)) := by unfold frac; rw [List.getElem?_eq_getElem hp1, h2, if_pos rfl]
      cases hx : isD s[p + 1] with
      | true =>
        rw [if_pos rfl]
        obtain ⟨n', e1, e2⟩ := L4_ok s hs b (s.length - (p + 1)) (p + 1) n m 100000 (by omega) h0 (by omega) (by omega) (by omega) hm (by omega)
        have hb := fr_bd _ (digs_all (s.drop (p + 1)))
        have hne : frac s p ≠ [] := by
          rw [hf, digs_at_pos hp2 hx]
          exact List.cons_ne_nil _ _
        rw [e1, e2, L5_ok _ _ _ _ (by omega), hf]
        unfold endOf
        rw [if_neg hne, hf]
      | false =>
        rw [if_neg (by simp)]
        refine none ?_
        rw [hf, digs_at_neg hp2 hx]
    · rw [if_neg (by rw [decide_eq_true_eq]; exact h2)]
      refine none ?_
      unfold frac
      rw [List.getElem?_eq_getElem hp1, if_neg (by simpa using h2)]
  · rw [if_neg (by rw [decide_eq_true_eq]; exact h1)]
    refine none ?_
    unfold frac
    split
    · exact digs_at_end (by omega)
    · rfl
theorem L3_ok (s : List Int) (hs : s.length ≤ 1000000) (hb : Bt s) (b : Bool) : ∀ (d i : Nat) (n m : Int), i + d = s.length → 0 ≤ n → n ≤ 100000000000000 → 0 ≤ m → m ≤ i →
    s_DecFront_L3 s (i : Int) b n m = fin (endOf s (i + (digs (s.drop i)).length)) b (sat n (digs (s.drop i)) + fr (frac s (i + (digs (s.drop i)).length)) 100000) (m + (digs (s.drop i)).length + (frac s (i + (digs (s.drop i)).length)).length) := by
  intro d
  induction d with
  | zero =>
    intro i n m hd h0 hn hm hm2
    rw [s_DecFront_L3_eq, if_neg (by rw [decide_eq_true_eq]; omega), L3_end s hs b i (by omega) n m h0 hn hm (by omega), digs_at_end (show s.length ≤ i by omega)]
    simp [sat]
  | succ d ih =>
    intro i n m hd h0 hn hm hm2
    have hi : i < s.length := by omega
    have hx0 := hb _ (List.getElem_mem hi)
    rw [s_DecFront_L3_eq, if_pos (decide_eq_true (by omega)), if_pos (by omega)]
    have hg : List.getD s (i : Int).toNat 0 = s[i] := getD_nat hi 0
    rw [hg, l2Digit_ok, Option.bind_some]
    cases hx : isD s[i] with
    | true =>
      have hxb := (isD_iff _).1 hx
      have hdg : digs (s.drop i) = s[i] :: digs (s.drop (i + 1)) := digs_at_pos hi hx
      rw [if_pos rfl, hdg]
      simp only [List.length_cons, sat]
      have el : i + ((digs (s.drop (i + 1))).length + 1) = i + 1 + (digs (s.drop (i + 1))).length := by omega
      rw [el, w64_succ hi (by omega), w64_id (n := m + 1) (by omega) (by omega)]
      by_cases hmx : n ≤ 9000000000000
      · rw [if_pos (decide_eq_true hmx), if_pos (by omega), if_pos hmx, w64_id (n := 10 * n) (by omega) (by omega), w64_id (n := s[i]) (by omega) (by omega), w64_id (n := s[i] - 48) (by omega) (by omega), w64_id (n := (s[i] - 48) * 1000000) (by omega) (by omega), w64_id (n := 10 * n + (s[i] - 48) * 1000000) (by omega) (by omega),
          ih (i + 1) _ (m + 1) (by omega) (by omega) (by omega) (by omega) (by omega)]
        congr 1
        omega
      · rw [if_neg (by rw [decide_eq_true_eq]; exact hmx), if_neg hmx, ih (i + 1) n (m + 1) (by omega) h0 hn (by omega) (by omega)]
        congr 1
        omega
    | false =>
      have hdg : digs (s.drop i) = [] := digs_at_neg hi hx
      rw [if_neg (by simp), hdg]
      have he := L3_end s hs b i (by omega) n m h0 hn hm (by omega)
      rw [hg] at he
      simp only [List.length_nil, Nat.add_zero, sat]
      rw [he]
      congr 1
      omega
theorem digitsAt_ok (s : List Int) (hs : s.length ≤ 1000000) : ∀ (d p j : Nat), p + j + d = s.length + 1 → i_digitsAt_L1 s (p : Int) (j : Int) = some (((j + (digs (s.drop (p + j))).length : Nat) : Int), ()) := by
  intro d
  induction d with
  | zero =>
    intro p j hd
    rw [i_digitsAt_L1_eq, w64_id (by omega) (by omega), if_neg (by rw [decide_eq_true_eq]; omega), digs_at_end (by omega)]
    simp
  | succ d ih =>
    intro p j hd
    rw [i_digitsAt_L1_eq, w64_id (n := (p : Int) + j) (by omega) (by omega)]
    by_cases hlt : (p : Int) + j < (s.length : Int)
    · have hi : p + j < s.length := by omega
      have hg : List.getD s ((p : Int) + j).toNat 0 = s[p + j] := by
        rw [show ((p : Int) + j).toNat = p + j by omega]; exact getD_lt hi 0
      rw [if_pos (decide_eq_true hlt), if_pos (by omega), hg, w64_succ (n := 1000001) (by omega) (by omega)]
      by_cases h1 : s[p + j] ≥ 48
      · rw [if_pos (decide_eq_true h1), if_pos (by omega)]
        by_cases h2 : s[p + j] ≤ 57
        · have hx : isD s[p + j] = true := (isD_iff _).2 ⟨h1, h2⟩
          rw [if_pos (decide_eq_true h2), ih p (j + 1) (by omega), digs_at_pos hi hx, List.length_cons, show p + (j + 1) = p + j + 1 by omega]
          congr 3
          omega
        · have hx : isD s[p + j] = false := by
            cases h : isD s[p + j] with
            | false => rfl
            | true => exact absurd ((isD_iff _).1 h).2 h2
          rw [if_neg (by rw [decide_eq_true_eq]; exact h2), digs_at_neg hi hx]
          simp
      · have hx : isD s[p + j] = false := by
          cases h : isD s[p + j] with
          | false => rfl
          | true => exact absurd ((isD_iff _).1 h).1 h1
        rw [if_neg (by rw [decide_eq_true_eq]; exact h1), digs_at_neg hi hx]
        simp
    · rw [if_neg (by rw [decide_eq_true_eq]; exact hlt), digs_at_end (by omega)]
      simp
theorem i_L2_ok (p : Int) (b : Bool) (w r : List Int) (hw : AllD w) (hr : AllD r) (lw : w.length ≤ 1000000) (lr : r.length ≤ 1000000) : i_DecFront_L2 p b w r = fin p b (dv 0 w * 1000000 + fr r 100000) ((w.length : Int) + r.length) := by
  have hb := fr_bd r hr
  have hn := dv_nonneg w 0 hw (Int.le_refl 0)
  have tail : 0 < w.length + r.length → ((i_millionths w r).bind fun (r1 : Int × Bool × Unit) => if (!r1.2.1) = true then some ((0 : Int), (0 : Int), ()) else if b = true then some ((w64 (0 - r1.1)), p, ()) else some (r1.1, p, ())) = fin p b (dv 0 w * 1000000 + fr r 100000) ((w.length : Int) + r.length) := by
    intro hl
    rw [millionths_ok w r hw hr lw lr, Option.bind_some]
    unfold fin
    rw [if_neg (show ¬ (w.length : Int) + r.length = 0 by omega)]
    by_cases h : dv 0 w * 1000000 + fr r 100000 ≤ 9000000000000
    · rw [if_pos h]
      dsimp only
      rw [if_neg (show ¬ (!true) = true by decide), if_neg (show ¬ dv 0 w * 1000000 + fr r 100000 > 9000000000000 by omega), w64_id (by omega) (by omega)]
      cases b <;> rfl
    · rw [if_neg h]
      dsimp only
      rw [if_pos (show (!false) = true by decide), if_pos (by omega)]
  rw [i_DecFront_L2_eq]
  by_cases h1 : w = []
  · rw [if_pos (decide_eq_true h1)]
    by_cases h2 : r = []
    · rw [if_pos (decide_eq_true h2), h1, h2]; rfl
    · rw [if_neg (by rw [decide_eq_true_eq]; exact h2)]
      exact tail (by have := List.length_pos_iff.2 h2; omega)
  · rw [if_neg (by rw [decide_eq_true_eq]; exact h1)]
    exact tail (by have := List.length_pos_iff.2 h1; omega)
theorem i_L1_ok (s : List Int) (hs : s.length ≤ 1000000) (b : Bool) (i : Nat) (hi : i ≤ s.length) :
    i_DecFront_L1 s (i : Int) b = fin (endOf s (i + (digs (s.drop i)).length)) b (dv 0 (digs (s.drop i)) * 1000000 + fr (frac s (i + (digs (s.drop i)).length)) 100000) ((digs (s.drop i)).length + (frac s (i + (digs (s.drop i)).length)).length) := by
  have hdl := digs_len (s.drop i)
  rw [List.length_drop] at hdl
  have hD := digs_all (s.drop i)
  rw [i_DecFront_L1_eq, i_digitsAt_eq, show (0 : Int) = ((0 : Nat) : Int) from rfl, digitsAt_ok s hs (s.length + 1 - i) i 0 (by omega), Option.bind_some, Nat.zero_add, Nat.add_zero]
  dsimp only
  rw [w64_id (by omega) (by omega)]
  have hcut : List.take (((i : Int) + ((digs (s.drop i)).length : Nat)).toNat - (i : Int).toNat) (List.drop (i : Int).toNat s) = digs (s.drop i) := by
    rw [show ((i : Int) + ((digs (s.drop i)).length : Nat)).toNat - (i : Int).toNat = (digs (s.drop i)).length by omega, Int.toNat_natCast]
    exact digs_take _
  rw [hcut]
  generalize hDD : digs (s.drop i) = D at *
  have hz : (((0 : Nat)) : Int) = 0 := rfl
  rw [hz, if_pos (by omega)]
  have hp : (i : Int) + (D.length : Nat) = ((i + D.length : Nat) : Int) := by omega
  rw [hp]
  generalize hP : i + D.length = P at *
  have none : frac s P = [] → i_DecFront_L2 (P : Int) b D [] = fin (endOf s P) b (dv 0 D * 1000000 + fr (frac s P) 100000) (D.length + (frac s P).length) := by
    intro h
    rw [i_L2_ok _ _ _ _ hD (fun x hx => by cases hx) (by omega) (by simp)]
    unfold endOf
    rw [h, if_pos rfl]
  by_cases h1 : (P : Int) < (s.length : Int)
  · have hP1 : P < s.length := by omega
    rw [if_pos (decide_eq_true h1), if_pos (by omega), getD_nat hP1]
    by_cases h2 : s[P] = 46
    · have hw : w64 ((P : Int) + 1) = ((P + 1 : Nat) : Int) := w64_succ hP1 (by omega)
      have hf : frac s P = digs (s.drop (P + 1)) := by unfold frac; rw [List.getElem?_eq_getElem hP1, h2, if_pos rfl]
      have hfl := digs_len (s.drop (P + 1))
      rw [List.length_drop] at hfl
      have hF := digs_all (s.drop (P + 1))
      rw [if_pos (decide_eq_true h2), hw, i_digitsAt_eq, show (0 : Int) = ((0 : Nat) : Int) from rfl, digitsAt_ok s hs (s.length - P) (P + 1) 0 (by omega), Option.bind_some, Nat.zero_add, Nat.add_zero]
      dsimp only
      rw [hz, w64_id (n := 1 + (((digs (s.drop (P + 1))).length : Nat) : Int)) (by omega) (by omega), w64_id (n := ((P + 1 : Nat) : Int) + (((digs (s.drop (P + 1))).length : Nat) : Int)) (by omega) (by omega), w64_id (n := (P : Int) + (1 + (((digs (s.drop (P + 1))).length : Nat) : Int))) (by omega) (by omega)]
      have hcut2 : List.take ((((P + 1 : Nat) : Int) + ((digs (s.drop (P + 1))).length : Nat)).toNat - ((P + 1 : Nat) : Int).toNat) (List.drop ((P + 1 : Nat) : Int).toNat s) = digs (s.drop (P + 1)) := by
        rw [show (((P + 1 : Nat) : Int) + ((digs (s.drop (P + 1))).length : Nat)).toNat - ((P + 1 : Nat) : Int).toNat = (digs (s.drop (P + 1))).length by omega, Int.toNat_natCast]
        exact digs_take _
      rw [hcut2]
      generalize hFF : digs (s.drop (P + 1)) = F at *
      by_cases h3 : (F.length : Int) > 0
      · rw [if_pos (decide_eq_true h3), if_pos (by omega), i_L2_ok _ _ _ _ hD hF (by omega) (by omega)]
        unfold endOf
        rw [hf, if_neg (fun h => by rw [h] at h3; simp at h3)]
        congr 1
        omega
      · rw [if_neg (by rw [decide_eq_true_eq]; exact h3)]
        exact none (by rw [hf]; exact List.eq_nil_of_length_eq_zero (by omega))
    · rw [if_neg (by rw [decide_eq_true_eq]; exact h2)]
      refine none ?_
      unfold frac
      rw [List.getElem?_eq_getElem hP1, if_neg (by simpa using h2)]
  · rw [if_neg (by rw [decide_eq_true_eq]; exact h1)]
    refine none ?_
    unfold frac
    split
    · exact digs_at_end (by omega)
    · rfl
theorem s_i_same (s : List Int) (hs : s.length ≤ 1000000) (hb : Bt s) (b : Bool) (i : Nat) (hi : i ≤ s.length) : s_DecFront_L2 s (i : Int) b = i_DecFront_L1 s (i : Int) b := by
  rw [s_DecFront_L2_eq, L3_ok s hs hb b (s.length - i) i 0 0 (by omega) (by omega) (by omega) (by omega) (by omega), i_L1_ok s hs b i hi]
  have hD := digs_all (s.drop i)
  have hF : AllD (frac s (i + (digs (s.drop i)).length)) := by
    unfold frac
    split
    · exact digs_all _
    · intro x hx; cases hx
  generalize digs (s.drop i) = D at *
  generalize frac s (i + D.length) = F at *
  have hfb := fr_bd F hF
  have hsat := sat_val D 0 hD (Int.le_refl 0)
  rw [Int.zero_mul] at hsat
  rcases hsat with h | ⟨h1, h2⟩
  · rw [h, Int.zero_add]
  · unfold fin
    rw [Int.zero_add]
    by_cases hm : ((D.length : Nat) : Int) + (F.length : Nat) = 0
    · rw [if_pos hm, if_pos hm]
    · rw [if_neg hm, if_neg hm, if_pos (by omega), if_pos (by omega)]
theorem fin_spec {p : Int} {b : Bool} {n m : Int} (h0 : 0 ≤ n) : ∃ v e, fin p b n m = some (v, e, ()) ∧ (e = 0 ∨ e = p) ∧ (-9000000000000 ≤ v ∧ v ≤ 9000000000000) := by
  unfold fin
  split
  · exact ⟨0, 0, rfl, .inl rfl, by omega, by omega⟩
  · split
    · exact ⟨0, 0, rfl, .inl rfl, by omega, by omega⟩
    · refine ⟨_, p, rfl, .inr rfl, ?_⟩
      split <;> omega
theorem endOf_le (s : List Int) (p : Nat) (hp : p ≤ s.length) : endOf s p ≤ s.length := by
  unfold endOf
  split
  · exact hp
  · rename_i h
    unfold frac at h ⊢
    by_cases h46 : s[p]? = some 46
    · rw [if_pos h46] at h ⊢
      have := digs_len (s.drop (p + 1))
      rw [List.length_drop] at this
      have hlt : p < s.length := by
        by_cases h' : p < s.length
        · exact h'
        · rw [List.getElem?_eq_none (by omega)] at h46; cases h46
      omega
    · rw [if_neg h46] at h; exact absurd rfl h
theorem i_L1_spec (s : List Int) (hs : s.length ≤ 1000000) (b : Bool) (i : Nat) (hi : i ≤ s.length) : ∃ v e, i_DecFront_L1 s (i : Int) b = some (v, e, ()) ∧ (0 ≤ e ∧ e ≤ (s.length : Int)) ∧ (-9000000000000 ≤ v ∧ v ≤ 9000000000000) := by
  have hdl := digs_len (s.drop i)
  rw [List.length_drop] at hdl
  have hF : AllD (frac s (i + (digs (s.drop i)).length)) := by
    unfold frac
    split
    · exact digs_all _
    · intro x hx; cases hx
  rw [i_L1_ok s hs b i hi]
  have h1 := dv_nonneg _ 0 (digs_all (s.drop i)) (Int.le_refl 0)
  have h2 := fr_bd _ hF
  have h3 := endOf_le s (i + (digs (s.drop i)).length) (by omega)
  obtain ⟨v, e, k1, k2, k3⟩ := fin_spec (p := (endOf s (i + (digs (s.drop i)).length) : Nat)) (b := b) (n := dv 0 (digs (s.drop i)) * 1000000 + fr (frac s (i + (digs (s.drop i)).length)) 100000) (m := ((digs (s.drop i)).length + (frac s (i + (digs (s.drop i)).length)).length)) (by omega)
  exact ⟨v, e, k1, by rcases k2 with rfl | rfl <;> omega, k3⟩
end Go.Proofs.YtonmohpdmhfjnaaGreatDoor.E.TM
