/- Values: how they compare, what they read as, whether they are right: the program and the reference tell the same. No condition but that texts hold bytes and are short. -/
import Derived.Test.YtlidpmhmchbilaaGreatDoorPVDecText
import Derived.Test.YtlidpmhmchbilaaGreatDoorTVe1
namespace Go.Proofs.YtlidpmhmchbilaaGreatDoor.E.TV
open Go.Proofs.YtlidpmhmchbilaaGreatDoor.E
set_option linter.unusedVariables false
def VDrawn (v : impl_Val) : Prop := v.S.length ≤ 100000 ∧ Bt v.S
def textOf (v : impl_Val) : List Int := if v.Kind = 1 then decT v.N else v.S
theorem i_ToText_ok (v : impl_Val) : i_ToText v = some (textOf v, ()) := by
  rw [i_ToText_eq]
  unfold textOf
  by_cases h : v.Kind = 1
  · rw [if_pos (decide_eq_true h), if_pos h, i_DecText_ok]; rfl
  · rw [if_neg (by rw [decide_eq_true_eq]; exact h), if_neg h]
theorem s_ToText_ok (v : impl_Val) : s_ToText v = some (textOf v, ()) := by
  rw [s_ToText_eq]
  unfold textOf
  by_cases h : v.Kind = 1
  · rw [if_pos (decide_eq_true h), if_pos h, s_DecText_ok]; rfl
  · rw [if_neg (by rw [decide_eq_true_eq]; exact h), if_neg h]
theorem toNum_same {v : impl_Val} (h : VDrawn v) : ∃ n, i_ToNum v = some (n, ()) ∧ s_ToNum v = some (n, ()) := by
  obtain ⟨x, e, k1, k2, _⟩ := decFront_same v.S (by have := h.1; omega) h.2
  have key : ∀ b : Bool, ∃ n, i_ToNum_L1 v.Kind b v = some (n, ()) ∧ s_ToNum_L1 v.Kind b v = some (n, ()) := fun b => by
    rw [i_ToNum_L1_eq, s_ToNum_L1_eq, k1, k2]
    cases b with
    | true => exact ⟨_, rfl, rfl⟩
    | false =>
      by_cases h2 : v.Kind = 2
      · rw [if_neg (by decide), if_pos (decide_eq_true h2)]; exact ⟨_, rfl, rfl⟩
      · rw [if_neg (by decide), if_neg (by rw [decide_eq_true_eq]; exact h2)]; exact ⟨_, rfl, rfl⟩
  rw [i_ToNum_eq, s_ToNum_eq]
  split
  · exact key _
  · exact key _
theorem truth_same (v : impl_Val) : ∃ b, i_Truth v = some (b, ()) ∧ s_Truth v = some (b, ()) := by
  have key : ∀ b : Bool, ∃ n, i_Truth_L1 v.Kind b v = some (n, ()) ∧ s_Truth_L1 v.Kind b v = some (n, ()) := fun b => by
    rw [i_Truth_L1_eq, s_Truth_L1_eq]
    cases b with
    | true => exact ⟨_, rfl, rfl⟩
    | false =>
      by_cases h2 : v.Kind = 2
      · rw [if_neg (by decide), if_pos (decide_eq_true h2)]; exact ⟨_, rfl, rfl⟩
      · rw [if_neg (by decide), if_neg (by rw [decide_eq_true_eq]; exact h2)]; exact ⟨_, rfl, rfl⟩
  rw [i_Truth_eq, s_Truth_eq]
  split
  · exact key _
  · exact key _
theorem strCmp_ok (a b : List Int) : x_strings_Compare a b = some (cmpI a b, ()) := by
  rw [x_strings_Compare_eq, x_internal_bytealg_CompareString_eq, x_internal_bytealg_abigen_runtime_cmpstring_eq]; rfl
theorem ltS_asym : ∀ a b : List Int, ltS a b = true → ltS b a = false
  | a, [], h => by cases a <;> cases h
  | [], y :: b, h => rfl
  | x :: a, y :: b, h => by
    unfold ltS at h ⊢
    rw [Bool.or_eq_true, Bool.and_eq_true, decide_eq_true_eq, decide_eq_true_eq] at h
    rcases h with h | ⟨h1, h2⟩
    · rw [decide_eq_false (by omega), decide_eq_false (by omega)]; rfl
    · subst h1
      rw [ltS_asym a b h2]; simp
theorem cmp_swap (a b : List Int) : cmpI b a = 0 - cmpI a b := by
  unfold cmpI
  cases h : ltS a b with
  | true => rw [ltS_asym a b h]; rfl
  | false =>
    cases h2 : ltS b a with
    | true => rfl
    | false => rfl
theorem bit_ok (b : Bool) : s_l1Bit b = some (if b = true then 1 else 0, ()) := by rw [s_l1Bit_eq]; cases b <;> rfl
theorem compare_same {a b : impl_Val} (ha : VDrawn a) (hb : VDrawn b) : ∃ c, i_Compare a b = some (c, ()) ∧ s_Compare a b = some (c, ()) ∧ i_Compare b a = some (0 - c, ()) ∧ (-1 ≤ c ∧ c ≤ 1) := by
  obtain ⟨x, x1, x2⟩ := toNum_same ha
  obtain ⟨y, y1, y2⟩ := toNum_same hb
  have htext : ∃ c, ((i_ToText a).bind fun (r0 : (List Int) × Unit) => (i_ToText b).bind fun (r1 : (List Int) × Unit) => (x_strings_Compare r0.1 r1.1).bind fun (r2 : Int × Unit) => some (r2.1, ())) = some (c, ()) ∧
      (if (ltS (textOf a) (textOf b)) = true then some ((-1), ()) else (s_l1Bit (ltS (textOf b) (textOf a))).bind fun (r9 : Int × Unit) => some (r9.1, ())) = some (c, ()) ∧
      ((i_ToText b).bind fun (r0 : (List Int) × Unit) => (i_ToText a).bind fun (r1 : (List Int) × Unit) => (x_strings_Compare r0.1 r1.1).bind fun (r2 : Int × Unit) => some (r2.1, ())) = some (0 - c, ()) ∧ (-1 ≤ c ∧ c ≤ 1) := by
    refine ⟨cmpI (textOf a) (textOf b), ?_, ?_, ?_, cmpI_bd _ _⟩
    · rw [i_ToText_ok, i_ToText_ok, Option.bind_some, Option.bind_some, strCmp_ok]; rfl
    · rw [bit_ok]
      unfold cmpI
      cases ltS (textOf a) (textOf b) <;> cases ltS (textOf b) (textOf a) <;> rfl
    · rw [i_ToText_ok, i_ToText_ok, Option.bind_some, Option.bind_some, strCmp_ok, cmp_swap]; rfl
  obtain ⟨c, c1, c2, c3, c4⟩ := htext
  rw [i_Compare_eq a b, s_Compare_eq, i_Compare_eq b a, s_ToText_ok, s_ToText_ok]
  simp only [Option.bind_some]
  by_cases ka : a.Kind = 2
  · have a1 : decide (a.Kind = 2) = true := decide_eq_true ka
    have a2 : ¬ (!decide (a.Kind = 2)) = true := by rw [a1]; decide
    rw [if_neg a2]
    by_cases kb : b.Kind = 2
    · have b1 : decide (b.Kind = 2) = true := decide_eq_true kb
      rw [if_pos a1, if_pos b1]; exact ⟨c, c1, c2, c3, c4⟩
    · have b1 : ¬ decide (b.Kind = 2) = true := by rw [decide_eq_true_eq]; exact kb
      rw [if_pos a1, if_neg b1, if_pos a1]; exact ⟨c, c1, c2, c3, c4⟩
  · have a1 : ¬ decide (a.Kind = 2) = true := by rw [decide_eq_true_eq]; exact ka
    have a2 : (!decide (a.Kind = 2)) = true := by rw [Bool.not_eq_true] at a1; rw [a1]; rfl
    rw [if_neg a1, if_pos a2]
    by_cases kb : b.Kind = 2
    · have b1 : decide (b.Kind = 2) = true := decide_eq_true kb
      have b2 : ¬ (!decide (b.Kind = 2)) = true := by rw [b1]; decide
      rw [if_pos b1, if_neg b2, if_pos b1]; exact ⟨c, c1, c2, c3, c4⟩
    · have b1 : ¬ decide (b.Kind = 2) = true := by rw [decide_eq_true_eq]; exact kb
      have b2 : (!decide (b.Kind = 2)) = true := by rw [Bool.not_eq_true] at b1; rw [b1]; rfl
      rw [if_neg b1, if_pos b2, if_neg b1, if_neg a1, x1, x2, y1, y2]
      simp only [Option.bind_some, bit_ok, decide_eq_true_eq]
      by_cases l1 : x < y
      · refine ⟨-1, by rw [if_pos l1], by rw [if_pos l1], ?_, by omega, by omega⟩
        rw [if_neg (by omega), if_pos (by omega)]; rfl
      · by_cases l2 : x > y
        · refine ⟨1, by rw [if_neg l1, if_pos l2], by rw [if_neg l1, if_pos l2], ?_, by omega, by omega⟩
          rw [if_pos (by omega)]; rfl
        · refine ⟨0, by rw [if_neg l1, if_neg l2], by rw [if_neg l1, if_neg l2], ?_, by omega, by omega⟩
          rw [if_neg (by omega), if_neg (by omega)]; rfl
theorem compare_self {a : impl_Val} (ha : VDrawn a) : i_Compare a a = some (0, ()) := by
  obtain ⟨c, h1, _, h3, _⟩ := compare_same ha ha
  rw [h1] at h3
  have : c = 0 - c := congrArg Prod.fst (Option.some.inj h3)
  rw [h1, show c = 0 by omega]
theorem valOk_same {v : impl_Val} (h : VDrawn v) : ∃ b, i_ValOk v = some (b, ()) ∧ s_ValOk v = some (b, ()) := by
  obtain ⟨x, ok, k1, k2, _⟩ := decLooks_same v.S (by have := h.1; omega) h.2
  have hin : s_l1In v.Kind 0 3 = some (decide (0 ≤ v.Kind ∧ v.Kind ≤ 3), ()) := by
    rw [s_l1In_eq]
    by_cases c1 : v.Kind ≥ 0
    · rw [if_pos (decide_eq_true c1)]
      simp [show 0 ≤ v.Kind from c1]
    · rw [if_neg (by rw [decide_eq_true_eq]; exact c1)]
      simp [show ¬ 0 ≤ v.Kind from c1]
  rw [i_ValOk_eq, s_ValOk_eq, i_DecOk_ok, s_DecOk_ok, k1, k2, hin]
  simp only [Option.bind_some, decide_eq_true_eq]
  by_cases hk : 0 ≤ v.Kind ∧ v.Kind ≤ 3
  · rw [decide_eq_true hk]
    cases decide (-9000000000000 ≤ v.N ∧ v.N ≤ 9000000000000) with
    | false => exact ⟨false, rfl, rfl⟩
    | true =>
      by_cases hl : (v.S.length : Int) > 300
      · exact ⟨false, by simp [hl], by simp [hl]⟩
      · rcases (show v.Kind = 0 ∨ v.Kind = 1 ∨ v.Kind = 2 ∨ v.Kind = 3 by omega) with e | e | e | e
        · by_cases hN : v.N = 0
          · exact ⟨decide (v.S = []), by simp [hl, e, hN], by simp [hl, e, hN]⟩
          · exact ⟨false, by simp [hl, e, hN], by simp [hl, e, hN]⟩
        · exact ⟨decide (v.S = []), by simp [hl, e], by simp [hl, e]⟩
        · exact ⟨decide (v.N = 0), by simp [hl, e], by simp [hl, e]⟩
        · cases ok with
          | true => exact ⟨decide (x = v.N), by simp [hl, e], by simp [hl, e]⟩
          | false => exact ⟨false, by simp [hl, e], by simp [hl, e]⟩
  · rw [decide_eq_false hk]
    refine ⟨false, ?_, rfl⟩
    rw [if_neg (c := v.Kind = 0) (by omega), if_neg (c := v.Kind = 1) (by omega), if_neg (c := v.Kind = 2) (by omega), if_neg (c := v.Kind = 3) (by omega)]
    split
    · rfl
    · split
      · rfl
      · rfl
theorem read_spec (s : List Int) (hs : s.length ≤ 9223372036854775807) (hb : Bt s) : ∃ v, s_Read s = some (v, ()) ∧ i_Read s = some (v, ()) ∧ i_ValOk v = some (true, ()) ∧ v.S.length ≤ 300 ∧ Bt v.S := by
  obtain ⟨w, k1, k2⟩ := read_same s hs hb
  have hbt : Bt (s.take 300) := fun x hx => hb x (List.mem_of_mem_take hx)
  have hl : (s.take 300).length ≤ 300 := by rw [List.length_take]; omega
  obtain ⟨v, ok, l1, l2, l3⟩ := decLooks_same (s.take 300) (by omega) hbt
  refine ⟨w, k1, k2, ?_⟩
  rw [i_Read_eq, cut_ok s hs, Option.bind_some] at k2
  dsimp only at k2
  rw [l2, Option.bind_some] at k2
  dsimp only at k2
  cases ok with
  | true =>
    have hw : impl_Val.mk 3 v (s.take 300) = w := congrArg Prod.fst (Option.some.inj k2)
    subst hw
    refine ⟨?_, hl, hbt⟩
    rw [i_ValOk_eq, i_DecOk_ok, l2]
    dsimp only
    rw [Option.bind_some, decide_eq_true l3]
    dsimp only
    rw [if_neg (by decide), if_neg (by rw [decide_eq_true_eq]; omega), if_neg (by simp), if_neg (by simp), if_neg (by simp), if_pos (by simp), Option.bind_some]
    simp
  | false =>
    rw [if_neg (by decide), i_textVal_eq, Option.bind_some] at k2
    have hw : impl_Val.mk 2 0 (s.take 300) = w := congrArg Prod.fst (Option.some.inj k2)
    subst hw
    refine ⟨?_, hl, hbt⟩
    rw [i_ValOk_eq, i_DecOk_ok]
    dsimp only
    rw [Option.bind_some, decide_eq_true (by omega)]
    dsimp only
    rw [if_neg (by decide), if_neg (by rw [decide_eq_true_eq]; omega), if_neg (by simp), if_neg (by simp), if_pos (by simp)]
    simp
theorem back_ok (x : Int) (h : -9000000000000 ≤ x ∧ x ≤ 9000000000000) : ∃ v, i_Read (decT x) = some (v, ()) ∧ i_ToNum v = some (x, ()) := by
  have hl := decT_len x
  have ht : (decT x).take 300 = decT x := List.take_of_length_le (by omega)
  refine ⟨impl_Val.mk 3 x (decT x), ?_, ?_⟩
  · rw [i_Read_eq, cut_ok _ (by omega), Option.bind_some]
    dsimp only
    rw [ht, looks_decT x h]; rfl
  · rw [i_ToNum_eq]
    dsimp only
    rw [if_neg (by simp), i_ToNum_L1_eq]; rfl
end Go.Proofs.YtlidpmhmchbilaaGreatDoor.E.TV
