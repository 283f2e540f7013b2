/- A number's decimal text: the program and the reference print the same; what is read of it is the number. No condition. -/
import Derived.Test.YtlidpmhmchbilaaGreatDoorPVRead
import Derived.Test.YtlidpmhmchbilaaGreatDoorTVe1
namespace Go.Proofs.YtlidpmhmchbilaaGreatDoor.E.TV
open Go.Proofs.YtlidpmhmchbilaaGreatDoor.E
set_option linter.unusedVariables false
def digI (n : Nat) : List Int := (Lib.decDigits n).map fun b => (b.toNat : Int)
theorem digI_lt {n : Nat} (h : n < 10) : digI n = [48 + (n : Int)] := by
  unfold digI
  rw [Lib.decDigits, dif_pos h]
  have : (UInt8.ofNat (48 + n)).toNat = 48 + n := by rw [UInt8.toNat_ofNat']; omega
  simp only [List.map_cons, List.map_nil, this]
  congr 1
theorem digI_ge {n : Nat} (h : ¬ n < 10) : digI n = digI (n / 10) ++ [48 + ((n % 10 : Nat) : Int)] := by
  unfold digI
  rw [Lib.decDigits, dif_neg h]
  have : (UInt8.ofNat (48 + n % 10)).toNat = 48 + n % 10 := by rw [UInt8.toNat_ofNat']; omega
  simp only [List.map_append, List.map_cons, List.map_nil, this]
  congr 2
theorem itoaI_nat (n : Nat) : itoaI (n : Int) = digI n := by
  unfold itoaI Lib.itoa digI
  rw [if_neg (by omega), Int.toNat_natCast]
theorem AllD.app {l m : List Int} (h : AllD l) (g : AllD m) : AllD (l ++ m) := fun x hx => (List.mem_append.1 hx).elim (h x) (g x)
theorem digI_spec (n : Nat) : AllD (digI n) ∧ dv 0 (digI n) = n ∧ digI n ≠ [] ∧ (0 < n → ∃ c r, digI n = c :: r ∧ 49 ≤ c) := by
  induction n using Nat.strongRecOn with
  | ind n ih =>
    by_cases h : n < 10
    · rw [digI_lt h]
      refine ⟨fun x hx => ?_, ?_, by simp, fun h0 => ⟨_, _, rfl, by omega⟩⟩
      · rw [List.mem_singleton.1 hx]; omega
      · simp only [dv, List.foldl_cons, List.foldl_nil]; omega
    · obtain ⟨h1, h2, h3, h4⟩ := ih (n / 10) (by omega)
      rw [digI_ge h]
      refine ⟨h1.app fun x hx => ?_, ?_, by simp, fun _ => ?_⟩
      · rw [List.mem_singleton.1 hx]; omega
      · rw [dv_app, h2]; simp only [dv, List.foldl_cons, List.foldl_nil]; omega
      · obtain ⟨c, r, e, hc⟩ := h4 (by omega)
        rw [e]
        exact ⟨c, r ++ _, rfl, hc⟩
theorem digI_len {n k : Nat} (h : n < 10 ^ k) (hk : 0 < k) : (digI n).length ≤ k := by
  induction k generalizing n with
  | zero => omega
  | succ k ih =>
    by_cases h9 : n < 10
    · rw [digI_lt h9]; simp
    · rw [digI_ge h9, List.length_append, List.length_singleton]
      have hk0 : 0 < k := by
        rcases Nat.eq_zero_or_pos k with h0 | h0
        · subst h0; omega
        · exact h0
      have := ih (n := n / 10) (by rw [Nat.pow_succ] at h; omega) hk0
      omega
theorem digI_mil {r : Nat} (h : r < 1000000) : ∃ l, digI (1000000 + r) = 49 :: l ∧ l.length = 6 ∧ AllD l ∧ dv 0 l = r := by
  obtain ⟨h1, h2, h3, h4⟩ := digI_spec (1000000 + r)
  obtain ⟨c, l, e, hc⟩ := h4 (by omega)
  have hlen := digI_len (n := 1000000 + r) (k := 7) (by omega) (by omega)
  rw [e] at h1 h2 hlen
  have hl := dv_lt l h1.tail
  have hn := dv_nonneg l 0 h1.tail (Int.le_refl 0)
  have hc9 := h1.head
  rw [dv_cons, dv_split] at h2
  simp only [List.length_cons] at hlen
  have h6 : l.length = 6 := by
    by_cases h6 : l.length = 6
    · exact h6
    · exfalso
      have h5 : (10 : Int) ^ l.length ≤ 10 ^ 5 := by
        have : (10 : Nat) ^ l.length ≤ 10 ^ 5 := Nat.pow_le_pow_right (by omega) (by omega)
        exact_mod_cast this
      have : (10 * 0 + (c - 48)) * 10 ^ l.length ≤ 9 * 10 ^ 5 := Int.mul_le_mul (by omega) h5 (Int.le_of_lt (Int.pow_pos (by omega))) (by omega)
      omega
  rw [h6] at h2 hl
  have hc1 : c = 49 := by omega
  subst hc1
  exact ⟨l, e, h6, h1.tail, by omega⟩
theorem l2Digits_L1_ok (n : Nat) : ∀ acc : List Int, acc.length + n ≤ 9223372036854775807 → s_l2Digits_L1 (n : Int) acc = some ((if n = 0 then [] else digI n) ++ acc, ()) := by
  induction n using Nat.strongRecOn with
  | ind n ih =>
    intro acc hb
    rw [s_l2Digits_L1_eq]
    by_cases h0 : n = 0
    · rw [if_neg (by rw [decide_eq_true_eq]; omega), if_pos h0]; rfl
    · have e1 : Int.tdiv (n : Int) 10 = ((n / 10 : Nat) : Int) := rfl
      have e2 : Int.tmod (n : Int) 10 = ((n % 10 : Nat) : Int) := rfl
      have e3 : w8 (w64 (48 + ((n % 10 : Nat) : Int))) = 48 + ((n % 10 : Nat) : Int) := by rw [w64_id (by omega) (by omega), w8_id (by omega) (by omega)]
      rw [if_pos (decide_eq_true (by omega)), e1, e2, e3, if_pos (by rw [List.length_singleton]; omega), w64_id (by omega) (by omega), if_neg h0, ih (n / 10) (by omega) _ (by rw [List.length_append, List.length_singleton]; omega)]
      by_cases h9 : n < 10
      · rw [if_pos (by omega), digI_lt h9, Nat.mod_eq_of_lt h9]; rfl
      · rw [if_neg (by omega), digI_ge h9, List.append_assoc]
theorem l2Digits_ok (n : Nat) (h : n ≤ 9223372036854775807) : s_l2Digits (n : Int) = some (digI n, ()) := by
  rw [s_l2Digits_eq]
  by_cases h0 : n = 0
  · subst h0
    rw [if_pos (decide_eq_true (by omega)), digI_lt (by omega)]; rfl
  · rw [if_neg (by rw [decide_eq_true_eq]; omega), l2Digits_L1_ok n [] (by simpa using h), if_neg h0, List.append_nil]
def trimR (c : Int) (l : List Int) : List Int := (l.reverse.dropWhile (fun x => decide (x = c))).reverse
theorem trimR_pos (c : Int) (l : List Int) : trimR c (l ++ [c]) = trimR c l := by
  unfold trimR
  rw [List.reverse_append, List.reverse_singleton, List.singleton_append, List.dropWhile_cons_of_pos (by simp)]
theorem trimR_neg {c x : Int} (h : x ≠ c) (l : List Int) : trimR c (l ++ [x]) = l ++ [x] := by
  unfold trimR
  rw [List.reverse_append, List.reverse_singleton, List.singleton_append, List.dropWhile_cons_of_neg (by simpa using h), List.reverse_cons, List.reverse_reverse]
theorem snoc_of {l : List Int} {n : Nat} (h : l.length = n + 1) : l = l.take (l.length - 1) ++ [l[l.length - 1]] := by
  have h1 := List.take_append_drop (l.length - 1) l
  have h2 : l.drop (l.length - 1) = [l[l.length - 1]] := by
    rw [List.drop_eq_getElem_cons (by omega), List.drop_eq_nil_of_le (by omega)]
  rw [h2] at h1
  exact h1.symm
theorem trimR_back (c : Int) : ∀ (n : Nat) (l : List Int), l.length = n → ∃ k, l = trimR c l ++ List.replicate k c ∧ ((∃ x ∈ l, x ≠ c) → trimR c l ≠ [])
  | 0, l, h => by
    have : l = [] := List.eq_nil_of_length_eq_zero h
    subst this
    exact ⟨0, rfl, fun ⟨x, hx, _⟩ => by cases hx⟩
  | n + 1, l, h => by
    have hs := snoc_of h
    generalize hA : l.take (l.length - 1) = A at hs
    generalize l[l.length - 1] = x at hs
    have hAl : A.length = n := by rw [← hA, List.length_take]; omega
    subst hs
    by_cases hx : x = c
    · subst hx
      obtain ⟨k, e, g⟩ := trimR_back x n A hAl
      rw [trimR_pos]
      refine ⟨k + 1, ?_, fun ⟨y, hy, hne⟩ => g ⟨y, ?_, hne⟩⟩
      · rw [List.replicate_succ', ← List.append_assoc, ← e]
      · rcases List.mem_append.1 hy with hy | hy
        · exact hy
        · exact absurd (List.mem_singleton.1 hy) hne
    · rw [trimR_neg hx]
      exact ⟨0, by simp, fun _ => by simp⟩
theorem trimR_len (c : Int) (l : List Int) : (trimR c l).length ≤ l.length := by
  obtain ⟨k, e, _⟩ := trimR_back c l.length l rfl
  have := congrArg List.length e
  rw [List.length_append] at this
  omega
theorem trimRightByte_val (c : Int) : ∀ (n : Nat) (l : List Int), l.length = n → l.length ≤ 4294967296 → x_strings_trimRightByte_L1 l c = some (trimR c l, ())
  | 0, l, hl, h => by
    have : l = [] := List.eq_nil_of_length_eq_zero hl
    subst this
    rw [x_strings_trimRightByte_L1_eq, if_neg (by simp)]; rfl
  | n + 1, l, hl, h => by
    rw [x_strings_trimRightByte_L1_eq, if_pos (decide_eq_true (by omega)), w64_id (by omega) (by omega), if_pos (by omega), show ((l.length : Int) - 1).toNat = l.length - 1 by omega, getD_lt (by omega)]
    have hs := snoc_of hl
    have e : List.take (l.length - 1 - 0) (List.drop 0 l) = l.take (l.length - 1) := rfl
    by_cases hx : l[l.length - 1] = c
    · rw [if_pos (decide_eq_true hx), if_pos (by omega), e, trimRightByte_val c n _ (by rw [List.length_take]; omega) (by rw [List.length_take]; omega)]
      rw [hx] at hs
      generalize l.take (l.length - 1) = A at *
      subst hs
      rw [trimR_pos]
    · rw [if_neg (by rw [decide_eq_true_eq]; exact hx)]
      have : trimR c l = l := by
        generalize hA : l.take (l.length - 1) = A at hs
        generalize l[l.length - 1] = x at hs hx
        rw [hs]; exact trimR_neg hx _
      rw [this]
theorem TrimRight_val (l : List Int) (h : l.length ≤ 4294967296) : x_strings_TrimRight l [48] = some (trimR 48 l, ()) := by
  rw [x_strings_TrimRight_eq]
  by_cases h0 : l = []
  · rw [if_pos (decide_eq_true h0), h0]; rfl
  · rw [if_neg (by rw [decide_eq_true_eq]; exact h0), if_neg (by simp), if_pos (by simp), if_pos (by simp), if_pos (by simp), if_pos (by simp), x_strings_trimRightByte_eq]
    show Option.bind (x_strings_trimRightByte_L1 l 48) _ = _
    rw [trimRightByte_val 48 _ l rfl h]; rfl
theorem s_trim (t0 : Int) (t4 : List Int) (h4 : t4.length ≤ 1000) : ∀ (n : Nat) (l : List Int), l.length = n → l.length ≤ 1000 → (∃ x ∈ l, x ≠ 48) → s_DecText_L1 t0 t4 l = s_DecText_L2 t0 (t4 ++ [46] ++ trimR 48 l)
  | 0, l, hl, _, ⟨x, hx, _⟩ => by
    have : l = [] := List.eq_nil_of_length_eq_zero hl
    subst this
    cases hx
  | n + 1, l, hl, h, hne => by
    rw [s_DecText_L1_eq, w64_id (by omega) (by omega), if_pos (by omega), show ((l.length : Int) - 1).toNat = l.length - 1 by omega, getD_lt (by omega)]
    have hs := snoc_of hl
    have e : List.take (l.length - 1 - 0) (List.drop 0 l) = l.take (l.length - 1) := rfl
    by_cases hx : l[l.length - 1] = 48
    · rw [if_pos (decide_eq_true hx), if_pos (by omega), e]
      rw [hx] at hs
      obtain ⟨x, hx1, hx2⟩ := hne
      have hx3 : x ∈ l.take (l.length - 1) := by
        rw [hs] at hx1
        rcases List.mem_append.1 hx1 with h1 | h1
        · exact h1
        · exact absurd (List.mem_singleton.1 h1) hx2
      rw [s_trim t0 t4 h4 n _ (by rw [List.length_take]; omega) (by rw [List.length_take]; omega) ⟨x, hx3, hx2⟩]
      have : trimR 48 l = trimR 48 (l.take (l.length - 1)) := by
        generalize l.take (l.length - 1) = A at *
        rw [hs]; exact trimR_pos 48 A
      rw [this]
    · rw [if_neg (by rw [decide_eq_true_eq]; exact hx), if_pos (by simp only [List.length_singleton]; omega), if_pos (by rw [List.length_append]; simp only [List.length_singleton]; omega)]
      have : trimR 48 l = l := by
        generalize hA : l.take (l.length - 1) = A at hs
        generalize l[l.length - 1] = x at hs hx
        rw [hs]; exact trimR_neg hx _
      rw [this]
def fracT (r : Nat) : List Int := if 0 < r then 46 :: trimR 48 ((digI (1000000 + r)).drop 1) else []
def decN (n : Nat) : List Int := digI (n / 1000000) ++ fracT (n % 1000000)
def decT (n : Int) : List Int := if -9000000000000 ≤ n ∧ n ≤ 9000000000000 then (if n < 0 then [45] else []) ++ decN n.natAbs else []
theorem fracT_len {r : Nat} (h : r < 1000000) : (fracT r).length ≤ 7 := by
  unfold fracT
  obtain ⟨l, e, h6, _⟩ := digI_mil h
  split
  · rw [e, List.drop_one, List.tail_cons, List.length_cons]
    have := trimR_len 48 l
    omega
  · simp
theorem decN_len {n : Nat} (h : n ≤ 9000000000000) : (decN n).length ≤ 14 := by
  unfold decN
  have h1 := digI_len (n := n / 1000000) (k := 7) (by omega) (by omega)
  have h2 := fracT_len (r := n % 1000000) (by omega)
  rw [List.length_append]; omega
theorem decT_len (n : Int) : (decT n).length ≤ 15 := by
  unfold decT
  split
  · rename_i h
    have := decN_len (n := n.natAbs) (by omega)
    rw [List.length_append]
    split
    · simp only [List.length_singleton]; omega
    · simp only [List.length_nil]; omega
  · simp
theorem itoa_val (n : Nat) : x_strconv_Itoa (n : Int) = some (digI n, ()) := by rw [x_strconv_Itoa_eq, itoaI_nat]
theorem i_DecText_L1_ok (n : Nat) (h : n ≤ 9000000000000) (t : List Int) (ht : t.length ≤ 1) : i_DecText_L1 (n : Int) t = some (t ++ decN n, ()) := by
  have e1 : Int.tdiv (n : Int) 1000000 = ((n / 1000000 : Nat) : Int) := rfl
  have e2 : Int.tmod (n : Int) 1000000 = ((n % 1000000 : Nat) : Int) := rfl
  have h1 := digI_len (n := n / 1000000) (k := 7) (by omega) (by omega)
  rw [i_DecText_L1_eq, e1, e2, w64_id (by omega) (by omega), itoa_val, Option.bind_some]
  dsimp only
  rw [if_pos (by omega)]
  unfold decN fracT
  by_cases h0 : 0 < n % 1000000
  · have e3 : w64 (1000000 + ((n % 1000000 : Nat) : Int)) = ((1000000 + n % 1000000 : Nat) : Int) := by rw [w64_id (by omega) (by omega)]; omega
    obtain ⟨l, e, h6, _⟩ := digI_mil (r := n % 1000000) (by omega)
    have e4 : List.take ((49 :: l).length - 1) (List.drop 1 (49 :: l)) = l := by simp
    have h7 := trimR_len 48 l
    rw [if_pos (decide_eq_true (by omega)), e3, itoa_val, Option.bind_some, if_pos h0]
    dsimp only
    rw [e, e4, if_pos (by rw [List.length_cons]; omega), TrimRight_val l (by omega), Option.bind_some]
    dsimp only
    rw [if_pos (by rw [List.length_singleton]; omega), if_pos (by simp only [List.length_append, List.length_singleton]; omega), List.append_assoc, List.drop_one, List.tail_cons]
    rfl
  · rw [if_neg (by rw [decide_eq_true_eq]; omega), if_neg h0, List.append_nil]
theorem i_DecText_ok (n : Int) : i_DecText n = some (decT n, ()) := by
  rw [i_DecText_eq, i_DecOk_ok, Option.bind_some]
  dsimp only
  unfold decT
  by_cases h : -9000000000000 ≤ n ∧ n ≤ 9000000000000
  · rw [decide_eq_true h, if_neg (by decide), if_pos h]
    by_cases h0 : n < 0
    · rw [if_pos (decide_eq_true h0), if_pos h0, w64_id (by omega) (by omega), show (0 : Int) - n = ((n.natAbs : Nat) : Int) by omega, i_DecText_L1_ok _ (by omega) _ (by simp)]
    · have e : n = ((n.natAbs : Nat) : Int) := by omega
      rw [if_neg (by rw [decide_eq_true_eq]; exact h0), if_neg h0]
      have := i_DecText_L1_ok n.natAbs (by omega) [] (by simp)
      rw [← e] at this
      exact this
  · rw [decide_eq_false h, if_pos (by decide), if_neg h]
theorem s_L2_ok (n : Int) (t : List Int) (h : t.length ≤ 1000) : s_DecText_L2 n t = some ((if n < 0 then [45] else []) ++ t, ()) := by
  rw [s_DecText_L2_eq]
  by_cases h0 : n < 0
  · rw [if_pos (decide_eq_true h0), if_pos h0, if_pos (by rw [List.length_singleton]; omega)]
  · rw [if_neg (by rw [decide_eq_true_eq]; exact h0), if_neg h0]; rfl
theorem s_DecOk_ok (n : Int) : s_DecOk n = some (decide (-9000000000000 ≤ n ∧ n ≤ 9000000000000), ()) := by
  rw [s_DecOk_eq, s_l1In_eq]
  by_cases h : n ≥ -9000000000000
  · rw [if_pos (decide_eq_true h)]
    simp [show -9000000000000 ≤ n from h]
  · rw [if_neg (by rw [decide_eq_true_eq]; exact h)]
    simp [show ¬ -9000000000000 ≤ n from h]
theorem s_DecText_ok (n : Int) : s_DecText n = some (decT n, ()) := by
  rw [s_DecText_eq, s_DecOk_ok, Option.bind_some]
  dsimp only
  unfold decT
  by_cases h : -9000000000000 ≤ n ∧ n ≤ 9000000000000
  · rw [decide_eq_true h, if_neg (by decide), if_pos h]
    have ea : s_l1Abs n = some (((n.natAbs : Nat) : Int), ()) := by
      rw [s_l1Abs_eq]
      by_cases h0 : n < 0
      · rw [if_pos (decide_eq_true h0), w64_id (by omega) (by omega), show (0 : Int) - n = ((n.natAbs : Nat) : Int) by omega]
      · rw [if_neg (by rw [decide_eq_true_eq]; exact h0), show ((n.natAbs : Nat) : Int) = n by omega]
    rw [ea, Option.bind_some]
    dsimp only
    generalize hm : n.natAbs = m
    have e1 : Int.tdiv (m : Int) 1000000 = ((m / 1000000 : Nat) : Int) := rfl
    have e2 : Int.tmod (m : Int) 1000000 = ((m % 1000000 : Nat) : Int) := rfl
    have h1 := digI_len (n := m / 1000000) (k := 7) (by omega) (by omega)
    rw [e1, e2, w64_id (by omega) (by omega), l2Digits_ok _ (by omega), Option.bind_some]
    dsimp only
    unfold decN fracT
    by_cases h0 : 0 < m % 1000000
    · have e3 : w64 (1000000 + ((m % 1000000 : Nat) : Int)) = ((1000000 + m % 1000000 : Nat) : Int) := by rw [w64_id (by omega) (by omega)]; omega
      obtain ⟨l, e, h6, hd, hv⟩ := digI_mil (r := m % 1000000) (by omega)
      have e4 : List.take ((49 :: l).length - 1) (List.drop 1 (49 :: l)) = l := by simp
      have h7 := trimR_len 48 l
      have hne : ∃ x ∈ l, x ≠ 48 := by
        by_cases hh : ∃ x ∈ l, x ≠ 48
        · exact hh
        · exfalso
          have hall : ∀ x ∈ l, x = 48 := fun x hx => by
            by_cases hx48 : x = 48
            · exact hx48
            · exact absurd ⟨x, hx, hx48⟩ hh
          rw [List.eq_replicate_of_mem hall, dv_rep] at hv
          omega
      rw [if_pos (decide_eq_true (by omega)), e3, l2Digits_ok _ (by omega), Option.bind_some, if_pos h0]
      dsimp only
      rw [e, e4, if_pos (by rw [List.length_cons]; omega), s_trim n _ (by omega) _ l rfl (by omega) hne, s_L2_ok _ _ (by simp only [List.length_append, List.length_singleton]; omega), List.drop_one, List.tail_cons, List.append_assoc (digI _)]
      rfl
    · rw [if_neg (by rw [decide_eq_true_eq]; omega), if_neg h0, List.append_nil, s_L2_ok _ _ (by omega)]
  · rw [decide_eq_false h, if_pos (by decide), if_neg h]
theorem digs_app {D F : List Int} (hD : AllD D) (hF : F = [] ∨ ∃ r, F = 46 :: r) : digs (D ++ F) = D := by
  induction D with
  | nil =>
    rcases hF with rfl | ⟨r, rfl⟩
    · rfl
    · exact digs_neg (by decide)
  | cons c D ih =>
    rw [List.cons_append, digs_pos ((isD_iff c).2 hD.head), ih hD.tail]
theorem front_decT (n : Int) (h : -9000000000000 ≤ n ∧ n ≤ 9000000000000) : i_DecFront (decT n) = some (n, ((decT n).length : Int), ()) := by
  have hlen := decT_len n
  rw [i_front _ (by omega)]
  generalize hm : n.natAbs = m
  have hneg : n < 0 → n = -(m : Int) := fun h0 => by omega
  have hpos : ¬ n < 0 → n = (m : Int) := fun h0 => by omega
  have hm9 : m ≤ 9000000000000 := by omega
  obtain ⟨D1, D2, D3, _⟩ := digI_spec (m / 1000000)
  obtain ⟨pre, b, hpre, hb⟩ : ∃ (pre : List Int) (b : Bool), decT n = pre ++ decN m ∧ ((pre = [45] ∧ b = true ∧ n = -(m : Int)) ∨ (pre = [] ∧ b = false ∧ n = (m : Int))) := by
    unfold decT
    rw [if_pos h, hm]
    by_cases h0 : n < 0
    · rw [if_pos h0]; exact ⟨[45], true, rfl, .inl ⟨rfl, rfl, hneg h0⟩⟩
    · rw [if_neg h0]; exact ⟨[], false, rfl, .inr ⟨rfl, rfl, hpos h0⟩⟩
  obtain ⟨d, D', eD⟩ : ∃ d D', digI (m / 1000000) = d :: D' := by
    cases hh : digI (m / 1000000) with
    | nil => exact absurd hh D3
    | cons d D' => exact ⟨d, D', rfl⟩
  have hd := D1; rw [eD] at hd
  have hd := hd.head
  have eN : decN m = d :: (D' ++ fracT (m % 1000000)) := by unfold decN; rw [eD]; rfl
  have hF : fracT (m % 1000000) = [] ∨ ∃ r, fracT (m % 1000000) = 46 :: r := by
    unfold fracT
    split
    · exact .inr ⟨_, rfl⟩
    · exact .inl rfl
  generalize hs : decT n = s at *
  have hlead : lead s = 0 := by
    rw [hpre, eN]
    rcases hb with ⟨rfl, _⟩ | ⟨rfl, _⟩
    · rfl
    · unfold lead
      rw [List.nil_append, List.takeWhile_cons_of_neg (by simp; omega)]; rfl
  have hfront : front s (lead s) = i_DecFront_L1 s (pre.length : Int) b := by
    rw [hlead]
    unfold front
    rw [hpre, eN]
    rcases hb with ⟨rfl, rfl, _⟩ | ⟨rfl, rfl, _⟩
    · exact if_pos rfl
    · rw [if_neg (by simp; omega), if_neg (by simp; omega)]; rfl
  have hpl : pre.length ≤ s.length := by rw [hpre, List.length_append]; omega
  have hdrop : s.drop pre.length = digI (m / 1000000) ++ fracT (m % 1000000) := by rw [hpre, List.drop_left]; rfl
  rw [hfront, i_L1_ok s (by omega) b pre.length hpl, hdrop, digs_app D1 hF]
  have hsl : s.length = pre.length + ((digI (m / 1000000)).length + (fracT (m % 1000000)).length) := by rw [hpre, List.length_append]; unfold decN; rw [List.length_append]
  have hP : s.drop (pre.length + (digI (m / 1000000)).length) = fracT (m % 1000000) := by rw [← List.drop_drop, hdrop, List.drop_left]
  generalize hPP : pre.length + (digI (m / 1000000)).length = P at *
  have hD0 : 0 < (digI (m / 1000000)).length := List.length_pos_iff.2 D3
  have hval : m / 1000000 * 1000000 + m % 1000000 = m := by omega
  have fin_ok : ∀ (q : Int) (k : Int), 0 < k → fin q b (m : Int) k = some (n, q, ()) := by
    intro q k hk
    unfold fin
    rw [if_neg (by omega), if_neg (by omega)]
    rcases hb with ⟨_, rfl, e⟩ | ⟨_, rfl, e⟩
    · rw [if_pos rfl, e, Int.zero_sub]
    · rw [if_neg (by decide), e]
  by_cases h0 : 0 < m % 1000000
  · obtain ⟨l, e, h6, hl, hv⟩ := digI_mil (r := m % 1000000) (by omega)
    have eF : fracT (m % 1000000) = 46 :: trimR 48 l := by unfold fracT; rw [if_pos h0, e, List.drop_one, List.tail_cons]
    obtain ⟨k, ek, hk⟩ := trimR_back 48 l.length l rfl
    have hne : trimR 48 l ≠ [] := hk (by
      by_cases hh : ∃ x ∈ l, x ≠ 48
      · exact hh
      · exfalso
        have hall : ∀ x ∈ l, x = 48 := fun x hx => by
          by_cases hx48 : x = 48
          · exact hx48
          · exact absurd ⟨x, hx, hx48⟩ hh
        rw [List.eq_replicate_of_mem hall, dv_rep] at hv
        omega)
    have hT : AllD (trimR 48 l) := fun x hx => hl x (by rw [ek]; exact List.mem_append_left _ hx)
    rw [eF] at hP hsl
    have hPl : P < s.length := by rw [hsl, List.length_cons]; omega
    have hP46 : s[P]? = some 46 := by
      rw [List.drop_eq_getElem_cons hPl] at hP
      rw [List.getElem?_eq_getElem hPl, (List.cons.inj hP).1]
    have hPn : s.drop (P + 1) = trimR 48 l := by
      rw [List.drop_eq_getElem_cons hPl] at hP
      exact (List.cons.inj hP).2
    have hf : frac s P = trimR 48 l := by
      unfold frac
      rw [if_pos hP46, hPn]
      have := digs_app hT (.inl rfl)
      rw [List.append_nil] at this
      exact this
    have hend : endOf s P = s.length := by
      unfold endOf
      rw [hf, if_neg hne, hsl, List.length_cons]; omega
    have hfr : fr (trimR 48 l) 100000 = ((m % 1000000 : Nat) : Int) := by
      have e1 : fr (trimR 48 l) (unit 6) = dv 0 ((trimR 48 l ++ List.replicate 6 48).take 6) := fr_dv (trimR 48 l) 6 6 (Nat.le_refl 6)
      have hkl : k ≤ 6 := by
        have := congrArg List.length ek
        rw [List.length_append, List.length_replicate, h6] at this
        omega
      have e2 : (trimR 48 l ++ List.replicate 6 48).take 6 = l := by
        rw [show 6 = k + (6 - k) by omega, ← List.replicate_append_replicate, ← List.append_assoc, ← ek, show k + (6 - k) = l.length by omega, List.take_left]
      rw [e2, hv] at e1
      exact e1
    rw [hend, hf, hfr, D2, show ((m / 1000000 : Nat) : Int) * 1000000 + ((m % 1000000 : Nat) : Int) = (m : Int) by omega]
    exact fin_ok _ _ (by omega)
  · have eF : fracT (m % 1000000) = [] := by unfold fracT; rw [if_neg h0]
    rw [eF] at hP hsl
    have hPl : P = s.length := by rw [hsl, List.length_nil]; omega
    have hf : frac s P = [] := by
      unfold frac
      rw [List.getElem?_eq_none (by omega), if_neg (by simp)]
    have hend : endOf s P = s.length := by
      unfold endOf
      rw [hf, if_pos rfl, hPl]
    rw [hend, hf, D2, show fr [] 100000 = 0 from rfl, show ((m / 1000000 : Nat) : Int) * 1000000 + 0 = (m : Int) by omega]
    exact fin_ok _ _ (by omega)
theorem looks_decT (n : Int) (h : -9000000000000 ≤ n ∧ n ≤ 9000000000000) : i_DecLooks (decT n) = some (n, true, ()) := by
  have hlen := decT_len n
  have hpos : 0 < (decT n).length := by
    unfold decT decN
    rw [if_pos h]
    have := List.length_pos_iff.2 (digI_spec (n.natAbs / 1000000)).2.2.1
    simp only [List.length_append]; omega
  rw [i_DecLooks_eq, front_decT n h, Option.bind_some]
  dsimp only
  rw [if_neg (by rw [decide_eq_true_eq]; omega), if_pos (by omega), Int.toNat_natCast, Nat.sub_self, List.take_zero]
  obtain ⟨r, r1, r2⟩ := Trim_ok [] (by simp)
  rw [r1, Option.bind_some]
  dsimp only
  rw [if_neg (by simp [r2])]
end Go.Proofs.YtlidpmhmchbilaaGreatDoor.E.TV
