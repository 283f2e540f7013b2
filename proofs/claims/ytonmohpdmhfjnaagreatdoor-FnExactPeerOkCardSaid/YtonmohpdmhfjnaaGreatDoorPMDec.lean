/- Numbers in decimal digits: values of digits, trimmed texts. Plain Lean. No condition. -/
import Derived.Test.YtonmohpdmhfjnaaGreatDoorPBase
import Derived.Test.YtonmohpdmhfjnaaGreatDoorPMImplIn
import Derived.Test.YtonmohpdmhfjnaaGreatDoorTMe1
import Derived.Test.YtonmohpdmhfjnaaGreatDoorTMe2
namespace Go.Proofs.YtonmohpdmhfjnaaGreatDoor.E.TM
open Go.Proofs.YtonmohpdmhfjnaaGreatDoor.E
set_option linter.unusedVariables false
def isD (x : Int) : Bool := decide (48 ≤ x) && decide (x ≤ 57)
theorem isD_iff (x : Int) : isD x = true ↔ 48 ≤ x ∧ x ≤ 57 := by unfold isD; rw [Bool.and_eq_true, decide_eq_true_eq, decide_eq_true_eq]
def digs (l : List Int) : List Int := l.takeWhile isD
theorem digs_pos {x : Int} {l : List Int} (h : isD x = true) : digs (x :: l) = x :: digs l := List.takeWhile_cons_of_pos h
theorem digs_neg {x : Int} {l : List Int} (h : isD x = false) : digs (x :: l) = [] := List.takeWhile_cons_of_neg (by rw [h]; decide)
theorem digs_at_pos {s : List Int} {i : Nat} (hi : i < s.length) (h : isD s[i] = true) : digs (s.drop i) = s[i] :: digs (s.drop (i + 1)) := by rw [List.drop_eq_getElem_cons hi, digs_pos h]
theorem digs_at_neg {s : List Int} {i : Nat} (hi : i < s.length) (h : isD s[i] = false) : digs (s.drop i) = [] := by rw [List.drop_eq_getElem_cons hi, digs_neg h]
theorem digs_at_end {s : List Int} {i : Nat} (hi : s.length ≤ i) : digs (s.drop i) = [] := by rw [List.drop_eq_nil_of_le hi]; rfl
def AllD (l : List Int) : Prop := ∀ x ∈ l, 48 ≤ x ∧ x ≤ 57
theorem digs_all (l : List Int) : AllD (digs l) := fun x hx => (isD_iff x).1 (List.all_eq_true.1 (List.all_takeWhile ..) x hx)
theorem AllD.tail {c : Int} {l : List Int} (h : AllD (c :: l)) : AllD l := fun x hx => h x (List.mem_cons_of_mem _ hx)
theorem AllD.head {c : Int} {l : List Int} (h : AllD (c :: l)) : 48 ≤ c ∧ c ≤ 57 := h c (List.mem_cons_self ..)
theorem digs_len (l : List Int) : (digs l).length ≤ l.length := (List.takeWhile_sublist _).length_le
theorem digs_take (l : List Int) : l.take (digs l).length = digs l := by
  unfold digs
  have h := List.takeWhile_append_dropWhile (p := isD) (l := l)
  have : l.take (l.takeWhile isD).length = (l.takeWhile isD ++ l.dropWhile isD).take (l.takeWhile isD).length := by rw [h]
  rw [this, List.take_left]
def dv (a : Int) (l : List Int) : Int := l.foldl (fun n c => 10 * n + (c - 48)) a
theorem dv_cons (a c : Int) (l : List Int) : dv a (c :: l) = dv (10 * a + (c - 48)) l := rfl
theorem dv_app (a : Int) (l m : List Int) : dv a (l ++ m) = dv (dv a l) m := List.foldl_append ..
theorem dv_split : ∀ (l : List Int) (a : Int), dv a l = a * 10 ^ l.length + dv 0 l
  | [], a => by simp [dv]
  | c :: l, a => by
    rw [dv_cons, dv_cons, dv_split l (10 * a + (c - 48)), dv_split l (10 * 0 + (c - 48)), List.length_cons, Int.pow_succ, Int.add_mul, Int.mul_zero, Int.zero_add, ← Int.add_assoc]
    congr 2
    rw [Int.mul_comm 10 a, Int.mul_assoc, Int.mul_comm 10]
theorem dv_nonneg : ∀ (l : List Int) (a : Int), AllD l → 0 ≤ a → 0 ≤ dv a l
  | [], a, _, h => h
  | c :: l, a, hd, h => dv_nonneg l (10 * a + (c - 48)) hd.tail (by have := hd.head; omega)
theorem dv_zeros : ∀ (l : List Int), dv 0 (l.dropWhile (fun x => decide (x = 48))) = dv 0 l
  | [] => rfl
  | c :: l => by
    by_cases h : c = 48
    · rw [List.dropWhile_cons_of_pos (by simp [h]), dv_zeros l, dv_cons, h]; rfl
    · rw [List.dropWhile_cons_of_neg (by simp [h])]
theorem dv_lt : ∀ (l : List Int), AllD l → dv 0 l < 10 ^ l.length
  | [], _ => by simp [dv]
  | c :: l, hd => by
    have h1 := dv_lt l hd.tail
    have h2 := hd.head
    rw [dv_cons, dv_split, List.length_cons, Int.pow_succ]
    have : (10 * 0 + (c - 48)) * 10 ^ l.length ≤ 9 * 10 ^ l.length := Int.mul_le_mul_of_nonneg_right (by omega) (Int.le_of_lt (Int.pow_pos (by omega)))
    omega
theorem dv_big {l : List Int} (hd : AllD l) (h0 : ∀ c r, l = c :: r → c ≠ 48) (h : 7 < l.length) : 10000000 ≤ dv 0 l := by
  cases l with
  | nil => cases h
  | cons c r =>
    have h1 := hd.head
    have h2 := h0 c r rfl
    have h3 := dv_nonneg r 0 hd.tail (Int.le_refl 0)
    rw [dv_cons, dv_split]
    simp only [List.length_cons] at h
    have h4 : (10 : Int) ^ 7 ≤ 10 ^ r.length := by
      have : (10 : Nat) ^ 7 ≤ 10 ^ r.length := Nat.pow_le_pow_right (by omega) (by omega)
      exact_mod_cast this
    have h5 : 1 * (10 : Int) ^ r.length ≤ (10 * 0 + (c - 48)) * 10 ^ r.length := Int.mul_le_mul_of_nonneg_right (by omega) (Int.le_of_lt (Int.pow_pos (by omega)))
    omega
def fr : List Int → Int → Int
  | [], _ => 0
  | c :: l, u => (c - 48) * u + fr l (u / 10)
theorem fr_zero : ∀ l : List Int, fr l 0 = 0
  | [] => rfl
  | c :: l => by show (c - 48) * 0 + fr l (0 / 10) = 0; rw [Int.mul_zero, show (0 : Int) / 10 = 0 from rfl, fr_zero l]; rfl
def unit : Nat → Int
  | 0 => 0
  | k + 1 => 10 ^ k
theorem unit_div (k : Nat) : unit (k + 1) / 10 = unit k := by
  cases k with
  | zero => rfl
  | succ k => show (10 : Int) ^ (k + 1) / 10 = 10 ^ k; rw [Int.pow_succ]; omega
theorem dv_rep : ∀ k : Nat, dv 0 (List.replicate k 48) = 0
  | 0 => rfl
  | k + 1 => by rw [List.replicate_succ, dv_cons]; exact dv_rep k
theorem fr_dv : ∀ (l : List Int) (k m : Nat), k ≤ m → fr l (unit k) = dv 0 ((l ++ List.replicate m 48).take k)
  | [], k, m, h => by rw [List.nil_append, List.take_replicate, Nat.min_eq_left h, dv_rep]; rfl
  | c :: l, 0, m, h => by rw [List.take_zero]; exact fr_zero _
  | c :: l, k + 1, m, h => by
    rw [List.cons_append, List.take_succ_cons, dv_cons, dv_split, List.length_take, List.length_append, List.length_replicate, Nat.min_eq_left (by omega), ← fr_dv l k m (by omega)]
    show (c - 48) * 10 ^ k + fr l (unit (k + 1) / 10) = _
    rw [unit_div, Int.mul_zero, Int.zero_add]
theorem fr_bd (l : List Int) (hd : AllD l) : 0 ≤ fr l 100000 ∧ fr l 100000 < 1000000 := by
  have e : fr l 100000 = dv 0 ((l ++ List.replicate 6 48).take 6) := fr_dv l 6 6 (Nat.le_refl 6)
  have hd' : AllD ((l ++ List.replicate 6 48).take 6) := fun x hx => by
    rcases List.mem_append.1 (List.mem_of_mem_take hx) with h | h
    · exact hd x h
    · rw [(List.mem_replicate.1 h).2]; omega
  have h1 := dv_lt _ hd'
  have h2 : ((l ++ List.replicate 6 48).take 6).length = 6 := by rw [List.length_take, List.length_append, List.length_replicate]; omega
  rw [h2] at h1
  rw [e]
  exact ⟨dv_nonneg _ _ hd' (Int.le_refl 0), h1⟩
def sat : Int → List Int → Int
  | n, [] => n
  | n, c :: l => if n ≤ 9000000000000 then sat (10 * n + (c - 48) * 1000000) l else sat n l
theorem sat_big : ∀ (l : List Int) (n : Int), 9000000000000 < n → sat n l = n
  | [], n, _ => rfl
  | c :: l, n, h => by unfold sat; rw [if_neg (by omega)]; exact sat_big l n h
theorem sat_val : ∀ (l : List Int) (a : Int), AllD l → 0 ≤ a → (sat (a * 1000000) l = dv a l * 1000000) ∨ (9000000000000 < sat (a * 1000000) l ∧ 9000000000000 < dv a l * 1000000)
  | [], a, _, _ => .inl rfl
  | c :: l, a, hd, h => by
    have hc := hd.head
    unfold sat
    rw [dv_cons]
    by_cases hn : a * 1000000 ≤ 9000000000000
    · rw [if_pos hn, show 10 * (a * 1000000) + (c - 48) * 1000000 = (10 * a + (c - 48)) * 1000000 by omega]
      exact sat_val l _ hd.tail (by omega)
    · rw [if_neg hn, sat_big _ _ (by omega)]
      refine .inr ⟨by omega, ?_⟩
      have h1 := dv_nonneg l 0 hd.tail (Int.le_refl 0)
      have h2 : a * 1 ≤ (10 * a + (c - 48)) * 10 ^ l.length := Int.mul_le_mul (by omega) (by have : (0 : Int) < 10 ^ l.length := Int.pow_pos (by omega); omega) (by omega) (by omega)
      rw [dv_split]
      omega
theorem trimLeftByte_ok (c : Int) : ∀ l : List Int, l.length ≤ 4294967296 → x_strings_trimLeftByte_L1 l c = some (l.dropWhile (fun x => decide (x = c)), ())
  | [], h => by rw [x_strings_trimLeftByte_L1_eq, if_neg (by simp)]; rfl
  | x :: l, h => by
    simp only [List.length_cons] at h
    rw [x_strings_trimLeftByte_L1_eq, if_pos (decide_eq_true (by simp only [List.length_cons]; omega)), if_pos (by simp only [List.length_cons]; omega)]
    by_cases hx : x = c
    · rw [if_pos (by simp [hx]), if_pos (by simp only [List.length_cons]; omega), List.dropWhile_cons_of_pos (by simp [hx])]
      have : List.take ((x :: l).length - 1) (List.drop 1 (x :: l)) = l := by simp
      rw [this]
      exact trimLeftByte_ok c l (by omega)
    · rw [if_neg (by simpa using hx), List.dropWhile_cons_of_neg (by simpa using hx)]
theorem TrimLeft_ok (l : List Int) (c : Int) (hc : c < 128) (h : l.length ≤ 4294967296) : x_strings_TrimLeft l [c] = some (l.dropWhile (fun x => decide (x = c)), ()) := by
  rw [x_strings_TrimLeft_eq]
  by_cases h0 : l = []
  · rw [if_pos (decide_eq_true h0), h0]; rfl
  · rw [if_neg (by rw [decide_eq_true_eq]; exact h0), if_neg (by simp), if_pos (by simp), if_pos (by simp), if_pos (by simpa using hc), if_pos (by simp), x_strings_trimLeftByte_eq]
    show Option.bind (x_strings_trimLeftByte_L1 l c) _ = _
    rw [trimLeftByte_ok c l h]; rfl
theorem trimRightByte_ok (c : Int) : ∀ (n : Nat) (l : List Int), l.length = n → l.length ≤ 4294967296 → ∃ r, x_strings_trimRightByte_L1 l c = some (r, ()) ∧ r.length ≤ l.length ∧ ((∀ x ∈ r, x = c) ↔ ∀ x ∈ l, x = c) := by
  intro n
  induction n with
  | zero =>
    intro l hl h
    have : l = [] := List.eq_nil_of_length_eq_zero hl
    subst this
    exact ⟨[], by rw [x_strings_trimRightByte_L1_eq, if_neg (by simp)], Nat.le_refl _, Iff.rfl⟩
  | succ n ih =>
    intro l hl h
    rw [x_strings_trimRightByte_L1_eq, if_pos (decide_eq_true (by omega)), w64_id (by omega) (by omega), if_pos (by omega), show ((l.length : Int) - 1).toNat = l.length - 1 by omega, getD_lt (by omega)]
    by_cases hx : l[l.length - 1] = c
    · rw [if_pos (decide_eq_true hx), if_pos (by omega)]
      have e : List.take (l.length - 1 - 0) (List.drop 0 l) = l.take (l.length - 1) := rfl
      rw [e]
      obtain ⟨r, r1, r2, r3⟩ := ih (l.take (l.length - 1)) (by rw [List.length_take]; omega) (by rw [List.length_take]; omega)
      have hs : l = l.take (l.length - 1) ++ [c] := by
        have h1 := List.take_append_drop (l.length - 1) l
        have h2 : l.drop (l.length - 1) = [l[l.length - 1]] := by
          rw [List.drop_eq_getElem_cons (by omega), List.drop_eq_nil_of_le (by omega)]
        rw [h2, hx] at h1
        exact h1.symm
      rw [List.length_take] at r2
      refine ⟨r, r1, by omega, r3.trans ?_⟩
      constructor
      · intro h5 x hx5
        rw [hs] at hx5
        rcases List.mem_append.1 hx5 with h6 | h6
        · exact h5 x h6
        · exact List.mem_singleton.1 h6
      · intro h5 x hx5
        exact h5 x (List.mem_of_mem_take hx5)
    · rw [if_neg (by rw [decide_eq_true_eq]; exact hx)]
      exact ⟨l, rfl, Nat.le_refl _, Iff.rfl⟩
theorem dropWhile_nil (c : Int) : ∀ l : List Int, l.dropWhile (fun x => decide (x = c)) = [] ↔ ∀ x ∈ l, x = c
  | [] => by simp
  | a :: l => by
    by_cases h : a = c
    · rw [List.dropWhile_cons_of_pos (by simp [h]), dropWhile_nil c l]
      simp [h]
    · rw [List.dropWhile_cons_of_neg (by simp [h])]
      simp [h]
theorem Trim_ok (l : List Int) (h : l.length ≤ 4294967296) : ∃ r, x_strings_Trim l [32] = some (r, ()) ∧ (r = [] ↔ ∀ x ∈ l, x = 32) := by
  rw [x_strings_Trim_eq]
  by_cases h0 : l = []
  · rw [if_pos (decide_eq_true h0)]; exact ⟨l, rfl, by simp [h0]⟩
  · obtain ⟨r, r1, r2, r3⟩ := trimRightByte_ok 32 l.length l rfl h
    rw [if_neg (by rw [decide_eq_true_eq]; exact h0), if_neg (by simp), if_pos (by simp), if_pos (by simp), if_pos (by simp), if_pos (by simp), x_strings_trimRightByte_eq]
    show ∃ x, (Option.bind (x_strings_trimRightByte_L1 l 32) _) = some (x, ()) ∧ _
    rw [r1, Option.bind_some, if_pos (by simp), x_strings_trimLeftByte_eq]
    show ∃ x, (Option.bind (x_strings_trimLeftByte_L1 r 32) _) = some (x, ()) ∧ _
    rw [trimLeftByte_ok 32 r (by omega)]
    exact ⟨_, rfl, (dropWhile_nil 32 r).trans r3⟩
theorem atoi_L2_ok (t : List Int) (ht : t.length ≤ 18) (hd : AllD t) (h0 : ∀ c r, t = c :: r → c ≠ 45) (hne : t ≠ []) : ∀ (d i : Nat) (n : Int), i + d = t.length → 0 ≤ n → n < 10 ^ i → x_internal_strconv_Atoi_L2 t n t (t.length : Int) (i : Int) = some (dv n (t.drop i), (), ()) := by
  intro d
  induction d with
  | zero =>
    intro i n hi n0 n1
    rw [x_internal_strconv_Atoi_L2_eq, if_neg (by rw [decide_eq_true_eq]; omega), if_pos (by have := List.length_pos_iff.2 hne; omega), List.drop_eq_nil_of_le (by omega)]
    cases t with
    | nil => exact absurd rfl hne
    | cons c r => rw [if_neg (by have := h0 c r rfl; simpa using this)]; rfl
  | succ d ih =>
    intro i n hi n0 n1
    have hlt : i < t.length := by omega
    have hx := hd _ (List.getElem_mem hlt)
    have hp : (10 : Int) ^ i ≤ 10 ^ 17 := by
      have : (10 : Nat) ^ i ≤ 10 ^ 17 := Nat.pow_le_pow_right (by omega) (by omega)
      exact_mod_cast this
    have hp1 : (10 : Int) ^ (i + 1) = 10 ^ i * 10 := Int.pow_succ ..
    have e8 : w8 (t[i] - 48) = t[i] - 48 := w8_id (by omega) (by omega)
    rw [x_internal_strconv_Atoi_L2_eq, if_pos (decide_eq_true (by omega)), if_pos (by omega), getD_nat hlt, e8, if_neg (by rw [decide_eq_true_eq]; omega), w64_id (n := n * 10) (by omega) (by omega), w64_id (n := t[i] - 48) (by omega) (by omega), w64_id (by omega) (by omega), w64_succ hlt (by omega), ih (i + 1) _ (by omega) (by omega) (by omega), List.drop_eq_getElem_cons hlt, dv_cons, Int.mul_comm n 10]
theorem atoi_ok (t : List Int) (ht : t.length ≤ 18) (hd : AllD t) (hne : t ≠ []) : x_strconv_Atoi t = some (dv 0 t, (), ()) := by
  have hp := List.length_pos_iff.2 hne
  have h0 : ∀ c r, t = c :: r → c ≠ 45 ∧ c ≠ 43 := fun c r h => by
    subst h; have := hd.head; omega
  have hg : ∀ z, t.getD 0 z ≠ 45 ∧ t.getD 0 z ≠ 43 := fun z => by
    cases t with
    | nil => exact absurd rfl hne
    | cons c r => exact h0 c r rfl
  rw [x_strconv_Atoi_eq, x_internal_strconv_Atoi_eq, if_pos (decide_eq_true (by omega)), if_pos (decide_eq_true (by omega)), if_pos (by omega), if_neg (by rw [decide_eq_true_eq]; exact (hg 0).1), if_pos (by omega), if_neg (by rw [decide_eq_true_eq]; exact (hg 0).2), x_internal_strconv_Atoi_L1_eq, if_pos (by rw [room_eq]; omega)]
  have := atoi_L2_ok t ht hd (fun c r h => (h0 c r h).1) hne t.length 0 0 (by omega) (by omega) (by simp)
  rw [show (((0 : Nat)) : Int) = 0 from rfl, List.drop_zero] at this
  rw [this]; rfl
theorem i_DecOk_ok (n : Int) : i_DecOk n = some (decide (-9000000000000 ≤ n ∧ n ≤ 9000000000000), ()) := by rw [i_DecOk_eq, i_in_ok]; rfl
theorem i_right_ok (n : Int) : i_right n = some (if -9000000000000 ≤ n ∧ n ≤ 9000000000000 then (n, true, ()) else (0, false, ())) := by
  rw [i_right_eq, i_DecOk_ok, Option.bind_some]
  by_cases h : -9000000000000 ≤ n ∧ n ≤ 9000000000000
  · rw [decide_eq_true h, if_neg (by simp), if_pos h]
  · rw [decide_eq_false h, if_pos (by simp), if_neg h]
theorem millionths_ok (w r : List Int) (hw : AllD w) (hr : AllD r) (lw : w.length ≤ 1000000) (lr : r.length ≤ 1000000) : i_millionths w r = some (if dv 0 w * 1000000 + fr r 100000 ≤ 9000000000000 then (dv 0 w * 1000000 + fr r 100000, true, ()) else (0, false, ())) := by
  rw [i_millionths_eq, TrimLeft_ok _ _ (by omega) (by omega), Option.bind_some]
  have hb := fr_bd r hr
  have hz := dv_zeros w
  have hT : AllD (w.dropWhile (fun x => decide (x = 48))) := fun x hx => hw x ((List.dropWhile_sublist _).subset hx)
  have hTl : (w.dropWhile (fun x => decide (x = 48))).length ≤ w.length := (List.dropWhile_sublist _).length_le
  have hT0 : ∀ c r, w.dropWhile (fun x => decide (x = 48)) = c :: r → c ≠ 48 := fun c r h => by
    have := List.head?_dropWhile_not (fun x => decide (x = 48)) w
    rw [h] at this
    simpa using this
  generalize w.dropWhile (fun x => decide (x = 48)) = T at *
  rw [if_pos (by simp only [List.length_cons, List.length_nil]; omega), if_pos (by rw [List.length_append]; simp only [List.length_cons, List.length_nil]; omega)]
  by_cases h7 : (T.length : Int) > 7
  · have := dv_big hT hT0 (by omega)
    rw [if_pos (decide_eq_true h7), if_neg (by omega)]
  · have e6 : List.take (6 - 0) (List.drop 0 (r ++ [48, 48, 48, 48, 48, 48])) = (r ++ List.replicate 6 48).take 6 := rfl
    have hR : AllD ((r ++ List.replicate 6 48).take 6) := fun x hx => by
      rcases List.mem_append.1 (List.mem_of_mem_take hx) with h | h
      · exact hr x h
      · rw [(List.mem_replicate.1 h).2]; omega
    have hRl : ((r ++ List.replicate 6 48).take 6).length = 6 := by rw [List.length_take, List.length_append, List.length_replicate]; omega
    have hRv : dv 0 ((r ++ List.replicate 6 48).take 6) = fr r 100000 := (fr_dv r 6 6 (Nat.le_refl 6)).symm
    rw [e6, if_neg (by rw [decide_eq_true_eq]; exact h7)]
    generalize (r ++ List.replicate 6 48).take 6 = R at *
    rw [if_pos (by simp only [List.length_cons, List.length_nil]; omega), if_pos (by simp only [List.length_append, List.length_cons, List.length_nil]; omega)]
    have hall : AllD (([48] ++ T) ++ R) := fun x hx => by
      rcases List.mem_append.1 hx with h | h
      · rcases List.mem_append.1 h with h | h
        · rw [List.mem_singleton.1 h]; omega
        · exact hT x h
      · exact hR x h
    rw [atoi_ok _ (by simp only [List.length_append, List.length_cons, List.length_nil]; omega) hall (by simp), Option.bind_some]
    have ev : dv 0 (([48] ++ T) ++ R) = dv 0 w * 1000000 + fr r 100000 := by
      rw [dv_app, dv_app, dv_split, hRl, hRv, show dv 0 [48] = 0 from rfl, hz]; rfl
    have hn := dv_nonneg w 0 hw (Int.le_refl 0)
    rw [ev, i_right_ok, Option.bind_some]
    by_cases hm : dv 0 w * 1000000 + fr r 100000 ≤ 9000000000000
    · rw [if_pos hm, if_pos ⟨by omega, hm⟩]
    · rw [if_neg hm, if_neg (fun x => hm x.2)]
end Go.Proofs.YtonmohpdmhfjnaaGreatDoor.E.TM
