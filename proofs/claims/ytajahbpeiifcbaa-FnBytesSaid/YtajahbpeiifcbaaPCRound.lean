/- Numbers and texts that are written are read as they were. No condition. -/
import Derived.Test.YtajahbpeiifcbaaPCReadText
import Derived.Test.YtajahbpeiifcbaaTCe1
namespace Go.Proofs.Ytajahbpeiifcbaa.E.TC
open Go.Proofs.Ytajahbpeiifcbaa.E
set_option linter.unusedVariables false
theorem drop_cons {b r : List Int} {n : Nat} {x : Int} (h : b.drop n = x :: r) : n < b.length ∧ b.getD n 0 = x ∧ b.drop (n + 1) = r := by
  have hl : n < b.length := by
    have := congrArg List.length h
    rw [List.length_drop] at this
    simp only [List.length_cons] at this
    omega
  rw [List.drop_eq_getElem_cons hl] at h
  simp only [List.cons.injEq] at h
  exact ⟨hl, by rw [getD_lt hl]; exact h.1, h.2⟩
theorem getNum_put (b : List Int) (p : Int) (hp : 0 ≤ p) : ∀ (d k : Nat) (acc w : Int) (rest : List Int), k + d = 8 → b.drop (p + k).toNat = putNum d w ++ rest → 0 ≤ w → w < 128 ^ (d + 1) → 0 ≤ acc → acc < 128 ^ k → (0 < k → 0 < w) → acc + w * 128 ^ k ≤ 4611686018427387903 →
    getNum b p (d + 1) acc k = (acc + w * 128 ^ k, p + k + (putNum d w).length, true) := by
  intro d
  induction d with
  | zero =>
    intro k acc w rest hd hb w0 w1 a0 a1 hk hm
    have w1' : w < 128 := by simpa using w1
    have hb' : b.drop (p + k).toNat = (w % 256) :: rest := hb
    obtain ⟨g1, g2, g3⟩ := drop_cons hb'
    rw [show w % 256 = w by omega] at g2
    unfold getNum
    have hpow : (0 : Int) ≤ w * 128 ^ k := Int.mul_nonneg w0 (Int.le_of_lt (Int.pow_pos (by omega)))
    rw [if_pos (by omega), g2]
    dsimp only
    rw [show w % 128 = w by omega, or_shl a0 a1 w0 w1' (by omega), if_neg (by omega), if_neg (by rintro (h | h) <;> omega)]
    rfl
  | succ d ih =>
    intro k acc w rest hd hb w0 w1 a0 a1 hk hm
    by_cases h : w > 127
    · rw [putNum_big d h] at hb
      obtain ⟨g1, g2, g3⟩ := drop_cons hb
      have hpow : (0 : Int) < 128 ^ k := Int.pow_pos (by omega)
      have hps : (128 : Int) ^ (k + 1) = 128 ^ k * 128 := Int.pow_succ ..
      have hwd : w * 128 ^ k = w % 128 * 128 ^ k + w / 128 * (128 ^ k * 128) := by
        have e : w = w % 128 + 128 * (w / 128) := by omega
        have e2 : w * 128 ^ k = (w % 128 + 128 * (w / 128)) * 128 ^ k := by rw [← e]
        rw [e2, Int.add_mul, Int.mul_comm (128 ^ k) 128, ← Int.mul_assoc, Int.mul_comm 128 (w / 128)]
      have hmm : w % 128 * 128 ^ k ≤ 127 * 128 ^ k := Int.mul_le_mul_of_nonneg_right (by omega) (by omega)
      have hnn : 0 ≤ w % 128 * 128 ^ k := Int.mul_nonneg (by omega) (by omega)
      have e := ih (k + 1) (acc + w % 128 * 128 ^ k) (w / 128) rest (by omega) (by rw [show (p + ((k + 1 : Nat) : Int)).toNat = (p + k).toNat + 1 by omega]; exact g3) (by omega) (by rw [Int.pow_succ] at w1; omega) (by omega) (by rw [hps]; omega) (fun _ => by omega) (by rw [hps]; omega)
      have hp2 : putNum (d + 1) w = (w % 128 + 128) :: putNum d (w / 128) := putNum_big d h
      rw [getNum, if_pos (by omega), g2]
      dsimp only
      rw [show (w % 128 + 128) % 128 = w % 128 by omega, or_shl a0 a1 (by omega) (by omega) (by omega), if_pos (by omega), show (k : Int) + 1 = ((k + 1 : Nat) : Int) by omega, e, hp2, hps, Int.add_assoc, ← hwd]
      simp only [List.length_cons, Prod.mk.injEq, and_true, true_and]
      omega
    · have hp2 : putNum (d + 1) w = [w % 256] := by show (if w > 127 then _ else _) = _; rw [if_neg h]
      rw [hp2] at hb
      obtain ⟨g1, g2, g3⟩ := drop_cons hb
      rw [show w % 256 = w by omega] at g2
      have hpow : (0 : Int) ≤ w * 128 ^ k := Int.mul_nonneg w0 (Int.le_of_lt (Int.pow_pos (by omega)))
      rw [getNum, if_pos (by omega), g2]
      dsimp only
      rw [show w % 128 = w by omega, or_shl a0 a1 w0 (by omega) (by omega), if_neg (by omega), if_neg (by rintro (h | h) <;> omega), hp2]
      rfl
theorem num_round (n : Int) (h : 0 ≤ n ∧ n ≤ 4611686018427387903) (rest : List Int) : getNumOf (putNumOf n ++ rest) 0 = (n, ((putNumOf n).length : Int), true) ∧ 0 < (putNumOf n).length := by
  have e : putNumOf n = putNum 8 n := by unfold putNumOf; rw [if_pos h]
  have hl : 0 < (putNum 8 n).length := by
    show 0 < (if n > 127 then (n % 128 + 128) :: putNum 7 (n / 128) else [n % 256]).length
    split <;> simp
  rw [e]
  refine ⟨?_, hl⟩
  unfold getNumOf
  rw [if_pos (by omega)]
  have := getNum_put (putNum 8 n ++ rest) 0 (by omega) 8 0 0 n rest (by omega) (by simp) h.1 (by have := h.2; omega) (by omega) (by simp) (fun h => by omega) (by simpa using h.2)
  simpa using this
theorem putNum_bytes (d : Nat) : ∀ n : Int, 0 ≤ n → ∀ x ∈ putNum d n, 0 ≤ x ∧ x ≤ 255 := by
  induction d with
  | zero => intro n h x hx; rw [List.mem_singleton.1 (show x ∈ [n % 256] from hx)]; omega
  | succ d ih =>
    intro n h x hx
    by_cases hb : n > 127
    · rw [putNum_big d hb] at hx
      rcases List.mem_cons.1 hx with rfl | hx
      · omega
      · exact ih _ (by omega) x hx
    · have hp2 : putNum (d + 1) n = [n % 256] := by show (if n > 127 then _ else _) = _; rw [if_neg hb]
      rw [hp2] at hx
      rw [List.mem_singleton.1 hx]; omega
theorem putNumOf_bytes (n : Int) : Bytes (putNumOf n) := by
  unfold putNumOf
  split
  · rename_i h; exact putNum_bytes 8 n h.1
  · intro x hx; cases hx
theorem text_round (t : List Int) (ht : t.length ≤ 1000000) : getTextOf (putText t) 0 = (t, ((putText t).length : Int), true) := by
  obtain ⟨h1, h2⟩ := num_round (t.length : Int) ⟨by omega, by omega⟩ t
  unfold getTextOf putText
  rw [h1]
  dsimp only
  rw [if_pos ⟨rfl, by rw [List.length_append]; omega⟩, Int.toNat_natCast, Int.toNat_natCast, List.drop_left, List.take_length, List.length_append]
  simp only [Prod.mk.injEq, and_true, true_and]
  omega
theorem canon_bytes {b : List Int} {p q : Int} {u : List Int} (h0 : 0 ≤ p) (h1 : p < q) (h2 : q ≤ (b.length : Int)) (h : b.take q.toNat = b.take p.toNat ++ u) : List.take (q.toNat - p.toNat) (List.drop p.toNat b) = u := by
  rw [← List.drop_take, h, List.drop_left' (by rw [List.length_take]; omega)]
/-! Whole numbers with a sign. -/
def zig (n : Int) : Int := if n < 0 then -2 * n - 1 else 2 * n
def zag (n : Int) : Int := if n % 2 = 1 then -(n / 2) - 1 else n / 2
def InZ (n : Int) : Prop := -2305843009213693951 ≤ n ∧ n ≤ 2305843009213693951
instance (n : Int) : Decidable (InZ n) := inferInstanceAs (Decidable (_ ∧ _))
def putInt (n : Int) : List Int := if InZ n then putNumOf (zig n) else []
theorem i_PutInt_ok (n : Int) : i_PutInt n = some (putInt n, ()) := by
  rw [i_PutInt_eq, i_in_ok, Option.bind_some]
  unfold putInt
  by_cases h : InZ n
  · have hh := h
    unfold InZ at hh
    rw [if_pos h, if_neg (by simp [hh])]
    unfold zig
    by_cases h2 : n < 0
    · rw [if_pos (decide_eq_true h2), if_pos h2, w64_id (n := -2 * n) (by omega) (by omega), w64_id (by omega) (by omega), i_PutNum_ok]; rfl
    · rw [if_neg (by rw [decide_eq_true_eq]; exact h2), if_neg h2, w64_id (by omega) (by omega), i_PutNum_ok]; rfl
  · have hh := h
    unfold InZ at hh
    rw [if_neg h, if_pos (by simp [hh])]
theorem s_PutInt_ok (n : Int) : s_PutInt n = some (putInt n, ()) := by
  rw [s_PutInt_eq, s_l1In_ok, Option.bind_some]
  unfold putInt
  by_cases h : InZ n
  · have hh := h
    unfold InZ at hh
    rw [if_pos h, if_neg (by simp [hh])]
    unfold zig
    by_cases h2 : n < 0
    · rw [if_pos (decide_eq_true h2), if_pos h2, w64_id (n := -2 * n) (by omega) (by omega), w64_id (by omega) (by omega), s_PutNum_ok]; rfl
    · rw [if_neg (by rw [decide_eq_true_eq]; exact h2), if_neg h2, w64_id (by omega) (by omega), s_PutNum_ok]; rfl
  · have hh := h
    unfold InZ at hh
    rw [if_neg h, if_pos (by simp [hh])]
def getIntOf (b : List Int) (p : Int) : Int × Int × Bool :=
  if (getNumOf b p).2.2 = true ∧ InZ (zag (getNumOf b p).1) then (zag (getNumOf b p).1, (getNumOf b p).2.1, true) else (0, 0, false)
theorem i_int_tail (q : Int) (ok : Bool) (v : Int) : i_GetInt_L1 q ok v = some (tr3 (if ok = true ∧ InZ v then (v, q, true) else (0, 0, false))) := by
  rw [i_GetInt_L1_eq]
  cases ok with
  | false => rfl
  | true =>
    rw [if_neg (by simp), i_in_ok, Option.bind_some]
    by_cases h : InZ v
    · have hh := h
      unfold InZ at hh
      rw [decide_eq_true hh, if_neg (by simp), if_pos ⟨rfl, h⟩]; rfl
    · have hh := h
      unfold InZ at hh
      rw [decide_eq_false hh, if_pos (by simp), if_neg (fun x => h x.2)]; rfl
theorem s_int_tail (q v : Int) : s_GetInt_L1 q v = some (tr3 (if true = true ∧ InZ v then (v, q, true) else (0, 0, false))) := by
  rw [s_GetInt_L1_eq, s_l1In_ok, Option.bind_some]
  by_cases h : InZ v
  · have hh := h
    unfold InZ at hh
    rw [decide_eq_true hh, if_neg (by simp), if_pos ⟨rfl, h⟩]; rfl
  · have hh := h
    unfold InZ at hh
    rw [decide_eq_false hh, if_pos (by simp), if_neg (fun x => h x.2)]; rfl
theorem i_GetInt_ok (b : List Int) (hb : b.length ≤ 1048576) (hw : Bytes b) (p : Int) : i_GetInt b p = some (tr3 (getIntOf b p)) := by
  obtain ⟨h1, h2, h3, h4⟩ := getNumOf_bd b p
  rw [i_GetInt_eq, i_GetNum_ok b hb hw p, Option.bind_some]
  unfold getIntOf
  generalize getNumOf b p = g at *
  obtain ⟨n, q, ok⟩ := g
  simp only [tr3] at *
  simp only [Int.tmod_eq_emod_of_nonneg h1, Int.tdiv_eq_ediv_of_nonneg h1, decide_eq_true_eq, i_int_tail, tr3]
  unfold zag
  by_cases h : n % 2 = 1
  · rw [if_pos h, if_pos h, w64_id (n := n / 2) (by omega) (by omega), w64_id (n := n / 2 + 1) (by omega) (by omega), w64_id (by omega) (by omega), show 0 - (n / 2 + 1) = -(n / 2) - 1 by omega]
  · rw [if_neg h, if_neg h, w64_id (by omega) (by omega)]
theorem s_GetInt_ok (b : List Int) (hb : b.length ≤ 1048576) (hw : Bytes b) (p : Int) (hp : -9223372036854775808 ≤ p ∧ p ≤ 9223372036854775807) : s_GetInt b p = some (tr3 (getIntOf b p)) := by
  obtain ⟨h1, h2, h3, h4⟩ := getNumOf_bd b p
  rw [s_GetInt_eq, s_GetNum_ok b hb hw p hp, Option.bind_some]
  unfold getIntOf
  generalize getNumOf b p = g at *
  obtain ⟨n, q, ok⟩ := g
  simp only [tr3] at *
  cases ok with
  | false => simp
  | true =>
    simp only [Int.tmod_eq_emod_of_nonneg h1, Int.tdiv_eq_ediv_of_nonneg h1, decide_eq_true_eq, s_int_tail, tr3]
    rw [if_neg (by simp)]
    unfold zag
    by_cases h : n % 2 = 1
    · rw [if_pos h, if_pos h, w64_id (n := n / 2) (by omega) (by omega), w64_id (by omega) (by omega), show -1 - n / 2 = -(n / 2) - 1 by omega]
    · rw [if_neg h, if_neg h, w64_id (by omega) (by omega)]
theorem int_round (n : Int) (h : InZ n) : getIntOf (putInt n) 0 = (n, ((putInt n).length : Int), true) := by
  have hh := h
  unfold InZ at hh
  have hz : zag (zig n) = n := by
    unfold zig
    by_cases h2 : n < 0
    · rw [if_pos h2]; unfold zag; rw [if_pos (by omega)]; omega
    · rw [if_neg h2]; unfold zag; rw [if_neg (by omega)]; omega
  have hb : 0 ≤ zig n ∧ zig n ≤ 4611686018427387903 := by unfold zig; split <;> omega
  obtain ⟨h1, h2⟩ := num_round (zig n) hb []
  rw [List.append_nil] at h1
  unfold getIntOf putInt
  rw [if_pos h, h1]
  dsimp only
  rw [hz, if_pos ⟨rfl, h⟩]
theorem int_canon (b : List Int) (hw : Bytes b) (p v q : Int) (h : getIntOf b p = (v, q, true)) : 0 ≤ p ∧ p < q ∧ q ≤ (b.length : Int) ∧ b.take q.toNat = b.take p.toNat ++ putInt v := by
  unfold getIntOf at h
  cases hg : getNumOf b p with | mk n mo =>
  obtain ⟨m, ok⟩ := mo
  rw [hg] at h
  dsimp only at h
  by_cases hc : ok = true ∧ InZ (zag n)
  · obtain ⟨rfl, hz⟩ := hc
    rw [if_pos ⟨rfl, hz⟩] at h
    simp only [Prod.mk.injEq, and_true] at h
    obtain ⟨rfl, rfl⟩ := h
    obtain ⟨c1, c2, c3, c4, c5, c6⟩ := num_canon b hw p n m hg
    refine ⟨c1, c2, c3, ?_⟩
    have hzz : zig (zag n) = n := by
      unfold zag
      by_cases h2 : n % 2 = 1
      · rw [if_pos h2]; unfold zig; rw [if_pos (by omega)]; omega
      · rw [if_neg h2]; unfold zig; rw [if_neg (by omega)]; omega
    unfold putInt
    rw [if_pos hz, hzz]; exact c4
  · rw [if_neg hc] at h; simp at h
end Go.Proofs.Ytajahbpeiifcbaa.E.TC
