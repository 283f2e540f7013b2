/- Patterns: what the program parses is what the reference parses. Plain Lean. No condition but lengths and bytes. -/
import Derived.Test.YtonmohpdmhfjnaaGreatDoorPBase
import Derived.Test.YtonmohpdmhfjnaaGreatDoorTMe1
import Derived.Test.YtonmohpdmhfjnaaGreatDoorTMe2
namespace Go.Proofs.YtonmohpdmhfjnaaGreatDoor.E.TM
open Go.Proofs.YtonmohpdmhfjnaaGreatDoor.E
set_option linter.unusedVariables false
inductive Small : impl_Rex → Prop
  | mk (x : impl_Rex) : x.Kids.length ≤ 100 → (∀ k ∈ x.Kids, Small k) → Small x
theorem small_leaf {x : impl_Rex} (h : x.Kids = []) : Small x := .mk x (by rw [h]; decide) (fun k hk => by rw [h] at hk; cases hk)
theorem mxI_max (a b : Int) : mxI a b = if a > b then a else b := by unfold mxI; split <;> split <;> omega
theorem deep_same {x : impl_Rex} (h : Small x) : ∃ v, s_l3Deep x = some (v, ()) ∧ i_rexDeep x = some (v, ()) := by
  induction h with
  | mk x hl hs ih =>
    rw [s_l3Deep_eq, i_rexDeep_eq]
    have key : ∀ (n i : Nat) (t : Int), i + n = x.Kids.length → ∃ v, s_l3Deep_L1 t i x = some (v, ()) ∧ i_rexDeep_L1 t x.Kids x.Kids.length i = some (v, ()) := by
      intro n
      induction n with
      | zero =>
        intro i t hi
        rw [s_l3Deep_L1_eq, i_rexDeep_L1_eq, if_neg (by rw [decide_eq_true_eq]; omega), if_neg (by rw [decide_eq_true_eq]; omega)]
        exact ⟨_, rfl, rfl⟩
      | succ n ihn =>
        intro i t hi
        have hi' : i < x.Kids.length := by omega
        obtain ⟨v, e1, e2⟩ := ih x.Kids[i] (List.getElem_mem hi')
        rw [s_l3Deep_L1_eq, if_pos (decide_eq_true (by omega)), if_pos (by omega), i_rexDeep_L1_eq, if_pos (decide_eq_true (by omega)), if_pos (by omega), getD_nat hi', e1, e2, Option.bind_some, Option.bind_some]
        dsimp only
        rw [s_l1Max_eq, mxI_max, w64_succ hi' (by omega)]
        by_cases c : t > v
        · rw [if_pos (decide_eq_true c), if_pos c, Option.bind_some]; exact ihn (i + 1) t (by omega)
        · rw [if_neg (by rw [decide_eq_true_eq]; exact c), if_neg c, Option.bind_some]; exact ihn (i + 1) v (by omega)
    exact key x.Kids.length 0 0 (by omega)
theorem now_bad {c : spec_l3Cur} {b : Int} (h : c.bad = true) : s_l3Now c b = some (false, c, ()) := by rw [s_l3Now_eq, if_neg (by simp [h])]
theorem now_end {S : List Int} {p : Nat} {b : Int} (h : S.length ≤ p) : s_l3Now ⟨S, p, false⟩ b = some (false, ⟨S, p, false⟩, ()) := by
  rw [s_l3Now_eq, if_pos (by simp), if_neg (by rw [decide_eq_true_eq]; simp; omega)]
theorem now_at {S : List Int} {p : Nat} {b : Int} (h : p < S.length) : s_l3Now ⟨S, p, false⟩ b = some (decide (S[p] = b), ⟨S, p, false⟩, ()) := by
  rw [s_l3Now_eq]; dsimp only
  rw [if_pos (by simp), if_pos (decide_eq_true (by omega)), if_pos (by omega), getD_nat h]
theorem next_no {r : impl_rexReader} (h : r.s = [] ∨ r.bad = true) : i_rexReader_next r = some (0, false, r, ()) := by
  rw [i_rexReader_next_eq]
  by_cases h1 : r.s = []
  · rw [if_pos (decide_eq_true h1)]
  · rw [if_neg (by rw [decide_eq_true_eq]; exact h1), if_pos (h.resolve_left h1)]
theorem next_yes {b : Int} {s : List Int} : i_rexReader_next ⟨b :: s, false⟩ = some (b, true, ⟨b :: s, false⟩, ()) := by
  rw [i_rexReader_next_eq, if_neg (by simp), if_neg (by simp), if_pos (by simp)]
  rfl
theorem cut1 (b : Int) (s : List Int) : List.take ((b :: s).length - 1) (List.drop 1 (b :: s)) = s := by simp
theorem take_no {r : impl_rexReader} {b : Int} (h : r.s = [] ∨ r.bad = true) : i_rexReader_take r b = some (false, r, ()) := by
  rw [i_rexReader_take_eq, next_no h, Option.bind_some, if_pos (by simp)]
theorem take_yes {b : Int} {s : List Int} : i_rexReader_take ⟨b :: s, false⟩ b = some (true, ⟨s, false⟩, ()) := by
  rw [i_rexReader_take_eq, next_yes, Option.bind_some, if_neg (by simp), if_neg (by simp), if_pos (by simp; omega)]
  dsimp only
  rw [cut1]
theorem take_other {a b : Int} {s : List Int} (h : a ≠ b) : i_rexReader_take ⟨a :: s, false⟩ b = some (false, ⟨a :: s, false⟩, ()) := by
  rw [i_rexReader_take_eq, next_yes, Option.bind_some, if_neg (by simp), if_pos (by simp [h])]
theorem reader_cases (r : impl_rexReader) : (r.s = [] ∨ r.bad = true) ∨ ∃ b s, r = ⟨b :: s, false⟩ := by
  obtain ⟨s, bad⟩ := r
  cases s with
  | nil => exact .inl (.inl rfl)
  | cons b s => cases bad with
    | true => exact .inl (.inr rfl)
    | false => exact .inr ⟨b, s, rfl⟩
def fillN (f : List Bool) (j : Nat) : Nat → List Bool
  | 0 => f
  | n + 1 => fillN (f.set j true) (j + 1) n
theorem fillN_len (n : Nat) : ∀ (f : List Bool) (j : Nat), (fillN f j n).length = f.length := by
  induction n with
  | zero => intro f j; rfl
  | succ n ih => intro f j; unfold fillN; rw [ih, List.length_set]
theorem fill_s {k hi : Int} (c : spec_l3Cur) (z w : impl_Rex) (hh : hi ≤ 255) : ∀ (n : Nat) (f : List Bool) (j : Nat), f.length = 256 → (hi + 1 - j).toNat = n → s_l3Set_L7 f k hi j c z w = s_l3Set_L2 (fillN f j n) (w64 (k + 1)) c z w := by
  intro n
  induction n with
  | zero => intro f j hf hn; rw [s_l3Set_L7_eq, if_neg (by rw [decide_eq_true_eq]; omega)]; rfl
  | succ n ih =>
    intro f j hf hn
    rw [s_l3Set_L7_eq, if_pos (by rw [decide_eq_true_eq]; omega), if_pos (by omega), w64_id (n := (j : Int) + 1) (by omega) (by omega), Int.toNat_natCast]
    exact ih (f.set j true) (j + 1) (by rw [List.length_set]; exact hf) (by omega)
theorem fill_i {t : List Int} {k hi : Int} (c : impl_rexReader) (z w : impl_Rex) (hh : hi ≤ 255) : ∀ (n : Nat) (f : List Bool) (j : Nat), f.length = 256 → (hi + 1 - j).toNat = n → i_rexReader_set_L4 t f k hi j c z w = i_rexReader_set_L1 t (fillN f j n) (w64 (k + 1)) c z w := by
  intro n
  induction n with
  | zero => intro f j hf hn; rw [i_rexReader_set_L4_eq, if_neg (by rw [decide_eq_true_eq]; omega)]; rfl
  | succ n ih =>
    intro f j hf hn
    rw [i_rexReader_set_L4_eq, if_pos (by rw [decide_eq_true_eq]; omega), if_pos (by omega), w64_id (n := (j : Int) + 1) (by omega) (by omega), Int.toNat_natCast]
    exact ih (f.set j true) (j + 1) (by rw [List.length_set]; exact hf) (by omega)
def setRun : Nat → List Int → List Bool → Bool → List Bool × Bool
  | 0, _, f, b => (f, b)
  | _ + 1, [], f, b => (f, b)
  | n + 1, lo :: t, f, b => match t with
    | d :: hi :: u => if d = 45 then setRun n u (fillN f lo.toNat (hi + 1 - lo).toNat) (b || decide (hi < lo)) else setRun n t (fillN f lo.toNat (lo + 1 - lo).toNat) b
    | _ => setRun n t (fillN f lo.toNat (lo + 1 - lo).toNat) b
theorem setRun_len (n : Nat) : ∀ (l : List Int) (f : List Bool) (b : Bool), (setRun n l f b).1.length = f.length := by
  induction n with
  | zero => intro l f b; rfl
  | succ n ih =>
    intro l f b
    match l with
    | [] => rfl
    | [lo] => show (setRun n [] _ b).1.length = _; rw [ih, fillN_len]
    | [lo, d] => show (setRun n [d] _ b).1.length = _; rw [ih, fillN_len]
    | lo :: d :: hi :: u =>
      show (if d = 45 then _ else _ : List Bool × Bool).1.length = _
      split
      · rw [ih, fillN_len]
      · rw [ih, fillN_len]
def colN (f : List Bool) : Nat → Nat → List Int → List Int
  | _, 0, t => t
  | j, n + 1, t => colN f (j + 1) n (if f.getD j false = true then t ++ [w8 j] else t)
theorem col_s (c : spec_l3Cur) (z w : impl_Rex) {f : List Bool} (hf : f.length = 256) : ∀ (n j : Nat) (t : List Int), j + n = 256 → t.length ≤ j → s_l3Set_L6 f t j c z w = some (⟨w.Op, w.C, colN f j n t, w.Not, w.Kids⟩, c, ()) := by
  intro n
  induction n with
  | zero => intro j t hj ht; rw [s_l3Set_L6_eq, if_neg (by rw [decide_eq_true_eq]; omega)]; rfl
  | succ n ih =>
    intro j t hj ht
    rw [s_l3Set_L6_eq, if_pos (by rw [decide_eq_true_eq]; omega), if_pos (by omega), w64_id (n := (j : Int) + 1) (by omega) (by omega), Int.toNat_natCast]
    unfold colN
    by_cases c : f.getD j false = true
    · rw [if_pos c, if_pos c, if_pos (by rw [room_eq]; omega)]
      exact ih (j + 1) _ (by omega) (by simp; omega)
    · rw [if_neg c, if_neg c]
      exact ih (j + 1) _ (by omega) (by omega)
theorem col_i (c : impl_rexReader) (z w : impl_Rex) {f : List Bool} (hf : f.length = 256) : ∀ (n j : Nat) (t : List Int), j + n = 256 → t.length ≤ j → i_rexReader_set_L3 t f 256 j c z w = some (⟨w.Op, w.C, colN f j n t, w.Not, w.Kids⟩, c, ()) := by
  intro n
  induction n with
  | zero => intro j t hj ht; rw [i_rexReader_set_L3_eq, if_neg (by rw [decide_eq_true_eq]; omega)]; rfl
  | succ n ih =>
    intro j t hj ht
    rw [i_rexReader_set_L3_eq, if_pos (by rw [decide_eq_true_eq]; omega), if_pos (by omega), w64_id (n := (j : Int) + 1) (by omega) (by omega), Int.toNat_natCast]
    unfold colN
    by_cases c : f.getD j false = true
    · rw [if_pos c, if_pos c, if_pos (by rw [room_eq]; omega)]
      exact ih (j + 1) _ (by omega) (by simp; omega)
    · rw [if_neg c, if_neg c]
      exact ih (j + 1) _ (by omega) (by omega)
theorem setRun_step (n : Nat) (lo : Int) (f : List Bool) (b : Bool) : ∀ (t : List Int), (∀ hi u, t ≠ 45 :: hi :: u) → setRun (n + 1) (lo :: t) f b = setRun n t (fillN f lo.toNat (lo + 1 - lo).toNat) b
  | [], _ => rfl
  | [_], _ => rfl
  | d :: hi :: u, h => by
    show (if d = 45 then _ else _ : List Bool × Bool) = _
    rw [if_neg (fun e => h hi u (by rw [e]))]
theorem setRun_dash (n : Nat) (lo hi : Int) (u : List Int) (f : List Bool) (b : Bool) : setRun (n + 1) (lo :: 45 :: hi :: u) f b = setRun n u (fillN f lo.toNat (hi + 1 - lo).toNat) (b || decide (hi < lo)) := by
  rw [setRun]
  exact if_pos rfl
theorem setRun_nil (n : Nat) (f : List Bool) (b : Bool) : setRun n [] f b = (f, b) := by cases n <;> rfl
def n93 (x : Int) : Bool := !decide (x = 93)
def bodyOf (l : List Int) : List Int := l.takeWhile n93
theorem body_nil : bodyOf [] = [] := rfl
theorem body_93 {l : List Int} : bodyOf (93 :: l) = [] := rfl
theorem body_cons {a : Int} {l : List Int} (h : a ≠ 93) : bodyOf (a :: l) = a :: bodyOf l := List.takeWhile_cons_of_pos (by unfold n93; simp [h])
theorem body_len (l : List Int) : (bodyOf l).length ≤ l.length := (List.takeWhile_sublist _).length_le
theorem fill_s' {k lo hi : Int} (c : spec_l3Cur) (z w : impl_Rex) (hh : hi ≤ 255) (hl : 0 ≤ lo) (f : List Bool) (hf : f.length = 256) : s_l3Set_L7 f k hi lo c z w = s_l3Set_L2 (fillN f lo.toNat (hi + 1 - lo).toNat) (w64 (k + 1)) c z w := by
  have := fill_s (k := k) c z w hh _ f lo.toNat hf rfl
  rwa [Int.toNat_of_nonneg hl] at this
theorem fill_i' {t : List Int} {k lo hi : Int} (c : impl_rexReader) (z w : impl_Rex) (hh : hi ≤ 255) (hl : 0 ≤ lo) (f : List Bool) (hf : f.length = 256) : i_rexReader_set_L4 t f k hi lo c z w = i_rexReader_set_L1 t (fillN f lo.toNat (hi + 1 - lo).toNat) (w64 (k + 1)) c z w := by
  have := fill_i (t := t) (k := k) c z w hh _ f lo.toNat hf rfl
  rwa [Int.toNat_of_nonneg hl] at this
theorem set_s (z w : impl_Rex) {S : List Int} (hS : S.length ≤ 60) (hB : ∀ b ∈ S, 0 ≤ b ∧ b ≤ 255) : ∀ (n p : Nat) (f : List Bool) (k : Int) (b : Bool), f.length = 256 → p ≤ S.length → (bodyOf (S.drop p)).length ≤ n → 0 ≤ k → k ≤ p →
    s_l3Set_L2 f k ⟨S, p, b⟩ z w = s_l3Set_L4 (setRun n (bodyOf (S.drop p)) f b).1 ⟨S, (p + (bodyOf (S.drop p)).length : Nat), (decide (S.length ≤ p + (bodyOf (S.drop p)).length) || (decide (k = 0) && decide (bodyOf (S.drop p) = []))) || (setRun n (bodyOf (S.drop p)) f b).2⟩ z w := by
  intro n
  induction n with
  | zero =>
    intro p f k b hf hp hn hk hkp
    have hn0 : bodyOf (S.drop p) = [] := List.length_eq_zero_iff.1 (by omega)
    rw [hn0, setRun_nil, s_l3Set_L2_eq]
    simp only [List.length_nil, Nat.add_zero, decide_true, Bool.and_true]
    by_cases h : p < S.length
    · have h93 : S[p] = 93 := by
        rw [List.drop_eq_getElem_cons h] at hn0
        apply Classical.byContradiction
        intro hne
        rw [body_cons hne] at hn0
        cases hn0
      rw [if_pos (by rw [decide_eq_true_eq]; omega), if_pos (by omega), getD_nat h, h93, if_neg (by simp), if_neg (by rw [decide_eq_true_eq]; omega)]
      by_cases hk0 : k = 0
      · rw [if_pos (decide_eq_true hk0), decide_eq_true hk0]; simp
      · rw [if_neg (by rw [decide_eq_true_eq]; exact hk0), decide_eq_false hk0, decide_eq_false (p := S.length ≤ p) (by omega)]; simp
    · rw [if_neg (by rw [decide_eq_true_eq]; omega), if_pos (by rw [decide_eq_true_eq]; omega), decide_eq_true (p := S.length ≤ p) (by omega)]; simp
  | succ n ih =>
    intro p f k b hf hp hn hk hkp
    by_cases h : p < S.length
    · by_cases h93 : S[p] = 93
      · have hn0 : bodyOf (S.drop p) = [] := by rw [List.drop_eq_getElem_cons h, h93, body_93]
        rw [hn0, setRun_nil, s_l3Set_L2_eq]
        simp only [List.length_nil, Nat.add_zero, decide_true, Bool.and_true]
        rw [if_pos (by rw [decide_eq_true_eq]; omega), if_pos (by omega), getD_nat h, h93, if_neg (by simp), if_neg (by rw [decide_eq_true_eq]; omega)]
        by_cases hk0 : k = 0
        · rw [if_pos (decide_eq_true hk0), decide_eq_true hk0]; simp
        · rw [if_neg (by rw [decide_eq_true_eq]; exact hk0), decide_eq_false hk0, decide_eq_false (p := S.length ≤ p) (by omega)]; simp
      · have hlo := hB _ (List.getElem_mem h)
        have e0 : bodyOf (S.drop p) = S[p] :: bodyOf (S.drop (p + 1)) := by rw [List.drop_eq_getElem_cons h, body_cons h93]
        have hstep : ∀ (t : List Int) (q : Nat) (f' : List Bool) (b' : Bool), f'.length = 256 → q ≤ S.length → p < q → (bodyOf (S.drop q)).length ≤ n → p + (bodyOf (S.drop p)).length = q + (bodyOf (S.drop q)).length → setRun (n + 1) (bodyOf (S.drop p)) f b = setRun n (bodyOf (S.drop q)) f' b' →
            s_l3Set_L2 f' (w64 (k + 1)) ⟨S, q, b'⟩ z w = s_l3Set_L4 (setRun (n + 1) (bodyOf (S.drop p)) f b).1 ⟨S, (p + (bodyOf (S.drop p)).length : Nat), (decide (S.length ≤ p + (bodyOf (S.drop p)).length) || (decide (k = 0) && decide (bodyOf (S.drop p) = []))) || (setRun (n + 1) (bodyOf (S.drop p)) f b).2⟩ z w := by
          intro t q f' b' hf' hq hpq hb he hr
          rw [hr, he, ih q f' _ b' hf' hq hb (by rw [w64_id (by omega) (by omega)]; omega) (by rw [w64_id (by omega) (by omega)]; omega)]
          have z1 : decide (w64 (k + 1) = 0) = false := by rw [w64_id (by omega) (by omega)]; exact decide_eq_false (by omega)
          have z2 : decide (bodyOf (S.drop p) = []) = false := decide_eq_false (by rw [e0]; exact List.cons_ne_nil _ _)
          rw [z1, z2]; simp
        have hno : s_l3Set_L3 f k (w64 S[p]) (w64 S[p]) ⟨S, (w64 ((p : Int) + 1)), b⟩ z w = s_l3Set_L2 (fillN f S[p].toNat (S[p] + 1 - S[p]).toNat) (w64 (k + 1)) ⟨S, (p + 1 : Nat), b⟩ z w := by
          rw [w64_id (n := S[p]) (by omega) (by omega), s_l3Set_L3_eq, if_neg (by rw [decide_eq_true_eq]; omega), s_l3Set_L5_eq, fill_s' _ z w hlo.2 hlo.1 f hf, w64_id (n := (p : Int) + 1) (by omega) (by omega)]
          rfl
        rw [s_l3Set_L2_eq]; dsimp only
        rw [if_pos (by rw [decide_eq_true_eq]; omega), if_pos (by omega), getD_nat h, if_pos (by simp [h93]), if_pos (by omega)]
        have hl1 : p + (bodyOf (S.drop p)).length = p + 1 + (bodyOf (S.drop (p + 1))).length := by rw [e0]; simp; omega
        have hn1 : (bodyOf (S.drop (p + 1))).length ≤ n := by rw [e0] at hn; simpa using hn
        have hel : (∀ hi u, bodyOf (S.drop (p + 1)) ≠ 45 :: hi :: u) → s_l3Set_L3 f k (w64 S[p]) (w64 S[p]) ⟨S, (w64 ((p : Int) + 1)), b⟩ z w = s_l3Set_L4 (setRun (n + 1) (bodyOf (S.drop p)) f b).1 ⟨S, (p + (bodyOf (S.drop p)).length : Nat), (decide (S.length ≤ p + (bodyOf (S.drop p)).length) || (decide (k = 0) && decide (bodyOf (S.drop p) = []))) || (setRun (n + 1) (bodyOf (S.drop p)) f b).2⟩ z w := fun hne => by
          rw [hno]
          exact hstep [] (p + 1) _ b (by rw [fillN_len]; exact hf) (by omega) (by omega) hn1 hl1 (by rw [e0]; exact setRun_step n _ f b _ hne)
        have w2 : w64 (w64 ((p : Int) + 1) + 1) = ((p + 2 : Nat) : Int) := by rw [w64_id (n := (p : Int) + 1) (by omega) (by omega), w64_id (by omega) (by omega)]; omega
        have w1 : w64 ((p : Int) + 1) = ((p + 1 : Nat) : Int) := by rw [w64_id (n := (p : Int) + 1) (by omega) (by omega)]; omega
        by_cases h2 : p + 2 < S.length
        · have h1 : p + 1 < S.length := by omega
          rw [w2, if_pos (by rw [decide_eq_true_eq]; omega), if_pos (by rw [w1]; omega)]
          have g1 : List.getD S (w64 ((p : Int) + 1)).toNat 0 = S[p + 1] := by rw [w1, getD_nat h1]
          have g2 : List.getD S ((p + 2 : Nat) : Int).toNat 0 = S[p + 2] := getD_nat h2 0
          rw [g1, g2]
          by_cases c1 : S[p + 1] = 45
          · rw [if_pos (decide_eq_true c1), if_pos (by omega)]
            by_cases c2 : S[p + 2] = 93
            · rw [if_neg (by simp [c2])]
              refine hel fun hi u hu => ?_
              rw [List.drop_eq_getElem_cons h1, c1, body_cons (by decide), List.drop_eq_getElem_cons h2, c2, body_93] at hu
              cases hu
            · have hhi := hB _ (List.getElem_mem h2)
              rw [if_pos (by simp [c2]), if_pos (by omega)]
              have e1 : bodyOf (S.drop (p + 1)) = 45 :: S[p + 2] :: bodyOf (S.drop (p + 3)) := by
                rw [List.drop_eq_getElem_cons h1, c1, body_cons (by decide), List.drop_eq_getElem_cons h2, body_cons c2]
              have w3 : w64 (w64 ((p : Int) + 1) + 2) = ((p + 3 : Nat) : Int) := by rw [w1, w64_id (by omega) (by omega)]; omega
              rw [w3, w64_id (n := S[p]) (by omega) (by omega), w64_id (n := S[p + 2]) (by omega) (by omega), s_l3Set_L3_eq]
              have hfin : ∀ b', b' = (b || decide (S[p + 2] < S[p])) → s_l3Set_L5 f k S[p] S[p + 2] ⟨S, ((p + 3 : Nat) : Int), b'⟩ z w = s_l3Set_L4 (setRun (n + 1) (bodyOf (S.drop p)) f b).1 ⟨S, (p + (bodyOf (S.drop p)).length : Nat), (decide (S.length ≤ p + (bodyOf (S.drop p)).length) || (decide (k = 0) && decide (bodyOf (S.drop p) = []))) || (setRun (n + 1) (bodyOf (S.drop p)) f b).2⟩ z w := fun b' hb' => by
                rw [s_l3Set_L5_eq, fill_s' _ z w hhi.2 hlo.1 f hf]
                refine hstep [] (p + 3) _ b' (by rw [fillN_len]; exact hf) (by omega) (by omega) (by rw [e1] at hn1; simp at hn1; omega) (by rw [hl1, e1]; simp; omega) ?_
                rw [e0, e1, setRun_dash, hb']
              by_cases c3 : S[p + 2] < S[p]
              · rw [if_pos (decide_eq_true c3)]; exact hfin true (by rw [decide_eq_true c3, Bool.or_true])
              · rw [if_neg (by rw [decide_eq_true_eq]; exact c3)]; exact hfin b (by rw [decide_eq_false c3, Bool.or_false])
          · rw [if_neg (by rw [decide_eq_true_eq]; exact c1)]
            refine hel fun hi u hu => ?_
            rw [List.drop_eq_getElem_cons h1] at hu
            by_cases c9 : S[p + 1] = 93
            · rw [c9, body_93] at hu; cases hu
            · rw [body_cons c9] at hu; exact c1 (List.cons.inj hu).1
        · rw [w2, if_neg (by rw [decide_eq_true_eq]; omega)]
          refine hel fun hi u hu => ?_
          have := body_len (S.drop (p + 1))
          rw [hu, List.length_drop] at this
          simp at this
          omega
    · have hd : S.drop p = [] := List.drop_eq_nil_of_le (by omega)
      rw [hd, body_nil, setRun_nil, s_l3Set_L2_eq]
      simp only [List.length_nil, Nat.add_zero, decide_true, Bool.and_true]
      rw [if_neg (by rw [decide_eq_true_eq]; omega), if_pos (by rw [decide_eq_true_eq]; omega), decide_eq_true (p := S.length ≤ p) (by omega)]; simp
theorem set_i (z w : impl_Rex) {s t : List Int} (ht : t.length ≤ 60) (hB : ∀ b ∈ t, 0 ≤ b ∧ b ≤ 255) : ∀ (n i : Nat) (f : List Bool) (b : Bool), f.length = 256 → i ≤ t.length → (t.drop i).length ≤ n →
    i_rexReader_set_L1 t f i ⟨s, b⟩ z w = i_rexReader_set_L3 [] (setRun n (t.drop i) f b).1 256 0 ⟨s, (setRun n (t.drop i) f b).2⟩ z w := by
  intro n
  induction n with
  | zero =>
    intro i f b hf hi hn
    have hd : t.drop i = [] := List.length_eq_zero_iff.1 (by omega)
    rw [List.length_drop] at hn
    rw [hd, setRun_nil, i_rexReader_set_L1_eq, if_neg (by rw [decide_eq_true_eq]; omega), hf]
    rfl
  | succ n ih =>
    intro i f b hf hi hn
    rw [List.length_drop] at hn
    by_cases h : i < t.length
    · have hlo := hB _ (List.getElem_mem h)
      rw [i_rexReader_set_L1_eq, if_pos (by rw [decide_eq_true_eq]; omega), if_pos (by omega), if_pos (by omega), getD_nat h]
      have e0 : t.drop i = t[i] :: t.drop (i + 1) := List.drop_eq_getElem_cons h
      have hel : (∀ hi u, t.drop (i + 1) ≠ 45 :: hi :: u) → i_rexReader_set_L2 t f i (w64 t[i]) (w64 t[i]) ⟨s, b⟩ z w = i_rexReader_set_L3 [] (setRun (n + 1) (t.drop i) f b).1 256 0 ⟨s, (setRun (n + 1) (t.drop i) f b).2⟩ z w := fun hne => by
        rw [i_rexReader_set_L2_eq, w64_id (n := t[i]) (by omega) (by omega), fill_i' _ z w hlo.2 hlo.1 f hf, e0, setRun_step n _ f b _ hne, w64_succ h (by omega)]
        exact ih (i + 1) _ b (by rw [fillN_len]; exact hf) (by omega) (by rw [List.length_drop]; omega)
      have w1 : w64 ((i : Int) + 1) = ((i + 1 : Nat) : Int) := w64_succ h (by omega)
      have w2 : w64 ((i : Int) + 2) = ((i + 2 : Nat) : Int) := by rw [w64_id (by omega) (by omega)]; omega
      by_cases h2 : i + 2 < t.length
      · have h1 : i + 1 < t.length := by omega
        rw [w2, if_pos (by rw [decide_eq_true_eq]; omega), w1, if_pos (by omega), getD_nat h1]
        by_cases c1 : t[i + 1] = 45
        · have hhi := hB _ (List.getElem_mem h2)
          rw [if_pos (decide_eq_true c1), if_pos (by omega), getD_nat h2, w64_id (n := t[i]) (by omega) (by omega), w64_id (n := t[i + 2]) (by omega) (by omega)]
          have e1 : t.drop (i + 1) = 45 :: t[i + 2] :: t.drop (i + 3) := by rw [List.drop_eq_getElem_cons h1, c1, List.drop_eq_getElem_cons h2]
          have hfin : ∀ b', b' = (b || decide (t[i + 2] < t[i])) → i_rexReader_set_L2 t f ((i + 2 : Nat) : Int) t[i] t[i + 2] ⟨s, b'⟩ z w = i_rexReader_set_L3 [] (setRun (n + 1) (t.drop i) f b).1 256 0 ⟨s, (setRun (n + 1) (t.drop i) f b).2⟩ z w := fun b' hb' => by
            rw [i_rexReader_set_L2_eq, fill_i' _ z w hhi.2 hlo.1 f hf, e0, e1, setRun_dash, hb', w64_succ h2 (by omega)]
            exact ih (i + 3) _ _ (by rw [fillN_len]; exact hf) (by omega) (by rw [List.length_drop]; omega)
          cases b with
          | true => rw [if_pos rfl]; exact hfin true (by simp)
          | false => rw [if_neg (by simp)]; exact hfin _ (by simp)
        · rw [if_neg (by rw [decide_eq_true_eq]; exact c1)]
          refine hel fun hi' u hu => c1 ?_
          rw [List.drop_eq_getElem_cons h1] at hu
          exact (List.cons.inj hu).1
      · rw [w2, if_neg (by rw [decide_eq_true_eq]; omega)]
        refine hel fun hi' u hu => ?_
        have := congrArg List.length hu
        rw [List.length_drop] at this
        simp at this
        omega
    · have hd : t.drop i = [] := List.drop_eq_nil_of_le (by omega)
      rw [hd, setRun_nil, i_rexReader_set_L1_eq, if_neg (by rw [decide_eq_true_eq]; omega), hf]
      rfl
end Go.Proofs.YtonmohpdmhfjnaaGreatDoor.E.TM
