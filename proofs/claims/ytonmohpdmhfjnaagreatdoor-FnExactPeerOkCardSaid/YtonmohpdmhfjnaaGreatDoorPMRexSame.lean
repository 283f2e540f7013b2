/- Patterns: what the program parses is what the reference parses. Plain Lean. No condition but lengths and bytes. -/
import Derived.Test.YtonmohpdmhfjnaaGreatDoorPMRexSim
import Derived.Test.YtonmohpdmhfjnaaGreatDoorTMe1
import Derived.Test.YtonmohpdmhfjnaaGreatDoorTMe2
namespace Go.Proofs.YtonmohpdmhfjnaaGreatDoor.E.TM
open Go.Proofs.YtonmohpdmhfjnaaGreatDoor.E
set_option linter.unusedVariables false
def Res (S : List Int) (p : Nat) (d : Int) (lo : Nat) (x : impl_Rex) (c : spec_l3Cur) (y : impl_Rex) (r : impl_rexReader) : Prop :=
  (∃ q : Nat, p + lo ≤ q ∧ q ≤ S.length ∧ c = ⟨S, (q : Int), false⟩ ∧ r = ⟨S.drop q, false⟩ ∧ x = y) ∨ (c.bad = true ∧ (r.bad = false → (r.s.length : Int) + 82 ≤ S.length + d))
def Sim (S : List Int) (p : Nat) (d : Int) (lo : Nat) (fs : Option (impl_Rex × spec_l3Cur × Unit)) (fi : Option (impl_Rex × impl_rexReader × Unit)) : Prop :=
  ∃ x c y r, fs = some (x, c, ()) ∧ fi = some (y, r, ()) ∧ Res S p d lo x c y r
theorem w_succ {p : Nat} (h : p ≤ 1000) : w64 ((p : Int) + 1) = ((p + 1 : Nat) : Int) := by rw [w64_id (by omega) (by omega)]; omega
theorem set_behind_sim {S : List Int} (hS : By S) (q : Nat) (hq : q ≤ S.length) (nt : Bool) (d : Int) :
    ∃ x c, s_l3Set_L1 ⟨S, (q : Int), false⟩ z_impl_Rex ⟨3, 0, [], nt, []⟩ = some (x, c, ()) ∧ Res S q d 0 x c (setRes (S.drop q) nt).1 (setRes (S.drop q) nt).2 := by
  have h60 := hS.1
  have hl := body_len (S.drop q)
  rw [List.length_drop] at hl
  rw [s_l3Set_L1_eq, set_s z_impl_Rex _ hS.1 hS.2 (bodyOf (S.drop q)).length q _ 0 false List.length_replicate hq (Nat.le_refl _) (Int.le_refl _) (by omega), s_l3Set_L4_eq]
  dsimp only
  have hc := fun c => col_s c z_impl_Rex ⟨3, 0, [], nt, []⟩ (f := (setRun (bodyOf (S.drop q)).length (bodyOf (S.drop q)) (List.replicate 256 false) false).1) (by rw [setRun_len]; exact List.length_replicate) 256 0 [] rfl (Nat.zero_le _)
  rw [show ((0 : Nat) : Int) = 0 from rfl] at hc
  rw [w_succ (by omega), hc]
  refine ⟨_, _, rfl, ?_⟩
  unfold setRes
  split
  · rename_i h
    refine .inr ⟨?_, fun h => by cases h⟩
    dsimp only
    rcases h with h | h
    · rw [List.length_drop] at h
      rw [decide_eq_true (p := S.length ≤ q + (bodyOf (S.drop q)).length) (by omega)]; rfl
    · rw [h, decide_eq_true (p := (0 : Int) = 0) rfl, decide_eq_true (p := ([] : List Int) = []) rfl, Bool.and_true, Bool.or_true, Bool.true_or]
  · rename_i h
    have h1 : ¬ (bodyOf (S.drop q)).length = (S.drop q).length := fun e => h (.inl e)
    have h2 : ¬ bodyOf (S.drop q) = [] := fun e => h (.inr e)
    rw [List.length_drop] at h1
    dsimp only
    rw [decide_eq_false (p := S.length ≤ q + (bodyOf (S.drop q)).length) (by omega), decide_eq_false h2, Bool.and_false, Bool.or_false, Bool.false_or, List.drop_drop]
    cases (setRun (bodyOf (S.drop q)).length (bodyOf (S.drop q)) (List.replicate 256 false) false).2 with
    | true => exact .inr ⟨rfl, fun h => by cases h⟩
    | false => exact .inl ⟨q + (bodyOf (S.drop q)).length + 1, by omega, by omega, rfl, rfl, rfl⟩
theorem set_sim {S : List Int} (hS : By S) (p : Nat) (hp : p ≤ S.length) (d : Int) : Sim S p d 0 (s_l3Set ⟨S, (p : Int), false⟩) (i_rexReader_set ⟨S.drop p, false⟩) := by
  have h60 := hS.1
  obtain ⟨nt, k, e, hk⟩ := take_94 (S.drop p)
  have hu : By ((S.drop p).drop k) := hS.suf ((List.drop_suffix _ _).trans (List.drop_suffix _ _))
  have hi := i_set_behind _ nt hu.1 hu.2 _ e
  rw [s_l3Set_eq]
  rcases hk with ⟨rfl, rfl, u, hu'⟩ | ⟨rfl, rfl, hu'⟩
  · have hlt : p < S.length := by
      have := congrArg List.length hu'
      rw [List.length_drop] at this
      simp at this; omega
    have h94 : S[p] = 94 := by
      rw [List.drop_eq_getElem_cons hlt] at hu'
      exact (List.cons.inj hu').1
    rw [now_at hlt, Option.bind_some]
    dsimp only
    rw [if_pos (decide_eq_true h94), w_succ (by omega)]
    obtain ⟨x, c, e1, e2⟩ := set_behind_sim hS (p + 1) (by omega) true d
    rw [List.drop_drop] at hi
    refine ⟨x, c, _, _, e1, hi, ?_⟩
    rcases e2 with ⟨q, a, b⟩ | h
    · exact .inl ⟨q, by omega, b⟩
    · exact .inr h
  · have hn : s_l3Now ⟨S, (p : Int), false⟩ 94 = some (false, ⟨S, (p : Int), false⟩, ()) := by
      by_cases hlt : p < S.length
      · rw [now_at hlt]
        have : ¬ S[p] = 94 := fun h => hu' (S.drop (p + 1)) (by rw [List.drop_eq_getElem_cons hlt, h])
        rw [decide_eq_false this]
      · exact now_end (by omega)
    rw [hn, Option.bind_some]
    dsimp only
    rw [if_neg (by simp)]
    obtain ⟨x, c, e1, e2⟩ := set_behind_sim hS p hp false d
    exact ⟨x, c, _, _, e1, hi, e2⟩
theorem atom_sim {S : List Int} (hS : By S) (p : Nat) (hp : p < S.length) (d : Int) (hd : 0 ≤ d) (hdp : d ≤ p)
    (hpat : Sim S (p + 1) (d + 1) 0 (s_l3Pattern ⟨S, ((p + 1 : Nat) : Int), false⟩ (d + 1)) (i_rexReader_pattern ⟨S.drop (p + 1), false⟩)) :
    Sim S p d 1 (s_l3Atom ⟨S, (p : Int), false⟩ d) (i_rexReader_atom ⟨S.drop p, false⟩) := by
  have h60 := hS.1
  have hdrop := List.drop_eq_getElem_cons hp
  unfold Sim
  rw [s_l3Atom_eq]
  dsimp only
  rw [if_neg (by simp), if_neg (by rw [decide_eq_true_eq]; omega)]
  by_cases h40 : d > 40
  · rw [if_pos (decide_eq_true h40)]
    have hb := hS.suf (List.drop_suffix p S)
    rw [hdrop] at hb ⊢
    obtain ⟨y, r, e, e1, e2, e3, e4⟩ := i_atom_tot S[p] _ hb (i_tot _ _ false (Nat.le_refl _) (hS.suf (List.drop_suffix (p + 1) S)))
    refine ⟨_, _, _, _, rfl, e, .inr ⟨rfl, fun _ => ?_⟩⟩
    simp only [List.length_cons, List.length_drop] at e2
    omega
  rw [if_neg (by rw [decide_eq_true_eq]; exact h40), if_pos (by omega), getD_nat hp, w_succ (by omega), w64_id (n := d + 1) (by omega) (by omega), hdrop, i_rexReader_atom_eq, next_yes, Option.bind_some]
  dsimp only
  rw [if_pos (c := (0 : Int) ≤ 1 ∧ (1 : Int) ≤ ((S[p] :: S.drop (p + 1)).length : Int)) (by simp; omega), drop1]
  by_cases c1 : S[p] = 40
  · rw [if_pos (decide_eq_true c1), if_pos (decide_eq_true c1)]
    obtain ⟨x, c, y, r, e1, e2, e3⟩ := hpat
    rw [e1, e2, Option.bind_some, Option.bind_some]
    dsimp only
    rcases e3 with ⟨q, q1, q2, rfl, rfl, rfl⟩ | ⟨hc, hr⟩
    · by_cases hq : q < S.length
      · rw [now_at hq, Option.bind_some, List.drop_eq_getElem_cons hq]
        dsimp only
        by_cases ha : S[q] = 41
        · rw [ha, take_yes, Option.bind_some, if_neg (by simp), w_succ (by omega)]
          dsimp only
          rw [if_neg (by simp)]
          exact ⟨_, _, _, _, rfl, rfl, .inl ⟨q + 1, by omega, by omega, rfl, rfl, rfl⟩⟩
        · rw [take_other ha, Option.bind_some, if_pos (by simp [ha])]
          dsimp only
          rw [if_pos (by simp)]
          exact ⟨_, _, _, _, rfl, rfl, .inr ⟨rfl, fun h => by cases h⟩⟩
      · rw [now_end (by omega), Option.bind_some, List.drop_eq_nil_of_le (by omega), take_no (.inl rfl), Option.bind_some]
        dsimp only
        rw [if_pos (by simp), if_pos (by simp)]
        exact ⟨_, _, _, _, rfl, rfl, .inr ⟨rfl, fun h => by cases h⟩⟩
    · rw [now_bad hc, Option.bind_some]
      dsimp only
      rw [if_pos (by simp)]
      rcases reader_cases r with hr' | ⟨a, t, rfl⟩
      · rw [take_no hr', Option.bind_some]
        dsimp only
        rw [if_pos (by simp)]
        exact ⟨_, _, _, _, rfl, rfl, .inr ⟨rfl, fun h => by cases h⟩⟩
      · have := hr rfl
        simp only [List.length_cons] at this
        by_cases ha : a = 41
        · subst ha
          rw [take_yes, Option.bind_some]
          dsimp only
          rw [if_neg (by simp)]
          exact ⟨_, _, _, _, rfl, rfl, .inr ⟨rfl, fun h => by dsimp only; omega⟩⟩
        · rw [take_other ha, Option.bind_some]
          dsimp only
          rw [if_pos (by simp)]
          exact ⟨_, _, _, _, rfl, rfl, .inr ⟨rfl, fun h => by cases h⟩⟩
  have n1 : ¬ (decide (S[p] = 40) = true) := by rw [decide_eq_true_eq]; exact c1
  rw [if_neg n1, if_neg n1]
  have good : ∀ x : impl_Rex, ∃ x' c' y' r', some (x, (⟨S, ((p + 1 : Nat) : Int), false⟩ : spec_l3Cur), ()) = some (x', c', ()) ∧ some (x, (⟨S.drop (p + 1), false⟩ : impl_rexReader), ()) = some (y', r', ()) ∧ Res S p d 1 x' c' y' r' :=
    fun x => ⟨_, _, _, _, rfl, rfl, .inl ⟨p + 1, by omega, by omega, rfl, rfl, rfl⟩⟩
  have bad : ∀ (x y : impl_Rex) (a : Int) (s : List Int), ∃ x' c' y' r', some (x, (⟨S, a, true⟩ : spec_l3Cur), ()) = some (x', c', ()) ∧ some (y, (⟨s, true⟩ : impl_rexReader), ()) = some (y', r', ()) ∧ Res S p d 1 x' c' y' r' :=
    fun x y a s => ⟨_, _, _, _, rfl, rfl, .inr ⟨rfl, fun h => by cases h⟩⟩
  by_cases c2 : S[p] = 46
  · rw [if_pos (decide_eq_true c2), if_pos (decide_eq_true c2)]; exact good _
  have n2 : ¬ (decide (S[p] = 46) = true) := by rw [decide_eq_true_eq]; exact c2
  rw [if_neg n2, if_neg n2]
  by_cases c3 : S[p] = 94
  · rw [if_pos (decide_eq_true c3), if_pos (decide_eq_true c3)]; exact good _
  have n3 : ¬ (decide (S[p] = 94) = true) := by rw [decide_eq_true_eq]; exact c3
  rw [if_neg n3, if_neg n3]
  by_cases c4 : S[p] = 36
  · rw [if_pos (decide_eq_true c4), if_pos (decide_eq_true c4)]; exact good _
  have n4 : ¬ (decide (S[p] = 36) = true) := by rw [decide_eq_true_eq]; exact c4
  rw [if_neg n4, if_neg n4]
  by_cases c5 : S[p] = 91
  · rw [if_pos (decide_eq_true c5), if_pos (decide_eq_true c5)]
    obtain ⟨x, c, y, r, e1, e2, e3⟩ := set_sim hS (p + 1) (by omega) d
    rw [e1, e2, Option.bind_some, Option.bind_some]
    refine ⟨_, _, _, _, rfl, rfl, ?_⟩
    rcases e3 with ⟨q, a, b⟩ | h
    · exact .inl ⟨q, by omega, b⟩
    · exact .inr h
  have n5 : ¬ (decide (S[p] = 91) = true) := by rw [decide_eq_true_eq]; exact c5
  rw [if_neg n5, if_neg n5]
  by_cases c6 : S[p] = 92
  · rw [if_pos (decide_eq_true c6), if_pos (decide_eq_true c6)]
    by_cases hq : p + 1 < S.length
    · rw [if_neg (by rw [decide_eq_true_eq]; omega), if_pos (by omega), getD_nat hq, w_succ (by omega), List.drop_eq_getElem_cons hq, next_yes, Option.bind_some]
      dsimp only
      rw [if_neg (by simp), if_pos (by simp; omega), cut1]
      exact ⟨_, _, _, _, rfl, rfl, .inl ⟨p + 1 + 1, by omega, by omega, rfl, rfl, rfl⟩⟩
    · rw [if_pos (decide_eq_true (by omega)), List.drop_eq_nil_of_le (by omega), next_no (.inl rfl), Option.bind_some]
      dsimp only
      rw [if_pos (by simp)]
      exact bad _ _ _ _
  have n6 : ¬ (decide (S[p] = 92) = true) := by rw [decide_eq_true_eq]; exact c6
  rw [if_neg n6, if_neg n6]
  by_cases c7 : S[p] = 42
  · rw [if_pos (decide_eq_true c7), if_pos (decide_eq_true c7), if_pos (decide_eq_true c7), s_l3Atom_L1_eq, i_rexReader_atom_L1_eq, if_pos (decide_eq_true c7)]; exact bad _ _ _ _
  have n7 : ¬ (decide (S[p] = 42) = true) := by rw [decide_eq_true_eq]; exact c7
  rw [if_neg n7, if_neg n7]
  by_cases c8 : S[p] = 43
  · rw [if_pos (decide_eq_true c8), if_pos (decide_eq_true c8), if_pos (decide_eq_true c8), s_l3Atom_L1_eq, i_rexReader_atom_L1_eq, if_pos (decide_eq_true c8)]; exact bad _ _ _ _
  have n8 : ¬ (decide (S[p] = 43) = true) := by rw [decide_eq_true_eq]; exact c8
  rw [if_neg n8, if_neg n8]
  by_cases c9 : S[p] = 63
  · rw [if_pos (decide_eq_true c9), s_l3Atom_L1_eq, i_rexReader_atom_L1_eq, if_pos (decide_eq_true c9)]; exact bad _ _ _ _
  have n9 : ¬ (decide (S[p] = 63) = true) := by rw [decide_eq_true_eq]; exact c9
  rw [if_neg n9, s_l3Atom_L1_eq, i_rexReader_atom_L1_eq, if_neg n9]
  exact good _
theorem piece_L1_bad {c : spec_l3Cur} (z x : impl_Rex) (h : c.bad = true) : s_l3Piece_L1 c z x = some (x, c, ()) := by
  rw [s_l3Piece_L1_eq, if_neg (by simp [h])]
theorem piece_L1_sim {S : List Int} (hS : By S) (d : Int) : ∀ (n p : Nat) (x : impl_Rex), p ≤ S.length → S.length - p ≤ n → Sim S p d 0 (s_l3Piece_L1 ⟨S, (p : Int), false⟩ z_impl_Rex x) (i_rexReader_piece_L1 ⟨S.drop p, false⟩ z_impl_Rex x) := by
  have h60 := hS.1
  have stop : ∀ (p : Nat) (x : impl_Rex), p ≤ S.length → ∃ x' c' y' r', some (x, (⟨S, (p : Int), false⟩ : spec_l3Cur), ()) = some (x', c', ()) ∧ some (x, (⟨S.drop p, false⟩ : impl_rexReader), ()) = some (y', r', ()) ∧ Res S p d 0 x' c' y' r' :=
    fun p x hp => ⟨_, _, _, _, rfl, rfl, .inl ⟨p, by omega, hp, rfl, rfl, rfl⟩⟩
  intro n
  induction n with
  | zero =>
    intro p x hp hn
    unfold Sim
    rw [s_l3Piece_L1_eq, if_pos (by simp), now_end (by omega), Option.bind_some]
    dsimp only
    rw [if_neg (by simp), now_end (by omega), Option.bind_some]
    dsimp only
    rw [if_neg (by simp), now_end (by omega), Option.bind_some]
    dsimp only
    rw [if_neg (by simp), s_l3Piece_L2_eq, if_pos (by simp), i_rexReader_piece_L1_eq, next_no (.inl (List.drop_eq_nil_of_le (by omega))), Option.bind_some]
    dsimp only
    rw [if_pos (by simp)]
    exact stop p x hp
  | succ n ih =>
    intro p x hp hn
    by_cases hlt : p < S.length
    · unfold Sim
      rw [s_l3Piece_L1_eq, if_pos (by simp), now_at hlt, Option.bind_some]
      dsimp only
      rw [now_at hlt, Option.bind_some]
      dsimp only
      rw [now_at hlt, Option.bind_some, i_rexReader_piece_L1_eq, List.drop_eq_getElem_cons hlt, next_yes, Option.bind_some]
      dsimp only
      obtain ⟨v, e, hv⟩ := repeat_val S[p]
      rw [if_neg (c := (!true) = true) (by simp), e, Option.bind_some]
      dsimp only
      rw [Option.bind_some]
      dsimp only
      rw [if_pos (c := (0 : Int) ≤ 1 ∧ (1 : Int) ≤ ((S[p] :: S.drop (p + 1)).length : Int)) (by simp; omega), drop1]
      have go : ∀ v : Int, v ≠ 0 → Sim S p d 0 (s_l3Piece_L2 v ⟨S, (p : Int), false⟩ z_impl_Rex x) (i_rexReader_piece_L1 ⟨S.drop (p + 1), false⟩ z_impl_Rex ⟨v, 0, [], false, [x]⟩) := fun v hv => by
        rw [s_l3Piece_L2_eq, if_neg (by rw [decide_eq_true_eq]; exact hv)]
        dsimp only
        rw [w_succ (by omega)]
        obtain ⟨x', c', y', r', f1, f2, f3⟩ := ih (p + 1) ⟨v, 0, [], false, [x]⟩ (by omega) (by omega)
        refine ⟨x', c', y', r', f1, f2, ?_⟩
        rcases f3 with ⟨q, a, b⟩ | h
        · exact .inl ⟨q, by omega, b⟩
        · exact .inr h
      rcases hv with ⟨rfl, h⟩ | ⟨rfl, h⟩ | ⟨rfl, h⟩ | ⟨rfl, h1, h2, h3⟩
      · rw [if_pos (decide_eq_true h), if_neg (by simp)]; exact go 8 (by decide)
      · rw [if_neg (by rw [h]; simp), if_pos (decide_eq_true h), if_neg (by simp)]; exact go 9 (by decide)
      · rw [if_neg (by rw [h]; simp), if_neg (by rw [h]; simp), if_pos (decide_eq_true h), if_neg (by simp)]; exact go 10 (by decide)
      · rw [if_neg (by rw [decide_eq_true_eq]; exact h1), if_neg (by rw [decide_eq_true_eq]; exact h2), if_neg (by rw [decide_eq_true_eq]; exact h3), if_pos (by simp), s_l3Piece_L2_eq, if_pos (by simp), ← List.drop_eq_getElem_cons hlt]
        exact stop p x hp
    · have hz : S.length - p ≤ 0 := by omega
      unfold Sim
      rw [s_l3Piece_L1_eq, if_pos (by simp), now_end (by omega), Option.bind_some]
      dsimp only
      rw [if_neg (by simp), now_end (by omega), Option.bind_some]
      dsimp only
      rw [if_neg (by simp), now_end (by omega), Option.bind_some]
      dsimp only
      rw [if_neg (by simp), s_l3Piece_L2_eq, if_pos (by simp), i_rexReader_piece_L1_eq, next_no (.inl (List.drop_eq_nil_of_le (by omega))), Option.bind_some]
      dsimp only
      rw [if_pos (by simp)]
      exact stop p x hp
theorem piece_sim {S : List Int} (hS : By S) (p : Nat) (d : Int) (h : Sim S p d 1 (s_l3Atom ⟨S, (p : Int), false⟩ d) (i_rexReader_atom ⟨S.drop p, false⟩)) :
    Sim S p d 1 (s_l3Piece ⟨S, (p : Int), false⟩ d) (i_rexReader_piece ⟨S.drop p, false⟩) := by
  obtain ⟨x, c, y, r, e1, e2, e3⟩ := h
  unfold Sim
  rw [s_l3Piece_eq, i_rexReader_piece_eq, e1, e2, Option.bind_some, Option.bind_some]
  dsimp only
  rcases e3 with ⟨q, q1, q2, rfl, rfl, rfl⟩ | ⟨hc, hr⟩
  · obtain ⟨x', c', y', r', f1, f2, f3⟩ := piece_L1_sim hS d _ q x q2 (Nat.le_refl _)
    refine ⟨x', c', y', r', f1, f2, ?_⟩
    rcases f3 with ⟨q', a, b⟩ | h
    · exact .inl ⟨q', by omega, b⟩
    · exact .inr h
  · rw [piece_L1_bad _ _ hc]
    obtain ⟨y', r', f1, f2, f3⟩ := i_piece_L1_tot' z_impl_Rex _ r y (Nat.le_refl _)
    refine ⟨_, _, _, _, rfl, f1, .inr ⟨hc, fun h => ?_⟩⟩
    have := f2.length_le
    have hb : r.bad = false := by
      cases hb : r.bad with
      | false => rfl
      | true => rw [f3 hb] at h; cases h
    have := hr hb
    omega
theorem part_L1_bad {c : spec_l3Cur} (d : Int) (l : List impl_Rex) (z : impl_Rex) (h : c.bad = true) : s_l3Part_L1 d l c z = some (partEnd l, c, ()) := by
  rw [s_l3Part_L1_eq, if_neg (by simp [h]), partEnd_eq]
theorem res_up {S : List Int} {p p' lo : Nat} {d : Int} {x : impl_Rex} {c : spec_l3Cur} {y : impl_Rex} {r : impl_rexReader} (lo' : Nat) (h : Res S p' d lo x c y r) (hp : p + lo' ≤ p' + lo) : Res S p d lo' x c y r := by
  rcases h with ⟨q, a, b⟩ | h
  · exact .inl ⟨q, by omega, b⟩
  · exact .inr h
theorem bad_back {r r' : impl_rexReader} {S : List Int} {d : Int} (hr : r.bad = false → (r.s.length : Int) + 82 ≤ S.length + d) (hs : r'.s <:+ r.s) (hb : r.bad = true → r'.bad = true) :
    r'.bad = false → (r'.s.length : Int) + 82 ≤ S.length + d := by
  intro h
  have := hs.length_le
  have hb' : r.bad = false := by
    cases hb' : r.bad with
    | false => rfl
    | true => rw [hb hb'] at h; cases h
  have := hr hb'
  omega
theorem i_all (n : Nat) : (∀ b s, (b :: s).length ≤ n → By (b :: s) → TotP i_rexReader_piece (b :: s) false 1) ∧ (∀ s b, s.length ≤ n → By s → TotP i_rexReader_part s b 0) := by
  have hpiece : ∀ b s, (b :: s).length ≤ n → By (b :: s) → TotP i_rexReader_piece (b :: s) false 1 := fun b s h hs =>
    i_piece_tot b s (i_atom_tot b s hs (i_tot _ s false (Nat.le_refl _) (hs.suf (List.suffix_cons _ _))))
  refine ⟨hpiece, fun s b h hs => ?_⟩
  unfold TotP
  rw [i_rexReader_part_eq]
  obtain ⟨y, r', f1, f2, f3, f4⟩ := i_part_L1_tot z_impl_Rex n hpiece s.length ⟨s, b⟩ [] (Nat.le_refl _) h hs (by have := hs.1; simp; omega) (fun x hx => by cases hx)
  exact ⟨y, r', f1, f2, f2.length_le, f3, f4⟩
theorem part_L1_any (z : impl_Rex) (r : impl_rexReader) (hb : By r.s) : ∀ (l : List impl_Rex), l.length + r.s.length ≤ 60 → ∃ y r', i_rexReader_part_L1 l r z = some (y, r', ()) ∧ r'.s <:+ r.s ∧ (r.bad = true → r'.bad = true) := by
  have key : ∀ (n : Nat) (r : impl_rexReader) (l : List impl_Rex), r.s.length ≤ n → By r.s → l.length + n ≤ 60 → ∃ y r', i_rexReader_part_L1 l r z = some (y, r', ()) ∧ r'.s <:+ r.s ∧ (r.bad = true → r'.bad = true) := by
    intro n
    induction n with
    | zero =>
      intro r l hn hb hl
      rw [i_rexReader_part_L1_eq, next_no (.inl (List.length_eq_zero_iff.1 (by omega))), Option.bind_some]
      dsimp only
      rw [if_pos (by simp), partEnd_eq]
      exact ⟨_, _, rfl, List.suffix_refl _, fun h => h⟩
    | succ n ih =>
      intro r l hn hb hl
      rw [i_rexReader_part_L1_eq]
      have stop : ∃ y r', some (partEnd l, r, ()) = some (y, r', ()) ∧ r'.s <:+ r.s ∧ (r.bad = true → r'.bad = true) := ⟨_, _, rfl, List.suffix_refl _, fun h => h⟩
      rcases reader_cases r with hr | ⟨b, s, rfl⟩
      · rw [next_no hr, Option.bind_some]
        dsimp only
        rw [if_pos (by simp), partEnd_eq]
        exact stop
      · rw [next_yes, Option.bind_some]
        dsimp only
        rw [if_neg (by simp)]
        by_cases c1 : b = 124
        · rw [if_pos (decide_eq_true c1), partEnd_eq]; exact stop
        rw [if_neg (by rw [decide_eq_true_eq]; exact c1)]
        by_cases c2 : b = 41
        · rw [if_pos (decide_eq_true c2), partEnd_eq]; exact stop
        rw [if_neg (by rw [decide_eq_true_eq]; exact c2)]
        obtain ⟨y, r, e, e1, e2, e3, e4⟩ := (i_all _).1 b s (Nat.le_refl _) hb
        rw [e, Option.bind_some]
        dsimp only
        rw [if_pos (by rw [room_eq]; omega)]
        have h2 : r.s.length ≤ n := by have : (b :: s).length ≤ n + 1 := hn; omega
        obtain ⟨y', r', f1, f2, f3⟩ := ih r _ h2 (hb.suf e1) (by show (l ++ [y]).length + n ≤ 60; simp; omega)
        exact ⟨y', r', f1, f2.trans e1, (fun h => by cases h)⟩
  intro l hl
  exact key _ r l (Nat.le_refl _) hb hl
theorem pat_L1_any (z : impl_Rex) (r : impl_rexReader) (hb : By r.s) : ∀ (l : List impl_Rex), l.length + r.s.length ≤ 61 → ∃ y r', i_rexReader_pattern_L1 l r z = some (y, r', ()) ∧ r'.s <:+ r.s ∧ (r.bad = true → r'.bad = true) := by
  have key : ∀ (n : Nat) (r : impl_rexReader) (l : List impl_Rex), r.s.length ≤ n → By r.s → l.length + n ≤ 61 → ∃ y r', i_rexReader_pattern_L1 l r z = some (y, r', ()) ∧ r'.s <:+ r.s ∧ (r.bad = true → r'.bad = true) := by
    intro n
    induction n with
    | zero =>
      intro r l hn hb hl
      rw [i_rexReader_pattern_L1_eq, take_no (.inl (List.length_eq_zero_iff.1 (by omega))), Option.bind_some]
      dsimp only
      rw [if_neg (by simp), patEnd_eq]
      exact ⟨_, _, rfl, List.suffix_refl _, fun h => h⟩
    | succ n ih =>
      intro r l hn hb hl
      rw [i_rexReader_pattern_L1_eq]
      have stop : ∃ y r', some (patEnd l, r, ()) = some (y, r', ()) ∧ r'.s <:+ r.s ∧ (r.bad = true → r'.bad = true) := ⟨_, _, rfl, List.suffix_refl _, fun h => h⟩
      rcases reader_cases r with hr | ⟨b, s, rfl⟩
      · rw [take_no hr, Option.bind_some]
        dsimp only
        rw [if_neg (by simp), patEnd_eq]
        exact stop
      · by_cases c1 : b = 124
        · subst c1
          rw [take_yes, Option.bind_some]
          dsimp only
          have hbs : By s := hb.suf (List.suffix_cons _ _)
          have hn' : s.length ≤ n := by have : (124 :: s).length ≤ n + 1 := hn; simp only [List.length_cons] at this; omega
          obtain ⟨y, r, e, e1, e2, e3, e4⟩ := (i_all _).2 s false (Nat.le_refl _) hbs
          rw [if_pos rfl, e, Option.bind_some]
          dsimp only
          rw [if_pos (by rw [room_eq]; omega)]
          obtain ⟨y', r', f1, f2, f3⟩ := ih r _ (by omega) (hbs.suf e1) (by show (l ++ [y]).length + n ≤ 61; simp; omega)
          exact ⟨y', r', f1, suf_cons (f2.trans e1), (fun h => by cases h)⟩
        · rw [take_other c1, Option.bind_some]
          dsimp only
          rw [if_neg (by simp), patEnd_eq]
          exact stop
  intro l hl
  exact key _ r l (Nat.le_refl _) hb hl
theorem part_L1_sim {S : List Int} (hS : By S) (d : Int) (m : Nat) (hp : ∀ p, p < S.length → S.length - p ≤ m → d ≤ p → Sim S p d 1 (s_l3Piece ⟨S, (p : Int), false⟩ d) (i_rexReader_piece ⟨S.drop p, false⟩)) :
    ∀ (n p : Nat) (l : List impl_Rex), p ≤ S.length → S.length - p ≤ n → n ≤ m → d ≤ p → l.length + n ≤ 60 → Sim S p d 0 (s_l3Part_L1 d l ⟨S, (p : Int), false⟩ z_impl_Rex) (i_rexReader_part_L1 l ⟨S.drop p, false⟩ z_impl_Rex) := by
  have h60 := hS.1
  intro n
  induction n with
  | zero =>
    intro p l h1 h2 h3 h4 h5
    unfold Sim
    rw [s_l3Part_L1_eq]
    dsimp only
    rw [if_pos (by simp), if_neg (by rw [decide_eq_true_eq]; omega), partEnd_eq, i_rexReader_part_L1_eq, next_no (.inl (List.drop_eq_nil_of_le (by omega))), Option.bind_some]
    dsimp only
    rw [if_pos (by simp), partEnd_eq]
    exact ⟨_, _, _, _, rfl, rfl, .inl ⟨p, by omega, h1, rfl, rfl, rfl⟩⟩
  | succ n ih =>
    intro p l h1 h2 h3 h4 h5
    unfold Sim
    have stop : ∃ x' c' y' r', some (partEnd l, (⟨S, (p : Int), false⟩ : spec_l3Cur), ()) = some (x', c', ()) ∧ some (partEnd l, (⟨S.drop p, false⟩ : impl_rexReader), ()) = some (y', r', ()) ∧ Res S p d 0 x' c' y' r' :=
      ⟨_, _, _, _, rfl, rfl, .inl ⟨p, by omega, h1, rfl, rfl, rfl⟩⟩
    rw [s_l3Part_L1_eq]
    dsimp only
    by_cases hlt : p < S.length
    · have hd := List.drop_eq_getElem_cons hlt
      rw [if_pos (by simp), if_pos (decide_eq_true (by omega)), if_pos (by omega), getD_nat hlt, i_rexReader_part_L1_eq]
      obtain ⟨x, c, y, r, e1, e2, e3⟩ := hp p hlt (by omega) h4
      rw [hd] at stop e2 ⊢
      rw [next_yes, Option.bind_some]
      dsimp only
      rw [if_neg (c := (!true) = true) (by simp)]
      by_cases c1 : S[p] = 124
      · rw [if_neg (by simp [c1]), partEnd_eq, if_pos (decide_eq_true c1), partEnd_eq]; exact stop
      have n1 : ¬ (decide (S[p] = 124) = true) := by rw [decide_eq_true_eq]; exact c1
      rw [if_pos (by rw [decide_eq_false c1]; rfl), if_pos (by omega), if_neg n1]
      by_cases c2 : S[p] = 41
      · rw [if_neg (by simp [c2]), partEnd_eq, if_pos (decide_eq_true c2), partEnd_eq]; exact stop
      have n2 : ¬ (decide (S[p] = 41) = true) := by rw [decide_eq_true_eq]; exact c2
      rw [if_pos (by rw [decide_eq_false c2]; rfl), if_neg n2, e1, e2, Option.bind_some, Option.bind_some]
      dsimp only
      rw [if_pos (by rw [room_eq]; omega), if_pos (by rw [room_eq]; omega)]
      have hl : ∀ y : impl_Rex, (List.append l [y]).length = l.length + 1 := fun y => by show (l ++ [y]).length = _; simp
      rcases e3 with ⟨q, q1, q2, rfl, rfl, rfl⟩ | ⟨hc, hr⟩
      · obtain ⟨x', c', y', r', f1, f2, f3⟩ := ih q (List.append l [x]) q2 (by omega) (by omega) (by omega) (by rw [hl]; omega)
        exact ⟨x', c', y', r', f1, f2, res_up 0 f3 (by omega)⟩
      · rw [part_L1_bad _ _ _ hc]
        have hb := hS.suf (List.drop_suffix p S)
        rw [hd] at hb
        obtain ⟨y2, r2, g, g1, g2, g3, g4⟩ := (i_all _).1 S[p] _ (Nat.le_refl _) hb
        rw [e2] at g
        obtain ⟨rfl, rfl⟩ : y = y2 ∧ r = r2 := by
          have := Option.some.inj g
          exact ⟨congrArg Prod.fst this, congrArg (fun z => z.2.1) this⟩
        simp only [List.length_cons, List.length_drop] at g2
        obtain ⟨y', r', f1, f2, f3⟩ := part_L1_any z_impl_Rex r (hb.suf g1) (List.append l [y]) (by rw [hl]; omega)
        exact ⟨_, _, _, _, rfl, f1, .inr ⟨hc, bad_back hr f2 f3⟩⟩
    · rw [if_pos (by simp), if_neg (by rw [decide_eq_true_eq]; omega), partEnd_eq, i_rexReader_part_L1_eq, next_no (.inl (List.drop_eq_nil_of_le (by omega))), Option.bind_some]
      dsimp only
      rw [if_pos (by simp), partEnd_eq]
      exact stop
theorem pat_L1_bad {c : spec_l3Cur} (d : Int) (l : List impl_Rex) (z : impl_Rex) (h : c.bad = true) : s_l3Pattern_L1 d l c z = some (patEnd l, c, ()) := by
  rw [s_l3Pattern_L1_eq, now_bad h, Option.bind_some]
  dsimp only
  rw [if_neg (by simp), patEnd_eq]
theorem pat_L1_sim {S : List Int} (hS : By S) (d : Int) (m : Nat) (hp : ∀ p, p ≤ S.length → S.length - p ≤ m → d ≤ p → Sim S p d 0 (s_l3Part ⟨S, (p : Int), false⟩ d) (i_rexReader_part ⟨S.drop p, false⟩)) :
    ∀ (n p : Nat) (l : List impl_Rex), p ≤ S.length → S.length - p ≤ n → n ≤ m → d ≤ p → l.length + n ≤ 61 → Sim S p d 0 (s_l3Pattern_L1 d l ⟨S, (p : Int), false⟩ z_impl_Rex) (i_rexReader_pattern_L1 l ⟨S.drop p, false⟩ z_impl_Rex) := by
  have h60 := hS.1
  intro n
  induction n with
  | zero =>
    intro p l h1 h2 h3 h4 h5
    unfold Sim
    rw [s_l3Pattern_L1_eq, now_end (by omega), Option.bind_some]
    dsimp only
    rw [if_neg (by simp), patEnd_eq, i_rexReader_pattern_L1_eq, take_no (.inl (List.drop_eq_nil_of_le (by omega))), Option.bind_some]
    dsimp only
    rw [if_neg (by simp), patEnd_eq]
    exact ⟨_, _, _, _, rfl, rfl, .inl ⟨p, by omega, h1, rfl, rfl, rfl⟩⟩
  | succ n ih =>
    intro p l h1 h2 h3 h4 h5
    unfold Sim
    have stop : ∃ x' c' y' r', some (patEnd l, (⟨S, (p : Int), false⟩ : spec_l3Cur), ()) = some (x', c', ()) ∧ some (patEnd l, (⟨S.drop p, false⟩ : impl_rexReader), ()) = some (y', r', ()) ∧ Res S p d 0 x' c' y' r' :=
      ⟨_, _, _, _, rfl, rfl, .inl ⟨p, by omega, h1, rfl, rfl, rfl⟩⟩
    by_cases hlt : p < S.length
    · have hd := List.drop_eq_getElem_cons hlt
      rw [s_l3Pattern_L1_eq, now_at hlt, Option.bind_some, i_rexReader_pattern_L1_eq]
      dsimp only
      rw [hd] at stop ⊢
      by_cases c1 : S[p] = 124
      · rw [c1, take_yes, Option.bind_some, if_pos (by simp), w_succ (by omega)]
        dsimp only
        rw [if_pos rfl]
        obtain ⟨x, c, y, r, e1, e2, e3⟩ := hp (p + 1) (by omega) (by omega) (by omega)
        rw [e1, e2, Option.bind_some, Option.bind_some]
        dsimp only
        rw [if_pos (by rw [room_eq]; omega), if_pos (by rw [room_eq]; omega)]
        have hl : ∀ y : impl_Rex, (List.append l [y]).length = l.length + 1 := fun y => by show (l ++ [y]).length = _; simp
        rcases e3 with ⟨q, q1, q2, rfl, rfl, rfl⟩ | ⟨hc, hr⟩
        · obtain ⟨x', c', y', r', f1, f2, f3⟩ := ih q (List.append l [x]) q2 (by omega) (by omega) (by omega) (by rw [hl]; omega)
          exact ⟨x', c', y', r', f1, f2, res_up 0 f3 (by omega)⟩
        · rw [pat_L1_bad _ _ _ hc]
          have hb := hS.suf (List.drop_suffix (p + 1) S)
          obtain ⟨y2, r2, g, g1, g2, g3, g4⟩ := (i_all _).2 _ false (Nat.le_refl _) hb
          rw [e2] at g
          obtain ⟨rfl, rfl⟩ : y = y2 ∧ r = r2 := by
            have := Option.some.inj g
            exact ⟨congrArg Prod.fst this, congrArg (fun z => z.2.1) this⟩
          simp only [List.length_drop] at g2
          obtain ⟨y', r', f1, f2, f3⟩ := pat_L1_any z_impl_Rex r (hb.suf g1) (List.append l [y]) (by rw [hl]; omega)
          exact ⟨_, _, _, _, rfl, f1, .inr ⟨hc, bad_back hr f2 f3⟩⟩
      · rw [take_other c1, Option.bind_some, if_neg (by rw [decide_eq_true_eq]; exact c1), patEnd_eq]
        dsimp only
        rw [if_neg (by simp), patEnd_eq]
        exact stop
    · rw [s_l3Pattern_L1_eq, now_end (by omega), Option.bind_some]
      dsimp only
      rw [if_neg (by simp), patEnd_eq, i_rexReader_pattern_L1_eq, take_no (.inl (List.drop_eq_nil_of_le (by omega))), Option.bind_some]
      dsimp only
      rw [if_neg (by simp), patEnd_eq]
      exact stop
theorem pat_step {S : List Int} (hS : By S) (m : Nat) (p : Nat) (d : Int) (hpat : ∀ p', p' < S.length → S.length - p' ≤ m → d ≤ p' → Sim S (p' + 1) (d + 1) 0 (s_l3Pattern ⟨S, ((p' + 1 : Nat) : Int), false⟩ (d + 1)) (i_rexReader_pattern ⟨S.drop (p' + 1), false⟩))
    (h1 : p ≤ S.length) (h2 : S.length - p ≤ m) (h3 : 0 ≤ d) (h4 : d ≤ p) (hm : m ≤ 60) : Sim S p d 0 (s_l3Pattern ⟨S, (p : Int), false⟩ d) (i_rexReader_pattern ⟨S.drop p, false⟩) := by
  have h60 := hS.1
  have hpart : ∀ p, p ≤ S.length → S.length - p ≤ m → d ≤ p → Sim S p d 0 (s_l3Part ⟨S, (p : Int), false⟩ d) (i_rexReader_part ⟨S.drop p, false⟩) := fun p a b c => by
    rw [s_l3Part_eq, i_rexReader_part_eq]
    exact part_L1_sim hS d m (fun p' a' b' c' => piece_sim hS p' d (atom_sim hS p' a' d h3 c' (hpat p' a' b' c'))) m p [] a b (Nat.le_refl _) c (by simp; omega)
  unfold Sim
  obtain ⟨x, c, y, r, e1, e2, e3⟩ := hpart p h1 h2 h4
  rw [s_l3Pattern_eq, i_rexReader_pattern_eq, e1, e2, Option.bind_some, Option.bind_some]
  dsimp only
  rcases e3 with ⟨q, q1, q2, rfl, rfl, rfl⟩ | ⟨hc, hr⟩
  · obtain ⟨x', c', y', r', f1, f2, f3⟩ := pat_L1_sim hS d m hpart m q [x] q2 (by omega) (Nat.le_refl _) (by omega) (by simp; omega)
    exact ⟨x', c', y', r', f1, f2, res_up 0 f3 (by omega)⟩
  · rw [pat_L1_bad _ _ _ hc]
    have hb := hS.suf (List.drop_suffix p S)
    obtain ⟨y2, r2, g, g1, g2, g3, g4⟩ := (i_all _).2 _ false (Nat.le_refl _) hb
    rw [e2] at g
    obtain ⟨rfl, rfl⟩ : y = y2 ∧ r = r2 := by
      have := Option.some.inj g
      exact ⟨congrArg Prod.fst this, congrArg (fun z => z.2.1) this⟩
    simp only [List.length_drop] at g2
    obtain ⟨y', r', f1, f2, f3⟩ := pat_L1_any z_impl_Rex r (hb.suf g1) [y] (by simp; omega)
    exact ⟨_, _, _, _, rfl, f1, .inr ⟨hc, bad_back hr f2 f3⟩⟩
theorem pat_sim {S : List Int} (hS : By S) : ∀ (n p : Nat) (d : Int), p ≤ S.length → S.length - p ≤ n → 0 ≤ d → d ≤ p → Sim S p d 0 (s_l3Pattern ⟨S, (p : Int), false⟩ d) (i_rexReader_pattern ⟨S.drop p, false⟩) := by
  have h60 := hS.1
  intro n
  induction n with
  | zero =>
    intro p d h1 h2 h3 h4
    exact pat_step hS 0 p d (fun p' h h' h'' => absurd h (by omega)) h1 h2 h3 h4 (by omega)
  | succ n ih =>
    intro p d h1 h2 h3 h4
    exact pat_step hS (S.length - p) p d (fun p' h h' h'' => ih (p' + 1) (d + 1) (by omega) (by omega) (by omega) (by omega)) h1 (Nat.le_refl _) h3 h4 (by omega)
theorem rexParse_same (S : List Int) (hB : ∀ b ∈ S, 0 ≤ b ∧ b ≤ 255) (hl : S.length ≤ 9223372036854775807) : ∃ x ok, s_RexParse S = some (x, ok, ()) ∧ i_RexParse S = some (x, ok, ()) := by
  rw [s_RexParse_eq, i_RexParse_eq]
  by_cases c : (S.length : Int) > 60
  · rw [if_pos (decide_eq_true c), if_pos (decide_eq_true c)]; exact ⟨_, _, rfl, rfl⟩
  have n1 : ¬ (decide ((S.length : Int) > 60) = true) := by rw [decide_eq_true_eq]; exact c
  have hS : By S := ⟨by omega, hB⟩
  obtain ⟨x, c, y, r, e1, e2, e3⟩ := pat_sim hS S.length 0 0 (Nat.zero_le _) (by omega) (Int.le_refl _) (Int.le_refl _)
  rw [List.drop_zero] at e2
  rw [show ((0 : Nat) : Int) = 0 from rfl] at e1
  rw [if_neg n1, if_neg n1, e1, e2, Option.bind_some, Option.bind_some]
  dsimp only
  obtain ⟨y2, r2, g, g1, g2, g3, g4⟩ := i_tot _ S false (Nat.le_refl _) hS
  rw [e2] at g
  obtain ⟨rfl, rfl⟩ : y = y2 ∧ r = r2 := by
    have := Option.some.inj g
    exact ⟨congrArg Prod.fst this, congrArg (fun z => z.2.1) this⟩
  rcases e3 with ⟨q, q1, q2, rfl, rfl, rfl⟩ | ⟨hc, hr⟩
  · dsimp only
    rw [if_neg (c := false = true) (by simp), if_neg (c := false = true) (by simp)]
    by_cases hq : q = S.length
    · have a1 : ¬ ((!(decide ((q : Int) = (S.length : Int)))) = true) := by rw [decide_eq_true (by omega)]; decide
      have a2 : ¬ ((!(decide (S.drop q = []))) = true) := by rw [decide_eq_true (List.drop_eq_nil_of_le (by omega))]; decide
      obtain ⟨v, d1, d2⟩ := deep_same g4
      rw [if_neg a1, if_neg a2, d1, d2, Option.bind_some]
      dsimp only
      by_cases hv : v > 12
      · rw [if_pos (decide_eq_true hv)]; exact ⟨_, _, rfl, rfl⟩
      · rw [if_neg (by rw [decide_eq_true_eq]; exact hv)]; exact ⟨_, _, rfl, rfl⟩
    · have a1 : (!(decide ((q : Int) = (S.length : Int)))) = true := by rw [decide_eq_false (by omega)]; rfl
      have a2 : (!(decide (S.drop q = []))) = true := by
        rw [decide_eq_false (fun h => by have := congrArg List.length h; rw [List.length_drop] at this; simp at this; omega)]; rfl
      rw [if_pos a1, if_pos a2]; exact ⟨_, _, rfl, rfl⟩
  · rw [if_pos hc]
    cases hb : r.bad with
    | true => rw [if_pos rfl]; exact ⟨_, _, rfl, rfl⟩
    | false => have := hr hb; have := hS.1; omega
end Go.Proofs.YtonmohpdmhfjnaaGreatDoor.E.TM
