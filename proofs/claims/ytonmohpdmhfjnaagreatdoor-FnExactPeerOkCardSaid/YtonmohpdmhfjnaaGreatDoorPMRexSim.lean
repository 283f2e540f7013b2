/- Patterns: the program's parser and the reference's go side by side. Plain Lean. No condition but lengths and bytes. -/
import Derived.Test.YtonmohpdmhfjnaaGreatDoorPMRex
import Derived.Test.YtonmohpdmhfjnaaGreatDoorTMe1
import Derived.Test.YtonmohpdmhfjnaaGreatDoorTMe2
namespace Go.Proofs.YtonmohpdmhfjnaaGreatDoor.E.TM
open Go.Proofs.YtonmohpdmhfjnaaGreatDoor.E
set_option linter.unusedVariables false
theorem idx_body : ∀ l : List Int, (idxI l 93 = -1 ∧ bodyOf l = l) ∨ (idxI l 93 = (bodyOf l).length ∧ (bodyOf l).length < l.length)
  | [] => .inl ⟨rfl, rfl⟩
  | b :: l => by
    by_cases h : b = 93
    · subst h
      refine .inr ⟨?_, ?_⟩
      · rw [idxI, if_pos rfl, body_93]; rfl
      · rw [body_93]; simp
    · rw [idxI, if_neg h, body_cons h]
      rcases idx_body l with ⟨e1, e2⟩ | ⟨e1, e2⟩
      · rw [if_pos e1, e2]; exact .inl ⟨rfl, rfl⟩
      · rw [if_neg (by omega), e1]; refine .inr ⟨by simp, by simp; omega⟩
theorem body_take : ∀ l : List Int, l.take (bodyOf l).length = bodyOf l
  | [] => rfl
  | b :: l => by
    by_cases h : b = 93
    · subst h; rw [body_93]; rfl
    · rw [body_cons h, List.length_cons, List.take_succ_cons, body_take l]
def setRes (u : List Int) (nt : Bool) : impl_Rex × impl_rexReader :=
  if (bodyOf u).length = u.length ∨ bodyOf u = [] then (⟨0, 0, [], false, []⟩, ⟨u, true⟩)
  else (⟨3, 0, colN (setRun (bodyOf u).length (bodyOf u) (List.replicate 256 false) false).1 0 256 [], nt, []⟩, ⟨u.drop ((bodyOf u).length + 1), (setRun (bodyOf u).length (bodyOf u) (List.replicate 256 false) false).2⟩)
theorem i_set_behind (u : List Int) (nt : Bool) (hu : u.length ≤ 60) (hb : ∀ b ∈ u, 0 ≤ b ∧ b ≤ 255) (s : List Int) (ht : i_rexReader_take ⟨s, false⟩ 94 = some (nt, ⟨u, false⟩, ())) :
    i_rexReader_set ⟨s, false⟩ = some ((setRes u nt).1, (setRes u nt).2, ()) := by
  rw [i_rexReader_set_eq, ht, Option.bind_some]
  dsimp only
  rw [x_strings_IndexByte_eq, x_internal_stringslite_IndexByte_eq, x_internal_bytealg_IndexByteString_eq, Option.bind_some, Option.bind_some, Option.bind_some]
  dsimp only
  unfold setRes
  rcases idx_body u with ⟨e1, e2⟩ | ⟨e1, e2⟩
  · rw [e1, e2, if_pos (by decide), if_pos (.inl rfl)]
  · by_cases h0 : bodyOf u = []
    · rw [e1, h0, if_pos (by simp), if_pos (.inr rfl)]
    · have hl : 0 < (bodyOf u).length := List.length_pos_iff.2 h0
      have w1 : w64 (((bodyOf u).length : Int) + 1) = (((bodyOf u).length + 1 : Nat) : Int) := by rw [w64_id (by omega) (by omega)]; omega
      rw [e1, if_neg (by rw [decide_eq_true_eq]; omega), if_pos (by omega), w1, if_pos (by omega), if_neg (fun h => h.elim (by omega) h0)]
      dsimp only
      rw [Int.toNat_natCast, Int.toNat_natCast, Nat.sub_zero, List.drop_zero, body_take, List.take_of_length_le (by simp)]
      have hi := set_i (s := u.drop ((bodyOf u).length + 1)) (z_impl_Rex) ⟨3, 0, [], nt, []⟩ (t := bodyOf u) (by omega) (fun b hx => hb b ((List.takeWhile_sublist _).subset hx)) (bodyOf u).length 0 (List.replicate 256 false) false List.length_replicate (by omega) (by rw [List.drop_zero]; exact Nat.le_refl _)
      rw [List.drop_zero] at hi
      exact hi.trans (col_i _ _ _ (by rw [setRun_len]; exact List.length_replicate) 256 0 [] rfl (Nat.zero_le _))
theorem take_94 (s : List Int) : ∃ nt, ∃ k : Nat, i_rexReader_take ⟨s, false⟩ 94 = some (nt, ⟨s.drop k, false⟩, ()) ∧ ((nt = true ∧ k = 1 ∧ ∃ u, s = 94 :: u) ∨ (nt = false ∧ k = 0 ∧ ∀ u, s ≠ 94 :: u)) := by
  cases s with
  | nil => exact ⟨false, 0, take_no (.inl rfl), .inr ⟨rfl, rfl, fun u h => by cases h⟩⟩
  | cons b u =>
    by_cases h : b = 94
    · subst h; exact ⟨true, 1, take_yes, .inl ⟨rfl, rfl, u, rfl⟩⟩
    · exact ⟨false, 0, take_other h, .inr ⟨rfl, rfl, fun v hv => h (List.cons.inj hv).1⟩⟩
theorem setRes_suf (u : List Int) (nt : Bool) : (setRes u nt).2.s <:+ u ∧ (setRes u nt).1.Kids = [] := by
  unfold setRes
  split
  · exact ⟨List.suffix_refl _, rfl⟩
  · exact ⟨List.drop_suffix _ _, rfl⟩
def By (s : List Int) : Prop := s.length ≤ 60 ∧ ∀ b ∈ s, 0 ≤ b ∧ b ≤ 255
theorem By.suf {s t : List Int} (h : By s) (ht : t <:+ s) : By t := ⟨Nat.le_trans ht.length_le h.1, fun b hb => h.2 b (ht.subset hb)⟩
theorem i_set_tot (s : List Int) (h : By s) : ∃ y r, i_rexReader_set ⟨s, false⟩ = some (y, r, ()) ∧ r.s <:+ s ∧ Small y := by
  obtain ⟨nt, k, e, _⟩ := take_94 s
  have hu : By (s.drop k) := h.suf (List.drop_suffix _ _)
  have hr := setRes_suf (s.drop k) nt
  exact ⟨_, _, i_set_behind _ nt hu.1 hu.2 s e, hr.1.trans (List.drop_suffix _ _), small_leaf hr.2⟩
def TotP (F : impl_rexReader → Option (impl_Rex × impl_rexReader × Unit)) (s : List Int) (b : Bool) (k : Nat) : Prop :=
  ∃ y r, F ⟨s, b⟩ = some (y, r, ()) ∧ r.s <:+ s ∧ r.s.length + k ≤ s.length ∧ (b = true → r.bad = true) ∧ Small y
theorem drop1 {b : Int} {s : List Int} : (⟨List.take ((b :: s).length - 1) (List.drop 1 (b :: s)), false⟩ : impl_rexReader) = ⟨s, false⟩ := by rw [cut1]
theorem suf_cons {b : Int} {s t : List Int} (h : t <:+ s) : t <:+ b :: s := h.trans (List.suffix_cons b s)
theorem i_atom_tot (b : Int) (s : List Int) (h : By (b :: s)) (hp : TotP i_rexReader_pattern s false 0) : TotP i_rexReader_atom (b :: s) false 1 := by
  have hs : By s := h.suf (List.suffix_cons b s)
  unfold TotP
  rw [i_rexReader_atom_eq, next_yes, Option.bind_some]
  dsimp only
  rw [if_pos (by simp; omega), drop1]
  have leaf : ∀ (x : impl_Rex) (bad : Bool), x.Kids = [] → ∃ y r, some (x, (⟨s, bad⟩ : impl_rexReader), ()) = some (y, r, ()) ∧ r.s <:+ b :: s ∧ r.s.length + 1 ≤ (b :: s).length ∧ (false = true → r.bad = true) ∧ Small y :=
    fun x bad hx => ⟨_, _, rfl, List.suffix_cons b s, by simp, (fun h => by cases h), small_leaf hx⟩
  by_cases c1 : b = 40
  · rw [if_pos (decide_eq_true c1)]
    obtain ⟨y, r, e, e1, e2, e3, e4⟩ := hp
    rw [e, Option.bind_some]
    dsimp only
    rcases reader_cases r with hr | ⟨a, t, hr⟩
    · rw [take_no hr, Option.bind_some]; dsimp only
      rw [if_pos (by simp)]
      exact ⟨_, _, rfl, suf_cons e1, by simp; omega, (fun h => by cases h), e4⟩
    · subst hr
      by_cases ha : a = 41
      · subst ha
        rw [take_yes, Option.bind_some]; dsimp only
        rw [if_neg (by simp)]
        refine ⟨_, _, rfl, suf_cons ((List.suffix_cons 41 t).trans e1), ?_, (fun h => by cases h), e4⟩
        simp at e2 ⊢; omega
      · rw [take_other ha, Option.bind_some]; dsimp only
        rw [if_pos (by simp)]
        refine ⟨_, _, rfl, suf_cons e1, ?_, (fun h => by cases h), e4⟩
        simp at e2 ⊢; omega
  rw [if_neg (by rw [decide_eq_true_eq]; exact c1)]
  by_cases c2 : b = 46
  · rw [if_pos (decide_eq_true c2)]; exact leaf _ _ rfl
  rw [if_neg (by rw [decide_eq_true_eq]; exact c2)]
  by_cases c3 : b = 94
  · rw [if_pos (decide_eq_true c3)]; exact leaf _ _ rfl
  rw [if_neg (by rw [decide_eq_true_eq]; exact c3)]
  by_cases c4 : b = 36
  · rw [if_pos (decide_eq_true c4)]; exact leaf _ _ rfl
  rw [if_neg (by rw [decide_eq_true_eq]; exact c4)]
  by_cases c5 : b = 91
  · rw [if_pos (decide_eq_true c5)]
    obtain ⟨y, r, e, e1, e2⟩ := i_set_tot s hs
    rw [e, Option.bind_some]
    exact ⟨_, _, rfl, suf_cons e1, by have := e1.length_le; simp; omega, (fun h => by cases h), e2⟩
  rw [if_neg (by rw [decide_eq_true_eq]; exact c5)]
  by_cases c6 : b = 92
  · rw [if_pos (decide_eq_true c6)]
    cases s with
    | nil => rw [next_no (.inl rfl), Option.bind_some]; dsimp only; rw [if_pos (by simp)]; exact leaf _ _ rfl
    | cons a t =>
      rw [next_yes, Option.bind_some]; dsimp only
      rw [if_neg (by simp), if_pos (by simp; omega), cut1]
      exact ⟨_, _, rfl, suf_cons (List.suffix_cons a t), by simp, (fun h => by cases h), small_leaf rfl⟩
  rw [if_neg (by rw [decide_eq_true_eq]; exact c6)]
  have l1 : ∀ (t : Bool), ∃ y r, i_rexReader_atom_L1 b t ⟨s, false⟩ z_impl_Rex = some (y, r, ()) ∧ r.s <:+ b :: s ∧ r.s.length + 1 ≤ (b :: s).length ∧ (false = true → r.bad = true) ∧ Small y := fun t => by
    rw [i_rexReader_atom_L1_eq]
    cases t with
    | true => rw [if_pos rfl]; exact leaf _ _ rfl
    | false => rw [if_neg (by simp)]; exact leaf _ _ rfl
  by_cases c7 : b = 42
  · rw [if_pos (decide_eq_true c7)]; exact l1 _
  rw [if_neg (by rw [decide_eq_true_eq]; exact c7)]
  by_cases c8 : b = 43
  · rw [if_pos (decide_eq_true c8)]; exact l1 _
  rw [if_neg (by rw [decide_eq_true_eq]; exact c8)]
  exact l1 _
theorem repeat_val (b : Int) : ∃ v, i_repeatOf b = some (v, ()) ∧ ((v = 8 ∧ b = 42) ∨ (v = 9 ∧ b = 43) ∨ (v = 10 ∧ b = 63) ∨ (v = 0 ∧ b ≠ 42 ∧ b ≠ 43 ∧ b ≠ 63)) := by
  rw [i_repeatOf_eq]
  by_cases c1 : b = 42
  · rw [if_pos (decide_eq_true c1)]; exact ⟨_, rfl, .inl ⟨rfl, c1⟩⟩
  rw [if_neg (by rw [decide_eq_true_eq]; exact c1)]
  by_cases c2 : b = 43
  · rw [if_pos (decide_eq_true c2)]; exact ⟨_, rfl, .inr (.inl ⟨rfl, c2⟩)⟩
  rw [if_neg (by rw [decide_eq_true_eq]; exact c2)]
  by_cases c3 : b = 63
  · rw [if_pos (decide_eq_true c3)]; exact ⟨_, rfl, .inr (.inr (.inl ⟨rfl, c3⟩))⟩
  rw [if_neg (by rw [decide_eq_true_eq]; exact c3)]; exact ⟨_, rfl, .inr (.inr (.inr ⟨rfl, c1, c2, c3⟩))⟩
theorem small_one {x : impl_Rex} (op : Int) (h : Small x) : Small ⟨op, 0, [], false, [x]⟩ := .mk _ (by simp) fun k hk => by rw [List.mem_singleton.1 hk]; exact h
theorem i_piece_L1_tot (z : impl_Rex) : ∀ (n : Nat) (r : impl_rexReader) (x : impl_Rex), r.s.length ≤ n → Small x → ∃ y r', i_rexReader_piece_L1 r z x = some (y, r', ()) ∧ r'.s <:+ r.s ∧ (r.bad = true → r'.bad = true) ∧ Small y := by
  intro n
  induction n with
  | zero =>
    intro r x hn hx
    rw [i_rexReader_piece_L1_eq, next_no (.inl (List.length_eq_zero_iff.1 (by omega))), Option.bind_some]
    dsimp only
    rw [if_pos (by simp)]
    exact ⟨_, _, rfl, List.suffix_refl _, fun h => h, hx⟩
  | succ n ih =>
    intro r x hn hx
    rw [i_rexReader_piece_L1_eq]
    rcases reader_cases r with hr | ⟨b, s, rfl⟩
    · rw [next_no hr, Option.bind_some]
      dsimp only
      rw [if_pos (by simp)]
      exact ⟨_, _, rfl, List.suffix_refl _, fun h => h, hx⟩
    · obtain ⟨v, e, hv⟩ := repeat_val b
      rw [next_yes, Option.bind_some]
      dsimp only
      rw [if_neg (by simp), e, Option.bind_some]
      dsimp only
      by_cases c : v = 0
      · rw [if_pos (decide_eq_true c)]; exact ⟨_, _, rfl, List.suffix_refl _, fun h => h, hx⟩
      · rw [if_neg (by rw [decide_eq_true_eq]; exact c), if_pos (by simp; omega), Option.bind_some]
        dsimp only
        rw [drop1]
        obtain ⟨y, r', e1, e2, e3, e4⟩ := ih ⟨s, false⟩ _ (by simp at hn ⊢; omega) (small_one v hx)
        exact ⟨y, r', e1, suf_cons e2, (fun h => by cases h), e4⟩
theorem i_piece_L1_tot' (z : impl_Rex) : ∀ (n : Nat) (r : impl_rexReader) (x : impl_Rex), r.s.length ≤ n → ∃ y r', i_rexReader_piece_L1 r z x = some (y, r', ()) ∧ r'.s <:+ r.s ∧ (r.bad = true → r'.bad = true) := by
  intro n
  induction n with
  | zero =>
    intro r x hn
    rw [i_rexReader_piece_L1_eq, next_no (.inl (List.length_eq_zero_iff.1 (by omega))), Option.bind_some]
    dsimp only
    rw [if_pos (by simp)]
    exact ⟨_, _, rfl, List.suffix_refl _, fun h => h⟩
  | succ n ih =>
    intro r x hn
    rw [i_rexReader_piece_L1_eq]
    rcases reader_cases r with hr | ⟨b, s, rfl⟩
    · rw [next_no hr, Option.bind_some]
      dsimp only
      rw [if_pos (by simp)]
      exact ⟨_, _, rfl, List.suffix_refl _, fun h => h⟩
    · obtain ⟨v, e, hv⟩ := repeat_val b
      rw [next_yes, Option.bind_some]
      dsimp only
      rw [if_neg (by simp), e, Option.bind_some]
      dsimp only
      by_cases c : v = 0
      · rw [if_pos (decide_eq_true c)]; exact ⟨_, _, rfl, List.suffix_refl _, fun h => h⟩
      · rw [if_neg (by rw [decide_eq_true_eq]; exact c), if_pos (by simp; omega), Option.bind_some]
        dsimp only
        rw [drop1]
        obtain ⟨y, r', e1, e2, e3⟩ := ih ⟨s, false⟩ _ (by simp at hn ⊢; omega)
        exact ⟨y, r', e1, suf_cons e2, (fun h => by cases h)⟩
theorem i_piece_tot (b : Int) (s : List Int) (h : TotP i_rexReader_atom (b :: s) false 1) : TotP i_rexReader_piece (b :: s) false 1 := by
  obtain ⟨y, r, e, e1, e2, e3, e4⟩ := h
  unfold TotP
  rw [i_rexReader_piece_eq, e, Option.bind_some]
  obtain ⟨y', r', f1, f2, f3, f4⟩ := i_piece_L1_tot z_impl_Rex _ r y (Nat.le_refl _) e4
  exact ⟨y', r', f1, f2.trans e1, by have := f2.length_le; omega, (fun h => by cases h), f4⟩
theorem small_many {l : List impl_Rex} (op : Int) (hl : l.length ≤ 100) (h : ∀ x ∈ l, Small x) : Small ⟨op, 0, [], false, l⟩ := .mk _ hl h
def partEnd (l : List impl_Rex) : impl_Rex := if l.length = 0 then ⟨11, 0, [], false, []⟩ else if l.length = 1 then l.getD 0 z_impl_Rex else ⟨6, 0, [], false, l⟩
def patEnd (l : List impl_Rex) : impl_Rex := if l.length = 1 then l.getD 0 z_impl_Rex else ⟨7, 0, [], false, l⟩
theorem partEnd_eq {α : Type} (l : List impl_Rex) (r : α) :
    (if (decide ((List.length l : Int) = 0)) = true then some ((impl_Rex.mk 11 0 [] false []), r, ()) else
      if (decide ((List.length l : Int) = 1)) = true then if (0 : Int) ≤ 0 ∧ (0 : Int) < (List.length l : Int) then some ((List.getD l 0 z_impl_Rex), r, ()) else none
      else some ((impl_Rex.mk 6 0 [] false l), r, ())) = some (partEnd l, r, ()) := by
  unfold partEnd
  by_cases c : l.length = 0
  · rw [if_pos (decide_eq_true (by omega)), if_pos c]
  · rw [if_neg (by rw [decide_eq_true_eq]; omega), if_neg c]
    by_cases d : l.length = 1
    · rw [if_pos (decide_eq_true (by omega)), if_pos (by omega), if_pos d]
    · rw [if_neg (by rw [decide_eq_true_eq]; omega), if_neg d]
theorem patEnd_eq {α : Type} (l : List impl_Rex) (r : α) :
    (if (decide ((List.length l : Int) = 1)) = true then if (0 : Int) ≤ 0 ∧ (0 : Int) < (List.length l : Int) then some ((List.getD l 0 z_impl_Rex), r, ()) else none
      else some ((impl_Rex.mk 7 0 [] false l), r, ())) = some (patEnd l, r, ()) := by
  unfold patEnd
  by_cases d : l.length = 1
  · rw [if_pos (decide_eq_true (by omega)), if_pos (by omega), if_pos d]
  · rw [if_neg (by rw [decide_eq_true_eq]; omega), if_neg d]
theorem getD_small {l : List impl_Rex} (h : ∀ x ∈ l, Small x) (hl : l.length = 1) : Small (l.getD 0 z_impl_Rex) := by
  match l, hl with
  | [x], _ => exact h x (List.mem_singleton.2 rfl)
theorem partEnd_small {l : List impl_Rex} (hl : l.length ≤ 100) (h : ∀ x ∈ l, Small x) : Small (partEnd l) := by
  unfold partEnd
  split
  · exact small_leaf rfl
  · split
    · exact getD_small h ‹_›
    · exact small_many 6 hl h
theorem patEnd_small {l : List impl_Rex} (hl : l.length ≤ 100) (h : ∀ x ∈ l, Small x) : Small (patEnd l) := by
  unfold patEnd
  split
  · exact getD_small h ‹_›
  · exact small_many 7 hl h
theorem small_app {l : List impl_Rex} {x : impl_Rex} (h : ∀ y ∈ l, Small y) (hx : Small x) : ∀ y ∈ List.append l [x], Small y := by
  intro y hy
  rcases List.mem_append.1 hy with hy | hy
  · exact h y hy
  · rw [List.mem_singleton.1 hy]; exact hx
theorem i_part_L1_tot (z : impl_Rex) (N : Nat) (hp : ∀ b s, (b :: s).length ≤ N → By (b :: s) → TotP i_rexReader_piece (b :: s) false 1) : ∀ (n : Nat) (r : impl_rexReader) (l : List impl_Rex), r.s.length ≤ n → n ≤ N → By r.s → l.length + n ≤ 60 → (∀ x ∈ l, Small x) →
    ∃ y r', i_rexReader_part_L1 l r z = some (y, r', ()) ∧ r'.s <:+ r.s ∧ (r.bad = true → r'.bad = true) ∧ Small y := by
  intro n
  induction n with
  | zero =>
    intro r l hn hN hb hl hx
    rw [i_rexReader_part_L1_eq, next_no (.inl (List.length_eq_zero_iff.1 (by omega))), Option.bind_some]
    dsimp only
    rw [if_pos (by simp), partEnd_eq]
    exact ⟨_, _, rfl, List.suffix_refl _, fun h => h, partEnd_small (by omega) hx⟩
  | succ n ih =>
    intro r l hn hN hb hl hx
    rw [i_rexReader_part_L1_eq]
    have stop : ∃ y r', some (partEnd l, r, ()) = some (y, r', ()) ∧ r'.s <:+ r.s ∧ (r.bad = true → r'.bad = true) ∧ Small y := ⟨_, _, rfl, List.suffix_refl _, fun h => h, partEnd_small (by omega) hx⟩
    rcases reader_cases r with hr | ⟨b, s, rfl⟩
    · rw [next_no hr, Option.bind_some]
      dsimp only
      rw [if_pos (by simp), partEnd_eq]
      exact stop
    · rw [next_yes, Option.bind_some]
      dsimp only
      rw [if_neg (by simp)]
      by_cases c1 : b = 124
      · rw [if_pos (decide_eq_true c1), partEnd_eq]; exact stop
      rw [if_neg (by rw [decide_eq_true_eq]; exact c1)]
      by_cases c2 : b = 41
      · rw [if_pos (decide_eq_true c2), partEnd_eq]; exact stop
      rw [if_neg (by rw [decide_eq_true_eq]; exact c2)]
      obtain ⟨y, r, e, e1, e2, e3, e4⟩ := hp b s (by have : (b :: s).length ≤ n + 1 := hn; omega) hb
      rw [e, Option.bind_some]
      dsimp only
      rw [if_pos (by rw [room_eq]; omega)]
      have h2 : r.s.length ≤ n := by simp only [List.length_cons] at e2 hn; omega
      obtain ⟨y', r', f1, f2, f3, f4⟩ := ih r _ h2 (by omega) (hb.suf e1) (by show (l ++ [y]).length + n ≤ 60; simp; omega) (small_app hx e4)
      exact ⟨y', r', f1, f2.trans e1, (fun h => by cases h), f4⟩
theorem i_pat_L1_tot (z : impl_Rex) (N : Nat) (hp : ∀ s b, s.length ≤ N → By s → TotP i_rexReader_part s b 0) : ∀ (n : Nat) (r : impl_rexReader) (l : List impl_Rex), r.s.length ≤ n → n ≤ N → By r.s → l.length + n ≤ 61 → (∀ x ∈ l, Small x) →
    ∃ y r', i_rexReader_pattern_L1 l r z = some (y, r', ()) ∧ r'.s <:+ r.s ∧ (r.bad = true → r'.bad = true) ∧ Small y := by
  intro n
  induction n with
  | zero =>
    intro r l hn hN hb hl hx
    rw [i_rexReader_pattern_L1_eq, take_no (.inl (List.length_eq_zero_iff.1 (by omega))), Option.bind_some]
    dsimp only
    rw [if_neg (by simp), patEnd_eq]
    exact ⟨_, _, rfl, List.suffix_refl _, fun h => h, patEnd_small (by omega) hx⟩
  | succ n ih =>
    intro r l hn hN hb hl hx
    rw [i_rexReader_pattern_L1_eq]
    have stop : ∃ y r', some (patEnd l, r, ()) = some (y, r', ()) ∧ r'.s <:+ r.s ∧ (r.bad = true → r'.bad = true) ∧ Small y := ⟨_, _, rfl, List.suffix_refl _, fun h => h, patEnd_small (by omega) hx⟩
    rcases reader_cases r with hr | ⟨b, s, rfl⟩
    · rw [take_no hr, Option.bind_some]
      dsimp only
      rw [if_neg (by simp), patEnd_eq]
      exact stop
    · by_cases c1 : b = 124
      · subst c1
        rw [take_yes, Option.bind_some]
        dsimp only
        have hbs : By s := hb.suf (List.suffix_cons _ _)
        have hn' : s.length ≤ n := by simp only [List.length_cons] at hn; omega
        obtain ⟨y, r, e, e1, e2, e3, e4⟩ := hp s false (by omega) hbs
        rw [if_pos rfl, e, Option.bind_some]
        dsimp only
        rw [if_pos (by rw [room_eq]; omega)]
        obtain ⟨y', r', f1, f2, f3, f4⟩ := ih r _ (by omega) (by omega) (hbs.suf e1) (by show (l ++ [y]).length + n ≤ 61; simp; omega) (small_app hx e4)
        exact ⟨y', r', f1, suf_cons (f2.trans e1), (fun h => by cases h), f4⟩
      · rw [take_other c1, Option.bind_some]
        dsimp only
        rw [if_neg (by simp), patEnd_eq]
        exact stop
theorem i_tot : ∀ (n : Nat) (s : List Int) (b : Bool), s.length ≤ n → By s → TotP i_rexReader_pattern s b 0 := by
  intro n
  induction n with
  | zero =>
    intro s b hn hs
    have hpart : ∀ s b, s.length ≤ 0 → By s → TotP i_rexReader_part s b 0 := fun s b h hs => by
      unfold TotP
      rw [i_rexReader_part_eq]
      obtain ⟨y, r', f1, f2, f3, f4⟩ := i_part_L1_tot z_impl_Rex 0 (fun b s h => by simp at h) 0 ⟨s, b⟩ [] h (Nat.le_refl _) hs (by simp) (fun x hx => by cases hx)
      exact ⟨y, r', f1, f2, f2.length_le, f3, f4⟩
    unfold TotP
    obtain ⟨y, r, e, e1, e2, e3, e4⟩ := hpart s b hn hs
    rw [i_rexReader_pattern_eq, e, Option.bind_some]
    obtain ⟨y', r', f1, f2, f3, f4⟩ := i_pat_L1_tot z_impl_Rex 0 hpart 0 r [y] (by have := e1.length_le; omega) (Nat.le_refl _) (hs.suf e1) (by simp) (fun x hx => by rw [List.mem_singleton.1 hx]; exact e4)
    exact ⟨y', r', f1, f2.trans e1, by have := (f2.trans e1).length_le; omega, fun h => f3 (e3 h), f4⟩
  | succ n ih =>
    intro s b hn hs
    have hpiece : ∀ b s, (b :: s).length ≤ n + 1 → By (b :: s) → TotP i_rexReader_piece (b :: s) false 1 := fun b s h hs =>
      i_piece_tot b s (i_atom_tot b s hs (ih s false (by simpa using h) (hs.suf (List.suffix_cons _ _))))
    have hpart : ∀ s b, s.length ≤ n + 1 → By s → TotP i_rexReader_part s b 0 := fun s b h hs => by
      unfold TotP
      rw [i_rexReader_part_eq]
      obtain ⟨y, r', f1, f2, f3, f4⟩ := i_part_L1_tot z_impl_Rex (n + 1) hpiece s.length ⟨s, b⟩ [] (Nat.le_refl _) h hs (by have := hs.1; simp; omega) (fun x hx => by cases hx)
      exact ⟨y, r', f1, f2, f2.length_le, f3, f4⟩
    unfold TotP
    obtain ⟨y, r, e, e1, e2, e3, e4⟩ := hpart s b hn hs
    rw [i_rexReader_pattern_eq, e, Option.bind_some]
    have h60 := hs.1
    obtain ⟨y', r', f1, f2, f3, f4⟩ := i_pat_L1_tot z_impl_Rex (n + 1) hpart s.length r [y] (by have := e1.length_le; omega) hn (hs.suf e1) (by simp; omega) (fun x hx => by rw [List.mem_singleton.1 hx]; exact e4)
    exact ⟨y', r', f1, f2.trans e1, by have := (f2.trans e1).length_le; omega, fun h => f3 (e3 h), f4⟩
end Go.Proofs.YtonmohpdmhfjnaaGreatDoor.E.TM
