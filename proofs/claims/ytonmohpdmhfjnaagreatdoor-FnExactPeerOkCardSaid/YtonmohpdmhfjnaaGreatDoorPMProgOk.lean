/- Programs: what is right for the program is right for the reference. No condition but lengths and bytes. -/
import Derived.Test.YtonmohpdmhfjnaaGreatDoorPMLoops
import Derived.Test.YtonmohpdmhfjnaaGreatDoorPMImplIn
import Derived.Test.YtonmohpdmhfjnaaGreatDoorPMSpecIn
import Derived.Test.YtonmohpdmhfjnaaGreatDoorPMRexSame
import Derived.Test.YtonmohpdmhfjnaaGreatDoorTMe1
import Derived.Test.YtonmohpdmhfjnaaGreatDoorTMe2
namespace Go.Proofs.YtonmohpdmhfjnaaGreatDoor.E.TM
open Go.Proofs.YtonmohpdmhfjnaaGreatDoor.E
set_option linter.unusedVariables false
def letter (x : Int) : Bool := (decide (97 ≤ x) && decide (x ≤ 122)) || (decide (65 ≤ x) && decide (x ≤ 90))
theorem i_isLetter_ok (x : Int) : i_isLetter x = some (letter x, ()) := by
  rw [i_isLetter_eq]
  unfold letter
  by_cases c1 : x ≥ 97
  · by_cases c2 : x ≤ 122
    · rw [if_pos (decide_eq_true c1), if_pos (decide_eq_true c2), decide_eq_true (show 97 ≤ x from c1), decide_eq_true c2]; rfl
    · rw [if_pos (decide_eq_true c1), if_neg (by rw [decide_eq_true_eq]; exact c2), if_pos (decide_eq_true (by omega)), decide_eq_false c2, Bool.and_false, Bool.false_or, decide_eq_true (show 65 ≤ x by omega), Bool.true_and]
  · rw [if_neg (by rw [decide_eq_true_eq]; exact c1), decide_eq_false (show ¬ 97 ≤ x from c1), Bool.false_and, Bool.false_or]
    by_cases c3 : x ≥ 65
    · rw [if_pos (decide_eq_true c3), decide_eq_true (show 65 ≤ x from c3), Bool.true_and]
    · rw [if_neg (by rw [decide_eq_true_eq]; exact c3), decide_eq_false (show ¬ 65 ≤ x from c3), Bool.false_and]
theorem s_l7Letter_ok (x : Int) : s_l7Letter x = some (letter x, ()) := by
  have := i_isLetter_ok x
  rw [i_isLetter_eq] at this
  rw [s_l7Letter_eq]; exact this
theorem within_ok (l : List (List Int)) (s : List Int) (hl : l.length ≤ 4294967296) : s_l7Within l s = some (decide (s ∈ l), ()) := by
  rw [s_l7Within_eq]
  have := find_loopN (fun i => s_l7Within_L1 l s i) l.length (fun i => decide (l.getD i [] = s)) (some (true, ())) (some (false, ())) (fun i hi => by
    show s_l7Within_L1 l s i = _
    rw [s_l7Within_L1_eq, if_pos (decide_eq_true (by omega)), if_pos (by omega), w64_succ hi (by omega), Int.toNat_natCast]) (by
    show s_l7Within_L1 l s _ = _
    rw [s_l7Within_L1_eq, if_neg (by simp)])
  rw [this, anyB_list l [] (fun x => decide (x = s))]
  have : l.any (fun x => decide (x = s)) = decide (s ∈ l) := by
    rw [Bool.eq_iff_iff, List.any_eq_true, decide_eq_true_eq]
    constructor
    · rintro ⟨x, hx, e⟩; rw [decide_eq_true_eq] at e; subst e; exact hx
    · intro h; exact ⟨s, h, decide_eq_true rfl⟩
  rw [this]
  cases decide (s ∈ l) <;> rfl
theorem containsS_ok (l : List (List Int)) (s : List Int) (hl : l.length ≤ 4294967296) : x_slices_Contains_string l s = some (decide (s ∈ l), ()) := by
  rw [x_slices_Contains_string_eq, x_slices_Index_string_eq]
  obtain ⟨k, e, e1, _⟩ := index_loop (fun i => x_slices_Index_string_L1 l s (l.length : Int) i) () l.length (fun i => decide (s = l.getD i [])) (fun i hi => by
    show x_slices_Index_string_L1 l s _ i = _
    rw [x_slices_Index_string_L1_eq, if_pos (decide_eq_true (by omega)), if_pos (by omega), w64_succ hi (by omega), Int.toNat_natCast]) (by
    show x_slices_Index_string_L1 l s _ _ = _
    rw [x_slices_Index_string_L1_eq, if_neg (by simp)])
  rw [e, Option.bind_some]
  dsimp only
  rw [e1, anyB_list l [] (fun x => decide (s = x))]
  congr 2
  rw [Bool.eq_iff_iff, List.any_eq_true, decide_eq_true_eq]
  constructor
  · rintro ⟨x, hx, e⟩; rw [decide_eq_true_eq] at e; subst e; exact hx
  · intro h; exact ⟨s, h, decide_eq_true rfl⟩
def kw1 : List (List Int) := [[66, 69, 71, 73, 78], [112, 114, 105, 110, 116], [105, 102], [101, 108, 115, 101], [119, 104, 105, 108, 101], [110, 101, 120, 116], [100, 101, 108, 101, 116, 101], [78, 82], [78, 70]]
def kw2 : List (List Int) := [[108, 101, 110, 103, 116, 104], [115, 117, 98, 115, 116, 114], [105, 110, 100, 101, 120], [105, 110, 116], [117, 112, 112, 101, 114], [108, 111, 119, 101, 114]]
def keyword (s : List Int) : Bool := decide (s ∈ kw1) || decide (s ∈ kw2)
theorem s_calls_ok : s_l7Calls = some (kw2, ()) := s_l7Calls_eq
theorem i_calls_ok : i_calls = some (kw2, ()) := i_calls_eq
theorem s_Keyword_ok (s : List Int) : s_Keyword s = some (keyword s, ()) := by
  have e : s_l7Within [[66, 69, 71, 73, 78], [112, 114, 105, 110, 116], [105, 102], [101, 108, 115, 101], [119, 104, 105, 108, 101], [110, 101, 120, 116], [100, 101, 108, 101, 116, 101], [78, 82], [78, 70]] s = some (decide (s ∈ kw1), ()) := within_ok kw1 s (by decide)
  rw [s_Keyword_eq, e, Option.bind_some, s_calls_ok, Option.bind_some]
  dsimp only
  rw [within_ok kw2 s (by decide), Option.bind_some]
  unfold keyword
  cases decide (s ∈ kw1) <;> rfl
theorem i_Keyword_L1_ok (s : List Int) (b : Bool) : i_Keyword_L1 s b = some (b || decide (s ∈ kw2), ()) := by
  rw [i_Keyword_L1_eq, i_calls_ok, Option.bind_some]
  dsimp only
  rw [containsS_ok kw2 s (by decide), Option.bind_some]
  cases b <;> rfl
theorem i_Keyword_ok (s : List Int) : i_Keyword s = some (keyword s, ()) := by
  rw [i_Keyword_eq]
  simp only [i_Keyword_L1_ok]
  have : decide (s ∈ kw1) = (decide (s = [66, 69, 71, 73, 78]) || (decide (s = [112, 114, 105, 110, 116]) || (decide (s = [105, 102]) || (decide (s = [101, 108, 115, 101]) || (decide (s = [119, 104, 105, 108, 101]) || (decide (s = [110, 101, 120, 116]) || (decide (s = [100, 101, 108, 101, 116, 101]) || (decide (s = [78, 82]) || decide (s = [78, 70]))))))))) := by
    rw [Bool.eq_iff_iff]
    simp only [decide_eq_true_eq, Bool.or_eq_true, kw1, List.mem_cons, List.not_mem_nil, or_false]
  unfold keyword
  rw [this]
  cases decide (s = [66, 69, 71, 73, 78]) <;> cases decide (s = [112, 114, 105, 110, 116]) <;> cases decide (s = [105, 102]) <;> cases decide (s = [101, 108, 115, 101]) <;> cases decide (s = [119, 104, 105, 108, 101]) <;> cases decide (s = [110, 101, 120, 116]) <;> cases decide (s = [100, 101, 108, 101, 116, 101]) <;> cases decide (s = [78, 82]) <;> rfl
def nameB (s : List Int) : Bool := (decide (1 ≤ (s.length : Int) ∧ (s.length : Int) ≤ 8) && s.all letter) && !keyword s
theorem s_l9Name_ok (s : List Int) (hl : s.length ≤ 4294967296) : s_l9Name s = some (nameB s, ()) := by
  rw [s_l9Name_eq]
  have := find_loopN (fun i => s_l9Name_L1 s i) s.length (fun i => !letter (s.getD i 0)) (some (false, ())) (some (decide (1 ≤ (s.length : Int) ∧ (s.length : Int) ≤ 8) && !keyword s, ())) (fun i hi => by
    show s_l9Name_L1 s i = _
    rw [s_l9Name_L1_eq, if_pos (decide_eq_true (by omega)), if_pos (by omega), w64_succ hi (by omega), Int.toNat_natCast, s_l7Letter_ok, Option.bind_some]) (by
    show s_l9Name_L1 s _ = _
    rw [s_l9Name_L1_eq, if_neg (by simp), s_l1In_ok, Option.bind_some, s_Keyword_ok, Option.bind_some]
    dsimp only
    cases decide (1 ≤ (s.length : Int) ∧ (s.length : Int) ≤ 8) <;> rfl)
  rw [this, anyB_list s 0 (fun x => !letter x)]
  unfold nameB
  have h : s.any (fun x => !letter x) = !s.all letter := by rw [← List.not_all_eq_any_not]
  rw [h]
  cases s.all letter <;> cases decide (1 ≤ (s.length : Int) ∧ (s.length : Int) ≤ 8) <;> rfl
theorem lettersAt_ok (s : List Int) (hl : s.length ≤ 4294967296) : ∃ k : Int, i_lettersAt s 0 = some (k, ()) ∧ decide (k = (s.length : Int)) = s.all letter := by
  rw [i_lettersAt_eq]
  have key : ∀ (d i : Nat), i + d = s.length → (∀ j (h : j < s.length), j < i → letter s[j] = true) → ∃ k : Int, i_lettersAt_L1 s 0 (i : Int) = some (k, ()) ∧ decide (k = (s.length : Int)) = s.all letter := by
    intro d
    induction d with
    | zero =>
      intro i hd hj
      have hi : i = s.length := by omega
      subst hi
      rw [i_lettersAt_L1_eq, w64_id (n := 0 + (s.length : Int)) (by omega) (by omega), if_neg (by simp)]
      refine ⟨_, rfl, ?_⟩
      rw [decide_eq_true rfl, eq_comm, List.all_eq_true]
      intro x hx
      obtain ⟨j, h, rfl⟩ := List.mem_iff_getElem.1 hx
      exact hj j h h
    | succ d ih =>
      intro i hd hj
      have hi : i < s.length := by omega
      rw [i_lettersAt_L1_eq, w64_id (n := 0 + (i : Int)) (by omega) (by omega), Int.zero_add, if_pos (decide_eq_true (by omega)), if_pos (by omega), getD_nat hi, i_isLetter_ok, Option.bind_some]
      dsimp only
      cases e : letter s[i] with
      | true =>
        rw [if_pos rfl, w64_succ hi (by omega)]
        refine ih (i + 1) (by omega) fun j h h' => ?_
        by_cases g : j = i
        · subst g; exact e
        · exact hj j h (by omega)
      | false =>
        rw [if_neg (by simp)]
        refine ⟨_, rfl, ?_⟩
        rw [decide_eq_false (by omega), eq_comm]
        cases g : s.all letter with
        | false => rfl
        | true => have := List.all_eq_true.1 g s[i] (List.getElem_mem hi); rw [e] at this; cases this
  exact key s.length 0 (by omega) (fun j _ h => absurd h (by omega))
theorem i_isName_ok (s : List Int) (hl : s.length ≤ 4294967296) : i_isName s = some (nameB s, ()) := by
  obtain ⟨k, e, e1⟩ := lettersAt_ok s hl
  rw [i_isName_eq, i_in_ok, Option.bind_some, e, Option.bind_some]
  dsimp only
  rw [e1, i_Keyword_ok, Option.bind_some]
  unfold nameB
  cases s.all letter <;> cases decide (1 ≤ (s.length : Int) ∧ (s.length : Int) ≤ 8) <;> rfl
noncomputable def rexB (s : List Int) : Bool := match s_RexParse s with
  | some (_, ok, _) => ok
  | none => false
theorem rex_ok (s : List Int) (hb : ∀ b ∈ s, 0 ≤ b ∧ b ≤ 255) (hl : s.length ≤ 9223372036854775807) : (∃ x, s_RexParse s = some (x, rexB s, ()) ∧ i_RexParse s = some (x, rexB s, ())) := by
  obtain ⟨x, ok, e1, e2⟩ := rexParse_same s hb hl
  have : rexB s = ok := by unfold rexB; rw [e1]
  rw [this]; exact ⟨x, e1, e2⟩
noncomputable def opB (o : impl_Op) (n v c : Int) : Bool :=
  if o.Code = 1 then decide (-9000000000000 ≤ o.N ∧ o.N ≤ 9000000000000) && decide (o.S = [])
  else if o.Code = 2 then decide (o.N = 0)
  else if o.Code = 3 ∨ o.Code = 4 ∨ o.Code = 5 then (decide (o.N ≥ 0) && decide (o.N < v)) && decide (o.S = [])
  else if o.Code = 6 ∨ o.Code = 7 ∨ o.Code = 8 ∨ o.Code = 35 then (decide (o.N ≥ 0) && decide (o.N < c)) && decide (o.S = [])
  else if o.Code = 24 ∨ o.Code = 25 then rexB o.S && decide (o.N = 0)
  else if o.Code = 29 then decide (1 ≤ o.N ∧ o.N ≤ 3) && decide (o.S ∈ kw2)
  else if o.Code = 30 ∨ o.Code = 31 then decide (0 ≤ o.N ∧ o.N ≤ w64 (n - 1)) && decide (o.S = [])
  else if o.Code = 33 then decide (0 ≤ o.N ∧ o.N ≤ 1) && decide (o.S = [])
  else (decide (1 ≤ o.Code ∧ o.Code ≤ 36) && decide (o.N = 0)) && decide (o.S = [])
end Go.Proofs.YtonmohpdmhfjnaaGreatDoor.E.TM
