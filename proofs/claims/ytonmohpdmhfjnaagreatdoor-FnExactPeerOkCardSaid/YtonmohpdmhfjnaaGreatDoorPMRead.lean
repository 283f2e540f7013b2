/- DecFront, DecLooks, Read as wholes: the program and the reference tell the same. No condition but that texts hold bytes and are short. -/
import Derived.Test.YtonmohpdmhfjnaaGreatDoorPMDecFront
import Derived.Test.YtonmohpdmhfjnaaGreatDoorTMe1
import Derived.Test.YtonmohpdmhfjnaaGreatDoorTMe2
namespace Go.Proofs.YtonmohpdmhfjnaaGreatDoor.E.TM
open Go.Proofs.YtonmohpdmhfjnaaGreatDoor.E
set_option linter.unusedVariables false
def lead (l : List Int) : Nat := (l.takeWhile (fun x => decide (x = 32))).length
noncomputable def front (s : List Int) (p : Nat) : Option (Int × Int × Unit) :=
  if s[p]? = some 45 then i_DecFront_L1 s ((p + 1 : Nat) : Int) true else if s[p]? = some 43 then i_DecFront_L1 s ((p + 1 : Nat) : Int) false else i_DecFront_L1 s (p : Int) false
theorem s_front (s : List Int) (hs : s.length ≤ 1000000) (hb : Bt s) : ∀ (d i : Nat), i + d = s.length → s_DecFront_L1 s (i : Int) = front s (i + lead (s.drop i)) := by
  intro d
  induction d with
  | zero =>
    intro i hd
    rw [s_DecFront_L1_eq, if_neg (by rw [decide_eq_true_eq]; omega), if_neg (by rw [decide_eq_true_eq]; omega), if_neg (by rw [decide_eq_true_eq]; omega), s_i_same s hs hb false i (by omega), List.drop_eq_nil_of_le (by omega)]
    rw [show i + lead [] = i from rfl]
    unfold front
    rw [List.getElem?_eq_none (by omega), if_neg (by simp), if_neg (by simp)]
  | succ d ih =>
    intro i hd
    have hi : i < s.length := by omega
    have c1 : (i : Int) < (s.length : Int) := by omega
    have c2 : (0 : Int) ≤ (i : Int) ∧ (i : Int) < (s.length : Int) := by omega
    have hg : List.getD s (i : Int).toNat 0 = s[i] := getD_nat hi 0
    have hdr := List.drop_eq_getElem_cons hi
    rw [s_DecFront_L1_eq, if_pos (decide_eq_true c1), if_pos c2, hg, w64_succ hi (by omega)]
    by_cases h : s[i] = 32
    · rw [if_pos (decide_eq_true h), ih (i + 1) (by omega), hdr]
      unfold lead
      rw [List.takeWhile_cons_of_pos (by simp [h]), List.length_cons, show i + 1 + (List.takeWhile (fun x => decide (x = 32)) (List.drop (i + 1) s)).length = i + ((List.takeWhile (fun x => decide (x = 32)) (List.drop (i + 1) s)).length + 1) by omega]
    · have hl : lead (s.drop i) = 0 := by
        unfold lead
        rw [hdr, List.takeWhile_cons_of_neg (by simpa using h)]; rfl
      rw [if_neg (by rw [decide_eq_true_eq]; exact h), if_pos (decide_eq_true c1), if_pos c2, if_pos (decide_eq_true c1), if_pos c2, hl, show i + 0 = i from rfl]
      unfold front
      rw [List.getElem?_eq_getElem hi]
      by_cases h1 : s[i] = 45
      · rw [if_pos (decide_eq_true h1), if_pos (by rw [h1]), decide_eq_true h1]
        exact s_i_same s hs hb true (i + 1) (by omega)
      · rw [if_neg (by rw [decide_eq_true_eq]; exact h1), if_pos c2, if_neg (show ¬ some s[i] = some 45 by simpa using h1), decide_eq_false h1]
        by_cases h2 : s[i] = 43
        · rw [if_pos (decide_eq_true h2), if_pos (by rw [h2])]
          exact s_i_same s hs hb false (i + 1) (by omega)
        · rw [if_neg (by rw [decide_eq_true_eq]; exact h2), if_neg (by simpa using h2)]
          exact s_i_same s hs hb false i (by omega)
theorem lead_len (s : List Int) : (s.length : Int) - (s.dropWhile (fun x => decide (x = 32))).length = lead s := by
  have h := congrArg List.length (List.takeWhile_append_dropWhile (p := fun x => decide (x = (32 : Int))) (l := s))
  rw [List.length_append] at h
  unfold lead
  omega
theorem lead_le (s : List Int) : lead s ≤ s.length := (List.takeWhile_sublist _).length_le
theorem i_front (s : List Int) (hs : s.length ≤ 1000000) : i_DecFront s = front s (lead s) := by
  have hL := lead_len s
  have hle := lead_le s
  rw [i_DecFront_eq, TrimLeft_ok _ _ (by omega) (by omega), Option.bind_some]
  dsimp only
  rw [hL, w64_id (n := (lead s : Int)) (by omega) (by omega)]
  unfold front
  by_cases c1 : (lead s : Int) < (s.length : Int)
  · have hi : lead s < s.length := by omega
    have c2 : (0 : Int) ≤ (lead s : Int) ∧ (lead s : Int) < (s.length : Int) := by omega
    have hg : List.getD s (lead s : Int).toNat 0 = s[lead s] := getD_nat hi 0
    rw [if_pos (decide_eq_true c1), if_pos c2, hg, w64_succ hi (by omega), List.getElem?_eq_getElem hi]
    by_cases h2 : s[lead s] = 43
    · rw [if_pos (decide_eq_true h2), if_pos c2, if_neg (by rw [h2]; simp), if_pos (by rw [h2]), decide_eq_false (by rw [h2]; decide)]
    · rw [if_neg (by rw [decide_eq_true_eq]; exact h2), if_pos c2]
      by_cases h1 : s[lead s] = 45
      · rw [if_pos (decide_eq_true h1), if_pos c2, if_pos (by rw [h1]), decide_eq_true h1]
      · rw [if_neg (by rw [decide_eq_true_eq]; exact h1), if_neg (by simpa using h1), if_neg (by simpa using h2)]
  · rw [if_neg (by rw [decide_eq_true_eq]; exact c1), List.getElem?_eq_none (by omega), if_neg (by simp), if_neg (by simp)]
theorem decFront_same (s : List Int) (hs : s.length ≤ 1000000) (hb : Bt s) : ∃ v e, s_DecFront s = some (v, e, ()) ∧ i_DecFront s = some (v, e, ()) ∧ (0 ≤ e ∧ e ≤ (s.length : Int)) ∧ (-9000000000000 ≤ v ∧ v ≤ 9000000000000) := by
  have h1 : s_DecFront s = front s (lead s) := by
    have := s_front s hs hb s.length 0 (by omega)
    rw [show (((0 : Nat)) : Int) = 0 from rfl, List.drop_zero, Nat.zero_add] at this
    rw [s_DecFront_eq, this]
  rw [h1, i_front s hs]
  have hle := lead_le s
  have hlt : ∀ c : Int, s[lead s]? = some c → lead s + 1 ≤ s.length := fun c h => by
    by_cases h' : lead s < s.length
    · exact h'
    · rw [List.getElem?_eq_none (by omega)] at h; cases h
  unfold front
  split
  · rename_i h
    obtain ⟨v, e, k1, k2, k3⟩ := i_L1_spec s hs true (lead s + 1) (hlt _ h)
    exact ⟨v, e, k1, k1, k2, k3⟩
  · split
    · rename_i h
      obtain ⟨v, e, k1, k2, k3⟩ := i_L1_spec s hs false (lead s + 1) (hlt _ h)
      exact ⟨v, e, k1, k1, k2, k3⟩
    · obtain ⟨v, e, k1, k2, k3⟩ := i_L1_spec s hs false (lead s) hle
      exact ⟨v, e, k1, k1, k2, k3⟩
theorem looks_L1 (s : List Int) (hs : s.length ≤ 1000000) (v : Int) : ∀ (d i : Nat), i + d = s.length → s_DecLooks_L1 s v (i : Int) = some (if ∀ x ∈ s.drop i, x = 32 then (v, true, ()) else (0, false, ())) := by
  intro d
  induction d with
  | zero =>
    intro i hd
    rw [s_DecLooks_L1_eq, if_neg (by rw [decide_eq_true_eq]; omega), List.drop_eq_nil_of_le (by omega), if_pos (by simp)]
  | succ d ih =>
    intro i hd
    have hi : i < s.length := by omega
    rw [s_DecLooks_L1_eq, if_pos (decide_eq_true (by omega)), if_pos (by omega), getD_nat hi, w64_succ hi (by omega), ih (i + 1) (by omega), List.drop_eq_getElem_cons hi]
    by_cases h : s[i] = 32
    · rw [if_neg (by simp [h])]
      simp [h]
    · rw [if_pos (by simp [h]), if_neg (fun hh => h (hh _ (List.mem_cons_self ..)))]
theorem decLooks_same (s : List Int) (hs : s.length ≤ 1000000) (hb : Bt s) : ∃ v ok, s_DecLooks s = some (v, ok, ()) ∧ i_DecLooks s = some (v, ok, ()) ∧ (-9000000000000 ≤ v ∧ v ≤ 9000000000000) := by
  obtain ⟨v, e, k1, k2, k3, k4⟩ := decFront_same s hs hb
  rw [s_DecLooks_eq, i_DecLooks_eq, k1, k2]
  simp only [Option.bind_some]
  by_cases h : e = 0
  · rw [if_pos (decide_eq_true h), if_pos (decide_eq_true h)]; exact ⟨0, false, rfl, rfl, by omega, by omega⟩
  · obtain ⟨n, rfl⟩ := Int.eq_ofNat_of_zero_le k3.1
    rw [if_neg (by rw [decide_eq_true_eq]; exact h), if_neg (by rw [decide_eq_true_eq]; exact h), if_pos k3, looks_L1 s hs v (s.length - n) n (by omega)]
    have hcut : List.take (s.length - (n : Int).toNat) (List.drop (n : Int).toNat s) = s.drop n := by
      rw [Int.toNat_natCast, List.take_of_length_le (by rw [List.length_drop]; omega)]
    rw [hcut]
    obtain ⟨r, r1, r2⟩ := Trim_ok (s.drop n) (by rw [List.length_drop]; omega)
    rw [r1, Option.bind_some]
    by_cases hr : r = []
    · rw [if_pos (r2.1 hr), if_neg (by simp [hr])]; exact ⟨v, true, rfl, rfl, k4⟩
    · rw [if_neg (fun hh => hr (r2.2 hh)), if_pos (by simp [hr])]; exact ⟨0, false, rfl, rfl, by omega, by omega⟩
end Go.Proofs.YtonmohpdmhfjnaaGreatDoor.E.TM
