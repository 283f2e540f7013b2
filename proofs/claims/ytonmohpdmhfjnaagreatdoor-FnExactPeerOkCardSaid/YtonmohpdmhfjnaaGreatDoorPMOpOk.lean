/- Ops: what is right for the program is right for the reference. No condition but lengths and bytes. -/
import Derived.Test.YtonmohpdmhfjnaaGreatDoorPMProgOk
import Derived.Test.YtonmohpdmhfjnaaGreatDoorTMe1
import Derived.Test.YtonmohpdmhfjnaaGreatDoorTMe2
namespace Go.Proofs.YtonmohpdmhfjnaaGreatDoor.E.TM
open Go.Proofs.YtonmohpdmhfjnaaGreatDoor.E
set_option linter.unusedVariables false
theorem s_DecOk_ok (n : Int) : s_DecOk n = some (decide (-9000000000000 ≤ n ∧ n ≤ 9000000000000), ()) := by rw [s_DecOk_eq, s_l1In_ok]; rfl
theorem i_DecOk_val (n : Int) : i_DecOk n = some (decide (-9000000000000 ≤ n ∧ n ≤ 9000000000000), ()) := by rw [i_DecOk_eq, i_in_ok]; rfl
theorem i_isRex_ok (s : List Int) (hb : ∀ b ∈ s, 0 ≤ b ∧ b ≤ 255) (hl : s.length ≤ 9223372036854775807) : i_isRex s = some (rexB s, ()) := by
  obtain ⟨x, e1, e2⟩ := rex_ok s hb hl
  rw [i_isRex_eq, e2]; rfl
theorem ite_and (a b : Bool) : (if a = true then some (b, ()) else some (false, ())) = some (a && b, ()) := by cases a <;> rfl
theorem in4 (t1 : Int) (c : Int) (b : Bool) (o : impl_Op) : s_l13Op_L4 t1 c b o = some (if b = true then decide (0 ≤ o.N ∧ o.N ≤ w64 (t1 - 1)) && decide (o.S = []) else if c = 33 then decide (0 ≤ o.N ∧ o.N ≤ 1) && decide (o.S = []) else (decide (1 ≤ o.Code ∧ o.Code ≤ 36) && decide (o.N = 0)) && decide (o.S = []), ()) := by
  rw [s_l13Op_L4_eq, s_l1In_ok, s_l1In_ok, s_l1In_ok]
  simp only [Option.bind_some, ite_and]
  cases b with
  | true => rfl
  | false =>
    by_cases h : c = 33
    · simp [h]
    · simp [h, Bool.and_assoc]
theorem s_l13Op_ok (o : impl_Op) (n v c : Int) (hb : ∀ b ∈ o.S, 0 ≤ b ∧ b ≤ 255) (hl : o.S.length ≤ 9223372036854775807) : s_l13Op o n v c = some (opB o n v c, ()) := by
  obtain ⟨x, e1, e2⟩ := rex_ok o.S hb hl
  rw [s_l13Op_eq, s_DecOk_ok]
  simp only [Option.bind_some, ite_and, s_l13Op_L1_eq, s_l13Op_L2_eq, s_l13Op_L3_eq, in4, e1, s_calls_ok, s_l1In_ok, within_ok kw2 _ (by decide)]
  unfold opB
  by_cases c1 : o.Code = 1
  · simp [c1, Bool.and_assoc]
  by_cases c2 : o.Code = 2
  · simp [c2, Bool.and_assoc]
  by_cases c3 : o.Code = 3
  · simp [c3, Bool.and_assoc]
  by_cases c4 : o.Code = 4
  · simp [c4, Bool.and_assoc]
  by_cases c5 : o.Code = 5
  · simp [c5, Bool.and_assoc]
  by_cases c6 : o.Code = 6
  · simp [c6, Bool.and_assoc]
  by_cases c7 : o.Code = 7
  · simp [c7, Bool.and_assoc]
  by_cases c8 : o.Code = 8
  · simp [c8, Bool.and_assoc]
  by_cases c35 : o.Code = 35
  · simp [c35, Bool.and_assoc]
  by_cases c24 : o.Code = 24
  · simp [c24, Bool.and_assoc]
  by_cases c25 : o.Code = 25
  · simp [c25, Bool.and_assoc]
  by_cases c29 : o.Code = 29
  · simp [c29, Bool.and_assoc]
  by_cases c30 : o.Code = 30
  · simp [c30, Bool.and_assoc]
  by_cases c31 : o.Code = 31
  · simp [c31, Bool.and_assoc]
  by_cases c33 : o.Code = 33
  · simp [c33, Bool.and_assoc]
  simp [Bool.and_assoc, c1, c2, c3, c4, c5, c6, c7, c8, c35, c24, c25, c29, c30, c31, c33]
def formOf (c : Int) : List Int := if c = 1 then [100] else if c = 2 ∨ c = 24 ∨ c = 25 then [115] else if c = 29 then [110, 115] else if c = 3 ∨ c = 4 ∨ c = 5 ∨ c = 6 ∨ c = 7 ∨ c = 8 ∨ c = 35 ∨ c = 30 ∨ c = 31 ∨ c = 33 then [110] else []
def opNames : List (List Int) := [[], [110, 117, 109], [116, 101, 120, 116], [118, 97, 114], [115, 101, 116, 118, 97, 114], [112, 108, 117, 115, 118, 97, 114], [99, 101, 108, 108], [115, 101, 116, 99, 101, 108, 108], [112, 108, 117, 115, 99, 101, 108, 108], [102, 105, 101, 108, 100], [110, 114], [110, 102], [97, 100, 100], [115, 117, 98], [109, 117, 108], [100, 105, 118], [109, 111, 100], [99, 97, 116], [108, 101, 115, 115], [109, 111, 115, 116], [109, 111, 114, 101], [108, 101, 97, 115, 116], [115, 97, 109, 101], [111, 116, 104, 101, 114], [102, 105, 116, 115], [108, 105, 110, 101], [110, 111, 116], [109, 105, 110, 117, 115], [98, 111, 111, 108], [99, 97, 108, 108], [106, 117, 109, 112], [122, 101, 114, 111], [112, 111, 112], [115, 104, 111, 119], [101, 110, 100, 108], [100, 114, 111, 112], [110, 101, 120, 116]]
theorem opNames_ne (c : Int) (h : 1 ≤ c ∧ c ≤ 36) : opNames.getD c.toNat [] ≠ [] := by
  have : ∀ n : Nat, n < 37 → 1 ≤ n → opNames.getD n [] ≠ [] := by decide
  exact this c.toNat (by omega) (by omega)
theorem opName_L1 (c : Int) (f : List Int) (h : 1 ≤ c ∧ c ≤ 36) : i_opName_L1 c opNames f = some (opNames.getD c.toNat [], f, ()) := by
  rw [i_opName_L1_eq, if_pos (by show (0 : Int) ≤ c ∧ c < 37; omega)]
theorem opName_ok (c : Int) : i_opName c = some (if 1 ≤ c ∧ c ≤ 36 then opNames.getD c.toNat [] else [], if 1 ≤ c ∧ c ≤ 36 then formOf c else [], ()) := by
  rw [i_opName_eq, i_in_ok, Option.bind_some]
  dsimp only
  by_cases h : 1 ≤ c ∧ c ≤ 36
  · rw [decide_eq_true h, if_neg (by simp), if_pos h, if_pos h]
    have e := fun f => opName_L1 c f h
    unfold opNames at e ⊢
    simp only [i_opName_L2_eq, i_opName_L3_eq, e]
    unfold formOf
    by_cases c1 : c = 1
    · simp [c1]
    by_cases c2 : c = 2
    · simp [c2]
    by_cases c24 : c = 24
    · simp [c24]
    by_cases c25 : c = 25
    · simp [c25]
    by_cases c29 : c = 29
    · simp [c29]
    by_cases c3 : c = 3
    · simp [c3]
    by_cases c4 : c = 4
    · simp [c4]
    by_cases c5 : c = 5
    · simp [c5]
    by_cases c6 : c = 6
    · simp [c6]
    by_cases c7 : c = 7
    · simp [c7]
    by_cases c8 : c = 8
    · simp [c8]
    by_cases c35 : c = 35
    · simp [c35]
    by_cases c30 : c = 30
    · simp [c30]
    by_cases c31 : c = 31
    · simp [c31]
    by_cases c33 : c = 33
    · simp [c33]
    simp [c1, c2, c3, c4, c5, c6, c7, c8, c35, c24, c25, c29, c30, c31, c33]
  · rw [decide_eq_false h, if_pos (by simp), if_neg h, if_neg h]
theorem i_opRight_ok (o : impl_Op) (n v c : Int) (hb : ∀ b ∈ o.S, 0 ≤ b ∧ b ≤ 255) (hl : o.S.length ≤ 9223372036854775807) : i_opRight o n v c = some (opB o n v c, ()) := by
  rw [i_opRight_eq, opName_ok, Option.bind_some]
  dsimp only
  by_cases h : 1 ≤ o.Code ∧ o.Code ≤ 36
  · rw [if_pos h, if_pos h, if_neg (by rw [decide_eq_true_eq]; exact opNames_ne _ h)]
    simp only [i_DecOk_val, Option.bind_some, ite_and, i_opRight_L1_eq, i_opRight_L2_eq, i_opRight_L3_eq, i_opRight_L4_eq, i_isRex_ok o.S hb hl, i_calls_ok, i_in_ok, containsS_ok kw2 _ (by decide)]
    unfold opB formOf
    by_cases c1 : o.Code = 1
    · simp [c1, Bool.and_assoc] <;> by_cases hN : o.N = 0 <;> by_cases hS : o.S = [] <;> simp [hN, hS]
    by_cases c2 : o.Code = 2
    · simp [c2, Bool.and_assoc] <;> by_cases hN : o.N = 0 <;> by_cases hS : o.S = [] <;> simp [hN, hS]
    by_cases c3 : o.Code = 3
    · simp [c3, Bool.and_assoc] <;> by_cases hN : o.N = 0 <;> by_cases hS : o.S = [] <;> simp [hN, hS]
    by_cases c4 : o.Code = 4
    · simp [c4, Bool.and_assoc] <;> by_cases hN : o.N = 0 <;> by_cases hS : o.S = [] <;> simp [hN, hS]
    by_cases c5 : o.Code = 5
    · simp [c5, Bool.and_assoc] <;> by_cases hN : o.N = 0 <;> by_cases hS : o.S = [] <;> simp [hN, hS]
    by_cases c6 : o.Code = 6
    · simp [c6, Bool.and_assoc] <;> by_cases hN : o.N = 0 <;> by_cases hS : o.S = [] <;> simp [hN, hS]
    by_cases c7 : o.Code = 7
    · simp [c7, Bool.and_assoc] <;> by_cases hN : o.N = 0 <;> by_cases hS : o.S = [] <;> simp [hN, hS]
    by_cases c8 : o.Code = 8
    · simp [c8, Bool.and_assoc] <;> by_cases hN : o.N = 0 <;> by_cases hS : o.S = [] <;> simp [hN, hS]
    by_cases c35 : o.Code = 35
    · simp [c35, Bool.and_assoc] <;> by_cases hN : o.N = 0 <;> by_cases hS : o.S = [] <;> simp [hN, hS]
    by_cases c24 : o.Code = 24
    · simp [c24, Bool.and_assoc] <;> by_cases hN : o.N = 0 <;> by_cases hS : o.S = [] <;> simp [hN, hS]
    by_cases c25 : o.Code = 25
    · simp [c25, Bool.and_assoc] <;> by_cases hN : o.N = 0 <;> by_cases hS : o.S = [] <;> simp [hN, hS]
    by_cases c29 : o.Code = 29
    · simp [c29, Bool.and_assoc] <;> by_cases hN : o.N = 0 <;> by_cases hS : o.S = [] <;> simp [hN, hS]
    by_cases c30 : o.Code = 30
    · simp [c30, Bool.and_assoc] <;> by_cases hN : o.N = 0 <;> by_cases hS : o.S = [] <;> simp [hN, hS]
    by_cases c31 : o.Code = 31
    · simp [c31, Bool.and_assoc] <;> by_cases hN : o.N = 0 <;> by_cases hS : o.S = [] <;> simp [hN, hS]
    by_cases c33 : o.Code = 33
    · simp [c33, Bool.and_assoc] <;> by_cases hN : o.N = 0 <;> by_cases hS : o.S = [] <;> simp [hN, hS]
    simp [c1, c2, c3, c4, c5, c6, c7, c8, c35, c24, c25, c29, c30, c31, c33, h, Bool.and_assoc]
    by_cases hN : o.N = 0 <;> by_cases hS : o.S = [] <;> simp [hN, hS]
  · rw [if_neg h, if_neg h, if_pos (by simp)]
    unfold opB
    rw [if_neg (by omega), if_neg (by omega), if_neg (by omega), if_neg (by omega), if_neg (by omega), if_neg (by omega), if_neg (by omega), if_neg (by omega), decide_eq_false h]
    rfl
end Go.Proofs.YtonmohpdmhfjnaaGreatDoor.E.TM
