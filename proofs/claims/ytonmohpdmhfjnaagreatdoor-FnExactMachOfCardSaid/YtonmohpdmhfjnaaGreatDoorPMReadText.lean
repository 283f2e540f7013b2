/- A text that is read of bytes: the program and the reference read the same. No condition. -/
import Derived.Test.YtonmohpdmhfjnaaGreatDoorPMCanon
import Derived.Test.YtonmohpdmhfjnaaGreatDoorTMe1
import Derived.Test.YtonmohpdmhfjnaaGreatDoorTMe2
import Derived.Test.YtonmohpdmhfjnaaGreatDoorTMe3
namespace Go.Proofs.YtonmohpdmhfjnaaGreatDoor.E.TM
open Go.Proofs.YtonmohpdmhfjnaaGreatDoor.E
set_option linter.unusedVariables false
def Bytes (b : List Int) : Prop := ∀ x ∈ b, 0 ≤ x ∧ x ≤ 255
def getTextOf (b : List Int) (p : Int) : List Int × Int × Bool :=
  if (getNumOf b p).2.2 = true ∧ (getNumOf b p).1 ≤ (b.length : Int) - (getNumOf b p).2.1 then ((b.drop (getNumOf b p).2.1.toNat).take (getNumOf b p).1.toNat, (getNumOf b p).2.1 + (getNumOf b p).1, true) else ([], 0, false)
def trT (x : List Int × Int × Bool) : List Int × Int × Bool × Unit := (x.1, x.2.1, x.2.2, ())
theorem text_tail (b : List Int) (g : Int × Int × Bool) (h1 : 0 ≤ g.1) (h2 : g.1 ≤ 4611686018427387903) (h3 : 0 ≤ g.2.1) (h4 : g.2.1 ≤ (b.length : Int)) (hb : b.length ≤ 1048576) :
    (if (!g.2.2) = true then some (([] : List Int), (0 : Int), false, ()) else if (decide (g.1 > w64 ((b.length : Int) - g.2.1))) = true then some ([], 0, false, ()) else
      if (0 : Int) ≤ g.2.1 ∧ g.2.1 ≤ w64 (g.2.1 + g.1) ∧ w64 (g.2.1 + g.1) ≤ (b.length : Int) then some (List.take ((w64 (g.2.1 + g.1)).toNat - g.2.1.toNat) (List.drop g.2.1.toNat b), w64 (g.2.1 + g.1), true, ()) else none) =
    some (trT (if g.2.2 = true ∧ g.1 ≤ (b.length : Int) - g.2.1 then ((b.drop g.2.1.toNat).take g.1.toNat, g.2.1 + g.1, true) else ([], 0, false))) := by
  obtain ⟨n, q, ok⟩ := g
  dsimp only at *
  cases ok with
  | false => simp [trT]
  | true =>
    rw [w64_id (n := (b.length : Int) - q) (by omega) (by omega), w64_id (n := q + n) (by omega) (by omega)]
    simp only [Bool.not_true, Bool.false_eq_true, if_false, true_and, decide_eq_true_eq]
    by_cases h : n > (b.length : Int) - q
    · rw [if_pos h, if_neg (by omega)]; rfl
    · rw [if_neg h, if_pos (by omega), if_pos (by omega), show (q + n).toNat - q.toNat = n.toNat by omega]; rfl
theorem s_GetText_ok (b : List Int) (hb : b.length ≤ 1048576) (hw : Bytes b) (p : Int) (hp : -9223372036854775808 ≤ p ∧ p ≤ 9223372036854775807) : s_GetText b p = some (trT (getTextOf b p)) := by
  obtain ⟨h1, h2, h3, h4⟩ := getNumOf_bd b p
  rw [s_GetText_eq, s_GetNum_ok b hb hw p hp, Option.bind_some]
  exact text_tail b (getNumOf b p) h1 h2 h3 h4 hb
theorem i_GetText_ok (b : List Int) (hb : b.length ≤ 1048576) (hw : Bytes b) (p : Int) : i_GetText b p = some (trT (getTextOf b p)) := by
  obtain ⟨h1, h2, h3, h4⟩ := getNumOf_bd b p
  rw [i_GetText_eq, i_GetNum_ok b hb hw p, Option.bind_some]
  exact text_tail b (getNumOf b p) h1 h2 h3 h4 hb
theorem text_canon (b : List Int) (hw : Bytes b) (p q : Int) (t : List Int) (h : getTextOf b p = (t, q, true)) : 0 ≤ p ∧ p < q ∧ q ≤ (b.length : Int) ∧ b.take q.toNat = b.take p.toNat ++ putText t ∧ t.length ≤ b.length := by
  unfold getTextOf at h
  have hbd := getNumOf_bd b p
  cases hg : getNumOf b p with | mk n mo =>
  obtain ⟨m, ok⟩ := mo
  rw [hg] at h hbd
  dsimp only at h hbd
  by_cases hc : ok = true ∧ n ≤ (b.length : Int) - m
  · obtain ⟨rfl, hc2⟩ := hc
    rw [if_pos ⟨rfl, hc2⟩] at h
    simp only [Prod.mk.injEq, and_true] at h
    obtain ⟨rfl, rfl⟩ := h
    obtain ⟨c1, c2, c3, c4, c5, c6⟩ := num_canon b hw p n m hg
    have hl : ((b.drop m.toNat).take n.toNat).length = n.toNat := by rw [List.length_take, List.length_drop]; omega
    refine ⟨c1, by omega, by omega, ?_, by rw [hl]; omega⟩
    rw [show (m + n).toNat = m.toNat + n.toNat by omega, List.take_add, c4, List.append_assoc]
    unfold putText
    rw [hl, show ((n.toNat : Nat) : Int) = n by omega]
  · rw [if_neg hc] at h; simp at h
end Go.Proofs.YtonmohpdmhfjnaaGreatDoor.E.TM
