/- Numbers and texts that are written are read as they were. No condition. -/
import Derived.Test.YtonmohpdmhfjnaaGreatDoorPMReadText
import Derived.Test.YtonmohpdmhfjnaaGreatDoorTMe1
import Derived.Test.YtonmohpdmhfjnaaGreatDoorTMe2
import Derived.Test.YtonmohpdmhfjnaaGreatDoorTMe3
namespace Go.Proofs.YtonmohpdmhfjnaaGreatDoor.E.TM
open Go.Proofs.YtonmohpdmhfjnaaGreatDoor.E
set_option linter.unusedVariables false
def zig (n : Int) : Int := if n < 0 then -2 * n - 1 else 2 * n
def zag (n : Int) : Int := if n % 2 = 1 then -(n / 2) - 1 else n / 2
def InZ (n : Int) : Prop := -2305843009213693951 ≤ n ∧ n ≤ 2305843009213693951
instance (n : Int) : Decidable (InZ n) := inferInstanceAs (Decidable (_ ∧ _))
def putInt (n : Int) : List Int := if InZ n then putNumOf (zig n) else []
def getIntOf (b : List Int) (p : Int) : Int × Int × Bool :=
  if (getNumOf b p).2.2 = true ∧ InZ (zag (getNumOf b p).1) then (zag (getNumOf b p).1, (getNumOf b p).2.1, true) else (0, 0, false)
theorem i_int_tail (q : Int) (ok : Bool) (v : Int) : i_GetInt_L1 q ok v = some (tr3 (if ok = true ∧ InZ v then (v, q, true) else (0, 0, false))) := by
  rw [i_GetInt_L1_eq]
  cases ok with
  | false => rfl
  | true =>
    rw [if_neg (by simp), i_in_ok, Option.bind_some]
    by_cases h : InZ v
    · have hh := h
      unfold InZ at hh
      rw [decide_eq_true hh, if_neg (by simp), if_pos ⟨rfl, h⟩]; rfl
    · have hh := h
      unfold InZ at hh
      rw [decide_eq_false hh, if_pos (by simp), if_neg (fun x => h x.2)]; rfl
theorem s_int_tail (q v : Int) : s_GetInt_L1 q v = some (tr3 (if true = true ∧ InZ v then (v, q, true) else (0, 0, false))) := by
  rw [s_GetInt_L1_eq, s_l1In_ok, Option.bind_some]
  by_cases h : InZ v
  · have hh := h
    unfold InZ at hh
    rw [decide_eq_true hh, if_neg (by simp), if_pos ⟨rfl, h⟩]; rfl
  · have hh := h
    unfold InZ at hh
    rw [decide_eq_false hh, if_pos (by simp), if_neg (fun x => h x.2)]; rfl
theorem i_GetInt_ok (b : List Int) (hb : b.length ≤ 1048576) (hw : Bytes b) (p : Int) : i_GetInt b p = some (tr3 (getIntOf b p)) := by
  obtain ⟨h1, h2, h3, h4⟩ := getNumOf_bd b p
  rw [i_GetInt_eq, i_GetNum_ok b hb hw p, Option.bind_some]
  unfold getIntOf
  generalize getNumOf b p = g at *
  obtain ⟨n, q, ok⟩ := g
  simp only [tr3] at *
  simp only [Int.tmod_eq_emod_of_nonneg h1, Int.tdiv_eq_ediv_of_nonneg h1, decide_eq_true_eq, i_int_tail, tr3]
  unfold zag
  by_cases h : n % 2 = 1
  · rw [if_pos h, if_pos h, w64_id (n := n / 2) (by omega) (by omega), w64_id (n := n / 2 + 1) (by omega) (by omega), w64_id (by omega) (by omega), show 0 - (n / 2 + 1) = -(n / 2) - 1 by omega]
  · rw [if_neg h, if_neg h, w64_id (by omega) (by omega)]
theorem s_GetInt_ok (b : List Int) (hb : b.length ≤ 1048576) (hw : Bytes b) (p : Int) (hp : -9223372036854775808 ≤ p ∧ p ≤ 9223372036854775807) : s_GetInt b p = some (tr3 (getIntOf b p)) := by
  obtain ⟨h1, h2, h3, h4⟩ := getNumOf_bd b p
  rw [s_GetInt_eq, s_GetNum_ok b hb hw p hp, Option.bind_some]
  unfold getIntOf
  generalize getNumOf b p = g at *
  obtain ⟨n, q, ok⟩ := g
  simp only [tr3] at *
  cases ok with
  | false => simp
  | true =>
    simp only [Int.tmod_eq_emod_of_nonneg h1, Int.tdiv_eq_ediv_of_nonneg h1, decide_eq_true_eq, s_int_tail, tr3]
    rw [if_neg (by simp)]
    unfold zag
    by_cases h : n % 2 = 1
    · rw [if_pos h, if_pos h, w64_id (n := n / 2) (by omega) (by omega), w64_id (by omega) (by omega), show -1 - n / 2 = -(n / 2) - 1 by omega]
    · rw [if_neg h, if_neg h, w64_id (by omega) (by omega)]
theorem int_canon (b : List Int) (hw : Bytes b) (p v q : Int) (h : getIntOf b p = (v, q, true)) : 0 ≤ p ∧ p < q ∧ q ≤ (b.length : Int) ∧ b.take q.toNat = b.take p.toNat ++ putInt v := by
  unfold getIntOf at h
  cases hg : getNumOf b p with | mk n mo =>
  obtain ⟨m, ok⟩ := mo
  rw [hg] at h
  dsimp only at h
  by_cases hc : ok = true ∧ InZ (zag n)
  · obtain ⟨rfl, hz⟩ := hc
    rw [if_pos ⟨rfl, hz⟩] at h
    simp only [Prod.mk.injEq, and_true] at h
    obtain ⟨rfl, rfl⟩ := h
    obtain ⟨c1, c2, c3, c4, c5, c6⟩ := num_canon b hw p n m hg
    refine ⟨c1, c2, c3, ?_⟩
    have hzz : zig (zag n) = n := by
      unfold zag
      by_cases h2 : n % 2 = 1
      · rw [if_pos h2]; unfold zig; rw [if_pos (by omega)]; omega
      · rw [if_neg h2]; unfold zig; rw [if_neg (by omega)]; omega
    unfold putInt
    rw [if_pos hz, hzz]; exact c4
  · rw [if_neg hc] at h; simp at h
end Go.Proofs.YtonmohpdmhfjnaaGreatDoor.E.TM
