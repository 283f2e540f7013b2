/- The bytes of a machine: the program and the reference put the same. No condition but lengths and bytes. -/
import Derived.Test.YtonmohpdmhfjnaaGreatDoorPMPeerOk
import Derived.Test.YtonmohpdmhfjnaaGreatDoorPMPutNum
import Derived.Test.YtonmohpdmhfjnaaGreatDoorPMRound
import Derived.Test.YtonmohpdmhfjnaaGreatDoorTMe1
import Derived.Test.YtonmohpdmhfjnaaGreatDoorTMe2
import Derived.Test.YtonmohpdmhfjnaaGreatDoorTMe3
namespace Go.Proofs.YtonmohpdmhfjnaaGreatDoor.E.TM
open Go.Proofs.YtonmohpdmhfjnaaGreatDoor.E
set_option linter.unusedVariables false
def valBytes (v : impl_Val) : List Int := (putNumOf v.Kind ++ putInt v.N) ++ putText v.S
def addC (a : List Int) (c : impl_Cell) : List Int := ((a ++ putNumOf c.Name) ++ putText c.Key) ++ valBytes c.Val
def MachFine (m : impl_Mach) : Prop :=
  m.State.Vars.length ≤ 8 ∧ (∀ v ∈ m.State.Vars, v.S.length ≤ 300) ∧ m.State.Cells.length ≤ 40 ∧ (∀ c ∈ m.State.Cells, c.Key.length ≤ 300 ∧ c.Val.S.length ≤ 300) ∧ m.Done.length = 3 ∧ m.Out.length ≤ 1500
theorem and_iff' {a b : Bool} : (a && b) = true ↔ a = true ∧ b = true := by cases a <;> cases b <;> simp
theorem valB_len {v : impl_Val} (h : valB v = true) : v.S.length ≤ 300 := by
  unfold valB at h
  have h1 := (and_iff'.1 (and_iff'.1 h).1).2
  by_cases c : (v.S.length : Int) > 300
  · rw [decide_eq_true c] at h1; cases h1
  · omega
theorem not_true' {a : Bool} (h : (!a) = true) : a = false := by cases a with
  | true => cases h
  | false => rfl
theorem any_false {α : Type} {l : List α} {p : α → Bool} (h : l.any p = false) : ∀ x ∈ l, p x = false := by
  intro x hx
  cases e : p x with
  | false => rfl
  | true =>
    have : l.any p = true := List.any_eq_true.2 ⟨x, hx, e⟩
    rw [h] at this; cases this
theorem stateB_fine {s : impl_State} {v c : Int} (h : stateB s v c = true) : (s.Vars.length : Int) = v ∧ (∀ x ∈ s.Vars, valB x = true) ∧ s.Cells.length ≤ 40 ∧ (∀ x ∈ s.Cells, x.Key.length ≤ 300 ∧ valB x.Val = true ∧ 0 ≤ x.Name ∧ x.Name < c) ∧ (0 ≤ s.Nr ∧ s.Nr ≤ 1000000) ∧ (0 ≤ s.Err ∧ s.Err ≤ 7) := by
  unfold stateB at h
  obtain ⟨a1, h⟩ := and_iff'.1 h
  obtain ⟨a2, h⟩ := and_iff'.1 h
  obtain ⟨a3, h⟩ := and_iff'.1 h
  obtain ⟨a4, h⟩ := and_iff'.1 h
  obtain ⟨a5, a6⟩ := and_iff'.1 h
  have a3' := of_decide_eq_true a3
  refine ⟨of_decide_eq_true a1, fun x hx => ?_, by omega, fun x hx => ?_, of_decide_eq_true a4, of_decide_eq_true a5⟩
  · have := any_false (not_true' a2) x hx
    cases e : valB x with
    | true => rfl
    | false => rw [e] at this; cases this
  · obtain ⟨i, hi, rfl⟩ := List.mem_iff_getElem.1 hx
    have := anyB_false.1 (not_true' a6) i hi
    unfold cellBad at this
    rw [getD_lt hi, Bool.or_eq_false_iff, Bool.or_eq_false_iff, Bool.or_eq_false_iff, Bool.or_eq_false_iff] at this
    obtain ⟨b1, b2, b3, b4, _⟩ := this
    have b1' := of_decide_eq_false b1
    have b2' := of_decide_eq_false b2
    have b3' := of_decide_eq_false b3
    refine ⟨by omega, ?_, by omega, by omega⟩
    cases e : valB s.Cells[i].Val with
    | true => rfl
    | false => rw [e] at b4; cases b4
theorem machB_fine {p : impl_Prog} {m : impl_Mach} (h : machB p m = true) : MachFine m := by
  unfold machB at h
  obtain ⟨h1, h⟩ := and_iff'.1 h
  obtain ⟨h2, h⟩ := and_iff'.1 h
  obtain ⟨h3, h⟩ := and_iff'.1 h
  obtain ⟨h4, h5⟩ := and_iff'.1 h
  obtain ⟨s1, s2, s3, s4, s5⟩ := stateB_fine h2
  unfold progB namesB at h1
  have hv := of_decide_eq_true (and_iff'.1 (and_iff'.1 h1).1).2
  have h3' := of_decide_eq_true h3
  have h5' := of_decide_eq_true h5
  exact ⟨by omega, fun v hv => valB_len (s2 v hv), s3, fun c hc => ⟨(s4 c hc).1, valB_len (s4 c hc).2.1⟩, by omega, by omega⟩
end Go.Proofs.YtonmohpdmhfjnaaGreatDoor.E.TM
