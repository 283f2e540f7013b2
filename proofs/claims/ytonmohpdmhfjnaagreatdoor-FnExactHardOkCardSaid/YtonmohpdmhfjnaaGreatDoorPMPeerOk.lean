/- What a node keeps, messages, nodes: what is right for the program is right for the reference. No condition but lengths and bytes. -/
import Derived.Test.YtonmohpdmhfjnaaGreatDoorPMMachOk
import Derived.Test.YtonmohpdmhfjnaaGreatDoorPMLogOk
import Derived.Test.YtonmohpdmhfjnaaGreatDoorPMEntries
import Derived.Test.YtonmohpdmhfjnaaGreatDoorPMDiskOk
import Derived.Test.YtonmohpdmhfjnaaGreatDoorTMe1
import Derived.Test.YtonmohpdmhfjnaaGreatDoorTMe2
import Derived.Test.YtonmohpdmhfjnaaGreatDoorTMe3
namespace Go.Proofs.YtonmohpdmhfjnaaGreatDoor.E.TM
open Go.Proofs.YtonmohpdmhfjnaaGreatDoor.E
set_option linter.unusedVariables false
def lastI (l : impl_Log) : Int := if l.List.length = 0 then l.Base else w64 (l.Base + l.List.length)
def lastT (l : impl_Log) : Int := if l.List.length = 0 then l.BaseTerm else (l.List.getD (l.List.length - 1) z_impl_Entry).Term
theorem s_LastOf_ok (l : impl_Log) (hl : l.List.length ≤ 2097152) : s_LastOf l = some (lastI l, lastT l, ()) := by
  rw [s_LastOf_eq]
  unfold lastI lastT
  by_cases h : l.List.length = 0
  · rw [if_pos (decide_eq_true (by omega)), if_pos h, if_pos h]
  · have w1 : w64 ((l.List.length : Int) - 1) = ((l.List.length - 1 : Nat) : Int) := by rw [w64_id (by omega) (by omega)]; omega
    rw [if_neg (by rw [decide_eq_true_eq]; omega), w1, if_pos (by omega), if_neg h, if_neg h, Int.toNat_natCast]
theorem i_LastOf_ok (l : impl_Log) (hl : l.List.length ≤ 2097152) : i_LastOf l = some (lastI l, lastT l, ()) := by
  have := s_LastOf_ok l hl
  rw [s_LastOf_eq] at this
  rw [i_LastOf_eq]; exact this
def BLog (l : impl_Log) : Prop := l.List.length ≤ 2097152 ∧ ∀ e ∈ l.List, e.C.Line.length ≤ 2097152
theorem BLog.lines {l : impl_Log} (h : BLog l) : LinesOk l.List := fun e he => by have := h.2 e he; omega
def BMach (m : impl_Mach) : Prop := BState m.State ∧ m.Done.length ≤ 2097152 ∧ m.Out.length ≤ 2097152
def BHard (h : impl_Hard) : Prop := BLog h.Log ∧ BMach h.Snap
noncomputable def hardB (p : impl_Prog) (h : impl_Hard) : Bool :=
  decide (0 ≤ h.Term ∧ h.Term ≤ 300) && (decide (-1 ≤ h.Vote ∧ h.Vote ≤ 4) && (logOk h.Log && (decide (lastT h.Log ≤ h.Term) && machB p h.Snap)))
theorem i_isIndex_val (n : Int) : i_isIndex n = some (decide (0 ≤ n ∧ n ≤ 300), ()) := by rw [i_isIndex_eq, i_in_ok]; rfl
theorem i_isVote_val (n : Int) : i_isVote n = some (decide (-1 ≤ n ∧ n ≤ 4), ()) := by rw [i_isVote_eq, i_in_ok]; rfl
theorem i_HardOk_ok (p : impl_Prog) (h : impl_Hard) (hp : BProg p) (hb : BHard h) : i_HardOk p h = some (hardB p h, ()) := by
  rw [i_HardOk_eq, i_LastOf_ok _ hb.1.1, i_isIndex_val, i_isVote_val, i_LogOk_ok _ (by have := hb.1.1; omega), i_MachOk_ok p _ hp hb.2.1 hb.2.2.1]
  simp only [Option.bind_some]
  unfold hardB
  cases decide (0 ≤ h.Term ∧ h.Term ≤ 300) <;> cases decide (-1 ≤ h.Vote ∧ h.Vote ≤ 4) <;> cases logOk h.Log <;> cases decide (lastT h.Log ≤ h.Term) <;> rfl
theorem s_HardOk_ok (p : impl_Prog) (h : impl_Hard) (hp : BProg p) (hb : BHard h) : s_HardOk p h = some (hardB p h, ()) := by
  rw [s_HardOk_eq, s_LastOf_ok _ hb.1.1, s_l1In_ok, s_l1In_ok, s_LogOk_ok _ (by have := hb.1.1; omega) hb.1.lines, s_MachOk_ok p _ hp hb.2.1 hb.2.2.1]
  simp only [Option.bind_some]
  unfold hardB
  cases decide (0 ≤ h.Term ∧ h.Term ≤ 300) <;> cases decide (-1 ≤ h.Vote ∧ h.Vote ≤ 4) <;> cases logOk h.Log <;> cases decide (lastT h.Log ≤ h.Term) <;> rfl
end Go.Proofs.YtonmohpdmhfjnaaGreatDoor.E.TM
