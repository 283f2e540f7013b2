/- What is copied for the exact laws has bytes in its texts. No condition but those of a reading. -/
import Derived.Test.YtonmohpdmhfjnaaGreatDoorPMHPeer
import Derived.Test.YtonmohpdmhfjnaaGreatDoorPMHProg0
import Derived.Test.YtonmohpdmhfjnaaGreatDoorPMPeerOk
import Derived.Test.YtonmohpdmhfjnaaGreatDoorTMe1
import Derived.Test.YtonmohpdmhfjnaaGreatDoorTMe2
import Derived.Test.YtonmohpdmhfjnaaGreatDoorTMe3
namespace Go.Proofs.YtonmohpdmhfjnaaGreatDoor.E.TM
open Go.Proofs.YtonmohpdmhfjnaaGreatDoor.E
set_option linter.unusedVariables false
theorem fb_Op {d : Nat} {x : laws_Op} (h : Fine (G := gam) (d + 3) (.nm 1) x) : ∀ b ∈ x.S, 0 ≤ b ∧ b ≤ 255 := by
  have h' : _ ∧ _ ∧ (x.S.length ≤ 9223372036854775807 ∧ ∀ b ∈ x.S, 0 ≤ b ∧ b ≤ 255) ∧ _ := h
  exact h'.2.2.1.2
def Lb_Prog (x : laws_Prog) : Prop := (∀ y ∈ x.Start, ∀ b ∈ y.S, 0 ≤ b ∧ b ≤ 255) ∧ ∀ y ∈ x.Main, ∀ b ∈ y.S, 0 ≤ b ∧ b ≤ 255
theorem fb_Prog {d : Nat} {x : laws_Prog} (h : Fine (G := gam) (d + 5) (.nm 0) x) : Lb_Prog x := by
  have h' : _ ∧ _ ∧ (x.Start.length ≤ 9223372036854775807 ∧ ∀ y ∈ x.Start, Fine (G := gam) (d + 3) (.nm 1) y) ∧ (x.Main.length ≤ 9223372036854775807 ∧ ∀ y ∈ x.Main, Fine (G := gam) (d + 3) (.nm 1) y) ∧ _ := h
  exact ⟨fun y hy => fb_Op (d := d + 0) (h'.2.2.1.2 y hy), fun y hy => fb_Op (d := d + 0) (h'.2.2.2.1.2 y hy)⟩
theorem bOps {l : List laws_Op} (h : l.length ≤ 1048576 ∧ ∀ y ∈ l, Gl_Op 1048576 y) (hb : ∀ y ∈ l, ∀ b ∈ y.S, 0 ≤ b ∧ b ≤ 255) : BOps (l.map hc_Op) := by
  refine ⟨by rw [List.length_map]; have := h.1; omega, fun o ho => ?_⟩
  obtain ⟨y, hy, rfl⟩ := List.mem_map.1 ho
  have := h.2 y hy
  unfold Gl_Op at this
  exact ⟨hb y hy, by show y.S.length ≤ _; omega⟩
theorem bProg {x : laws_Prog} (h : Gl_Prog 1048576 x) (hb : Lb_Prog x) : BProg (hc_Prog x) := by
  unfold Gl_Prog at h
  obtain ⟨h1, h2, h3, h4⟩ := h
  exact ⟨⟨by show x.Vars.length ≤ _; have := h1.1; omega, fun y hy => by have := h1.2 y hy; omega⟩, ⟨by show x.Cells.length ≤ _; have := h2.1; omega, fun y hy => by have := h2.2 y hy; omega⟩, bOps h3 hb.1, bOps h4 hb.2⟩
theorem gi_up_Prog {x : laws_Prog} (h : Gl_Prog 1048576 x) : Gi_Prog 2097152 (hc_Prog x) := by
  have := hg_Prog h
  unfold Gi_Prog Gi_Op at *
  obtain ⟨h1, h2, h3, h4⟩ := this
  exact ⟨⟨by omega, fun y hy => by have := h1.2 y hy; omega⟩, ⟨by omega, fun y hy => by have := h2.2 y hy; omega⟩, ⟨by omega, fun y hy => by have := h3.2 y hy; omega⟩, ⟨by omega, fun y hy => by have := h4.2 y hy; omega⟩⟩
end Go.Proofs.YtonmohpdmhfjnaaGreatDoor.E.TM
