/- What is copied for the exact laws has bytes in its texts. No condition but those of a reading. -/
import Derived.Test.YtonmohpdmhfjnaaGreatDoorPMHPeer
import Derived.Test.YtonmohpdmhfjnaaGreatDoorPMHProg0
import Derived.Test.YtonmohpdmhfjnaaGreatDoorPMPeerOk
import Derived.Test.YtonmohpdmhfjnaaGreatDoorTMe1
import Derived.Test.YtonmohpdmhfjnaaGreatDoorTMe2
namespace Go.Proofs.YtonmohpdmhfjnaaGreatDoor.E.TM
open Go.Proofs.YtonmohpdmhfjnaaGreatDoor.E
set_option linter.unusedVariables false
theorem fb_Val {d : Nat} {x : laws_Val} (h : Fine (G := gam) (d + 3) (.nm 3) x) : Bt x.S := by
  have h' : _ ∧ _ ∧ (x.S.length ≤ 9223372036854775807 ∧ ∀ b ∈ x.S, 0 ≤ b ∧ b ≤ 255) ∧ _ := h
  exact h'.2.2.1.2
theorem fb_Cell {d : Nat} {x : laws_Cell} (h : Fine (G := gam) (d + 4) (.nm 4) x) : Bt x.Val.S := by
  have h' : _ ∧ (x.Key.length ≤ 9223372036854775807 ∧ _) ∧ Fine (G := gam) (d + 3) (.nm 3) x.Val ∧ _ := h
  exact fb_Val (d := d + 0) h'.2.2.1
def Lb_State (x : laws_State) : Prop := (∀ y ∈ x.Vars, Bt y.S) ∧ ∀ y ∈ x.Cells, Bt y.Val.S
theorem fb_State {d : Nat} {x : laws_State} (h : Fine (G := gam) (d + 6) (.nm 2) x) : Lb_State x := by
  have h' : (x.Vars.length ≤ 9223372036854775807 ∧ ∀ y ∈ x.Vars, Fine (G := gam) (d + 4) (.nm 3) y) ∧ (x.Cells.length ≤ 9223372036854775807 ∧ ∀ y ∈ x.Cells, Fine (G := gam) (d + 4) (.nm 4) y) ∧ _ ∧ _ ∧ _ := h
  exact ⟨fun y hy => fb_Val (d := d + 1) (h'.1.2 y hy), fun y hy => fb_Cell (d := d + 0) (h'.2.1.2 y hy)⟩
theorem fb_Mach {d : Nat} {x : laws_Mach} (h : Fine (G := gam) (d + 7) (.nm 5) x) : Lb_State x.State := by
  have h' : Fine (G := gam) (d + 6) (.nm 2) x.State ∧ (x.Done.length ≤ 9223372036854775807 ∧ _) ∧ (x.Out.length ≤ 9223372036854775807 ∧ _) ∧ _ := h
  exact fb_State (d := d + 0) h'.1
theorem fb_Hard {d : Nat} {x : laws_Hard} (h : Fine (G := gam) (d + 8) (.nm 15) x) : Lb_State x.Snap.State := by
  have h' : _ ∧ _ ∧ Fine (G := gam) (d + 7) (.nm 12) x.Log ∧ Fine (G := gam) (d + 7) (.nm 5) x.Snap ∧ _ := h
  exact fb_Mach (d := d + 0) h'.2.2.2.1
theorem fb_Peer {d : Nat} {x : laws_Peer} (h : Fine (G := gam) (d + 9) (.nm 21) x) : Lb_State x.Hard.Snap.State ∧ Lb_State x.Now.State := by
  have h' : _ ∧ Fine (G := gam) (d + 8) (.nm 15) x.Hard ∧ _ ∧ (x.Votes.length ≤ 9223372036854775807 ∧ _) ∧ (x.Next.length ≤ 9223372036854775807 ∧ _) ∧ (x.Match.length ≤ 9223372036854775807 ∧ _) ∧ _ ∧ Fine (G := gam) (d + 8) (.nm 5) x.Now ∧ _ := h
  exact ⟨fb_Hard (d := d + 0) h'.2.1, fb_Mach (d := d + 1) h'.2.2.2.2.2.2.2.1⟩
theorem fb_Op {d : Nat} {x : laws_Op} (h : Fine (G := gam) (d + 3) (.nm 1) x) : ∀ b ∈ x.S, 0 ≤ b ∧ b ≤ 255 := by
  have h' : _ ∧ _ ∧ (x.S.length ≤ 9223372036854775807 ∧ ∀ b ∈ x.S, 0 ≤ b ∧ b ≤ 255) ∧ _ := h
  exact h'.2.2.1.2
def Lb_Prog (x : laws_Prog) : Prop := (∀ y ∈ x.Start, ∀ b ∈ y.S, 0 ≤ b ∧ b ≤ 255) ∧ ∀ y ∈ x.Main, ∀ b ∈ y.S, 0 ≤ b ∧ b ≤ 255
theorem fb_Prog {d : Nat} {x : laws_Prog} (h : Fine (G := gam) (d + 5) (.nm 0) x) : Lb_Prog x := by
  have h' : _ ∧ _ ∧ (x.Start.length ≤ 9223372036854775807 ∧ ∀ y ∈ x.Start, Fine (G := gam) (d + 3) (.nm 1) y) ∧ (x.Main.length ≤ 9223372036854775807 ∧ ∀ y ∈ x.Main, Fine (G := gam) (d + 3) (.nm 1) y) ∧ _ := h
  exact ⟨fun y hy => fb_Op (d := d + 0) (h'.2.2.1.2 y hy), fun y hy => fb_Op (d := d + 0) (h'.2.2.2.1.2 y hy)⟩
theorem bOps {l : List laws_Op} (h : l.length ≤ 1048576 ∧ ∀ y ∈ l, Gl_Op 1048576 y) (hb : ∀ y ∈ l, ∀ b ∈ y.S, 0 ≤ b ∧ b ≤ 255) : BOps (l.map hc_Op) := by
  refine ⟨by rw [List.length_map]; have := h.1; omega, fun o ho => ?_⟩
  obtain ⟨y, hy, rfl⟩ := List.mem_map.1 ho
  have := h.2 y hy
  unfold Gl_Op at this
  exact ⟨hb y hy, by show y.S.length ≤ _; omega⟩
theorem bProg {x : laws_Prog} (h : Gl_Prog 1048576 x) (hb : Lb_Prog x) : BProg (hc_Prog x) := by
  unfold Gl_Prog at h
  obtain ⟨h1, h2, h3, h4⟩ := h
  exact ⟨⟨by show x.Vars.length ≤ _; have := h1.1; omega, fun y hy => by have := h1.2 y hy; omega⟩, ⟨by show x.Cells.length ≤ _; have := h2.1; omega, fun y hy => by have := h2.2 y hy; omega⟩, bOps h3 hb.1, bOps h4 hb.2⟩
theorem bState {x : laws_State} (h : Gl_State 1048576 x) (hb : Lb_State x) : BState (hc_State x) := by
  unfold Gl_State at h
  obtain ⟨h1, h2⟩ := h
  refine ⟨⟨by show (x.Vars.map hc_Val).length ≤ _; rw [List.length_map]; have := h1.1; omega, fun v hv => ?_⟩, by show (x.Cells.map hc_Cell).length ≤ _; rw [List.length_map]; have := h2.1; omega, fun c hc => ?_⟩
  · obtain ⟨y, hy, rfl⟩ := List.mem_map.1 hv; exact hb.1 y hy
  · obtain ⟨y, hy, rfl⟩ := List.mem_map.1 hc; exact hb.2 y hy
theorem bMach {x : laws_Mach} (h : Gl_Mach 1048576 x) (hb : Lb_State x.State) : BMach (hc_Mach x) := by
  unfold Gl_Mach at h
  exact ⟨bState h.1 hb, by show x.Done.length ≤ _; have := h.2.1; omega, by show x.Out.length ≤ _; have := h.2.2; omega⟩
theorem bList {l : List laws_Entry} (h : l.length ≤ 1048576 ∧ ∀ y ∈ l, Gl_Entry 1048576 y) : (l.map hc_Entry).length ≤ 2097152 ∧ ∀ e ∈ l.map hc_Entry, e.C.Line.length ≤ 2097152 := by
  refine ⟨by rw [List.length_map]; have := h.1; omega, fun e he => ?_⟩
  obtain ⟨y, hy, rfl⟩ := List.mem_map.1 he
  have := h.2 y hy
  unfold Gl_Entry Gl_Cmd at this
  show y.C.Line.length ≤ _
  omega
theorem bHard {x : laws_Hard} (h : Gl_Hard 1048576 x) (hb : Lb_State x.Snap.State) : BHard (hc_Hard x) := by
  unfold Gl_Hard Gl_Log at h
  exact ⟨bList h.1, bMach h.2 hb⟩
theorem bRpc {x : laws_Rpc} (h : Gl_Rpc 1048576 x) : BRpc (hc_Rpc x) := by
  unfold Gl_Rpc at h
  exact bList h.1
theorem bPeer {x : laws_Peer} (h : Gl_Peer 1048576 x) (hb : Lb_State x.Hard.Snap.State ∧ Lb_State x.Now.State) : BPeer (hc_Peer x) := by
  unfold Gl_Peer Gl_Disk at h
  obtain ⟨h1, h2, h3, h4, h5, h6, h7⟩ := h
  refine ⟨bHard h1 hb.1, by show x.Votes.length ≤ _; omega, by show x.Next.length ≤ _; omega, by show x.Match.length ≤ _; omega, bMach h5 hb.2, by show x.Disk.Bytes.length ≤ _; omega, by show (x.Held.map hc_Rpc).length ≤ _; rw [List.length_map]; have := h7.1; omega, fun r hr => ?_⟩
  obtain ⟨y, hy, rfl⟩ := List.mem_map.1 hr
  exact bRpc (h7.2 y hy)
theorem gi_up_Prog {x : laws_Prog} (h : Gl_Prog 1048576 x) : Gi_Prog 2097152 (hc_Prog x) := by
  have := hg_Prog h
  unfold Gi_Prog Gi_Op at *
  obtain ⟨h1, h2, h3, h4⟩ := this
  exact ⟨⟨by omega, fun y hy => by have := h1.2 y hy; omega⟩, ⟨by omega, fun y hy => by have := h2.2 y hy; omega⟩, ⟨by omega, fun y hy => by have := h3.2 y hy; omega⟩, ⟨by omega, fun y hy => by have := h4.2 y hy; omega⟩⟩
theorem gi_mono_Rpc {x : impl_Rpc} (h : Gi_Rpc 1048576 x) : Gi_Rpc 2097152 x := by
  unfold Gi_Rpc Gi_Entry Gi_Cmd at *
  exact ⟨⟨by have := h.1.1; omega, fun y hy => by have := h.1.2 y hy; omega⟩, by have := h.2; omega⟩
theorem gi_mono_Mach {x : impl_Mach} (h : Gi_Mach 1048576 x) : Gi_Mach 2097152 x := by
  unfold Gi_Mach Gi_State Gi_Val Gi_Cell Gi_Val at *
  obtain ⟨⟨⟨a1, a2⟩, b1, b2⟩, c1, c2⟩ := h
  exact ⟨⟨⟨by omega, fun y hy => by have := a2 y hy; omega⟩, by omega, fun y hy => by have := b2 y hy; omega⟩, by omega, by omega⟩
theorem gi_mono_Hard {x : impl_Hard} (h : Gi_Hard 1048576 x) : Gi_Hard 2097152 x := by
  unfold Gi_Hard Gi_Log Gi_Entry Gi_Cmd at *
  obtain ⟨⟨a1, a2⟩, a3⟩ := h
  exact ⟨⟨by omega, fun y hy => by have := a2 y hy; omega⟩, gi_mono_Mach a3⟩
theorem gi_mono_Peer {x : impl_Peer} (h : Gi_Peer 1048576 x) : Gi_Peer 2097152 x := by
  unfold Gi_Peer Gi_Disk at *
  obtain ⟨h1, h2, h3, h4, h5, h6, h7, h8⟩ := h
  exact ⟨gi_mono_Hard h1, by omega, by omega, by omega, gi_mono_Mach h5, by omega, by omega, fun y hy => gi_mono_Rpc (h8 y hy)⟩
end Go.Proofs.YtonmohpdmhfjnaaGreatDoor.E.TM
