/- The harness of the exact laws at Peer: sizes, copies, likeness, marks. Printed by wip/gen/harness.py. No condition but lengths. -/
import Derived.Test.YtonmohpdmhfjnaaGreatDoorPMRows
import Derived.Test.YtonmohpdmhfjnaaGreatDoorPMMarkText
import Derived.Test.YtonmohpdmhfjnaaGreatDoorTMe1
import Derived.Test.YtonmohpdmhfjnaaGreatDoorTMe2
namespace Go.Proofs.YtonmohpdmhfjnaaGreatDoor.E.TM
open Go.Proofs.YtonmohpdmhfjnaaGreatDoor.E
set_option linter.unusedVariables false
def Gl_Cmd (M : Nat) (x : laws_Cmd) : Prop := x.Line.length ≤ M
def Gi_Cmd (M : Nat) (x : impl_Cmd) : Prop := x.Line.length ≤ M
def Gl_Entry (M : Nat) (x : laws_Entry) : Prop := Gl_Cmd M x.C
def Gi_Entry (M : Nat) (x : impl_Entry) : Prop := Gi_Cmd M x.C
def Gl_Log (M : Nat) (x : laws_Log) : Prop := (x.List.length ≤ M ∧ ∀ y ∈ x.List, Gl_Entry M y)
def Gi_Log (M : Nat) (x : impl_Log) : Prop := (x.List.length ≤ M ∧ ∀ y ∈ x.List, Gi_Entry M y)
def Gl_Val (M : Nat) (x : laws_Val) : Prop := x.S.length ≤ M
def Gi_Val (M : Nat) (x : impl_Val) : Prop := x.S.length ≤ M
def Gl_Cell (M : Nat) (x : laws_Cell) : Prop := x.Key.length ≤ M ∧ Gl_Val M x.Val
def Gi_Cell (M : Nat) (x : impl_Cell) : Prop := x.Key.length ≤ M ∧ Gi_Val M x.Val
def Gl_State (M : Nat) (x : laws_State) : Prop := (x.Vars.length ≤ M ∧ ∀ y ∈ x.Vars, Gl_Val M y) ∧ (x.Cells.length ≤ M ∧ ∀ y ∈ x.Cells, Gl_Cell M y)
def Gi_State (M : Nat) (x : impl_State) : Prop := (x.Vars.length ≤ M ∧ ∀ y ∈ x.Vars, Gi_Val M y) ∧ (x.Cells.length ≤ M ∧ ∀ y ∈ x.Cells, Gi_Cell M y)
def Gl_Mach (M : Nat) (x : laws_Mach) : Prop := Gl_State M x.State ∧ x.Done.length ≤ M ∧ x.Out.length ≤ M
def Gi_Mach (M : Nat) (x : impl_Mach) : Prop := Gi_State M x.State ∧ x.Done.length ≤ M ∧ x.Out.length ≤ M
def Gl_Hard (M : Nat) (x : laws_Hard) : Prop := Gl_Log M x.Log ∧ Gl_Mach M x.Snap
def Gi_Hard (M : Nat) (x : impl_Hard) : Prop := Gi_Log M x.Log ∧ Gi_Mach M x.Snap
def Gl_Disk (M : Nat) (x : laws_Disk) : Prop := x.Bytes.length ≤ M
def Gi_Disk (M : Nat) (x : impl_Disk) : Prop := x.Bytes.length ≤ M
def Gl_Rpc (M : Nat) (x : laws_Rpc) : Prop := (x.List.length ≤ M ∧ ∀ y ∈ x.List, Gl_Entry M y) ∧ x.Snap.length ≤ M
def Gi_Rpc (M : Nat) (x : impl_Rpc) : Prop := (x.List.length ≤ M ∧ ∀ y ∈ x.List, Gi_Entry M y) ∧ x.Snap.length ≤ M
def Gl_Peer (M : Nat) (x : laws_Peer) : Prop := Gl_Hard M x.Hard ∧ x.Votes.length ≤ M ∧ x.Next.length ≤ M ∧ x.Match.length ≤ M ∧ Gl_Mach M x.Now ∧ Gl_Disk M x.Disk ∧ (x.Held.length ≤ M ∧ ∀ y ∈ x.Held, Gl_Rpc M y)
def Gi_Peer (M : Nat) (x : impl_Peer) : Prop := Gi_Hard M x.Hard ∧ x.Votes.length ≤ M ∧ x.Next.length ≤ M ∧ x.Match.length ≤ M ∧ Gi_Mach M x.Now ∧ Gi_Disk M x.Disk ∧ (x.Held.length ≤ M ∧ ∀ y ∈ x.Held, Gi_Rpc M y)
theorem hf_Cmd {d : Nat} {x : laws_Cmd} (h : Fine (G := gam) (d + 3) (.nm 14) x) : Gl_Cmd 9223372036854775807 x := by
  have h' : _ ∧ _ ∧ (x.Line.length ≤ 9223372036854775807 ∧ _) ∧ _ := h
  unfold Gl_Cmd
  exact h'.2.2.1.1
theorem hf_Entry {d : Nat} {x : laws_Entry} (h : Fine (G := gam) (d + 4) (.nm 13) x) : Gl_Entry 9223372036854775807 x := by
  have h' : _ ∧ Fine (G := gam) (d + 3) (.nm 14) x.C ∧ _ := h
  unfold Gl_Entry
  exact hf_Cmd (d := d + 0) h'.2.1
theorem hf_Log {d : Nat} {x : laws_Log} (h : Fine (G := gam) (d + 6) (.nm 12) x) : Gl_Log 9223372036854775807 x := by
  have h' : _ ∧ _ ∧ (x.List.length ≤ 9223372036854775807 ∧ ∀ y ∈ x.List, Fine (G := gam) (d + 4) (.nm 13) y) ∧ _ := h
  unfold Gl_Log
  exact ⟨h'.2.2.1.1, fun y hy => hf_Entry (d := d + 0) (h'.2.2.1.2 y hy)⟩
theorem hf_Val {d : Nat} {x : laws_Val} (h : Fine (G := gam) (d + 3) (.nm 3) x) : Gl_Val 9223372036854775807 x := by
  have h' : _ ∧ _ ∧ (x.S.length ≤ 9223372036854775807 ∧ _) ∧ _ := h
  unfold Gl_Val
  exact h'.2.2.1.1
theorem hf_Cell {d : Nat} {x : laws_Cell} (h : Fine (G := gam) (d + 4) (.nm 4) x) : Gl_Cell 9223372036854775807 x := by
  have h' : _ ∧ (x.Key.length ≤ 9223372036854775807 ∧ _) ∧ Fine (G := gam) (d + 3) (.nm 3) x.Val ∧ _ := h
  unfold Gl_Cell
  exact ⟨h'.2.1.1, hf_Val (d := d + 0) h'.2.2.1⟩
theorem hf_State {d : Nat} {x : laws_State} (h : Fine (G := gam) (d + 6) (.nm 2) x) : Gl_State 9223372036854775807 x := by
  have h' : (x.Vars.length ≤ 9223372036854775807 ∧ ∀ y ∈ x.Vars, Fine (G := gam) (d + 4) (.nm 3) y) ∧ (x.Cells.length ≤ 9223372036854775807 ∧ ∀ y ∈ x.Cells, Fine (G := gam) (d + 4) (.nm 4) y) ∧ _ ∧ _ ∧ _ := h
  unfold Gl_State
  exact ⟨⟨h'.1.1, fun y hy => hf_Val (d := d + 1) (h'.1.2 y hy)⟩, ⟨h'.2.1.1, fun y hy => hf_Cell (d := d + 0) (h'.2.1.2 y hy)⟩⟩
theorem hf_Mach {d : Nat} {x : laws_Mach} (h : Fine (G := gam) (d + 7) (.nm 5) x) : Gl_Mach 9223372036854775807 x := by
  have h' : Fine (G := gam) (d + 6) (.nm 2) x.State ∧ (x.Done.length ≤ 9223372036854775807 ∧ _) ∧ (x.Out.length ≤ 9223372036854775807 ∧ _) ∧ _ := h
  unfold Gl_Mach
  exact ⟨hf_State (d := d + 0) h'.1, h'.2.1.1, h'.2.2.1.1⟩
theorem hf_Hard {d : Nat} {x : laws_Hard} (h : Fine (G := gam) (d + 8) (.nm 15) x) : Gl_Hard 9223372036854775807 x := by
  have h' : _ ∧ _ ∧ Fine (G := gam) (d + 7) (.nm 12) x.Log ∧ Fine (G := gam) (d + 7) (.nm 5) x.Snap ∧ _ := h
  unfold Gl_Hard
  exact ⟨hf_Log (d := d + 1) h'.2.2.1, hf_Mach (d := d + 0) h'.2.2.2.1⟩
theorem hf_Disk {d : Nat} {x : laws_Disk} (h : Fine (G := gam) (d + 3) (.nm 20) x) : Gl_Disk 9223372036854775807 x := by
  have h' : (x.Bytes.length ≤ 9223372036854775807 ∧ _) ∧ _ ∧ _ := h
  unfold Gl_Disk
  exact h'.1.1
theorem hf_Rpc {d : Nat} {x : laws_Rpc} (h : Fine (G := gam) (d + 6) (.nm 22) x) : Gl_Rpc 9223372036854775807 x := by
  have h' : _ ∧ _ ∧ _ ∧ _ ∧ _ ∧ _ ∧ _ ∧ (x.List.length ≤ 9223372036854775807 ∧ ∀ y ∈ x.List, Fine (G := gam) (d + 4) (.nm 13) y) ∧ _ ∧ (x.Snap.length ≤ 9223372036854775807 ∧ _) ∧ _ := h
  unfold Gl_Rpc
  exact ⟨⟨h'.2.2.2.2.2.2.2.1.1, fun y hy => hf_Entry (d := d + 0) (h'.2.2.2.2.2.2.2.1.2 y hy)⟩, h'.2.2.2.2.2.2.2.2.2.1.1⟩
theorem hf_Peer {d : Nat} {x : laws_Peer} (h : Fine (G := gam) (d + 9) (.nm 21) x) : Gl_Peer 9223372036854775807 x := by
  have h' : _ ∧ Fine (G := gam) (d + 8) (.nm 15) x.Hard ∧ _ ∧ (x.Votes.length ≤ 9223372036854775807 ∧ _) ∧ (x.Next.length ≤ 9223372036854775807 ∧ _) ∧ (x.Match.length ≤ 9223372036854775807 ∧ _) ∧ _ ∧ Fine (G := gam) (d + 8) (.nm 5) x.Now ∧ Fine (G := gam) (d + 8) (.nm 20) x.Disk ∧ (x.Held.length ≤ 9223372036854775807 ∧ ∀ y ∈ x.Held, Fine (G := gam) (d + 7) (.nm 22) y) ∧ _ := h
  unfold Gl_Peer
  exact ⟨hf_Hard (d := d + 0) h'.2.1, h'.2.2.2.1.1, h'.2.2.2.2.1.1, h'.2.2.2.2.2.1.1, hf_Mach (d := d + 1) h'.2.2.2.2.2.2.2.1, hf_Disk (d := d + 5) h'.2.2.2.2.2.2.2.2.1, ⟨h'.2.2.2.2.2.2.2.2.2.1.1, fun y hy => hf_Rpc (d := d + 1) (h'.2.2.2.2.2.2.2.2.2.1.2 y hy)⟩⟩
theorem hsz_Cmd (x : laws_Cmd) (n : Int) (h : Gl_Cmd 9223372036854775807 x) (h0 : 0 ≤ n) (h1 : n ≤ 1048576) : ∃ r, l_szCmd x n = some (r, ()) ∧ r ≤ 1048576 ∧ (0 ≤ r → Gl_Cmd 1048576 x) := by
  unfold Gl_Cmd at h
  rw [l_szCmd_eq]
  have hl0 := h
  rw [w64_id (n := n - (x.Line.length : Int)) (by omega) (by omega)]
  by_cases c0 : n - (x.Line.length : Int) < 0
  · rw [if_pos (decide_eq_true c0)]; exact ⟨-1, rfl, by omega, fun h => by omega⟩
  rw [if_neg (by rw [decide_eq_true_eq]; exact c0)]
  exact ⟨_, rfl, by omega, fun _ => by unfold Gl_Cmd; exact by omega⟩
def hc_Cmd (x : laws_Cmd) : impl_Cmd := ⟨x.Who, x.Seq, x.Line⟩
theorem hto_Cmd (x : laws_Cmd) (h : Gl_Cmd 1048576 x) : l_toCmd x = some (hc_Cmd x, ()) := by
  unfold Gl_Cmd at h
  rw [l_toCmd_eq]
  rfl
theorem hg_Cmd {x : laws_Cmd} {M : Nat} (h : Gl_Cmd M x) : Gi_Cmd M (hc_Cmd x) := by
  unfold Gl_Cmd at h
  unfold Gi_Cmd hc_Cmd
  exact h
theorem heq_Cmd (x : impl_Cmd) (h : Gi_Cmd 2097152 x) : l_eqCmd x x = some (true, ()) := by
  unfold Gi_Cmd at h
  rw [l_eqCmd_eq]
  simp
theorem hsz_Entry (x : laws_Entry) (n : Int) (h : Gl_Entry 9223372036854775807 x) (h0 : 0 ≤ n) (h1 : n ≤ 1048576) : ∃ r, l_szEntry x n = some (r, ()) ∧ r ≤ 1048576 ∧ (0 ≤ r → Gl_Entry 1048576 x) := by
  unfold Gl_Entry at h
  rw [l_szEntry_eq]
  obtain ⟨r0, e0, f0, g0⟩ := hsz_Cmd x.C n (h) (by omega) (by omega)
  rw [e0, Option.bind_some]
  dsimp only
  by_cases c0 : r0 < 0
  · rw [if_pos (decide_eq_true c0)]; exact ⟨-1, rfl, by omega, fun h => by omega⟩
  rw [if_neg (by rw [decide_eq_true_eq]; exact c0)]
  exact ⟨_, rfl, by omega, fun _ => by unfold Gl_Entry; exact g0 (by omega)⟩
def hc_Entry (x : laws_Entry) : impl_Entry := ⟨x.Term, (hc_Cmd x.C)⟩
theorem hto_Entry (x : laws_Entry) (h : Gl_Entry 1048576 x) : l_toEntry x = some (hc_Entry x, ()) := by
  unfold Gl_Entry at h
  rw [l_toEntry_eq]
  rw [hto_Cmd _ (h), Option.bind_some]
  rfl
theorem hg_Entry {x : laws_Entry} {M : Nat} (h : Gl_Entry M x) : Gi_Entry M (hc_Entry x) := by
  unfold Gl_Entry at h
  unfold Gi_Entry hc_Entry
  exact hg_Cmd (h)
theorem heq_Entry (x : impl_Entry) (h : Gi_Entry 2097152 x) : l_eqEntry x x = some (true, ()) := by
  unfold Gi_Entry at h
  rw [l_eqEntry_eq]
  rw [heq_Cmd _ (h)]
  simp
theorem hsz_EntryS (l : List laws_Entry) (n : Int) (h : l.length ≤ 9223372036854775807 ∧ ∀ x ∈ l, Gl_Entry 9223372036854775807 x) (h0 : 0 ≤ n) (h1 : n ≤ 1048576) : ∃ r, l_szEntryS l n = some (r, ()) ∧ r ≤ 1048576 ∧ (0 ≤ r → l.length ≤ 1048576 ∧ ∀ x ∈ l, Gl_Entry 1048576 x) := by
  have hl := h.1
  rw [l_szEntryS_eq, w64_id (n := n - (l.length : Int)) (by omega) (by omega)]
  by_cases c : n - (l.length : Int) < 0
  · rw [if_pos (decide_eq_true c)]; exact ⟨-1, rfl, by omega, fun h => by omega⟩
  · rw [if_neg (by rw [decide_eq_true_eq]; exact c)]
    obtain ⟨r, e1, e2, e3⟩ := sz_rows (fun k i => l_szEntryS_L1 l k i) l_szEntry l (Gl_Entry 1048576) (by omega) (fun x hx k k0 k1 => hsz_Entry x k (h.2 x hx) k0 k1)
      (fun k => by show l_szEntryS_L1 l k _ = _; rw [l_szEntryS_L1_eq, if_neg (by simp)])
      (fun k i hi => by show l_szEntryS_L1 l k i = _; rw [l_szEntryS_L1_eq, if_pos (decide_eq_true (by omega)), if_pos (by omega), getD_nat hi, w64_succ hi (by omega)]) (n - l.length) (by omega) (by omega)
    exact ⟨r, e1, e2, fun hr => ⟨by omega, e3 hr⟩⟩
theorem hto_EntryS (l : List laws_Entry) (h : l.length ≤ 1048576 ∧ ∀ x ∈ l, Gl_Entry 1048576 x) : l_toEntryS l = some (l.map hc_Entry, ()) := by
  rw [l_toEntryS_eq, if_pos (by have := h.1; rw [room_eq]; omega)]
  have := to_loop (fun acc i => l_toEntryS_L1 l acc i) hc_Entry l (fun acc i hi ha => by
    show l_toEntryS_L1 l acc i = _
    have hl := h.1
    rw [l_toEntryS_L1_eq, if_pos (decide_eq_true (by omega)), if_pos (by omega), getD_nat hi, hto_Entry _ (h.2 _ (List.getElem_mem hi)), Option.bind_some, if_pos (by omega), w64_succ hi (by omega), Int.toNat_natCast]
    ) (fun acc ha => by
    show l_toEntryS_L1 l acc _ = _
    rw [l_toEntryS_L1_eq, if_neg (by simp)]) (List.replicate (List.length l : Int).toNat z_impl_Entry) (by simp)
  exact this
theorem heq_EntryS (l : List impl_Entry) (h : l.length ≤ 2097152 ∧ ∀ x ∈ l, Gi_Entry 2097152 x) : l_eqEntryS l l = some (true, ()) := by
  have hl := h.1
  rw [l_eqEntryS_eq, if_neg (by simp)]
  exact all_loop (fun i => l_eqEntryS_L1 l l i) l _ (fun i hi => by
    show l_eqEntryS_L1 l l i = _
    rw [l_eqEntryS_L1_eq, if_pos (decide_eq_true (by omega)), if_pos (by omega), if_pos (by omega), getD_nat hi, heq_Entry _ (h.2 _ (List.getElem_mem hi)), Option.bind_some, if_neg (by simp), w64_succ hi (by omega)]) (by
    show l_eqEntryS_L1 l l _ = _
    rw [l_eqEntryS_L1_eq, if_neg (by simp)])
theorem hsz_Log (x : laws_Log) (n : Int) (h : Gl_Log 9223372036854775807 x) (h0 : 0 ≤ n) (h1 : n ≤ 1048576) : ∃ r, l_szLog x n = some (r, ()) ∧ r ≤ 1048576 ∧ (0 ≤ r → Gl_Log 1048576 x) := by
  unfold Gl_Log at h
  rw [l_szLog_eq]
  obtain ⟨r0, e0, f0, g0⟩ := hsz_EntryS x.List n (h) (by omega) (by omega)
  rw [e0, Option.bind_some]
  dsimp only
  by_cases c0 : r0 < 0
  · rw [if_pos (decide_eq_true c0)]; exact ⟨-1, rfl, by omega, fun h => by omega⟩
  rw [if_neg (by rw [decide_eq_true_eq]; exact c0)]
  exact ⟨_, rfl, by omega, fun _ => by unfold Gl_Log; exact g0 (by omega)⟩
def hc_Log (x : laws_Log) : impl_Log := ⟨x.Base, x.BaseTerm, (x.List.map hc_Entry)⟩
theorem hto_Log (x : laws_Log) (h : Gl_Log 1048576 x) : l_toLog x = some (hc_Log x, ()) := by
  unfold Gl_Log at h
  rw [l_toLog_eq]
  rw [hto_EntryS _ (h), Option.bind_some]
  rfl
theorem hg_Log {x : laws_Log} {M : Nat} (h : Gl_Log M x) : Gi_Log M (hc_Log x) := by
  unfold Gl_Log at h
  unfold Gi_Log hc_Log
  exact ⟨by rw [List.length_map]; exact (h).1, fun y hy => by obtain ⟨x', hx', rfl⟩ := List.mem_map.1 hy; exact hg_Entry ((h).2 x' hx')⟩
theorem heq_Log (x : impl_Log) (h : Gi_Log 2097152 x) : l_eqLog x x = some (true, ()) := by
  unfold Gi_Log at h
  rw [l_eqLog_eq]
  rw [heq_EntryS _ (h)]
  simp
theorem hsz_Val (x : laws_Val) (n : Int) (h : Gl_Val 9223372036854775807 x) (h0 : 0 ≤ n) (h1 : n ≤ 1048576) : ∃ r, l_szVal x n = some (r, ()) ∧ r ≤ 1048576 ∧ (0 ≤ r → Gl_Val 1048576 x) := by
  unfold Gl_Val at h
  rw [l_szVal_eq]
  have hl0 := h
  rw [w64_id (n := n - (x.S.length : Int)) (by omega) (by omega)]
  by_cases c0 : n - (x.S.length : Int) < 0
  · rw [if_pos (decide_eq_true c0)]; exact ⟨-1, rfl, by omega, fun h => by omega⟩
  rw [if_neg (by rw [decide_eq_true_eq]; exact c0)]
  exact ⟨_, rfl, by omega, fun _ => by unfold Gl_Val; exact by omega⟩
def hc_Val (x : laws_Val) : impl_Val := ⟨x.Kind, x.N, x.S⟩
theorem hto_Val (x : laws_Val) (h : Gl_Val 1048576 x) : l_toVal x = some (hc_Val x, ()) := by
  unfold Gl_Val at h
  rw [l_toVal_eq]
  rfl
theorem hg_Val {x : laws_Val} {M : Nat} (h : Gl_Val M x) : Gi_Val M (hc_Val x) := by
  unfold Gl_Val at h
  unfold Gi_Val hc_Val
  exact h
theorem heq_Val (x : impl_Val) (h : Gi_Val 2097152 x) : l_eqVal x x = some (true, ()) := by
  unfold Gi_Val at h
  rw [l_eqVal_eq]
  simp
theorem hsz_ValS (l : List laws_Val) (n : Int) (h : l.length ≤ 9223372036854775807 ∧ ∀ x ∈ l, Gl_Val 9223372036854775807 x) (h0 : 0 ≤ n) (h1 : n ≤ 1048576) : ∃ r, l_szValS l n = some (r, ()) ∧ r ≤ 1048576 ∧ (0 ≤ r → l.length ≤ 1048576 ∧ ∀ x ∈ l, Gl_Val 1048576 x) := by
  have hl := h.1
  rw [l_szValS_eq, w64_id (n := n - (l.length : Int)) (by omega) (by omega)]
  by_cases c : n - (l.length : Int) < 0
  · rw [if_pos (decide_eq_true c)]; exact ⟨-1, rfl, by omega, fun h => by omega⟩
  · rw [if_neg (by rw [decide_eq_true_eq]; exact c)]
    obtain ⟨r, e1, e2, e3⟩ := sz_rows (fun k i => l_szValS_L1 l k i) l_szVal l (Gl_Val 1048576) (by omega) (fun x hx k k0 k1 => hsz_Val x k (h.2 x hx) k0 k1)
      (fun k => by show l_szValS_L1 l k _ = _; rw [l_szValS_L1_eq, if_neg (by simp)])
      (fun k i hi => by show l_szValS_L1 l k i = _; rw [l_szValS_L1_eq, if_pos (decide_eq_true (by omega)), if_pos (by omega), getD_nat hi, w64_succ hi (by omega)]) (n - l.length) (by omega) (by omega)
    exact ⟨r, e1, e2, fun hr => ⟨by omega, e3 hr⟩⟩
theorem hto_ValS (l : List laws_Val) (h : l.length ≤ 1048576 ∧ ∀ x ∈ l, Gl_Val 1048576 x) : l_toValS l = some (l.map hc_Val, ()) := by
  rw [l_toValS_eq, if_pos (by have := h.1; rw [room_eq]; omega)]
  have := to_loop (fun acc i => l_toValS_L1 l acc i) hc_Val l (fun acc i hi ha => by
    show l_toValS_L1 l acc i = _
    have hl := h.1
    rw [l_toValS_L1_eq, if_pos (decide_eq_true (by omega)), if_pos (by omega), getD_nat hi, hto_Val _ (h.2 _ (List.getElem_mem hi)), Option.bind_some, if_pos (by omega), w64_succ hi (by omega), Int.toNat_natCast]
    ) (fun acc ha => by
    show l_toValS_L1 l acc _ = _
    rw [l_toValS_L1_eq, if_neg (by simp)]) (List.replicate (List.length l : Int).toNat z_impl_Val) (by simp)
  exact this
theorem heq_ValS (l : List impl_Val) (h : l.length ≤ 2097152 ∧ ∀ x ∈ l, Gi_Val 2097152 x) : l_eqValS l l = some (true, ()) := by
  have hl := h.1
  rw [l_eqValS_eq, if_neg (by simp)]
  exact all_loop (fun i => l_eqValS_L1 l l i) l _ (fun i hi => by
    show l_eqValS_L1 l l i = _
    rw [l_eqValS_L1_eq, if_pos (decide_eq_true (by omega)), if_pos (by omega), if_pos (by omega), getD_nat hi, heq_Val _ (h.2 _ (List.getElem_mem hi)), Option.bind_some, if_neg (by simp), w64_succ hi (by omega)]) (by
    show l_eqValS_L1 l l _ = _
    rw [l_eqValS_L1_eq, if_neg (by simp)])
theorem hsz_Cell (x : laws_Cell) (n : Int) (h : Gl_Cell 9223372036854775807 x) (h0 : 0 ≤ n) (h1 : n ≤ 1048576) : ∃ r, l_szCell x n = some (r, ()) ∧ r ≤ 1048576 ∧ (0 ≤ r → Gl_Cell 1048576 x) := by
  unfold Gl_Cell at h
  rw [l_szCell_eq]
  have hl0 := h.1
  rw [w64_id (n := n - (x.Key.length : Int)) (by omega) (by omega)]
  by_cases c0 : n - (x.Key.length : Int) < 0
  · rw [if_pos (decide_eq_true c0)]; exact ⟨-1, rfl, by omega, fun h => by omega⟩
  rw [if_neg (by rw [decide_eq_true_eq]; exact c0)]
  obtain ⟨r1, e1, f1, g1⟩ := hsz_Val x.Val (n - (x.Key.length : Int)) (h.2) (by omega) (by omega)
  rw [e1, Option.bind_some]
  dsimp only
  by_cases c1 : r1 < 0
  · rw [if_pos (decide_eq_true c1)]; exact ⟨-1, rfl, by omega, fun h => by omega⟩
  rw [if_neg (by rw [decide_eq_true_eq]; exact c1)]
  exact ⟨_, rfl, by omega, fun _ => by unfold Gl_Cell; exact ⟨by omega, g1 (by omega)⟩⟩
def hc_Cell (x : laws_Cell) : impl_Cell := ⟨x.Name, x.Key, (hc_Val x.Val)⟩
theorem hto_Cell (x : laws_Cell) (h : Gl_Cell 1048576 x) : l_toCell x = some (hc_Cell x, ()) := by
  unfold Gl_Cell at h
  rw [l_toCell_eq]
  rw [hto_Val _ (h.2), Option.bind_some]
  rfl
theorem hg_Cell {x : laws_Cell} {M : Nat} (h : Gl_Cell M x) : Gi_Cell M (hc_Cell x) := by
  unfold Gl_Cell at h
  unfold Gi_Cell hc_Cell
  exact ⟨h.1, hg_Val (h.2)⟩
theorem heq_Cell (x : impl_Cell) (h : Gi_Cell 2097152 x) : l_eqCell x x = some (true, ()) := by
  unfold Gi_Cell at h
  rw [l_eqCell_eq]
  rw [heq_Val _ (h.2)]
  simp
theorem hsz_CellS (l : List laws_Cell) (n : Int) (h : l.length ≤ 9223372036854775807 ∧ ∀ x ∈ l, Gl_Cell 9223372036854775807 x) (h0 : 0 ≤ n) (h1 : n ≤ 1048576) : ∃ r, l_szCellS l n = some (r, ()) ∧ r ≤ 1048576 ∧ (0 ≤ r → l.length ≤ 1048576 ∧ ∀ x ∈ l, Gl_Cell 1048576 x) := by
  have hl := h.1
  rw [l_szCellS_eq, w64_id (n := n - (l.length : Int)) (by omega) (by omega)]
  by_cases c : n - (l.length : Int) < 0
  · rw [if_pos (decide_eq_true c)]; exact ⟨-1, rfl, by omega, fun h => by omega⟩
  · rw [if_neg (by rw [decide_eq_true_eq]; exact c)]
    obtain ⟨r, e1, e2, e3⟩ := sz_rows (fun k i => l_szCellS_L1 l k i) l_szCell l (Gl_Cell 1048576) (by omega) (fun x hx k k0 k1 => hsz_Cell x k (h.2 x hx) k0 k1)
      (fun k => by show l_szCellS_L1 l k _ = _; rw [l_szCellS_L1_eq, if_neg (by simp)])
      (fun k i hi => by show l_szCellS_L1 l k i = _; rw [l_szCellS_L1_eq, if_pos (decide_eq_true (by omega)), if_pos (by omega), getD_nat hi, w64_succ hi (by omega)]) (n - l.length) (by omega) (by omega)
    exact ⟨r, e1, e2, fun hr => ⟨by omega, e3 hr⟩⟩
theorem hto_CellS (l : List laws_Cell) (h : l.length ≤ 1048576 ∧ ∀ x ∈ l, Gl_Cell 1048576 x) : l_toCellS l = some (l.map hc_Cell, ()) := by
  rw [l_toCellS_eq, if_pos (by have := h.1; rw [room_eq]; omega)]
  have := to_loop (fun acc i => l_toCellS_L1 l acc i) hc_Cell l (fun acc i hi ha => by
    show l_toCellS_L1 l acc i = _
    have hl := h.1
    rw [l_toCellS_L1_eq, if_pos (decide_eq_true (by omega)), if_pos (by omega), getD_nat hi, hto_Cell _ (h.2 _ (List.getElem_mem hi)), Option.bind_some, if_pos (by omega), w64_succ hi (by omega), Int.toNat_natCast]
    ) (fun acc ha => by
    show l_toCellS_L1 l acc _ = _
    rw [l_toCellS_L1_eq, if_neg (by simp)]) (List.replicate (List.length l : Int).toNat z_impl_Cell) (by simp)
  exact this
theorem heq_CellS (l : List impl_Cell) (h : l.length ≤ 2097152 ∧ ∀ x ∈ l, Gi_Cell 2097152 x) : l_eqCellS l l = some (true, ()) := by
  have hl := h.1
  rw [l_eqCellS_eq, if_neg (by simp)]
  exact all_loop (fun i => l_eqCellS_L1 l l i) l _ (fun i hi => by
    show l_eqCellS_L1 l l i = _
    rw [l_eqCellS_L1_eq, if_pos (decide_eq_true (by omega)), if_pos (by omega), if_pos (by omega), getD_nat hi, heq_Cell _ (h.2 _ (List.getElem_mem hi)), Option.bind_some, if_neg (by simp), w64_succ hi (by omega)]) (by
    show l_eqCellS_L1 l l _ = _
    rw [l_eqCellS_L1_eq, if_neg (by simp)])
theorem hsz_State (x : laws_State) (n : Int) (h : Gl_State 9223372036854775807 x) (h0 : 0 ≤ n) (h1 : n ≤ 1048576) : ∃ r, l_szState x n = some (r, ()) ∧ r ≤ 1048576 ∧ (0 ≤ r → Gl_State 1048576 x) := by
  unfold Gl_State at h
  rw [l_szState_eq]
  obtain ⟨r0, e0, f0, g0⟩ := hsz_ValS x.Vars n (h.1) (by omega) (by omega)
  rw [e0, Option.bind_some]
  dsimp only
  by_cases c0 : r0 < 0
  · rw [if_pos (decide_eq_true c0)]; exact ⟨-1, rfl, by omega, fun h => by omega⟩
  rw [if_neg (by rw [decide_eq_true_eq]; exact c0)]
  obtain ⟨r1, e1, f1, g1⟩ := hsz_CellS x.Cells r0 (h.2) (by omega) (by omega)
  rw [e1, Option.bind_some]
  dsimp only
  by_cases c1 : r1 < 0
  · rw [if_pos (decide_eq_true c1)]; exact ⟨-1, rfl, by omega, fun h => by omega⟩
  rw [if_neg (by rw [decide_eq_true_eq]; exact c1)]
  exact ⟨_, rfl, by omega, fun _ => by unfold Gl_State; exact ⟨g0 (by omega), g1 (by omega)⟩⟩
def hc_State (x : laws_State) : impl_State := ⟨(x.Vars.map hc_Val), (x.Cells.map hc_Cell), x.Nr, x.Err⟩
theorem hto_State (x : laws_State) (h : Gl_State 1048576 x) : l_toState x = some (hc_State x, ()) := by
  unfold Gl_State at h
  rw [l_toState_eq]
  rw [hto_ValS _ (h.1), Option.bind_some]
  rw [hto_CellS _ (h.2), Option.bind_some]
  rfl
theorem hg_State {x : laws_State} {M : Nat} (h : Gl_State M x) : Gi_State M (hc_State x) := by
  unfold Gl_State at h
  unfold Gi_State hc_State
  exact ⟨⟨by rw [List.length_map]; exact (h.1).1, fun y hy => by obtain ⟨x', hx', rfl⟩ := List.mem_map.1 hy; exact hg_Val ((h.1).2 x' hx')⟩, ⟨by rw [List.length_map]; exact (h.2).1, fun y hy => by obtain ⟨x', hx', rfl⟩ := List.mem_map.1 hy; exact hg_Cell ((h.2).2 x' hx')⟩⟩
theorem heq_State (x : impl_State) (h : Gi_State 2097152 x) : l_eqState x x = some (true, ()) := by
  unfold Gi_State at h
  rw [l_eqState_eq]
  rw [heq_ValS _ (h.1), heq_CellS _ (h.2)]
  simp
theorem hsz_IntS (l : List Int) (n : Int) (h : l.length ≤ 9223372036854775807) (h0 : 0 ≤ n) (h1 : n ≤ 1048576) : ∃ r, l_szIntS l n = some (r, ()) ∧ r ≤ 1048576 ∧ (0 ≤ r → l.length ≤ 1048576) := by
  have hl := h
  rw [l_szIntS_eq, w64_id (n := n - (l.length : Int)) (by omega) (by omega)]
  by_cases c : n - (l.length : Int) < 0
  · rw [if_pos (decide_eq_true c)]; exact ⟨-1, rfl, by omega, fun h => by omega⟩
  · rw [if_neg (by rw [decide_eq_true_eq]; exact c)]
    exact ⟨_, rfl, by omega, fun _ => by omega⟩
theorem hto_IntS (l : List Int) (h : l.length ≤ 1048576) : l_toIntS l = some (l, ()) := by
  rw [l_toIntS_eq, if_pos (by have := h; rw [room_eq]; omega)]
  have := to_loop (fun acc i => l_toIntS_L1 l acc i) id l (fun acc i hi ha => by
    show l_toIntS_L1 l acc i = _
    have hl := h
    rw [l_toIntS_L1_eq, if_pos (decide_eq_true (by omega)), if_pos (by omega), if_pos (by omega), w64_succ hi (by omega), getD_nat hi, Int.toNat_natCast]
    rfl
    ) (fun acc ha => by
    show l_toIntS_L1 l acc _ = _
    rw [l_toIntS_L1_eq, if_neg (by simp)]) (List.replicate (List.length l : Int).toNat 0) (by simp)
  rw [List.map_id] at this
  exact this
theorem heq_IntS (l : List Int) (h : l.length ≤ 2097152) : l_eqIntS l l = some (true, ()) := by
  have hl := h
  rw [l_eqIntS_eq, if_neg (by simp)]
  exact all_loop (fun i => l_eqIntS_L1 l l i) l _ (fun i hi => by
    show l_eqIntS_L1 l l i = _
    rw [l_eqIntS_L1_eq, if_pos (decide_eq_true (by omega)), if_pos (by omega), if_pos (by omega), if_neg (by simp), w64_succ hi (by omega)]) (by
    show l_eqIntS_L1 l l _ = _
    rw [l_eqIntS_L1_eq, if_neg (by simp)])
theorem hsz_Mach (x : laws_Mach) (n : Int) (h : Gl_Mach 9223372036854775807 x) (h0 : 0 ≤ n) (h1 : n ≤ 1048576) : ∃ r, l_szMach x n = some (r, ()) ∧ r ≤ 1048576 ∧ (0 ≤ r → Gl_Mach 1048576 x) := by
  unfold Gl_Mach at h
  rw [l_szMach_eq]
  obtain ⟨r0, e0, f0, g0⟩ := hsz_State x.State n (h.1) (by omega) (by omega)
  rw [e0, Option.bind_some]
  dsimp only
  by_cases c0 : r0 < 0
  · rw [if_pos (decide_eq_true c0)]; exact ⟨-1, rfl, by omega, fun h => by omega⟩
  rw [if_neg (by rw [decide_eq_true_eq]; exact c0)]
  obtain ⟨r1, e1, f1, g1⟩ := hsz_IntS x.Done r0 (h.2.1) (by omega) (by omega)
  rw [e1, Option.bind_some]
  dsimp only
  by_cases c1 : r1 < 0
  · rw [if_pos (decide_eq_true c1)]; exact ⟨-1, rfl, by omega, fun h => by omega⟩
  rw [if_neg (by rw [decide_eq_true_eq]; exact c1)]
  have hl2 := h.2.2
  rw [w64_id (n := r1 - (x.Out.length : Int)) (by omega) (by omega)]
  by_cases c2 : r1 - (x.Out.length : Int) < 0
  · rw [if_pos (decide_eq_true c2)]; exact ⟨-1, rfl, by omega, fun h => by omega⟩
  rw [if_neg (by rw [decide_eq_true_eq]; exact c2)]
  exact ⟨_, rfl, by omega, fun _ => by unfold Gl_Mach; exact ⟨g0 (by omega), g1 (by omega), by omega⟩⟩
def hc_Mach (x : laws_Mach) : impl_Mach := ⟨(hc_State x.State), x.Done, x.Out⟩
theorem hto_Mach (x : laws_Mach) (h : Gl_Mach 1048576 x) : l_toMach x = some (hc_Mach x, ()) := by
  unfold Gl_Mach at h
  rw [l_toMach_eq]
  rw [hto_State _ (h.1), Option.bind_some]
  rw [hto_IntS _ (h.2.1), Option.bind_some]
  rfl
theorem hg_Mach {x : laws_Mach} {M : Nat} (h : Gl_Mach M x) : Gi_Mach M (hc_Mach x) := by
  unfold Gl_Mach at h
  unfold Gi_Mach hc_Mach
  exact ⟨hg_State (h.1), h.2.1, h.2.2⟩
theorem heq_Mach (x : impl_Mach) (h : Gi_Mach 2097152 x) : l_eqMach x x = some (true, ()) := by
  unfold Gi_Mach at h
  rw [l_eqMach_eq]
  rw [heq_State _ (h.1), heq_IntS _ (h.2.1)]
  simp
theorem hsz_Hard (x : laws_Hard) (n : Int) (h : Gl_Hard 9223372036854775807 x) (h0 : 0 ≤ n) (h1 : n ≤ 1048576) : ∃ r, l_szHard x n = some (r, ()) ∧ r ≤ 1048576 ∧ (0 ≤ r → Gl_Hard 1048576 x) := by
  unfold Gl_Hard at h
  rw [l_szHard_eq]
  obtain ⟨r0, e0, f0, g0⟩ := hsz_Log x.Log n (h.1) (by omega) (by omega)
  rw [e0, Option.bind_some]
  dsimp only
  by_cases c0 : r0 < 0
  · rw [if_pos (decide_eq_true c0)]; exact ⟨-1, rfl, by omega, fun h => by omega⟩
  rw [if_neg (by rw [decide_eq_true_eq]; exact c0)]
  obtain ⟨r1, e1, f1, g1⟩ := hsz_Mach x.Snap r0 (h.2) (by omega) (by omega)
  rw [e1, Option.bind_some]
  dsimp only
  by_cases c1 : r1 < 0
  · rw [if_pos (decide_eq_true c1)]; exact ⟨-1, rfl, by omega, fun h => by omega⟩
  rw [if_neg (by rw [decide_eq_true_eq]; exact c1)]
  exact ⟨_, rfl, by omega, fun _ => by unfold Gl_Hard; exact ⟨g0 (by omega), g1 (by omega)⟩⟩
def hc_Hard (x : laws_Hard) : impl_Hard := ⟨x.Term, x.Vote, (hc_Log x.Log), (hc_Mach x.Snap)⟩
theorem hto_Hard (x : laws_Hard) (h : Gl_Hard 1048576 x) : l_toHard x = some (hc_Hard x, ()) := by
  unfold Gl_Hard at h
  rw [l_toHard_eq]
  rw [hto_Log _ (h.1), Option.bind_some]
  rw [hto_Mach _ (h.2), Option.bind_some]
  rfl
theorem hg_Hard {x : laws_Hard} {M : Nat} (h : Gl_Hard M x) : Gi_Hard M (hc_Hard x) := by
  unfold Gl_Hard at h
  unfold Gi_Hard hc_Hard
  exact ⟨hg_Log (h.1), hg_Mach (h.2)⟩
theorem heq_Hard (x : impl_Hard) (h : Gi_Hard 2097152 x) : l_eqHard x x = some (true, ()) := by
  unfold Gi_Hard at h
  rw [l_eqHard_eq]
  rw [heq_Log _ (h.1), heq_Mach _ (h.2)]
  simp
theorem hsz_BoolS (l : List Bool) (n : Int) (h : l.length ≤ 9223372036854775807) (h0 : 0 ≤ n) (h1 : n ≤ 1048576) : ∃ r, l_szBoolS l n = some (r, ()) ∧ r ≤ 1048576 ∧ (0 ≤ r → l.length ≤ 1048576) := by
  have hl := h
  rw [l_szBoolS_eq, w64_id (n := n - (l.length : Int)) (by omega) (by omega)]
  by_cases c : n - (l.length : Int) < 0
  · rw [if_pos (decide_eq_true c)]; exact ⟨-1, rfl, by omega, fun h => by omega⟩
  · rw [if_neg (by rw [decide_eq_true_eq]; exact c)]
    exact ⟨_, rfl, by omega, fun _ => by omega⟩
theorem hto_BoolS (l : List Bool) (h : l.length ≤ 1048576) : l_toBoolS l = some (l, ()) := by
  rw [l_toBoolS_eq, if_pos (by have := h; rw [room_eq]; omega)]
  have := to_loop (fun acc i => l_toBoolS_L1 l acc i) id l (fun acc i hi ha => by
    show l_toBoolS_L1 l acc i = _
    have hl := h
    rw [l_toBoolS_L1_eq, if_pos (decide_eq_true (by omega)), if_pos (by omega), if_pos (by omega), w64_succ hi (by omega), getD_nat hi, Int.toNat_natCast]
    rfl
    ) (fun acc ha => by
    show l_toBoolS_L1 l acc _ = _
    rw [l_toBoolS_L1_eq, if_neg (by simp)]) (List.replicate (List.length l : Int).toNat false) (by simp)
  rw [List.map_id] at this
  exact this
theorem heq_BoolS (l : List Bool) (h : l.length ≤ 2097152) : l_eqBoolS l l = some (true, ()) := by
  have hl := h
  rw [l_eqBoolS_eq, if_neg (by simp)]
  exact all_loop (fun i => l_eqBoolS_L1 l l i) l _ (fun i hi => by
    show l_eqBoolS_L1 l l i = _
    rw [l_eqBoolS_L1_eq, if_pos (decide_eq_true (by omega)), if_pos (by omega), if_pos (by omega), if_neg (by simp), w64_succ hi (by omega)]) (by
    show l_eqBoolS_L1 l l _ = _
    rw [l_eqBoolS_L1_eq, if_neg (by simp)])
theorem hsz_ByteS (l : List Int) (n : Int) (h : l.length ≤ 9223372036854775807) (h0 : 0 ≤ n) (h1 : n ≤ 1048576) : ∃ r, l_szByteS l n = some (r, ()) ∧ r ≤ 1048576 ∧ (0 ≤ r → l.length ≤ 1048576) := by
  have hl := h
  rw [l_szByteS_eq, w64_id (n := n - (l.length : Int)) (by omega) (by omega)]
  by_cases c : n - (l.length : Int) < 0
  · rw [if_pos (decide_eq_true c)]; exact ⟨-1, rfl, by omega, fun h => by omega⟩
  · rw [if_neg (by rw [decide_eq_true_eq]; exact c)]
    exact ⟨_, rfl, by omega, fun _ => by omega⟩
theorem hto_ByteS (l : List Int) (h : l.length ≤ 1048576) : l_toByteS l = some (l, ()) := by
  rw [l_toByteS_eq, if_pos (by have := h; rw [room_eq]; omega)]
  have := to_loop (fun acc i => l_toByteS_L1 l acc i) id l (fun acc i hi ha => by
    show l_toByteS_L1 l acc i = _
    have hl := h
    rw [l_toByteS_L1_eq, if_pos (decide_eq_true (by omega)), if_pos (by omega), if_pos (by omega), w64_succ hi (by omega), getD_nat hi, Int.toNat_natCast]
    rfl
    ) (fun acc ha => by
    show l_toByteS_L1 l acc _ = _
    rw [l_toByteS_L1_eq, if_neg (by simp)]) (List.replicate (List.length l : Int).toNat 0) (by simp)
  rw [List.map_id] at this
  exact this
theorem heq_ByteS (l : List Int) (h : l.length ≤ 2097152) : l_eqByteS l l = some (true, ()) := by
  have hl := h
  rw [l_eqByteS_eq, if_neg (by simp)]
  exact all_loop (fun i => l_eqByteS_L1 l l i) l _ (fun i hi => by
    show l_eqByteS_L1 l l i = _
    rw [l_eqByteS_L1_eq, if_pos (decide_eq_true (by omega)), if_pos (by omega), if_pos (by omega), if_neg (by simp), w64_succ hi (by omega)]) (by
    show l_eqByteS_L1 l l _ = _
    rw [l_eqByteS_L1_eq, if_neg (by simp)])
theorem hsz_Disk (x : laws_Disk) (n : Int) (h : Gl_Disk 9223372036854775807 x) (h0 : 0 ≤ n) (h1 : n ≤ 1048576) : ∃ r, l_szDisk x n = some (r, ()) ∧ r ≤ 1048576 ∧ (0 ≤ r → Gl_Disk 1048576 x) := by
  unfold Gl_Disk at h
  rw [l_szDisk_eq]
  obtain ⟨r0, e0, f0, g0⟩ := hsz_ByteS x.Bytes n (h) (by omega) (by omega)
  rw [e0, Option.bind_some]
  dsimp only
  by_cases c0 : r0 < 0
  · rw [if_pos (decide_eq_true c0)]; exact ⟨-1, rfl, by omega, fun h => by omega⟩
  rw [if_neg (by rw [decide_eq_true_eq]; exact c0)]
  exact ⟨_, rfl, by omega, fun _ => by unfold Gl_Disk; exact g0 (by omega)⟩
def hc_Disk (x : laws_Disk) : impl_Disk := ⟨x.Bytes, x.Sure⟩
theorem hto_Disk (x : laws_Disk) (h : Gl_Disk 1048576 x) : l_toDisk x = some (hc_Disk x, ()) := by
  unfold Gl_Disk at h
  rw [l_toDisk_eq]
  rw [hto_ByteS _ (h), Option.bind_some]
  rfl
theorem hg_Disk {x : laws_Disk} {M : Nat} (h : Gl_Disk M x) : Gi_Disk M (hc_Disk x) := by
  unfold Gl_Disk at h
  unfold Gi_Disk hc_Disk
  exact h
theorem heq_Disk (x : impl_Disk) (h : Gi_Disk 2097152 x) : l_eqDisk x x = some (true, ()) := by
  unfold Gi_Disk at h
  rw [l_eqDisk_eq]
  rw [heq_ByteS _ (h)]
  simp
theorem hsz_Rpc (x : laws_Rpc) (n : Int) (h : Gl_Rpc 9223372036854775807 x) (h0 : 0 ≤ n) (h1 : n ≤ 1048576) : ∃ r, l_szRpc x n = some (r, ()) ∧ r ≤ 1048576 ∧ (0 ≤ r → Gl_Rpc 1048576 x) := by
  unfold Gl_Rpc at h
  rw [l_szRpc_eq]
  obtain ⟨r0, e0, f0, g0⟩ := hsz_EntryS x.List n (h.1) (by omega) (by omega)
  rw [e0, Option.bind_some]
  dsimp only
  by_cases c0 : r0 < 0
  · rw [if_pos (decide_eq_true c0)]; exact ⟨-1, rfl, by omega, fun h => by omega⟩
  rw [if_neg (by rw [decide_eq_true_eq]; exact c0)]
  have hl1 := h.2
  rw [w64_id (n := r0 - (x.Snap.length : Int)) (by omega) (by omega)]
  by_cases c1 : r0 - (x.Snap.length : Int) < 0
  · rw [if_pos (decide_eq_true c1)]; exact ⟨-1, rfl, by omega, fun h => by omega⟩
  rw [if_neg (by rw [decide_eq_true_eq]; exact c1)]
  exact ⟨_, rfl, by omega, fun _ => by unfold Gl_Rpc; exact ⟨g0 (by omega), by omega⟩⟩
def hc_Rpc (x : laws_Rpc) : impl_Rpc := ⟨x.Kind, x.From, x.To, x.Term, x.Index, x.IndexTerm, x.Commit, (x.List.map hc_Entry), x.Ok, x.Snap⟩
theorem hto_Rpc (x : laws_Rpc) (h : Gl_Rpc 1048576 x) : l_toRpc x = some (hc_Rpc x, ()) := by
  unfold Gl_Rpc at h
  rw [l_toRpc_eq]
  rw [hto_EntryS _ (h.1), Option.bind_some]
  rfl
theorem hg_Rpc {x : laws_Rpc} {M : Nat} (h : Gl_Rpc M x) : Gi_Rpc M (hc_Rpc x) := by
  unfold Gl_Rpc at h
  unfold Gi_Rpc hc_Rpc
  exact ⟨⟨by rw [List.length_map]; exact (h.1).1, fun y hy => by obtain ⟨x', hx', rfl⟩ := List.mem_map.1 hy; exact hg_Entry ((h.1).2 x' hx')⟩, h.2⟩
theorem heq_Rpc (x : impl_Rpc) (h : Gi_Rpc 2097152 x) : l_eqRpc x x = some (true, ()) := by
  unfold Gi_Rpc at h
  rw [l_eqRpc_eq]
  rw [heq_EntryS _ (h.1)]
  simp
theorem hsz_RpcS (l : List laws_Rpc) (n : Int) (h : l.length ≤ 9223372036854775807 ∧ ∀ x ∈ l, Gl_Rpc 9223372036854775807 x) (h0 : 0 ≤ n) (h1 : n ≤ 1048576) : ∃ r, l_szRpcS l n = some (r, ()) ∧ r ≤ 1048576 ∧ (0 ≤ r → l.length ≤ 1048576 ∧ ∀ x ∈ l, Gl_Rpc 1048576 x) := by
  have hl := h.1
  rw [l_szRpcS_eq, w64_id (n := n - (l.length : Int)) (by omega) (by omega)]
  by_cases c : n - (l.length : Int) < 0
  · rw [if_pos (decide_eq_true c)]; exact ⟨-1, rfl, by omega, fun h => by omega⟩
  · rw [if_neg (by rw [decide_eq_true_eq]; exact c)]
    obtain ⟨r, e1, e2, e3⟩ := sz_rows (fun k i => l_szRpcS_L1 l k i) l_szRpc l (Gl_Rpc 1048576) (by omega) (fun x hx k k0 k1 => hsz_Rpc x k (h.2 x hx) k0 k1)
      (fun k => by show l_szRpcS_L1 l k _ = _; rw [l_szRpcS_L1_eq, if_neg (by simp)])
      (fun k i hi => by show l_szRpcS_L1 l k i = _; rw [l_szRpcS_L1_eq, if_pos (decide_eq_true (by omega)), if_pos (by omega), getD_nat hi, w64_succ hi (by omega)]) (n - l.length) (by omega) (by omega)
    exact ⟨r, e1, e2, fun hr => ⟨by omega, e3 hr⟩⟩
theorem hto_RpcS (l : List laws_Rpc) (h : l.length ≤ 1048576 ∧ ∀ x ∈ l, Gl_Rpc 1048576 x) : l_toRpcS l = some (l.map hc_Rpc, ()) := by
  rw [l_toRpcS_eq, if_pos (by have := h.1; rw [room_eq]; omega)]
  have := to_loop (fun acc i => l_toRpcS_L1 l acc i) hc_Rpc l (fun acc i hi ha => by
    show l_toRpcS_L1 l acc i = _
    have hl := h.1
    rw [l_toRpcS_L1_eq, if_pos (decide_eq_true (by omega)), if_pos (by omega), getD_nat hi, hto_Rpc _ (h.2 _ (List.getElem_mem hi)), Option.bind_some, if_pos (by omega), w64_succ hi (by omega), Int.toNat_natCast]
    ) (fun acc ha => by
    show l_toRpcS_L1 l acc _ = _
    rw [l_toRpcS_L1_eq, if_neg (by simp)]) (List.replicate (List.length l : Int).toNat z_impl_Rpc) (by simp)
  exact this
theorem heq_RpcS (l : List impl_Rpc) (h : l.length ≤ 2097152 ∧ ∀ x ∈ l, Gi_Rpc 2097152 x) : l_eqRpcS l l = some (true, ()) := by
  have hl := h.1
  rw [l_eqRpcS_eq, if_neg (by simp)]
  exact all_loop (fun i => l_eqRpcS_L1 l l i) l _ (fun i hi => by
    show l_eqRpcS_L1 l l i = _
    rw [l_eqRpcS_L1_eq, if_pos (decide_eq_true (by omega)), if_pos (by omega), if_pos (by omega), getD_nat hi, heq_Rpc _ (h.2 _ (List.getElem_mem hi)), Option.bind_some, if_neg (by simp), w64_succ hi (by omega)]) (by
    show l_eqRpcS_L1 l l _ = _
    rw [l_eqRpcS_L1_eq, if_neg (by simp)])
theorem hsz_Peer (x : laws_Peer) (n : Int) (h : Gl_Peer 9223372036854775807 x) (h0 : 0 ≤ n) (h1 : n ≤ 1048576) : ∃ r, l_szPeer x n = some (r, ()) ∧ r ≤ 1048576 ∧ (0 ≤ r → Gl_Peer 1048576 x) := by
  unfold Gl_Peer at h
  rw [l_szPeer_eq]
  obtain ⟨r0, e0, f0, g0⟩ := hsz_Hard x.Hard n (h.1) (by omega) (by omega)
  rw [e0, Option.bind_some]
  dsimp only
  by_cases c0 : r0 < 0
  · rw [if_pos (decide_eq_true c0)]; exact ⟨-1, rfl, by omega, fun h => by omega⟩
  rw [if_neg (by rw [decide_eq_true_eq]; exact c0)]
  obtain ⟨r1, e1, f1, g1⟩ := hsz_BoolS x.Votes r0 (h.2.1) (by omega) (by omega)
  rw [e1, Option.bind_some]
  dsimp only
  by_cases c1 : r1 < 0
  · rw [if_pos (decide_eq_true c1)]; exact ⟨-1, rfl, by omega, fun h => by omega⟩
  rw [if_neg (by rw [decide_eq_true_eq]; exact c1)]
  obtain ⟨r2, e2, f2, g2⟩ := hsz_IntS x.Next r1 (h.2.2.1) (by omega) (by omega)
  rw [e2, Option.bind_some]
  dsimp only
  by_cases c2 : r2 < 0
  · rw [if_pos (decide_eq_true c2)]; exact ⟨-1, rfl, by omega, fun h => by omega⟩
  rw [if_neg (by rw [decide_eq_true_eq]; exact c2)]
  obtain ⟨r3, e3, f3, g3⟩ := hsz_IntS x.Match r2 (h.2.2.2.1) (by omega) (by omega)
  rw [e3, Option.bind_some]
  dsimp only
  by_cases c3 : r3 < 0
  · rw [if_pos (decide_eq_true c3)]; exact ⟨-1, rfl, by omega, fun h => by omega⟩
  rw [if_neg (by rw [decide_eq_true_eq]; exact c3)]
  obtain ⟨r4, e4, f4, g4⟩ := hsz_Mach x.Now r3 (h.2.2.2.2.1) (by omega) (by omega)
  rw [e4, Option.bind_some]
  dsimp only
  by_cases c4 : r4 < 0
  · rw [if_pos (decide_eq_true c4)]; exact ⟨-1, rfl, by omega, fun h => by omega⟩
  rw [if_neg (by rw [decide_eq_true_eq]; exact c4)]
  obtain ⟨r5, e5, f5, g5⟩ := hsz_Disk x.Disk r4 (h.2.2.2.2.2.1) (by omega) (by omega)
  rw [e5, Option.bind_some]
  dsimp only
  by_cases c5 : r5 < 0
  · rw [if_pos (decide_eq_true c5)]; exact ⟨-1, rfl, by omega, fun h => by omega⟩
  rw [if_neg (by rw [decide_eq_true_eq]; exact c5)]
  obtain ⟨r6, e6, f6, g6⟩ := hsz_RpcS x.Held r5 (h.2.2.2.2.2.2) (by omega) (by omega)
  rw [e6, Option.bind_some]
  dsimp only
  by_cases c6 : r6 < 0
  · rw [if_pos (decide_eq_true c6)]; exact ⟨-1, rfl, by omega, fun h => by omega⟩
  rw [if_neg (by rw [decide_eq_true_eq]; exact c6)]
  exact ⟨_, rfl, by omega, fun _ => by unfold Gl_Peer; exact ⟨g0 (by omega), g1 (by omega), g2 (by omega), g3 (by omega), g4 (by omega), g5 (by omega), g6 (by omega)⟩⟩
def hc_Peer (x : laws_Peer) : impl_Peer := ⟨x.Id, (hc_Hard x.Hard), x.Role, x.Votes, x.Next, x.Match, x.Commit, (hc_Mach x.Now), (hc_Disk x.Disk), (x.Held.map hc_Rpc)⟩
theorem hto_Peer (x : laws_Peer) (h : Gl_Peer 1048576 x) : l_toPeer x = some (hc_Peer x, ()) := by
  unfold Gl_Peer at h
  rw [l_toPeer_eq]
  rw [hto_Hard _ (h.1), Option.bind_some]
  rw [hto_BoolS _ (h.2.1), Option.bind_some]
  rw [hto_IntS _ (h.2.2.1), Option.bind_some]
  rw [hto_IntS _ (h.2.2.2.1), Option.bind_some]
  rw [hto_Mach _ (h.2.2.2.2.1), Option.bind_some]
  rw [hto_Disk _ (h.2.2.2.2.2.1), Option.bind_some]
  rw [hto_RpcS _ (h.2.2.2.2.2.2), Option.bind_some]
  rfl
theorem hg_Peer {x : laws_Peer} {M : Nat} (h : Gl_Peer M x) : Gi_Peer M (hc_Peer x) := by
  unfold Gl_Peer at h
  unfold Gi_Peer hc_Peer
  exact ⟨hg_Hard (h.1), h.2.1, h.2.2.1, h.2.2.2.1, hg_Mach (h.2.2.2.2.1), hg_Disk (h.2.2.2.2.2.1), ⟨by rw [List.length_map]; exact (h.2.2.2.2.2.2).1, fun y hy => by obtain ⟨x', hx', rfl⟩ := List.mem_map.1 hy; exact hg_Rpc ((h.2.2.2.2.2.2).2 x' hx')⟩⟩
theorem heq_Peer (x : impl_Peer) (h : Gi_Peer 2097152 x) : l_eqPeer x x = some (true, ()) := by
  unfold Gi_Peer at h
  rw [l_eqPeer_eq]
  rw [heq_Hard _ (h.1), heq_BoolS _ (h.2.1), heq_IntS _ (h.2.2.1), heq_IntS _ (h.2.2.2.1), heq_Mach _ (h.2.2.2.2.1), heq_Disk _ (h.2.2.2.2.2.1), heq_RpcS _ (h.2.2.2.2.2.2)]
  simp
end Go.Proofs.YtonmohpdmhfjnaaGreatDoor.E.TM
