/- The harness of the exact laws at Peer: sizes, copies, likeness, marks. Printed by wip/gen/harness.py. No condition but lengths. -/
import Derived.Test.YtonmohpdmhfjnaaGreatDoorPMRows
import Derived.Test.YtonmohpdmhfjnaaGreatDoorPMMarkText
import Derived.Test.YtonmohpdmhfjnaaGreatDoorTMe1
import Derived.Test.YtonmohpdmhfjnaaGreatDoorTMe2
import Derived.Test.YtonmohpdmhfjnaaGreatDoorTMe3
namespace Go.Proofs.YtonmohpdmhfjnaaGreatDoor.E.TM
open Go.Proofs.YtonmohpdmhfjnaaGreatDoor.E
set_option linter.unusedVariables false
def Gi_Val (M : Nat) (x : impl_Val) : Prop := x.S.length ≤ M
def Gi_Cell (M : Nat) (x : impl_Cell) : Prop := x.Key.length ≤ M ∧ Gi_Val M x.Val
def Gi_State (M : Nat) (x : impl_State) : Prop := (x.Vars.length ≤ M ∧ ∀ y ∈ x.Vars, Gi_Val M y) ∧ (x.Cells.length ≤ M ∧ ∀ y ∈ x.Cells, Gi_Cell M y)
def Gi_Mach (M : Nat) (x : impl_Mach) : Prop := Gi_State M x.State ∧ x.Done.length ≤ M ∧ x.Out.length ≤ M
theorem heq_Val (x : impl_Val) (h : Gi_Val 2097152 x) : l_eqVal x x = some (true, ()) := by
  unfold Gi_Val at h
  rw [l_eqVal_eq]
  simp
theorem heq_ValS (l : List impl_Val) (h : l.length ≤ 2097152 ∧ ∀ x ∈ l, Gi_Val 2097152 x) : l_eqValS l l = some (true, ()) := by
  have hl := h.1
  rw [l_eqValS_eq, if_neg (by simp)]
  exact all_loop (fun i => l_eqValS_L1 l l i) l _ (fun i hi => by
    show l_eqValS_L1 l l i = _
    rw [l_eqValS_L1_eq, if_pos (decide_eq_true (by omega)), if_pos (by omega), if_pos (by omega), getD_nat hi, heq_Val _ (h.2 _ (List.getElem_mem hi)), Option.bind_some, if_neg (by simp), w64_succ hi (by omega)]) (by
    show l_eqValS_L1 l l _ = _
    rw [l_eqValS_L1_eq, if_neg (by simp)])
theorem hmk_ValS (l : List impl_Val) (k : Int) (h : l.length ≤ 2097152 ∧ ∀ x ∈ l, Gi_Val 2097152 x) (hk : 0 ≤ k) (hb : k + 6291456 ≤ 2305843009213693952) : ∃ k' l', l_markValS l k = some (k', l', ()) ∧ l_heldValS l' k = some (k', ()) ∧ l'.length = l.length ∧ k ≤ k' ∧ k' ≤ k + 6291456 := by
  have hl := h.1
  rw [l_markValS_eq]
  have step : ∀ (a : List impl_Val) (k : Int) (i : Nat) (hi : i < a.length), a.length ≤ 4294967296 → (Gi_Val 2097152) a[i] → 0 ≤ k → k + (3 : Nat) ≤ 2305843009213693952 → ∃ y k', l_markValS_L1 a k i = l_markValS_L1 (a.set i y) k' ((i + 1 : Nat) : Int) ∧ k ≤ k' ∧ k' ≤ k + (3 : Nat) ∧ ∀ (d : List impl_Val) (hd : i < d.length), d.length ≤ 4294967296 → d[i] = y → l_heldValS_L1 d k i = l_heldValS_L1 d k' ((i + 1 : Nat) : Int) := by
    intro a k i hi ha hp hk hb
    have c : (0 : Int) ≤ (i : Int) ∧ (i : Int) < (a.length : Int) := by omega
    refine ⟨⟨k, k + 1, mText (k + 1 + 1)⟩, k + 1 + 1 + 1, ?_, by omega, by omega, fun d hd hdl hdy => ?_⟩
    · show l_markValS_L1 a k i = l_markValS_L1 _ _ _
      rw [l_markValS_L1_eq, if_pos (decide_eq_true c.2), if_pos c, w64_id (n := k + 1) (by omega) (by omega), w64_id (n := k + 1 + 1) (by omega) (by omega), w64_id (n := k + 1 + 1 + 1) (by omega) (by omega), w64_succ hi (by omega), markText_eq _ (by omega)]
      simp only [List.length_set, if_pos c, Option.bind_some, Int.toNat_natCast, getD_set, hi, List.set_set]
    · show l_heldValS_L1 d k i = l_heldValS_L1 _ _ _
      have c2 : (0 : Int) ≤ (i : Int) ∧ (i : Int) < (d.length : Int) := by omega
      rw [l_heldValS_L1_eq, if_pos (decide_eq_true c2.2), w64_id (n := k + 1) (by omega) (by omega), w64_id (n := k + 1 + 1) (by omega) (by omega), w64_id (n := k + 1 + 1 + 1) (by omega) (by omega), w64_succ hd (by omega), markText_eq _ (by omega), getD_nat hd, hdy]
      simp only [if_pos c2, Option.bind_some, decide_true, Bool.not_true, Bool.false_eq_true, if_false]
  obtain ⟨k', l', e1, e2, e3, e4, e5⟩ := mark_rows (fun a k i => l_markValS_L1 a k i) (fun a k i => l_heldValS_L1 a k i) (Gi_Val 2097152) 3 2305843009213693952
    (fun a k => by show l_markValS_L1 a k _ = _; rw [l_markValS_L1_eq, if_neg (by simp)])
    (fun a k => by show l_heldValS_L1 a k _ = _; rw [l_heldValS_L1_eq, if_neg (by simp)])
    step l k (by omega) (h.2) hk (by omega)
  exact ⟨k', l', e1, by rw [l_heldValS_eq]; exact e2, e3, e4, by omega⟩
theorem heq_Cell (x : impl_Cell) (h : Gi_Cell 2097152 x) : l_eqCell x x = some (true, ()) := by
  unfold Gi_Cell at h
  rw [l_eqCell_eq]
  rw [heq_Val _ (h.2)]
  simp
theorem heq_CellS (l : List impl_Cell) (h : l.length ≤ 2097152 ∧ ∀ x ∈ l, Gi_Cell 2097152 x) : l_eqCellS l l = some (true, ()) := by
  have hl := h.1
  rw [l_eqCellS_eq, if_neg (by simp)]
  exact all_loop (fun i => l_eqCellS_L1 l l i) l _ (fun i hi => by
    show l_eqCellS_L1 l l i = _
    rw [l_eqCellS_L1_eq, if_pos (decide_eq_true (by omega)), if_pos (by omega), if_pos (by omega), getD_nat hi, heq_Cell _ (h.2 _ (List.getElem_mem hi)), Option.bind_some, if_neg (by simp), w64_succ hi (by omega)]) (by
    show l_eqCellS_L1 l l _ = _
    rw [l_eqCellS_L1_eq, if_neg (by simp)])
theorem hmk_CellS (l : List impl_Cell) (k : Int) (h : l.length ≤ 2097152 ∧ ∀ x ∈ l, Gi_Cell 2097152 x) (hk : 0 ≤ k) (hb : k + 10485760 ≤ 2305843009213693952) : ∃ k' l', l_markCellS l k = some (k', l', ()) ∧ l_heldCellS l' k = some (k', ()) ∧ l'.length = l.length ∧ k ≤ k' ∧ k' ≤ k + 10485760 := by
  have hl := h.1
  rw [l_markCellS_eq]
  have step : ∀ (a : List impl_Cell) (k : Int) (i : Nat) (hi : i < a.length), a.length ≤ 4294967296 → (Gi_Cell 2097152) a[i] → 0 ≤ k → k + (5 : Nat) ≤ 2305843009213693952 → ∃ y k', l_markCellS_L1 a k i = l_markCellS_L1 (a.set i y) k' ((i + 1 : Nat) : Int) ∧ k ≤ k' ∧ k' ≤ k + (5 : Nat) ∧ ∀ (d : List impl_Cell) (hd : i < d.length), d.length ≤ 4294967296 → d[i] = y → l_heldCellS_L1 d k i = l_heldCellS_L1 d k' ((i + 1 : Nat) : Int) := by
    intro a k i hi ha hp hk hb
    have c : (0 : Int) ≤ (i : Int) ∧ (i : Int) < (a.length : Int) := by omega
    refine ⟨⟨k, mText (k + 1), ⟨k + 1 + 1, k + 1 + 1 + 1, mText (k + 1 + 1 + 1 + 1)⟩⟩, k + 1 + 1 + 1 + 1 + 1, ?_, by omega, by omega, fun d hd hdl hdy => ?_⟩
    · show l_markCellS_L1 a k i = l_markCellS_L1 _ _ _
      rw [l_markCellS_L1_eq, if_pos (decide_eq_true c.2), if_pos c, w64_id (n := k + 1) (by omega) (by omega), w64_id (n := k + 1 + 1) (by omega) (by omega), w64_id (n := k + 1 + 1 + 1) (by omega) (by omega), w64_id (n := k + 1 + 1 + 1 + 1) (by omega) (by omega), w64_id (n := k + 1 + 1 + 1 + 1 + 1) (by omega) (by omega), w64_succ hi (by omega), markText_eq _ (by omega), markText_eq _ (by omega)]
      simp only [List.length_set, if_pos c, Option.bind_some, Int.toNat_natCast, getD_set, hi, List.set_set]
    · show l_heldCellS_L1 d k i = l_heldCellS_L1 _ _ _
      have c2 : (0 : Int) ≤ (i : Int) ∧ (i : Int) < (d.length : Int) := by omega
      rw [l_heldCellS_L1_eq, if_pos (decide_eq_true c2.2), w64_id (n := k + 1) (by omega) (by omega), w64_id (n := k + 1 + 1) (by omega) (by omega), w64_id (n := k + 1 + 1 + 1) (by omega) (by omega), w64_id (n := k + 1 + 1 + 1 + 1) (by omega) (by omega), w64_id (n := k + 1 + 1 + 1 + 1 + 1) (by omega) (by omega), w64_succ hd (by omega), markText_eq _ (by omega), markText_eq _ (by omega), getD_nat hd, hdy]
      simp only [if_pos c2, Option.bind_some, decide_true, Bool.not_true, Bool.false_eq_true, if_false]
  obtain ⟨k', l', e1, e2, e3, e4, e5⟩ := mark_rows (fun a k i => l_markCellS_L1 a k i) (fun a k i => l_heldCellS_L1 a k i) (Gi_Cell 2097152) 5 2305843009213693952
    (fun a k => by show l_markCellS_L1 a k _ = _; rw [l_markCellS_L1_eq, if_neg (by simp)])
    (fun a k => by show l_heldCellS_L1 a k _ = _; rw [l_heldCellS_L1_eq, if_neg (by simp)])
    step l k (by omega) (h.2) hk (by omega)
  exact ⟨k', l', e1, by rw [l_heldCellS_eq]; exact e2, e3, e4, by omega⟩
theorem heq_State (x : impl_State) (h : Gi_State 2097152 x) : l_eqState x x = some (true, ()) := by
  unfold Gi_State at h
  rw [l_eqState_eq]
  rw [heq_ValS _ (h.1), heq_CellS _ (h.2)]
  simp
theorem hmk_State (x : impl_State) (k : Int) (h : Gi_State 2097152 x) (hk : 0 ≤ k) (hb : k + 16777216 ≤ 2305843009213693952) : ∃ k' x', l_markState x k = some (k', x', ()) ∧ l_heldState x' k = some (k', ()) ∧ k ≤ k' ∧ k' ≤ k + 16777216 := by
  unfold Gi_State at h
  obtain ⟨k0, x0, a0, b0, _, c0, d0⟩ := hmk_ValS x.Vars k (h.1) (by omega) (by omega)
  obtain ⟨k1, x1, a1, b1, _, c1, d1⟩ := hmk_CellS x.Cells k0 (h.2) (by omega) (by omega)
  refine ⟨k1, ⟨x0, x1, x.Nr, x.Err⟩, ?_, ?_, by omega, by omega⟩
  · rw [l_markState_eq, a0, Option.bind_some, a1, Option.bind_some]
  · rw [l_heldState_eq, b0, Option.bind_some, if_neg (by rw [decide_eq_true_eq]; omega), b1, Option.bind_some, if_neg (by rw [decide_eq_true_eq]; omega)]
theorem heq_IntS (l : List Int) (h : l.length ≤ 2097152) : l_eqIntS l l = some (true, ()) := by
  have hl := h
  rw [l_eqIntS_eq, if_neg (by simp)]
  exact all_loop (fun i => l_eqIntS_L1 l l i) l _ (fun i hi => by
    show l_eqIntS_L1 l l i = _
    rw [l_eqIntS_L1_eq, if_pos (decide_eq_true (by omega)), if_pos (by omega), if_pos (by omega), if_neg (by simp), w64_succ hi (by omega)]) (by
    show l_eqIntS_L1 l l _ = _
    rw [l_eqIntS_L1_eq, if_neg (by simp)])
theorem hmk_IntS (l : List Int) (k : Int) (h : l.length ≤ 2097152) (hk : 0 ≤ k) (hb : k + 2097152 ≤ 2305843009213693952) : ∃ k' l', l_markIntS l k = some (k', l', ()) ∧ l_heldIntS l' k = some (k', ()) ∧ l'.length = l.length ∧ k ≤ k' ∧ k' ≤ k + 2097152 := by
  have hl := h
  rw [l_markIntS_eq]
  have step : ∀ (a : List Int) (k : Int) (i : Nat) (hi : i < a.length), a.length ≤ 4294967296 → (fun _ => True) a[i] → 0 ≤ k → k + (1 : Nat) ≤ 2305843009213693952 → ∃ y k', l_markIntS_L1 a k i = l_markIntS_L1 (a.set i y) k' ((i + 1 : Nat) : Int) ∧ k ≤ k' ∧ k' ≤ k + (1 : Nat) ∧ ∀ (d : List Int) (hd : i < d.length), d.length ≤ 4294967296 → d[i] = y → l_heldIntS_L1 d k i = l_heldIntS_L1 d k' ((i + 1 : Nat) : Int) := by
    intro a k i hi ha hp hk hb
    have c : (0 : Int) ≤ (i : Int) ∧ (i : Int) < (a.length : Int) := by omega
    refine ⟨k, k + 1, ?_, by omega, by omega, fun d hd hdl hdy => ?_⟩
    · show l_markIntS_L1 a k i = l_markIntS_L1 _ _ _
      rw [l_markIntS_L1_eq, if_pos (decide_eq_true c.2), if_pos c, w64_id (n := k + 1) (by omega) (by omega), w64_succ hi (by omega), Int.toNat_natCast]
    · show l_heldIntS_L1 d k i = l_heldIntS_L1 _ _ _
      have c2 : (0 : Int) ≤ (i : Int) ∧ (i : Int) < (d.length : Int) := by omega
      rw [l_heldIntS_L1_eq, if_pos (decide_eq_true c2.2), if_pos c2, getD_nat hd, hdy, if_neg (by simp), w64_id (n := k + 1) (by omega) (by omega), w64_succ hd (by omega)]
  obtain ⟨k', l', e1, e2, e3, e4, e5⟩ := mark_rows (fun a k i => l_markIntS_L1 a k i) (fun a k i => l_heldIntS_L1 a k i) (fun _ => True) 1 2305843009213693952
    (fun a k => by show l_markIntS_L1 a k _ = _; rw [l_markIntS_L1_eq, if_neg (by simp)])
    (fun a k => by show l_heldIntS_L1 a k _ = _; rw [l_heldIntS_L1_eq, if_neg (by simp)])
    step l k (by omega) (fun _ _ => trivial) hk (by omega)
  exact ⟨k', l', e1, by rw [l_heldIntS_eq]; exact e2, e3, e4, by omega⟩
theorem heq_Mach (x : impl_Mach) (h : Gi_Mach 2097152 x) : l_eqMach x x = some (true, ()) := by
  unfold Gi_Mach at h
  rw [l_eqMach_eq]
  rw [heq_State _ (h.1), heq_IntS _ (h.2.1)]
  simp
theorem hmk_Mach (x : impl_Mach) (k : Int) (h : Gi_Mach 2097152 x) (hk : 0 ≤ k) (hb : k + 18874368 ≤ 2305843009213693952) : ∃ k' x', l_markMach x k = some (k', x', ()) ∧ l_heldMach x' k = some (k', ()) ∧ k ≤ k' ∧ k' ≤ k + 18874368 := by
  unfold Gi_Mach at h
  obtain ⟨k0, x0, a0, b0, c0, d0⟩ := hmk_State x.State k (h.1) (by omega) (by omega)
  obtain ⟨k1, x1, a1, b1, _, c1, d1⟩ := hmk_IntS x.Done k0 (h.2.1) (by omega) (by omega)
  refine ⟨k1, ⟨x0, x1, x.Out⟩, ?_, ?_, by omega, by omega⟩
  · rw [l_markMach_eq, a0, Option.bind_some, a1, Option.bind_some]
  · rw [l_heldMach_eq, b0, Option.bind_some, if_neg (by rw [decide_eq_true_eq]; omega), b1, Option.bind_some, if_neg (by rw [decide_eq_true_eq]; omega)]
theorem heq_ByteS (l : List Int) (h : l.length ≤ 2097152) : l_eqByteS l l = some (true, ()) := by
  have hl := h
  rw [l_eqByteS_eq, if_neg (by simp)]
  exact all_loop (fun i => l_eqByteS_L1 l l i) l _ (fun i hi => by
    show l_eqByteS_L1 l l i = _
    rw [l_eqByteS_L1_eq, if_pos (decide_eq_true (by omega)), if_pos (by omega), if_pos (by omega), if_neg (by simp), w64_succ hi (by omega)]) (by
    show l_eqByteS_L1 l l _ = _
    rw [l_eqByteS_L1_eq, if_neg (by simp)])
theorem hmk_ByteS (l : List Int) (k : Int) (h : l.length ≤ 2097152) (hk : 0 ≤ k) (hb : k + 2097152 ≤ 2305843009213693952) : ∃ k' l', l_markByteS l k = some (k', l', ()) ∧ l_heldByteS l' k = some (k', ()) ∧ l'.length = l.length ∧ k ≤ k' ∧ k' ≤ k + 2097152 := by
  have hl := h
  rw [l_markByteS_eq]
  have step : ∀ (a : List Int) (k : Int) (i : Nat) (hi : i < a.length), a.length ≤ 4294967296 → (fun _ => True) a[i] → 0 ≤ k → k + (1 : Nat) ≤ 2305843009213693952 → ∃ y k', l_markByteS_L1 a k i = l_markByteS_L1 (a.set i y) k' ((i + 1 : Nat) : Int) ∧ k ≤ k' ∧ k' ≤ k + (1 : Nat) ∧ ∀ (d : List Int) (hd : i < d.length), d.length ≤ 4294967296 → d[i] = y → l_heldByteS_L1 d k i = l_heldByteS_L1 d k' ((i + 1 : Nat) : Int) := by
    intro a k i hi ha hp hk hb
    have c : (0 : Int) ≤ (i : Int) ∧ (i : Int) < (a.length : Int) := by omega
    refine ⟨(w8 k), k + 1, ?_, by omega, by omega, fun d hd hdl hdy => ?_⟩
    · show l_markByteS_L1 a k i = l_markByteS_L1 _ _ _
      rw [l_markByteS_L1_eq, if_pos (decide_eq_true c.2), if_pos c, w64_id (n := k + 1) (by omega) (by omega), w64_succ hi (by omega), Int.toNat_natCast]
    · show l_heldByteS_L1 d k i = l_heldByteS_L1 _ _ _
      have c2 : (0 : Int) ≤ (i : Int) ∧ (i : Int) < (d.length : Int) := by omega
      rw [l_heldByteS_L1_eq, if_pos (decide_eq_true c2.2), if_pos c2, getD_nat hd, hdy, if_neg (by simp), w64_id (n := k + 1) (by omega) (by omega), w64_succ hd (by omega)]
  obtain ⟨k', l', e1, e2, e3, e4, e5⟩ := mark_rows (fun a k i => l_markByteS_L1 a k i) (fun a k i => l_heldByteS_L1 a k i) (fun _ => True) 1 2305843009213693952
    (fun a k => by show l_markByteS_L1 a k _ = _; rw [l_markByteS_L1_eq, if_neg (by simp)])
    (fun a k => by show l_heldByteS_L1 a k _ = _; rw [l_heldByteS_L1_eq, if_neg (by simp)])
    step l k (by omega) (fun _ _ => trivial) hk (by omega)
  exact ⟨k', l', e1, by rw [l_heldByteS_eq]; exact e2, e3, e4, by omega⟩
end Go.Proofs.YtonmohpdmhfjnaaGreatDoor.E.TM
