/- The harness of the exact laws at Peer: sizes, copies, likeness, marks. Printed by wip/gen/harness.py. No condition but lengths. -/
import Derived.Test.YtonmohpdmhfjnaaGreatDoorPMRows
import Derived.Test.YtonmohpdmhfjnaaGreatDoorPMMarkText
import Derived.Test.YtonmohpdmhfjnaaGreatDoorTMe1
import Derived.Test.YtonmohpdmhfjnaaGreatDoorTMe2
import Derived.Test.YtonmohpdmhfjnaaGreatDoorTMe3
namespace Go.Proofs.YtonmohpdmhfjnaaGreatDoor.E.TM
open Go.Proofs.YtonmohpdmhfjnaaGreatDoor.E
set_option linter.unusedVariables false
def Gl_Val (M : Nat) (x : laws_Val) : Prop := x.S.length ≤ M
def Gi_Val (M : Nat) (x : impl_Val) : Prop := x.S.length ≤ M
def Gl_Cell (M : Nat) (x : laws_Cell) : Prop := x.Key.length ≤ M ∧ Gl_Val M x.Val
def Gi_Cell (M : Nat) (x : impl_Cell) : Prop := x.Key.length ≤ M ∧ Gi_Val M x.Val
def Gl_State (M : Nat) (x : laws_State) : Prop := (x.Vars.length ≤ M ∧ ∀ y ∈ x.Vars, Gl_Val M y) ∧ (x.Cells.length ≤ M ∧ ∀ y ∈ x.Cells, Gl_Cell M y)
def Gi_State (M : Nat) (x : impl_State) : Prop := (x.Vars.length ≤ M ∧ ∀ y ∈ x.Vars, Gi_Val M y) ∧ (x.Cells.length ≤ M ∧ ∀ y ∈ x.Cells, Gi_Cell M y)
def Gl_Mach (M : Nat) (x : laws_Mach) : Prop := Gl_State M x.State ∧ x.Done.length ≤ M ∧ x.Out.length ≤ M
def Gi_Mach (M : Nat) (x : impl_Mach) : Prop := Gi_State M x.State ∧ x.Done.length ≤ M ∧ x.Out.length ≤ M
theorem hf_Val {d : Nat} {x : laws_Val} (h : Fine (G := gam) (d + 3) (.nm 3) x) : Gl_Val 9223372036854775807 x := by
  have h' : _ ∧ _ ∧ (x.S.length ≤ 9223372036854775807 ∧ _) ∧ _ := h
  unfold Gl_Val
  exact h'.2.2.1.1
theorem hf_Cell {d : Nat} {x : laws_Cell} (h : Fine (G := gam) (d + 4) (.nm 4) x) : Gl_Cell 9223372036854775807 x := by
  have h' : _ ∧ (x.Key.length ≤ 9223372036854775807 ∧ _) ∧ Fine (G := gam) (d + 3) (.nm 3) x.Val ∧ _ := h
  unfold Gl_Cell
  exact ⟨h'.2.1.1, hf_Val (d := d + 0) h'.2.2.1⟩
theorem hf_State {d : Nat} {x : laws_State} (h : Fine (G := gam) (d + 6) (.nm 2) x) : Gl_State 9223372036854775807 x := by
  have h' : (x.Vars.length ≤ 9223372036854775807 ∧ ∀ y ∈ x.Vars, Fine (G := gam) (d + 4) (.nm 3) y) ∧ (x.Cells.length ≤ 9223372036854775807 ∧ ∀ y ∈ x.Cells, Fine (G := gam) (d + 4) (.nm 4) y) ∧ _ ∧ _ ∧ _ := h
  unfold Gl_State
  exact ⟨⟨h'.1.1, fun y hy => hf_Val (d := d + 1) (h'.1.2 y hy)⟩, ⟨h'.2.1.1, fun y hy => hf_Cell (d := d + 0) (h'.2.1.2 y hy)⟩⟩
theorem hf_Mach {d : Nat} {x : laws_Mach} (h : Fine (G := gam) (d + 7) (.nm 5) x) : Gl_Mach 9223372036854775807 x := by
  have h' : Fine (G := gam) (d + 6) (.nm 2) x.State ∧ (x.Done.length ≤ 9223372036854775807 ∧ _) ∧ (x.Out.length ≤ 9223372036854775807 ∧ _) ∧ _ := h
  unfold Gl_Mach
  exact ⟨hf_State (d := d + 0) h'.1, h'.2.1.1, h'.2.2.1.1⟩
theorem hsz_Val (x : laws_Val) (n : Int) (h : Gl_Val 9223372036854775807 x) (h0 : 0 ≤ n) (h1 : n ≤ 1048576) : ∃ r, l_szVal x n = some (r, ()) ∧ r ≤ 1048576 ∧ (0 ≤ r → Gl_Val 1048576 x) := by
  unfold Gl_Val at h
  rw [l_szVal_eq]
  have hl0 := h
  rw [w64_id (n := n - (x.S.length : Int)) (by omega) (by omega)]
  by_cases c0 : n - (x.S.length : Int) < 0
  · rw [if_pos (decide_eq_true c0)]; exact ⟨-1, rfl, by omega, fun h => by omega⟩
  rw [if_neg (by rw [decide_eq_true_eq]; exact c0)]
  exact ⟨_, rfl, by omega, fun _ => by unfold Gl_Val; exact by omega⟩
def hc_Val (x : laws_Val) : impl_Val := ⟨x.Kind, x.N, x.S⟩
theorem hto_Val (x : laws_Val) (h : Gl_Val 1048576 x) : l_toVal x = some (hc_Val x, ()) := by
  unfold Gl_Val at h
  rw [l_toVal_eq]
  rfl
theorem hg_Val {x : laws_Val} {M : Nat} (h : Gl_Val M x) : Gi_Val M (hc_Val x) := by
  unfold Gl_Val at h
  unfold Gi_Val hc_Val
  exact h
theorem heq_Val (x : impl_Val) (h : Gi_Val 2097152 x) : l_eqVal x x = some (true, ()) := by
  unfold Gi_Val at h
  rw [l_eqVal_eq]
  simp
theorem hsz_ValS (l : List laws_Val) (n : Int) (h : l.length ≤ 9223372036854775807 ∧ ∀ x ∈ l, Gl_Val 9223372036854775807 x) (h0 : 0 ≤ n) (h1 : n ≤ 1048576) : ∃ r, l_szValS l n = some (r, ()) ∧ r ≤ 1048576 ∧ (0 ≤ r → l.length ≤ 1048576 ∧ ∀ x ∈ l, Gl_Val 1048576 x) := by
  have hl := h.1
  rw [l_szValS_eq, w64_id (n := n - (l.length : Int)) (by omega) (by omega)]
  by_cases c : n - (l.length : Int) < 0
  · rw [if_pos (decide_eq_true c)]; exact ⟨-1, rfl, by omega, fun h => by omega⟩
  · rw [if_neg (by rw [decide_eq_true_eq]; exact c)]
    obtain ⟨r, e1, e2, e3⟩ := sz_rows (fun k i => l_szValS_L1 l k i) l_szVal l (Gl_Val 1048576) (by omega) (fun x hx k k0 k1 => hsz_Val x k (h.2 x hx) k0 k1)
      (fun k => by show l_szValS_L1 l k _ = _; rw [l_szValS_L1_eq, if_neg (by simp)])
      (fun k i hi => by show l_szValS_L1 l k i = _; rw [l_szValS_L1_eq, if_pos (decide_eq_true (by omega)), if_pos (by omega), getD_nat hi, w64_succ hi (by omega)]) (n - l.length) (by omega) (by omega)
    exact ⟨r, e1, e2, fun hr => ⟨by omega, e3 hr⟩⟩
theorem hto_ValS (l : List laws_Val) (h : l.length ≤ 1048576 ∧ ∀ x ∈ l, Gl_Val 1048576 x) : l_toValS l = some (l.map hc_Val, ()) := by
  rw [l_toValS_eq, if_pos (by have := h.1; rw [room_eq]; omega)]
  have := to_loop (fun acc i => l_toValS_L1 l acc i) hc_Val l (fun acc i hi ha => by
    show l_toValS_L1 l acc i = _
    have hl := h.1
    rw [l_toValS_L1_eq, if_pos (decide_eq_true (by omega)), if_pos (by omega), getD_nat hi, hto_Val _ (h.2 _ (List.getElem_mem hi)), Option.bind_some, if_pos (by omega), w64_succ hi (by omega), Int.toNat_natCast]
    ) (fun acc ha => by
    show l_toValS_L1 l acc _ = _
    rw [l_toValS_L1_eq, if_neg (by simp)]) (List.replicate (List.length l : Int).toNat z_impl_Val) (by simp)
  exact this
theorem heq_ValS (l : List impl_Val) (h : l.length ≤ 2097152 ∧ ∀ x ∈ l, Gi_Val 2097152 x) : l_eqValS l l = some (true, ()) := by
  have hl := h.1
  rw [l_eqValS_eq, if_neg (by simp)]
  exact all_loop (fun i => l_eqValS_L1 l l i) l _ (fun i hi => by
    show l_eqValS_L1 l l i = _
    rw [l_eqValS_L1_eq, if_pos (decide_eq_true (by omega)), if_pos (by omega), if_pos (by omega), getD_nat hi, heq_Val _ (h.2 _ (List.getElem_mem hi)), Option.bind_some, if_neg (by simp), w64_succ hi (by omega)]) (by
    show l_eqValS_L1 l l _ = _
    rw [l_eqValS_L1_eq, if_neg (by simp)])
theorem hmk_ValS (l : List impl_Val) (k : Int) (h : l.length ≤ 2097152 ∧ ∀ x ∈ l, Gi_Val 2097152 x) (hk : 0 ≤ k) (hb : k + 6291456 ≤ 2305843009213693952) : ∃ k' l', l_markValS l k = some (k', l', ()) ∧ l_heldValS l' k = some (k', ()) ∧ l'.length = l.length ∧ k ≤ k' ∧ k' ≤ k + 6291456 := by
  have hl := h.1
  rw [l_markValS_eq]
  have step : ∀ (a : List impl_Val) (k : Int) (i : Nat) (hi : i < a.length), a.length ≤ 4294967296 → (Gi_Val 2097152) a[i] → 0 ≤ k → k + (3 : Nat) ≤ 2305843009213693952 → ∃ y k', l_markValS_L1 a k i = l_markValS_L1 (a.set i y) k' ((i + 1 : Nat) : Int) ∧ k ≤ k' ∧ k' ≤ k + (3 : Nat) ∧ ∀ (d : List impl_Val) (hd : i < d.length), d.length ≤ 4294967296 → d[i] = y → l_heldValS_L1 d k i = l_heldValS_L1 d k' ((i + 1 : Nat) : Int) := by
    intro a k i hi ha hp hk hb
    have c : (0 : Int) ≤ (i : Int) ∧ (i : Int) < (a.length : Int) := by omega
    refine ⟨⟨k, k + 1, mText (k + 1 + 1)⟩, k + 1 + 1 + 1, ?_, by omega, by omega, fun d hd hdl hdy => ?_⟩
    · show l_markValS_L1 a k i = l_markValS_L1 _ _ _
      rw [l_markValS_L1_eq, if_pos (decide_eq_true c.2), if_pos c, w64_id (n := k + 1) (by omega) (by omega), w64_id (n := k + 1 + 1) (by omega) (by omega), w64_id (n := k + 1 + 1 + 1) (by omega) (by omega), w64_succ hi (by omega), markText_eq _ (by omega)]
      simp only [List.length_set, if_pos c, Option.bind_some, Int.toNat_natCast, getD_set, hi, List.set_set]
    · show l_heldValS_L1 d k i = l_heldValS_L1 _ _ _
      have c2 : (0 : Int) ≤ (i : Int) ∧ (i : Int) < (d.length : Int) := by omega
      rw [l_heldValS_L1_eq, if_pos (decide_eq_true c2.2), w64_id (n := k + 1) (by omega) (by omega), w64_id (n := k + 1 + 1) (by omega) (by omega), w64_id (n := k + 1 + 1 + 1) (by omega) (by omega), w64_succ hd (by omega), markText_eq _ (by omega), getD_nat hd, hdy]
      simp only [if_pos c2, Option.bind_some, decide_true, Bool.not_true, Bool.false_eq_true, if_false]
  obtain ⟨k', l', e1, e2, e3, e4, e5⟩ := mark_rows (fun a k i => l_markValS_L1 a k i) (fun a k i => l_heldValS_L1 a k i) (Gi_Val 2097152) 3 2305843009213693952
    (fun a k => by show l_markValS_L1 a k _ = _; rw [l_markValS_L1_eq, if_neg (by simp)])
    (fun a k => by show l_heldValS_L1 a k _ = _; rw [l_heldValS_L1_eq, if_neg (by simp)])
    step l k (by omega) (h.2) hk (by omega)
  exact ⟨k', l', e1, by rw [l_heldValS_eq]; exact e2, e3, e4, by omega⟩
theorem hsz_Cell (x : laws_Cell) (n : Int) (h : Gl_Cell 9223372036854775807 x) (h0 : 0 ≤ n) (h1 : n ≤ 1048576) : ∃ r, l_szCell x n = some (r, ()) ∧ r ≤ 1048576 ∧ (0 ≤ r → Gl_Cell 1048576 x) := by
  unfold Gl_Cell at h
  rw [l_szCell_eq]
  have hl0 := h.1
  rw [w64_id (n := n - (x.Key.length : Int)) (by omega) (by omega)]
  by_cases c0 : n - (x.Key.length : Int) < 0
  · rw [if_pos (decide_eq_true c0)]; exact ⟨-1, rfl, by omega, fun h => by omega⟩
  rw [if_neg (by rw [decide_eq_true_eq]; exact c0)]
  obtain ⟨r1, e1, f1, g1⟩ := hsz_Val x.Val (n - (x.Key.length : Int)) (h.2) (by omega) (by omega)
  rw [e1, Option.bind_some]
  dsimp only
  by_cases c1 : r1 < 0
  · rw [if_pos (decide_eq_true c1)]; exact ⟨-1, rfl, by omega, fun h => by omega⟩
  rw [if_neg (by rw [decide_eq_true_eq]; exact c1)]
  exact ⟨_, rfl, by omega, fun _ => by unfold Gl_Cell; exact ⟨by omega, g1 (by omega)⟩⟩
def hc_Cell (x : laws_Cell) : impl_Cell := ⟨x.Name, x.Key, (hc_Val x.Val)⟩
theorem hto_Cell (x : laws_Cell) (h : Gl_Cell 1048576 x) : l_toCell x = some (hc_Cell x, ()) := by
  unfold Gl_Cell at h
  rw [l_toCell_eq]
  rw [hto_Val _ (h.2), Option.bind_some]
  rfl
theorem hg_Cell {x : laws_Cell} {M : Nat} (h : Gl_Cell M x) : Gi_Cell M (hc_Cell x) := by
  unfold Gl_Cell at h
  unfold Gi_Cell hc_Cell
  exact ⟨h.1, hg_Val (h.2)⟩
theorem heq_Cell (x : impl_Cell) (h : Gi_Cell 2097152 x) : l_eqCell x x = some (true, ()) := by
  unfold Gi_Cell at h
  rw [l_eqCell_eq]
  rw [heq_Val _ (h.2)]
  simp
theorem hsz_CellS (l : List laws_Cell) (n : Int) (h : l.length ≤ 9223372036854775807 ∧ ∀ x ∈ l, Gl_Cell 9223372036854775807 x) (h0 : 0 ≤ n) (h1 : n ≤ 1048576) : ∃ r, l_szCellS l n = some (r, ()) ∧ r ≤ 1048576 ∧ (0 ≤ r → l.length ≤ 1048576 ∧ ∀ x ∈ l, Gl_Cell 1048576 x) := by
  have hl := h.1
  rw [l_szCellS_eq, w64_id (n := n - (l.length : Int)) (by omega) (by omega)]
  by_cases c : n - (l.length : Int) < 0
  · rw [if_pos (decide_eq_true c)]; exact ⟨-1, rfl, by omega, fun h => by omega⟩
  · rw [if_neg (by rw [decide_eq_true_eq]; exact c)]
    obtain ⟨r, e1, e2, e3⟩ := sz_rows (fun k i => l_szCellS_L1 l k i) l_szCell l (Gl_Cell 1048576) (by omega) (fun x hx k k0 k1 => hsz_Cell x k (h.2 x hx) k0 k1)
      (fun k => by show l_szCellS_L1 l k _ = _; rw [l_szCellS_L1_eq, if_neg (by simp)])
      (fun k i hi => by show l_szCellS_L1 l k i = _; rw [l_szCellS_L1_eq, if_pos (decide_eq_true (by omega)), if_pos (by omega), getD_nat hi, w64_succ hi (by omega)]) (n - l.length) (by omega) (by omega)
    exact ⟨r, e1, e2, fun hr => ⟨by omega, e3 hr⟩⟩
theorem hto_CellS (l : List laws_Cell) (h : l.length ≤ 1048576 ∧ ∀ x ∈ l, Gl_Cell 1048576 x) : l_toCellS l = some (l.map hc_Cell, ()) := by
  rw [l_toCellS_eq, if_pos (by have := h.1; rw [room_eq]; omega)]
  have := to_loop (fun acc i => l_toCellS_L1 l acc i) hc_Cell l (fun acc i hi ha => by
    show l_toCellS_L1 l acc i = _
    have hl := h.1
    rw [l_toCellS_L1_eq, if_pos (decide_eq_true (by omega)), if_pos (by omega), getD_nat hi, hto_Cell _ (h.2 _ (List.getElem_mem hi)), Option.bind_some, if_pos (by omega), w64_succ hi (by omega), Int.toNat_natCast]
    ) (fun acc ha => by
    show l_toCellS_L1 l acc _ = _
    rw [l_toCellS_L1_eq, if_neg (by simp)]) (List.replicate (List.length l : Int).toNat z_impl_Cell) (by simp)
  exact this
theorem heq_CellS (l : List impl_Cell) (h : l.length ≤ 2097152 ∧ ∀ x ∈ l, Gi_Cell 2097152 x) : l_eqCellS l l = some (true, ()) := by
  have hl := h.1
  rw [l_eqCellS_eq, if_neg (by simp)]
  exact all_loop (fun i => l_eqCellS_L1 l l i) l _ (fun i hi => by
    show l_eqCellS_L1 l l i = _
    rw [l_eqCellS_L1_eq, if_pos (decide_eq_true (by omega)), if_pos (by omega), if_pos (by omega), getD_nat hi, heq_Cell _ (h.2 _ (List.getElem_mem hi)), Option.bind_some, if_neg (by simp), w64_succ hi (by omega)]) (by
    show l_eqCellS_L1 l l _ = _
    rw [l_eqCellS_L1_eq, if_neg (by simp)])
theorem hmk_CellS (l : List impl_Cell) (k : Int) (h : l.length ≤ 2097152 ∧ ∀ x ∈ l, Gi_Cell 2097152 x) (hk : 0 ≤ k) (hb : k + 10485760 ≤ 2305843009213693952) : ∃ k' l', l_markCellS l k = some (k', l', ()) ∧ l_heldCellS l' k = some (k', ()) ∧ l'.length = l.length ∧ k ≤ k' ∧ k' ≤ k + 10485760 := by
  have hl := h.1
  rw [l_markCellS_eq]
  have step : ∀ (a : List impl_Cell) (k : Int) (i : Nat) (hi : i < a.length), a.length ≤ 4294967296 → (Gi_Cell 2097152) a[i] → 0 ≤ k → k + (5 : Nat) ≤ 2305843009213693952 → ∃ y k', l_markCellS_L1 a k i = l_markCellS_L1 (a.set i y) k' ((i + 1 : Nat) : Int) ∧ k ≤ k' ∧ k' ≤ k + (5 : Nat) ∧ ∀ (d : List impl_Cell) (hd : i < d.length), d.length ≤ 4294967296 → d[i] = y → l_heldCellS_L1 d k i = l_heldCellS_L1 d k' ((i + 1 : Nat) : Int) := by
    intro a k i hi ha hp hk hb
    have c : (0 : Int) ≤ (i : Int) ∧ (i : Int) < (a.length : Int) := by omega
    refine ⟨⟨k, mText (k + 1), ⟨k + 1 + 1, k + 1 + 1 + 1, mText (k + 1 + 1 + 1 + 1)⟩⟩, k + 1 + 1 + 1 + 1 + 1, ?_, by omega, by omega, fun d hd hdl hdy => ?_⟩
    · show l_markCellS_L1 a k i = l_markCellS_L1 _ _ _
      rw [l_markCellS_L1_eq, if_pos (decide_eq_true c.2), if_pos c, w64_id (n := k + 1) (by omega) (by omega), w64_id (n := k + 1 + 1) (by omega) (by omega), w64_id (n := k + 1 + 1 + 1) (by omega) (by omega), w64_id (n := k + 1 + 1 + 1 + 1) (by omega) (by omega), w64_id (n := k + 1 + 1 + 1 + 1 + 1) (by omega) (by omega), w64_succ hi (by omega), markText_eq _ (by omega), markText_eq _ (by omega)]
      simp only [List.length_set, if_pos c, Option.bind_some, Int.toNat_natCast, getD_set, hi, List.set_set]
    · show l_heldCellS_L1 d k i = l_heldCellS_L1 _ _ _
      have c2 : (0 : Int) ≤ (i : Int) ∧ (i : Int) < (d.length : Int) := by omega
      rw [l_heldCellS_L1_eq, if_pos (decide_eq_true c2.2), w64_id (n := k + 1) (by omega) (by omega), w64_id (n := k + 1 + 1) (by omega) (by omega), w64_id (n := k + 1 + 1 + 1) (by omega) (by omega), w64_id (n := k + 1 + 1 + 1 + 1) (by omega) (by omega), w64_id (n := k + 1 + 1 + 1 + 1 + 1) (by omega) (by omega), w64_succ hd (by omega), markText_eq _ (by omega), markText_eq _ (by omega), getD_nat hd, hdy]
      simp only [if_pos c2, Option.bind_some, decide_true, Bool.not_true, Bool.false_eq_true, if_false]
  obtain ⟨k', l', e1, e2, e3, e4, e5⟩ := mark_rows (fun a k i => l_markCellS_L1 a k i) (fun a k i => l_heldCellS_L1 a k i) (Gi_Cell 2097152) 5 2305843009213693952
    (fun a k => by show l_markCellS_L1 a k _ = _; rw [l_markCellS_L1_eq, if_neg (by simp)])
    (fun a k => by show l_heldCellS_L1 a k _ = _; rw [l_heldCellS_L1_eq, if_neg (by simp)])
    step l k (by omega) (h.2) hk (by omega)
  exact ⟨k', l', e1, by rw [l_heldCellS_eq]; exact e2, e3, e4, by omega⟩
theorem hsz_State (x : laws_State) (n : Int) (h : Gl_State 9223372036854775807 x) (h0 : 0 ≤ n) (h1 : n ≤ 1048576) : ∃ r, l_szState x n = some (r, ()) ∧ r ≤ 1048576 ∧ (0 ≤ r → Gl_State 1048576 x) := by
  unfold Gl_State at h
  rw [l_szState_eq]
  obtain ⟨r0, e0, f0, g0⟩ := hsz_ValS x.Vars n (h.1) (by omega) (by omega)
  rw [e0, Option.bind_some]
  dsimp only
  by_cases c0 : r0 < 0
  · rw [if_pos (decide_eq_true c0)]; exact ⟨-1, rfl, by omega, fun h => by omega⟩
  rw [if_neg (by rw [decide_eq_true_eq]; exact c0)]
  obtain ⟨r1, e1, f1, g1⟩ := hsz_CellS x.Cells r0 (h.2) (by omega) (by omega)
  rw [e1, Option.bind_some]
  dsimp only
  by_cases c1 : r1 < 0
  · rw [if_pos (decide_eq_true c1)]; exact ⟨-1, rfl, by omega, fun h => by omega⟩
  rw [if_neg (by rw [decide_eq_true_eq]; exact c1)]
  exact ⟨_, rfl, by omega, fun _ => by unfold Gl_State; exact ⟨g0 (by omega), g1 (by omega)⟩⟩
def hc_State (x : laws_State) : impl_State := ⟨(x.Vars.map hc_Val), (x.Cells.map hc_Cell), x.Nr, x.Err⟩
theorem hto_State (x : laws_State) (h : Gl_State 1048576 x) : l_toState x = some (hc_State x, ()) := by
  unfold Gl_State at h
  rw [l_toState_eq]
  rw [hto_ValS _ (h.1), Option.bind_some]
  rw [hto_CellS _ (h.2), Option.bind_some]
  rfl
theorem hg_State {x : laws_State} {M : Nat} (h : Gl_State M x) : Gi_State M (hc_State x) := by
  unfold Gl_State at h
  unfold Gi_State hc_State
  exact ⟨⟨by rw [List.length_map]; exact (h.1).1, fun y hy => by obtain ⟨x', hx', rfl⟩ := List.mem_map.1 hy; exact hg_Val ((h.1).2 x' hx')⟩, ⟨by rw [List.length_map]; exact (h.2).1, fun y hy => by obtain ⟨x', hx', rfl⟩ := List.mem_map.1 hy; exact hg_Cell ((h.2).2 x' hx')⟩⟩
theorem heq_State (x : impl_State) (h : Gi_State 2097152 x) : l_eqState x x = some (true, ()) := by
  unfold Gi_State at h
  rw [l_eqState_eq]
  rw [heq_ValS _ (h.1), heq_CellS _ (h.2)]
  simp
theorem hmk_State (x : impl_State) (k : Int) (h : Gi_State 2097152 x) (hk : 0 ≤ k) (hb : k + 16777216 ≤ 2305843009213693952) : ∃ k' x', l_markState x k = some (k', x', ()) ∧ l_heldState x' k = some (k', ()) ∧ k ≤ k' ∧ k' ≤ k + 16777216 := by
  unfold Gi_State at h
  obtain ⟨k0, x0, a0, b0, _, c0, d0⟩ := hmk_ValS x.Vars k (h.1) (by omega) (by omega)
  obtain ⟨k1, x1, a1, b1, _, c1, d1⟩ := hmk_CellS x.Cells k0 (h.2) (by omega) (by omega)
  refine ⟨k1, ⟨x0, x1, x.Nr, x.Err⟩, ?_, ?_, by omega, by omega⟩
  · rw [l_markState_eq, a0, Option.bind_some, a1, Option.bind_some]
  · rw [l_heldState_eq, b0, Option.bind_some, if_neg (by rw [decide_eq_true_eq]; omega), b1, Option.bind_some, if_neg (by rw [decide_eq_true_eq]; omega)]
theorem hsz_IntS (l : List Int) (n : Int) (h : l.length ≤ 9223372036854775807) (h0 : 0 ≤ n) (h1 : n ≤ 1048576) : ∃ r, l_szIntS l n = some (r, ()) ∧ r ≤ 1048576 ∧ (0 ≤ r → l.length ≤ 1048576) := by
  have hl := h
  rw [l_szIntS_eq, w64_id (n := n - (l.length : Int)) (by omega) (by omega)]
  by_cases c : n - (l.length : Int) < 0
  · rw [if_pos (decide_eq_true c)]; exact ⟨-1, rfl, by omega, fun h => by omega⟩
  · rw [if_neg (by rw [decide_eq_true_eq]; exact c)]
    exact ⟨_, rfl, by omega, fun _ => by omega⟩
theorem hto_IntS (l : List Int) (h : l.length ≤ 1048576) : l_toIntS l = some (l, ()) := by
  rw [l_toIntS_eq, if_pos (by have := h; rw [room_eq]; omega)]
  have := to_loop (fun acc i => l_toIntS_L1 l acc i) id l (fun acc i hi ha => by
    show l_toIntS_L1 l acc i = _
    have hl := h
    rw [l_toIntS_L1_eq, if_pos (decide_eq_true (by omega)), if_pos (by omega), if_pos (by omega), w64_succ hi (by omega), getD_nat hi, Int.toNat_natCast]
    rfl
    ) (fun acc ha => by
    show l_toIntS_L1 l acc _ = _
    rw [l_toIntS_L1_eq, if_neg (by simp)]) (List.replicate (List.length l : Int).toNat 0) (by simp)
  rw [List.map_id] at this
  exact this
theorem heq_IntS (l : List Int) (h : l.length ≤ 2097152) : l_eqIntS l l = some (true, ()) := by
  have hl := h
  rw [l_eqIntS_eq, if_neg (by simp)]
  exact all_loop (fun i => l_eqIntS_L1 l l i) l _ (fun i hi => by
    show l_eqIntS_L1 l l i = _
    rw [l_eqIntS_L1_eq, if_pos (decide_eq_true (by omega)), if_pos (by omega), if_pos (by omega), if_neg (by simp), w64_succ hi (by omega)]) (by
    show l_eqIntS_L1 l l _ = _
    rw [l_eqIntS_L1_eq, if_neg (by simp)])
theorem hmk_IntS (l : List Int) (k : Int) (h : l.length ≤ 2097152) (hk : 0 ≤ k) (hb : k + 2097152 ≤ 2305843009213693952) : ∃ k' l', l_markIntS l k = some (k', l', ()) ∧ l_heldIntS l' k = some (k', ()) ∧ l'.length = l.length ∧ k ≤ k' ∧ k' ≤ k + 2097152 := by
  have hl := h
  rw [l_markIntS_eq]
  have step : ∀ (a : List Int) (k : Int) (i : Nat) (hi : i < a.length), a.length ≤ 4294967296 → (fun _ => True) a[i] → 0 ≤ k → k + (1 : Nat) ≤ 2305843009213693952 → ∃ y k', l_markIntS_L1 a k i = l_markIntS_L1 (a.set i y) k' ((i + 1 : Nat) : Int) ∧ k ≤ k' ∧ k' ≤ k + (1 : Nat) ∧ ∀ (d : List Int) (hd : i < d.length), d.length ≤ 4294967296 → d[i] = y → l_heldIntS_L1 d k i = l_heldIntS_L1 d k' ((i + 1 : Nat) : Int) := by
    intro a k i hi ha hp hk hb
    have c : (0 : Int) ≤ (i : Int) ∧ (i : Int) < (a.length : Int) := by omega
    refine ⟨k, k + 1, ?_, by omega, by omega, fun d hd hdl hdy => ?_⟩
    · show l_markIntS_L1 a k i = l_markIntS_L1 _ _ _
      rw [l_markIntS_L1_eq, if_pos (decide_eq_true c.2), if_pos c, w64_id (n := k + 1) (by omega) (by omega), w64_succ hi (by omega), Int.toNat_natCast]
    · show l_heldIntS_L1 d k i = l_heldIntS_L1 _ _ _
      have c2 : (0 : Int) ≤ (i : Int) ∧ (i : Int) < (d.length : Int) := by omega
      rw [l_heldIntS_L1_eq, if_pos (decide_eq_true c2.2), if_pos c2, getD_nat hd, hdy, if_neg (by simp), w64_id (n := k + 1) (by omega) (by omega), w64_succ hd (by omega)]
  obtain ⟨k', l', e1, e2, e3, e4, e5⟩ := mark_rows (fun a k i => l_markIntS_L1 a k i) (fun a k i => l_heldIntS_L1 a k i) (fun _ => True) 1 2305843009213693952
    (fun a k => by show l_markIntS_L1 a k _ = _; rw [l_markIntS_L1_eq, if_neg (by simp)])
    (fun a k => by show l_heldIntS_L1 a k _ = _; rw [l_heldIntS_L1_eq, if_neg (by simp)])
    step l k (by omega) (fun _ _ => trivial) hk (by omega)
  exact ⟨k', l', e1, by rw [l_heldIntS_eq]; exact e2, e3, e4, by omega⟩
theorem hsz_Mach (x : laws_Mach) (n : Int) (h : Gl_Mach 9223372036854775807 x) (h0 : 0 ≤ n) (h1 : n ≤ 1048576) : ∃ r, l_szMach x n = some (r, ()) ∧ r ≤ 1048576 ∧ (0 ≤ r → Gl_Mach 1048576 x) := by
  unfold Gl_Mach at h
  rw [l_szMach_eq]
  obtain ⟨r0, e0, f0, g0⟩ := hsz_State x.State n (h.1) (by omega) (by omega)
  rw [e0, Option.bind_some]
  dsimp only
  by_cases c0 : r0 < 0
  · rw [if_pos (decide_eq_true c0)]; exact ⟨-1, rfl, by omega, fun h => by omega⟩
  rw [if_neg (by rw [decide_eq_true_eq]; exact c0)]
  obtain ⟨r1, e1, f1, g1⟩ := hsz_IntS x.Done r0 (h.2.1) (by omega) (by omega)
  rw [e1, Option.bind_some]
  dsimp only
  by_cases c1 : r1 < 0
  · rw [if_pos (decide_eq_true c1)]; exact ⟨-1, rfl, by omega, fun h => by omega⟩
  rw [if_neg (by rw [decide_eq_true_eq]; exact c1)]
  have hl2 := h.2.2
  rw [w64_id (n := r1 - (x.Out.length : Int)) (by omega) (by omega)]
  by_cases c2 : r1 - (x.Out.length : Int) < 0
  · rw [if_pos (decide_eq_true c2)]; exact ⟨-1, rfl, by omega, fun h => by omega⟩
  rw [if_neg (by rw [decide_eq_true_eq]; exact c2)]
  exact ⟨_, rfl, by omega, fun _ => by unfold Gl_Mach; exact ⟨g0 (by omega), g1 (by omega), by omega⟩⟩
def hc_Mach (x : laws_Mach) : impl_Mach := ⟨(hc_State x.State), x.Done, x.Out⟩
theorem hto_Mach (x : laws_Mach) (h : Gl_Mach 1048576 x) : l_toMach x = some (hc_Mach x, ()) := by
  unfold Gl_Mach at h
  rw [l_toMach_eq]
  rw [hto_State _ (h.1), Option.bind_some]
  rw [hto_IntS _ (h.2.1), Option.bind_some]
  rfl
theorem hg_Mach {x : laws_Mach} {M : Nat} (h : Gl_Mach M x) : Gi_Mach M (hc_Mach x) := by
  unfold Gl_Mach at h
  unfold Gi_Mach hc_Mach
  exact ⟨hg_State (h.1), h.2.1, h.2.2⟩
theorem heq_Mach (x : impl_Mach) (h : Gi_Mach 2097152 x) : l_eqMach x x = some (true, ()) := by
  unfold Gi_Mach at h
  rw [l_eqMach_eq]
  rw [heq_State _ (h.1), heq_IntS _ (h.2.1)]
  simp
theorem hmk_Mach (x : impl_Mach) (k : Int) (h : Gi_Mach 2097152 x) (hk : 0 ≤ k) (hb : k + 18874368 ≤ 2305843009213693952) : ∃ k' x', l_markMach x k = some (k', x', ()) ∧ l_heldMach x' k = some (k', ()) ∧ k ≤ k' ∧ k' ≤ k + 18874368 := by
  unfold Gi_Mach at h
  obtain ⟨k0, x0, a0, b0, c0, d0⟩ := hmk_State x.State k (h.1) (by omega) (by omega)
  obtain ⟨k1, x1, a1, b1, _, c1, d1⟩ := hmk_IntS x.Done k0 (h.2.1) (by omega) (by omega)
  refine ⟨k1, ⟨x0, x1, x.Out⟩, ?_, ?_, by omega, by omega⟩
  · rw [l_markMach_eq, a0, Option.bind_some, a1, Option.bind_some]
  · rw [l_heldMach_eq, b0, Option.bind_some, if_neg (by rw [decide_eq_true_eq]; omega), b1, Option.bind_some, if_neg (by rw [decide_eq_true_eq]; omega)]
theorem heq_ByteS (l : List Int) (h : l.length ≤ 2097152) : l_eqByteS l l = some (true, ()) := by
  have hl := h
  rw [l_eqByteS_eq, if_neg (by simp)]
  exact all_loop (fun i => l_eqByteS_L1 l l i) l _ (fun i hi => by
    show l_eqByteS_L1 l l i = _
    rw [l_eqByteS_L1_eq, if_pos (decide_eq_true (by omega)), if_pos (by omega), if_pos (by omega), if_neg (by simp), w64_succ hi (by omega)]) (by
    show l_eqByteS_L1 l l _ = _
    rw [l_eqByteS_L1_eq, if_neg (by simp)])
theorem hmk_ByteS (l : List Int) (k : Int) (h : l.length ≤ 2097152) (hk : 0 ≤ k) (hb : k + 2097152 ≤ 2305843009213693952) : ∃ k' l', l_markByteS l k = some (k', l', ()) ∧ l_heldByteS l' k = some (k', ()) ∧ l'.length = l.length ∧ k ≤ k' ∧ k' ≤ k + 2097152 := by
  have hl := h
  rw [l_markByteS_eq]
  have step : ∀ (a : List Int) (k : Int) (i : Nat) (hi : i < a.length), a.length ≤ 4294967296 → (fun _ => True) a[i] → 0 ≤ k → k + (1 : Nat) ≤ 2305843009213693952 → ∃ y k', l_markByteS_L1 a k i = l_markByteS_L1 (a.set i y) k' ((i + 1 : Nat) : Int) ∧ k ≤ k' ∧ k' ≤ k + (1 : Nat) ∧ ∀ (d : List Int) (hd : i < d.length), d.length ≤ 4294967296 → d[i] = y → l_heldByteS_L1 d k i = l_heldByteS_L1 d k' ((i + 1 : Nat) : Int) := by
    intro a k i hi ha hp hk hb
    have c : (0 : Int) ≤ (i : Int) ∧ (i : Int) < (a.length : Int) := by omega
    refine ⟨(w8 k), k + 1, ?_, by omega, by omega, fun d hd hdl hdy => ?_⟩
    · show l_markByteS_L1 a k i = l_markByteS_L1 _ _ _
      rw [l_markByteS_L1_eq, if_pos (decide_eq_true c.2), if_pos c, w64_id (n := k + 1) (by omega) (by omega), w64_succ hi (by omega), Int.toNat_natCast]
    · show l_heldByteS_L1 d k i = l_heldByteS_L1 _ _ _
      have c2 : (0 : Int) ≤ (i : Int) ∧ (i : Int) < (d.length : Int) := by omega
      rw [l_heldByteS_L1_eq, if_pos (decide_eq_true c2.2), if_pos c2, getD_nat hd, hdy, if_neg (by simp), w64_id (n := k + 1) (by omega) (by omega), w64_succ hd (by omega)]
  obtain ⟨k', l', e1, e2, e3, e4, e5⟩ := mark_rows (fun a k i => l_markByteS_L1 a k i) (fun a k i => l_heldByteS_L1 a k i) (fun _ => True) 1 2305843009213693952
    (fun a k => by show l_markByteS_L1 a k _ = _; rw [l_markByteS_L1_eq, if_neg (by simp)])
    (fun a k => by show l_heldByteS_L1 a k _ = _; rw [l_heldByteS_L1_eq, if_neg (by simp)])
    step l k (by omega) (fun _ _ => trivial) hk (by omega)
  exact ⟨k', l', e1, by rw [l_heldByteS_eq]; exact e2, e3, e4, by omega⟩
end Go.Proofs.YtonmohpdmhfjnaaGreatDoor.E.TM
