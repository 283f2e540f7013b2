/- The harness of the exact laws at Prog: sizes, copies, likeness, marks. Printed by wip/gen/harness.py. No condition but lengths. -/
import Derived.Test.YtonmohpdmhfjnaaGreatDoorPMHStr0
import Derived.Test.YtonmohpdmhfjnaaGreatDoorTMe1
import Derived.Test.YtonmohpdmhfjnaaGreatDoorTMe2
namespace Go.Proofs.YtonmohpdmhfjnaaGreatDoor.E.TM
open Go.Proofs.YtonmohpdmhfjnaaGreatDoor.E
set_option linter.unusedVariables false
def Gl_Op (M : Nat) (x : laws_Op) : Prop := x.S.length ≤ M
def Gi_Op (M : Nat) (x : impl_Op) : Prop := x.S.length ≤ M
def Gl_Prog (M : Nat) (x : laws_Prog) : Prop := (x.Vars.length ≤ M ∧ ∀ y ∈ x.Vars, y.length ≤ M) ∧ (x.Cells.length ≤ M ∧ ∀ y ∈ x.Cells, y.length ≤ M) ∧ (x.Start.length ≤ M ∧ ∀ y ∈ x.Start, Gl_Op M y) ∧ (x.Main.length ≤ M ∧ ∀ y ∈ x.Main, Gl_Op M y)
def Gi_Prog (M : Nat) (x : impl_Prog) : Prop := (x.Vars.length ≤ M ∧ ∀ y ∈ x.Vars, y.length ≤ M) ∧ (x.Cells.length ≤ M ∧ ∀ y ∈ x.Cells, y.length ≤ M) ∧ (x.Start.length ≤ M ∧ ∀ y ∈ x.Start, Gi_Op M y) ∧ (x.Main.length ≤ M ∧ ∀ y ∈ x.Main, Gi_Op M y)
theorem hf_Op {d : Nat} {x : laws_Op} (h : Fine (G := gam) (d + 3) (.nm 1) x) : Gl_Op 9223372036854775807 x := by
  have h' : _ ∧ _ ∧ (x.S.length ≤ 9223372036854775807 ∧ _) ∧ _ := h
  unfold Gl_Op
  exact h'.2.2.1.1
theorem hf_Prog {d : Nat} {x : laws_Prog} (h : Fine (G := gam) (d + 5) (.nm 0) x) : Gl_Prog 9223372036854775807 x := by
  have h' : (x.Vars.length ≤ 9223372036854775807 ∧ ∀ y ∈ x.Vars, (y.length ≤ 9223372036854775807 ∧ ∀ b ∈ y, 0 ≤ b ∧ b ≤ 255)) ∧ (x.Cells.length ≤ 9223372036854775807 ∧ ∀ y ∈ x.Cells, (y.length ≤ 9223372036854775807 ∧ ∀ b ∈ y, 0 ≤ b ∧ b ≤ 255)) ∧ (x.Start.length ≤ 9223372036854775807 ∧ ∀ y ∈ x.Start, Fine (G := gam) (d + 3) (.nm 1) y) ∧ (x.Main.length ≤ 9223372036854775807 ∧ ∀ y ∈ x.Main, Fine (G := gam) (d + 3) (.nm 1) y) ∧ _ := h
  unfold Gl_Prog
  exact ⟨⟨h'.1.1, fun y hy => (h'.1.2 y hy).1⟩, ⟨h'.2.1.1, fun y hy => (h'.2.1.2 y hy).1⟩, ⟨h'.2.2.1.1, fun y hy => hf_Op (d := d + 0) (h'.2.2.1.2 y hy)⟩, ⟨h'.2.2.2.1.1, fun y hy => hf_Op (d := d + 0) (h'.2.2.2.1.2 y hy)⟩⟩
theorem hsz_Op (x : laws_Op) (n : Int) (h : Gl_Op 9223372036854775807 x) (h0 : 0 ≤ n) (h1 : n ≤ 1048576) : ∃ r, l_szOp x n = some (r, ()) ∧ r ≤ 1048576 ∧ (0 ≤ r → Gl_Op 1048576 x) := by
  unfold Gl_Op at h
  rw [l_szOp_eq]
  have hl0 := h
  rw [w64_id (n := n - (x.S.length : Int)) (by omega) (by omega)]
  by_cases c0 : n - (x.S.length : Int) < 0
  · rw [if_pos (decide_eq_true c0)]; exact ⟨-1, rfl, by omega, fun h => by omega⟩
  rw [if_neg (by rw [decide_eq_true_eq]; exact c0)]
  exact ⟨_, rfl, by omega, fun _ => by unfold Gl_Op; exact by omega⟩
def hc_Op (x : laws_Op) : impl_Op := ⟨x.Code, x.N, x.S⟩
theorem hto_Op (x : laws_Op) (h : Gl_Op 1048576 x) : l_toOp x = some (hc_Op x, ()) := by
  unfold Gl_Op at h
  rw [l_toOp_eq]
  rfl
theorem hg_Op {x : laws_Op} {M : Nat} (h : Gl_Op M x) : Gi_Op M (hc_Op x) := by
  unfold Gl_Op at h
  unfold Gi_Op hc_Op
  exact h
theorem heq_Op (x : impl_Op) (h : Gi_Op 2097152 x) : l_eqOp x x = some (true, ()) := by
  unfold Gi_Op at h
  rw [l_eqOp_eq]
  simp
theorem hsz_OpS (l : List laws_Op) (n : Int) (h : l.length ≤ 9223372036854775807 ∧ ∀ x ∈ l, Gl_Op 9223372036854775807 x) (h0 : 0 ≤ n) (h1 : n ≤ 1048576) : ∃ r, l_szOpS l n = some (r, ()) ∧ r ≤ 1048576 ∧ (0 ≤ r → l.length ≤ 1048576 ∧ ∀ x ∈ l, Gl_Op 1048576 x) := by
  have hl := h.1
  rw [l_szOpS_eq, w64_id (n := n - (l.length : Int)) (by omega) (by omega)]
  by_cases c : n - (l.length : Int) < 0
  · rw [if_pos (decide_eq_true c)]; exact ⟨-1, rfl, by omega, fun h => by omega⟩
  · rw [if_neg (by rw [decide_eq_true_eq]; exact c)]
    obtain ⟨r, e1, e2, e3⟩ := sz_rows (fun k i => l_szOpS_L1 l k i) l_szOp l (Gl_Op 1048576) (by omega) (fun x hx k k0 k1 => hsz_Op x k (h.2 x hx) k0 k1)
      (fun k => by show l_szOpS_L1 l k _ = _; rw [l_szOpS_L1_eq, if_neg (by simp)])
      (fun k i hi => by show l_szOpS_L1 l k i = _; rw [l_szOpS_L1_eq, if_pos (decide_eq_true (by omega)), if_pos (by omega), getD_nat hi, w64_succ hi (by omega)]) (n - l.length) (by omega) (by omega)
    exact ⟨r, e1, e2, fun hr => ⟨by omega, e3 hr⟩⟩
theorem hto_OpS (l : List laws_Op) (h : l.length ≤ 1048576 ∧ ∀ x ∈ l, Gl_Op 1048576 x) : l_toOpS l = some (l.map hc_Op, ()) := by
  rw [l_toOpS_eq, if_pos (by have := h.1; rw [room_eq]; omega)]
  have := to_loop (fun acc i => l_toOpS_L1 l acc i) hc_Op l (fun acc i hi ha => by
    show l_toOpS_L1 l acc i = _
    have hl := h.1
    rw [l_toOpS_L1_eq, if_pos (decide_eq_true (by omega)), if_pos (by omega), getD_nat hi, hto_Op _ (h.2 _ (List.getElem_mem hi)), Option.bind_some, if_pos (by omega), w64_succ hi (by omega), Int.toNat_natCast]
    ) (fun acc ha => by
    show l_toOpS_L1 l acc _ = _
    rw [l_toOpS_L1_eq, if_neg (by simp)]) (List.replicate (List.length l : Int).toNat z_impl_Op) (by simp)
  exact this
theorem heq_OpS (l : List impl_Op) (h : l.length ≤ 2097152 ∧ ∀ x ∈ l, Gi_Op 2097152 x) : l_eqOpS l l = some (true, ()) := by
  have hl := h.1
  rw [l_eqOpS_eq, if_neg (by simp)]
  exact all_loop (fun i => l_eqOpS_L1 l l i) l _ (fun i hi => by
    show l_eqOpS_L1 l l i = _
    rw [l_eqOpS_L1_eq, if_pos (decide_eq_true (by omega)), if_pos (by omega), if_pos (by omega), getD_nat hi, heq_Op _ (h.2 _ (List.getElem_mem hi)), Option.bind_some, if_neg (by simp), w64_succ hi (by omega)]) (by
    show l_eqOpS_L1 l l _ = _
    rw [l_eqOpS_L1_eq, if_neg (by simp)])
theorem hsz_Prog (x : laws_Prog) (n : Int) (h : Gl_Prog 9223372036854775807 x) (h0 : 0 ≤ n) (h1 : n ≤ 1048576) : ∃ r, l_szProg x n = some (r, ()) ∧ r ≤ 1048576 ∧ (0 ≤ r → Gl_Prog 1048576 x) := by
  unfold Gl_Prog at h
  rw [l_szProg_eq]
  obtain ⟨r0, e0, f0, g0⟩ := hsz_StringS x.Vars n (h.1) (by omega) (by omega)
  rw [e0, Option.bind_some]
  dsimp only
  by_cases c0 : r0 < 0
  · rw [if_pos (decide_eq_true c0)]; exact ⟨-1, rfl, by omega, fun h => by omega⟩
  rw [if_neg (by rw [decide_eq_true_eq]; exact c0)]
  obtain ⟨r1, e1, f1, g1⟩ := hsz_StringS x.Cells r0 (h.2.1) (by omega) (by omega)
  rw [e1, Option.bind_some]
  dsimp only
  by_cases c1 : r1 < 0
  · rw [if_pos (decide_eq_true c1)]; exact ⟨-1, rfl, by omega, fun h => by omega⟩
  rw [if_neg (by rw [decide_eq_true_eq]; exact c1)]
  obtain ⟨r2, e2, f2, g2⟩ := hsz_OpS x.Start r1 (h.2.2.1) (by omega) (by omega)
  rw [e2, Option.bind_some]
  dsimp only
  by_cases c2 : r2 < 0
  · rw [if_pos (decide_eq_true c2)]; exact ⟨-1, rfl, by omega, fun h => by omega⟩
  rw [if_neg (by rw [decide_eq_true_eq]; exact c2)]
  obtain ⟨r3, e3, f3, g3⟩ := hsz_OpS x.Main r2 (h.2.2.2) (by omega) (by omega)
  rw [e3, Option.bind_some]
  dsimp only
  by_cases c3 : r3 < 0
  · rw [if_pos (decide_eq_true c3)]; exact ⟨-1, rfl, by omega, fun h => by omega⟩
  rw [if_neg (by rw [decide_eq_true_eq]; exact c3)]
  exact ⟨_, rfl, by omega, fun _ => by unfold Gl_Prog; exact ⟨g0 (by omega), g1 (by omega), g2 (by omega), g3 (by omega)⟩⟩
def hc_Prog (x : laws_Prog) : impl_Prog := ⟨x.Vars, x.Cells, (x.Start.map hc_Op), (x.Main.map hc_Op)⟩
theorem hto_Prog (x : laws_Prog) (h : Gl_Prog 1048576 x) : l_toProg x = some (hc_Prog x, ()) := by
  unfold Gl_Prog at h
  rw [l_toProg_eq]
  rw [hto_StringS _ (h.1), Option.bind_some]
  rw [hto_StringS _ (h.2.1), Option.bind_some]
  rw [hto_OpS _ (h.2.2.1), Option.bind_some]
  rw [hto_OpS _ (h.2.2.2), Option.bind_some]
  rfl
theorem hg_Prog {x : laws_Prog} {M : Nat} (h : Gl_Prog M x) : Gi_Prog M (hc_Prog x) := by
  unfold Gl_Prog at h
  unfold Gi_Prog hc_Prog
  exact ⟨h.1, h.2.1, ⟨by rw [List.length_map]; exact (h.2.2.1).1, fun y hy => by obtain ⟨x', hx', rfl⟩ := List.mem_map.1 hy; exact hg_Op ((h.2.2.1).2 x' hx')⟩, ⟨by rw [List.length_map]; exact (h.2.2.2).1, fun y hy => by obtain ⟨x', hx', rfl⟩ := List.mem_map.1 hy; exact hg_Op ((h.2.2.2).2 x' hx')⟩⟩
theorem heq_Prog (x : impl_Prog) (h : Gi_Prog 2097152 x) : l_eqProg x x = some (true, ()) := by
  unfold Gi_Prog at h
  rw [l_eqProg_eq]
  rw [heq_StringS _ (h.1), heq_StringS _ (h.2.1), heq_OpS _ (h.2.2.1), heq_OpS _ (h.2.2.2)]
  simp
end Go.Proofs.YtonmohpdmhfjnaaGreatDoor.E.TM
