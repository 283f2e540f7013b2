/- Values, states, programs, machines: what is right for the program is right for the reference. No condition but lengths and bytes. -/
import Derived.Test.YtonmohpdmhfjnaaGreatDoorPMOpOk
import Derived.Test.YtonmohpdmhfjnaaGreatDoorPMRead
import Derived.Test.YtonmohpdmhfjnaaGreatDoorTMe1
import Derived.Test.YtonmohpdmhfjnaaGreatDoorTMe2
namespace Go.Proofs.YtonmohpdmhfjnaaGreatDoor.E.TM
open Go.Proofs.YtonmohpdmhfjnaaGreatDoor.E
set_option linter.unusedVariables false
noncomputable def looksV (s : List Int) : Int × Bool := match s_DecLooks s with
  | some (v, ok, _) => (v, ok)
  | none => (0, false)
theorem looks_ok (s : List Int) (hs : s.length ≤ 1000000) (hb : Bt s) : s_DecLooks s = some ((looksV s).1, (looksV s).2, ()) ∧ i_DecLooks s = some ((looksV s).1, (looksV s).2, ()) := by
  obtain ⟨v, ok, e1, e2, _⟩ := decLooks_same s hs hb
  have : looksV s = (v, ok) := by unfold looksV; rw [e1]
  rw [this]; exact ⟨e1, e2⟩
noncomputable def valB (v : impl_Val) : Bool := (decide (-9000000000000 ≤ v.N ∧ v.N ≤ 9000000000000) && !decide ((v.S.length : Int) > 300)) &&
  (if v.Kind = 0 then decide (v.N = 0) && decide (v.S = []) else if v.Kind = 1 then decide (v.S = []) else if v.Kind = 2 then decide (v.N = 0) else if v.Kind = 3 then (looksV v.S).2 && decide ((looksV v.S).1 = v.N) else false)
theorem i_ValOk_ok (v : impl_Val) (hb : Bt v.S) : i_ValOk v = some (valB v, ()) := by
  rw [i_ValOk_eq, i_DecOk_val, Option.bind_some]
  dsimp only
  unfold valB
  cases decide (-9000000000000 ≤ v.N ∧ v.N ≤ 9000000000000) with
  | false => rfl
  | true =>
    by_cases h : (v.S.length : Int) > 300
    · rw [decide_eq_true h]; rfl
    · rw [decide_eq_false h, (looks_ok v.S (by omega) hb).2, Option.bind_some]
      dsimp only
      simp only [ite_and]
      by_cases c0 : v.Kind = 0
      · simp [c0]
      by_cases c1 : v.Kind = 1
      · simp [c1]
      by_cases c2 : v.Kind = 2
      · simp [c2]
      by_cases c3 : v.Kind = 3
      · simp [c3]
      simp [c0, c1, c2, c3]
theorem s_ValOk_ok (v : impl_Val) (hb : Bt v.S) : s_ValOk v = some (valB v, ()) := by
  rw [s_ValOk_eq, s_DecOk_ok, s_l1In_ok, Option.bind_some, Option.bind_some]
  dsimp only
  unfold valB
  by_cases hk : 0 ≤ v.Kind ∧ v.Kind ≤ 3
  · rw [decide_eq_true hk]
    cases decide (-9000000000000 ≤ v.N ∧ v.N ≤ 9000000000000) with
    | false => rfl
    | true =>
      by_cases h : (v.S.length : Int) > 300
      · rw [decide_eq_true h]; rfl
      · rw [decide_eq_false h, (looks_ok v.S (by omega) hb).1, Option.bind_some]
        dsimp only
        simp only [ite_and]
        by_cases c0 : v.Kind = 0
        · simp [c0]
        by_cases c1 : v.Kind = 1
        · simp [c1]
        by_cases c2 : v.Kind = 2
        · simp [c2]
        have c3 : v.Kind = 3 := by omega
        simp [c3]
  · rw [decide_eq_false hk, if_pos (c := (!false) = true) rfl, if_neg (c := v.Kind = 0) (by omega), if_neg (c := v.Kind = 1) (by omega), if_neg (c := v.Kind = 2) (by omega), if_neg (c := v.Kind = 3) (by omega), Bool.and_false]
def cellLess (a b : impl_Cell) : Bool := decide (a.Name < b.Name) || (decide (a.Name = b.Name) && ltS a.Key b.Key)
theorem s_l11Less_ok (a : impl_Cell) (n : Int) (k : List Int) : s_l11Less a n k = some (decide (a.Name < n) || (decide (a.Name = n) && ltS a.Key k), ()) := by
  rw [s_l11Less_eq]
  cases decide (a.Name < n) <;> cases decide (a.Name = n) <;> rfl
theorem strCompare_ok (a b : List Int) : x_strings_Compare a b = some (cmpI a b, ()) := by
  rw [x_strings_Compare_eq, x_internal_bytealg_CompareString_eq, x_internal_bytealg_abigen_runtime_cmpstring_eq]; rfl
theorem cmp_ge (a b : List Int) : decide (cmpI a b ≥ 0) = !ltS a b := by
  unfold cmpI
  cases ltS a b with
  | true => rfl
  | false => cases ltS b a <;> rfl
theorem i_cellBefore_ok (a b : impl_Cell) : ∃ k, i_cellBefore a b = some (k, ()) ∧ decide (k ≥ 0) = !cellLess a b := by
  rw [i_cellBefore_eq, strCompare_ok, Option.bind_some]
  unfold cellLess
  by_cases h : a.Name < b.Name
  · rw [if_pos (decide_eq_true h), decide_eq_true h]; exact ⟨_, rfl, rfl⟩
  · rw [if_neg (by rw [decide_eq_true_eq]; exact h), decide_eq_false h]
    by_cases g : a.Name > b.Name
    · rw [if_pos (decide_eq_true g), decide_eq_false (by omega)]; exact ⟨_, rfl, rfl⟩
    · rw [if_neg (by rw [decide_eq_true_eq]; exact g), decide_eq_true (by omega)]
      refine ⟨_, rfl, ?_⟩
      rw [cmp_ge]; rfl
noncomputable def cellBad (l : List impl_Cell) (c : Int) (i : Nat) : Bool :=
  decide ((l.getD i z_impl_Cell).Name < 0) || (decide ((l.getD i z_impl_Cell).Name ≥ c) || (decide (((l.getD i z_impl_Cell).Key.length : Int) > 300) || (!valB (l.getD i z_impl_Cell).Val || (decide ((i : Int) > 0) && !cellLess (l.getD (i - 1) z_impl_Cell) (l.getD i z_impl_Cell)))))
noncomputable def stateB (s : impl_State) (v c : Int) : Bool :=
  decide ((s.Vars.length : Int) = v) && (!s.Vars.any (fun x => !valB x) && (decide ((s.Cells.length : Int) ≤ 40) && (decide (0 ≤ s.Nr ∧ s.Nr ≤ 1000000) && (decide (0 ≤ s.Err ∧ s.Err ≤ 7) && !anyB (cellBad s.Cells c) s.Cells.length))))
def BState (s : impl_State) : Prop := (s.Vars.length ≤ 2097152 ∧ ∀ v ∈ s.Vars, Bt v.S) ∧ s.Cells.length ≤ 2097152 ∧ ∀ c ∈ s.Cells, Bt c.Val.S
theorem anyVals_ok (l : List impl_Val) (hl : l.length ≤ 4294967296) (hb : ∀ v ∈ l, Bt v.S) : x_slices_ContainsFunc_impl_Val_StateOk_1 l = some (l.any (fun x => !valB x), ()) := by
  rw [x_slices_ContainsFunc_impl_Val_StateOk_1_eq, x_slices_IndexFunc_impl_Val_StateOk_1_eq]
  obtain ⟨k, e, e1, _⟩ := index_loop (fun i => x_slices_IndexFunc_impl_Val_StateOk_1_L1 l (l.length : Int) i) () l.length (fun i => !valB (l.getD i z_impl_Val)) (fun i hi => by
    show x_slices_IndexFunc_impl_Val_StateOk_1_L1 l _ i = _
    rw [x_slices_IndexFunc_impl_Val_StateOk_1_L1_eq, if_pos (decide_eq_true (by omega)), if_pos (by omega), w64_succ hi (by omega), Int.toNat_natCast, i_StateOk_1_eq, i_ValOk_ok _ (by rw [getD_lt hi]; exact hb _ (List.getElem_mem hi)), Option.bind_some, Option.bind_some]) (by
    show x_slices_IndexFunc_impl_Val_StateOk_1_L1 l _ _ = _
    rw [x_slices_IndexFunc_impl_Val_StateOk_1_L1_eq, if_neg (by simp)])
  rw [e, Option.bind_some]
  dsimp only
  rw [e1, anyB_list l z_impl_Val (fun x => !valB x)]
theorem i_cells_ok (s : impl_State) (c : Int) (hl : s.Cells.length ≤ 4294967296) (hb : ∀ x ∈ s.Cells, Bt x.Val.S) : i_StateOk_L1 c s.Cells (s.Cells.length : Int) 0 s = some (!anyB (cellBad s.Cells c) s.Cells.length, ()) := by
  have := find_loopN (fun i => i_StateOk_L1 c s.Cells (s.Cells.length : Int) i s) s.Cells.length (cellBad s.Cells c) (some (false, ())) (some (true, ())) (fun i hi => by
    show i_StateOk_L1 c s.Cells _ i s = _
    obtain ⟨k, e, e1⟩ := i_cellBefore_ok (s.Cells.getD (i - 1) z_impl_Cell) (s.Cells.getD i z_impl_Cell)
    rw [i_StateOk_L1_eq, if_pos (decide_eq_true (by omega)), if_pos (by omega), w64_succ hi (by omega), Int.toNat_natCast, i_ValOk_ok _ (by rw [getD_lt hi]; exact hb _ (List.getElem_mem hi)), Option.bind_some]
    dsimp only
    unfold cellBad
    by_cases h0 : (i : Int) > 0
    · have w1 : w64 ((i : Int) - 1) = ((i - 1 : Nat) : Int) := by rw [w64_id (by omega) (by omega)]; omega
      rw [decide_eq_true h0, w1, Int.toNat_natCast, if_pos (c := (true = true)) rfl, if_pos (c := 0 ≤ ((i - 1 : Nat) : Int) ∧ ((i - 1 : Nat) : Int) < (s.Cells.length : Int)) (by omega), e, Option.bind_some]
      dsimp only
      rw [e1]
      cases decide ((s.Cells.getD i z_impl_Cell).Name < 0) <;> cases decide ((s.Cells.getD i z_impl_Cell).Name ≥ c) <;> cases decide (((s.Cells.getD i z_impl_Cell).Key.length : Int) > 300) <;> cases valB (s.Cells.getD i z_impl_Cell).Val <;> rfl
    · rw [decide_eq_false h0, if_neg (c := (false = true)) (by simp)]
      cases decide ((s.Cells.getD i z_impl_Cell).Name < 0) <;> cases decide ((s.Cells.getD i z_impl_Cell).Name ≥ c) <;> cases decide (((s.Cells.getD i z_impl_Cell).Key.length : Int) > 300) <;> cases valB (s.Cells.getD i z_impl_Cell).Val <;> rfl) (by
    show i_StateOk_L1 c s.Cells _ _ s = _
    rw [i_StateOk_L1_eq, if_neg (by simp)])
  rw [this]
  cases anyB (cellBad s.Cells c) s.Cells.length <;> rfl
theorem i_StateOk_ok (s : impl_State) (v c : Int) (h : BState s) : i_StateOk s v c = some (stateB s v c, ()) := by
  rw [i_StateOk_eq, anyVals_ok s.Vars (by have := h.1.1; omega) h.1.2, i_in_ok, i_in_ok, i_cells_ok s c (by have := h.2.1; omega) h.2.2]
  simp only [Option.bind_some]
  have e : decide ((s.Cells.length : Int) > 40) = !decide ((s.Cells.length : Int) ≤ 40) := by
    by_cases g : (s.Cells.length : Int) ≤ 40
    · rw [decide_eq_true g, decide_eq_false (by omega)]; rfl
    · rw [decide_eq_false g, decide_eq_true (by omega)]; rfl
  unfold stateB
  rw [e]
  cases decide ((s.Vars.length : Int) = v) <;> cases s.Vars.any (fun x => !valB x) <;> cases decide ((s.Cells.length : Int) ≤ 40) <;> cases decide (0 ≤ s.Nr ∧ s.Nr ≤ 1000000) <;> cases decide (0 ≤ s.Err ∧ s.Err ≤ 7) <;> rfl
theorem s_StateOk_ok (s : impl_State) (v c : Int) (h : BState s) : s_StateOk s v c = some (stateB s v c, ()) := by
  have h1 := h.1.1
  have h2 := h.2.1
  rw [s_StateOk_eq]
  have f2 := find_loopN (fun i => s_StateOk_L2 v c i s) s.Cells.length (cellBad s.Cells c) (some (false, ())) (some (decide ((s.Vars.length : Int) = v) && (decide ((s.Cells.length : Int) ≤ 40) && (decide (0 ≤ s.Nr ∧ s.Nr ≤ 1000000) && decide (0 ≤ s.Err ∧ s.Err ≤ 7))), ())) (fun i hi => by
    show s_StateOk_L2 v c i s = _
    rw [s_StateOk_L2_eq, if_pos (decide_eq_true (by omega)), if_pos (by omega), w64_succ hi (by omega), Int.toNat_natCast, s_ValOk_ok _ (by rw [getD_lt hi]; exact h.2.2 _ (List.getElem_mem hi)), Option.bind_some]
    dsimp only
    unfold cellBad
    by_cases h0 : (i : Int) > 0
    · have w1 : w64 ((i : Int) - 1) = ((i - 1 : Nat) : Int) := by rw [w64_id (by omega) (by omega)]; omega
      rw [decide_eq_true h0, w1, Int.toNat_natCast, if_pos (c := (true = true)) rfl, if_pos (c := 0 ≤ ((i - 1 : Nat) : Int) ∧ ((i - 1 : Nat) : Int) < (s.Cells.length : Int)) (by omega), s_l11Less_ok, Option.bind_some]
      dsimp only
      unfold cellLess
      cases decide ((s.Cells.getD i z_impl_Cell).Name < 0) <;> cases decide ((s.Cells.getD i z_impl_Cell).Name ≥ c) <;> cases decide (((s.Cells.getD i z_impl_Cell).Key.length : Int) > 300) <;> cases valB (s.Cells.getD i z_impl_Cell).Val <;> rfl
    · rw [decide_eq_false h0, if_neg (c := (false = true)) (by simp)]
      cases decide ((s.Cells.getD i z_impl_Cell).Name < 0) <;> cases decide ((s.Cells.getD i z_impl_Cell).Name ≥ c) <;> cases decide (((s.Cells.getD i z_impl_Cell).Key.length : Int) > 300) <;> cases valB (s.Cells.getD i z_impl_Cell).Val <;> rfl) (by
    show s_StateOk_L2 v c _ s = _
    rw [s_StateOk_L2_eq, if_neg (by simp), s_l1In_ok, s_l1In_ok, Option.bind_some, Option.bind_some]
    dsimp only
    cases decide ((s.Vars.length : Int) = v) <;> cases decide ((s.Cells.length : Int) ≤ 40) <;> cases decide (0 ≤ s.Nr ∧ s.Nr ≤ 1000000) <;> rfl)
  have f1 := find_loopN (fun i => s_StateOk_L1 v c i s) s.Vars.length (fun i => !valB (s.Vars.getD i z_impl_Val)) (some (false, ())) (s_StateOk_L2 v c 0 s) (fun i hi => by
    show s_StateOk_L1 v c i s = _
    rw [s_StateOk_L1_eq, if_pos (decide_eq_true (by omega)), if_pos (by omega), w64_succ hi (by omega), Int.toNat_natCast, s_ValOk_ok _ (by rw [getD_lt hi]; exact h.1.2 _ (List.getElem_mem hi)), Option.bind_some]) (by
    show s_StateOk_L1 v c _ s = _
    rw [s_StateOk_L1_eq, if_neg (by simp)])
  rw [f1, f2, anyB_list s.Vars z_impl_Val (fun x => !valB x)]
  unfold stateB
  cases decide ((s.Vars.length : Int) = v) <;> cases s.Vars.any (fun x => !valB x) <;> cases decide ((s.Cells.length : Int) ≤ 40) <;> cases decide (0 ≤ s.Nr ∧ s.Nr ≤ 1000000) <;> cases decide (0 ≤ s.Err ∧ s.Err ≤ 7) <;> cases anyB (cellBad s.Cells c) s.Cells.length <;> rfl
def BOps (l : List impl_Op) : Prop := l.length ≤ 2097152 ∧ ∀ o ∈ l, (∀ b ∈ o.S, 0 ≤ b ∧ b ≤ 255) ∧ o.S.length ≤ 2097152
def BProg (p : impl_Prog) : Prop := (p.Vars.length ≤ 2097152 ∧ ∀ s ∈ p.Vars, s.length ≤ 2097152) ∧ (p.Cells.length ≤ 2097152 ∧ ∀ s ∈ p.Cells, s.length ≤ 2097152) ∧ BOps p.Start ∧ BOps p.Main
noncomputable def opsB (l : List impl_Op) (v c : Int) : Bool :=
  decide (1 ≤ (l.length : Int) ∧ (l.length : Int) ≤ 1500) && (decide ((l.getD (l.length - 1) z_impl_Op).Code = 36) && !l.any (fun o => !opB o l.length v c))
theorem s_OpsOk_ok (l : List impl_Op) (v c : Int) (h : BOps l) : s_OpsOk l v c = some (opsB l v c, ()) := by
  have h1 := h.1
  rw [s_OpsOk_eq, s_l1In_ok, Option.bind_some]
  dsimp only
  unfold opsB
  by_cases g : 1 ≤ (l.length : Int) ∧ (l.length : Int) ≤ 1500
  · have w1 : w64 ((l.length : Int) - 1) = ((l.length - 1 : Nat) : Int) := by rw [w64_id (by omega) (by omega)]; omega
    have f := find_loopN (fun i => s_OpsOk_L1 l v c (l.length : Int) i) l.length (fun i => !opB (l.getD i z_impl_Op) l.length v c) (some (false, ())) (some (true, ())) (fun i hi => by
      show s_OpsOk_L1 l v c _ i = _
      rw [s_OpsOk_L1_eq, if_pos (decide_eq_true (by omega)), if_pos (by omega), w64_succ hi (by omega), Int.toNat_natCast, s_l13Op_ok _ _ _ _ (by rw [getD_lt hi]; exact (h.2 _ (List.getElem_mem hi)).1) (by rw [getD_lt hi]; have := (h.2 _ (List.getElem_mem hi)).2; omega), Option.bind_some]) (by
      show s_OpsOk_L1 l v c _ _ = _
      rw [s_OpsOk_L1_eq, if_neg (by simp)])
    rw [decide_eq_true g, if_neg (by simp), w1, if_pos (by omega), Int.toNat_natCast, f, anyB_list l z_impl_Op (fun o => !opB o l.length v c)]
    cases decide ((l.getD (l.length - 1) z_impl_Op).Code = 36) <;> cases l.any (fun o => !opB o l.length v c) <;> rfl
  · rw [decide_eq_false g]; rfl
theorem anyOps_ok (l : List impl_Op) (v c : Int) (h : BOps l) : x_slices_ContainsFunc_impl_Op_OpsOk_1 l l v c = some (l.any (fun o => !opB o l.length v c), l, v, c, ()) := by
  have h1 := h.1
  rw [x_slices_ContainsFunc_impl_Op_OpsOk_1_eq, x_slices_IndexFunc_impl_Op_OpsOk_1_eq]
  obtain ⟨k, e, e1, _⟩ := index_loop (fun i => x_slices_IndexFunc_impl_Op_OpsOk_1_L1 l (l.length : Int) i l v c) (l, v, c, ()) l.length (fun i => !opB (l.getD i z_impl_Op) l.length v c) (fun i hi => by
    show x_slices_IndexFunc_impl_Op_OpsOk_1_L1 l _ i l v c = _
    rw [x_slices_IndexFunc_impl_Op_OpsOk_1_L1_eq, if_pos (decide_eq_true (by omega)), if_pos (by omega), w64_succ hi (by omega), Int.toNat_natCast, i_OpsOk_1_eq, i_opRight_ok _ _ _ _ (by rw [getD_lt hi]; exact (h.2 _ (List.getElem_mem hi)).1) (by rw [getD_lt hi]; have := (h.2 _ (List.getElem_mem hi)).2; omega), Option.bind_some, Option.bind_some]) (by
    show x_slices_IndexFunc_impl_Op_OpsOk_1_L1 l _ _ l v c = _
    rw [x_slices_IndexFunc_impl_Op_OpsOk_1_L1_eq, if_neg (by simp)])
  rw [e, Option.bind_some]
  dsimp only
  rw [e1, anyB_list l z_impl_Op (fun o => !opB o l.length v c)]
theorem i_OpsOk_ok (l : List impl_Op) (v c : Int) (h : BOps l) : i_OpsOk l v c = some (opsB l v c, ()) := by
  have h1 := h.1
  rw [i_OpsOk_eq, i_in_ok, Option.bind_some]
  dsimp only
  unfold opsB
  by_cases g : 1 ≤ (l.length : Int) ∧ (l.length : Int) ≤ 1500
  · have w1 : w64 ((l.length : Int) - 1) = ((l.length - 1 : Nat) : Int) := by rw [w64_id (by omega) (by omega)]; omega
    rw [decide_eq_true g, if_neg (by simp), w1, if_pos (by omega), Int.toNat_natCast, anyOps_ok l v c h, Option.bind_some]
    cases decide ((l.getD (l.length - 1) z_impl_Op).Code = 36) <;> rfl
  · rw [decide_eq_false g]; rfl
def nameBad (l : List (List Int)) (i : Nat) : Bool := !nameB (l.getD i []) || (decide ((i : Int) > 0) && !ltS (l.getD (i - 1) []) (l.getD i []))
def namesB (l : List (List Int)) : Bool := !anyB (nameBad l) l.length && decide ((l.length : Int) ≤ 8)
theorem i_namesOk_ok (l : List (List Int)) (hl : l.length ≤ 2097152) (hs : ∀ s ∈ l, s.length ≤ 2097152) : i_namesOk l = some (namesB l, ()) := by
  rw [i_namesOk_eq]
  have f := find_loopN (fun i => i_namesOk_L1 l l (l.length : Int) i) l.length (nameBad l) (some (false, ())) (some (decide ((l.length : Int) ≤ 8), ())) (fun i hi => by
    show i_namesOk_L1 l l _ i = _
    rw [i_namesOk_L1_eq, if_pos (decide_eq_true (by omega)), if_pos (by omega), w64_succ hi (by omega), Int.toNat_natCast, i_isName_ok _ (by rw [getD_lt hi]; have := hs _ (List.getElem_mem hi); omega), Option.bind_some]
    dsimp only
    unfold nameBad
    by_cases h0 : (i : Int) > 0
    · have w1 : w64 ((i : Int) - 1) = ((i - 1 : Nat) : Int) := by rw [w64_id (by omega) (by omega)]; omega
      rw [decide_eq_true h0, w1, Int.toNat_natCast, if_pos (c := (true = true)) rfl, if_pos (c := 0 ≤ ((i - 1 : Nat) : Int) ∧ ((i - 1 : Nat) : Int) < (l.length : Int)) (by omega)]
      cases nameB (l.getD i []) <;> rfl
    · rw [decide_eq_false h0, if_neg (c := (false = true)) (by simp)]
      cases nameB (l.getD i []) <;> rfl) (by
    show i_namesOk_L1 l l _ _ = _
    rw [i_namesOk_L1_eq, if_neg (by simp)])
  rw [f]
  unfold namesB
  cases anyB (nameBad l) l.length <;> rfl
noncomputable def progB (p : impl_Prog) : Bool :=
  namesB p.Vars && (namesB p.Cells && (!p.Vars.any (fun s => decide (s ∈ p.Cells)) && (opsB p.Start p.Vars.length p.Cells.length && opsB p.Main p.Vars.length p.Cells.length)))
theorem anyNames_ok (p : impl_Prog) (h : BProg p) : x_slices_ContainsFunc_string_ProgOk_1 p.Vars p = some (p.Vars.any (fun s => decide (s ∈ p.Cells)), p, ()) := by
  have h1 := h.1.1
  have h2 := h.2.1.1
  rw [x_slices_ContainsFunc_string_ProgOk_1_eq, x_slices_IndexFunc_string_ProgOk_1_eq]
  obtain ⟨k, e, e1, _⟩ := index_loop (fun i => x_slices_IndexFunc_string_ProgOk_1_L1 p.Vars (p.Vars.length : Int) i p) (p, ()) p.Vars.length (fun i => decide (p.Vars.getD i [] ∈ p.Cells)) (fun i hi => by
    show x_slices_IndexFunc_string_ProgOk_1_L1 p.Vars _ i p = _
    rw [x_slices_IndexFunc_string_ProgOk_1_L1_eq, if_pos (decide_eq_true (by omega)), if_pos (by omega), w64_succ hi (by omega), Int.toNat_natCast, i_ProgOk_1_eq, containsS_ok _ _ (by omega), Option.bind_some, Option.bind_some]) (by
    show x_slices_IndexFunc_string_ProgOk_1_L1 p.Vars _ _ p = _
    rw [x_slices_IndexFunc_string_ProgOk_1_L1_eq, if_neg (by simp)])
  rw [e, Option.bind_some]
  dsimp only
  rw [e1, anyB_list p.Vars [] (fun s => decide (s ∈ p.Cells))]
theorem i_ProgOk_ok (p : impl_Prog) (h : BProg p) : i_ProgOk p = some (progB p, ()) := by
  rw [i_ProgOk_eq, i_namesOk_ok _ h.1.1 h.1.2, i_namesOk_ok _ h.2.1.1 h.2.1.2, anyNames_ok p h]
  simp only [Option.bind_some]
  rw [i_OpsOk_ok _ _ _ h.2.2.1, i_OpsOk_ok _ _ _ h.2.2.2]
  unfold progB
  cases namesB p.Vars <;> cases namesB p.Cells <;> cases p.Vars.any (fun s => decide (s ∈ p.Cells)) <;> cases opsB p.Start p.Vars.length p.Cells.length <;> rfl
theorem s_ProgOk_ok (p : impl_Prog) (h : BProg p) : s_ProgOk p = some (progB p, ()) := by
  have h1 := h.1.1
  have h2 := h.2.1.1
  rw [s_ProgOk_eq]
  have f2 := find_loopN (fun i => s_ProgOk_L2 i p) p.Cells.length (nameBad p.Cells) (some (false, ())) (some (decide ((p.Vars.length : Int) ≤ 8) && (decide ((p.Cells.length : Int) ≤ 8) && (opsB p.Start p.Vars.length p.Cells.length && opsB p.Main p.Vars.length p.Cells.length)), ())) (fun i hi => by
    show s_ProgOk_L2 i p = _
    rw [s_ProgOk_L2_eq, if_pos (decide_eq_true (by omega)), if_pos (by omega), w64_succ hi (by omega), Int.toNat_natCast, s_l9Name_ok _ (by rw [getD_lt hi]; have := h.2.1.2 _ (List.getElem_mem hi); omega), Option.bind_some]
    dsimp only
    unfold nameBad
    by_cases h0 : (i : Int) > 0
    · have w1 : w64 ((i : Int) - 1) = ((i - 1 : Nat) : Int) := by rw [w64_id (by omega) (by omega)]; omega
      rw [decide_eq_true h0, w1, Int.toNat_natCast, if_pos (c := (true = true)) rfl, if_pos (c := 0 ≤ ((i - 1 : Nat) : Int) ∧ ((i - 1 : Nat) : Int) < (p.Cells.length : Int)) (by omega), if_pos (c := 0 ≤ (i : Int) ∧ (i : Int) < (p.Cells.length : Int)) (by omega)]
      cases nameB (p.Cells.getD i []) <;> rfl
    · rw [decide_eq_false h0, if_neg (c := (false = true)) (by simp)]
      cases nameB (p.Cells.getD i []) <;> rfl) (by
    show s_ProgOk_L2 _ p = _
    rw [s_ProgOk_L2_eq, if_neg (by simp), s_OpsOk_ok _ _ _ h.2.2.1, s_OpsOk_ok _ _ _ h.2.2.2, Option.bind_some, Option.bind_some]
    cases decide ((p.Vars.length : Int) ≤ 8) <;> cases decide ((p.Cells.length : Int) ≤ 8) <;> cases opsB p.Start p.Vars.length p.Cells.length <;> rfl)
  have f1 := find_loopN (fun i => s_ProgOk_L1 i p) p.Vars.length (fun i => nameBad p.Vars i || decide (p.Vars.getD i [] ∈ p.Cells)) (some (false, ())) (s_ProgOk_L2 0 p) (fun i hi => by
    show s_ProgOk_L1 i p = _
    rw [s_ProgOk_L1_eq, if_pos (decide_eq_true (by omega)), if_pos (by omega), w64_succ hi (by omega), Int.toNat_natCast, s_l9Name_ok _ (by rw [getD_lt hi]; have := h.1.2 _ (List.getElem_mem hi); omega), Option.bind_some, within_ok _ _ (by omega), Option.bind_some]
    dsimp only
    rw [if_pos (c := 0 ≤ (i : Int) ∧ (i : Int) < (p.Vars.length : Int)) (by omega)]
    unfold nameBad
    by_cases h0 : (i : Int) > 0
    · have w1 : w64 ((i : Int) - 1) = ((i - 1 : Nat) : Int) := by rw [w64_id (by omega) (by omega)]; omega
      rw [decide_eq_true h0, w1, Int.toNat_natCast, if_pos (c := (true = true)) rfl, if_pos (c := 0 ≤ ((i - 1 : Nat) : Int) ∧ ((i - 1 : Nat) : Int) < (p.Vars.length : Int)) (by omega), if_pos (c := 0 ≤ (i : Int) ∧ (i : Int) < (p.Vars.length : Int)) (by omega)]
      cases nameB (p.Vars.getD i []) <;> cases decide (p.Vars.getD i [] ∈ p.Cells) <;> cases ltS (p.Vars.getD (i - 1) []) (p.Vars.getD i []) <;> rfl
    · rw [decide_eq_false h0, if_neg (c := (false = true)) (by simp)]
      cases nameB (p.Vars.getD i []) <;> cases decide (p.Vars.getD i [] ∈ p.Cells) <;> rfl) (by
    show s_ProgOk_L1 _ p = _
    rw [s_ProgOk_L1_eq, if_neg (by simp)])
  rw [f1, f2, anyB_or (nameBad p.Vars) (fun i => decide (p.Vars.getD i [] ∈ p.Cells)), anyB_list p.Vars [] (fun s => decide (s ∈ p.Cells))]
  unfold progB namesB
  cases anyB (nameBad p.Vars) p.Vars.length <;> cases anyB (nameBad p.Cells) p.Cells.length <;> cases p.Vars.any (fun s => decide (s ∈ p.Cells)) <;> cases decide ((p.Vars.length : Int) ≤ 8) <;> cases decide ((p.Cells.length : Int) ≤ 8) <;> rfl
noncomputable def machB (p : impl_Prog) (m : impl_Mach) : Bool :=
  progB p && (stateB m.State p.Vars.length p.Cells.length && (decide ((m.Done.length : Int) = 3) && (!m.Done.any (fun n => !decide (0 ≤ n ∧ n ≤ 100000)) && decide ((m.Out.length : Int) ≤ 1500))))
theorem anyDone_ok (l : List Int) (hl : l.length ≤ 2097152) : x_slices_ContainsFunc_int_MachOk_1 l = some (l.any (fun n => !decide (0 ≤ n ∧ n ≤ 100000)), ()) := by
  rw [x_slices_ContainsFunc_int_MachOk_1_eq, x_slices_IndexFunc_int_MachOk_1_eq]
  obtain ⟨k, e, e1, _⟩ := index_loop (fun i => x_slices_IndexFunc_int_MachOk_1_L1 l (l.length : Int) i) () l.length (fun i => !decide (0 ≤ l.getD i 0 ∧ l.getD i 0 ≤ 100000)) (fun i hi => by
    show x_slices_IndexFunc_int_MachOk_1_L1 l _ i = _
    rw [x_slices_IndexFunc_int_MachOk_1_L1_eq, if_pos (decide_eq_true (by omega)), if_pos (by omega), w64_succ hi (by omega), Int.toNat_natCast, i_MachOk_1_eq, i_in_ok, Option.bind_some, Option.bind_some]) (by
    show x_slices_IndexFunc_int_MachOk_1_L1 l _ _ = _
    rw [x_slices_IndexFunc_int_MachOk_1_L1_eq, if_neg (by simp)])
  rw [e, Option.bind_some]
  dsimp only
  rw [e1, anyB_list l 0 (fun n => !decide (0 ≤ n ∧ n ≤ 100000))]
theorem i_MachOk_ok (p : impl_Prog) (m : impl_Mach) (hp : BProg p) (hs : BState m.State) (hd : m.Done.length ≤ 2097152) : i_MachOk p m = some (machB p m, ()) := by
  rw [i_MachOk_eq, i_ProgOk_ok p hp, i_StateOk_ok _ _ _ hs, anyDone_ok _ hd]
  simp only [Option.bind_some]
  unfold machB
  cases progB p <;> cases stateB m.State p.Vars.length p.Cells.length <;> cases decide ((m.Done.length : Int) = 3) <;> cases m.Done.any (fun n => !decide (0 ≤ n ∧ n ≤ 100000)) <;> rfl
theorem s_MachOk_ok (p : impl_Prog) (m : impl_Mach) (hp : BProg p) (hs : BState m.State) (hd : m.Done.length ≤ 2097152) : s_MachOk p m = some (machB p m, ()) := by
  rw [s_MachOk_eq]
  have f := find_loopN (fun i => s_MachOk_L1 i p m) m.Done.length (fun i => !decide (0 ≤ m.Done.getD i 0 ∧ m.Done.getD i 0 ≤ 100000)) (some (false, ())) (some (progB p && (stateB m.State p.Vars.length p.Cells.length && (decide ((m.Done.length : Int) = 3) && decide ((m.Out.length : Int) ≤ 1500))), ())) (fun i hi => by
    show s_MachOk_L1 i p m = _
    rw [s_MachOk_L1_eq, if_pos (decide_eq_true (by omega)), if_pos (by omega), w64_succ hi (by omega), Int.toNat_natCast, s_l1In_ok, Option.bind_some]) (by
    show s_MachOk_L1 _ p m = _
    rw [s_MachOk_L1_eq, if_neg (by simp), s_ProgOk_ok p hp, s_StateOk_ok _ _ _ hs, Option.bind_some, Option.bind_some]
    cases progB p <;> cases stateB m.State p.Vars.length p.Cells.length <;> cases decide ((m.Done.length : Int) = 3) <;> rfl)
  rw [f, anyB_list m.Done 0 (fun n => !decide (0 ≤ n ∧ n ≤ 100000))]
  unfold machB
  cases progB p <;> cases stateB m.State p.Vars.length p.Cells.length <;> cases decide ((m.Done.length : Int) = 3) <;> cases m.Done.any (fun n => !decide (0 ≤ n ∧ n ≤ 100000)) <;> rfl
end Go.Proofs.YtonmohpdmhfjnaaGreatDoor.E.TM
