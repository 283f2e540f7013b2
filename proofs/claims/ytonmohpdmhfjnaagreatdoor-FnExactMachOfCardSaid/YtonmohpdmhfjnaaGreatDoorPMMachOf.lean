/- MachOf of the program and of the reference tell the same. No condition but lengths and bytes. -/
import Derived.Test.YtonmohpdmhfjnaaGreatDoorPMReadMach
import Derived.Test.YtonmohpdmhfjnaaGreatDoorTMe1
import Derived.Test.YtonmohpdmhfjnaaGreatDoorTMe2
import Derived.Test.YtonmohpdmhfjnaaGreatDoorTMe3
namespace Go.Proofs.YtonmohpdmhfjnaaGreatDoor.E.TM
open Go.Proofs.YtonmohpdmhfjnaaGreatDoor.E
set_option linter.unusedVariables false
variable {b : List Int}
def sAt (b : List Int) (p : Int) (ok : Bool) : spec_l17Cur := ⟨b, p, ok⟩
def iAt (b : List Int) (p : Int) (bad : Bool) : impl_source := ⟨b, p, bad⟩
noncomputable def contS1 (c : spec_l17Cur) (z m : impl_Mach) : Option (impl_Mach × spec_l17Cur × Unit) := (s_l17Num c).bind fun r => s_l17Of_L2 r.1 0 r.2.1 z m
noncomputable def contS2 (c : spec_l17Cur) (z m : impl_Mach) : Option (impl_Mach × spec_l17Cur × Unit) :=
  (s_l17Num c).bind fun r3 => (s_l17Num r3.2.1).bind fun r4 => s_l17Of_L3 0 r4.2.1 z (impl_Mach.mk (impl_State.mk m.State.Vars m.State.Cells r3.1 r4.1) m.Done m.Out)
noncomputable def contS3 (c : spec_l17Cur) (m : impl_Mach) : Option (impl_Mach × spec_l17Cur × Unit) := (s_l17Text c).bind fun r1 => some ((impl_Mach.mk m.State m.Done r1.1), r1.2.1, ())
def addVars (m : impl_Mach) (l : List impl_Val) : impl_Mach := ⟨⟨m.State.Vars ++ l, m.State.Cells, m.State.Nr, m.State.Err⟩, m.Done, m.Out⟩
def addCells (m : impl_Mach) (l : List impl_Cell) : impl_Mach := ⟨⟨m.State.Vars, m.State.Cells ++ l, m.State.Nr, m.State.Err⟩, m.Done, m.Out⟩
def addDone (m : impl_Mach) (l : List Int) : impl_Mach := ⟨m.State, m.Done ++ l, m.Out⟩
theorem addVars_nil (m : impl_Mach) : addVars m [] = m := by unfold addVars; rw [List.append_nil]
theorem addCells_nil (m : impl_Mach) : addCells m [] = m := by unfold addCells; rw [List.append_nil]
theorem addDone_nil (m : impl_Mach) : addDone m [] = m := by unfold addDone; rw [List.append_nil]
theorem addVars_cons (m : impl_Mach) (v : impl_Val) (l : List impl_Val) : addVars (addVars m [v]) l = addVars m (v :: l) := by unfold addVars; simp
theorem addCells_cons (m : impl_Mach) (v : impl_Cell) (l : List impl_Cell) : addCells (addCells m [v]) l = addCells m (v :: l) := by unfold addCells; simp
theorem addDone_cons (m : impl_Mach) (v : Int) (l : List Int) : addDone (addDone m [v]) l = addDone m (v :: l) := by unfold addDone; simp
theorem s_L1_stop (n i : Int) (h : ¬ i < n) (c : spec_l17Cur) (z m : impl_Mach) : s_l17Of_L1 n i c z m = contS1 c z m := by
  rw [s_l17Of_L1_eq, if_neg (by rw [decide_eq_true_eq]; exact h)]; rfl
theorem s_L1_bad (n i : Int) (p : Int) (z m : impl_Mach) : s_l17Of_L1 n i (sAt b p false) z m = contS1 (sAt b p false) z m := by
  by_cases h : i < n
  · rw [s_l17Of_L1_eq, if_pos (decide_eq_true h), if_neg (by unfold sAt; simp)]; rfl
  · exact s_L1_stop n i h _ z m
theorem s_L1_some (hb : b.length ≤ 1048576) (hw : Bytes b) (z : impl_Mach) (n : Int) (hn : n ≤ 4611686018427387903) : ∀ (j i : Nat) (p : Int) (m : impl_Mach) (l : List impl_Val) (q : Int), pL (pV b) j p = some (l, q) → PosI b p → (i : Int) + j = n → (m.State.Vars.length : Int) ≤ p →
    s_l17Of_L1 n i (sAt b p true) z m = contS1 (sAt b q true) z (addVars m l) := by
  intro j
  induction j with
  | zero =>
    intro i p m l q h hp hi hm
    have h' := Option.some.inj h
    have e1 : [] = l := congrArg Prod.fst h'
    have e2 : p = q := congrArg Prod.snd h'
    rw [s_L1_stop _ _ (by omega), ← e1, ← e2, addVars_nil]
  | succ j ih =>
    intro i p m l q h hp hi hm
    unfold pL at h
    obtain ⟨x, hx, h⟩ := bind_split h
    obtain ⟨y, hy, h⟩ := bind_split h
    have h' := Option.some.inj h
    have e1 : x.1 :: y.1 = l := congrArg Prod.fst h'
    have e2 : y.2 = q := congrArg Prod.snd h'
    have a := pV_spec hw (show pV b p = some (x.1, x.2) from hx)
    have w1 : w64 ((i : Int) + 1) = ((i + 1 : Nat) : Int) := by rw [w64_id (by omega) (by omega)]; omega
    have h2 := hp.2
    rw [s_l17Of_L1_eq, if_pos (decide_eq_true (by omega)), if_pos (by unfold sAt; rfl)]
    unfold sAt
    rw [sV_some hb hw hp (show pV b p = some (x.1, x.2) from hx), Option.bind_some, if_pos (by rw [room_eq]; omega), w1]
    have := ih (i + 1) x.2 (addVars m [x.1]) y.1 y.2 hy ⟨by omega, a.2.2.1⟩ (by omega) (by unfold addVars; dsimp only; rw [List.length_append]; simp only [List.length_cons, List.length_nil]; omega)
    rw [addVars_cons, e1, e2] at this
    exact this
theorem s_L1_none (hb : b.length ≤ 1048576) (hw : Bytes b) (z : impl_Mach) (n : Int) (hn : n ≤ 4611686018427387903) : ∀ (j i : Nat) (p : Int) (m : impl_Mach), pL (pV b) j p = none → PosI b p → (i : Int) + j = n → (m.State.Vars.length : Int) ≤ p →
    ∃ a m', s_l17Of_L1 n i (sAt b p true) z m = contS1 (sAt b a false) z m' ∧ PosI b a ∧ m'.Done = m.Done := by
  intro j
  induction j with
  | zero => intro i p m h; cases h
  | succ j ih =>
    intro i p m h hp hi hm
    have w1 : w64 ((i : Int) + 1) = ((i + 1 : Nat) : Int) := by rw [w64_id (by omega) (by omega)]; omega
    have h2 := hp.2
    rw [s_l17Of_L1_eq, if_pos (decide_eq_true (by omega)), if_pos (by unfold sAt; rfl)]
    unfold sAt
    cases hx : pV b p with
    | none =>
      obtain ⟨v, a, e, ha⟩ := sV_none hb hw hp hx
      rw [e, Option.bind_some, if_pos (by rw [room_eq]; omega)]
      exact ⟨a, _, s_L1_bad n _ a z _, ha, rfl⟩
    | some x =>
      have a := pV_spec hw (show pV b p = some (x.1, x.2) from hx)
      rw [sV_some hb hw hp (show pV b p = some (x.1, x.2) from hx), Option.bind_some, if_pos (by rw [room_eq]; omega), w1]
      refine ih (i + 1) x.2 (addVars m [x.1]) ?_ ⟨by omega, a.2.2.1⟩ (by omega) (by unfold addVars; dsimp only; rw [List.length_append]; simp only [List.length_cons, List.length_nil]; omega)
      unfold pL at h
      rw [hx, Option.bind_some] at h
      cases hy : pL (pV b) j x.2 with
      | none => rfl
      | some y => rw [hy, Option.bind_some] at h; cases h
theorem s_L2_stop (n i : Int) (h : ¬ i < n) (c : spec_l17Cur) (z m : impl_Mach) : s_l17Of_L2 n i c z m = contS2 c z m := by
  rw [s_l17Of_L2_eq, if_neg (by rw [decide_eq_true_eq]; exact h)]; rfl
theorem s_L2_bad (n i : Int) (p : Int) (z m : impl_Mach) : s_l17Of_L2 n i (sAt b p false) z m = contS2 (sAt b p false) z m := by
  by_cases h : i < n
  · rw [s_l17Of_L2_eq, if_pos (decide_eq_true h), if_neg (by unfold sAt; simp)]; rfl
  · exact s_L2_stop n i h _ z m
theorem pC_parts {p q : Int} {c : impl_Cell} (h : pC b p = some (c, q)) : ∃ x y z, pN b p = some x ∧ pT b x.2 = some y ∧ pV b y.2 = some z ∧ c = ⟨x.1, y.1, z.1⟩ ∧ q = z.2 := by
  unfold pC at h
  obtain ⟨x, hx, h⟩ := bind_split h
  obtain ⟨y, hy, h⟩ := bind_split h
  obtain ⟨z, hz, h⟩ := bind_split h
  have h' := Option.some.inj h
  exact ⟨x, y, z, hx, hy, hz, (congrArg Prod.fst h').symm, (congrArg Prod.snd h').symm⟩
theorem s_L2_some (hb : b.length ≤ 1048576) (hw : Bytes b) (z : impl_Mach) (n : Int) (hn : n ≤ 4611686018427387903) : ∀ (j i : Nat) (p : Int) (m : impl_Mach) (l : List impl_Cell) (q : Int), pL (pC b) j p = some (l, q) → PosI b p → (i : Int) + j = n → (m.State.Cells.length : Int) ≤ p →
    s_l17Of_L2 n i (sAt b p true) z m = contS2 (sAt b q true) z (addCells m l) := by
  intro j
  induction j with
  | zero =>
    intro i p m l q h hp hi hm
    have h' := Option.some.inj h
    have e1 : [] = l := congrArg Prod.fst h'
    have e2 : p = q := congrArg Prod.snd h'
    rw [s_L2_stop _ _ (by omega), ← e1, ← e2, addCells_nil]
  | succ j ih =>
    intro i p m l q h hp hi hm
    unfold pL at h
    obtain ⟨x, hx, h⟩ := bind_split h
    obtain ⟨y, hy, h⟩ := bind_split h
    have h' := Option.some.inj h
    have e1 : x.1 :: y.1 = l := congrArg Prod.fst h'
    have e2 : y.2 = q := congrArg Prod.snd h'
    have a := pC_spec hw (show pC b p = some (x.1, x.2) from hx)
    obtain ⟨u, v, w, hu, hv, hz, g1, g2⟩ := pC_parts (show pC b p = some (x.1, x.2) from hx)
    have a1 := pN_spec hw (show pN b p = some (u.1, u.2) from hu)
    have a2 := pT_spec hw (show pT b u.2 = some (v.1, v.2) from hv)
    have w1 : w64 ((i : Int) + 1) = ((i + 1 : Nat) : Int) := by rw [w64_id (by omega) (by omega)]; omega
    have h2 := hp.2
    rw [s_l17Of_L2_eq, if_pos (decide_eq_true (by omega)), if_pos (by unfold sAt; rfl)]
    unfold sAt
    rw [sN_some hb hw hp (show pN b p = some (u.1, u.2) from hu), Option.bind_some]
    dsimp only
    rw [sT_some hb hw ⟨by omega, a1.2.2.1⟩ (show pT b u.2 = some (v.1, v.2) from hv), Option.bind_some]
    dsimp only
    rw [sV_some hb hw ⟨by omega, a2.2.2.1⟩ (show pV b v.2 = some (w.1, w.2) from hz), Option.bind_some, if_pos (by rw [room_eq]; omega), w1, ← g1, ← g2]
    have := ih (i + 1) x.2 (addCells m [x.1]) y.1 y.2 hy ⟨by omega, a.2.2.1⟩ (by omega) (by unfold addCells; dsimp only; rw [List.length_append]; simp only [List.length_cons, List.length_nil]; omega)
    rw [addCells_cons, e1, e2] at this
    exact this
theorem s_L2_none (hb : b.length ≤ 1048576) (hw : Bytes b) (z : impl_Mach) (n : Int) (hn : n ≤ 4611686018427387903) : ∀ (j i : Nat) (p : Int) (m : impl_Mach), pL (pC b) j p = none → PosI b p → (i : Int) + j = n → (m.State.Cells.length : Int) ≤ p →
    ∃ a m', s_l17Of_L2 n i (sAt b p true) z m = contS2 (sAt b a false) z m' ∧ PosI b a ∧ m'.Done = m.Done := by
  intro j
  induction j with
  | zero => intro i p m h; cases h
  | succ j ih =>
    intro i p m h hp hi hm
    have w1 : w64 ((i : Int) + 1) = ((i + 1 : Nat) : Int) := by rw [w64_id (by omega) (by omega)]; omega
    have h2 := hp.2
    have hr : m.State.Cells.length + 1 ≤ room := by rw [room_eq]; omega
    rw [s_l17Of_L2_eq, if_pos (decide_eq_true (by omega)), if_pos (by unfold sAt; rfl)]
    unfold sAt
    simp only [if_pos hr]
    cases hu : pN b p with
    | none =>
      rw [sN_none hb hw hp hu, Option.bind_some]
      dsimp only
      rw [sT_bad hb hw hp, Option.bind_some]
      dsimp only
      rw [sV_bad hb hw hp, Option.bind_some]
      exact ⟨p, _, s_L2_bad n _ p z _, hp, rfl⟩
    | some u =>
      have a1 := pN_spec hw (show pN b p = some (u.1, u.2) from hu)
      have pu : PosI b u.2 := ⟨by omega, a1.2.2.1⟩
      rw [sN_some hb hw hp (show pN b p = some (u.1, u.2) from hu), Option.bind_some]
      dsimp only
      cases hv : pT b u.2 with
      | none =>
        rw [sT_none hb hw pu hv, Option.bind_some]
        dsimp only
        rw [sV_bad hb hw pu, Option.bind_some]
        exact ⟨u.2, _, s_L2_bad n _ u.2 z _, pu, rfl⟩
      | some v =>
        have a2 := pT_spec hw (show pT b u.2 = some (v.1, v.2) from hv)
        have pv : PosI b v.2 := ⟨by omega, a2.2.2.1⟩
        rw [sT_some hb hw pu (show pT b u.2 = some (v.1, v.2) from hv), Option.bind_some]
        dsimp only
        cases hz : pV b v.2 with
        | none =>
          obtain ⟨v', a, e, ha⟩ := sV_none hb hw pv hz
          rw [e, Option.bind_some]
          exact ⟨a, _, s_L2_bad n _ a z _, ha, rfl⟩
        | some w =>
          have a3 := pV_spec hw (show pV b v.2 = some (w.1, w.2) from hz)
          rw [sV_some hb hw pv (show pV b v.2 = some (w.1, w.2) from hz), Option.bind_some, w1]
          refine ih (i + 1) w.2 (addCells m [⟨u.1, v.1, w.1⟩]) ?_ ⟨by omega, a3.2.2.1⟩ (by omega) (by unfold addCells; dsimp only; rw [List.length_append]; simp only [List.length_cons, List.length_nil]; omega)
          have hx : pC b p = some (⟨u.1, v.1, w.1⟩, w.2) := by unfold pC; rw [hu, Option.bind_some, hv, Option.bind_some, hz, Option.bind_some]
          unfold pL at h
          rw [hx, Option.bind_some] at h
          cases hy : pL (pC b) j w.2 with
          | none => rfl
          | some y => rw [hy, Option.bind_some] at h; cases h
theorem s_L3_some (hb : b.length ≤ 1048576) (hw : Bytes b) (z : impl_Mach) : ∀ (j i : Nat) (p : Int) (m : impl_Mach) (l : List Int) (q : Int), pL (pN b) j p = some (l, q) → PosI b p → i + j = 3 → m.Done.length ≤ i →
    s_l17Of_L3 (i : Int) (sAt b p true) z m = contS3 (sAt b q true) (addDone m l) := by
  intro j
  induction j with
  | zero =>
    intro i p m l q h hp hi hm
    have h' := Option.some.inj h
    have e1 : [] = l := congrArg Prod.fst h'
    have e2 : p = q := congrArg Prod.snd h'
    rw [s_l17Of_L3_eq, if_neg (by rw [decide_eq_true_eq]; omega), ← e1, ← e2, addDone_nil]; rfl
  | succ j ih =>
    intro i p m l q h hp hi hm
    unfold pL at h
    obtain ⟨x, hx, h⟩ := bind_split h
    obtain ⟨y, hy, h⟩ := bind_split h
    have h' := Option.some.inj h
    have e1 : x.1 :: y.1 = l := congrArg Prod.fst h'
    have e2 : y.2 = q := congrArg Prod.snd h'
    have a := pN_spec hw (show pN b p = some (x.1, x.2) from hx)
    have w1 : w64 ((i : Int) + 1) = ((i + 1 : Nat) : Int) := by rw [w64_id (by omega) (by omega)]; omega
    rw [s_l17Of_L3_eq, if_pos (decide_eq_true (by omega))]
    unfold sAt
    rw [sN_some hb hw hp (show pN b p = some (x.1, x.2) from hx), Option.bind_some, if_pos (by rw [room_eq]; omega), w1]
    have := ih (i + 1) x.2 (addDone m [x.1]) y.1 y.2 hy ⟨by omega, a.2.2.1⟩ (by omega) (by unfold addDone; dsimp only; rw [List.length_append]; simp only [List.length_cons, List.length_nil]; omega)
    rw [addDone_cons, e1, e2] at this
    exact this
theorem s_L3_bad (hb : b.length ≤ 1048576) (hw : Bytes b) (z : impl_Mach) : ∀ (j i : Nat) (p : Int) (m : impl_Mach), PosI b p → i + j = 3 → m.Done.length ≤ i → ∃ m', s_l17Of_L3 (i : Int) (sAt b p false) z m = contS3 (sAt b p false) m' := by
  intro j
  induction j with
  | zero =>
    intro i p m hp hi hm
    rw [s_l17Of_L3_eq, if_neg (by rw [decide_eq_true_eq]; omega)]; exact ⟨m, rfl⟩
  | succ j ih =>
    intro i p m hp hi hm
    have w1 : w64 ((i : Int) + 1) = ((i + 1 : Nat) : Int) := by rw [w64_id (by omega) (by omega)]; omega
    rw [s_l17Of_L3_eq, if_pos (decide_eq_true (by omega))]
    unfold sAt
    rw [sN_bad hb hw hp, Option.bind_some, if_pos (by rw [room_eq]; omega), w1]
    exact ih (i + 1) p (addDone m [0]) hp (by omega) (by unfold addDone; dsimp only; rw [List.length_append]; simp only [List.length_cons, List.length_nil]; omega)
theorem s_L3_none (hb : b.length ≤ 1048576) (hw : Bytes b) (z : impl_Mach) : ∀ (j i : Nat) (p : Int) (m : impl_Mach), pL (pN b) j p = none → PosI b p → i + j = 3 → m.Done.length ≤ i → ∃ a m', s_l17Of_L3 (i : Int) (sAt b p true) z m = contS3 (sAt b a false) m' ∧ PosI b a := by
  intro j
  induction j with
  | zero => intro i p m h; cases h
  | succ j ih =>
    intro i p m h hp hi hm
    have w1 : w64 ((i : Int) + 1) = ((i + 1 : Nat) : Int) := by rw [w64_id (by omega) (by omega)]; omega
    rw [s_l17Of_L3_eq, if_pos (decide_eq_true (by omega))]
    unfold sAt
    have hlen : ∀ v : Int, (addDone m [v]).Done.length ≤ i + 1 := fun v => by unfold addDone; dsimp only; rw [List.length_append]; simp only [List.length_cons, List.length_nil]; omega
    cases hx : pN b p with
    | none =>
      rw [sN_none hb hw hp hx, Option.bind_some, if_pos (by rw [room_eq]; omega), w1]
      obtain ⟨m', e⟩ := s_L3_bad hb hw z j (i + 1) p (addDone m [0]) hp (by omega) (hlen 0)
      exact ⟨p, m', e, hp⟩
    | some x =>
      have a := pN_spec hw (show pN b p = some (x.1, x.2) from hx)
      rw [sN_some hb hw hp (show pN b p = some (x.1, x.2) from hx), Option.bind_some, if_pos (by rw [room_eq]; omega), w1]
      refine ih (i + 1) x.2 (addDone m [x.1]) ?_ ⟨by omega, a.2.2.1⟩ (by omega) (hlen _)
      unfold pL at h
      rw [hx, Option.bind_some] at h
      cases hy : pL (pN b) j x.2 with
      | none => rfl
      | some y => rw [hy, Option.bind_some] at h; cases h
def SBad (b : List Int) (r : Option (impl_Mach × spec_l17Cur × Unit)) : Prop := ∃ m a, r = some (m, sAt b a false, ())
theorem contS3_bad (hb : b.length ≤ 1048576) (hw : Bytes b) {p : Int} (hp : PosI b p) (m : impl_Mach) : SBad b (contS3 (sAt b p false) m) := by
  unfold contS3 sAt
  rw [sT_bad hb hw hp]; exact ⟨_, _, rfl⟩
theorem contS2_bad (hb : b.length ≤ 1048576) (hw : Bytes b) {p : Int} (hp : PosI b p) (z m : impl_Mach) (hm : m.Done = []) : SBad b (contS2 (sAt b p false) z m) := by
  unfold contS2 sAt
  rw [sN_bad hb hw hp, Option.bind_some]
  dsimp only
  rw [sN_bad hb hw hp, Option.bind_some]
  dsimp only
  obtain ⟨m', e⟩ := s_L3_bad hb hw z 3 0 p ⟨⟨m.State.Vars, m.State.Cells, 0, 0⟩, m.Done, m.Out⟩ hp (by omega) (by dsimp only; rw [hm]; simp)
  have e' : s_l17Of_L3 0 ⟨b, p, false⟩ z ⟨⟨m.State.Vars, m.State.Cells, 0, 0⟩, m.Done, m.Out⟩ = contS3 (sAt b p false) m' := e
  rw [e']; exact contS3_bad hb hw hp m'
theorem contS1_bad (hb : b.length ≤ 1048576) (hw : Bytes b) {p : Int} (hp : PosI b p) (z m : impl_Mach) (hm : m.Done = []) : SBad b (contS1 (sAt b p false) z m) := by
  have e : contS1 (sAt b p false) z m = contS2 (sAt b p false) z m := by
    unfold contS1
    have e1 : s_l17Num (sAt b p false) = some (0, sAt b p false, ()) := sN_bad hb hw hp
    rw [e1, Option.bind_some]
    exact s_L2_stop 0 0 (by omega) _ z m
  rw [e]; exact contS2_bad hb hw hp z m hm
theorem sMach_some (hb : b.length ≤ 1048576) (hw : Bytes b) {m : impl_Mach} {q : Int} (h : pM b = some (m, q)) : s_l17Of ⟨b, 0, true⟩ = some (m, ⟨b, q, true⟩, ()) := by
  unfold pM at h
  obtain ⟨n, hn, h⟩ := bind_split h
  obtain ⟨vs, hvs, h⟩ := bind_split h
  obtain ⟨k, hk, h⟩ := bind_split h
  obtain ⟨cs, hcs, h⟩ := bind_split h
  obtain ⟨r, hr, h⟩ := bind_split h
  obtain ⟨e, he, h⟩ := bind_split h
  obtain ⟨ds, hds, h⟩ := bind_split h
  obtain ⟨o, ho, h⟩ := bind_split h
  have h' := Option.some.inj h
  have e1 : (⟨⟨vs.1, cs.1, r.1, e.1⟩, ds.1, o.1⟩ : impl_Mach) = m := congrArg Prod.fst h'
  have e2 : o.2 = q := congrArg Prod.snd h'
  have p0 : PosI b 0 := ⟨by omega, by omega⟩
  have an := pN_spec hw (show pN b 0 = some (n.1, n.2) from hn)
  have pn : PosI b n.2 := ⟨by omega, an.2.2.1⟩
  obtain ⟨v1, v2, v3⟩ := pL_spec (len := (b.length : Int)) (fun p x q h => ⟨(pV_spec hw h).1, (pV_spec hw h).2.1, (pV_spec hw h).2.2.1⟩) _ _ _ _ (show pL (pV b) n.1.toNat n.2 = some (vs.1, vs.2) from hvs) pn.1 pn.2
  have pv : PosI b vs.2 := ⟨by have := pn.1; omega, v3⟩
  have ak := pN_spec hw (show pN b vs.2 = some (k.1, k.2) from hk)
  have pk : PosI b k.2 := ⟨by omega, ak.2.2.1⟩
  obtain ⟨c1, c2, c3⟩ := pL_spec (len := (b.length : Int)) (fun p x q h => ⟨(pC_spec hw h).1, (pC_spec hw h).2.1, (pC_spec hw h).2.2.1⟩) _ _ _ _ (show pL (pC b) k.1.toNat k.2 = some (cs.1, cs.2) from hcs) pk.1 pk.2
  have pc : PosI b cs.2 := ⟨by have := pk.1; omega, c3⟩
  have ar := pN_spec hw (show pN b cs.2 = some (r.1, r.2) from hr)
  have pr : PosI b r.2 := ⟨by omega, ar.2.2.1⟩
  have ae := pN_spec hw (show pN b r.2 = some (e.1, e.2) from he)
  have pe : PosI b e.2 := ⟨by omega, ae.2.2.1⟩
  obtain ⟨d1, d2, d3⟩ := pL_spec (len := (b.length : Int)) (fun p x q h => ⟨(pN_spec hw h).1, (pN_spec hw h).2.1, (pN_spec hw h).2.2.1⟩) _ _ _ _ (show pL (pN b) 3 e.2 = some (ds.1, ds.2) from hds) pe.1 pe.2
  have pd : PosI b ds.2 := ⟨by have := pe.1; omega, d3⟩
  rw [s_l17Of_eq, sN_some hb hw p0 (show pN b 0 = some (n.1, n.2) from hn), Option.bind_some]
  dsimp only
  have f1 := s_L1_some hb hw z_impl_Mach n.1 an.2.2.2.2.2 n.1.toNat 0 n.2 ⟨z_impl_State, [], []⟩ vs.1 vs.2 hvs pn (by omega) (by have := pn.1; exact this)
  have f1' : s_l17Of_L1 n.1 0 ⟨b, n.2, true⟩ z_impl_Mach ⟨z_impl_State, [], []⟩ = _ := f1
  rw [f1']
  unfold contS1 sAt
  rw [sN_some hb hw pv (show pN b vs.2 = some (k.1, k.2) from hk), Option.bind_some]
  dsimp only
  have f2 := s_L2_some hb hw z_impl_Mach k.1 ak.2.2.2.2.2 k.1.toNat 0 k.2 (addVars ⟨z_impl_State, [], []⟩ vs.1) cs.1 cs.2 hcs pk (by omega) (by have := pk.1; exact this)
  have f2' : s_l17Of_L2 k.1 0 ⟨b, k.2, true⟩ z_impl_Mach (addVars ⟨z_impl_State, [], []⟩ vs.1) = _ := f2
  rw [f2']
  unfold contS2 sAt
  rw [sN_some hb hw pc (show pN b cs.2 = some (r.1, r.2) from hr), Option.bind_some]
  dsimp only
  rw [sN_some hb hw pr (show pN b r.2 = some (e.1, e.2) from he), Option.bind_some]
  dsimp only
  have f3 := s_L3_some hb hw z_impl_Mach 3 0 e.2 ⟨⟨vs.1, cs.1, r.1, e.1⟩, [], []⟩ ds.1 ds.2 hds pe (by omega) (by simp)
  have f3' : s_l17Of_L3 0 ⟨b, e.2, true⟩ z_impl_Mach ⟨⟨vs.1, cs.1, r.1, e.1⟩, [], []⟩ = _ := f3
  refine Eq.trans f3' ?_
  unfold contS3 sAt
  rw [sT_some hb hw pd (show pT b ds.2 = some (o.1, o.2) from ho), Option.bind_some, ← e1, ← e2]
  rfl
theorem sMach_none (hb : b.length ≤ 1048576) (hw : Bytes b) (h : pM b = none) : SBad b (s_l17Of ⟨b, 0, true⟩) := by
  unfold pM at h
  have p0 : PosI b 0 := ⟨by omega, by omega⟩
  rw [s_l17Of_eq]
  cases hn : pN b 0 with
  | none =>
    rw [sN_none hb hw p0 hn, Option.bind_some]
    dsimp only
    have e : s_l17Of_L1 0 0 ⟨b, 0, false⟩ z_impl_Mach ⟨z_impl_State, [], []⟩ = contS1 (sAt b 0 false) z_impl_Mach ⟨z_impl_State, [], []⟩ := s_L1_bad 0 0 0 _ _
    rw [e]; exact contS1_bad hb hw p0 _ _ rfl
  | some n =>
    rw [hn, Option.bind_some] at h
    have an := pN_spec hw (show pN b 0 = some (n.1, n.2) from hn)
    have pn : PosI b n.2 := ⟨by omega, an.2.2.1⟩
    rw [sN_some hb hw p0 (show pN b 0 = some (n.1, n.2) from hn), Option.bind_some]
    dsimp only
    cases hvs : pL (pV b) n.1.toNat n.2 with
    | none =>
      obtain ⟨a, m', e, ha, hd⟩ := s_L1_none hb hw z_impl_Mach n.1 an.2.2.2.2.2 n.1.toNat 0 n.2 ⟨z_impl_State, [], []⟩ hvs pn (by omega) (by have := pn.1; exact this)
      have e' : s_l17Of_L1 n.1 0 ⟨b, n.2, true⟩ z_impl_Mach ⟨z_impl_State, [], []⟩ = contS1 (sAt b a false) z_impl_Mach m' := e
      rw [e']; exact contS1_bad hb hw ha _ _ hd
    | some vs =>
      rw [hvs, Option.bind_some] at h
      obtain ⟨v1, v2, v3⟩ := pL_spec (len := (b.length : Int)) (fun p x q h => ⟨(pV_spec hw h).1, (pV_spec hw h).2.1, (pV_spec hw h).2.2.1⟩) _ _ _ _ (show pL (pV b) n.1.toNat n.2 = some (vs.1, vs.2) from hvs) pn.1 pn.2
      have pv : PosI b vs.2 := ⟨by have := pn.1; omega, v3⟩
      have f1 := s_L1_some hb hw z_impl_Mach n.1 an.2.2.2.2.2 n.1.toNat 0 n.2 ⟨z_impl_State, [], []⟩ vs.1 vs.2 hvs pn (by omega) (by have := pn.1; exact this)
      have f1' : s_l17Of_L1 n.1 0 ⟨b, n.2, true⟩ z_impl_Mach ⟨z_impl_State, [], []⟩ = _ := f1
      rw [f1']
      cases hk : pN b vs.2 with
      | none =>
        have e : contS1 (sAt b vs.2 true) z_impl_Mach (addVars ⟨z_impl_State, [], []⟩ vs.1) = contS2 (sAt b vs.2 false) z_impl_Mach (addVars ⟨z_impl_State, [], []⟩ vs.1) := by
          unfold contS1
          have e1 : s_l17Num (sAt b vs.2 true) = some (0, sAt b vs.2 false, ()) := sN_none hb hw pv hk
          rw [e1, Option.bind_some]
          exact s_L2_stop 0 0 (by omega) _ _ _
        rw [e]; exact contS2_bad hb hw pv _ _ rfl
      | some k =>
        rw [hk, Option.bind_some] at h
        have ak := pN_spec hw (show pN b vs.2 = some (k.1, k.2) from hk)
        have pk : PosI b k.2 := ⟨by omega, ak.2.2.1⟩
        unfold contS1 sAt
        rw [sN_some hb hw pv (show pN b vs.2 = some (k.1, k.2) from hk), Option.bind_some]
        dsimp only
        cases hcs : pL (pC b) k.1.toNat k.2 with
        | none =>
          obtain ⟨a, m', e, ha, hd⟩ := s_L2_none hb hw z_impl_Mach k.1 ak.2.2.2.2.2 k.1.toNat 0 k.2 (addVars ⟨z_impl_State, [], []⟩ vs.1) hcs pk (by omega) (by have := pk.1; exact this)
          have e' : s_l17Of_L2 k.1 0 ⟨b, k.2, true⟩ z_impl_Mach (addVars ⟨z_impl_State, [], []⟩ vs.1) = contS2 (sAt b a false) z_impl_Mach m' := e
          rw [e']; exact contS2_bad hb hw ha _ _ hd
        | some cs =>
          rw [hcs, Option.bind_some] at h
          obtain ⟨c1, c2, c3⟩ := pL_spec (len := (b.length : Int)) (fun p x q h => ⟨(pC_spec hw h).1, (pC_spec hw h).2.1, (pC_spec hw h).2.2.1⟩) _ _ _ _ (show pL (pC b) k.1.toNat k.2 = some (cs.1, cs.2) from hcs) pk.1 pk.2
          have pc : PosI b cs.2 := ⟨by have := pk.1; omega, c3⟩
          have f2 := s_L2_some hb hw z_impl_Mach k.1 ak.2.2.2.2.2 k.1.toNat 0 k.2 (addVars ⟨z_impl_State, [], []⟩ vs.1) cs.1 cs.2 hcs pk (by omega) (by have := pk.1; exact this)
          have f2' : s_l17Of_L2 k.1 0 ⟨b, k.2, true⟩ z_impl_Mach (addVars ⟨z_impl_State, [], []⟩ vs.1) = _ := f2
          rw [f2']
          have l3 : ∀ (a : Int) (m : impl_Mach), PosI b a → m.Done = [] → SBad b (s_l17Of_L3 0 ⟨b, a, false⟩ z_impl_Mach m) := fun a m ha hm => by
            obtain ⟨m', e⟩ := s_L3_bad hb hw z_impl_Mach 3 0 a m ha (by omega) (by rw [hm]; simp)
            have e' : s_l17Of_L3 0 ⟨b, a, false⟩ z_impl_Mach m = contS3 (sAt b a false) m' := e
            rw [e']; exact contS3_bad hb hw ha m'
          unfold contS2 sAt
          cases hr : pN b cs.2 with
          | none =>
            rw [sN_none hb hw pc hr, Option.bind_some]
            dsimp only
            rw [sN_bad hb hw pc, Option.bind_some]
            exact l3 _ _ pc rfl
          | some r =>
            rw [hr, Option.bind_some] at h
            have ar := pN_spec hw (show pN b cs.2 = some (r.1, r.2) from hr)
            have pr : PosI b r.2 := ⟨by omega, ar.2.2.1⟩
            rw [sN_some hb hw pc (show pN b cs.2 = some (r.1, r.2) from hr), Option.bind_some]
            dsimp only
            cases he : pN b r.2 with
            | none =>
              rw [sN_none hb hw pr he, Option.bind_some]
              exact l3 _ _ pr rfl
            | some e =>
              rw [he, Option.bind_some] at h
              have ae := pN_spec hw (show pN b r.2 = some (e.1, e.2) from he)
              have pe : PosI b e.2 := ⟨by omega, ae.2.2.1⟩
              rw [sN_some hb hw pr (show pN b r.2 = some (e.1, e.2) from he), Option.bind_some]
              dsimp only
              cases hds : pL (pN b) 3 e.2 with
              | none =>
                obtain ⟨a, m', g, ha⟩ := s_L3_none hb hw z_impl_Mach 3 0 e.2 ⟨⟨vs.1, cs.1, r.1, e.1⟩, [], []⟩ hds pe (by omega) (by simp)
                have g' : s_l17Of_L3 0 ⟨b, e.2, true⟩ z_impl_Mach ⟨⟨vs.1, cs.1, r.1, e.1⟩, [], []⟩ = contS3 (sAt b a false) m' := g
                have g2 := contS3_bad hb hw ha m'
                rw [← g'] at g2; exact g2
              | some ds =>
                rw [hds, Option.bind_some] at h
                obtain ⟨d1, d2, d3⟩ := pL_spec (len := (b.length : Int)) (fun p x q h => ⟨(pN_spec hw h).1, (pN_spec hw h).2.1, (pN_spec hw h).2.2.1⟩) _ _ _ _ (show pL (pN b) 3 e.2 = some (ds.1, ds.2) from hds) pe.1 pe.2
                have pd : PosI b ds.2 := ⟨by have := pe.1; omega, d3⟩
                have f3 := s_L3_some hb hw z_impl_Mach 3 0 e.2 ⟨⟨vs.1, cs.1, r.1, e.1⟩, [], []⟩ ds.1 ds.2 hds pe (by omega) (by simp)
                have f3' : s_l17Of_L3 0 ⟨b, e.2, true⟩ z_impl_Mach ⟨⟨vs.1, cs.1, r.1, e.1⟩, [], []⟩ = _ := f3
                have g2 : SBad b (contS3 (sAt b ds.2 true) (addDone ⟨⟨vs.1, cs.1, r.1, e.1⟩, [], []⟩ ds.1)) := by
                  cases ho : pT b ds.2 with
                  | none => unfold contS3 sAt; rw [sT_none hb hw pd ho]; exact ⟨_, _, rfl⟩
                  | some o => rw [ho, Option.bind_some] at h; cases h
                rw [← f3'] at g2; exact g2
end Go.Proofs.YtonmohpdmhfjnaaGreatDoor.E.TM
