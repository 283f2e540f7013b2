/- MachOf of the program: what it reads. No condition but lengths and bytes. -/
import Derived.Test.YtonmohpdmhfjnaaGreatDoorPMMachOf
import Derived.Test.YtonmohpdmhfjnaaGreatDoorTMe1
import Derived.Test.YtonmohpdmhfjnaaGreatDoorTMe2
import Derived.Test.YtonmohpdmhfjnaaGreatDoorTMe3
namespace Go.Proofs.YtonmohpdmhfjnaaGreatDoor.E.TM
open Go.Proofs.YtonmohpdmhfjnaaGreatDoor.E
set_option linter.unusedVariables false
variable {b : List Int}
noncomputable def contI1 (b : List Int) (c : impl_source) (P : impl_Prog) (z m : impl_Mach) : Option (impl_Mach × Bool × Unit) := (i_source_num c 40).bind fun r1 => i_MachOf_L2 b r1.1 0 P z m r1.2.1
noncomputable def contI2 (b : List Int) (c : impl_source) (P : impl_Prog) (z m : impl_Mach) : Option (impl_Mach × Bool × Unit) :=
  (i_source_num c 4611686018427387903).bind fun r3 => (i_source_num r3.2.1 4611686018427387903).bind fun r4 => i_MachOf_L3 b 0 P z (impl_Mach.mk (impl_State.mk m.State.Vars m.State.Cells r3.1 r4.1) m.Done m.Out) r4.2.1
noncomputable def contI3 (b : List Int) (c : impl_source) (P : impl_Prog) (z m : impl_Mach) : Option (impl_Mach × Bool × Unit) :=
  (i_source_text c).bind fun (r1 : (List Int) × impl_source × Unit) =>
    if r1.2.1.bad = true then
      some ((impl_Mach.mk z_impl_State [] []), false, ())
    else
      if (!(decide (r1.2.1.at_ = (List.length b : Int)))) = true then
        some ((impl_Mach.mk z_impl_State [] []), false, ())
      else
        (i_MachOk P (impl_Mach.mk m.State m.Done r1.1)).bind fun (r2 : Bool × Unit) =>
        if (!r2.1) = true then
          some ((impl_Mach.mk z_impl_State [] []), false, ())
        else
          some ((impl_Mach.mk m.State m.Done r1.1), true, ())
theorem i_L1_stop (n i : Int) (h : ¬ i < n) (c : impl_source) (P : impl_Prog) (z m : impl_Mach) : i_MachOf_L1 b n i P z m c = contI1 b c P z m := by
  rw [i_MachOf_L1_eq, if_neg (by rw [decide_eq_true_eq]; exact h)]; rfl
theorem i_L2_stop (n i : Int) (h : ¬ i < n) (c : impl_source) (P : impl_Prog) (z m : impl_Mach) : i_MachOf_L2 b n i P z m c = contI2 b c P z m := by
  rw [i_MachOf_L2_eq, if_neg (by rw [decide_eq_true_eq]; exact h)]; rfl
theorem i_L3_stop (i : Int) (h : ¬ i < 3) (c : impl_source) (P : impl_Prog) (z m : impl_Mach) : i_MachOf_L3 b i P z m c = contI3 b c P z m := by
  rw [i_MachOf_L3_eq, if_neg (by rw [decide_eq_true_eq]; exact h)]; rfl
def noMach : impl_Mach := ⟨z_impl_State, [], []⟩
theorem contI3_bad (hb : b.length ≤ 1048576) (hw : Bytes b) (p : Int) (P : impl_Prog) (z m : impl_Mach) : contI3 b (iAt b p true) P z m = some (noMach, false, ()) := by
  unfold contI3 iAt
  rw [iT_bad hb hw]; rfl
theorem i_L3_bad (hb : b.length ≤ 1048576) (hw : Bytes b) (P : impl_Prog) (z : impl_Mach) : ∀ (j i : Nat) (p : Int) (m : impl_Mach), i + j = 3 → m.Done.length ≤ i → i_MachOf_L3 b (i : Int) P z m (iAt b p true) = some (noMach, false, ()) := by
  intro j
  induction j with
  | zero => intro i p m hi hm; rw [i_L3_stop _ (by omega)]; exact contI3_bad hb hw p P z m
  | succ j ih =>
    intro i p m hi hm
    have w1 : w64 ((i : Int) + 1) = ((i + 1 : Nat) : Int) := by rw [w64_id (by omega) (by omega)]; omega
    rw [i_MachOf_L3_eq, if_pos (decide_eq_true (by omega))]
    unfold iAt
    rw [iN_bad hb hw, Option.bind_some, if_pos (by rw [room_eq]; omega), w1]
    exact ih (i + 1) p (addDone m [0]) (by omega) (by unfold addDone; dsimp only; rw [List.length_append]; simp only [List.length_cons, List.length_nil]; omega)
theorem contI2_bad (hb : b.length ≤ 1048576) (hw : Bytes b) (p : Int) (P : impl_Prog) (z m : impl_Mach) (hm : m.Done = []) : contI2 b (iAt b p true) P z m = some (noMach, false, ()) := by
  unfold contI2 iAt
  rw [iN_bad hb hw, Option.bind_some]
  dsimp only
  rw [iN_bad hb hw, Option.bind_some]
  exact i_L3_bad hb hw P z 3 0 p _ (by omega) (by dsimp only; rw [hm]; simp)
theorem i_L2_bad (hb : b.length ≤ 1048576) (hw : Bytes b) (P : impl_Prog) (z : impl_Mach) (n : Int) (hn : n ≤ 40) : ∀ (j i : Nat) (p : Int) (m : impl_Mach), (i : Int) + j = n → m.State.Cells.length ≤ i → m.Done = [] → i_MachOf_L2 b n (i : Int) P z m (iAt b p true) = some (noMach, false, ()) := by
  intro j
  induction j with
  | zero => intro i p m hi hm hd; rw [i_L2_stop _ _ (by omega)]; exact contI2_bad hb hw p P z m hd
  | succ j ih =>
    intro i p m hi hm hd
    have w1 : w64 ((i : Int) + 1) = ((i + 1 : Nat) : Int) := by rw [w64_id (by omega) (by omega)]; omega
    rw [i_MachOf_L2_eq, if_pos (decide_eq_true (by omega))]
    unfold iAt
    rw [iN_bad hb hw, Option.bind_some]
    dsimp only
    rw [iT_bad hb hw, Option.bind_some]
    dsimp only
    obtain ⟨v, a, e⟩ := iV_bad hb hw (b := b) (p := p)
    rw [e, Option.bind_some, if_pos (by rw [room_eq]; omega), w1]
    exact ih (i + 1) a (addCells m [⟨0, [], v⟩]) (by omega) (by unfold addCells; dsimp only; rw [List.length_append]; simp only [List.length_cons, List.length_nil]; omega) hd
theorem contI1_bad (hb : b.length ≤ 1048576) (hw : Bytes b) (p : Int) (P : impl_Prog) (z m : impl_Mach) (hm : m.Done = []) : contI1 b (iAt b p true) P z m = some (noMach, false, ()) := by
  unfold contI1 iAt
  rw [iN_bad hb hw, Option.bind_some]
  dsimp only
  rw [i_L2_stop 0 0 (by omega)]
  exact contI2_bad hb hw p P z m hm
theorem i_L1_bad (hb : b.length ≤ 1048576) (hw : Bytes b) (P : impl_Prog) (z : impl_Mach) (n : Int) (hn : n ≤ 40) : ∀ (j i : Nat) (p : Int) (m : impl_Mach), (i : Int) + j = n → m.State.Vars.length ≤ i → m.Done = [] → i_MachOf_L1 b n (i : Int) P z m (iAt b p true) = some (noMach, false, ()) := by
  intro j
  induction j with
  | zero => intro i p m hi hm hd; rw [i_L1_stop _ _ (by omega)]; exact contI1_bad hb hw p P z m hd
  | succ j ih =>
    intro i p m hi hm hd
    have w1 : w64 ((i : Int) + 1) = ((i + 1 : Nat) : Int) := by rw [w64_id (by omega) (by omega)]; omega
    rw [i_MachOf_L1_eq, if_pos (decide_eq_true (by omega))]
    unfold iAt
    obtain ⟨v, a, e⟩ := iV_bad hb hw (b := b) (p := p)
    rw [e, Option.bind_some, if_pos (by rw [room_eq]; omega), w1]
    exact ih (i + 1) a (addVars m [v]) (by omega) (by unfold addVars; dsimp only; rw [List.length_append]; simp only [List.length_cons, List.length_nil]; omega) hd
theorem i_L1_run (hb : b.length ≤ 1048576) (hw : Bytes b) (P : impl_Prog) (z : impl_Mach) (n : Int) (hn : n ≤ 40) : ∀ (j i : Nat) (p : Int) (m : impl_Mach), (i : Int) + j = n → m.State.Vars.length ≤ i → m.Done = [] →
    i_MachOf_L1 b n (i : Int) P z m (iAt b p false) = match pL (pV b) j p with
      | some (l, q) => contI1 b (iAt b q false) P z (addVars m l)
      | none => some (noMach, false, ()) := by
  intro j
  induction j with
  | zero =>
    intro i p m hi hm hd
    rw [i_L1_stop _ _ (by omega)]
    unfold pL
    dsimp only
    rw [addVars_nil]
  | succ j ih =>
    intro i p m hi hm hd
    have w1 : w64 ((i : Int) + 1) = ((i + 1 : Nat) : Int) := by rw [w64_id (by omega) (by omega)]; omega
    have hlen : ∀ v : impl_Val, (addVars m [v]).State.Vars.length ≤ i + 1 := fun v => by unfold addVars; dsimp only; rw [List.length_append]; simp only [List.length_cons, List.length_nil]; omega
    rw [i_MachOf_L1_eq, if_pos (decide_eq_true (by omega))]
    unfold iAt pL
    cases hx : pV b p with
    | none =>
      obtain ⟨v, a, e⟩ := iV_none hb hw hx
      rw [e, Option.bind_some, if_pos (by rw [room_eq]; omega), w1]
      exact i_L1_bad hb hw P z n hn j (i + 1) a (addVars m [v]) (by omega) (hlen v) hd
    | some x =>
      rw [iV_some hb hw (show pV b p = some (x.1, x.2) from hx), Option.bind_some, if_pos (by rw [room_eq]; omega), w1, Option.bind_some]
      refine (ih (i + 1) x.2 (addVars m [x.1]) (by omega) (hlen _) hd).trans ?_
      cases pL (pV b) j x.2 with
      | none => rfl
      | some y => rw [Option.bind_some]; dsimp only; rw [addVars_cons]; rfl
theorem i_L2_run (hb : b.length ≤ 1048576) (hw : Bytes b) (P : impl_Prog) (z : impl_Mach) (n : Int) (hn : n ≤ 40) : ∀ (j i : Nat) (p : Int) (m : impl_Mach), (i : Int) + j = n → m.State.Cells.length ≤ i → m.Done = [] →
    i_MachOf_L2 b n (i : Int) P z m (iAt b p false) = match pL (pC b) j p with
      | some (l, q) => contI2 b (iAt b q false) P z (addCells m l)
      | none => some (noMach, false, ()) := by
  intro j
  induction j with
  | zero =>
    intro i p m hi hm hd
    rw [i_L2_stop _ _ (by omega)]
    unfold pL
    dsimp only
    rw [addCells_nil]
  | succ j ih =>
    intro i p m hi hm hd
    have w1 : w64 ((i : Int) + 1) = ((i + 1 : Nat) : Int) := by rw [w64_id (by omega) (by omega)]; omega
    have hlen : ∀ v : impl_Cell, (addCells m [v]).State.Cells.length ≤ i + 1 := fun v => by unfold addCells; dsimp only; rw [List.length_append]; simp only [List.length_cons, List.length_nil]; omega
    have hr : m.State.Cells.length + 1 ≤ room := by rw [room_eq]; omega
    have hpC : pC b p = (pN b p).bind fun x => (pT b x.2).bind fun y => (pV b y.2).bind fun z => some (⟨x.1, y.1, z.1⟩, z.2) := rfl
    rw [i_MachOf_L2_eq, if_pos (decide_eq_true (by omega))]
    unfold iAt pL
    simp only [if_pos hr]
    rw [hpC]
    cases hu : pN b p with
    | none =>
      rw [iN_none hb hw hu, Option.bind_some]
      dsimp only
      rw [iT_bad hb hw, Option.bind_some]
      dsimp only
      obtain ⟨v, a, e⟩ := iV_bad hb hw (b := b) (p := p)
      rw [e, Option.bind_some, w1]
      exact i_L2_bad hb hw P z n hn j (i + 1) a (addCells m [⟨0, [], v⟩]) (by omega) (hlen _) hd
    | some u =>
      have a1 := pN_spec hw (show pN b p = some (u.1, u.2) from hu)
      rw [iN_some hb hw (show pN b p = some (u.1, u.2) from hu), if_neg (by omega), Option.bind_some, Option.bind_some]
      dsimp only
      cases hv : pT b u.2 with
      | none =>
        rw [iT_none hb hw hv, Option.bind_some]
        dsimp only
        obtain ⟨v, a, e⟩ := iV_bad hb hw (b := b) (p := u.2)
        rw [e, Option.bind_some, w1]
        exact i_L2_bad hb hw P z n hn j (i + 1) a (addCells m [⟨u.1, [], v⟩]) (by omega) (hlen _) hd
      | some v =>
        rw [iT_some hb hw (show pT b u.2 = some (v.1, v.2) from hv), Option.bind_some, Option.bind_some]
        dsimp only
        cases hz : pV b v.2 with
        | none =>
          obtain ⟨v', a, e⟩ := iV_none hb hw hz
          rw [e, Option.bind_some, w1]
          exact i_L2_bad hb hw P z n hn j (i + 1) a (addCells m [⟨u.1, v.1, v'⟩]) (by omega) (hlen _) hd
        | some w =>
          rw [iV_some hb hw (show pV b v.2 = some (w.1, w.2) from hz), Option.bind_some, w1, Option.bind_some, Option.bind_some]
          refine (ih (i + 1) w.2 (addCells m [⟨u.1, v.1, w.1⟩]) (by omega) (hlen _) hd).trans ?_
          dsimp only
          cases pL (pC b) j w.2 with
          | none => rfl
          | some y => rw [Option.bind_some]; dsimp only; rw [addCells_cons]; rfl
theorem i_L3_run (hb : b.length ≤ 1048576) (hw : Bytes b) (P : impl_Prog) (z : impl_Mach) : ∀ (j i : Nat) (p : Int) (m : impl_Mach), i + j = 3 → m.Done.length ≤ i →
    i_MachOf_L3 b (i : Int) P z m (iAt b p false) = match pL (pN b) j p with
      | some (l, q) => contI3 b (iAt b q false) P z (addDone m l)
      | none => some (noMach, false, ()) := by
  intro j
  induction j with
  | zero =>
    intro i p m hi hm
    rw [i_L3_stop _ (by omega)]
    unfold pL
    dsimp only
    rw [addDone_nil]
  | succ j ih =>
    intro i p m hi hm
    have w1 : w64 ((i : Int) + 1) = ((i + 1 : Nat) : Int) := by rw [w64_id (by omega) (by omega)]; omega
    have hlen : ∀ v : Int, (addDone m [v]).Done.length ≤ i + 1 := fun v => by unfold addDone; dsimp only; rw [List.length_append]; simp only [List.length_cons, List.length_nil]; omega
    rw [i_MachOf_L3_eq, if_pos (decide_eq_true (by omega))]
    unfold iAt pL
    cases hx : pN b p with
    | none =>
      rw [iN_none hb hw hx, Option.bind_some, if_pos (by rw [room_eq]; omega), w1]
      exact i_L3_bad hb hw P z j (i + 1) p (addDone m [0]) (by omega) (hlen _)
    | some x =>
      have a1 := pN_spec hw (show pN b p = some (x.1, x.2) from hx)
      rw [iN_some hb hw (show pN b p = some (x.1, x.2) from hx), if_neg (by omega), Option.bind_some, if_pos (by rw [room_eq]; omega), w1, Option.bind_some]
      refine (ih (i + 1) x.2 (addDone m [x.1]) (by omega) (hlen _)).trans ?_
      cases pL (pN b) j x.2 with
      | none => rfl
      | some y => rw [Option.bind_some]; dsimp only; rw [addDone_cons]; rfl
noncomputable def endM (b : List Int) (P : impl_Prog) (x : Option (impl_Mach × Int)) : Option (impl_Mach × Bool × Unit) := match x with
  | none => some (noMach, false, ())
  | some (m, q) => if (!(decide (q = (List.length b : Int)))) = true then some (noMach, false, ()) else (i_MachOk P m).bind fun (r2 : Bool × Unit) => if (!r2.1) = true then some (noMach, false, ()) else some (m, true, ())
theorem i_MachOf_run (hb : b.length ≤ 1048576) (hw : Bytes b) (P : impl_Prog) : i_MachOf P b = some (noMach, false, ()) ∧ (∀ m q, pM b = some (m, q) → 8 < m.State.Vars.length ∨ 40 < m.State.Cells.length) ∨ i_MachOf P b = endM b P (pM b) := by
  rw [i_MachOf_eq]
  unfold pM
  cases hn : pN b 0 with
  | none => right; rw [iN_none hb hw hn, Option.bind_some]; exact i_L1_bad hb hw P z_impl_Mach 0 (by omega) 0 0 0 _ (by omega) (by simp [z_impl_State]) rfl
  | some n =>
    have an := pN_spec hw (show pN b 0 = some (n.1, n.2) from hn)
    rw [iN_some hb hw (show pN b 0 = some (n.1, n.2) from hn), Option.bind_some]
    have pn : PosI b n.2 := ⟨by omega, an.2.2.1⟩
    by_cases c8 : n.1 > 8
    · left
      rw [if_pos c8, Option.bind_some]
      refine ⟨i_L1_bad hb hw P z_impl_Mach 0 (by omega) 0 0 0 _ (by omega) (by simp [z_impl_State]) rfl, fun m q h => .inl ?_⟩
      obtain ⟨vs, hvs, h⟩ := bind_split h
      obtain ⟨k, hk, h⟩ := bind_split h
      obtain ⟨cs, hcs, h⟩ := bind_split h
      obtain ⟨r, hr, h⟩ := bind_split h
      obtain ⟨e, he, h⟩ := bind_split h
      obtain ⟨ds, hds, h⟩ := bind_split h
      obtain ⟨o, ho, h⟩ := bind_split h
      have e1 : (⟨⟨vs.1, cs.1, r.1, e.1⟩, ds.1, o.1⟩ : impl_Mach) = m := congrArg Prod.fst (Option.some.inj h)
      obtain ⟨v1, _⟩ := pL_spec (len := (b.length : Int)) (fun p x q h => ⟨(pV_spec hw h).1, (pV_spec hw h).2.1, (pV_spec hw h).2.2.1⟩) _ _ _ _ (show pL (pV b) n.1.toNat n.2 = some (vs.1, vs.2) from hvs) pn.1 pn.2
      rw [← e1]; dsimp only; omega
    · rw [if_neg c8, Option.bind_some]
      have f1 := i_L1_run hb hw P z_impl_Mach n.1 (by omega) n.1.toNat 0 n.2 ⟨z_impl_State, [], []⟩ (by omega) (by simp [z_impl_State]) rfl
      have f1' : i_MachOf_L1 b n.1 0 P z_impl_Mach ⟨z_impl_State, [], []⟩ ⟨b, n.2, false⟩ = _ := f1
      dsimp only
      rw [f1']
      cases hvs : pL (pV b) n.1.toNat n.2 with
      | none => right; rfl
      | some vs =>
        obtain ⟨v1, v2, v3⟩ := pL_spec (len := (b.length : Int)) (fun p x q h => ⟨(pV_spec hw h).1, (pV_spec hw h).2.1, (pV_spec hw h).2.2.1⟩) _ _ _ _ (show pL (pV b) n.1.toNat n.2 = some (vs.1, vs.2) from hvs) pn.1 pn.2
        have pv : PosI b vs.2 := ⟨by have := pn.1; omega, v3⟩
        rw [Option.bind_some]
        dsimp only
        unfold contI1 iAt
        cases hk : pN b vs.2 with
        | none =>
          right
          rw [iN_none hb hw hk, Option.bind_some]
          exact i_L2_bad hb hw P z_impl_Mach 0 (by omega) 0 0 vs.2 (addVars ⟨z_impl_State, [], []⟩ vs.1) (by omega) (by simp [addVars, z_impl_State]) rfl
        | some k =>
          have ak := pN_spec hw (show pN b vs.2 = some (k.1, k.2) from hk)
          have pk : PosI b k.2 := ⟨by omega, ak.2.2.1⟩
          rw [iN_some hb hw (show pN b vs.2 = some (k.1, k.2) from hk)]
          by_cases c40 : k.1 > 40
          · left
            rw [if_pos c40, Option.bind_some]
            refine ⟨i_L2_bad hb hw P z_impl_Mach 0 (by omega) 0 0 vs.2 (addVars ⟨z_impl_State, [], []⟩ vs.1) (by omega) (by simp [addVars, z_impl_State]) rfl, fun m q h => .inr ?_⟩
            rw [Option.bind_some] at h
            obtain ⟨cs, hcs, h⟩ := bind_split h
            obtain ⟨r, hr, h⟩ := bind_split h
            obtain ⟨e, he, h⟩ := bind_split h
            obtain ⟨ds, hds, h⟩ := bind_split h
            obtain ⟨o, ho, h⟩ := bind_split h
            have e1 : (⟨⟨vs.1, cs.1, r.1, e.1⟩, ds.1, o.1⟩ : impl_Mach) = m := congrArg Prod.fst (Option.some.inj h)
            obtain ⟨c1, _⟩ := pL_spec (len := (b.length : Int)) (fun p x q h => ⟨(pC_spec hw h).1, (pC_spec hw h).2.1, (pC_spec hw h).2.2.1⟩) _ _ _ _ (show pL (pC b) k.1.toNat k.2 = some (cs.1, cs.2) from hcs) pk.1 pk.2
            rw [← e1]; dsimp only; omega
          · right
            rw [if_neg c40, Option.bind_some, Option.bind_some]
            have f2 := i_L2_run hb hw P z_impl_Mach k.1 (by omega) k.1.toNat 0 k.2 (addVars ⟨z_impl_State, [], []⟩ vs.1) (by omega) (by simp [addVars, z_impl_State]) rfl
            have f2' : i_MachOf_L2 b k.1 0 P z_impl_Mach (addVars ⟨z_impl_State, [], []⟩ vs.1) ⟨b, k.2, false⟩ = _ := f2
            dsimp only
            rw [f2']
            cases hcs : pL (pC b) k.1.toNat k.2 with
            | none => rfl
            | some cs =>
              rw [Option.bind_some]
              dsimp only
              unfold contI2 iAt
              cases hr : pN b cs.2 with
              | none =>
                rw [iN_none hb hw hr, Option.bind_some]
                dsimp only
                rw [iN_bad hb hw, Option.bind_some]
                exact i_L3_bad hb hw P z_impl_Mach 3 0 cs.2 _ (by omega) (by simp [addCells, addVars])
              | some r =>
                have ar := pN_spec hw (show pN b cs.2 = some (r.1, r.2) from hr)
                rw [iN_some hb hw (show pN b cs.2 = some (r.1, r.2) from hr), if_neg (by omega), Option.bind_some, Option.bind_some]
                dsimp only
                cases he : pN b r.2 with
                | none =>
                  rw [iN_none hb hw he, Option.bind_some]
                  exact i_L3_bad hb hw P z_impl_Mach 3 0 r.2 _ (by omega) (by simp [addCells, addVars])
                | some e =>
                  have ae := pN_spec hw (show pN b r.2 = some (e.1, e.2) from he)
                  rw [iN_some hb hw (show pN b r.2 = some (e.1, e.2) from he), if_neg (by omega), Option.bind_some, Option.bind_some]
                  have f3 := i_L3_run hb hw P z_impl_Mach 3 0 e.2 ⟨⟨vs.1, cs.1, r.1, e.1⟩, [], []⟩ (by omega) (by simp)
                  refine Eq.trans f3 ?_
                  cases hds : pL (pN b) 3 e.2 with
                  | none => rfl
                  | some ds =>
                    rw [Option.bind_some]
                    dsimp only
                    unfold contI3 iAt
                    cases ho : pT b ds.2 with
                    | none => rw [iT_none hb hw ho]; rfl
                    | some o => rw [iT_some hb hw (show pT b ds.2 = some (o.1, o.2) from ho), Option.bind_some]; rfl
theorem pM_big (hb : b.length ≤ 1048576) (hw : Bytes b) {m : impl_Mach} {q : Int} (h : pM b = some (m, q)) : BMach m := by
  unfold pM at h
  obtain ⟨n, hn, h⟩ := bind_split h
  obtain ⟨vs, hvs, h⟩ := bind_split h
  obtain ⟨k, hk, h⟩ := bind_split h
  obtain ⟨cs, hcs, h⟩ := bind_split h
  obtain ⟨r, hr, h⟩ := bind_split h
  obtain ⟨e, he, h⟩ := bind_split h
  obtain ⟨ds, hds, h⟩ := bind_split h
  obtain ⟨o, ho, h⟩ := bind_split h
  have e1 : (⟨⟨vs.1, cs.1, r.1, e.1⟩, ds.1, o.1⟩ : impl_Mach) = m := congrArg Prod.fst (Option.some.inj h)
  have an := pN_spec hw (show pN b 0 = some (n.1, n.2) from hn)
  have pn : PosI b n.2 := ⟨by omega, an.2.2.1⟩
  obtain ⟨v1, v2, v3⟩ := pL_spec (len := (b.length : Int)) (fun p x q h => ⟨(pV_spec hw h).1, (pV_spec hw h).2.1, (pV_spec hw h).2.2.1⟩) _ _ _ _ (show pL (pV b) n.1.toNat n.2 = some (vs.1, vs.2) from hvs) pn.1 pn.2
  have ak := pN_spec hw (show pN b vs.2 = some (k.1, k.2) from hk)
  have pk : PosI b k.2 := ⟨by omega, ak.2.2.1⟩
  obtain ⟨c1, c2, c3⟩ := pL_spec (len := (b.length : Int)) (fun p x q h => ⟨(pC_spec hw h).1, (pC_spec hw h).2.1, (pC_spec hw h).2.2.1⟩) _ _ _ _ (show pL (pC b) k.1.toNat k.2 = some (cs.1, cs.2) from hcs) pk.1 pk.2
  have ar := pN_spec hw (show pN b cs.2 = some (r.1, r.2) from hr)
  have ae := pN_spec hw (show pN b r.2 = some (e.1, e.2) from he)
  have pe : PosI b e.2 := ⟨by omega, ae.2.2.1⟩
  obtain ⟨d1, d2, d3⟩ := pL_spec (len := (b.length : Int)) (fun p x q h => ⟨(pN_spec hw h).1, (pN_spec hw h).2.1, (pN_spec hw h).2.2.1⟩) _ _ _ _ (show pL (pN b) 3 e.2 = some (ds.1, ds.2) from hds) pe.1 pe.2
  have ao := pT_spec hw (show pT b ds.2 = some (o.1, o.2) from ho)
  have pn1 := pn.1
  have pk1 := pk.1
  rw [← e1]
  exact ⟨⟨⟨by show vs.1.length ≤ _; omega, pL_all (Q := fun v => Bt v.S) (fun p x q h => (pV_spec hw h).2.2.2.2.2) _ _ _ _ (show pL (pV b) n.1.toNat n.2 = some (vs.1, vs.2) from hvs)⟩, by show cs.1.length ≤ _; omega, pL_all (Q := fun c => Bt c.Val.S) (fun p x q h => (pC_spec hw h).2.2.2.2.2.2) _ _ _ _ (show pL (pC b) k.1.toNat k.2 = some (cs.1, cs.2) from hcs)⟩, by show ds.1.length ≤ _; omega, by show o.1.length ≤ _; omega⟩
def MachFineOr (m : impl_Mach) : Prop := m = noMach ∨ (MachFine m ∧ BMach m)
theorem machOf_same (hb : b.length ≤ 1048576) (hw : Bytes b) (P : impl_Prog) (hp : BProg P) : ∃ m ok, s_MachOf P b = some (m, ok, ()) ∧ i_MachOf P b = some (m, ok, ()) ∧ MachFineOr m := by
  have hs : s_MachOf P b = endM b P (pM b) := by
    rw [s_MachOf_eq]
    cases h : pM b with
    | none =>
      obtain ⟨m, a, e⟩ := sMach_none hb hw h
      rw [e]; rfl
    | some x =>
      have hm := pM_big hb hw (show pM b = some (x.1, x.2) from h)
      rw [sMach_some hb hw (show pM b = some (x.1, x.2) from h), Option.bind_some]
      unfold endM
      dsimp only
      rw [s_MachOk_ok P _ hp hm.1 hm.2.1, i_MachOk_ok P _ hp hm.1 hm.2.1]
      rfl
  have hend : ∀ x, (∀ m q, x = some (m, q) → BMach m) → ∃ m ok, endM b P x = some (m, ok, ()) ∧ MachFineOr m := by
    intro x hx
    cases x with
    | none => exact ⟨_, _, rfl, .inl rfl⟩
    | some x =>
      have hm := hx x.1 x.2 rfl
      unfold endM
      dsimp only
      cases hq : decide (x.2 = (b.length : Int)) with
      | false => exact ⟨_, _, rfl, .inl rfl⟩
      | true =>
        rw [if_neg (by simp), i_MachOk_ok P _ hp hm.1 hm.2.1, Option.bind_some]
        cases hB : machB P x.1 with
        | false => exact ⟨_, _, rfl, .inl rfl⟩
        | true => exact ⟨_, _, rfl, .inr ⟨machB_fine hB, hm⟩⟩
  obtain ⟨m, ok, e, hf⟩ := hend (pM b) (fun m q h => pM_big hb hw h)
  refine ⟨m, ok, by rw [hs, e], ?_, hf⟩
  rcases i_MachOf_run hb hw P with ⟨h1, h2⟩ | h1
  · rw [h1]
    cases h : pM b with
    | none => rw [h] at e; exact e
    | some x =>
      rw [h] at e
      have hm := pM_big hb hw (show pM b = some (x.1, x.2) from h)
      have hf' : machB P x.1 = false := by
        cases hB : machB P x.1 with
        | false => rfl
        | true =>
          have := machB_fine hB
          rcases h2 x.1 x.2 h with h3 | h3
          · have := this.1; omega
          · have := this.2.2.1; omega
      unfold endM at e
      dsimp only at e
      rw [i_MachOk_ok P _ hp hm.1 hm.2.1, hf'] at e
      cases hq : decide (x.2 = (b.length : Int)) with
      | false => rw [hq] at e; exact e
      | true => rw [hq] at e; exact e
  · rw [h1]; exact e
end Go.Proofs.YtonmohpdmhfjnaaGreatDoor.E.TM
