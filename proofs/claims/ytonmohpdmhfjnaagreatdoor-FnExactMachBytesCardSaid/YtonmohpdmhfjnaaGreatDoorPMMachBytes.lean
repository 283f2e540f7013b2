/- The bytes of a machine: the program and the reference put the same. No condition but lengths and bytes. -/
import Derived.Test.YtonmohpdmhfjnaaGreatDoorPMPeerOk
import Derived.Test.YtonmohpdmhfjnaaGreatDoorPMPutNum
import Derived.Test.YtonmohpdmhfjnaaGreatDoorPMRound
import Derived.Test.YtonmohpdmhfjnaaGreatDoorTMe1
import Derived.Test.YtonmohpdmhfjnaaGreatDoorTMe2
import Derived.Test.YtonmohpdmhfjnaaGreatDoorTMe3
namespace Go.Proofs.YtonmohpdmhfjnaaGreatDoor.E.TM
open Go.Proofs.YtonmohpdmhfjnaaGreatDoor.E
set_option linter.unusedVariables false
theorem fold_loop {α β ρ : Type} (F : β → Int → Option ρ) (g : β → α → β) (l : List α) (P : Nat → β → Prop)
    (step : ∀ (i : Nat) (h : i < l.length) (acc : β), P i acc → F acc i = F (g acc l[i]) ((i + 1 : Nat) : Int) ∧ P (i + 1) (g acc l[i])) (acc : β) (h0 : P 0 acc) :
    F acc 0 = F (l.foldl g acc) (l.length : Int) ∧ P l.length (l.foldl g acc) := by
  have key : ∀ (d i : Nat) (acc : β), i + d = l.length → P i acc → F acc i = F ((l.drop i).foldl g acc) (l.length : Int) ∧ P l.length ((l.drop i).foldl g acc) := by
    intro d
    induction d with
    | zero =>
      intro i acc hd hp
      have hi : i = l.length := by omega
      subst hi
      rw [List.drop_length]; exact ⟨rfl, hp⟩
    | succ d ih =>
      intro i acc hd hp
      have hi : i < l.length := by omega
      obtain ⟨e1, e2⟩ := step i hi acc hp
      rw [e1, List.drop_eq_getElem_cons hi, List.foldl_cons]
      exact ih (i + 1) _ (by omega) e2
  exact key l.length 0 acc (by omega) h0
theorem putInt_len (n : Int) : (putInt n).length ≤ 9 := by
  unfold putInt
  split
  · exact putNumOf_len _
  · simp
def valBytes (v : impl_Val) : List Int := (putNumOf v.Kind ++ putInt v.N) ++ putText v.S
theorem valBytes_len (v : impl_Val) : (valBytes v).length ≤ 27 + v.S.length := by
  unfold valBytes
  have h1 := putNumOf_len v.Kind
  have h2 := putInt_len v.N
  have h3 := putText_len v.S
  rw [List.length_append, List.length_append]; omega
theorem lenA {α : Type} (a b : List α) : (List.append a b).length = a.length + b.length := List.length_append
theorem s_l17Val_ok (v : impl_Val) (h : v.S.length ≤ 2097152) : s_l17Val v = some (valBytes v, ()) := by
  have h1 := putNumOf_len v.Kind
  have h2 := putInt_len v.N
  have h3 := putText_len v.S
  rw [s_l17Val_eq, s_PutNum_ok, s_PutInt_ok, s_PutText_ok _ (by omega), Option.bind_some, Option.bind_some]
  dsimp only
  rw [if_pos (by rw [room_eq]; omega), Option.bind_some, if_pos (by rw [room_eq, lenA]; dsimp only; omega)]
  rfl
theorem i_putVal_ok (out : List Int) (v : impl_Val) (ho : out.length ≤ 2000000000) (h : v.S.length ≤ 2097152) : i_putVal out v = some (out ++ valBytes v, ()) := by
  have h1 := putNumOf_len v.Kind
  have h2 := putInt_len v.N
  have h3 := putText_len v.S
  rw [i_putVal_eq, i_PutNum_ok, i_PutInt_ok, i_PutText_ok _ (by omega), Option.bind_some, Option.bind_some]
  dsimp only
  rw [if_pos (by rw [room_eq]; omega), if_pos (by rw [room_eq, lenA]; omega), Option.bind_some, if_pos (by rw [room_eq, lenA, lenA]; dsimp only; omega)]
  unfold valBytes
  rw [← List.append_assoc, ← List.append_assoc]
  rfl
def addV (a : List Int) (v : impl_Val) : List Int := a ++ valBytes v
def addC (a : List Int) (c : impl_Cell) : List Int := ((a ++ putNumOf c.Name) ++ putText c.Key) ++ valBytes c.Val
def addN (a : List Int) (n : Int) : List Int := a ++ putNumOf n
def bytesV (m : impl_Mach) : List Int := m.State.Vars.foldl addV (putNumOf (m.State.Vars.length : Int)) ++ putNumOf (m.State.Cells.length : Int)
def bytesC (m : impl_Mach) : List Int := ((m.State.Cells.foldl addC (bytesV m)) ++ putNumOf m.State.Nr) ++ putNumOf m.State.Err
def machBytes (m : impl_Mach) : List Int := m.Done.foldl addN (bytesC m) ++ putText m.Out
def MachFine (m : impl_Mach) : Prop :=
  m.State.Vars.length ≤ 8 ∧ (∀ v ∈ m.State.Vars, v.S.length ≤ 300) ∧ m.State.Cells.length ≤ 40 ∧ (∀ c ∈ m.State.Cells, c.Key.length ≤ 300 ∧ c.Val.S.length ≤ 300) ∧ m.Done.length = 3 ∧ m.Out.length ≤ 1500
theorem and_iff' {a b : Bool} : (a && b) = true ↔ a = true ∧ b = true := by cases a <;> cases b <;> simp
theorem valB_len {v : impl_Val} (h : valB v = true) : v.S.length ≤ 300 := by
  unfold valB at h
  have h1 := (and_iff'.1 (and_iff'.1 h).1).2
  by_cases c : (v.S.length : Int) > 300
  · rw [decide_eq_true c] at h1; cases h1
  · omega
theorem not_true' {a : Bool} (h : (!a) = true) : a = false := by cases a with
  | true => cases h
  | false => rfl
theorem any_false {α : Type} {l : List α} {p : α → Bool} (h : l.any p = false) : ∀ x ∈ l, p x = false := by
  intro x hx
  cases e : p x with
  | false => rfl
  | true =>
    have : l.any p = true := List.any_eq_true.2 ⟨x, hx, e⟩
    rw [h] at this; cases this
theorem stateB_fine {s : impl_State} {v c : Int} (h : stateB s v c = true) : (s.Vars.length : Int) = v ∧ (∀ x ∈ s.Vars, valB x = true) ∧ s.Cells.length ≤ 40 ∧ (∀ x ∈ s.Cells, x.Key.length ≤ 300 ∧ valB x.Val = true ∧ 0 ≤ x.Name ∧ x.Name < c) ∧ (0 ≤ s.Nr ∧ s.Nr ≤ 1000000) ∧ (0 ≤ s.Err ∧ s.Err ≤ 7) := by
  unfold stateB at h
  obtain ⟨a1, h⟩ := and_iff'.1 h
  obtain ⟨a2, h⟩ := and_iff'.1 h
  obtain ⟨a3, h⟩ := and_iff'.1 h
  obtain ⟨a4, h⟩ := and_iff'.1 h
  obtain ⟨a5, a6⟩ := and_iff'.1 h
  have a3' := of_decide_eq_true a3
  refine ⟨of_decide_eq_true a1, fun x hx => ?_, by omega, fun x hx => ?_, of_decide_eq_true a4, of_decide_eq_true a5⟩
  · have := any_false (not_true' a2) x hx
    cases e : valB x with
    | true => rfl
    | false => rw [e] at this; cases this
  · obtain ⟨i, hi, rfl⟩ := List.mem_iff_getElem.1 hx
    have := anyB_false.1 (not_true' a6) i hi
    unfold cellBad at this
    rw [getD_lt hi, Bool.or_eq_false_iff, Bool.or_eq_false_iff, Bool.or_eq_false_iff, Bool.or_eq_false_iff] at this
    obtain ⟨b1, b2, b3, b4, _⟩ := this
    have b1' := of_decide_eq_false b1
    have b2' := of_decide_eq_false b2
    have b3' := of_decide_eq_false b3
    refine ⟨by omega, ?_, by omega, by omega⟩
    cases e : valB s.Cells[i].Val with
    | true => rfl
    | false => rw [e] at b4; cases b4
theorem machB_fine {p : impl_Prog} {m : impl_Mach} (h : machB p m = true) : MachFine m := by
  unfold machB at h
  obtain ⟨h1, h⟩ := and_iff'.1 h
  obtain ⟨h2, h⟩ := and_iff'.1 h
  obtain ⟨h3, h⟩ := and_iff'.1 h
  obtain ⟨h4, h5⟩ := and_iff'.1 h
  obtain ⟨s1, s2, s3, s4, s5⟩ := stateB_fine h2
  unfold progB namesB at h1
  have hv := of_decide_eq_true (and_iff'.1 (and_iff'.1 h1).1).2
  have h3' := of_decide_eq_true h3
  have h5' := of_decide_eq_true h5
  exact ⟨by omega, fun v hv => valB_len (s2 v hv), s3, fun c hc => ⟨(s4 c hc).1, valB_len (s4 c hc).2.1⟩, by omega, by omega⟩
theorem foldV_len (l : List impl_Val) (h : ∀ v ∈ l, v.S.length ≤ 300) : ∀ acc : List Int, (l.foldl addV acc).length ≤ acc.length + 327 * l.length := by
  induction l with
  | nil => intro acc; simp
  | cons v l ih =>
    intro acc
    have h1 := ih (fun x hx => h x (List.mem_cons_of_mem _ hx)) (addV acc v)
    have h2 := valBytes_len v
    have h3 := h v (List.mem_cons_self ..)
    have h4 : (addV acc v).length = acc.length + (valBytes v).length := by unfold addV; rw [List.length_append]
    rw [List.foldl_cons, List.length_cons]; omega
theorem addC_len (a : List Int) (c : impl_Cell) (h : c.Key.length ≤ 300 ∧ c.Val.S.length ≤ 300) : (addC a c).length ≤ a.length + 645 := by
  unfold addC
  have h1 := putNumOf_len c.Name
  have h2 := putText_len c.Key
  have h3 := valBytes_len c.Val
  rw [List.length_append, List.length_append, List.length_append]; omega
theorem foldC_len (l : List impl_Cell) (h : ∀ c ∈ l, c.Key.length ≤ 300 ∧ c.Val.S.length ≤ 300) : ∀ acc : List Int, (l.foldl addC acc).length ≤ acc.length + 645 * l.length := by
  induction l with
  | nil => intro acc; simp
  | cons v l ih =>
    intro acc
    have h1 := ih (fun x hx => h x (List.mem_cons_of_mem _ hx)) (addC acc v)
    have h2 := addC_len acc v (h v (List.mem_cons_self ..))
    rw [List.foldl_cons, List.length_cons]; omega
theorem foldN_len (l : List Int) : ∀ acc : List Int, (l.foldl addN acc).length ≤ acc.length + 9 * l.length := by
  induction l with
  | nil => intro acc; simp
  | cons v l ih =>
    intro acc
    have h1 := ih (addN acc v)
    have h2 := putNumOf_len v
    have h4 : (addN acc v).length = acc.length + (putNumOf v).length := by unfold addN; rw [List.length_append]
    rw [List.foldl_cons, List.length_cons]; omega
theorem bytesV_len {m : impl_Mach} (h : MachFine m) : (bytesV m).length ≤ 2700 := by
  obtain ⟨h1, h2, h3, h4, h5, h6⟩ := h
  unfold bytesV
  have a1 := foldV_len _ h2 (putNumOf (m.State.Vars.length : Int))
  have a2 := putNumOf_len (m.State.Vars.length : Int)
  have a3 := putNumOf_len (m.State.Cells.length : Int)
  rw [List.length_append]; omega
theorem bytesC_len {m : impl_Mach} (h : MachFine m) : (bytesC m).length ≤ 28600 := by
  have hv := bytesV_len h
  obtain ⟨h1, h2, h3, h4, h5, h6⟩ := h
  unfold bytesC
  have a1 := foldC_len _ h4 (bytesV m)
  have a2 := putNumOf_len m.State.Nr
  have a3 := putNumOf_len m.State.Err
  rw [List.length_append, List.length_append]; omega
theorem s_l17Bytes_ok (m : impl_Mach) (h : MachFine m) : s_l17Bytes m = some (machBytes m, ()) := by
  have hv := bytesV_len h
  have hc := bytesC_len h
  obtain ⟨h1, h2, h3, h4, h5, h6⟩ := h
  rw [s_l17Bytes_eq, s_PutNum_ok, Option.bind_some]
  dsimp only
  have a2 := putNumOf_len (m.State.Vars.length : Int)
  obtain ⟨f1, _⟩ := fold_loop (fun acc i => s_l17Bytes_L1 acc i m m.State) addV m.State.Vars (fun i acc => acc.length ≤ 9 + 400 * i) (fun i hi acc hp => by
    have hS := h2 _ (List.getElem_mem hi)
    have hv := valBytes_len m.State.Vars[i]
    refine ⟨?_, by show (acc ++ valBytes m.State.Vars[i]).length ≤ _; rw [List.length_append]; omega⟩
    show s_l17Bytes_L1 acc i m m.State = s_l17Bytes_L1 _ _ m m.State
    rw [s_l17Bytes_L1_eq, if_pos (decide_eq_true (by omega)), if_pos (by omega), getD_nat hi, s_l17Val_ok _ (by omega), Option.bind_some, if_pos (by rw [room_eq]; dsimp only; omega), w64_succ hi (by omega)]
    rfl) (putNumOf (m.State.Vars.length : Int)) (by omega)
  rw [f1, s_l17Bytes_L1_eq, if_neg (by simp), s_PutNum_ok, Option.bind_some]
  dsimp only
  have e1 : List.append (m.State.Vars.foldl addV (putNumOf (m.State.Vars.length : Int))) (putNumOf (m.State.Cells.length : Int)) = bytesV m := rfl
  rw [if_pos (by have := congrArg List.length e1; rw [lenA] at this; rw [room_eq]; omega), e1]
  obtain ⟨f2, _⟩ := fold_loop (fun acc i => s_l17Bytes_L2 acc i m m.State) addC m.State.Cells (fun i acc => acc.length ≤ 2700 + 700 * i) (fun i hi acc hp => by
    have hS := h4 _ (List.getElem_mem hi)
    have hp' : acc.length ≤ 2700 + 700 * i := hp
    refine ⟨?_, Nat.le_trans (addC_len acc _ hS) (by omega)⟩
    show s_l17Bytes_L2 acc i m m.State = s_l17Bytes_L2 _ _ m m.State
    have q1 := putNumOf_len m.State.Cells[i].Name
    have q2 := putText_len m.State.Cells[i].Key
    have q3 := valBytes_len m.State.Cells[i].Val
    have hb : (0 : Int) ≤ (i : Int) ∧ (i : Int) < (m.State.Cells.length : Int) := by omega
    rw [s_l17Bytes_L2_eq, if_pos (decide_eq_true (by omega)), getD_nat hi]
    simp only [if_pos hb]
    rw [s_PutNum_ok, Option.bind_some, if_pos (by rw [room_eq]; dsimp only; omega), s_PutText_ok _ (by omega), Option.bind_some, if_pos (by rw [room_eq, lenA]; dsimp only; omega), s_l17Val_ok _ (by omega), Option.bind_some, if_pos (by rw [room_eq, lenA, lenA]; dsimp only; omega), w64_succ hi (by omega)]
    rfl) (bytesV m) (by omega)
  rw [f2, s_l17Bytes_L2_eq, if_neg (by simp), s_PutNum_ok, Option.bind_some]
  dsimp only
  have e2 : List.append (List.append (m.State.Cells.foldl addC (bytesV m)) (putNumOf m.State.Nr)) (putNumOf m.State.Err) = bytesC m := rfl
  have e2l := congrArg List.length e2
  rw [lenA, lenA] at e2l
  rw [if_pos (by rw [room_eq]; omega), s_PutNum_ok, Option.bind_some]
  dsimp only
  rw [if_pos (by rw [room_eq, lenA]; omega), e2]
  obtain ⟨f3, _⟩ := fold_loop (fun acc i => s_l17Bytes_L3 acc i m) addN m.Done (fun i acc => acc.length ≤ 28600 + 9 * i) (fun i hi acc hp => by
    have q1 := putNumOf_len m.Done[i]
    refine ⟨?_, by show (acc ++ putNumOf m.Done[i]).length ≤ _; rw [List.length_append]; omega⟩
    show s_l17Bytes_L3 acc i m = s_l17Bytes_L3 _ _ m
    rw [s_l17Bytes_L3_eq, if_pos (decide_eq_true (by omega)), if_pos (by omega), getD_nat hi, s_PutNum_ok, Option.bind_some, if_pos (by rw [room_eq]; dsimp only; omega), w64_succ hi (by omega)]
    rfl) (bytesC m) (by omega)
  have q4 := putText_len m.Out
  have q5 := foldN_len m.Done (bytesC m)
  rw [f3, s_l17Bytes_L3_eq, if_neg (by simp), s_PutText_ok _ (by omega), Option.bind_some, if_pos (by rw [room_eq]; dsimp only; omega)]
  rfl
theorem machBytes_len {m : impl_Mach} (h : MachFine m) : (machBytes m).length ≤ 30200 := by
  have hc := bytesC_len h
  obtain ⟨h1, h2, h3, h4, h5, h6⟩ := h
  unfold machBytes
  have q4 := putText_len m.Out
  have q5 := foldN_len m.Done (bytesC m)
  rw [List.length_append]; omega
theorem i_bytes_ok (m : impl_Mach) (h : MachFine m) : i_MachBytes_L1 (putNumOf (m.State.Vars.length : Int)) m.State.Vars (m.State.Vars.length : Int) 0 m = some (machBytes m, ()) := by
  have hv := bytesV_len h
  have hc := bytesC_len h
  obtain ⟨h1, h2, h3, h4, h5, h6⟩ := h
  have a2 := putNumOf_len (m.State.Vars.length : Int)
  obtain ⟨f1, _⟩ := fold_loop (fun acc i => i_MachBytes_L1 acc m.State.Vars (m.State.Vars.length : Int) i m) addV m.State.Vars (fun i acc => acc.length ≤ 9 + 400 * i) (fun i hi acc hp => by
    have hS := h2 _ (List.getElem_mem hi)
    have hv := valBytes_len m.State.Vars[i]
    refine ⟨?_, by show (acc ++ valBytes m.State.Vars[i]).length ≤ _; rw [List.length_append]; omega⟩
    show i_MachBytes_L1 acc m.State.Vars _ i m = i_MachBytes_L1 _ _ _ _ m
    rw [i_MachBytes_L1_eq, if_pos (decide_eq_true (by omega)), if_pos (by omega), getD_nat hi, i_putVal_ok _ _ (by omega) (by omega), Option.bind_some, w64_succ hi (by omega)]
    rfl) (putNumOf (m.State.Vars.length : Int)) (by omega)
  rw [f1, i_MachBytes_L1_eq, if_neg (by simp), i_PutNum_ok, Option.bind_some]
  dsimp only
  have e1 : List.append (m.State.Vars.foldl addV (putNumOf (m.State.Vars.length : Int))) (putNumOf (m.State.Cells.length : Int)) = bytesV m := rfl
  rw [if_pos (by have := congrArg List.length e1; rw [lenA] at this; rw [room_eq]; omega), e1]
  obtain ⟨f2, _⟩ := fold_loop (fun acc i => i_MachBytes_L2 acc m.State.Cells (m.State.Cells.length : Int) i m) addC m.State.Cells (fun i acc => acc.length ≤ 2700 + 700 * i) (fun i hi acc hp => by
    have hS := h4 _ (List.getElem_mem hi)
    have hp' : acc.length ≤ 2700 + 700 * i := hp
    refine ⟨?_, Nat.le_trans (addC_len acc _ hS) (by omega)⟩
    show i_MachBytes_L2 acc m.State.Cells _ i m = i_MachBytes_L2 _ _ _ _ m
    have q1 := putNumOf_len m.State.Cells[i].Name
    have q2 := putText_len m.State.Cells[i].Key
    have q3 := valBytes_len m.State.Cells[i].Val
    rw [i_MachBytes_L2_eq, if_pos (decide_eq_true (by omega)), if_pos (by omega), getD_nat hi, i_PutNum_ok, Option.bind_some, if_pos (by rw [room_eq]; dsimp only; omega), i_PutText_ok _ (by omega), Option.bind_some, if_pos (by rw [room_eq, lenA]; dsimp only; omega), i_putVal_ok _ _ (by rw [lenA, lenA]; dsimp only; omega) (by omega), Option.bind_some, w64_succ hi (by omega)]
    rfl) (bytesV m) (by omega)
  rw [f2, i_MachBytes_L2_eq, if_neg (by simp), i_PutNum_ok, Option.bind_some]
  dsimp only
  have e2 : List.append (List.append (m.State.Cells.foldl addC (bytesV m)) (putNumOf m.State.Nr)) (putNumOf m.State.Err) = bytesC m := rfl
  have e2l := congrArg List.length e2
  rw [lenA, lenA] at e2l
  rw [if_pos (by rw [room_eq]; omega), i_PutNum_ok, Option.bind_some]
  dsimp only
  rw [if_pos (by rw [room_eq, lenA]; omega), e2]
  obtain ⟨f3, _⟩ := fold_loop (fun acc i => i_MachBytes_L3 acc m.Done (m.Done.length : Int) i m) addN m.Done (fun i acc => acc.length ≤ 28600 + 9 * i) (fun i hi acc hp => by
    have q1 := putNumOf_len m.Done[i]
    refine ⟨?_, by show (acc ++ putNumOf m.Done[i]).length ≤ _; rw [List.length_append]; omega⟩
    show i_MachBytes_L3 acc m.Done _ i m = i_MachBytes_L3 _ _ _ _ m
    rw [i_MachBytes_L3_eq, if_pos (decide_eq_true (by omega)), if_pos (by omega), getD_nat hi, i_PutNum_ok, Option.bind_some, if_pos (by rw [room_eq]; dsimp only; omega), w64_succ hi (by omega)]
    rfl) (bytesC m) (by omega)
  have q4 := putText_len m.Out
  have q5 := foldN_len m.Done (bytesC m)
  rw [f3, i_MachBytes_L3_eq, if_neg (by simp), i_PutText_ok _ (by omega), Option.bind_some, if_pos (by rw [room_eq]; dsimp only; omega)]
  rfl
noncomputable def machBytesP (p : impl_Prog) (m : impl_Mach) : List Int := if machB p m = true then machBytes m else []
theorem i_MachBytes_ok (p : impl_Prog) (m : impl_Mach) (hp : BProg p) (hm : BMach m) : i_MachBytes p m = some (machBytesP p m, ()) := by
  rw [i_MachBytes_eq, i_MachOk_ok p m hp hm.1 hm.2.1, Option.bind_some]
  dsimp only
  unfold machBytesP
  cases h : machB p m with
  | false => rfl
  | true =>
    have hf := machB_fine h
    rw [if_neg (c := (!true) = true) (by simp), if_pos (c := true = true) rfl, i_PutNum_ok, Option.bind_some]
    exact i_bytes_ok m hf
theorem s_MachBytes_ok (p : impl_Prog) (m : impl_Mach) (hp : BProg p) (hm : BMach m) : s_MachBytes p m = some (machBytesP p m, ()) := by
  rw [s_MachBytes_eq, s_MachOk_ok p m hp hm.1 hm.2.1, Option.bind_some]
  dsimp only
  unfold machBytesP
  cases h : machB p m with
  | false => rfl
  | true =>
    have hf := machB_fine h
    rw [if_neg (c := (!true) = true) (by simp), if_pos (c := true = true) rfl, s_l17Bytes_ok m hf, Option.bind_some]
theorem machBytes_ok (p : impl_Prog) (m : impl_Mach) (hp : BProg p) (hm : BMach m) : s_MachBytes p m = some (machBytesP p m, ()) ∧ i_MachBytes p m = some (machBytesP p m, ()) := ⟨s_MachBytes_ok p m hp hm, i_MachBytes_ok p m hp hm⟩
end Go.Proofs.YtonmohpdmhfjnaaGreatDoor.E.TM
