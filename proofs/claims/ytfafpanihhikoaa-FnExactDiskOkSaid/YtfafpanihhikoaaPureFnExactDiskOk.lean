/- For every disk the program's DiskOk returns what the reference's returns, and writes nothing into its argument; no condition. -/
import Derived.Test.YtfafpanihhikoaaQFnExactDiskOk
import Derived.Test.YtfafpanihhikoaaBase
namespace Go.Proofs.Ytfafpanihhikoaa.Pure
open Go.RowKit Go.Proofs.Ytfafpanihhikoaa.Base Go.Proofs.Ytfafpanihhikoaa.PFnExactDiskOk Go.Proofs.YtfafpanihhikoaaW.PrintWords Go.Proofs.YtfafpanihhikoaaW.PrintLast Go.Proofs.YtfafpanihhikoaaW.PrintMore Go.Proofs.Ytfafpanihhikoaa.QFnExactDiskOk
set_option linter.unusedVariables false
theorem impl_in_eq (a b c : Int) : impl_in.f a b c = some (decide (b ≤ a ∧ a ≤ c)) := by
  unfold impl_in.f
  by_cases h : a ≥ b
  · rw [if_pos h]; simp [show b ≤ a from h]
  · rw [if_neg h]; simp [show ¬ b ≤ a from h]
theorem spec_in_eq (a b c : Int) : spec_l1In.f a b c = some (decide (b ≤ a ∧ a ≤ c)) := by
  unfold spec_l1In.f
  by_cases h : a ≥ b
  · rw [if_pos h]; simp [show b ≤ a from h]
  · rw [if_neg h]; simp [show ¬ b ≤ a from h]
theorem toByteS_l0 (l : List Int) (hl : l.length ≤ 1048576) (d : Nat) : ∀ (acc : List Int) (i : Int), acc.length = l.length → 0 ≤ i → (l.length : Int) - i = d → (∀ j : Int, 0 ≤ j → j < i → rd acc j = rd l j) → Ev (fun k => laws_toByteS.l0 k l acc i) l := by
  induction d with
  | zero =>
    intro acc i ha h0 hd hj
    have e : acc = l := ext_rd ha (fun j h1 h2 => hj j h1 (by omega))
    subst e
    refine Ev.step (f := fun _ => some acc) (fun k => ?_) (Ev.now acc)
    simp only [laws_toByteS.l0]; rw [if_neg (by omega)]
  | succ d ih =>
    intro acc i ha h0 hd hj
    refine Ev.step (fun k => ?_) (ih (acc.set i.toNat (rd l i)) (i + 1) (by simpa using ha) (by omega) (by omega) ?_)
    · simp only [laws_toByteS.l0]; rw [if_pos (by omega), if_pos h0, if_pos (by omega), w64 (by omega) (by omega)]
    · intro j h1 h2
      rw [rd_set h1 h0 (by omega)]
      by_cases e : j = i
      · rw [if_pos e, e]
      · rw [if_neg e]; exact hj j h1 (by omega)
theorem toByteS_ev (l : List Int) (hl : l.length ≤ 1048576) : Ev (fun k => laws_toByteS.f k l) l := by
  refine Ev.congr (fun k => ?_) (toByteS_l0 l hl l.length (List.replicate l.length 0) 0 (by simp) (by omega) (by omega) (fun j h1 h2 => by omega))
  simp only [laws_toByteS.f]; rw [if_pos (by omega), if_pos (by omega)]; simp
theorem eqByteS_l0 (l : List Int) (hl : l.length ≤ 4611686018427387904) (d : Nat) : ∀ (i : Int), 0 ≤ i → (l.length : Int) - i = d → Ev (fun k => laws_eqByteS.l0 k l l i) true := by
  induction d with
  | zero =>
    intro i h0 hd
    refine Ev.step (f := fun _ => some true) (fun k => ?_) (Ev.now true)
    simp only [laws_eqByteS.l0]; rw [if_neg (by omega)]
  | succ d ih =>
    intro i h0 hd
    refine Ev.step (fun k => ?_) (ih (i + 1) (by omega) (by omega))
    simp only [laws_eqByteS.l0]; rw [if_pos (by omega), if_pos h0, if_pos (by omega), if_pos trivial, w64 (by omega) (by omega)]
theorem eqByteS_ev (l : List Int) (hl : l.length ≤ 4611686018427387904) : Ev (fun k => laws_eqByteS.f k l l) true := by
  refine Ev.congr (fun k => ?_) (eqByteS_l0 l hl l.length 0 (by omega) (by omega))
  simp only [laws_eqByteS.f]; rw [if_pos trivial]
def diskOk (b : List Int) (n : Int) : Bool := decide ((b.length : Int) ≤ 80000) && decide (0 ≤ n ∧ n ≤ (b.length : Int))
theorem spec_DiskOk_eq (b : List Int) (n : Int) : spec_DiskOk.f b n = some (diskOk b n) := by
  simp only [spec_DiskOk.f, spec_in_eq, Option.bind_some, diskOk]
  by_cases h : (b.length : Int) ≤ 80000 <;> simp [h]
theorem impl_DiskOk_eq (b : List Int) (n : Int) : impl_DiskOk.f b n = some (diskOk b n) := by
  simp only [impl_DiskOk.f, impl_in_eq, Option.bind_some, diskOk]
  by_cases h : (b.length : Int) ≤ 80000 <;> simp [h]
theorem szDisk_eq (b : List Int) (n : Int) (hb : b.length ≤ 9223372036854775807) : laws_szDisk.f b n 1048576 = some (if 1048576 < (b.length : Int) then (-1 : Int) else 1048576 - (b.length : Int)) := by
  simp only [laws_szDisk.f, laws_szByteS.f]; rw [w64 (by omega) (by omega)]
  by_cases h : 1048576 < (b.length : Int)
  · rw [if_pos h, if_pos (by omega)]; rfl
  · rw [if_neg h, if_neg (by omega)]; simp only [Option.bind_some]; rw [if_neg (by omega)]
theorem toDisk_ev (b : List Int) (n : Int) (hl : b.length ≤ 1048576) : Ev (fun k => laws_toDisk.f k b n) (b, n) := by
  simp only [laws_toDisk.f]
  exact Ev.bind (toByteS_ev b hl) (Ev.now _)
theorem eqDisk_ev (b : List Int) (n : Int) (hl : b.length ≤ 4611686018427387904) : Ev (fun k => laws_eqDisk.f k b n b n) true := by
  simp only [laws_eqDisk.f]
  refine Ev.bind (eqByteS_ev b hl) ?_
  exact ev_pos rfl (ev_pos trivial (Ev.now _))
theorem FnExactDiskOk : QFnExactDiskOk.Pure := by
  intro b n ⟨hb, _⟩ _
  refine Ev.rounds (g := fun k => laws_FnExactDiskOk.f k b n) ?_
  simp only [laws_FnExactDiskOk.f]
  refine ev_bind_eq (szDisk_eq b n hb) ?_
  by_cases h : 1048576 < (b.length : Int)
  · rw [if_pos h]; exact ev_pos (by omega) (Ev.now _)
  · rw [if_neg h]
    have hl : b.length ≤ 1048576 := by omega
    refine ev_neg (by omega) ?_
    refine Ev.bind (toDisk_ev b n hl) ?_
    refine ev_bind_eq (spec_DiskOk_eq b n) ?_
    refine Ev.bind (toDisk_ev b n hl) ?_
    refine ev_bind_eq (impl_DiskOk_eq b n) ?_
    refine ev_neg (by simp) ?_
    refine Ev.bind (toDisk_ev b n hl) ?_
    refine Ev.bind (eqDisk_ev b n (by omega)) ?_
    exact ev_pos rfl (Ev.now _)
end Go.Proofs.Ytfafpanihhikoaa.Pure
