/- For every slice of bytes the program's SumOf returns what the reference's returns, and writes nothing into its argument; no condition. -/
import Derived.Test.YtfafpanihhikoaaQFnExactSumOf
import Derived.Test.YtfafpanihhikoaaBase
namespace Go.Proofs.Ytfafpanihhikoaa.Pure
open Go.RowKit Go.Proofs.Ytfafpanihhikoaa.Base Go.Proofs.Ytfafpanihhikoaa.PFnExactSumOf Go.Proofs.YtfafpanihhikoaaW.PrintWords Go.Proofs.YtfafpanihhikoaaW.PrintLast Go.Proofs.YtfafpanihhikoaaW.PrintMore Go.Proofs.Ytfafpanihhikoaa.QFnExactSumOf
set_option linter.unusedVariables false
theorem toByteS_l0 (l : List Int) (hl : l.length ≤ 1048576) (d : Nat) : ∀ (acc : List Int) (i : Int), acc.length = l.length → 0 ≤ i → (l.length : Int) - i = d → (∀ j : Int, 0 ≤ j → j < i → rd acc j = rd l j) → Ev (fun k => laws_toByteS.l0 k l acc i) l := by
  induction d with
  | zero =>
    intro acc i ha h0 hd hj
    have e : acc = l := ext_rd ha (fun j h1 h2 => hj j h1 (by omega))
    subst e
    refine Ev.step (f := fun _ => some acc) (fun k => ?_) (Ev.now acc)
    simp only [laws_toByteS.l0]; rw [if_neg (by omega)]
  | succ d ih =>
    intro acc i ha h0 hd hj
    refine Ev.step (fun k => ?_) (ih (acc.set i.toNat (rd l i)) (i + 1) (by simpa using ha) (by omega) (by omega) ?_)
    · simp only [laws_toByteS.l0]; rw [if_pos (by omega), if_pos h0, if_pos (by omega), w64 (by omega) (by omega)]
    · intro j h1 h2
      rw [rd_set h1 h0 (by omega)]
      by_cases e : j = i
      · rw [if_pos e, e]
      · rw [if_neg e]; exact hj j h1 (by omega)
theorem toByteS_ev (l : List Int) (hl : l.length ≤ 1048576) : Ev (fun k => laws_toByteS.f k l) l := by
  refine Ev.congr (fun k => ?_) (toByteS_l0 l hl l.length (List.replicate l.length 0) 0 (by simp) (by omega) (by omega) (fun j h1 h2 => by omega))
  simp only [laws_toByteS.f]; rw [if_pos (by omega), if_pos (by omega)]; simp
theorem eqByteS_l0 (l : List Int) (hl : l.length ≤ 4611686018427387904) (d : Nat) : ∀ (i : Int), 0 ≤ i → (l.length : Int) - i = d → Ev (fun k => laws_eqByteS.l0 k l l i) true := by
  induction d with
  | zero =>
    intro i h0 hd
    refine Ev.step (f := fun _ => some true) (fun k => ?_) (Ev.now true)
    simp only [laws_eqByteS.l0]; rw [if_neg (by omega)]
  | succ d ih =>
    intro i h0 hd
    refine Ev.step (fun k => ?_) (ih (i + 1) (by omega) (by omega))
    simp only [laws_eqByteS.l0]; rw [if_pos (by omega), if_pos h0, if_pos (by omega), if_pos trivial, w64 (by omega) (by omega)]
theorem eqByteS_ev (l : List Int) (hl : l.length ≤ 4611686018427387904) : Ev (fun k => laws_eqByteS.f k l l) true := by
  refine Ev.congr (fun k => ?_) (eqByteS_l0 l hl l.length 0 (by omega) (by omega))
  simp only [laws_eqByteS.f]; rw [if_pos trivial]
theorem sum_l0 (l : List Int) (hl : l.length ≤ 1048576) (d : Nat) : ∀ (x y i : Int), 0 ≤ i → (l.length : Int) - i = d → ∃ r, Ev (fun k => spec_SumOf.l0 k l x y i) r ∧ Ev (fun k => impl_SumOf.l0 k x y l (l.length : Int) i) r := by
  induction d with
  | zero =>
    intro x y i h0 hd
    refine ⟨wrap64 (wrap64 (y * 65536) + x), Ev.step (f := fun _ => some _) (fun k => ?_) (Ev.now _), Ev.step (f := fun _ => some _) (fun k => ?_) (Ev.now _)⟩
    · simp only [spec_SumOf.l0]; rw [if_neg (by omega)]
    · simp only [impl_SumOf.l0]; rw [if_neg (by omega)]
  | succ d ih =>
    intro x y i h0 hd
    obtain ⟨r, h1, h2⟩ := ih _ _ (wrap64 (i + 1)) (by rw [w64 (by omega) (by omega)]; omega) (by rw [w64 (by omega) (by omega)]; omega)
    refine ⟨r, Ev.step (fun k => ?_) h1, Ev.step (fun k => ?_) h2⟩
    · simp only [spec_SumOf.l0]; rw [if_pos (by omega), if_pos h0]
    · simp only [impl_SumOf.l0]; rw [if_pos (by omega), if_pos h0, if_pos (by omega)]
theorem FnExactSumOf : QFnExactSumOf.Pure := by
  intro l _
  by_cases h : (l.length : Int) > 1048576
  · exact ⟨0, by simp only [laws_FnExactSumOf.f]; rw [if_pos h]⟩
  · have hl : l.length ≤ 1048576 := by omega
    obtain ⟨r, h1, h2⟩ := sum_l0 l hl l.length 1 0 0 (by omega) (by omega)
    refine Ev.rounds (g := fun k => laws_FnExactSumOf.f k l) ?_
    simp only [laws_FnExactSumOf.f]
    refine ev_neg h ?_
    refine Ev.bind (toByteS_ev l hl) ?_
    refine Ev.bind (a := r) h1 ?_
    refine Ev.bind (toByteS_ev l hl) ?_
    refine Ev.bind (a := r) h2 ?_
    refine ev_pos rfl ?_
    refine Ev.bind (toByteS_ev l hl) ?_
    refine Ev.bind (eqByteS_ev l (by omega)) ?_
    exact ev_pos rfl (Ev.now _)
end Go.Proofs.Ytfafpanihhikoaa.Pure
