/- For every sink, epoch, place and text the program's Offer returns what the reference's returns; no condition. -/
import Derived.Test.YtfafpanihhikoaaQFnExactOffer
import Derived.Test.YtfafpanihhikoaaBase
namespace Go.Proofs.Ytfafpanihhikoaa.Pure
open Go.RowKit Go.Proofs.Ytfafpanihhikoaa.Base Go.Proofs.Ytfafpanihhikoaa.MFnExactOffer Go.Proofs.YtfafpanihhikoaaW.PrintWords Go.Proofs.YtfafpanihhikoaaW.PrintLast Go.Proofs.YtfafpanihhikoaaW.PrintMore Go.Proofs.Ytfafpanihhikoaa.QFnExactOffer
set_option linter.unusedVariables false
theorem spec_in_eq (a b c : Int) : spec_l1In.f a b c = some (decide (b ≤ a ∧ a ≤ c)) := by
  unfold spec_l1In.f
  by_cases h : a ≥ b
  · rw [if_pos h]; simp [show b ≤ a from h]
  · rw [if_neg h]; simp [show ¬ b ≤ a from h]
theorem impl_in_eq (a b c : Int) : impl_in.f a b c = some (decide (b ≤ a ∧ a ≤ c)) := by
  unfold impl_in.f
  by_cases h : a ≥ b
  · rw [if_pos h]; simp [show b ≤ a from h]
  · rw [if_neg h]; simp [show ¬ b ≤ a from h]
theorem isIndex_eq (a : Int) : impl_isIndex.f a = some (decide (0 ≤ a ∧ a ≤ 300)) := by
  simp only [impl_isIndex.f, impl_in_eq, Option.bind_some]
def sinkOk (e : Int) (s : ByteArray) : Bool := decide (0 ≤ e ∧ e ≤ 300) && decide ((s.size : Int) ≤ 1500)
theorem spec_SinkOk_eq (e : Int) (s : ByteArray) : spec_SinkOk.f e s = some (sinkOk e s) := by
  simp only [spec_SinkOk.f, spec_in_eq, Option.bind_some, sinkOk]
  by_cases h : (0 ≤ e ∧ e ≤ 300) <;> simp [h]
theorem impl_SinkOk_eq (e : Int) (s : ByteArray) : impl_SinkOk.f e s = some (sinkOk e s) := by
  simp only [impl_SinkOk.f, isIndex_eq, Option.bind_some, sinkOk]
  by_cases h : (0 ≤ e ∧ e ≤ 300) <;> simp [h]
theorem szSink_eq (e : Int) (s : ByteArray) (hs : s.size ≤ 9223372036854775807) : laws_szSink.f e s 1048576 = some (if 1048576 < (s.size : Int) then (-1 : Int) else 1048576 - (s.size : Int)) := by
  simp only [laws_szSink.f]; rw [w64 (by omega) (by omega)]
  by_cases h : 1048576 < (s.size : Int)
  · rw [if_pos h, if_pos (by omega)]
  · rw [if_neg h, if_neg (by omega)]
def offer (e : Int) (s : ByteArray) (ep at_ : Int) (t : ByteArray) : Int × ByteArray × Bool :=
  if sinkOk e s = true ∧ (e ≤ ep ∧ ep ≤ 300) ∧ (0 ≤ at_ ∧ at_ ≤ (s.size : Int)) then
    (let u := if (t.size : Int) > (s.size : Int) - at_ then s ++ t.extract ((s.size : Int) - at_).toNat t.size else s
     if sinkOk ep u = true then (ep, u, true) else (e, s, false))
  else (e, s, false)
theorem spec_Offer_ev (e : Int) (s : ByteArray) (ep at_ : Int) (t : ByteArray) (hs : (s.size : Int) ≤ 1048576) (ht : (t.size : Int) ≤ 1048576) : Ev (fun k => spec_Offer.f k e s ep at_ t) (offer e s ep at_ t) := by
  have bad : Ev (fun k => spec_Offer.j0 k ep at_ t true e s) (e, s, false) := Ev.step (f := fun _ => some (e, s, false)) (fun k => by simp only [spec_Offer.j0]; rw [if_pos trivial]) (Ev.now _)
  simp only [spec_Offer.f]
  refine ev_bind_eq (spec_SinkOk_eq e s) ?_
  by_cases h1 : sinkOk e s = true
  · refine ev_pos h1 ?_
    refine ev_bind_eq (spec_in_eq _ _ _) ?_
    by_cases h2 : e ≤ ep ∧ ep ≤ 300
    · refine ev_pos (by simp [h2]) ?_
      refine ev_bind_eq (spec_in_eq _ _ _) ?_
      by_cases h3 : 0 ≤ at_ ∧ at_ ≤ (s.size : Int)
      · have e3 : (!decide (0 ≤ at_ ∧ at_ ≤ (s.size : Int))) = false := by simp [h3]
        rw [e3]
        unfold offer
        rw [if_pos ⟨h1, h2, h3⟩]
        have w : wrap64 ((s.size : Int) - at_) = (s.size : Int) - at_ := w64 (by omega) (by omega)
        by_cases h4 : (t.size : Int) > (s.size : Int) - at_
        · refine Ev.step (f := fun _ => some _) (fun k => ?_) (Ev.now _)
          simp only [spec_Offer.j0, w]
          rw [if_neg (by simp), if_pos h4, if_pos (by omega), if_pos (by omega), if_pos (by rw [ByteArray.size_extract]; omega), spec_SinkOk_eq, if_pos h4]
          simp only [Option.bind_some]
          split <;> rfl
        · refine Ev.step (f := fun _ => some _) (fun k => ?_) (Ev.now _)
          simp only [spec_Offer.j0, w]
          rw [if_neg (by simp), if_neg h4, spec_SinkOk_eq, if_neg h4]
          simp only [Option.bind_some]
          split <;> rfl
      · have e3 : (!decide (0 ≤ at_ ∧ at_ ≤ (s.size : Int))) = true := by simp only [h3, decide_false, Bool.not_false]
        rw [e3]
        unfold offer; rw [if_neg (fun h => h3 h.2.2)]; exact bad
    · refine ev_neg (by simp [h2]) ?_
      unfold offer; rw [if_neg (fun h => h2 h.2.1)]; exact bad
  · refine ev_neg h1 ?_
    unfold offer; rw [if_neg (fun h => h1 h.1)]; exact bad
theorem impl_Offer_ev (e : Int) (s : ByteArray) (ep at_ : Int) (t : ByteArray) (hs : (s.size : Int) ≤ 1048576) (ht : (t.size : Int) ≤ 1048576) : Ev (fun k => impl_Offer.f k e s ep at_ t) (offer e s ep at_ t) := by
  have bad : Ev (fun k => impl_Offer.j0 k ep at_ t true e s) (e, s, false) := Ev.step (f := fun _ => some (e, s, false)) (fun k => by simp only [impl_Offer.j0]; rw [if_pos trivial]) (Ev.now _)
  simp only [impl_Offer.f]
  refine ev_bind_eq (impl_SinkOk_eq e s) ?_
  by_cases h1 : sinkOk e s = true
  · refine ev_pos h1 ?_
    refine ev_bind_eq (impl_in_eq _ _ _) ?_
    by_cases h2 : e ≤ ep ∧ ep ≤ 300
    · refine ev_pos (by simp [h2]) ?_
      refine ev_bind_eq (impl_in_eq _ _ _) ?_
      by_cases h3 : 0 ≤ at_ ∧ at_ ≤ (s.size : Int)
      · have e3 : (!decide (0 ≤ at_ ∧ at_ ≤ (s.size : Int))) = false := by simp [h3]
        rw [e3]
        unfold offer
        rw [if_pos ⟨h1, h2, h3⟩]
        have w : wrap64 ((s.size : Int) - at_) = (s.size : Int) - at_ := w64 (by omega) (by omega)
        have w2 : wrap64 (at_ + (t.size : Int)) = at_ + (t.size : Int) := w64 (by omega) (by omega)
        by_cases h4 : (t.size : Int) > (s.size : Int) - at_
        · refine Ev.step (f := fun _ => some _) (fun k => ?_) (Ev.now _)
          simp only [impl_Offer.j0, w, w2]
          rw [if_neg (by simp), if_pos (by omega), if_pos (by omega), if_pos (by omega), if_pos (by rw [ByteArray.size_extract]; omega), impl_SinkOk_eq, if_pos h4]
          simp only [Option.bind_some]
          split <;> rfl
        · refine Ev.step (f := fun _ => some _) (fun k => ?_) (Ev.now _)
          simp only [impl_Offer.j0, w, w2]
          rw [if_neg (by simp), if_neg (by omega), impl_SinkOk_eq, if_neg h4]
          simp only [Option.bind_some]
          split <;> rfl
      · have e3 : (!decide (0 ≤ at_ ∧ at_ ≤ (s.size : Int))) = true := by simp only [h3, decide_false, Bool.not_false]
        rw [e3]
        unfold offer; rw [if_neg (fun h => h3 h.2.2)]; exact bad
    · refine ev_neg (by simp [h2]) ?_
      unfold offer; rw [if_neg (fun h => h2 h.2.1)]; exact bad
  · refine ev_neg h1 ?_
    unfold offer; rw [if_neg (fun h => h1 h.1)]; exact bad
theorem FnExactOffer : QFnExactOffer.Pure := by
  intro e s ep at_ t he hs hep ha ht
  refine Ev.rounds (g := fun k => laws_FnExactOffer.f k e s ep at_ t) ?_
  simp only [laws_FnExactOffer.f]
  by_cases h1 : (t.size : Int) > 1048576
  · exact ev_pos h1 (Ev.now _)
  refine ev_neg h1 ?_
  refine ev_bind_eq (szSink_eq e s hs) ?_
  by_cases h : 1048576 < (s.size : Int)
  · rw [if_pos h]; exact ev_pos (by omega) (Ev.now _)
  rw [if_neg h]
  refine ev_neg (by omega) ?_
  refine ev_bind_eq (a := (e, s)) rfl ?_
  refine Ev.bind (spec_Offer_ev e s ep at_ t (by omega) (by omega)) ?_
  refine ev_bind_eq (a := (e, s)) rfl ?_
  refine Ev.bind (impl_Offer_ev e s ep at_ t (by omega) (by omega)) ?_
  refine ev_bind_eq (a := true) (by simp [laws_eqSink.f]) ?_
  exact ev_pos rfl (ev_neg (by simp) (Ev.now _))
end Go.Proofs.Ytfafpanihhikoaa.Pure
