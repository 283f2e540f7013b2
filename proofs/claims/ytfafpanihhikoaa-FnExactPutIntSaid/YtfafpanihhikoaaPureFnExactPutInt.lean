/- For every number the program's PutInt returns what the reference's returns, in new memory each time; no condition. -/
import Derived.Test.YtfafpanihhikoaaQFnExactPutInt
import Derived.Test.YtfafpanihhikoaaBase
namespace Go.Proofs.Ytfafpanihhikoaa.Pure
open Go.RowKit Go.Proofs.Ytfafpanihhikoaa.Base Go.Proofs.Ytfafpanihhikoaa.PFnExactPutInt Go.Proofs.YtfafpanihhikoaaW.PrintWords Go.Proofs.YtfafpanihhikoaaW.PrintLast Go.Proofs.YtfafpanihhikoaaW.PrintMore Go.Proofs.Ytfafpanihhikoaa.QFnExactPutInt
set_option linter.unusedVariables false
theorem impl_in_eq (a b c : Int) : impl_in.f a b c = some (decide (b ≤ a ∧ a ≤ c)) := by
  unfold impl_in.f
  by_cases h : a ≥ b
  · rw [if_pos h]; simp [show b ≤ a from h]
  · rw [if_neg h]; simp [show ¬ b ≤ a from h]
theorem spec_in_eq (a b c : Int) : spec_l1In.f a b c = some (decide (b ≤ a ∧ a ≤ c)) := by
  unfold spec_l1In.f
  by_cases h : a ≥ b
  · rw [if_pos h]; simp [show b ≤ a from h]
  · rw [if_neg h]; simp [show ¬ b ≤ a from h]
/-- The bytes of a number: seven bits a byte. -/
def putNum : Nat → Int → List Int
  | 0, n => [n % 256]
  | d + 1, n => if n > 127 then (n % 128 + 128) :: putNum d (n / 128) else [n % 256]
theorem putNum_len (d : Nat) : ∀ n : Int, (putNum d n).length ≤ d + 1 := by
  induction d with
  | zero => intro n; simp [putNum]
  | succ d ih =>
    intro n; unfold putNum; split
    · have := ih (n / 128); simp; omega
    · simp
theorem spec_PutNum_l0 (d : Nat) : ∀ (n : Int) (out : List Int), 0 ≤ n → n < 128 ^ (d + 1) → n ≤ 9223372036854775807 → out.length + d ≤ 1000 → Ev (fun k => spec_PutNum.l0 k n out) (out ++ putNum d n) := by
  induction d with
  | zero =>
    intro n out h0 h1 h2 h3
    refine Ev.step (f := fun _ => some (out ++ [n % 256])) (fun k => ?_) (Ev.now _)
    simp only [spec_PutNum.l0]; rw [if_neg (by simp at h1; omega), if_pos (by omega)]
  | succ d ih =>
    intro n out h0 h1 h2 h3
    unfold putNum
    by_cases h : n > 127
    · rw [if_pos h]
      have e := ih (n / 128) (out ++ [n % 128 + 128]) (by omega) (by rw [Int.pow_succ] at h1; omega) (by omega) (by simp; omega)
      rw [List.append_assoc, List.singleton_append] at e
      refine Ev.step (fun k => ?_) e
      simp only [spec_PutNum.l0]; rw [if_pos h, if_pos (by omega), Int.tdiv_eq_ediv_of_nonneg h0, Int.tmod_eq_emod_of_nonneg h0, w64 (by omega) (by omega), w64 (by omega) (by omega), show (n % 128 + 128) % 256 = n % 128 + 128 from by omega]
    · rw [if_neg h]
      refine Ev.step (f := fun _ => some (out ++ [n % 256])) (fun k => ?_) (Ev.now _)
      simp only [spec_PutNum.l0]; rw [if_neg h, if_pos (by omega)]
theorem impl_PutNum_l0 (d : Nat) : ∀ (n : Int) (out : List Int), 0 ≤ n → n < 128 ^ (d + 1) → n ≤ 9223372036854775807 → out.length + d ≤ 1000 → Ev (fun k => impl_PutNum.l0 k n out) (out ++ putNum d n) := by
  induction d with
  | zero =>
    intro n out h0 h1 h2 h3
    refine Ev.step (f := fun _ => some (out ++ [n % 256])) (fun k => ?_) (Ev.now _)
    simp only [impl_PutNum.l0]; rw [if_neg (by simp at h1; omega), if_pos (by omega)]
  | succ d ih =>
    intro n out h0 h1 h2 h3
    unfold putNum
    by_cases h : n > 127
    · rw [if_pos h]
      have e := ih (n / 128) (out ++ [n % 128 + 128]) (by omega) (by rw [Int.pow_succ] at h1; omega) (by omega) (by simp; omega)
      rw [List.append_assoc, List.singleton_append] at e
      refine Ev.step (fun k => ?_) e
      simp only [impl_PutNum.l0]; rw [if_pos h, if_pos (by omega), and_127 h0 (by omega), or_128 (by omega) (by omega), show (n % 128 + 128) % 256 = n % 128 + 128 from by omega]
    · rw [if_neg h]
      refine Ev.step (f := fun _ => some (out ++ [n % 256])) (fun k => ?_) (Ev.now _)
      simp only [impl_PutNum.l0]; rw [if_neg h, if_pos (by omega)]
def putNumOf (n : Int) : List Int := if 0 ≤ n ∧ n ≤ 4611686018427387903 then putNum 8 n else []
theorem putNumOf_len (n : Int) : (putNumOf n).length ≤ 9 := by
  unfold putNumOf; split
  · exact putNum_len 8 n
  · simp
theorem spec_PutNum_ev (n : Int) : Ev (fun k => spec_PutNum.f k n) (putNumOf n) := by
  simp only [spec_PutNum.f]
  refine ev_bind_eq rfl ?_
  refine ev_bind_eq (spec_in_eq _ _ _) ?_
  unfold putNumOf
  by_cases h : 0 ≤ n ∧ n ≤ 4611686018427387903
  · rw [if_pos h]; refine ev_pos (by simp [h]) ?_
    exact spec_PutNum_l0 8 n [] h.1 (by have := h.2; omega) (by omega) (by simp)
  · rw [if_neg h]; exact ev_neg (by simp [h]) (Ev.now _)
theorem impl_PutNum_ev (n : Int) : Ev (fun k => impl_PutNum.f k n) (putNumOf n) := by
  simp only [impl_PutNum.f]
  refine ev_bind_eq (impl_in_eq _ _ _) ?_
  unfold putNumOf
  by_cases h : 0 ≤ n ∧ n ≤ 4611686018427387903
  · rw [if_pos h]; refine ev_pos (by simp [h]) ?_
    exact impl_PutNum_l0 8 n [] h.1 (by have := h.2; omega) (by omega) (by simp)
  · rw [if_neg h]; exact ev_neg (by simp [h]) (Ev.now _)
def putIntOf (n : Int) : List Int := if -2305843009213693951 ≤ n ∧ n ≤ 2305843009213693951 then putNumOf (if n < 0 then -2 * n - 1 else 2 * n) else []
theorem putIntOf_len (n : Int) : (putIntOf n).length ≤ 9 := by
  unfold putIntOf; split
  · exact putNumOf_len _
  · simp
theorem spec_PutInt_ev (n : Int) : Ev (fun k => spec_PutInt.f k n) (putIntOf n) := by
  simp only [spec_PutInt.f]
  refine ev_bind_eq (spec_in_eq _ _ _) ?_
  unfold putIntOf
  by_cases h : -2305843009213693951 ≤ n ∧ n ≤ 2305843009213693951
  · rw [if_pos h]; refine ev_pos (by simp [h]) ?_
    by_cases h2 : n < 0
    · rw [if_pos h2]; refine ev_pos h2 ?_
      rw [w64 (x := (-2) * n) (by omega) (by omega), w64 (by omega) (by omega)]
      exact Ev.bind (spec_PutNum_ev _) (Ev.now _)
    · rw [if_neg h2]; refine ev_neg h2 ?_
      rw [w64 (x := 2 * n) (by omega) (by omega)]
      exact Ev.bind (spec_PutNum_ev _) (Ev.now _)
  · rw [if_neg h]; exact ev_neg (by simp [h]) (Ev.now _)
theorem impl_PutInt_ev (n : Int) : Ev (fun k => impl_PutInt.f k n) (putIntOf n) := by
  simp only [impl_PutInt.f]
  refine ev_bind_eq (impl_in_eq _ _ _) ?_
  unfold putIntOf
  by_cases h : -2305843009213693951 ≤ n ∧ n ≤ 2305843009213693951
  · rw [if_pos h]; refine ev_pos (by simp [h]) ?_
    by_cases h2 : n < 0
    · rw [if_pos h2]; refine ev_pos h2 ?_
      rw [w64 (x := (-2) * n) (by omega) (by omega), w64 (by omega) (by omega)]
      exact Ev.bind (impl_PutNum_ev _) (Ev.now _)
    · rw [if_neg h2]; refine ev_neg h2 ?_
      rw [w64 (x := 2 * n) (by omega) (by omega)]
      exact Ev.bind (impl_PutNum_ev _) (Ev.now _)
  · rw [if_neg h]; exact ev_neg (by simp [h]) (Ev.now _)
theorem eqByteS_l0 (l : List Int) (hl : l.length ≤ 4611686018427387904) (d : Nat) : ∀ (i : Int), 0 ≤ i → (l.length : Int) - i = d → Ev (fun k => laws_eqByteS.l0 k l l i) true := by
  induction d with
  | zero =>
    intro i h0 hd
    refine Ev.step (f := fun _ => some true) (fun k => ?_) (Ev.now true)
    simp only [laws_eqByteS.l0]; rw [if_neg (by omega)]
  | succ d ih =>
    intro i h0 hd
    refine Ev.step (fun k => ?_) (ih (i + 1) (by omega) (by omega))
    simp only [laws_eqByteS.l0]; rw [if_pos (by omega), if_pos h0, if_pos (by omega), if_pos trivial, w64 (by omega) (by omega)]
theorem eqByteS_ev (l : List Int) (hl : l.length ≤ 4611686018427387904) : Ev (fun k => laws_eqByteS.f k l l) true := by
  refine Ev.congr (fun k => ?_) (eqByteS_l0 l hl l.length 0 (by omega) (by omega))
  simp only [laws_eqByteS.f]; rw [if_pos trivial]
/-- The marks from one on. -/
def Marks (l : List Int) (m : Int) : Prop := ∀ j : Int, 0 ≤ j → j < (l.length : Int) → rd l j = (m + j) % 256
theorem markByteS_l0 (n : Nat) (hn : n ≤ 4611686018427387904) (m : Int) (hm0 : 0 ≤ m) (hm1 : m ≤ 1152921504606846976) (d : Nat) : ∀ (l : List Int) (i : Int), l.length = n → 0 ≤ i → (n : Int) - i = d → (∀ j : Int, 0 ≤ j → j < i → rd l j = (m + j) % 256) →
    ∃ l', l'.length = n ∧ Marks l' m ∧ Ev (fun k => laws_markByteS.l0 k l (m + i) i) (m + n, l') := by
  induction d with
  | zero =>
    intro l i hl h0 hd hj
    refine ⟨l, hl, fun j h1 h2 => hj j h1 (by omega), Ev.step (f := fun _ => some (m + n, l)) (fun k => ?_) (Ev.now _)⟩
    simp only [laws_markByteS.l0]; rw [if_neg (by omega), show m + i = m + n from by omega]
  | succ d ih =>
    intro l i hl h0 hd hj
    obtain ⟨l', h1, h2, h3⟩ := ih (l.set i.toNat ((m + i) % 256)) (i + 1) (by simpa using hl) (by omega) (by omega) (by
      intro j h1 h2
      rw [rd_set h1 h0 (by omega)]
      by_cases e : j = i
      · rw [if_pos e, e]
      · rw [if_neg e]; exact hj j h1 (by omega))
    refine ⟨l', h1, h2, Ev.step (fun k => ?_) h3⟩
    simp only [laws_markByteS.l0]; rw [if_pos (by omega), if_pos h0, w64 (by omega) (by omega), w64 (by omega) (by omega), show m + i + 1 = m + (i + 1) from by omega]
theorem markByteS_ev (l : List Int) (hl : l.length ≤ 4611686018427387904) (m : Int) (hm0 : 0 ≤ m) (hm1 : m ≤ 1152921504606846976) : ∃ l', l'.length = l.length ∧ Marks l' m ∧ Ev (fun k => laws_markByteS.f k l m) (m + l.length, l') := by
  obtain ⟨l', h1, h2, h3⟩ := markByteS_l0 l.length hl m hm0 hm1 l.length l 0 rfl (by omega) (by omega) (fun j h1 h2 => by omega)
  refine ⟨l', h1, h2, Ev.congr (fun k => ?_) h3⟩
  simp only [laws_markByteS.f, Int.add_zero]
theorem heldByteS_l0 (l : List Int) (hl : l.length ≤ 4611686018427387904) (m : Int) (hm0 : 0 ≤ m) (hm1 : m ≤ 1152921504606846976) (hM : Marks l m) (d : Nat) : ∀ (i : Int), 0 ≤ i → (l.length : Int) - i = d → Ev (fun k => laws_heldByteS.l0 k l (m + i) i) (m + l.length) := by
  induction d with
  | zero =>
    intro i h0 hd
    refine Ev.step (f := fun _ => some (m + l.length)) (fun k => ?_) (Ev.now _)
    simp only [laws_heldByteS.l0]; rw [if_neg (by omega), show m + i = m + (l.length : Int) from by omega]
  | succ d ih =>
    intro i h0 hd
    refine Ev.step (fun k => ?_) (ih (i + 1) (by omega) (by omega))
    simp only [laws_heldByteS.l0]; rw [if_pos (by omega), if_pos h0, if_pos (hM i h0 (by omega)), w64 (by omega) (by omega), w64 (by omega) (by omega), show m + i + 1 = m + (i + 1) from by omega]
theorem heldByteS_ev (l : List Int) (hl : l.length ≤ 4611686018427387904) (m : Int) (hm0 : 0 ≤ m) (hm1 : m ≤ 1152921504606846976) (hM : Marks l m) : Ev (fun k => laws_heldByteS.f k l m) (m + l.length) := by
  refine Ev.congr (fun k => ?_) (heldByteS_l0 l hl m hm0 hm1 hM l.length 0 (by omega) (by omega))
  simp only [laws_heldByteS.f, Int.add_zero]
theorem FnExactPutInt : QFnExactPutInt.Pure := by
  intro n _
  have hl := putIntOf_len n
  obtain ⟨l', h1, h2, h3⟩ := markByteS_ev (putIntOf n) (by omega) 1 (by omega) (by omega)
  have h4 := heldByteS_ev l' (by omega) 1 (by omega) (by omega) h2
  rw [h1] at h4
  refine Ev.rounds (g := fun k => laws_FnExactPutInt.f k n) ?_
  simp only [laws_FnExactPutInt.f]
  refine Ev.bind (spec_PutInt_ev n) ?_
  refine Ev.bind (impl_PutInt_ev n) ?_
  refine Ev.bind (eqByteS_ev _ (by omega)) ?_
  refine ev_pos rfl ?_
  refine Ev.bind h3 ?_
  refine Ev.bind h4 ?_
  refine ev_neg (by omega) ?_
  refine ev_pos rfl ?_
  refine Ev.bind (impl_PutInt_ev n) ?_
  refine Ev.bind (eqByteS_ev _ (by omega)) ?_
  refine ev_pos rfl ?_
  refine Ev.bind h4 ?_
  refine ev_neg (by omega) ?_
  exact ev_pos rfl (Ev.now _)
end Go.Proofs.Ytfafpanihhikoaa.Pure
