/- For every slice of bytes and every place the program's GetInt returns what the reference's returns, and writes nothing into its argument; no condition. -/
import Derived.Test.YtfafpanihhikoaaQFnExactGetInt
import Derived.Test.YtfafpanihhikoaaBase
namespace Go.Proofs.Ytfafpanihhikoaa.Pure
open Go.RowKit Go.Proofs.Ytfafpanihhikoaa.Base Go.Proofs.Ytfafpanihhikoaa.PFnExactGetInt Go.Proofs.YtfafpanihhikoaaW.PrintWords Go.Proofs.YtfafpanihhikoaaW.PrintLast Go.Proofs.YtfafpanihhikoaaW.PrintMore Go.Proofs.Ytfafpanihhikoaa.QFnExactGetInt
set_option linter.unusedVariables false
theorem impl_in_eq (a b c : Int) : impl_in.f a b c = some (decide (b ≤ a ∧ a ≤ c)) := by
  unfold impl_in.f
  by_cases h : a ≥ b
  · rw [if_pos h]; simp [show b ≤ a from h]
  · rw [if_neg h]; simp [show ¬ b ≤ a from h]
/-- What GetNum tells from a place on, the k-th byte next. -/
def getNum (b : List Int) (p : Int) : Nat → Int → Int → Int × Int × Bool
  | 0, _, _ => (0, 0, false)
  | d + 1, n, k =>
    if p + k < (b.length : Int) then
      (let x := rd b (p + k)
       let m := Go.bits .or .i64 n (shl .i64 (x % 128) (7 * k))
       if 127 < x then getNum b p d m (k + 1)
       else if (x = 0 ∧ 0 < k) ∨ ¬ (0 ≤ m ∧ m ≤ 4611686018427387903) then (0, 0, false)
       else (m, p + k + 1, true))
    else (0, 0, false)
theorem spec_GetNum_l0 (b : List Int) (hb : b.length ≤ 1048576) (hw : ∀ x ∈ b, (Lit.int .u8 x).wf = true) (p : Int) (hp : 0 ≤ p) (hp2 : p ≤ (b.length : Int)) (d : Nat) : ∀ (n k : Int), 0 ≤ k → k + d = 9 → Ev (fun j => spec_GetNum.l0 j b p n k) (getNum b p d n k) := by
  induction d with
  | zero =>
    intro n k h0 hd
    refine Ev.step (f := fun _ => some (0, 0, false)) (fun j => ?_) (Ev.now _)
    simp only [spec_GetNum.l0]; rw [if_neg (by omega)]
  | succ d ih =>
    intro n k h0 hd
    have w1 : wrap64 ((b.length : Int) - k) = (b.length : Int) - k := w64 (by omega) (by omega)
    have w2 : wrap64 (p + k) = p + k := w64 (by omega) (by omega)
    have w3 : wrap64 (7 * k) = 7 * k := w64 (by omega) (by omega)
    have w4 : wrap64 (k + 1) = k + 1 := w64 (by omega) (by omega)
    have w5 : wrap64 (p + k + 1) = p + k + 1 := w64 (by omega) (by omega)
    unfold getNum
    by_cases h : p + k < (b.length : Int)
    · have hx := wf_u8 (hw _ (rd_mem (show 0 ≤ p + k by omega) h))
      have w6 : wrap64 (rd b (p + k)) = rd b (p + k) := w64 (by omega) (by omega)
      have t1 : Int.tmod (rd b (p + k)) 128 = rd b (p + k) % 128 := Int.tmod_eq_emod_of_nonneg hx.1
      rw [if_pos h]
      dsimp only
      generalize hm : Go.bits .or .i64 n (shl .i64 (rd b (p + k) % 128) (7 * k)) = m
      by_cases h2 : 127 < rd b (p + k)
      · rw [if_pos h2]
        refine Ev.step (g := fun j => spec_GetNum.l0 j b p n k) (fun j => ?_) (Ev.step (g := fun j => spec_GetNum.j1 j b p n k false) (fun j => ?_) (ih m (k + 1) (by omega) (by omega)))
        · simp only [spec_GetNum.l0]; rw [if_pos (by omega), if_neg (by omega), w1, decide_eq_false (by omega)]
        · simp only [spec_GetNum.j1, w2, w3, w4, w6, t1, hm]; rw [if_neg (by simp), if_pos (by omega), if_pos (by omega), if_pos (by omega), if_neg (by omega)]
      · rw [if_neg h2]
        refine Ev.step (g := fun j => spec_GetNum.l0 j b p n k) (fun j => ?_) (Ev.step (g := fun j => spec_GetNum.j1 j b p n k false) (f := fun _ => some _) (fun j => ?_) (Ev.now _))
        · simp only [spec_GetNum.l0]; rw [if_pos (by omega), if_neg (by omega), w1, decide_eq_false (by omega)]
        · simp only [spec_GetNum.j1, w2, w3, w4, w5, w6, t1, hm]; rw [if_neg (by simp), if_pos (by omega), if_pos (by omega), if_pos (by omega), if_pos (by omega)]
          by_cases h3 : k > 0
          · rw [if_pos h3]
            by_cases h4 : rd b (p + k) = 0
            · rw [if_pos h4, if_pos (.inl ⟨h4, h3⟩)]
            · rw [if_neg h4]
              by_cases h5 : m > 4611686018427387903
              · rw [if_pos h5, if_pos (.inr (by omega))]
              · rw [if_neg h5]
                by_cases h6 : m < 0
                · rw [if_pos h6, if_pos (.inr (by omega))]
                · rw [if_neg h6, if_neg (by omega)]
          · rw [if_neg h3]
            by_cases h5 : m > 4611686018427387903
            · rw [if_pos h5, if_pos (.inr (by omega))]
            · rw [if_neg h5]
              by_cases h6 : m < 0
              · rw [if_pos h6, if_pos (.inr (by omega))]
              · rw [if_neg h6, if_neg (by omega)]
    · rw [if_neg h]
      refine Ev.step (g := fun j => spec_GetNum.l0 j b p n k) (fun j => ?_) (Ev.step (g := fun j => spec_GetNum.j1 j b p n k true) (f := fun _ => some (0, 0, false)) (fun j => ?_) (Ev.now _))
      · simp only [spec_GetNum.l0]; rw [if_pos (by omega), if_neg (by omega), w1, decide_eq_true (by omega)]
      · simp only [spec_GetNum.j1]; rw [if_pos trivial]
theorem impl_GetNum_l0 (b : List Int) (hb : b.length ≤ 1048576) (hw : ∀ x ∈ b, (Lit.int .u8 x).wf = true) (p : Int) (hp : 0 ≤ p) (hp2 : p ≤ (b.length : Int)) (d : Nat) : ∀ (n k : Int), 0 ≤ k → k + d = 9 → Ev (fun j => impl_GetNum.l0 j b p n k) (getNum b p d n k) := by
  induction d with
  | zero =>
    intro n k h0 hd
    refine Ev.step (g := fun j => impl_GetNum.l0 j b p n k) (fun j => ?_) (Ev.step (g := fun j => impl_GetNum.j1 j b p n k false) (f := fun _ => some (0, 0, false)) (fun j => ?_) (Ev.now _))
    · simp only [impl_GetNum.l0]; rw [if_neg (by omega)]
    · simp only [impl_GetNum.j1]; rw [if_neg (by simp)]
  | succ d ih =>
    intro n k h0 hd
    have w2 : wrap64 (p + k) = p + k := w64 (by omega) (by omega)
    have w3 : wrap64 (7 * k) = 7 * k := w64 (by omega) (by omega)
    have w4 : wrap64 (k + 1) = k + 1 := w64 (by omega) (by omega)
    have w5 : wrap64 (p + k + 1) = p + k + 1 := w64 (by omega) (by omega)
    unfold getNum
    by_cases h : p + k < (b.length : Int)
    · have hx := wf_u8 (hw _ (rd_mem (show 0 ≤ p + k by omega) h))
      have w6 : wrap64 (rd b (p + k)) = rd b (p + k) := w64 (by omega) (by omega)
      have t1 : Go.bits .and .i64 (rd b (p + k)) 127 = rd b (p + k) % 128 := and_127 hx.1 (by omega)
      rw [if_pos h]
      dsimp only
      generalize hm : Go.bits .or .i64 n (shl .i64 (rd b (p + k) % 128) (7 * k)) = m
      by_cases h2 : 127 < rd b (p + k)
      · rw [if_pos h2]
        refine Ev.step (g := fun j => impl_GetNum.l0 j b p n k) (fun j => ?_) (Ev.step (g := fun j => impl_GetNum.j1 j b p n k true) (fun j => ?_) (ih m (k + 1) (by omega) (by omega)))
        · simp only [impl_GetNum.l0]; rw [if_pos (by omega), w2, decide_eq_true h]
        · simp only [impl_GetNum.j1, w2, w3, w4, w6, t1, hm]; rw [if_pos trivial, if_pos (by omega), if_pos (by omega), if_pos (by omega), if_pos h2]
      · rw [if_neg h2]
        refine Ev.step (g := fun j => impl_GetNum.l0 j b p n k) (fun j => ?_) (Ev.step (g := fun j => impl_GetNum.j1 j b p n k true) (f := fun _ => some _) (fun j => ?_) (Ev.now _))
        · simp only [impl_GetNum.l0]; rw [if_pos (by omega), w2, decide_eq_true h]
        · simp only [impl_GetNum.j1, w2, w3, w4, w5, w6, t1, hm, impl_in_eq, Option.bind_some]; rw [if_pos trivial, if_pos (by omega), if_pos (by omega), if_pos (by omega), if_neg h2]
          by_cases h4 : rd b (p + k) = 0
          · rw [if_pos h4]
            by_cases h3 : k > 0
            · rw [if_pos h3, if_pos (.inl ⟨h4, h3⟩)]
            · rw [if_neg h3]
              by_cases h5 : 0 ≤ m ∧ m ≤ 4611686018427387903
              · rw [if_pos (by simp [h5]), if_neg (by omega)]
              · rw [if_neg (by simp [h5]), if_pos (.inr h5)]
          · rw [if_neg h4]
            by_cases h5 : 0 ≤ m ∧ m ≤ 4611686018427387903
            · rw [if_pos (by simp [h5]), if_neg (by omega)]
            · rw [if_neg (by simp [h5]), if_pos (.inr h5)]
    · rw [if_neg h]
      refine Ev.step (g := fun j => impl_GetNum.l0 j b p n k) (fun j => ?_) (Ev.step (g := fun j => impl_GetNum.j1 j b p n k false) (f := fun _ => some (0, 0, false)) (fun j => ?_) (Ev.now _))
      · simp only [impl_GetNum.l0]; rw [if_pos (by omega), w2, decide_eq_false h]
      · simp only [impl_GetNum.j1]; rw [if_neg (by simp)]
def getNumOf (b : List Int) (p : Int) : Int × Int × Bool := if 0 ≤ p ∧ p ≤ (b.length : Int) then getNum b p 9 0 0 else (0, 0, false)
theorem impl_GetNum_ev (b : List Int) (hb : b.length ≤ 1048576) (hw : ∀ x ∈ b, (Lit.int .u8 x).wf = true) (p : Int) : Ev (fun j => impl_GetNum.f j b p) (getNumOf b p) := by
  simp only [impl_GetNum.f]
  refine ev_bind_eq (impl_in_eq _ _ _) ?_
  unfold getNumOf
  by_cases h : 0 ≤ p ∧ p ≤ (b.length : Int)
  · rw [if_pos h]; exact ev_pos (by simp [h]) (impl_GetNum_l0 b hb hw p h.1 h.2 9 0 0 (by omega) (by omega))
  · rw [if_neg h]; exact ev_neg (by simp [h]) (Ev.now _)
theorem spec_GetNum_ev (b : List Int) (hb : b.length ≤ 1048576) (hw : ∀ x ∈ b, (Lit.int .u8 x).wf = true) (p : Int) (hp : -9223372036854775808 ≤ p ∧ p ≤ 9223372036854775807) : Ev (fun j => spec_GetNum.f j b p) (getNumOf b p) := by
  simp only [spec_GetNum.f]
  unfold getNumOf
  by_cases h : 0 ≤ p ∧ p ≤ (b.length : Int)
  · rw [if_pos h]; exact spec_GetNum_l0 b hb hw p h.1 h.2 9 0 0 (by omega) (by omega)
  · rw [if_neg h]
    refine Ev.step (g := fun j => spec_GetNum.l0 j b p 0 0) (fun j => ?_) (Ev.step (g := fun j => spec_GetNum.j1 j b p 0 0 true) (f := fun _ => some (0, 0, false)) (fun j => ?_) (Ev.now _))
    · simp only [spec_GetNum.l0]; rw [if_pos (by omega)]
      by_cases h1 : p < 0
      · rw [if_pos h1]
      · rw [if_neg h1, w64 (by omega) (by omega), decide_eq_true (by omega)]
    · simp only [spec_GetNum.j1]; rw [if_pos trivial]
theorem getNum_bd (b : List Int) (p : Int) (hp : 0 ≤ p) (hp2 : p ≤ (b.length : Int)) (d : Nat) : ∀ n k : Int, 0 ≤ k → k + d = 9 → 0 ≤ (getNum b p d n k).1 ∧ (getNum b p d n k).1 ≤ 4611686018427387903 ∧ 0 ≤ (getNum b p d n k).2.1 ∧ (getNum b p d n k).2.1 ≤ (b.length : Int) := by
  induction d with
  | zero => intro n k h0 hd; simp [getNum]
  | succ d ih =>
    intro n k h0 hd
    unfold getNum
    split
    · dsimp only; split
      · exact ih _ _ (by omega) (by omega)
      · split
        · simp
        · rename_i h1 _ h2
          dsimp only; omega
    · simp
theorem getNumOf_bd (b : List Int) (p : Int) : 0 ≤ (getNumOf b p).1 ∧ (getNumOf b p).1 ≤ 4611686018427387903 ∧ 0 ≤ (getNumOf b p).2.1 ∧ (getNumOf b p).2.1 ≤ (b.length : Int) := by
  unfold getNumOf; split
  · rename_i h; exact getNum_bd b p h.1 h.2 9 0 0 (by omega) (by omega)
  · simp
theorem spec_in_eq (a b c : Int) : spec_l1In.f a b c = some (decide (b ≤ a ∧ a ≤ c)) := by
  unfold spec_l1In.f
  by_cases h : a ≥ b
  · rw [if_pos h]; simp [show b ≤ a from h]
  · rw [if_neg h]; simp [show ¬ b ≤ a from h]
def getIntOf (b : List Int) (p : Int) : Int × Int × Bool :=
  if (getNumOf b p).2.2 = true then
    (let x := if (getNumOf b p).1 % 2 = 1 then -1 - (getNumOf b p).1 / 2 else (getNumOf b p).1 / 2
     if -2305843009213693951 ≤ x ∧ x ≤ 2305843009213693951 then (x, (getNumOf b p).2.1, true) else (0, 0, false))
  else (0, 0, false)
theorem spec_GetInt_ev (b : List Int) (hb : b.length ≤ 1048576) (hw : ∀ x ∈ b, (Lit.int .u8 x).wf = true) (p : Int) (hp : -9223372036854775808 ≤ p ∧ p ≤ 9223372036854775807) : Ev (fun j => spec_GetInt.f j b p) (getIntOf b p) := by
  have bd := getNumOf_bd b p
  simp only [spec_GetInt.f]
  refine Ev.bind (spec_GetNum_ev b hb hw p hp) ?_
  unfold getIntOf
  rw [Int.tdiv_eq_ediv_of_nonneg bd.1, Int.tmod_eq_emod_of_nonneg bd.1, w64 (x := (getNumOf b p).1 / 2) (by omega) (by omega), w64 (x := -1 - (getNumOf b p).1 / 2) (by omega) (by omega)]
  by_cases h : (getNumOf b p).2.2 = true
  · refine ev_pos h ?_; rw [if_pos h]
    dsimp only
    by_cases h2 : (getNumOf b p).1 % 2 = 1
    · simp only [if_pos h2]
      refine ev_bind_eq (spec_in_eq _ _ _) ?_
      by_cases h3 : -2305843009213693951 ≤ -1 - (getNumOf b p).1 / 2 ∧ -1 - (getNumOf b p).1 / 2 ≤ 2305843009213693951
      · rw [if_pos h3]; exact ev_pos (by simp [h3]) (Ev.now _)
      · rw [if_neg h3]; exact ev_neg (by simp [h3]) (Ev.now _)
    · simp only [if_neg h2]
      refine ev_bind_eq (spec_in_eq _ _ _) ?_
      by_cases h3 : -2305843009213693951 ≤ (getNumOf b p).1 / 2 ∧ (getNumOf b p).1 / 2 ≤ 2305843009213693951
      · rw [if_pos h3]; exact ev_pos (by simp [h3]) (Ev.now _)
      · rw [if_neg h3]; exact ev_neg (by simp [h3]) (Ev.now _)
  · refine ev_neg h ?_; rw [if_neg h]; exact Ev.now _
theorem impl_GetInt_ev (b : List Int) (hb : b.length ≤ 1048576) (hw : ∀ x ∈ b, (Lit.int .u8 x).wf = true) (p : Int) : Ev (fun j => impl_GetInt.f j b p) (getIntOf b p) := by
  have bd := getNumOf_bd b p
  simp only [impl_GetInt.f]
  refine Ev.bind (impl_GetNum_ev b hb hw p) ?_
  unfold getIntOf
  rw [Int.tdiv_eq_ediv_of_nonneg bd.1, Int.tmod_eq_emod_of_nonneg bd.1, w64 (x := (getNumOf b p).1 / 2) (by omega) (by omega), w64 (x := (getNumOf b p).1 / 2 + 1) (by omega) (by omega), w64 (x := -((getNumOf b p).1 / 2 + 1)) (by omega) (by omega), show -((getNumOf b p).1 / 2 + 1) = -1 - (getNumOf b p).1 / 2 from by omega]
  dsimp only
  by_cases h2 : (getNumOf b p).1 % 2 = 1
  · simp only [if_pos h2]
    by_cases h : (getNumOf b p).2.2 = true
    · refine ev_pos h ?_; rw [if_pos h]
      refine ev_bind_eq (impl_in_eq _ _ _) ?_
      by_cases h3 : -2305843009213693951 ≤ -1 - (getNumOf b p).1 / 2 ∧ -1 - (getNumOf b p).1 / 2 ≤ 2305843009213693951
      · rw [if_pos h3]; exact ev_pos (by simp [h3]) (Ev.now _)
      · rw [if_neg h3]; exact ev_neg (by simp [h3]) (Ev.now _)
    · refine ev_neg h ?_; rw [if_neg h]; exact Ev.now _
  · simp only [if_neg h2]
    by_cases h : (getNumOf b p).2.2 = true
    · refine ev_pos h ?_; rw [if_pos h]
      refine ev_bind_eq (impl_in_eq _ _ _) ?_
      by_cases h3 : -2305843009213693951 ≤ (getNumOf b p).1 / 2 ∧ (getNumOf b p).1 / 2 ≤ 2305843009213693951
      · rw [if_pos h3]; exact ev_pos (by simp [h3]) (Ev.now _)
      · rw [if_neg h3]; exact ev_neg (by simp [h3]) (Ev.now _)
    · refine ev_neg h ?_; rw [if_neg h]; exact Ev.now _
theorem toByteS_l0 (l : List Int) (hl : l.length ≤ 1048576) (d : Nat) : ∀ (acc : List Int) (i : Int), acc.length = l.length → 0 ≤ i → (l.length : Int) - i = d → (∀ j : Int, 0 ≤ j → j < i → rd acc j = rd l j) → Ev (fun k => laws_toByteS.l0 k l acc i) l := by
  induction d with
  | zero =>
    intro acc i ha h0 hd hj
    have e : acc = l := ext_rd ha (fun j h1 h2 => hj j h1 (by omega))
    subst e
    refine Ev.step (f := fun _ => some acc) (fun k => ?_) (Ev.now acc)
    simp only [laws_toByteS.l0]; rw [if_neg (by omega)]
  | succ d ih =>
    intro acc i ha h0 hd hj
    refine Ev.step (fun k => ?_) (ih (acc.set i.toNat (rd l i)) (i + 1) (by simpa using ha) (by omega) (by omega) ?_)
    · simp only [laws_toByteS.l0]; rw [if_pos (by omega), if_pos h0, if_pos (by omega), w64 (by omega) (by omega)]
    · intro j h1 h2
      rw [rd_set h1 h0 (by omega)]
      by_cases e : j = i
      · rw [if_pos e, e]
      · rw [if_neg e]; exact hj j h1 (by omega)
theorem toByteS_ev (l : List Int) (hl : l.length ≤ 1048576) : Ev (fun k => laws_toByteS.f k l) l := by
  refine Ev.congr (fun k => ?_) (toByteS_l0 l hl l.length (List.replicate l.length 0) 0 (by simp) (by omega) (by omega) (fun j h1 h2 => by omega))
  simp only [laws_toByteS.f]; rw [if_pos (by omega), if_pos (by omega)]; simp
theorem eqByteS_l0 (l : List Int) (hl : l.length ≤ 4611686018427387904) (d : Nat) : ∀ (i : Int), 0 ≤ i → (l.length : Int) - i = d → Ev (fun k => laws_eqByteS.l0 k l l i) true := by
  induction d with
  | zero =>
    intro i h0 hd
    refine Ev.step (f := fun _ => some true) (fun k => ?_) (Ev.now true)
    simp only [laws_eqByteS.l0]; rw [if_neg (by omega)]
  | succ d ih =>
    intro i h0 hd
    refine Ev.step (fun k => ?_) (ih (i + 1) (by omega) (by omega))
    simp only [laws_eqByteS.l0]; rw [if_pos (by omega), if_pos h0, if_pos (by omega), if_pos trivial, w64 (by omega) (by omega)]
theorem eqByteS_ev (l : List Int) (hl : l.length ≤ 4611686018427387904) : Ev (fun k => laws_eqByteS.f k l l) true := by
  refine Ev.congr (fun k => ?_) (eqByteS_l0 l hl l.length 0 (by omega) (by omega))
  simp only [laws_eqByteS.f]; rw [if_pos trivial]
theorem FnExactGetInt : QFnExactGetInt.Pure := by
  intro b p ⟨_, hw⟩ hp
  have hp := wf_i64 hp
  refine Ev.rounds (g := fun k => laws_FnExactGetInt.f k b p) ?_
  simp only [laws_FnExactGetInt.f]
  by_cases h : (b.length : Int) > 1048576
  · exact ev_pos h (Ev.now _)
  have hl : b.length ≤ 1048576 := by omega
  refine ev_neg h ?_
  refine Ev.bind (toByteS_ev b hl) ?_
  refine Ev.bind (spec_GetInt_ev b hl hw p hp) ?_
  refine Ev.bind (toByteS_ev b hl) ?_
  refine Ev.bind (impl_GetInt_ev b hl hw p) ?_
  refine ev_pos rfl (ev_pos rfl ?_)
  have e : ((getIntOf b p).2.2 != (getIntOf b p).2.2) = false := by simp
  rw [e]
  refine Ev.step (f := fun k => _) (fun k => by simp only [laws_FnExactGetInt.j0]; rw [if_neg (by simp)]) ?_
  refine Ev.bind (toByteS_ev b hl) ?_
  refine Ev.bind (eqByteS_ev b (by omega)) ?_
  exact ev_pos rfl (Ev.now _)
end Go.Proofs.Ytfafpanihhikoaa.Pure
