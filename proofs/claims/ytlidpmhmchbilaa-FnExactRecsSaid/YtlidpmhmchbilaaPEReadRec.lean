/- A record that is read of bytes: the program and the reference read the same. No condition. -/
import Derived.Test.YtlidpmhmchbilaaPECanon
import Derived.Test.YtlidpmhmchbilaaPERecBytes
import Derived.Test.YtlidpmhmchbilaaTEe1
namespace Go.Proofs.Ytlidpmhmchbilaa.E.TE
open Go.Proofs.Ytlidpmhmchbilaa.E
set_option linter.unusedVariables false
def Bytes (b : List Int) : Prop := ∀ x ∈ b, 0 ≤ x ∧ x ≤ 255
def getTextOf (b : List Int) (p : Int) : List Int × Int × Bool :=
  if (getNumOf b p).2.2 = true ∧ (getNumOf b p).1 ≤ (b.length : Int) - (getNumOf b p).2.1 then ((b.drop (getNumOf b p).2.1.toNat).take (getNumOf b p).1.toNat, (getNumOf b p).2.1 + (getNumOf b p).1, true) else ([], 0, false)
def trT (x : List Int × Int × Bool) : List Int × Int × Bool × Unit := (x.1, x.2.1, x.2.2, ())
theorem text_tail (b : List Int) (g : Int × Int × Bool) (h1 : 0 ≤ g.1) (h2 : g.1 ≤ 4611686018427387903) (h3 : 0 ≤ g.2.1) (h4 : g.2.1 ≤ (b.length : Int)) (hb : b.length ≤ 1048576) :
    (if (!g.2.2) = true then some (([] : List Int), (0 : Int), false, ()) else if (decide (g.1 > w64 ((b.length : Int) - g.2.1))) = true then some ([], 0, false, ()) else
      if (0 : Int) ≤ g.2.1 ∧ g.2.1 ≤ w64 (g.2.1 + g.1) ∧ w64 (g.2.1 + g.1) ≤ (b.length : Int) then some (List.take ((w64 (g.2.1 + g.1)).toNat - g.2.1.toNat) (List.drop g.2.1.toNat b), w64 (g.2.1 + g.1), true, ()) else none) =
    some (trT (if g.2.2 = true ∧ g.1 ≤ (b.length : Int) - g.2.1 then ((b.drop g.2.1.toNat).take g.1.toNat, g.2.1 + g.1, true) else ([], 0, false))) := by
  obtain ⟨n, q, ok⟩ := g
  dsimp only at *
  cases ok with
  | false => simp [trT]
  | true =>
    rw [w64_id (n := (b.length : Int) - q) (by omega) (by omega), w64_id (n := q + n) (by omega) (by omega)]
    simp only [Bool.not_true, Bool.false_eq_true, if_false, true_and, decide_eq_true_eq]
    by_cases h : n > (b.length : Int) - q
    · rw [if_pos h, if_neg (by omega)]; rfl
    · rw [if_neg h, if_pos (by omega), if_pos (by omega), show (q + n).toNat - q.toNat = n.toNat by omega]; rfl
theorem s_GetText_ok (b : List Int) (hb : b.length ≤ 1048576) (hw : Bytes b) (p : Int) (hp : -9223372036854775808 ≤ p ∧ p ≤ 9223372036854775807) : s_GetText b p = some (trT (getTextOf b p)) := by
  obtain ⟨h1, h2, h3, h4⟩ := getNumOf_bd b p
  rw [s_GetText_eq, s_GetNum_ok b hb hw p hp, Option.bind_some]
  exact text_tail b (getNumOf b p) h1 h2 h3 h4 hb
theorem i_GetText_ok (b : List Int) (hb : b.length ≤ 1048576) (hw : Bytes b) (p : Int) : i_GetText b p = some (trT (getTextOf b p)) := by
  obtain ⟨h1, h2, h3, h4⟩ := getNumOf_bd b p
  rw [i_GetText_eq, i_GetNum_ok b hb hw p, Option.bind_some]
  exact text_tail b (getNumOf b p) h1 h2 h3 h4 hb
theorem text_canon (b : List Int) (hw : Bytes b) (p q : Int) (t : List Int) (h : getTextOf b p = (t, q, true)) : 0 ≤ p ∧ p < q ∧ q ≤ (b.length : Int) ∧ b.take q.toNat = b.take p.toNat ++ putText t ∧ t.length ≤ b.length := by
  unfold getTextOf at h
  have hbd := getNumOf_bd b p
  cases hg : getNumOf b p with | mk n mo =>
  obtain ⟨m, ok⟩ := mo
  rw [hg] at h hbd
  dsimp only at h hbd
  by_cases hc : ok = true ∧ n ≤ (b.length : Int) - m
  · obtain ⟨rfl, hc2⟩ := hc
    rw [if_pos ⟨rfl, hc2⟩] at h
    simp only [Prod.mk.injEq, and_true] at h
    obtain ⟨rfl, rfl⟩ := h
    obtain ⟨c1, c2, c3, c4, c5, c6⟩ := num_canon b hw p n m hg
    have hl : ((b.drop m.toNat).take n.toNat).length = n.toNat := by rw [List.length_take, List.length_drop]; omega
    refine ⟨c1, by omega, by omega, ?_, by rw [hl]; omega⟩
    rw [show (m + n).toNat = m.toNat + n.toNat by omega, List.take_add, c4, List.append_assoc]
    unfold putText
    rw [hl, show ((n.toNat : Nat) : Int) = n by omega]
  · rw [if_neg hc] at h; simp at h

abbrev Rs := Int × Bool
def rdN (b : List Int) (s : Rs) : Int × Rs := if s.2 = true ∧ (getNumOf b s.1).2.2 = true then ((getNumOf b s.1).1, (getNumOf b s.1).2.1, true) else (0, s.1, false)
def rdT (b : List Int) (s : Rs) : List Int × Rs := if s.2 = true ∧ (getTextOf b s.1).2.2 = true then ((getTextOf b s.1).1, (getTextOf b s.1).2.1, true) else ([], s.1, false)
def Pos (b : List Int) (s : Rs) : Prop := 0 ≤ s.1 ∧ s.1 ≤ (b.length : Int)
section
variable {b : List Int} {s : Rs}
theorem rdN_pos (hs : Pos b s) : Pos b (rdN b s).2 := by
  unfold rdN; split
  · have := getNumOf_bd b s.1; exact ⟨this.2.2.1, this.2.2.2⟩
  · exact hs
theorem rdT_pos (hw : Bytes b) (hs : Pos b s) : Pos b (rdT b s).2 := by
  unfold rdT; split
  · rename_i h
    have := text_canon b hw s.1 (getTextOf b s.1).2.1 (getTextOf b s.1).1 (by rw [← h.2])
    exact ⟨by show 0 ≤ (getTextOf b s.1).2.1; omega, this.2.2.1⟩
  · exact hs
theorem rdN_spec (hw : Bytes b) (h : (rdN b s).2.2 = true) : s.2 = true ∧ s.1 < (rdN b s).2.1 ∧ b.take (rdN b s).2.1.toNat = b.take s.1.toNat ++ putNumOf (rdN b s).1 ∧ 0 ≤ (rdN b s).1 ∧ (rdN b s).1 ≤ 4611686018427387903 := by
  unfold rdN at h ⊢
  by_cases hc : s.2 = true ∧ (getNumOf b s.1).2.2 = true
  · rw [if_pos hc]
    obtain ⟨c1, c2, c3, c4, c5, c6⟩ := num_canon b hw s.1 (getNumOf b s.1).1 (getNumOf b s.1).2.1 (by rw [← hc.2])
    exact ⟨hc.1, c2, c4, c5, c6⟩
  · rw [if_neg hc] at h; cases h
theorem rdT_spec (hw : Bytes b) (h : (rdT b s).2.2 = true) : s.2 = true ∧ s.1 < (rdT b s).2.1 ∧ b.take (rdT b s).2.1.toNat = b.take s.1.toNat ++ putText (rdT b s).1 := by
  unfold rdT at h ⊢
  by_cases hc : s.2 = true ∧ (getTextOf b s.1).2.2 = true
  · rw [if_pos hc]
    obtain ⟨c1, c2, c3, c4, c5⟩ := text_canon b hw s.1 (getTextOf b s.1).2.1 (getTextOf b s.1).1 (by rw [← hc.2])
    exact ⟨hc.1, c2, c4⟩
  · rw [if_neg hc] at h; cases h
theorem rdN_bd : 0 ≤ (rdN b s).1 ∧ (rdN b s).1 ≤ 4611686018427387903 := by
  have := getNumOf_bd b s.1
  unfold rdN; split
  · exact ⟨this.1, this.2.1⟩
  · exact ⟨Int.le_refl _, by show (0 : Int) ≤ _; omega⟩
theorem rdN_zero (h : (rdN b s).2.2 = false) : (rdN b s).1 = 0 := by
  unfold rdN at h ⊢
  by_cases hc : s.2 = true ∧ (getNumOf b s.1).2.2 = true
  · rw [if_pos hc] at h; cases h
  · rw [if_neg hc]
theorem rdN_bad (h : s.2 = false) : rdN b s = (0, s.1, false) := by unfold rdN; rw [if_neg (by rw [h]; simp)]
theorem rdT_bad (h : s.2 = false) : rdT b s = ([], s.1, false) := by unfold rdT; rw [if_neg (by rw [h]; simp)]
theorem rdT_len (hw : Bytes b) : (rdT b s).1.length ≤ b.length := by
  unfold rdT; split
  · rename_i h
    exact (text_canon b hw s.1 (getTextOf b s.1).2.1 (getTextOf b s.1).1 (by rw [← h.2])).2.2.2.2
  · exact Nat.zero_le _
theorem s_l17Num_ok (hb : b.length ≤ 1048576) (hw : Bytes b) (hs : Pos b s) : s_l17Num ⟨b, s.1, s.2⟩ = some ((rdN b s).1, ⟨b, (rdN b s).2.1, (rdN b s).2.2⟩, ()) := by
  unfold Pos at hs
  rw [s_l17Num_eq, s_GetNum_ok b hb hw s.1 (by omega), Option.bind_some]
  unfold rdN tr3
  obtain ⟨p, ok⟩ := s
  cases h1 : (getNumOf b p).2.2 <;> cases ok <;> simp
theorem s_l17Text_ok (hb : b.length ≤ 1048576) (hw : Bytes b) (hs : Pos b s) : s_l17Text ⟨b, s.1, s.2⟩ = some ((rdT b s).1, ⟨b, (rdT b s).2.1, (rdT b s).2.2⟩, ()) := by
  unfold Pos at hs
  rw [s_l17Text_eq, s_GetText_ok b hb hw s.1 (by omega), Option.bind_some]
  unfold rdT trT
  obtain ⟨p, ok⟩ := s
  cases h1 : (getTextOf b p).2.2 <;> cases ok <;> simp
theorem i_num_ok (hb : b.length ≤ 1048576) (hw : Bytes b) : i_source_num ⟨b, s.1, !s.2⟩ 4611686018427387903 = some ((rdN b s).1, ⟨b, (rdN b s).2.1, !(rdN b s).2.2⟩, ()) := by
  have hbd := (getNumOf_bd b s.1).2.1
  rw [i_source_num_eq, i_GetNum_ok b hb hw s.1, Option.bind_some]
  unfold rdN tr3
  obtain ⟨p, ok⟩ := s
  dsimp only at hbd ⊢
  have hn : ¬ (getNumOf b p).1 > 4611686018427387903 := by omega
  cases h1 : (getNumOf b p).2.2 <;> cases ok <;> simp [hn]
theorem i_num40_ok (hb : b.length ≤ 1048576) (hw : Bytes b) : i_source_num ⟨b, s.1, !s.2⟩ 40 = (if (rdN b s).2.2 = true ∧ 40 < (rdN b s).1 then some (0, ⟨b, s.1, true⟩, ()) else some ((rdN b s).1, ⟨b, (rdN b s).2.1, !(rdN b s).2.2⟩, ())) := by
  rw [i_source_num_eq, i_GetNum_ok b hb hw s.1, Option.bind_some]
  unfold rdN tr3
  obtain ⟨p, ok⟩ := s
  dsimp only
  by_cases hn : (getNumOf b p).1 > 40
  · have hn' : 40 < (getNumOf b p).1 := hn
    cases h1 : (getNumOf b p).2.2 <;> cases ok <;> simp [hn']
  · have hn' : ¬ 40 < (getNumOf b p).1 := hn
    cases h1 : (getNumOf b p).2.2 <;> cases ok <;> simp [hn']
theorem i_text_ok (hb : b.length ≤ 1048576) (hw : Bytes b) : i_source_text ⟨b, s.1, !s.2⟩ = some ((rdT b s).1, ⟨b, (rdT b s).2.1, !(rdT b s).2.2⟩, ()) := by
  rw [i_source_text_eq, i_GetText_ok b hb hw s.1, Option.bind_some]
  unfold rdT trT
  obtain ⟨p, ok⟩ := s
  cases h1 : (getTextOf b p).2.2 <;> cases ok <;> simp
end
def rdE (b : List Int) (s : Rs) : impl_Entry × Rs :=
  (⟨(rdN b s).1, ⟨w64 ((rdN b (rdN b s).2).1 - 1), (rdN b (rdN b (rdN b s).2).2).1, (rdT b (rdN b (rdN b (rdN b s).2).2).2).1⟩⟩, (rdT b (rdN b (rdN b (rdN b s).2).2).2).2)
section
variable {b : List Int} {s : Rs}
theorem rdE_pos (hw : Bytes b) (hs : Pos b s) : Pos b (rdE b s).2 := rdT_pos hw (rdN_pos (rdN_pos (rdN_pos hs)))
theorem rdE_spec (hw : Bytes b) (h : (rdE b s).2.2 = true) : s.2 = true ∧ s.1 < (rdE b s).2.1 ∧ b.take (rdE b s).2.1.toNat = entBytes (b.take s.1.toNat) (rdE b s).1 := by
  obtain ⟨a1, a2, a3⟩ := rdT_spec hw h
  obtain ⟨b1, b2, b3, b4, b5⟩ := rdN_spec hw a1
  obtain ⟨c1, c2, c3, c4, c5⟩ := rdN_spec hw b1
  obtain ⟨d1, d2, d3, d4, d5⟩ := rdN_spec hw c1
  refine ⟨d1, by show s.1 < (rdT b (rdN b (rdN b (rdN b s).2).2).2).2.1; omega, ?_⟩
  show b.take (rdT b (rdN b (rdN b (rdN b s).2).2).2).2.1.toNat = _
  rw [a3, b3, c3, d3]
  unfold entBytes rdE
  dsimp only
  rw [show w64 (w64 ((rdN b (rdN b s).2).1 - 1) + 1) = (rdN b (rdN b s).2).1 by rw [w64_id (n := (rdN b (rdN b s).2).1 - 1) (by omega) (by omega), w64_id (by omega) (by omega)]; omega]
theorem rdE_bad (h : s.2 = false) : (rdE b s).2.2 = false := by
  unfold rdE
  have e1 : (rdN b s).2.2 = false := by rw [rdN_bad h]
  have e2 : (rdN b (rdN b s).2).2.2 = false := by rw [rdN_bad e1]
  have e3 : (rdN b (rdN b (rdN b s).2).2).2.2 = false := by rw [rdN_bad e2]
  rw [rdT_bad e3]
end
def rdL (b : List Int) : Nat → Rs → List impl_Entry → List impl_Entry × Rs
  | 0, s, acc => (acc, s)
  | j + 1, s, acc => rdL b j (rdE b s).2 (acc ++ [(rdE b s).1])
def rdS (b : List Int) : Nat → Rs → List impl_Entry → List impl_Entry × Rs
  | 0, s, acc => (acc, s)
  | j + 1, s, acc => if s.2 = true then rdS b j (rdE b s).2 (acc ++ [(rdE b s).1]) else (acc, s)
theorem rdL_bad (b : List Int) : ∀ (j : Nat) (s : Rs) (acc : List impl_Entry), s.2 = false → (rdL b j s acc).2.2 = false
  | 0, s, acc, h => h
  | j + 1, s, acc, h => rdL_bad b j _ _ (rdE_bad h)
theorem rdL_rdS (b : List Int) : ∀ (j : Nat) (s : Rs) (acc : List impl_Entry), (rdL b j s acc).2.2 = (rdS b j s acc).2.2 ∧ ((rdS b j s acc).2.2 = true → rdL b j s acc = rdS b j s acc)
  | 0, s, acc => ⟨rfl, fun _ => rfl⟩
  | j + 1, s, acc => by
    unfold rdL rdS
    by_cases h : s.2 = true
    · rw [if_pos h]; exact rdL_rdS b j _ _
    · rw [if_neg h]
      have h' : s.2 = false := by simpa using h
      exact ⟨by rw [rdL_bad b j _ _ (rdE_bad h')]; exact h'.symm, fun h2 => absurd h2 h⟩
theorem rdS_spec {b : List Int} (hb : b.length ≤ 1048576) (hw : Bytes b) : ∀ (j : Nat) (s : Rs) (acc : List impl_Entry), Pos b s → LinesOk acc →
    Pos b (rdS b j s acc).2 ∧ LinesOk (rdS b j s acc).1 ∧ ((rdS b j s acc).2.2 = true → ∃ new, (rdS b j s acc).1 = acc ++ new ∧ new.length = j ∧ s.2 = true ∧ b.take (rdS b j s acc).2.1.toNat = bodyFrom new (b.take s.1.toNat) ∧ s.1 + j ≤ (rdS b j s acc).2.1)
  | 0, s, acc, hs, ha => ⟨hs, ha, fun h => ⟨[], by simp [rdS], rfl, h, rfl, by show s.1 + 0 ≤ s.1; omega⟩⟩
  | j + 1, s, acc, hs, ha => by
    unfold rdS
    by_cases h : s.2 = true
    · rw [if_pos h]
      have hl : LinesOk (acc ++ [(rdE b s).1]) := by
        intro e he
        rcases List.mem_append.1 he with he | he
        · exact ha e he
        · rw [List.mem_singleton.1 he]
          have := rdT_len (b := b) (s := (rdN b (rdN b (rdN b s).2).2).2) hw
          show (rdT b (rdN b (rdN b (rdN b s).2).2).2).1.length ≤ _
          omega
      obtain ⟨k1, k2, k3⟩ := rdS_spec hb hw j (rdE b s).2 (acc ++ [(rdE b s).1]) (rdE_pos hw hs) hl
      refine ⟨k1, k2, fun h2 => ?_⟩
      obtain ⟨new, e1, e2, e3, e4, e5⟩ := k3 h2
      obtain ⟨f1, f2, f3⟩ := rdE_spec hw e3
      refine ⟨(rdE b s).1 :: new, by rw [e1, List.append_assoc]; rfl, by simp [e2], h, by rw [e4, f3]; rfl, by omega⟩
    · rw [if_neg h]
      exact ⟨hs, ha, fun h2 => absurd h2 h⟩
/-- The rest of a record, behind its numbers. -/
def recEnd (r : impl_Rec) (b : List Int) (x : List impl_Entry × Rs) : impl_Rec × Rs := (⟨r.Kind, r.Term, r.Vote, r.Prev, x.1, (rdT b x.2).1⟩, (rdT b x.2).2)
theorem s_read_L1 {b : List Int} (hb : b.length ≤ 1048576) (hw : Bytes b) (n : Int) (hn : n ≤ 4611686018427387904) (z : impl_Rec) : ∀ (j : Nat) (i : Nat) (s : Rs) (r : impl_Rec), (i : Int) + j = n → Pos b s → (s.2 = true → (r.List.length : Int) ≤ s.1) →
    s_l19Read_L1 n i ⟨b, s.1, s.2⟩ z r = some ((recEnd r b (rdS b j s r.List)).1, ⟨b, (recEnd r b (rdS b j s r.List)).2.1, (recEnd r b (rdS b j s r.List)).2.2⟩, ()) := by
  intro j
  induction j with
  | zero =>
    intro i s r hi hs hl
    rw [s_l19Read_L1_eq, if_neg (by rw [decide_eq_true_eq]; omega), s_l17Text_ok hb hw hs]; rfl
  | succ j ih =>
    intro i s r hi hs hl
    rw [s_l19Read_L1_eq, if_pos (decide_eq_true (by omega))]
    unfold rdS
    by_cases h : s.2 = true
    · have hl' := hl h
      have hp := hs.2
      have c1 : r.List.length + 1 ≤ room := by rw [room_eq]; omega
      have p1 := rdN_pos hs
      have p2 := rdN_pos p1
      have p3 := rdN_pos p2
      rw [if_pos h, if_pos h, s_l17Num_ok hb hw hs, Option.bind_some]
      dsimp only
      rw [s_l17Num_ok hb hw p1, Option.bind_some]
      dsimp only
      rw [s_l17Num_ok hb hw p2, Option.bind_some]
      dsimp only
      rw [s_l17Text_ok hb hw p3, Option.bind_some]
      dsimp only
      rw [if_pos c1, w64_id (n := (i : Int) + 1) (by omega) (by omega)]
      have := ih (i + 1) (rdE b s).2 ⟨r.Kind, r.Term, r.Vote, r.Prev, r.List ++ [(rdE b s).1], r.Snap⟩ (by omega) (rdE_pos hw hs) (fun h2 => by
        have := (rdE_spec hw h2).2.1
        show ((r.List ++ [(rdE b s).1]).length : Int) ≤ _
        rw [List.length_append, List.length_singleton]; omega)
      rw [show ((i + 1 : Nat) : Int) = (i : Int) + 1 by omega] at this
      exact this
    · rw [if_neg h, if_neg h, s_l17Text_ok hb hw hs]; rfl
theorem i_read_L1 {b : List Int} (hb : b.length ≤ 1048576) (hw : Bytes b) (n : Int) (hn : n ≤ 40) (z : impl_Rec) : ∀ (j : Nat) (i : Nat) (s : Rs) (r : impl_Rec), (i : Int) + j = n → r.List.length ≤ i →
    i_source_rec_L1 n i ⟨b, s.1, !s.2⟩ z r = some ((recEnd r b (rdL b j s r.List)).1, ⟨b, (recEnd r b (rdL b j s r.List)).2.1, !(recEnd r b (rdL b j s r.List)).2.2⟩, ()) := by
  intro j
  induction j with
  | zero =>
    intro i s r hi hl
    rw [i_source_rec_L1_eq, if_neg (by rw [decide_eq_true_eq]; omega), i_text_ok hb hw]; rfl
  | succ j ih =>
    intro i s r hi hl
    rw [i_source_rec_L1_eq, if_pos (decide_eq_true (by omega))]
    unfold rdL
    have c1 : r.List.length + 1 ≤ room := by rw [room_eq]; omega
    rw [i_num_ok hb hw, Option.bind_some]
    dsimp only
    rw [i_num_ok hb hw, Option.bind_some]
    dsimp only
    rw [i_num_ok hb hw, Option.bind_some]
    dsimp only
    rw [i_text_ok hb hw, Option.bind_some]
    dsimp only
    rw [if_pos c1, w64_id (n := (i : Int) + 1) (by omega) (by omega)]
    have := ih (i + 1) (rdE b s).2 ⟨r.Kind, r.Term, r.Vote, r.Prev, r.List ++ [(rdE b s).1], r.Snap⟩ (by omega) (by
      show (r.List ++ [(rdE b s).1]).length ≤ _
      rw [List.length_append, List.length_singleton]; omega)
    rw [show ((i + 1 : Nat) : Int) = (i : Int) + 1 by omega] at this
    exact this
/-- The program and the reference read the same; where all is read, the record is written as what was read. -/
theorem rec_read (b : List Int) (hb : b.length ≤ 1048576) (hw : Bytes b) : ∃ (r : impl_Rec) (s : Rs), s_l19Read ⟨b, 0, true⟩ = some (r, ⟨b, s.1, s.2⟩, ()) ∧ LinesOk r.List ∧ ∃ (r2 : impl_Rec) (s2 : Rs), i_source_rec ⟨b, 0, false⟩ = some (r2, ⟨b, s2.1, !s2.2⟩, ()) ∧
    (s2.2 = true ↔ s.2 = true ∧ r.List.length ≤ 40) ∧ (s2.2 = true → r2 = r ∧ s2 = s) ∧ (s.2 = true → b.take s.1.toNat = recBody r ∧ 0 ≤ s.1 ∧ s.1 ≤ (b.length : Int) ∧ r.List.length ≤ 1048576) := by
  have p0 : Pos b ((0 : Int), true) := ⟨Int.le_refl _, by show (0 : Int) ≤ b.length; omega⟩
  generalize hs0 : (((0 : Int), true) : Rs) = s0 at p0
  have p1 := rdN_pos p0
  have p2 := rdN_pos p1
  have p3 := rdN_pos p2
  have p4 := rdN_pos p3
  have p5 := rdN_pos p4
  generalize hh : impl_Rec.mk (rdN b s0).1 (rdN b (rdN b s0).2).1 (w64 ((rdN b (rdN b (rdN b s0).2).2).1 - 1)) (rdN b (rdN b (rdN b (rdN b s0).2).2).2).1 [] [] = hd
  generalize hf : rdN b (rdN b (rdN b (rdN b (rdN b s0).2).2).2).2 = f at p5
  have hfb : 0 ≤ f.1 ∧ f.1 ≤ 4611686018427387903 := by rw [← hf]; exact rdN_bd
  have hl0 : hd.List = [] := by rw [← hh]
  have hS : s_l19Read ⟨b, 0, true⟩ = some ((recEnd hd b (rdS b f.1.toNat f.2 hd.List)).1, ⟨b, (recEnd hd b (rdS b f.1.toNat f.2 hd.List)).2.1, (recEnd hd b (rdS b f.1.toNat f.2 hd.List)).2.2⟩, ()) := by
    have e0 : spec_l17Cur.mk b 0 true = ⟨b, s0.1, s0.2⟩ := by rw [← hs0]
    rw [e0, s_l19Read_eq, s_l17Num_ok hb hw p0, Option.bind_some]
    dsimp only
    rw [s_l17Num_ok hb hw p1, Option.bind_some]
    dsimp only
    rw [s_l17Num_ok hb hw p2, Option.bind_some]
    dsimp only
    rw [s_l17Num_ok hb hw p3, Option.bind_some]
    dsimp only
    rw [s_l17Num_ok hb hw p4, Option.bind_some]
    dsimp only
    rw [hf, hh]
    exact s_read_L1 hb hw f.1 (by omega) _ f.1.toNat 0 f.2 hd (by omega) p5 (fun _ => by rw [hl0]; exact p5.1)
  obtain ⟨k1, k2, k3⟩ := rdS_spec hb hw f.1.toNat f.2 hd.List p5 (by rw [hl0]; intro e he; cases he)
  generalize hX : rdS b f.1.toNat f.2 hd.List = X at hS k1 k2 k3
  refine ⟨_, (recEnd hd b X).2, hS, k2, ?_⟩
  have hok : (recEnd hd b X).2.2 = true → X.2.2 = true := fun h => (rdT_spec hw h).1
  have hlen : (recEnd hd b X).2.2 = true → X.1.length = f.1.toNat := fun h => by
    obtain ⟨new, n1, n2, _⟩ := k3 (hok h)
    rw [n1, hl0, List.nil_append, n2]
  have hbody : (recEnd hd b X).2.2 = true → b.take (recEnd hd b X).2.1.toNat = recBody (recEnd hd b X).1 ∧ 0 ≤ (recEnd hd b X).2.1 ∧ (recEnd hd b X).2.1 ≤ (b.length : Int) ∧ (recEnd hd b X).1.List.length ≤ 1048576 := fun h => by
    obtain ⟨t1, t2, t3⟩ := rdT_spec hw h
    obtain ⟨new, n1, n2, n3, n4, n5⟩ := k3 t1
    have hp := rdT_pos hw k1
    have q5 : (rdN b (rdN b (rdN b (rdN b (rdN b s0).2).2).2).2).2.2 = true := by rw [hf]; exact n3
    obtain ⟨a1, a2, a3, a4, a5⟩ := rdN_spec hw q5
    obtain ⟨b1, b2, b3, b4, b5⟩ := rdN_spec hw a1
    obtain ⟨c1, c2, c3, c4, c5⟩ := rdN_spec hw b1
    obtain ⟨d1, d2, d3, d4, d5⟩ := rdN_spec hw c1
    obtain ⟨e1, e2, e3, e4, e5⟩ := rdN_spec hw d1
    have hX1 : X.1 = new := by rw [n1, hl0, List.nil_append]
    refine ⟨?_, hp.1, hp.2, ?_⟩
    · show b.take (rdT b X.2).2.1.toNat = bodyFrom X.1 (recHead (recEnd hd b X).1) ++ putText (rdT b X.2).1
      rw [t3, n4, hX1]
      congr 2
      rw [hf] at a3
      rw [a3, b3, c3, d3, e3]
      unfold recHead recEnd
      rw [← hh, ← hs0]
      dsimp only
      rw [hX1, n2, hs0]
      rw [show w64 (w64 ((rdN b (rdN b (rdN b s0).2).2).1 - 1) + 1) = (rdN b (rdN b (rdN b s0).2).2).1 by rw [w64_id (n := (rdN b (rdN b (rdN b s0).2).2).1 - 1) (by omega) (by omega), w64_id (by omega) (by omega)]; omega, show ((f.1.toNat : Nat) : Int) = f.1 by omega]
      rfl
    · show X.1.length ≤ _
      rw [hX1, n2]
      have := k1.2
      have := p5.1
      omega
  have e0 : impl_source.mk b 0 false = ⟨b, s0.1, !s0.2⟩ := by rw [← hs0]; rfl
  by_cases hc : f.2.2 = true ∧ 40 < f.1
  · have hI : i_source_rec ⟨b, 0, false⟩ = some ((recEnd hd b ([], ((rdN b (rdN b (rdN b (rdN b s0).2).2).2).2.1, false))).1, ⟨b, (recEnd hd b ([], ((rdN b (rdN b (rdN b (rdN b s0).2).2).2).2.1, false))).2.1, !(recEnd hd b ([], ((rdN b (rdN b (rdN b (rdN b s0).2).2).2).2.1, false))).2.2⟩, ()) := by
      rw [e0, i_source_rec_eq, i_num_ok hb hw, Option.bind_some]
      dsimp only
      rw [i_num_ok hb hw, Option.bind_some]
      dsimp only
      rw [i_num_ok hb hw, Option.bind_some]
      dsimp only
      rw [i_num_ok hb hw, Option.bind_some]
      dsimp only
      rw [i_num40_ok hb hw, hf, if_pos hc, Option.bind_some]
      dsimp only
      rw [hh]
      have := i_read_L1 hb hw 0 (by omega) z_impl_Rec 0 0 ((rdN b (rdN b (rdN b (rdN b s0).2).2).2).2.1, false) hd (by omega) (by rw [hl0]; exact Nat.le_refl _)
      rw [hl0] at this
      exact this
    refine ⟨_, _, hI, ?_, fun h => ?_, hbody⟩
    · have hn : (recEnd hd b ([], ((rdN b (rdN b (rdN b (rdN b s0).2).2).2).2.1, false))).2.2 = false := by unfold recEnd; rw [rdT_bad rfl]
      rw [hn]
      constructor
      · intro h; cases h
      · rintro ⟨h1, h2⟩
        have := hlen h1
        have h2' : X.1.length ≤ 40 := h2
        omega
    · have hn : (recEnd hd b ([], ((rdN b (rdN b (rdN b (rdN b s0).2).2).2).2.1, false))).2.2 = false := by unfold recEnd; rw [rdT_bad rfl]
      rw [hn] at h; cases h
  · have hf40 : f.1 ≤ 40 := by
      by_cases h : f.2.2 = true
      · have : ¬ 40 < f.1 := fun h2 => hc ⟨h, h2⟩
        omega
      · have : f.1 = 0 := by rw [← hf] at h ⊢; exact rdN_zero (by simpa using h)
        omega
    have hI : i_source_rec ⟨b, 0, false⟩ = some ((recEnd hd b (rdL b f.1.toNat f.2 [])).1, ⟨b, (recEnd hd b (rdL b f.1.toNat f.2 [])).2.1, !(recEnd hd b (rdL b f.1.toNat f.2 [])).2.2⟩, ()) := by
      rw [e0, i_source_rec_eq, i_num_ok hb hw, Option.bind_some]
      dsimp only
      rw [i_num_ok hb hw, Option.bind_some]
      dsimp only
      rw [i_num_ok hb hw, Option.bind_some]
      dsimp only
      rw [i_num_ok hb hw, Option.bind_some]
      dsimp only
      rw [i_num40_ok hb hw, hf, if_neg hc, Option.bind_some]
      dsimp only
      rw [hh]
      have := i_read_L1 hb hw f.1 hf40 z_impl_Rec f.1.toNat 0 f.2 hd (by omega) (by rw [hl0]; exact Nat.le_refl _)
      rw [hl0] at this
      exact this
    have hrel := rdL_rdS b f.1.toNat f.2 []
    rw [hl0] at hX
    rw [hX] at hrel
    refine ⟨_, _, hI, ?_, fun h => ?_, hbody⟩
    · by_cases hx : X.2.2 = true
      · rw [hrel.2 hx]
        constructor
        · intro h
          have := hlen h
          exact ⟨h, by show X.1.length ≤ 40; omega⟩
        · exact fun h => h.1
      · have hx' : X.2.2 = false := by simpa using hx
        have h1 : (recEnd hd b (rdL b f.1.toNat f.2 [])).2.2 = false := by unfold recEnd; rw [rdT_bad (by rw [hrel.1]; exact hx')]
        rw [h1]
        constructor
        · intro h; cases h
        · intro h; exact absurd (hok h.1) hx
    · by_cases hx : X.2.2 = true
      · rw [hrel.2 hx]; exact ⟨rfl, rfl⟩
      · have hx' : X.2.2 = false := by simpa using hx
        have h1 : (recEnd hd b (rdL b f.1.toNat f.2 [])).2.2 = false := by unfold recEnd; rw [rdT_bad (by rw [hrel.1]; exact hx')]
        rw [h1] at h; cases h
end Go.Proofs.Ytlidpmhmchbilaa.E.TE
