/- Logs: what is put is there, what is ahead stays; cut, the rest is as it was. No condition but lengths. -/
import Derived.Test.YtajahbpeiifcbaaPLLogPut
import Derived.Test.YtajahbpeiifcbaaPLLogCut
import Derived.Test.YtajahbpeiifcbaaPLNewer
import Derived.Test.YtajahbpeiifcbaaPLLastOf
import Derived.Test.YtajahbpeiifcbaaTLe1
namespace Go.Proofs.Ytajahbpeiifcbaa.E.TL
open Go.Proofs.Ytajahbpeiifcbaa.E
set_option linter.unusedVariables false
theorem sameLog_ok (l : impl_Log) (hl : l.List.length ≤ 4294967296) : l_sameLog l l = some (true, ()) := by
  rw [l_sameLog_eq, if_neg (by simp), if_neg (by simp), if_neg (by simp)]
  exact all_loop (fun i => l_sameLog_L1 i l l) l.List _ (fun i h => by
    show l_sameLog_L1 i l l = _
    rw [l_sameLog_L1_eq, if_pos (decide_eq_true (by omega)), if_pos (by omega), if_pos (by omega), if_neg (by simp), w64_succ h (by omega)]) (by
    show l_sameLog_L1 _ l l = _
    rw [l_sameLog_L1_eq, if_neg (by simp)])
theorem from_same (l : impl_Log) (i : Int) (hl : l.List.length ≤ 1048576) (hb : InI l.Base) (hi : InI i) (hs : Has_ l i → l.Base + l.List.length ≤ 300) : ∃ x y, s_From l i = some (x, ()) ∧ i_From l i = some (y, ()) ∧ x.length = y.length := by
  rw [s_From_eq, i_From_eq, at_ok l i (by omega) hb hi, there_ok l (by omega)]
  simp only [Option.bind_some, decide_eq_true_eq]
  have hi' := has_iff l i
  have hlen := there_len l
  unfold InI at *
  by_cases h : Has_ l i
  · have h' := hi'.1 h
    have hs := hs h
    have hh := h
    unfold Has_ at hh
    rw [if_pos (by omega)] at hlen
    have e1 : w64 (l.Base + ((thereOf l).length : Int)) = l.Base + (thereOf l).length := w64_id (by omega) (by omega)
    have e2 : w64 (i - l.Base) = i - l.Base := w64_id (by omega) (by omega)
    have e3 : w64 (i - l.Base - 1) = i - l.Base - 1 := w64_id (by omega) (by omega)
    have c1 : ¬ i - l.Base - 1 < 0 := by omega
    have c2 : 0 ≤ i - l.Base - 1 ∧ i - l.Base - 1 ≤ (l.List.length : Int) := by omega
    have c3 : ¬ i ≤ l.Base := by omega
    have c4 : ¬ ((thereOf l).length : Int) = 0 := by omega
    have c5 : ¬ i > l.Base + (thereOf l).length := by omega
    have c6 : 0 ≤ i - l.Base - 1 ∧ i - l.Base - 1 ≤ ((thereOf l).length : Int) := by omega
    have c7 : 0 + List.length (List.take (l.List.length - (i - l.Base - 1).toNat) (List.drop (i - l.Base - 1).toNat l.List)) ≤ room := by
      rw [List.length_take, List.length_drop, room_eq]; omega
    simp only [if_pos h, e1, e2, e3, if_neg c1, if_pos c2, if_neg c3, if_neg c4, if_neg c5, if_pos c6, if_pos c7]
    rw [clone_Entry _ (by rw [List.length_take, List.length_drop]; omega)]
    refine ⟨_, _, rfl, rfl, ?_⟩
    show (List.take (l.List.length - (i - l.Base - 1).toNat) (List.drop (i - l.Base - 1).toNat l.List)).length = _
    rw [List.length_take, List.length_drop, List.length_take, List.length_drop]; omega
  · have h' : ¬ (l.Base < i ∧ 0 < ((thereOf l).length : Int) ∧ i ≤ l.Base + (thereOf l).length) := fun x => h (hi'.2 x)
    simp only [if_neg h]
    refine ⟨[], [], rfl, ?_, rfl⟩
    by_cases c1 : i ≤ l.Base
    · simp only [if_pos c1]
    · simp only [if_neg c1]
      by_cases c2 : ((thereOf l).length : Int) = 0
      · simp only [if_pos c2]
      · have e1 : w64 (l.Base + ((thereOf l).length : Int)) = l.Base + (thereOf l).length := w64_id (by omega) (by split at hlen <;> omega)
        have c3 : i > l.Base + ((thereOf l).length : Int) := by omega
        simp only [if_neg c2, e1, if_pos c3]
def termOf (l : impl_Log) (i : Int) : Int := if i = l.Base then l.BaseTerm else if Has_ l i then (l.List.getD (i - l.Base - 1).toNat z_impl_Entry).Term else -1
theorem i_TermAt_ok (l : impl_Log) (i : Int) (hl : l.List.length ≤ 4294967296) (hb : InI l.Base) (hi : InI i) : i_TermAt l i = some (termOf l i, ()) := by
  obtain ⟨y, h1, h2, h3⟩ := termAt_same l i hl hb hi
  rw [h2]
  rw [s_TermAt_eq, at_ok l i hl hb hi] at h1
  unfold termOf
  by_cases c : i = l.Base
  · rw [if_pos c]
    rw [if_pos (decide_eq_true c)] at h1
    rw [← Option.some.inj h1]
  · rw [if_neg c]
    rw [if_neg (by rw [decide_eq_true_eq]; exact c), Option.bind_some] at h1
    by_cases h : Has_ l i
    · rw [if_pos h, h3 h]
    · rw [if_neg h]
      rw [if_neg h] at h1
      have : (-1 : Int) = y := by simpa using h1
      rw [this]
def lastOf (l : impl_Log) : Int × Int := if l.List = [] then (l.Base, l.BaseTerm) else (l.Base + l.List.length, (l.List.getD (l.List.length - 1) z_impl_Entry).Term)
theorem i_LastOf_ok (l : impl_Log) (h0 : 0 ≤ l.Base) (h1 : l.Base ≤ 1000) (hl : l.List.length ≤ 1048576) : i_LastOf l = some ((lastOf l).1, (lastOf l).2, ()) := by
  rw [i_LastOf_eq]
  unfold lastOf
  by_cases h : l.List = []
  · rw [if_pos h, if_pos (by rw [decide_eq_true_eq, h]; rfl)]
  · have hp := List.length_pos_iff.2 h
    rw [if_neg h, if_neg (by rw [decide_eq_true_eq]; omega), w64_id (n := (l.List.length : Int) - 1) (by omega) (by omega), if_pos (by omega), w64_id (by omega) (by omega), show ((l.List.length : Int) - 1).toNat = l.List.length - 1 by omega]
theorem listOk_drop : ∀ (k : Nat) (l : List impl_Entry) (t : Int), listOk l t = true → 0 ≤ t → k < l.length → listOk (l.drop (k + 1)) (l.getD k z_impl_Entry).Term = true ∧ 0 ≤ (l.getD k z_impl_Entry).Term ∧ (l.getD k z_impl_Entry).Term ≤ 300
  | _, [], t, _, _, h => by cases h
  | 0, e :: l, t, h, ht, _ => by
    simp only [listOk, Bool.and_eq_true, decide_eq_true_eq] at h
    exact ⟨h.2.2, by show 0 ≤ e.Term; omega, h.1.2⟩
  | k + 1, e :: l, t, h, ht, hk => by
    simp only [listOk, Bool.and_eq_true, decide_eq_true_eq] at h
    exact listOk_drop k l e.Term h.2.2 (by omega) (by simpa using hk)
theorem logOk_spec {l : impl_Log} (h : logOk l = true) : (0 ≤ l.Base ∧ l.Base ≤ 300) ∧ (0 ≤ l.BaseTerm ∧ l.BaseTerm ≤ 300) ∧ (l.List.length : Int) ≤ 300 - l.Base ∧ listOk l.List l.BaseTerm = true := by
  unfold logOk at h
  simp only [Bool.and_eq_true, decide_eq_true_eq] at h
  exact ⟨h.1, h.2.1, h.2.2.1, h.2.2.2⟩
/-- Cut at an index that is there: what is left is right, and ends as it did. -/
theorem cut_law (l : impl_Log) (i : Int) (hl : l.List.length ≤ 1048576) (hi : InI i) (hok : logOk l = true) (d : impl_Log) (hd : i_LogCut l i = some (d, ())) (h1 : d.Base = i) (h2 : ¬ i = l.Base) :
    logOk d = true ∧ lastOf d = lastOf l ∧ d.List.length ≤ 1048576 := by
  obtain ⟨⟨b0, b1⟩, ⟨t0, t1⟩, hlen, hlist⟩ := logOk_spec hok
  have hb : InI l.Base := ⟨by omega, by omega⟩
  obtain ⟨y, e1, e2, e3⟩ := logCut_same l i hl hb hi
  rw [hd] at e2
  obtain rfl : d = y := by simpa using e2
  rw [s_LogCut_eq, at_ok l i (by omega) hb hi, copyLog_ok l (by omega)] at e1
  simp only [Option.bind_some, decide_eq_true_eq] at e1
  by_cases h : Has_ l i
  · have hh := h
    unfold Has_ at hh
    obtain ⟨k, hk⟩ : ∃ k : Nat, i = l.Base + k + 1 := ⟨(i - l.Base - 1).toNat, by omega⟩
    have e4 : w64 (i - l.Base - 1 + 1) = i - l.Base := by rw [w64_id (by omega) (by omega)]; omega
    have c1 : ¬ i - l.Base - 1 < 0 := by omega
    have c2 : 0 ≤ i - l.Base - 1 ∧ i - l.Base - 1 < (l.List.length : Int) := by omega
    have c6 : 0 ≤ i - l.Base ∧ i - l.Base ≤ (l.List.length : Int) := by omega
    have c7 : 0 + List.length (List.take (l.List.length - (i - l.Base).toNat) (List.drop (i - l.Base).toNat l.List)) ≤ room := by
      rw [List.length_take, List.length_drop, room_eq]; omega
    rw [if_pos h, if_neg c1, if_pos c2, e4, if_pos c6, if_pos c7, show (i - l.Base).toNat = k + 1 by omega, show (i - l.Base - 1).toNat = k by omega] at e1
    have hkl : k < l.List.length := by omega
    have hdd : d = ⟨i, (l.List.getD k z_impl_Entry).Term, l.List.drop (k + 1)⟩ := by
      have h9 : (impl_Log.mk i ((List.getD l.List k z_impl_Entry).Term) ([].append (List.take (l.List.length - (k + 1)) (List.drop (k + 1) l.List)))) = d := by simpa using e1
      rw [← h9]
      congr 1
      show List.take (l.List.length - (k + 1)) (List.drop (k + 1) l.List) = _
      rw [List.take_of_length_le (by rw [List.length_drop]; omega)]
    obtain ⟨q1, q2, q3⟩ := listOk_drop k l.List l.BaseTerm hlist t0 hkl
    have hdl : (l.List.drop (k + 1)).length = l.List.length - (k + 1) := List.length_drop ..
    refine ⟨?_, ?_, by rw [hdd]; show (l.List.drop (k + 1)).length ≤ _; omega⟩
    · rw [hdd]
      unfold logOk
      simp only [Bool.and_eq_true, decide_eq_true_eq]
      exact ⟨by omega, ⟨q2, q3⟩, by omega, q1⟩
    · rw [hdd]
      have hne : l.List ≠ [] := fun h => by rw [h] at hkl; cases hkl
      unfold lastOf
      rw [if_neg hne]
      dsimp only
      by_cases hnil : l.List.drop (k + 1) = []
      · rw [if_pos hnil]
        have : (l.List.drop (k + 1)).length = 0 := by rw [hnil]; rfl
        have hk1 : k = l.List.length - 1 := by omega
        rw [← hk1]
        congr 1
        omega
      · rw [if_neg hnil]
        have := List.length_pos_iff.2 hnil
        congr 1
        · omega
        · congr 1
          rw [List.getD_eq_getElem?_getD, List.getD_eq_getElem?_getD, List.getElem?_drop, hdl]
          congr 2
          omega
  · exfalso
    rw [if_neg h, if_pos (by omega)] at e1
    have : l = d := by simpa using e1
    rw [← this] at h1
    exact h2 h1.symm
def putL : List impl_Entry → Nat → List impl_Entry → List impl_Entry
  | [], _, o => o
  | e :: es, k, o => if k < o.length then (if (o.getD k z_impl_Entry).Term = e.Term then putL es (k + 1) o else putL es (k + 1) (o.take k ++ [e])) else putL es (k + 1) (o ++ [e])
theorem putL_spec : ∀ (es : List impl_Entry) (k : Nat) (o : List impl_Entry), k ≤ o.length →
    (putL es k o).take k = o.take k ∧ k + es.length ≤ (putL es k o).length ∧ ∀ j (h : j < es.length), ((putL es k o).getD (k + j) z_impl_Entry).Term = es[j].Term
  | [], k, o, hk => ⟨rfl, hk, fun j h => by cases h⟩
  | e :: es, k, o, hk => by
    have step : ∀ o' : List impl_Entry, k + 1 ≤ o'.length → o'.take k = o.take k → (o'.getD k z_impl_Entry).Term = e.Term →
        (putL es (k + 1) o').take k = o.take k ∧ k + (e :: es).length ≤ (putL es (k + 1) o').length ∧ ∀ j (h : j < (e :: es).length), ((putL es (k + 1) o').getD (k + j) z_impl_Entry).Term = (e :: es)[j].Term := by
      intro o' h1 h2 h3
      obtain ⟨q1, q2, q3⟩ := putL_spec es (k + 1) o' h1
      have q4 : (putL es (k + 1) o').take k = o'.take k := by
        have := congrArg (List.take k) q1
        rwa [List.take_take, List.take_take, Nat.min_eq_left (Nat.le_succ k)] at this
      refine ⟨q4.trans h2, by simp only [List.length_cons]; omega, fun j h => ?_⟩
      cases j with
      | zero =>
        have : (putL es (k + 1) o').getD k z_impl_Entry = o'.getD k z_impl_Entry := by
          have := congrArg (fun l => l[k]?) q1
          simp only [List.getElem?_take, if_pos (Nat.lt_succ_self k)] at this
          rw [List.getD_eq_getElem?_getD, List.getD_eq_getElem?_getD, this]
        show ((putL es (k + 1) o').getD k z_impl_Entry).Term = e.Term
        rw [this, h3]
      | succ j =>
        have := q3 j (by simpa using h)
        rw [show k + (j + 1) = k + 1 + j by omega]
        exact this
    show (putL (e :: es) k o).take k = _ ∧ _
    have hp : putL (e :: es) k o = if k < o.length then (if (o.getD k z_impl_Entry).Term = e.Term then putL es (k + 1) o else putL es (k + 1) (o.take k ++ [e])) else putL es (k + 1) (o ++ [e]) := rfl
    rw [hp]
    by_cases h1 : k < o.length
    · rw [if_pos h1]
      by_cases h2 : (o.getD k z_impl_Entry).Term = e.Term
      · rw [if_pos h2]; exact step o h1 rfl h2
      · rw [if_neg h2]
        have hl : (o.take k).length = k := by rw [List.length_take]; omega
        refine step _ (by rw [List.length_append, hl]; exact Nat.le_refl _) ?_ ?_
        · rw [List.take_append_of_le_length (by omega), List.take_take, Nat.min_self]
        · rw [List.getD_eq_getElem?_getD, List.getElem?_append_right (by omega), hl, Nat.sub_self]; rfl
    · rw [if_neg h1]
      have hl : o.length = k := by omega
      refine step _ (by rw [List.length_append, hl]; exact Nat.le_refl _) ?_ ?_
      · rw [List.take_append_of_le_length (by omega)]
      · rw [List.getD_eq_getElem?_getD, List.getElem?_append_right (by omega), hl, Nat.sub_self]; rfl
theorem putL_again : ∀ (es : List impl_Entry) (k : Nat) (o : List impl_Entry), k + es.length ≤ o.length → (∀ j (h : j < es.length), (o.getD (k + j) z_impl_Entry).Term = es[j].Term) → putL es k o = o
  | [], k, o, _, _ => rfl
  | e :: es, k, o, hl, h => by
    have hp : putL (e :: es) k o = if k < o.length then (if (o.getD k z_impl_Entry).Term = e.Term then putL es (k + 1) o else putL es (k + 1) (o.take k ++ [e])) else putL es (k + 1) (o ++ [e]) := rfl
    simp only [List.length_cons] at hl
    have h0 : (o.getD k z_impl_Entry).Term = e.Term := h 0 (by simp)
    rw [hp, if_pos (by omega), if_pos h0]
    exact putL_again es (k + 1) o (by omega) fun j hj => by
      have := h (j + 1) (by simp only [List.length_cons]; omega)
      rw [show k + 1 + j = k + (j + 1) by omega]; exact this
theorem putL_len : ∀ (es : List impl_Entry) (k : Nat) (o : List impl_Entry), k ≤ o.length → (putL es k o).length ≤ o.length + es.length
  | [], k, o, _ => Nat.le_refl _
  | e :: es, k, o, hk => by
    have hp : putL (e :: es) k o = if k < o.length then (if (o.getD k z_impl_Entry).Term = e.Term then putL es (k + 1) o else putL es (k + 1) (o.take k ++ [e])) else putL es (k + 1) (o ++ [e]) := rfl
    rw [hp]
    simp only [List.length_cons]
    split
    · split
      · have := putL_len es (k + 1) o (by omega); omega
      · have := putL_len es (k + 1) (o.take k ++ [e]) (by rw [List.length_append, List.length_take]; simp only [List.length_cons, List.length_nil]; omega)
        rw [List.length_append, List.length_take] at this
        simp only [List.length_cons, List.length_nil] at this; omega
    · have := putL_len es (k + 1) (o ++ [e]) (by rw [List.length_append]; simp only [List.length_cons, List.length_nil]; omega)
      rw [List.length_append] at this
      simp only [List.length_cons, List.length_nil] at this; omega
theorem i_put_L1 (l : impl_Log) (lst : List impl_Entry) (p : Int) (k : Nat) (z : impl_Log) (hp : p - l.Base = k) (hk : k ≤ 1000000) (hl : l.List.length ≤ 1048576) (hlst : lst.length ≤ 1048576) :
    ∀ (d i : Nat) (o : impl_Log), i + d = lst.length → k + i ≤ o.List.length → o.List.length ≤ 1048576 + i →
      i_LogPut_L1 p lst (lst.length : Int) i l z o = (if logOk ⟨o.Base, o.BaseTerm, putL (lst.drop i) (k + i) o.List⟩ = true then some (⟨o.Base, o.BaseTerm, putL (lst.drop i) (k + i) o.List⟩, true, ()) else some (l, false, ())) := by
  intro d
  induction d with
  | zero =>
    intro i o hd hk' ho
    rw [i_LogPut_L1_eq, if_neg (by rw [decide_eq_true_eq]; omega), List.drop_eq_nil_of_le (by omega)]
    show _ = if logOk o = true then some (o, true, ()) else some (l, false, ())
    rw [i_LogOk_ok o (by omega), cloneLog_ok l (by omega)]
    simp only [Option.bind_some]
    cases logOk o <;> rfl
  | succ d ih =>
    intro i o hd hk' ho
    have hi : i < lst.length := by omega
    have c : (0 : Int) ≤ (i : Int) ∧ (i : Int) < (lst.length : Int) := by omega
    have e1 : w64 (p - l.Base) = p - l.Base := w64_id (by omega) (by omega)
    have e2 : w64 (p - l.Base + i) = p - l.Base + i := w64_id (by omega) (by omega)
    have e3 : w64 ((i : Int) + 1) = ((i + 1 : Nat) : Int) := w64_succ hi (by omega)
    have e4 : (p - l.Base + i).toNat = k + i := by omega
    rw [List.drop_eq_getElem_cons hi]
    have hput : putL (lst[i] :: lst.drop (i + 1)) (k + i) o.List = if k + i < o.List.length then (if (o.List.getD (k + i) z_impl_Entry).Term = lst[i].Term then putL (lst.drop (i + 1)) (k + i + 1) o.List else putL (lst.drop (i + 1)) (k + i + 1) (o.List.take (k + i) ++ [lst[i]])) else putL (lst.drop (i + 1)) (k + i + 1) (o.List ++ [lst[i]]) := rfl
    rw [hput, i_LogPut_L1_eq, if_pos (decide_eq_true c.2), e1, e2, e3, getD_nat hi, e4]
    simp only [if_pos c, decide_eq_true_eq]
    by_cases h : p - l.Base + i < (o.List.length : Int)
    · have c2 : 0 ≤ p - l.Base + i ∧ p - l.Base + i < (o.List.length : Int) := by omega
      have c3 : 0 ≤ p - l.Base + i ∧ p - l.Base + i ≤ (o.List.length : Int) := by omega
      have h' : k + i < o.List.length := by omega
      rw [if_pos h, if_pos c2, if_pos h']
      by_cases h2 : (List.getD o.List (k + i) z_impl_Entry).Term = lst[i].Term
      · simp only [if_pos h2]
        exact ih (i + 1) o (by omega) (by omega) (by omega)
      · simp only [if_neg h2, if_pos c3]
        have hlen : (List.take (k + i) o.List).length = k + i := by rw [List.length_take]; omega
        have c6 : List.length (List.take (k + i) o.List) + 1 ≤ room := by rw [hlen, room_eq]; omega
        simp only [if_pos c6]
        have hn : (List.take (k + i) o.List ++ [lst[i]]).length = k + i + 1 := by rw [List.length_append, hlen]; rfl
        exact ih (i + 1) ⟨o.Base, o.BaseTerm, List.take (k + i) o.List ++ [lst[i]]⟩ (by omega) (by show k + (i + 1) ≤ (List.take (k + i) o.List ++ [lst[i]]).length; omega) (by show (List.take (k + i) o.List ++ [lst[i]]).length ≤ _; omega)
    · have h' : ¬ k + i < o.List.length := by omega
      rw [if_neg h, if_neg h']
      have c5 : List.length o.List + 1 ≤ room := by rw [room_eq]; omega
      simp only [if_pos c5]
      have hn : (o.List ++ [lst[i]]).length = o.List.length + 1 := by rw [List.length_append]; rfl
      exact ih (i + 1) ⟨o.Base, o.BaseTerm, o.List ++ [lst[i]]⟩ (by omega) (by show k + (i + 1) ≤ (o.List ++ [lst[i]]).length; omega) (by show (o.List ++ [lst[i]]).length ≤ _; omega)
/-- What a put that is taken comes to. -/
structure Put (l : impl_Log) (p t : Int) (lst : List impl_Entry) (y : impl_Log) : Prop where
  old : logOk l = true
  ok : logOk y = true
  pos : 0 ≤ t
  term : termOf l p = t
  base : y.Base = l.Base
  bterm : y.BaseTerm = l.BaseTerm
  ge : l.Base ≤ p
  le : p - l.Base ≤ (l.List.length : Int)
  list : y.List = putL lst (p - l.Base).toNat l.List
theorem put_at {l : impl_Log} {p t : Int} (hb : InI l.Base) (hp : InI p) (ht : 0 ≤ t) (h : termOf l p = t) : l.Base ≤ p ∧ p - l.Base ≤ (l.List.length : Int) := by
  unfold termOf at h
  by_cases h1 : p = l.Base
  · omega
  · rw [if_neg h1] at h
    by_cases h2 : Has_ l p
    · unfold Has_ at h2; omega
    · rw [if_neg h2] at h; omega
theorem i_LogPut_ok (l : impl_Log) (p t : Int) (lst : List impl_Entry) (hl : l.List.length ≤ 100000) (hlst : lst.length ≤ 100000) (hb : InI l.Base) (hp : InI p) (y : impl_Log) (ok : Bool) (h : i_LogPut l p t lst = some (y, ok, ())) :
    (ok = false → y.List = [] ∨ y = l) ∧ (ok = true → Put l p t lst y) := by
  rw [i_LogPut_eq, i_LogOk_ok l (by omega), cloneLog_ok l (by omega), i_TermAt_ok l p (by omega) hb hp] at h
  simp only [Option.bind_some, decide_eq_true_eq] at h
  cases hlog : logOk l with
  | false =>
    rw [hlog] at h
    have h2 : (impl_Log.mk 0 0 []) = y ∧ false = ok := by simpa using h
    exact ⟨fun _ => .inl (by rw [← h2.1]), fun h3 => by rw [← h2.2] at h3; cases h3⟩
  | true =>
    rw [hlog] at h
    simp only [Bool.not_true, Bool.false_eq_true, if_false] at h
    by_cases ht : t < 0
    · rw [if_pos ht] at h
      have h2 : l = y ∧ false = ok := by simpa using h
      exact ⟨fun _ => .inr h2.1.symm, fun h3 => by rw [← h2.2] at h3; cases h3⟩
    · rw [if_neg ht] at h
      by_cases hq : termOf l p = t
      · rw [decide_eq_true hq] at h
        simp only [Bool.not_true, Bool.false_eq_true, if_false] at h
        obtain ⟨p1, p2⟩ := put_at hb hp (by omega) hq
        have := i_put_L1 l lst p (p - l.Base).toNat z_impl_Log (by omega) (by omega) (by omega) (by omega) lst.length 0 l (by omega) (by omega) (by omega)
        rw [show (((0 : Nat)) : Int) = 0 from rfl] at this
        rw [this, List.drop_zero, Nat.add_zero] at h
        cases hok : logOk ⟨l.Base, l.BaseTerm, putL lst (p - l.Base).toNat l.List⟩ with
        | false =>
          rw [hok] at h
          have h2 : l = y ∧ false = ok := by simpa using h
          exact ⟨fun _ => .inr h2.1.symm, fun h3 => by rw [← h2.2] at h3; cases h3⟩
        | true =>
          rw [hok] at h
          have h2 : (⟨l.Base, l.BaseTerm, putL lst (p - l.Base).toNat l.List⟩ : impl_Log) = y ∧ true = ok := by simpa using h
          refine ⟨fun h3 => (by rw [← h2.2] at h3; cases h3), fun _ => ?_⟩
          rw [← h2.1]
          exact ⟨hlog, hok, by omega, hq, rfl, rfl, p1, p2, rfl⟩
      · rw [decide_eq_false hq] at h
        have h2 : l = y ∧ false = ok := by simpa using h
        exact ⟨fun _ => .inr h2.1.symm, fun h3 => by rw [← h2.2] at h3; cases h3⟩
section
variable {l : impl_Log} {p t : Int} {lst : List impl_Entry} {y : impl_Log} (P : Put l p t lst y)
include P
theorem Put.new (j : Nat) (h : j < lst.length) : termOf y (p + 1 + j) = lst[j].Term := by
  obtain ⟨⟨b0, b1⟩, _, hlen, _⟩ := logOk_spec P.ok
  have b := P.base
  have h1 := P.ge
  have h2 := P.le
  obtain ⟨q1, q2, q3⟩ := putL_spec lst (p - l.Base).toNat l.List (by omega)
  rw [← P.list] at q2 q3
  unfold termOf
  rw [if_neg (by omega), if_pos (by unfold Has_; omega), show (p + 1 + j - y.Base - 1).toNat = (p - l.Base).toNat + j by omega]
  exact q3 j h
theorem Put.keep (i : Int) (h : l.Base ≤ i) (h' : i ≤ p) : termOf y i = termOf l i := by
  obtain ⟨⟨b0, b1⟩, _, hlen, _⟩ := logOk_spec P.ok
  obtain ⟨_, _, hlen', _⟩ := logOk_spec P.old
  have b := P.base
  have h1 := P.ge
  have h2 := P.le
  obtain ⟨q1, q2, q3⟩ := putL_spec lst (p - l.Base).toNat l.List (by omega)
  rw [← P.list] at q1 q2
  unfold termOf
  by_cases hi : i = l.Base
  · rw [if_pos (by omega), if_pos hi, P.bterm]
  · rw [if_neg (by omega), if_neg hi, if_pos (by unfold Has_; omega), if_pos (by unfold Has_; omega), b]
    have hx : y.List[(i - l.Base - 1).toNat]? = l.List[(i - l.Base - 1).toNat]? := by
      have := congrArg (fun a => a[(i - l.Base - 1).toNat]?) q1
      simpa only [List.getElem?_take, if_pos (show (i - l.Base - 1).toNat < (p - l.Base).toNat by omega)] using this
    rw [List.getD_eq_getElem?_getD, List.getD_eq_getElem?_getD, hx]
theorem Put.again (hl : l.List.length ≤ 1000) (hlst : lst.length ≤ 1000) (hp : InI p) : i_LogPut y p t lst = some (y, true, ()) := by
  obtain ⟨⟨b0, b1⟩, _, hlen, _⟩ := logOk_spec P.ok
  have b := P.base
  have h1 := P.ge
  have h2 := P.le
  have hb : InI y.Base := ⟨by omega, by omega⟩
  obtain ⟨q1, q2, q3⟩ := putL_spec lst (p - l.Base).toNat l.List (by omega)
  rw [← P.list] at q1 q2 q3
  have ht : termOf y p = t := (P.keep p h1 (Int.le_refl p)).trans P.term
  have := i_put_L1 y lst p (p - l.Base).toNat z_impl_Log (by omega) (by omega) (by omega) (by omega) lst.length 0 y (by omega) (by omega) (by omega)
  rw [show (((0 : Nat)) : Int) = 0 from rfl, List.drop_zero, Nat.add_zero, putL_again lst _ y.List q2 q3] at this
  have h0 := P.pos
  rw [i_LogPut_eq, i_LogOk_ok y (by omega), cloneLog_ok y (by omega), i_TermAt_ok y p (by omega) hb hp]
  simp only [Option.bind_some, decide_eq_true_eq, P.ok, ht, decide_true, Bool.not_true, Bool.false_eq_true, if_false]
  rw [if_neg (by omega), this]
  show (if logOk y = true then _ else _) = _
  rw [if_pos P.ok]
end
end Go.Proofs.Ytajahbpeiifcbaa.E.TL
