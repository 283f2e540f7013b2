/- RecBytes of the program and of the reference tell the same. No condition. -/
import Derived.Test.YtlidpmhmchbilaaPERecOk
import Derived.Test.YtlidpmhmchbilaaPEPutNum
import Derived.Test.YtlidpmhmchbilaaPESumOf
import Derived.Test.YtlidpmhmchbilaaTEe1
namespace Go.Proofs.Ytlidpmhmchbilaa.E.TE
open Go.Proofs.Ytlidpmhmchbilaa.E
set_option linter.unusedVariables false
def entBytes (acc : List Int) (e : impl_Entry) : List Int := (((acc ++ putNumOf e.Term) ++ putNumOf (w64 (e.C.Who + 1))) ++ putNumOf e.C.Seq) ++ putText e.C.Line
def bodyFrom : List impl_Entry → List Int → List Int
  | [], acc => acc
  | e :: l, acc => bodyFrom l (entBytes acc e)
theorem entBytes_len (acc : List Int) (e : impl_Entry) (h : e.C.Line.length ≤ 60) : (entBytes acc e).length ≤ acc.length + 96 := by
  unfold entBytes
  simp only [List.length_append]
  have a := putNumOf_len e.Term
  have b := putNumOf_len (w64 (e.C.Who + 1))
  have c := putNumOf_len e.C.Seq
  have d := putText_len e.C.Line
  omega
theorem bodyFrom_len : ∀ (l : List impl_Entry) (acc : List Int), (∀ e ∈ l, e.C.Line.length ≤ 60) → (bodyFrom l acc).length ≤ acc.length + 96 * l.length
  | [], acc, _ => by simp [bodyFrom]
  | e :: l, acc, h => by
    have h1 := entBytes_len acc e (h e (List.mem_cons_self ..))
    have h2 := bodyFrom_len l (entBytes acc e) fun x hx => h x (List.mem_cons_of_mem _ hx)
    show (bodyFrom l (entBytes acc e)).length ≤ _
    rw [List.length_cons]; omega
theorem cmdOk_line {c : impl_Cmd} (h : cmdOk c = true) : c.Line.length ≤ 60 := by
  unfold cmdOk at h
  split at h
  · simp only [Bool.and_eq_true, decide_eq_true_eq] at h; rw [h.2]; exact Nat.zero_le _
  · simp only [Bool.and_eq_true, decide_eq_true_eq] at h; omega
theorem entriesOk_spec {l : List impl_Entry} {m : Int} (h : entriesOk l m = true) : l.length ≤ 40 ∧ ∀ e ∈ l, e.C.Line.length ≤ 60 := by
  unfold entriesOk at h
  simp only [Bool.and_eq_true, decide_eq_true_eq, List.all_eq_true] at h
  refine ⟨by omega, fun e he => ?_⟩
  have := h.2 e he
  unfold entOk at this
  simp only [Bool.and_eq_true] at this
  exact cmdOk_line this.2
theorem recOk_spec {r : impl_Rec} (h : recOk r = true) : r.List.length ≤ 40 ∧ (∀ e ∈ r.List, e.C.Line.length ≤ 60) ∧ r.Snap.length ≤ 30000 := by
  unfold recOk at h
  split at h
  · rename_i hc
    simp only [Bool.and_eq_true, Bool.not_eq_true', decide_eq_false_iff_not] at hc
    have := entriesOk_spec hc.2.2.1
    exact ⟨this.1, this.2, by omega⟩
  · cases h
theorem i_RecBytes_L2_ok (r : impl_Rec) (hl : r.List.length ≤ 40) (hw : ∀ e ∈ r.List, e.C.Line.length ≤ 60) : ∀ (d i : Nat) (acc : List Int), i + d = r.List.length → acc.length ≤ 100 + 96 * i → i_RecBytes_L2 acc r.List (r.List.length : Int) i r = i_RecBytes_L2 (bodyFrom (r.List.drop i) acc) r.List (r.List.length : Int) (r.List.length : Int) r := by
  intro d
  induction d with
  | zero =>
    intro i acc hd ha
    rw [List.drop_eq_nil_of_le (by omega), show i = r.List.length by omega]; rfl
  | succ d ih =>
    intro i acc hd ha
    have hi : i < r.List.length := by omega
    have he := hw _ (List.getElem_mem hi)
    have a := putNumOf_len (r.List[i]).Term
    have b := putNumOf_len (w64 ((r.List[i]).C.Who + 1))
    have c := putNumOf_len (r.List[i]).C.Seq
    have t := putText_len (r.List[i]).C.Line
    have el := entBytes_len acc _ he
    have c1 : acc.length + (putNumOf (r.List[i]).Term).length ≤ room := by rw [room_eq]; omega
    have c2 : (acc ++ putNumOf (r.List[i]).Term).length + (putNumOf (w64 ((r.List[i]).C.Who + 1))).length ≤ room := by rw [room_eq, List.length_append]; omega
    have c3 : ((acc ++ putNumOf (r.List[i]).Term) ++ putNumOf (w64 ((r.List[i]).C.Who + 1))).length + (putNumOf (r.List[i]).C.Seq).length ≤ room := by rw [room_eq]; simp only [List.length_append]; omega
    have c4 : (((acc ++ putNumOf (r.List[i]).Term) ++ putNumOf (w64 ((r.List[i]).C.Who + 1))) ++ putNumOf (r.List[i]).C.Seq).length + (putText (r.List[i]).C.Line).length ≤ room := by rw [room_eq]; simp only [List.length_append]; omega
    have step3 : i_RecBytes_L3 acc r.List (r.List.length : Int) i [(r.List[i]).Term, w64 ((r.List[i]).C.Who + 1), (r.List[i]).C.Seq] 3 0 r r.List[i] = i_RecBytes_L2 (entBytes acc r.List[i]) r.List (r.List.length : Int) ((i + 1 : Nat) : Int) r := by
      have w1 : w64 (0 + 1) = 1 := w64_id (by omega) (by omega)
      have w2 : w64 (1 + 1) = 2 := w64_id (by omega) (by omega)
      have w3 : w64 (2 + 1) = 3 := w64_id (by omega) (by omega)
      rw [i_RecBytes_L3_eq, if_pos (by decide), if_pos (by simp), i_PutNum_ok, Option.bind_some]
      rw [if_pos (by exact c1), w1, i_RecBytes_L3_eq, if_pos (by decide), if_pos (by simp), i_PutNum_ok, Option.bind_some]
      rw [if_pos (by exact c2), w2, i_RecBytes_L3_eq, if_pos (by decide), if_pos (by simp), i_PutNum_ok, Option.bind_some]
      rw [if_pos (by exact c3), w3, i_RecBytes_L3_eq, if_neg (by decide), i_PutText_ok _ (by omega), Option.bind_some, if_pos (by exact c4), w64_succ hi (by omega)]
      rfl
    rw [i_RecBytes_L2_eq, if_pos (decide_eq_true (by omega)), if_pos (by omega), getD_nat hi, step3, List.drop_eq_getElem_cons hi]
    exact ih (i + 1) (entBytes acc r.List[i]) (by omega) (by omega)
def recHead (r : impl_Rec) : List Int := (((putNumOf r.Kind ++ putNumOf r.Term) ++ putNumOf (w64 (r.Vote + 1))) ++ putNumOf r.Prev) ++ putNumOf (r.List.length : Int)
def recBody (r : impl_Rec) : List Int := bodyFrom r.List (recHead r) ++ putText r.Snap
def sumBytes (b : List Int) : List Int := [w8 (sumOf b), w8 (shrI .i64 (sumOf b) 8), w8 (shrI .i64 (sumOf b) 16), w8 (shrI .i64 (sumOf b) 24)]
def recBytes (r : impl_Rec) : List Int := if recOk r then (putNumOf ((recBody r).length : Int) ++ recBody r) ++ sumBytes (recBody r) else []
theorem recHead_len (r : impl_Rec) : (recHead r).length ≤ 45 := by
  unfold recHead
  simp only [List.length_append]
  have a := putNumOf_len r.Kind
  have b := putNumOf_len r.Term
  have c := putNumOf_len (w64 (r.Vote + 1))
  have d := putNumOf_len r.Prev
  have e := putNumOf_len (r.List.length : Int)
  omega
theorem recBody_len {r : impl_Rec} (h : recOk r = true) : (recBody r).length ≤ 40000 := by
  obtain ⟨h1, h2, h3⟩ := recOk_spec h
  unfold recBody
  rw [List.length_append]
  have a := bodyFrom_len r.List (recHead r) h2
  have b := putText_len r.Snap
  have c := recHead_len r
  omega
theorem recBytes_len (r : impl_Rec) : (recBytes r).length ≤ 41000 := by
  unfold recBytes
  split
  · rename_i h
    have a := recBody_len h
    have b := putNumOf_len ((recBody r).length : Int)
    simp only [List.length_append, sumBytes, List.length_cons, List.length_nil]
    omega
  · simp
theorem i_RecBytes_ok (r : impl_Rec) (hl : r.List.length ≤ 4294967296) : i_RecBytes r = some (recBytes r, ()) := by
  rw [i_RecBytes_eq, i_RecOk_ok r hl, Option.bind_some]
  unfold recBytes
  cases h : recOk r with
  | false => rfl
  | true =>
    obtain ⟨h1, h2, h3⟩ := recOk_spec h
    have hb := recBody_len h
    have a := putNumOf_len r.Kind
    have b := putNumOf_len r.Term
    have c := putNumOf_len (w64 (r.Vote + 1))
    have d := putNumOf_len r.Prev
    have e := putNumOf_len (r.List.length : Int)
    have f := putNumOf_len ((recBody r).length : Int)
    have g := putText_len r.Snap
    have w1 : w64 (0 + 1) = 1 := w64_id (by omega) (by omega)
    have w2 : w64 (1 + 1) = 2 := w64_id (by omega) (by omega)
    have w3 : w64 (2 + 1) = 3 := w64_id (by omega) (by omega)
    have w4 : w64 (3 + 1) = 4 := w64_id (by omega) (by omega)
    have w5 : w64 (4 + 1) = 5 := w64_id (by omega) (by omega)
    rw [if_neg (by simp), i_RecBytes_L1_eq, if_pos (by decide), if_pos (by simp), i_PutNum_ok, Option.bind_some]
    rw [if_pos (by show 0 + (putNumOf r.Kind).length ≤ room; rw [room_eq]; omega), w1, i_RecBytes_L1_eq, if_pos (by decide), if_pos (by simp), i_PutNum_ok, Option.bind_some]
    rw [if_pos (by show (putNumOf r.Kind).length + (putNumOf r.Term).length ≤ room; rw [room_eq]; omega), w2, i_RecBytes_L1_eq, if_pos (by decide), if_pos (by simp), i_PutNum_ok, Option.bind_some]
    rw [if_pos (by show (putNumOf r.Kind ++ putNumOf r.Term).length + (putNumOf (w64 (r.Vote + 1))).length ≤ room; rw [room_eq]; simp only [List.length_append]; omega), w3, i_RecBytes_L1_eq, if_pos (by decide), if_pos (by simp), i_PutNum_ok, Option.bind_some]
    rw [if_pos (by show ((putNumOf r.Kind ++ putNumOf r.Term) ++ putNumOf (w64 (r.Vote + 1))).length + (putNumOf r.Prev).length ≤ room; rw [room_eq]; simp only [List.length_append]; omega), w4, i_RecBytes_L1_eq, if_pos (by decide), if_pos (by simp), i_PutNum_ok, Option.bind_some]
    rw [if_pos (by show (((putNumOf r.Kind ++ putNumOf r.Term) ++ putNumOf (w64 (r.Vote + 1))) ++ putNumOf r.Prev).length + (putNumOf (r.List.length : Int)).length ≤ room; rw [room_eq]; simp only [List.length_append]; omega), w5, i_RecBytes_L1_eq, if_neg (by decide)]
    have key := i_RecBytes_L2_ok r h1 h2 r.List.length 0 (recHead r) (by omega) (by have := recHead_len r; omega)
    have key' : i_RecBytes_L2 (recHead r) r.List (r.List.length : Int) 0 r = _ := key
    refine Eq.trans key' ?_
    rw [List.drop_zero, i_RecBytes_L2_eq, if_neg (by simp), i_PutText_ok _ (by omega), Option.bind_some]
    have hb' : (bodyFrom r.List (recHead r) ++ putText r.Snap).length ≤ 40000 := hb
    have c1 : (bodyFrom r.List (recHead r)).length + (putText r.Snap).length ≤ room := by rw [List.length_append] at hb'; rw [room_eq]; omega
    simp only [if_pos c1, List.append_eq]
    show ((i_SumOf (recBody r)).bind fun r1 => (i_PutNum ((recBody r).length : Int)).bind fun r2 => if r2.1.length + (recBody r).length ≤ room then if (r2.1 ++ recBody r).length + 4 ≤ room then some ((r2.1 ++ recBody r) ++ [w8 r1.1, w8 (shrI .i64 r1.1 8), w8 (shrI .i64 r1.1 16), w8 (shrI .i64 r1.1 24)], ()) else none else none) = _
    rw [i_SumOf_ok _ (by omega), i_PutNum_ok]
    simp only [Option.bind_some]
    rw [if_pos (by rw [room_eq]; omega), if_pos (by rw [room_eq, List.length_append]; omega)]
    rfl
end Go.Proofs.Ytlidpmhmchbilaa.E.TE
