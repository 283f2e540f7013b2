/- The harness at logs. No condition. -/
import Derived.Test.YtajahbpeiifcbaaPBase
import Derived.Test.YtajahbpeiifcbaaTBe1
namespace Go.Proofs.Ytajahbpeiifcbaa.E.TB
open Go.Proofs.Ytajahbpeiifcbaa.E
set_option linter.unusedVariables false
theorem szCmd_ok (c : laws_Cmd) (n : Int) (h0 : 0 ≤ n) (h : n ≤ 1048576) (hl : c.Line.length ≤ 9223372036854775807) : l_szCmd c n = some (if (c.Line.length : Int) ≤ n then n - c.Line.length else -1, ()) := by
  rw [l_szCmd_eq, w64_id (by omega) (by omega)]
  by_cases h : (c.Line.length : Int) ≤ n
  · rw [if_pos h, if_neg (by rw [decide_eq_true_eq]; omega)]
  · rw [if_neg h, if_pos (decide_eq_true (by omega))]
theorem szEntry_ok (e : laws_Entry) (n : Int) (h0 : 0 ≤ n) (h : n ≤ 1048576) (hl : e.C.Line.length ≤ 9223372036854775807) : l_szEntry e n = some (if (e.C.Line.length : Int) ≤ n then n - e.C.Line.length else -1, ()) := by
  rw [l_szEntry_eq, szCmd_ok _ _ h0 h hl, Option.bind_some]
  by_cases h : (e.C.Line.length : Int) ≤ n
  · simp only [if_pos h]; rw [if_neg (by rw [decide_eq_true_eq]; omega)]
  · simp only [if_neg h]; rfl
/-- A loop of sizes: what is left, or less than none; if something is left there was room for all. -/
theorem sz_loop {α : Type} (L : Int → Int → Option (Int × Unit)) (l : List α) (c : α → Nat) (hc : l.length ≤ 9223372036854775807)
    (stop : ∀ k, L k (l.length : Int) = some (k, ()))
    (step : ∀ (k : Int) (i : Nat) (h : i < l.length), 0 ≤ k → k ≤ 1048576 → L k i = if (c l[i] : Int) ≤ k then L (k - c l[i]) ((i + 1 : Nat) : Int) else some (-1, ())) (n : Int) (h0 : 0 ≤ n) (h1 : n ≤ 1048576) :
    ∃ r, L n 0 = some (r, ()) ∧ r ≤ 1048576 ∧ (0 ≤ r → ∀ x ∈ l, (c x : Int) ≤ 1048576) ∧ -1 ≤ r := by
  have key : ∀ (d i : Nat) (k : Int), i + d = l.length → 0 ≤ k → k ≤ 1048576 → ∃ r, L k i = some (r, ()) ∧ r ≤ 1048576 ∧ (0 ≤ r → ∀ j (h : j < l.length), i ≤ j → (c l[j] : Int) ≤ 1048576) ∧ -1 ≤ r := by
    intro d
    induction d with
    | zero =>
      intro i k hd k0 k1
      have hi : i = l.length := by omega
      subst hi
      exact ⟨k, stop k, k1, fun _ j hj hij => by omega, by omega⟩
    | succ d ih =>
      intro i k hd k0 k1
      have hi : i < l.length := by omega
      rw [step k i hi k0 k1]
      by_cases h : (c l[i] : Int) ≤ k
      · rw [if_pos h]
        obtain ⟨r, e1, e2, e3, e4⟩ := ih (i + 1) (k - c l[i]) (by omega) (by omega) (by omega)
        refine ⟨r, e1, e2, fun hr j hj hij => ?_, e4⟩
        by_cases e : j = i
        · subst e; omega
        · exact e3 hr j hj (by omega)
      · rw [if_neg h]
        exact ⟨-1, rfl, by omega, fun h => by omega, by omega⟩
  obtain ⟨r, e1, e2, e3, e4⟩ := key l.length 0 n (by omega) h0 h1
  exact ⟨r, e1, e2, fun hr x hx => by
    obtain ⟨j, hj, rfl⟩ := List.mem_iff_getElem.1 hx
    exact e3 hr j hj (by omega), e4⟩
theorem szEntryS_ok (l : List laws_Entry) (n : Int) (h0 : 0 ≤ n) (h1 : n ≤ 1048576) (hl : l.length ≤ 9223372036854775807) (he : ∀ e ∈ l, e.C.Line.length ≤ 9223372036854775807) :
    ∃ r, l_szEntryS l n = some (r, ()) ∧ r ≤ 1048576 ∧ (0 ≤ r → l.length ≤ 1048576 ∧ ∀ e ∈ l, e.C.Line.length ≤ 1048576) ∧ -1 ≤ r := by
  rw [l_szEntryS_eq, w64_id (by omega) (by omega)]
  by_cases h : n - (l.length : Int) < 0
  · rw [if_pos (decide_eq_true h)]; exact ⟨-1, rfl, by omega, fun h => by omega, by omega⟩
  · rw [if_neg (by rw [decide_eq_true_eq]; exact h)]
    obtain ⟨r, e1, e2, e3, e4⟩ := sz_loop (fun k i => l_szEntryS_L1 l k i) l (fun e => e.C.Line.length) hl (fun k => by
      show l_szEntryS_L1 l k _ = _
      rw [l_szEntryS_L1_eq, if_neg (by simp)]) (fun k i hi k0 k1 => by
      show l_szEntryS_L1 l k i = _
      rw [l_szEntryS_L1_eq, if_pos (decide_eq_true (by omega)), if_pos (by omega), getD_nat hi, szEntry_ok _ _ k0 k1 (he _ (List.getElem_mem _)), Option.bind_some, w64_succ hi (by omega)]
      by_cases h : (l[i].C.Line.length : Int) ≤ k
      · simp only [if_pos h]; rw [if_neg (by rw [decide_eq_true_eq]; omega)]
      · simp only [if_neg h]; rfl) (n - l.length) (by omega) (by omega)
    exact ⟨r, e1, e2, fun hr => ⟨by omega, fun e he => by have := e3 hr e he; omega⟩, e4⟩
theorem szLog_ok (l : laws_Log) (n : Int) (h0 : 0 ≤ n) (h1 : n ≤ 1048576) (hl : l.List.length ≤ 9223372036854775807) (he : ∀ e ∈ l.List, e.C.Line.length ≤ 9223372036854775807) :
    ∃ r, l_szLog l n = some (r, ()) ∧ r ≤ 1048576 ∧ (0 ≤ r → l.List.length ≤ 1048576 ∧ ∀ e ∈ l.List, e.C.Line.length ≤ 1048576) ∧ -1 ≤ r := by
  obtain ⟨r, e1, e2, e3, e4⟩ := szEntryS_ok l.List n h0 h1 hl he
  rw [l_szLog_eq, e1, Option.bind_some]
  by_cases h : r < 0
  · rw [if_pos (decide_eq_true h)]; exact ⟨-1, rfl, by omega, fun h => by omega, by omega⟩
  · rw [if_neg (by rw [decide_eq_true_eq]; exact h)]; exact ⟨r, rfl, e2, e3, e4⟩
def cCmd (c : laws_Cmd) : impl_Cmd := ⟨c.Who, c.Seq, c.Line⟩
def cEntry (e : laws_Entry) : impl_Entry := ⟨e.Term, cCmd e.C⟩
def cLog (l : laws_Log) : impl_Log := ⟨l.Base, l.BaseTerm, l.List.map cEntry⟩
theorem toCmd_ok (c : laws_Cmd) : l_toCmd c = some (cCmd c, ()) := by rw [l_toCmd_eq]; rfl
theorem toEntry_ok (e : laws_Entry) : l_toEntry e = some (cEntry e, ()) := by rw [l_toEntry_eq, toCmd_ok]; rfl
theorem toEntryS_ok (l : List laws_Entry) (hl : l.length ≤ 1048576) : l_toEntryS l = some (l.map cEntry, ()) := by
  rw [l_toEntryS_eq, if_pos (by rw [room_eq]; omega)]
  exact to_loop (fun acc i => l_toEntryS_L1 l acc i) cEntry l (fun acc i h ha => by
    show l_toEntryS_L1 l acc i = _
    rw [l_toEntryS_L1_eq, if_pos (decide_eq_true (by omega)), if_pos (by omega), getD_nat h, toEntry_ok, Option.bind_some, if_pos (by omega), w64_succ h (by omega), Int.toNat_natCast]) (fun acc ha => by
    show l_toEntryS_L1 l acc _ = _
    rw [l_toEntryS_L1_eq, if_neg (by simp)]) (List.replicate (List.length l : Int).toNat z_impl_Entry) (by simp)
theorem toLog_ok (l : laws_Log) (hl : l.List.length ≤ 1048576) : l_toLog l = some (cLog l, ()) := by
  rw [l_toLog_eq, toEntryS_ok _ hl]; rfl
theorem eqCmd_ok (c : impl_Cmd) : l_eqCmd c c = some (true, ()) := by rw [l_eqCmd_eq]; simp
theorem eqEntry_ok (e : impl_Entry) : l_eqEntry e e = some (true, ()) := by rw [l_eqEntry_eq, eqCmd_ok]; simp
theorem eqEntryS_ok (l : List impl_Entry) (hl : l.length ≤ 4294967296) : l_eqEntryS l l = some (true, ()) := by
  rw [l_eqEntryS_eq, if_neg (by simp)]
  exact all_loop (fun i => l_eqEntryS_L1 l l i) l _ (fun i h => by
    show l_eqEntryS_L1 l l i = _
    rw [l_eqEntryS_L1_eq, if_pos (decide_eq_true (by omega)), if_pos (by omega), if_pos (by omega), eqEntry_ok, Option.bind_some, if_neg (by simp), w64_succ h (by omega)]) (by
    show l_eqEntryS_L1 l l _ = _
    rw [l_eqEntryS_L1_eq, if_neg (by simp)])
theorem eqLog_ok (l : impl_Log) (hl : l.List.length ≤ 4294967296) : l_eqLog l l = some (true, ()) := by
  rw [l_eqLog_eq, eqEntryS_ok _ hl]; simp
theorem fine_Log {l : laws_Log} (h : Fine (G := gam) 40 (.nm 4) l) : l.List.length ≤ 9223372036854775807 ∧ ∀ e ∈ l.List, e.C.Line.length ≤ 9223372036854775807 := by
  have h' : _ ∧ _ ∧ (l.List.length ≤ 9223372036854775807 ∧ ∀ e ∈ l.List, _ ∧ (_ ∧ _ ∧ (e.C.Line.length ≤ 9223372036854775807 ∧ _) ∧ _) ∧ _) ∧ _ := h
  exact ⟨h'.2.2.1.1, fun e he => (h'.2.2.1.2 e he).2.1.2.2.1.1⟩
end Go.Proofs.Ytajahbpeiifcbaa.E.TB
