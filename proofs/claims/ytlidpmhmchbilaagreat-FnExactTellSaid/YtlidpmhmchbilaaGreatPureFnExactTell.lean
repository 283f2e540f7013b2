/- The pure statement of FnExactTell. No condition. -/
import Derived.Test.YtlidpmhmchbilaaGreatPTCopies
import Derived.Test.YtlidpmhmchbilaaGreatTTe1
import Derived.Test.YtlidpmhmchbilaaGreatQFnExactTell
namespace Go.Proofs.YtlidpmhmchbilaaGreat.E.TT
open Go.Proofs.YtlidpmhmchbilaaGreat.E
set_option linter.unusedVariables false
theorem gi_mono_Rpc {x : impl_Rpc} (h : Gi_Rpc 1048576 x) : Gi_Rpc 2097152 x := by
  unfold Gi_Rpc Gi_Entry Gi_Cmd at *
  exact ⟨⟨by have := h.1.1; omega, fun y hy => by have := h.1.2 y hy; omega⟩, by have := h.2; omega⟩
theorem gi_mono_Mach {x : impl_Mach} (h : Gi_Mach 1048576 x) : Gi_Mach 2097152 x := by
  unfold Gi_Mach Gi_State Gi_Val Gi_Cell Gi_Val at *
  obtain ⟨⟨⟨a1, a2⟩, b1, b2⟩, c1, c2⟩ := h
  exact ⟨⟨⟨by omega, fun y hy => by have := a2 y hy; omega⟩, by omega, fun y hy => by have := b2 y hy; omega⟩, by omega, by omega⟩
theorem gi_mono_Peer {x : impl_Peer} (h : Gi_Peer 1048576 x) : Gi_Peer 2097152 x := by
  unfold Gi_Peer Gi_Hard Gi_Log Gi_Entry Gi_Cmd Gi_Disk at *
  obtain ⟨⟨⟨a1, a2⟩, a3⟩, h2, h3, h4, h5, h6, h7, h8⟩ := h
  exact ⟨⟨⟨by omega, fun y hy => by have := a2 y hy; omega⟩, gi_mono_Mach a3⟩, by omega, by omega, by omega, gi_mono_Mach h5, by omega, by omega, fun y hy => gi_mono_Rpc (h8 y hy)⟩
theorem tell_same (n : impl_Peer) (r : impl_Rpc) (hn : Gi_Peer 2097152 n) (hr : Gi_Rpc 2097152 r) (hl : n.Held.length ≤ 1048576) : ∃ y ok, s_Tell n r = some (y, ok, ()) ∧ i_Tell n r = some (y, ok, ()) ∧ Gi_Peer 2097152 y := by
  rw [s_Tell_eq, i_Tell_eq, cpS_Peer n hn, cpI_Peer n hn, Option.bind_some, Option.bind_some]
  dsimp only
  by_cases h : (n.Held.length : Int) ≥ 40
  · rw [if_pos (decide_eq_true h), if_pos (decide_eq_true h)]; exact ⟨_, _, rfl, rfl, hn⟩
  · rw [if_neg (by rw [decide_eq_true_eq]; exact h), if_neg (by rw [decide_eq_true_eq]; exact h), cpS_Rpc r hr, cpI_Rpc r hr, Option.bind_some]
    dsimp only
    rw [if_pos (by rw [room_eq]; omega)]
    refine ⟨_, _, rfl, rfl, ?_⟩
    unfold Gi_Peer at hn ⊢
    obtain ⟨h1, h2, h3, h4, h5, h6, h7, h8⟩ := hn
    refine ⟨h1, h2, h3, h4, h5, h6, ?_, fun y hy => ?_⟩
    · show (n.Held ++ [r]).length ≤ 2097152
      rw [List.length_append]; simp only [List.length_cons, List.length_nil]; omega
    · rcases List.mem_append.1 hy with hy | hy
      · exact h8 y hy
      · rw [List.mem_singleton.1 hy]; exact hr
theorem pureFnExactTell : PureFnExactTell := by
  intro n r hn hr
  obtain ⟨q1, e1, e2, e3⟩ := hsz_Peer n 1048576 (hf_Peer (d := 31) hn) (by omega) (by omega)
  rw [l_FnExactTell_eq, e1, Option.bind_some]
  dsimp only
  by_cases c1 : q1 < 0
  · rw [if_pos (decide_eq_true c1)]
  · rw [if_neg (by rw [decide_eq_true_eq]; exact c1)]
    obtain ⟨q2, f1, f2, f3⟩ := hsz_Rpc r q1 (hf_Rpc (d := 34) hr) (by omega) e2
    rw [f1, Option.bind_some]
    dsimp only
    by_cases c2 : q2 < 0
    · rw [if_pos (decide_eq_true c2)]
    · rw [if_neg (by rw [decide_eq_true_eq]; exact c2)]
      have gn := e3 (by omega)
      have gr := f3 (by omega)
      have kn := gi_mono_Peer (hg_Peer gn)
      have kr := gi_mono_Rpc (hg_Rpc gr)
      have hl : (hc_Peer n).Held.length ≤ 1048576 := by
        have := hg_Peer gn
        unfold Gi_Peer at this
        exact this.2.2.2.2.2.2.1
      obtain ⟨y, ok, t1, t2, t3⟩ := tell_same (hc_Peer n) (hc_Rpc r) kn kr hl
      obtain ⟨k1, n1, m1, m2, m3, m4⟩ := hmk_Peer (hc_Peer n) 1 kn (by omega) (by omega)
      obtain ⟨k2, l2, p1, p2, p3, p4, p5⟩ := hmk_EntryS (hc_Rpc r).List k1 kr.1 (by omega) (by omega)
      have p1' : l_markRpc (hc_Rpc r) k1 = some (k2, ()) := by rw [l_markRpc_eq, p1]; rfl
      obtain ⟨k3, y3, w1, w2, w3, w4⟩ := hmk_Peer y 1 t3 (by omega) (by omega)
      have c3 : ¬ k2 < 0 := by omega
      have c4 : ¬ k3 < 0 := by omega
      simp only [hto_Peer n gn, hto_Rpc r gr, t1, t2, heq_Peer _ kn, heq_Peer _ t3, heq_Rpc _ kr, m1, p1', w1, w2, Option.bind_some, decide_true, Bool.not_true, Bool.false_eq_true, if_false, decide_eq_true_eq, if_neg c3, if_neg c4]
end Go.Proofs.YtlidpmhmchbilaaGreat.E.TT
