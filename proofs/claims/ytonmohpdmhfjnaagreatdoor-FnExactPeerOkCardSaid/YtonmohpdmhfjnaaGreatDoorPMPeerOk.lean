/- What a node keeps, messages, nodes: what is right for the program is right for the reference. No condition but lengths and bytes. -/
import Derived.Test.YtonmohpdmhfjnaaGreatDoorPMMachOk
import Derived.Test.YtonmohpdmhfjnaaGreatDoorPMLogOk
import Derived.Test.YtonmohpdmhfjnaaGreatDoorPMEntries
import Derived.Test.YtonmohpdmhfjnaaGreatDoorPMDiskOk
import Derived.Test.YtonmohpdmhfjnaaGreatDoorTMe1
import Derived.Test.YtonmohpdmhfjnaaGreatDoorTMe2
namespace Go.Proofs.YtonmohpdmhfjnaaGreatDoor.E.TM
open Go.Proofs.YtonmohpdmhfjnaaGreatDoor.E
set_option linter.unusedVariables false
def lastI (l : impl_Log) : Int := if l.List.length = 0 then l.Base else w64 (l.Base + l.List.length)
def lastT (l : impl_Log) : Int := if l.List.length = 0 then l.BaseTerm else (l.List.getD (l.List.length - 1) z_impl_Entry).Term
theorem s_LastOf_ok (l : impl_Log) (hl : l.List.length ≤ 2097152) : s_LastOf l = some (lastI l, lastT l, ()) := by
  rw [s_LastOf_eq]
  unfold lastI lastT
  by_cases h : l.List.length = 0
  · rw [if_pos (decide_eq_true (by omega)), if_pos h, if_pos h]
  · have w1 : w64 ((l.List.length : Int) - 1) = ((l.List.length - 1 : Nat) : Int) := by rw [w64_id (by omega) (by omega)]; omega
    rw [if_neg (by rw [decide_eq_true_eq]; omega), w1, if_pos (by omega), if_neg h, if_neg h, Int.toNat_natCast]
theorem i_LastOf_ok (l : impl_Log) (hl : l.List.length ≤ 2097152) : i_LastOf l = some (lastI l, lastT l, ()) := by
  have := s_LastOf_ok l hl
  rw [s_LastOf_eq] at this
  rw [i_LastOf_eq]; exact this
def BLog (l : impl_Log) : Prop := l.List.length ≤ 2097152 ∧ ∀ e ∈ l.List, e.C.Line.length ≤ 2097152
theorem BLog.lines {l : impl_Log} (h : BLog l) : LinesOk l.List := fun e he => by have := h.2 e he; omega
def BMach (m : impl_Mach) : Prop := BState m.State ∧ m.Done.length ≤ 2097152 ∧ m.Out.length ≤ 2097152
def BHard (h : impl_Hard) : Prop := BLog h.Log ∧ BMach h.Snap
noncomputable def hardB (p : impl_Prog) (h : impl_Hard) : Bool :=
  decide (0 ≤ h.Term ∧ h.Term ≤ 300) && (decide (-1 ≤ h.Vote ∧ h.Vote ≤ 4) && (logOk h.Log && (decide (lastT h.Log ≤ h.Term) && machB p h.Snap)))
theorem i_isIndex_val (n : Int) : i_isIndex n = some (decide (0 ≤ n ∧ n ≤ 300), ()) := by rw [i_isIndex_eq, i_in_ok]; rfl
theorem i_isVote_val (n : Int) : i_isVote n = some (decide (-1 ≤ n ∧ n ≤ 4), ()) := by rw [i_isVote_eq, i_in_ok]; rfl
theorem i_HardOk_ok (p : impl_Prog) (h : impl_Hard) (hp : BProg p) (hb : BHard h) : i_HardOk p h = some (hardB p h, ()) := by
  rw [i_HardOk_eq, i_LastOf_ok _ hb.1.1, i_isIndex_val, i_isVote_val, i_LogOk_ok _ (by have := hb.1.1; omega), i_MachOk_ok p _ hp hb.2.1 hb.2.2.1]
  simp only [Option.bind_some]
  unfold hardB
  cases decide (0 ≤ h.Term ∧ h.Term ≤ 300) <;> cases decide (-1 ≤ h.Vote ∧ h.Vote ≤ 4) <;> cases logOk h.Log <;> cases decide (lastT h.Log ≤ h.Term) <;> rfl
theorem s_HardOk_ok (p : impl_Prog) (h : impl_Hard) (hp : BProg p) (hb : BHard h) : s_HardOk p h = some (hardB p h, ()) := by
  rw [s_HardOk_eq, s_LastOf_ok _ hb.1.1, s_l1In_ok, s_l1In_ok, s_LogOk_ok _ (by have := hb.1.1; omega) hb.1.lines, s_MachOk_ok p _ hp hb.2.1 hb.2.2.1]
  simp only [Option.bind_some]
  unfold hardB
  cases decide (0 ≤ h.Term ∧ h.Term ≤ 300) <;> cases decide (-1 ≤ h.Vote ∧ h.Vote ≤ 4) <;> cases logOk h.Log <;> cases decide (lastT h.Log ≤ h.Term) <;> rfl
def BRpc (r : impl_Rpc) : Prop := r.List.length ≤ 2097152 ∧ ∀ e ∈ r.List, e.C.Line.length ≤ 2097152
def rpcB (r : impl_Rpc) (n : Int) : Bool :=
  decide (1 ≤ r.Kind ∧ r.Kind ≤ 5) && (decide (1 ≤ n ∧ n ≤ 5) && (decide (0 ≤ r.From ∧ r.From ≤ w64 (n - 1)) && (decide (0 ≤ r.To ∧ r.To ≤ w64 (n - 1)) && (!decide (r.From = r.To) && (decide (0 ≤ r.Term ∧ r.Term ≤ 300) && (decide (0 ≤ r.Index ∧ r.Index ≤ 300) && (decide (0 ≤ r.IndexTerm ∧ r.IndexTerm ≤ 300) && (decide (0 ≤ r.Commit ∧ r.Commit ≤ 300) && (entriesOk r.List r.Term && decide ((r.Snap.length : Int) ≤ 30000))))))))))
theorem rpc_ok (r : impl_Rpc) (n : Int) (hb : BRpc r) : s_RpcOk r n = some (rpcB r n, ()) ∧ i_RpcOk r n = some (rpcB r n, ()) := by
  have hl : r.List.length ≤ 4294967296 := by have := hb.1; omega
  have hw : LinesOk r.List := fun e he => by have := hb.2 e he; omega
  rw [s_RpcOk_eq, i_RpcOk_eq]
  simp only [s_l1In_ok, i_in_ok, i_isIndex_val, s_l19List_ok _ _ hl hw, i_entriesOk_ok _ _ hl, Option.bind_some]
  unfold rpcB
  cases decide (1 ≤ r.Kind ∧ r.Kind ≤ 5) with
  | false => exact ⟨rfl, rfl⟩
  | true =>
  cases decide (1 ≤ n ∧ n ≤ 5) with
  | false => exact ⟨rfl, rfl⟩
  | true =>
  cases decide (0 ≤ r.From ∧ r.From ≤ w64 (n - 1)) with
  | false => exact ⟨rfl, rfl⟩
  | true =>
  cases decide (0 ≤ r.To ∧ r.To ≤ w64 (n - 1)) with
  | false => exact ⟨rfl, rfl⟩
  | true =>
  cases decide (r.From = r.To) with
  | true => exact ⟨rfl, rfl⟩
  | false =>
  cases decide (0 ≤ r.Term ∧ r.Term ≤ 300) with
  | false => exact ⟨rfl, rfl⟩
  | true =>
  cases decide (0 ≤ r.Index ∧ r.Index ≤ 300) with
  | false => exact ⟨rfl, rfl⟩
  | true =>
  cases decide (0 ≤ r.IndexTerm ∧ r.IndexTerm ≤ 300) with
  | false => exact ⟨rfl, rfl⟩
  | true =>
  cases decide (0 ≤ r.Commit ∧ r.Commit ≤ 300) with
  | false => exact ⟨rfl, rfl⟩
  | true =>
  cases entriesOk r.List r.Term with
  | false => exact ⟨rfl, rfl⟩
  | true => exact ⟨rfl, rfl⟩
def numsBad (l : List Int) (a b : Int) : Bool := l.any (fun n => !decide (a ≤ n ∧ n ≤ b))
theorem i_numbersOk_ok (l : List Int) (k a b : Int) (hl : l.length ≤ 2097152) : i_numbersOk l k a b = some (decide ((l.length : Int) = k) && !numsBad l a b, ()) := by
  rw [i_numbersOk_eq, x_slices_ContainsFunc_int_numbersOk_1_eq, x_slices_IndexFunc_int_numbersOk_1_eq]
  obtain ⟨j, e, e1, _⟩ := index_loop (fun i => x_slices_IndexFunc_int_numbersOk_1_L1 l (l.length : Int) i a b) (a, b, ()) l.length (fun i => !decide (a ≤ l.getD i 0 ∧ l.getD i 0 ≤ b)) (fun i hi => by
    show x_slices_IndexFunc_int_numbersOk_1_L1 l _ i a b = _
    rw [x_slices_IndexFunc_int_numbersOk_1_L1_eq, if_pos (decide_eq_true (by omega)), if_pos (by omega), w64_succ hi (by omega), Int.toNat_natCast, i_numbersOk_1_eq, i_in_ok, Option.bind_some, Option.bind_some]) (by
    show x_slices_IndexFunc_int_numbersOk_1_L1 l _ _ a b = _
    rw [x_slices_IndexFunc_int_numbersOk_1_L1_eq, if_neg (by simp)])
  rw [e, Option.bind_some, Option.bind_some]
  dsimp only
  rw [e1, anyB_list l 0 (fun n => !decide (a ≤ n ∧ n ≤ b))]
  unfold numsBad
  cases decide ((l.length : Int) = k) <;> rfl
def BPeer (n : impl_Peer) : Prop := BHard n.Hard ∧ n.Votes.length ≤ 2097152 ∧ n.Next.length ≤ 2097152 ∧ n.Match.length ≤ 2097152 ∧ BMach n.Now ∧ n.Disk.Bytes.length ≤ 2097152 ∧ n.Held.length ≤ 2097152 ∧ ∀ r ∈ n.Held, BRpc r
def heldBad (n : impl_Peer) (k : Int) : Bool := n.Held.any (fun r => !rpcB r k || !decide (r.From = n.Id))
noncomputable def peerB (p : impl_Prog) (n : impl_Peer) (k : Int) : Bool :=
  decide (1 ≤ k ∧ k ≤ 5) && (decide (0 ≤ n.Id ∧ n.Id ≤ w64 (k - 1)) && (hardB p n.Hard && (!decide (n.Hard.Vote ≥ k) && (decide (0 ≤ n.Role ∧ n.Role ≤ 2) && (decide ((n.Votes.length : Int) = k) &&
  (decide ((n.Next.length : Int) = k) && (!numsBad n.Next 1 (w64 (lastI n.Hard.Log + 1)) && (decide ((n.Match.length : Int) = k) && (!numsBad n.Match 0 (lastI n.Hard.Log) &&
  (decide (n.Hard.Log.Base ≤ n.Commit ∧ n.Commit ≤ lastI n.Hard.Log) && (machB p n.Now && (diskOk n.Disk && (decide ((n.Held.length : Int) ≤ 40) && !heldBad n k)))))))))))))
theorem i_PeerOk_ok (p : impl_Prog) (n : impl_Peer) (k : Int) (hp : BProg p) (hb : BPeer n) : i_PeerOk p n k = some (peerB p n k, ()) := by
  obtain ⟨h1, h2, h3, h4, h5, h6, h7, h8⟩ := hb
  have hheld : x_slices_ContainsFunc_impl_Rpc_PeerOk_1 n.Held k n = some (heldBad n k, k, n, ()) := by
    rw [x_slices_ContainsFunc_impl_Rpc_PeerOk_1_eq, x_slices_IndexFunc_impl_Rpc_PeerOk_1_eq]
    obtain ⟨j, e, e1, _⟩ := index_loop (fun i => x_slices_IndexFunc_impl_Rpc_PeerOk_1_L1 n.Held (n.Held.length : Int) i k n) (k, n, ()) n.Held.length (fun i => !rpcB (n.Held.getD i z_impl_Rpc) k || !decide ((n.Held.getD i z_impl_Rpc).From = n.Id)) (fun i hi => by
      show x_slices_IndexFunc_impl_Rpc_PeerOk_1_L1 n.Held _ i k n = _
      rw [x_slices_IndexFunc_impl_Rpc_PeerOk_1_L1_eq, if_pos (decide_eq_true (by omega)), if_pos (by omega), w64_succ hi (by omega), Int.toNat_natCast, i_PeerOk_1_eq, (rpc_ok _ k (by rw [getD_lt hi]; exact h8 _ (List.getElem_mem hi))).2, Option.bind_some]
      dsimp only
      cases rpcB (n.Held.getD i z_impl_Rpc) k <;> rfl) (by
      show x_slices_IndexFunc_impl_Rpc_PeerOk_1_L1 n.Held _ _ k n = _
      rw [x_slices_IndexFunc_impl_Rpc_PeerOk_1_L1_eq, if_neg (by simp)])
    rw [e, Option.bind_some]
    dsimp only
    rw [e1, anyB_list n.Held z_impl_Rpc (fun r => !rpcB r k || !decide (r.From = n.Id))]
    rfl
  have e40 : decide ((n.Held.length : Int) > 40) = !decide ((n.Held.length : Int) ≤ 40) := by
    by_cases g : (n.Held.length : Int) ≤ 40
    · rw [decide_eq_true g, decide_eq_false (by omega)]; rfl
    · rw [decide_eq_false g, decide_eq_true (by omega)]; rfl
  rw [i_PeerOk_eq, i_in_ok, i_in_ok, i_HardOk_ok p _ hp h1, i_in_ok, i_LastOf_ok _ h1.1.1]
  simp only [Option.bind_some]
  rw [i_numbersOk_ok _ _ _ _ h3, i_numbersOk_ok _ _ _ _ h4, i_in_ok, i_MachOk_ok p _ hp h5.1 h5.2.1, i_DiskOk_ok, hheld, e40]
  simp only [Option.bind_some]
  unfold peerB
  cases decide (1 ≤ k ∧ k ≤ 5) with
  | false => rfl
  | true =>
  cases decide (0 ≤ n.Id ∧ n.Id ≤ w64 (k - 1)) with
  | false => rfl
  | true =>
  cases hardB p n.Hard with
  | false => rfl
  | true =>
  cases decide (n.Hard.Vote ≥ k) with
  | true => rfl
  | false =>
  cases decide (0 ≤ n.Role ∧ n.Role ≤ 2) with
  | false => rfl
  | true =>
  cases decide ((n.Votes.length : Int) = k) with
  | false => rfl
  | true =>
  cases decide ((n.Next.length : Int) = k) with
  | false => rfl
  | true =>
  cases numsBad n.Next 1 (w64 (lastI n.Hard.Log + 1)) with
  | true => rfl
  | false =>
  cases decide ((n.Match.length : Int) = k) with
  | false => rfl
  | true =>
  cases numsBad n.Match 0 (lastI n.Hard.Log) with
  | true => rfl
  | false =>
  cases decide (n.Hard.Log.Base ≤ n.Commit ∧ n.Commit ≤ lastI n.Hard.Log) with
  | false => rfl
  | true =>
  cases machB p n.Now <;> cases diskOk n.Disk <;> cases decide ((n.Held.length : Int) ≤ 40) <;> rfl
theorem s_PeerOk_ok (p : impl_Prog) (n : impl_Peer) (k : Int) (hp : BProg p) (hb : BPeer n) : s_PeerOk p n k = some (peerB p n k, ()) := by
  obtain ⟨h1, h2, h3, h4, h5, h6, h7, h8⟩ := hb
  rw [s_PeerOk_eq, s_l1In_ok, s_l1In_ok, s_HardOk_ok p _ hp h1, s_l1In_ok, s_LastOf_ok _ h1.1.1]
  simp only [Option.bind_some]
  unfold peerB
  cases decide (1 ≤ k ∧ k ≤ 5) with
  | false => rfl
  | true =>
  cases decide (0 ≤ n.Id ∧ n.Id ≤ w64 (k - 1)) with
  | false => rfl
  | true =>
  cases hardB p n.Hard with
  | false => rfl
  | true =>
  cases decide (n.Hard.Vote ≥ k) with
  | true => rfl
  | false =>
  cases decide (0 ≤ n.Role ∧ n.Role ≤ 2) with
  | false => rfl
  | true =>
  cases decide ((n.Votes.length : Int) = k) with
  | false => rfl
  | true =>
  by_cases hn : (n.Next.length : Int) = k
  case neg => rw [decide_eq_false hn]; rfl
  rw [decide_eq_true hn]
  by_cases hm : (n.Match.length : Int) = k
  case neg => rw [decide_eq_false hm, Bool.false_and, Bool.and_false]; rfl
  rw [decide_eq_true hm]
  subst hn
  have hm' : n.Match.length = n.Next.length := by omega
  have f2 := find_loopN (fun i => s_PeerOk_L2 (n.Next.length : Int) (lastI n.Hard.Log) i p n) n.Held.length (fun i => !rpcB (n.Held.getD i z_impl_Rpc) n.Next.length || !decide ((n.Held.getD i z_impl_Rpc).From = n.Id)) (some (false, ())) (some (decide (n.Hard.Log.Base ≤ n.Commit ∧ n.Commit ≤ lastI n.Hard.Log) && (machB p n.Now && (diskOk n.Disk && decide ((n.Held.length : Int) ≤ 40))), ())) (fun i hi => by
    show s_PeerOk_L2 _ _ i p n = _
    rw [s_PeerOk_L2_eq, if_pos (decide_eq_true (by omega)), if_pos (by omega), w64_succ hi (by omega), Int.toNat_natCast, (rpc_ok _ _ (by rw [getD_lt hi]; exact h8 _ (List.getElem_mem hi))).1, Option.bind_some, if_pos (c := 0 ≤ (i : Int) ∧ (i : Int) < (n.Held.length : Int)) (by omega)]
    dsimp only
    cases rpcB (n.Held.getD i z_impl_Rpc) n.Next.length <;> rfl) (by
    show s_PeerOk_L2 _ _ _ p n = _
    rw [s_PeerOk_L2_eq, if_neg (by simp), s_l1In_ok, s_MachOk_ok p _ hp h5.1 h5.2.1, s_DiskOk_ok]
    simp only [Option.bind_some]
    cases decide (n.Hard.Log.Base ≤ n.Commit ∧ n.Commit ≤ lastI n.Hard.Log) <;> cases machB p n.Now <;> cases diskOk n.Disk <;> rfl)
  have f1 := find_loopN (fun i => s_PeerOk_L1 (n.Next.length : Int) (lastI n.Hard.Log) i p n) n.Next.length (fun i => !decide (1 ≤ n.Next.getD i 0 ∧ n.Next.getD i 0 ≤ w64 (lastI n.Hard.Log + 1)) || !decide (0 ≤ n.Match.getD i 0 ∧ n.Match.getD i 0 ≤ lastI n.Hard.Log)) (some (false, ())) (s_PeerOk_L2 (n.Next.length : Int) (lastI n.Hard.Log) 0 p n) (fun i hi => by
    show s_PeerOk_L1 _ _ i p n = _
    rw [s_PeerOk_L1_eq, if_pos (decide_eq_true (by omega)), if_pos (c := 0 ≤ (i : Int) ∧ (i : Int) < (n.Next.length : Int)) (by omega), w64_succ hi (by omega), Int.toNat_natCast, s_l1In_ok, s_l1In_ok, Option.bind_some, Option.bind_some, if_pos (c := 0 ≤ (i : Int) ∧ (i : Int) < (n.Match.length : Int)) (by omega)]
    dsimp only
    cases decide (1 ≤ n.Next.getD i 0 ∧ n.Next.getD i 0 ≤ w64 (lastI n.Hard.Log + 1)) <;> rfl) (by
    show s_PeerOk_L1 _ _ _ p n = _
    rw [s_PeerOk_L1_eq, if_neg (by simp)])
  rw [f1, f2, anyB_or (fun i => !decide (1 ≤ n.Next.getD i 0 ∧ n.Next.getD i 0 ≤ w64 (lastI n.Hard.Log + 1))) (fun i => !decide (0 ≤ n.Match.getD i 0 ∧ n.Match.getD i 0 ≤ lastI n.Hard.Log)), anyB_list n.Next 0 (fun x => !decide (1 ≤ x ∧ x ≤ w64 (lastI n.Hard.Log + 1))), anyB_list n.Held z_impl_Rpc (fun r => !rpcB r n.Next.length || !decide (r.From = n.Id)), ← hm', anyB_list n.Match 0 (fun x => !decide (0 ≤ x ∧ x ≤ lastI n.Hard.Log))]
  have e1 : n.Next.any (fun x => !decide (1 ≤ x ∧ x ≤ w64 (lastI n.Hard.Log + 1))) = numsBad n.Next 1 (w64 (lastI n.Hard.Log + 1)) := rfl
  have e2 : n.Match.any (fun x => !decide (0 ≤ x ∧ x ≤ lastI n.Hard.Log)) = numsBad n.Match 0 (lastI n.Hard.Log) := rfl
  have e3 : n.Held.any (fun r => !rpcB r n.Match.length || !decide (r.From = n.Id)) = heldBad n n.Match.length := rfl
  rw [e1, e2, e3]
  cases numsBad n.Next 1 (w64 (lastI n.Hard.Log + 1)) <;> cases numsBad n.Match 0 (lastI n.Hard.Log) <;> cases heldBad n n.Match.length <;> cases decide (n.Hard.Log.Base ≤ n.Commit ∧ n.Commit ≤ lastI n.Hard.Log) <;> cases machB p n.Now <;> cases diskOk n.Disk <;> cases decide ((n.Held.length : Int) ≤ 40) <;> rfl
end Go.Proofs.YtonmohpdmhfjnaaGreatDoor.E.TM
