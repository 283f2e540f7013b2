/- The keys' plain equations (1). No condition. -/
import Derived.Test.YtlidpmhmchbilaaGreatTTe0
namespace Go.Proofs.YtlidpmhmchbilaaGreat.E.TT
open Go.Proofs.YtlidpmhmchbilaaGreat.E
set_option linter.unusedVariables false
set_option maxRecDepth 100000
theorem l_FnExactTell_eq (t0 : laws_Peer) (t1 : laws_Rpc) : l_FnExactTell t0 t1 =
  (l_szPeer t0 1048576).bind fun (r0 : Int × Unit) =>
  if (decide (r0.1 < 0)) = true then
    some (true, ())
  else
    (l_szRpc t1 r0.1).bind fun (r1 : Int × Unit) =>
    if (decide (r1.1 < 0)) = true then
      some (true, ())
    else
      (l_toPeer t0).bind fun (r2 : impl_Peer × Unit) =>
      (l_toRpc t1).bind fun (r3 : impl_Rpc × Unit) =>
      (s_Tell r2.1 r3.1).bind fun (r4 : impl_Peer × Bool × Unit) =>
      (l_toPeer t0).bind fun (r5 : impl_Peer × Unit) =>
      (l_toRpc t1).bind fun (r6 : impl_Rpc × Unit) =>
      (i_Tell r5.1 r6.1).bind fun (r7 : impl_Peer × Bool × Unit) =>
      (l_eqPeer r7.1 r4.1).bind fun (r8 : Bool × Unit) =>
      if (!r8.1) = true then
        some (false, ())
      else
        if (!(decide (r7.2.1 = r4.2.1))) = true then
          some (false, ())
        else
          (l_toPeer t0).bind fun (r9 : impl_Peer × Unit) =>
          (l_eqPeer r5.1 r9.1).bind fun (r10 : Bool × Unit) =>
          if (!r10.1) = true then
            some (false, ())
          else
            (l_toRpc t1).bind fun (r11 : impl_Rpc × Unit) =>
            (l_eqRpc r6.1 r11.1).bind fun (r12 : Bool × Unit) =>
            if (!r12.1) = true then
              some (false, ())
            else
              (l_markPeer r5.1 1).bind fun (r13 : Int × impl_Peer × Unit) =>
              (l_markRpc r6.1 r13.1).bind fun (r14 : Int × Unit) =>
              if (decide (r14.1 < 0)) = true then
                some (false, ())
              else
                (l_eqPeer r7.1 r4.1).bind fun (r15 : Bool × Unit) =>
                if (!r15.1) = true then
                  some (false, ())
                else
                  if (!(decide (r7.2.1 = r4.2.1))) = true then
                    some (false, ())
                  else
                    (l_markPeer r7.1 1).bind fun (r16 : Int × impl_Peer × Unit) =>
                    (l_heldPeer r16.2.1 1).bind fun (r17 : Int × Unit) =>
                    if (decide (r17.1 < 0)) = true then
                      some (false, ())
                    else
                      if (!(decide (r17.1 = r16.1))) = true then
                        some (false, ())
                      else
                        (l_toPeer t0).bind fun (r18 : impl_Peer × Unit) =>
                        (l_toRpc t1).bind fun (r19 : impl_Rpc × Unit) =>
                        (i_Tell r18.1 r19.1).bind fun (r20 : impl_Peer × Bool × Unit) =>
                        (l_eqPeer r20.1 r4.1).bind fun (r21 : Bool × Unit) =>
                        if (!r21.1) = true then
                          some (false, ())
                        else
                          if (!(decide (r20.2.1 = r4.2.1))) = true then
                            some (false, ())
                          else
                            (l_heldPeer r16.2.1 1).bind fun (r22 : Int × Unit) =>
                            if (decide (r22.1 < 0)) = true then
                              some (false, ())
                            else
                              if (!(decide (r22.1 = r16.1))) = true then
                                some (false, ())
                              else
                                some (true, ()) := (lim_eq tab 0 (t0, (t1, ()))).trans (by kernel_rfl)
theorem l_szPeer_eq (t0 : laws_Peer) (t1 : Int) : l_szPeer t0 t1 =
  (l_szHard t0.Hard t1).bind fun (r0 : Int × Unit) =>
  if (decide (r0.1 < 0)) = true then
    some ((-1), ())
  else
    (l_szBoolS t0.Votes r0.1).bind fun (r1 : Int × Unit) =>
    if (decide (r1.1 < 0)) = true then
      some ((-1), ())
    else
      (l_szIntS t0.Next r1.1).bind fun (r2 : Int × Unit) =>
      if (decide (r2.1 < 0)) = true then
        some ((-1), ())
      else
        (l_szIntS t0.Match r2.1).bind fun (r3 : Int × Unit) =>
        if (decide (r3.1 < 0)) = true then
          some ((-1), ())
        else
          (l_szMach t0.Now r3.1).bind fun (r4 : Int × Unit) =>
          if (decide (r4.1 < 0)) = true then
            some ((-1), ())
          else
            (l_szDisk t0.Disk r4.1).bind fun (r5 : Int × Unit) =>
            if (decide (r5.1 < 0)) = true then
              some ((-1), ())
            else
              (l_szRpcS t0.Held r5.1).bind fun (r6 : Int × Unit) =>
              if (decide (r6.1 < 0)) = true then
                some ((-1), ())
              else
                some (r6.1, ()) := (lim_eq tab 1 (t0, (t1, ()))).trans (by kernel_rfl)
theorem l_szRpc_eq (t0 : laws_Rpc) (t1 : Int) : l_szRpc t0 t1 =
  (l_szEntryS t0.List t1).bind fun (r0 : Int × Unit) =>
  if (decide (r0.1 < 0)) = true then
    some ((-1), ())
  else
    if (decide ((w64 (r0.1 - (List.length t0.Snap : Int))) < 0)) = true then
      some ((-1), ())
    else
      some ((w64 (r0.1 - (List.length t0.Snap : Int))), ()) := (lim_eq tab 2 (t0, (t1, ()))).trans (by kernel_rfl)
theorem l_toPeer_eq (t0 : laws_Peer) : l_toPeer t0 =
  (l_toHard t0.Hard).bind fun (r0 : impl_Hard × Unit) =>
  (l_toBoolS t0.Votes).bind fun (r1 : (List Bool) × Unit) =>
  (l_toIntS t0.Next).bind fun (r2 : (List Int) × Unit) =>
  (l_toIntS t0.Match).bind fun (r3 : (List Int) × Unit) =>
  (l_toMach t0.Now).bind fun (r4 : impl_Mach × Unit) =>
  (l_toDisk t0.Disk).bind fun (r5 : impl_Disk × Unit) =>
  (l_toRpcS t0.Held).bind fun (r6 : (List impl_Rpc) × Unit) =>
  some ((impl_Peer.mk t0.Id r0.1 t0.Role r1.1 r2.1 r3.1 t0.Commit r4.1 r5.1 r6.1), ()) := (lim_eq tab 3 (t0, ())).trans (by kernel_rfl)
theorem l_toRpc_eq (t0 : laws_Rpc) : l_toRpc t0 =
  (l_toEntryS t0.List).bind fun (r0 : (List impl_Entry) × Unit) =>
  some ((impl_Rpc.mk t0.Kind t0.From t0.To t0.Term t0.Index t0.IndexTerm t0.Commit r0.1 t0.Ok t0.Snap), ()) := (lim_eq tab 4 (t0, ())).trans (by kernel_rfl)
theorem s_Tell_eq (t0 : impl_Peer) (t1 : impl_Rpc) : s_Tell t0 t1 =
  (s_l22Copy t0).bind fun (r0 : impl_Peer × Unit) =>
  if (decide ((List.length t0.Held : Int) ≥ 40)) = true then
    some (r0.1, false, ())
  else
    (s_l22Rpc t1).bind fun (r1 : impl_Rpc × Unit) =>
    if List.length r0.1.Held + 1 ≤ room then
      some ((impl_Peer.mk r0.1.Id r0.1.Hard r0.1.Role r0.1.Votes r0.1.Next r0.1.Match r0.1.Commit r0.1.Now r0.1.Disk (List.append r0.1.Held [r1.1])), true, ())
    else none := (lim_eq tab 5 (t0, (t1, ()))).trans (by kernel_rfl)
theorem i_Tell_eq (t0 : impl_Peer) (t1 : impl_Rpc) : i_Tell t0 t1 =
  (i_clonePeer t0).bind fun (r0 : impl_Peer × Unit) =>
  if (decide ((List.length t0.Held : Int) ≥ 40)) = true then
    some (r0.1, false, ())
  else
    (i_cloneRpc t1).bind fun (r1 : impl_Rpc × Unit) =>
    if List.length r0.1.Held + 1 ≤ room then
      some ((impl_Peer.mk r0.1.Id r0.1.Hard r0.1.Role r0.1.Votes r0.1.Next r0.1.Match r0.1.Commit r0.1.Now r0.1.Disk (List.append r0.1.Held [r1.1])), true, ())
    else none := (lim_eq tab 6 (t0, (t1, ()))).trans (by kernel_rfl)
theorem l_eqPeer_eq (t0 : impl_Peer) (t1 : impl_Peer) : l_eqPeer t0 t1 =
  if (!(decide (t0.Id = t1.Id))) = true then
    some (false, ())
  else
    (l_eqHard t0.Hard t1.Hard).bind fun (r0 : Bool × Unit) =>
    if (!r0.1) = true then
      some (false, ())
    else
      if (!(decide (t0.Role = t1.Role))) = true then
        some (false, ())
      else
        (l_eqBoolS t0.Votes t1.Votes).bind fun (r1 : Bool × Unit) =>
        if (!r1.1) = true then
          some (false, ())
        else
          (l_eqIntS t0.Next t1.Next).bind fun (r2 : Bool × Unit) =>
          if (!r2.1) = true then
            some (false, ())
          else
            (l_eqIntS t0.Match t1.Match).bind fun (r3 : Bool × Unit) =>
            if (!r3.1) = true then
              some (false, ())
            else
              if (!(decide (t0.Commit = t1.Commit))) = true then
                some (false, ())
              else
                (l_eqMach t0.Now t1.Now).bind fun (r4 : Bool × Unit) =>
                if (!r4.1) = true then
                  some (false, ())
                else
                  (l_eqDisk t0.Disk t1.Disk).bind fun (r5 : Bool × Unit) =>
                  if (!r5.1) = true then
                    some (false, ())
                  else
                    (l_eqRpcS t0.Held t1.Held).bind fun (r6 : Bool × Unit) =>
                    if (!r6.1) = true then
                      some (false, ())
                    else
                      some (true, ()) := (lim_eq tab 7 (t0, (t1, ()))).trans (by kernel_rfl)
theorem l_eqRpc_eq (t0 : impl_Rpc) (t1 : impl_Rpc) : l_eqRpc t0 t1 =
  if (!(decide (t0.Kind = t1.Kind))) = true then
    some (false, ())
  else
    if (!(decide (t0.From = t1.From))) = true then
      some (false, ())
    else
      if (!(decide (t0.To = t1.To))) = true then
        some (false, ())
      else
        if (!(decide (t0.Term = t1.Term))) = true then
          some (false, ())
        else
          if (!(decide (t0.Index = t1.Index))) = true then
            some (false, ())
          else
            if (!(decide (t0.IndexTerm = t1.IndexTerm))) = true then
              some (false, ())
            else
              if (!(decide (t0.Commit = t1.Commit))) = true then
                some (false, ())
              else
                (l_eqEntryS t0.List t1.List).bind fun (r0 : Bool × Unit) =>
                if (!r0.1) = true then
                  some (false, ())
                else
                  if (!(decide (t0.Ok = t1.Ok))) = true then
                    some (false, ())
                  else
                    if (!(decide (t0.Snap = t1.Snap))) = true then
                      some (false, ())
                    else
                      some (true, ()) := (lim_eq tab 8 (t0, (t1, ()))).trans (by kernel_rfl)
theorem l_markPeer_eq (t0 : impl_Peer) (t1 : Int) : l_markPeer t0 t1 =
  (l_markHard t0.Hard t1).bind fun (r0 : Int × impl_Hard × Unit) =>
  (l_markBoolS t0.Votes r0.1).bind fun (r1 : Int × (List Bool) × Unit) =>
  (l_markIntS t0.Next r1.1).bind fun (r2 : Int × (List Int) × Unit) =>
  (l_markIntS t0.Match r2.1).bind fun (r3 : Int × (List Int) × Unit) =>
  (l_markMach t0.Now r3.1).bind fun (r4 : Int × impl_Mach × Unit) =>
  (l_markDisk t0.Disk r4.1).bind fun (r5 : Int × impl_Disk × Unit) =>
  (l_markRpcS t0.Held r5.1).bind fun (r6 : Int × (List impl_Rpc) × Unit) =>
  some (r6.1, (impl_Peer.mk t0.Id r0.2.1 t0.Role r1.2.1 r2.2.1 r3.2.1 t0.Commit r4.2.1 r5.2.1 r6.2.1), ()) := (lim_eq tab 9 (t0, (t1, ()))).trans (by kernel_rfl)
theorem l_markRpc_eq (t0 : impl_Rpc) (t1 : Int) : l_markRpc t0 t1 =
  (l_markEntryS t0.List t1).bind fun (r0 : Int × (List impl_Entry) × Unit) =>
  some (r0.1, ()) := (lim_eq tab 10 (t0, (t1, ()))).trans (by kernel_rfl)
theorem l_heldPeer_eq (t0 : impl_Peer) (t1 : Int) : l_heldPeer t0 t1 =
  (l_heldHard t0.Hard t1).bind fun (r0 : Int × Unit) =>
  if (decide (r0.1 < 0)) = true then
    some ((-1), ())
  else
    (l_heldBoolS t0.Votes r0.1).bind fun (r1 : Int × Unit) =>
    if (decide (r1.1 < 0)) = true then
      some ((-1), ())
    else
      (l_heldIntS t0.Next r1.1).bind fun (r2 : Int × Unit) =>
      if (decide (r2.1 < 0)) = true then
        some ((-1), ())
      else
        (l_heldIntS t0.Match r2.1).bind fun (r3 : Int × Unit) =>
        if (decide (r3.1 < 0)) = true then
          some ((-1), ())
        else
          (l_heldMach t0.Now r3.1).bind fun (r4 : Int × Unit) =>
          if (decide (r4.1 < 0)) = true then
            some ((-1), ())
          else
            (l_heldDisk t0.Disk r4.1).bind fun (r5 : Int × Unit) =>
            if (decide (r5.1 < 0)) = true then
              some ((-1), ())
            else
              (l_heldRpcS t0.Held r5.1).bind fun (r6 : Int × Unit) =>
              if (decide (r6.1 < 0)) = true then
                some ((-1), ())
              else
                some (r6.1, ()) := (lim_eq tab 11 (t0, (t1, ()))).trans (by kernel_rfl)
theorem l_szHard_eq (t0 : laws_Hard) (t1 : Int) : l_szHard t0 t1 =
  (l_szLog t0.Log t1).bind fun (r0 : Int × Unit) =>
  if (decide (r0.1 < 0)) = true then
    some ((-1), ())
  else
    (l_szMach t0.Snap r0.1).bind fun (r1 : Int × Unit) =>
    if (decide (r1.1 < 0)) = true then
      some ((-1), ())
    else
      some (r1.1, ()) := (lim_eq tab 12 (t0, (t1, ()))).trans (by kernel_rfl)
theorem l_szBoolS_eq (t0 : (List Bool)) (t1 : Int) : l_szBoolS t0 t1 =
  if (decide ((w64 (t1 - (List.length t0 : Int))) < 0)) = true then
    some ((-1), ())
  else
    some ((w64 (t1 - (List.length t0 : Int))), ()) := (lim_eq tab 13 (t0, (t1, ()))).trans (by kernel_rfl)
theorem l_szIntS_eq (t0 : (List Int)) (t1 : Int) : l_szIntS t0 t1 =
  if (decide ((w64 (t1 - (List.length t0 : Int))) < 0)) = true then
    some ((-1), ())
  else
    some ((w64 (t1 - (List.length t0 : Int))), ()) := (lim_eq tab 14 (t0, (t1, ()))).trans (by kernel_rfl)
theorem l_szMach_eq (t0 : laws_Mach) (t1 : Int) : l_szMach t0 t1 =
  (l_szState t0.State t1).bind fun (r0 : Int × Unit) =>
  if (decide (r0.1 < 0)) = true then
    some ((-1), ())
  else
    (l_szIntS t0.Done r0.1).bind fun (r1 : Int × Unit) =>
    if (decide (r1.1 < 0)) = true then
      some ((-1), ())
    else
      if (decide ((w64 (r1.1 - (List.length t0.Out : Int))) < 0)) = true then
        some ((-1), ())
      else
        some ((w64 (r1.1 - (List.length t0.Out : Int))), ()) := (lim_eq tab 15 (t0, (t1, ()))).trans (by kernel_rfl)
theorem l_szDisk_eq (t0 : laws_Disk) (t1 : Int) : l_szDisk t0 t1 =
  (l_szByteS t0.Bytes t1).bind fun (r0 : Int × Unit) =>
  if (decide (r0.1 < 0)) = true then
    some ((-1), ())
  else
    some (r0.1, ()) := (lim_eq tab 16 (t0, (t1, ()))).trans (by kernel_rfl)
theorem l_szRpcS_eq (t0 : (List laws_Rpc)) (t1 : Int) : l_szRpcS t0 t1 =
  if (decide ((w64 (t1 - (List.length t0 : Int))) < 0)) = true then
    some ((-1), ())
  else
    l_szRpcS_L1 t0 (w64 (t1 - (List.length t0 : Int))) 0 := (lim_eq tab 17 (t0, (t1, ()))).trans (by kernel_rfl)
theorem l_szRpcS_L1_eq (t0 : (List laws_Rpc)) (t1 : Int) (t5 : Int) : l_szRpcS_L1 t0 t1 t5 =
  if (decide (t5 < (List.length t0 : Int))) = true then
    if (0 : Int) ≤ t5 ∧ t5 < (List.length t0 : Int) then
      (l_szRpc (List.getD t0 t5.toNat z_laws_Rpc) t1).bind fun (r0 : Int × Unit) =>
      if (decide (r0.1 < 0)) = true then
        some ((-1), ())
      else
        l_szRpcS_L1 t0 r0.1 (w64 (t5 + 1))
    else none
  else
    some (t1, ()) := (lim_eq tab 18 (t0, (t1, (t5, ())))).trans (by kernel_rfl)
theorem l_szEntryS_eq (t0 : (List laws_Entry)) (t1 : Int) : l_szEntryS t0 t1 =
  if (decide ((w64 (t1 - (List.length t0 : Int))) < 0)) = true then
    some ((-1), ())
  else
    l_szEntryS_L1 t0 (w64 (t1 - (List.length t0 : Int))) 0 := (lim_eq tab 19 (t0, (t1, ()))).trans (by kernel_rfl)
theorem l_szEntryS_L1_eq (t0 : (List laws_Entry)) (t1 : Int) (t5 : Int) : l_szEntryS_L1 t0 t1 t5 =
  if (decide (t5 < (List.length t0 : Int))) = true then
    if (0 : Int) ≤ t5 ∧ t5 < (List.length t0 : Int) then
      (l_szEntry (List.getD t0 t5.toNat z_laws_Entry) t1).bind fun (r0 : Int × Unit) =>
      if (decide (r0.1 < 0)) = true then
        some ((-1), ())
      else
        l_szEntryS_L1 t0 r0.1 (w64 (t5 + 1))
    else none
  else
    some (t1, ()) := (lim_eq tab 20 (t0, (t1, (t5, ())))).trans (by kernel_rfl)
theorem l_toHard_eq (t0 : laws_Hard) : l_toHard t0 =
  (l_toLog t0.Log).bind fun (r0 : impl_Log × Unit) =>
  (l_toMach t0.Snap).bind fun (r1 : impl_Mach × Unit) =>
  some ((impl_Hard.mk t0.Term t0.Vote r0.1 r1.1), ()) := (lim_eq tab 21 (t0, ())).trans (by kernel_rfl)
theorem l_toBoolS_eq (t0 : (List Bool)) : l_toBoolS t0 =
  if (0 : Int) ≤ (List.length t0 : Int) ∧ (List.length t0 : Int) ≤ (List.length t0 : Int) ∧ (List.length t0 : Int) ≤ (room : Int) then
    l_toBoolS_L1 t0 (List.replicate (List.length t0 : Int).toNat false) 0
  else none := (lim_eq tab 22 (t0, ())).trans (by kernel_rfl)
theorem l_toBoolS_L1_eq (t0 : (List Bool)) (t3 : (List Bool)) (t4 : Int) : l_toBoolS_L1 t0 t3 t4 =
  if (decide (t4 < (List.length t0 : Int))) = true then
    if (0 : Int) ≤ t4 ∧ t4 < (List.length t0 : Int) then
      if (0 : Int) ≤ t4 ∧ t4 < (List.length t3 : Int) then
        l_toBoolS_L1 t0 (List.set t3 t4.toNat (List.getD t0 t4.toNat false)) (w64 (t4 + 1))
      else none
    else none
  else
    some (t3, ()) := (lim_eq tab 23 (t0, (t3, (t4, ())))).trans (by kernel_rfl)
theorem l_toIntS_eq (t0 : (List Int)) : l_toIntS t0 =
  if (0 : Int) ≤ (List.length t0 : Int) ∧ (List.length t0 : Int) ≤ (List.length t0 : Int) ∧ (List.length t0 : Int) ≤ (room : Int) then
    l_toIntS_L1 t0 (List.replicate (List.length t0 : Int).toNat 0) 0
  else none := (lim_eq tab 24 (t0, ())).trans (by kernel_rfl)
theorem l_toIntS_L1_eq (t0 : (List Int)) (t3 : (List Int)) (t4 : Int) : l_toIntS_L1 t0 t3 t4 =
  if (decide (t4 < (List.length t0 : Int))) = true then
    if (0 : Int) ≤ t4 ∧ t4 < (List.length t0 : Int) then
      if (0 : Int) ≤ t4 ∧ t4 < (List.length t3 : Int) then
        l_toIntS_L1 t0 (List.set t3 t4.toNat (List.getD t0 t4.toNat 0)) (w64 (t4 + 1))
      else none
    else none
  else
    some (t3, ()) := (lim_eq tab 25 (t0, (t3, (t4, ())))).trans (by kernel_rfl)
theorem l_toMach_eq (t0 : laws_Mach) : l_toMach t0 =
  (l_toState t0.State).bind fun (r0 : impl_State × Unit) =>
  (l_toIntS t0.Done).bind fun (r1 : (List Int) × Unit) =>
  some ((impl_Mach.mk r0.1 r1.1 t0.Out), ()) := (lim_eq tab 26 (t0, ())).trans (by kernel_rfl)
theorem l_toDisk_eq (t0 : laws_Disk) : l_toDisk t0 =
  (l_toByteS t0.Bytes).bind fun (r0 : (List Int) × Unit) =>
  some ((impl_Disk.mk r0.1 t0.Sure), ()) := (lim_eq tab 27 (t0, ())).trans (by kernel_rfl)
theorem l_toRpcS_eq (t0 : (List laws_Rpc)) : l_toRpcS t0 =
  if (0 : Int) ≤ (List.length t0 : Int) ∧ (List.length t0 : Int) ≤ (List.length t0 : Int) ∧ (List.length t0 : Int) ≤ (room : Int) then
    l_toRpcS_L1 t0 (List.replicate (List.length t0 : Int).toNat z_impl_Rpc) 0
  else none := (lim_eq tab 28 (t0, ())).trans (by kernel_rfl)
theorem l_toRpcS_L1_eq (t0 : (List laws_Rpc)) (t3 : (List impl_Rpc)) (t4 : Int) : l_toRpcS_L1 t0 t3 t4 =
  if (decide (t4 < (List.length t0 : Int))) = true then
    if (0 : Int) ≤ t4 ∧ t4 < (List.length t0 : Int) then
      (l_toRpc (List.getD t0 t4.toNat z_laws_Rpc)).bind fun (r0 : impl_Rpc × Unit) =>
      if (0 : Int) ≤ t4 ∧ t4 < (List.length t3 : Int) then
        l_toRpcS_L1 t0 (List.set t3 t4.toNat r0.1) (w64 (t4 + 1))
      else none
    else none
  else
    some (t3, ()) := (lim_eq tab 29 (t0, (t3, (t4, ())))).trans (by kernel_rfl)
theorem l_toEntryS_eq (t0 : (List laws_Entry)) : l_toEntryS t0 =
  if (0 : Int) ≤ (List.length t0 : Int) ∧ (List.length t0 : Int) ≤ (List.length t0 : Int) ∧ (List.length t0 : Int) ≤ (room : Int) then
    l_toEntryS_L1 t0 (List.replicate (List.length t0 : Int).toNat z_impl_Entry) 0
  else none := (lim_eq tab 30 (t0, ())).trans (by kernel_rfl)
theorem l_toEntryS_L1_eq (t0 : (List laws_Entry)) (t3 : (List impl_Entry)) (t4 : Int) : l_toEntryS_L1 t0 t3 t4 =
  if (decide (t4 < (List.length t0 : Int))) = true then
    if (0 : Int) ≤ t4 ∧ t4 < (List.length t0 : Int) then
      (l_toEntry (List.getD t0 t4.toNat z_laws_Entry)).bind fun (r0 : impl_Entry × Unit) =>
      if (0 : Int) ≤ t4 ∧ t4 < (List.length t3 : Int) then
        l_toEntryS_L1 t0 (List.set t3 t4.toNat r0.1) (w64 (t4 + 1))
      else none
    else none
  else
    some (t3, ()) := (lim_eq tab 31 (t0, (t3, (t4, ())))).trans (by kernel_rfl)
theorem s_l22Copy_eq (t0 : impl_Peer) : s_l22Copy t0 =
  (s_l21Copy t0.Hard).bind fun (r0 : impl_Hard × Unit) =>
  if 0 + List.length t0.Votes ≤ room then
    if 0 + List.length t0.Next ≤ room then
      if 0 + List.length t0.Match ≤ room then
        (s_l16Copy t0.Now).bind fun (r1 : impl_Mach × Unit) =>
        (s_l20Copy t0.Disk).bind fun (r2 : impl_Disk × Unit) =>
        (s_l22Rpcs t0.Held).bind fun (r3 : (List impl_Rpc) × Unit) =>
        let v0 : impl_Peer := (impl_Peer.mk t0.Id r0.1 t0.Role (List.append [] t0.Votes) (List.append [] t0.Next) (List.append [] t0.Match) t0.Commit r1.1 r2.1 r3.1)
        some (v0, ())
      else none
    else none
  else none := (lim_eq tab 32 (t0, ())).trans (by kernel_rfl)
theorem s_l22Rpc_eq (t0 : impl_Rpc) : s_l22Rpc t0 =
  if 0 + List.length t0.List ≤ room then
    some ((impl_Rpc.mk t0.Kind t0.From t0.To t0.Term t0.Index t0.IndexTerm t0.Commit (List.append [] t0.List) t0.Ok t0.Snap), ())
  else none := (lim_eq tab 33 (t0, ())).trans (by kernel_rfl)
theorem i_clonePeer_eq (t0 : impl_Peer) : i_clonePeer t0 =
  (i_cloneHard t0.Hard).bind fun (r0 : impl_Hard × Unit) =>
  (i_cloneMach t0.Now).bind fun (r1 : impl_Mach × Unit) =>
  (i_cloneDisk t0.Disk).bind fun (r2 : impl_Disk × Unit) =>
  (i_cloneRpcs t0.Held).bind fun (r3 : (List impl_Rpc) × Unit) =>
  (x_slices_Clone_bool t0.Votes).bind fun (r4 : (List Bool) × Unit) =>
  (x_slices_Clone_int t0.Next).bind fun (r5 : (List Int) × Unit) =>
  (x_slices_Clone_int t0.Match).bind fun (r6 : (List Int) × Unit) =>
  some ((impl_Peer.mk t0.Id r0.1 t0.Role r4.1 r5.1 r6.1 t0.Commit r1.1 r2.1 r3.1), ()) := (lim_eq tab 34 (t0, ())).trans (by kernel_rfl)
theorem i_cloneRpc_eq (t0 : impl_Rpc) : i_cloneRpc t0 =
  (x_slices_Clone_impl_Entry t0.List).bind fun (r0 : (List impl_Entry) × Unit) =>
  some ((impl_Rpc.mk t0.Kind t0.From t0.To t0.Term t0.Index t0.IndexTerm t0.Commit r0.1 t0.Ok t0.Snap), ()) := (lim_eq tab 35 (t0, ())).trans (by kernel_rfl)
theorem l_eqHard_eq (t0 : impl_Hard) (t1 : impl_Hard) : l_eqHard t0 t1 =
  if (!(decide (t0.Term = t1.Term))) = true then
    some (false, ())
  else
    if (!(decide (t0.Vote = t1.Vote))) = true then
      some (false, ())
    else
      (l_eqLog t0.Log t1.Log).bind fun (r0 : Bool × Unit) =>
      if (!r0.1) = true then
        some (false, ())
      else
        (l_eqMach t0.Snap t1.Snap).bind fun (r1 : Bool × Unit) =>
        if (!r1.1) = true then
          some (false, ())
        else
          some (true, ()) := (lim_eq tab 36 (t0, (t1, ()))).trans (by kernel_rfl)
theorem l_eqBoolS_eq (t0 : (List Bool)) (t1 : (List Bool)) : l_eqBoolS t0 t1 =
  if (!(decide ((List.length t0 : Int) = (List.length t1 : Int)))) = true then
    some (false, ())
  else
    l_eqBoolS_L1 t0 t1 0 := (lim_eq tab 37 (t0, (t1, ()))).trans (by kernel_rfl)
theorem l_eqBoolS_L1_eq (t0 : (List Bool)) (t1 : (List Bool)) (t5 : Int) : l_eqBoolS_L1 t0 t1 t5 =
  if (decide (t5 < (List.length t0 : Int))) = true then
    if (0 : Int) ≤ t5 ∧ t5 < (List.length t0 : Int) then
      if (0 : Int) ≤ t5 ∧ t5 < (List.length t1 : Int) then
        if (!(decide ((List.getD t0 t5.toNat false) = (List.getD t1 t5.toNat false)))) = true then
          some (false, ())
        else
          l_eqBoolS_L1 t0 t1 (w64 (t5 + 1))
      else none
    else none
  else
    some (true, ()) := (lim_eq tab 38 (t0, (t1, (t5, ())))).trans (by kernel_rfl)
theorem l_eqIntS_eq (t0 : (List Int)) (t1 : (List Int)) : l_eqIntS t0 t1 =
  if (!(decide ((List.length t0 : Int) = (List.length t1 : Int)))) = true then
    some (false, ())
  else
    l_eqIntS_L1 t0 t1 0 := (lim_eq tab 39 (t0, (t1, ()))).trans (by kernel_rfl)
theorem l_eqIntS_L1_eq (t0 : (List Int)) (t1 : (List Int)) (t5 : Int) : l_eqIntS_L1 t0 t1 t5 =
  if (decide (t5 < (List.length t0 : Int))) = true then
    if (0 : Int) ≤ t5 ∧ t5 < (List.length t0 : Int) then
      if (0 : Int) ≤ t5 ∧ t5 < (List.length t1 : Int) then
        if (!(decide ((List.getD t0 t5.toNat 0) = (List.getD t1 t5.toNat 0)))) = true then
          some (false, ())
        else
          l_eqIntS_L1 t0 t1 (w64 (t5 + 1))
      else none
    else none
  else
    some (true, ()) := (lim_eq tab 40 (t0, (t1, (t5, ())))).trans (by kernel_rfl)
theorem l_eqMach_eq (t0 : impl_Mach) (t1 : impl_Mach) : l_eqMach t0 t1 =
  (l_eqState t0.State t1.State).bind fun (r0 : Bool × Unit) =>
  if (!r0.1) = true then
    some (false, ())
  else
    (l_eqIntS t0.Done t1.Done).bind fun (r1 : Bool × Unit) =>
    if (!r1.1) = true then
      some (false, ())
    else
      if (!(decide (t0.Out = t1.Out))) = true then
        some (false, ())
      else
        some (true, ()) := (lim_eq tab 41 (t0, (t1, ()))).trans (by kernel_rfl)
theorem l_eqDisk_eq (t0 : impl_Disk) (t1 : impl_Disk) : l_eqDisk t0 t1 =
  (l_eqByteS t0.Bytes t1.Bytes).bind fun (r0 : Bool × Unit) =>
  if (!r0.1) = true then
    some (false, ())
  else
    if (!(decide (t0.Sure = t1.Sure))) = true then
      some (false, ())
    else
      some (true, ()) := (lim_eq tab 42 (t0, (t1, ()))).trans (by kernel_rfl)
theorem l_eqRpcS_eq (t0 : (List impl_Rpc)) (t1 : (List impl_Rpc)) : l_eqRpcS t0 t1 =
  if (!(decide ((List.length t0 : Int) = (List.length t1 : Int)))) = true then
    some (false, ())
  else
    l_eqRpcS_L1 t0 t1 0 := (lim_eq tab 43 (t0, (t1, ()))).trans (by kernel_rfl)
theorem l_eqRpcS_L1_eq (t0 : (List impl_Rpc)) (t1 : (List impl_Rpc)) (t5 : Int) : l_eqRpcS_L1 t0 t1 t5 =
  if (decide (t5 < (List.length t0 : Int))) = true then
    if (0 : Int) ≤ t5 ∧ t5 < (List.length t0 : Int) then
      if (0 : Int) ≤ t5 ∧ t5 < (List.length t1 : Int) then
        (l_eqRpc (List.getD t0 t5.toNat z_impl_Rpc) (List.getD t1 t5.toNat z_impl_Rpc)).bind fun (r0 : Bool × Unit) =>
        if (!r0.1) = true then
          some (false, ())
        else
          l_eqRpcS_L1 t0 t1 (w64 (t5 + 1))
      else none
    else none
  else
    some (true, ()) := (lim_eq tab 44 (t0, (t1, (t5, ())))).trans (by kernel_rfl)
theorem l_eqEntryS_eq (t0 : (List impl_Entry)) (t1 : (List impl_Entry)) : l_eqEntryS t0 t1 =
  if (!(decide ((List.length t0 : Int) = (List.length t1 : Int)))) = true then
    some (false, ())
  else
    l_eqEntryS_L1 t0 t1 0 := (lim_eq tab 45 (t0, (t1, ()))).trans (by kernel_rfl)
theorem l_eqEntryS_L1_eq (t0 : (List impl_Entry)) (t1 : (List impl_Entry)) (t5 : Int) : l_eqEntryS_L1 t0 t1 t5 =
  if (decide (t5 < (List.length t0 : Int))) = true then
    if (0 : Int) ≤ t5 ∧ t5 < (List.length t0 : Int) then
      if (0 : Int) ≤ t5 ∧ t5 < (List.length t1 : Int) then
        (l_eqEntry (List.getD t0 t5.toNat z_impl_Entry) (List.getD t1 t5.toNat z_impl_Entry)).bind fun (r0 : Bool × Unit) =>
        if (!r0.1) = true then
          some (false, ())
        else
          l_eqEntryS_L1 t0 t1 (w64 (t5 + 1))
      else none
    else none
  else
    some (true, ()) := (lim_eq tab 46 (t0, (t1, (t5, ())))).trans (by kernel_rfl)
theorem l_markHard_eq (t0 : impl_Hard) (t1 : Int) : l_markHard t0 t1 =
  (l_markLog t0.Log t1).bind fun (r0 : Int × impl_Log × Unit) =>
  (l_markMach t0.Snap r0.1).bind fun (r1 : Int × impl_Mach × Unit) =>
  some (r1.1, (impl_Hard.mk t0.Term t0.Vote r0.2.1 r1.2.1), ()) := (lim_eq tab 47 (t0, (t1, ()))).trans (by kernel_rfl)
theorem l_markBoolS_eq (t0 : (List Bool)) (t1 : Int) : l_markBoolS t0 t1 =
  l_markBoolS_L1 t0 t1 0 := (lim_eq tab 48 (t0, (t1, ()))).trans (by kernel_rfl)
theorem l_markBoolS_L1_eq (t0 : (List Bool)) (t1 : Int) (t5 : Int) : l_markBoolS_L1 t0 t1 t5 =
  if (decide (t5 < (List.length t0 : Int))) = true then
    if (0 : Int) ≤ t5 ∧ t5 < (List.length t0 : Int) then
      l_markBoolS_L1 (List.set t0 t5.toNat (decide ((Int.tmod t1 3) = 0))) (w64 (t1 + 1)) (w64 (t5 + 1))
    else none
  else
    some (t1, t0, ()) := (lim_eq tab 49 (t0, (t1, (t5, ())))).trans (by kernel_rfl)
theorem l_markIntS_eq (t0 : (List Int)) (t1 : Int) : l_markIntS t0 t1 =
  l_markIntS_L1 t0 t1 0 := (lim_eq tab 50 (t0, (t1, ()))).trans (by kernel_rfl)
theorem l_markIntS_L1_eq (t0 : (List Int)) (t1 : Int) (t5 : Int) : l_markIntS_L1 t0 t1 t5 =
  if (decide (t5 < (List.length t0 : Int))) = true then
    if (0 : Int) ≤ t5 ∧ t5 < (List.length t0 : Int) then
      l_markIntS_L1 (List.set t0 t5.toNat t1) (w64 (t1 + 1)) (w64 (t5 + 1))
    else none
  else
    some (t1, t0, ()) := (lim_eq tab 51 (t0, (t1, (t5, ())))).trans (by kernel_rfl)
theorem l_markMach_eq (t0 : impl_Mach) (t1 : Int) : l_markMach t0 t1 =
  (l_markState t0.State t1).bind fun (r0 : Int × impl_State × Unit) =>
  (l_markIntS t0.Done r0.1).bind fun (r1 : Int × (List Int) × Unit) =>
  some (r1.1, (impl_Mach.mk r0.2.1 r1.2.1 t0.Out), ()) := (lim_eq tab 52 (t0, (t1, ()))).trans (by kernel_rfl)
theorem l_markDisk_eq (t0 : impl_Disk) (t1 : Int) : l_markDisk t0 t1 =
  (l_markByteS t0.Bytes t1).bind fun (r0 : Int × (List Int) × Unit) =>
  some (r0.1, (impl_Disk.mk r0.2.1 t0.Sure), ()) := (lim_eq tab 53 (t0, (t1, ()))).trans (by kernel_rfl)
theorem l_markRpcS_eq (t0 : (List impl_Rpc)) (t1 : Int) : l_markRpcS t0 t1 =
  l_markRpcS_L1 t0 t1 0 := (lim_eq tab 54 (t0, (t1, ()))).trans (by kernel_rfl)
theorem l_markRpcS_L1_eq (t0 : (List impl_Rpc)) (t1 : Int) (t5 : Int) : l_markRpcS_L1 t0 t1 t5 =
  if (decide (t5 < (List.length t0 : Int))) = true then
    if (0 : Int) ≤ t5 ∧ t5 < (List.length t0 : Int) then
      let v0 : (List impl_Rpc) := (List.set t0 t5.toNat (impl_Rpc.mk t1 ((List.getD t0 t5.toNat z_impl_Rpc).From) ((List.getD t0 t5.toNat z_impl_Rpc).To) ((List.getD t0 t5.toNat z_impl_Rpc).Term) ((List.getD t0 t5.toNat z_impl_Rpc).Index) ((List.getD t0 t5.toNat z_impl_Rpc).IndexTerm) ((List.getD t0 t5.toNat z_impl_Rpc).Commit) ((List.getD t0 t5.toNat z_impl_Rpc).List) ((List.getD t0 t5.toNat z_impl_Rpc).Ok) ((List.getD t0 t5.toNat z_impl_Rpc).Snap)))
      if (0 : Int) ≤ t5 ∧ t5 < (List.length v0 : Int) then
        let v1 : (List impl_Rpc) := (List.set v0 t5.toNat (impl_Rpc.mk ((List.getD v0 t5.toNat z_impl_Rpc).Kind) (w64 (t1 + 1)) ((List.getD v0 t5.toNat z_impl_Rpc).To) ((List.getD v0 t5.toNat z_impl_Rpc).Term) ((List.getD v0 t5.toNat z_impl_Rpc).Index) ((List.getD v0 t5.toNat z_impl_Rpc).IndexTerm) ((List.getD v0 t5.toNat z_impl_Rpc).Commit) ((List.getD v0 t5.toNat z_impl_Rpc).List) ((List.getD v0 t5.toNat z_impl_Rpc).Ok) ((List.getD v0 t5.toNat z_impl_Rpc).Snap)))
        if (0 : Int) ≤ t5 ∧ t5 < (List.length v1 : Int) then
          let v2 : (List impl_Rpc) := (List.set v1 t5.toNat (impl_Rpc.mk ((List.getD v1 t5.toNat z_impl_Rpc).Kind) ((List.getD v1 t5.toNat z_impl_Rpc).From) (w64 ((w64 (t1 + 1)) + 1)) ((List.getD v1 t5.toNat z_impl_Rpc).Term) ((List.getD v1 t5.toNat z_impl_Rpc).Index) ((List.getD v1 t5.toNat z_impl_Rpc).IndexTerm) ((List.getD v1 t5.toNat z_impl_Rpc).Commit) ((List.getD v1 t5.toNat z_impl_Rpc).List) ((List.getD v1 t5.toNat z_impl_Rpc).Ok) ((List.getD v1 t5.toNat z_impl_Rpc).Snap)))
          if (0 : Int) ≤ t5 ∧ t5 < (List.length v2 : Int) then
            let v3 : (List impl_Rpc) := (List.set v2 t5.toNat (impl_Rpc.mk ((List.getD v2 t5.toNat z_impl_Rpc).Kind) ((List.getD v2 t5.toNat z_impl_Rpc).From) ((List.getD v2 t5.toNat z_impl_Rpc).To) (w64 ((w64 ((w64 (t1 + 1)) + 1)) + 1)) ((List.getD v2 t5.toNat z_impl_Rpc).Index) ((List.getD v2 t5.toNat z_impl_Rpc).IndexTerm) ((List.getD v2 t5.toNat z_impl_Rpc).Commit) ((List.getD v2 t5.toNat z_impl_Rpc).List) ((List.getD v2 t5.toNat z_impl_Rpc).Ok) ((List.getD v2 t5.toNat z_impl_Rpc).Snap)))
            if (0 : Int) ≤ t5 ∧ t5 < (List.length v3 : Int) then
              let v4 : (List impl_Rpc) := (List.set v3 t5.toNat (impl_Rpc.mk ((List.getD v3 t5.toNat z_impl_Rpc).Kind) ((List.getD v3 t5.toNat z_impl_Rpc).From) ((List.getD v3 t5.toNat z_impl_Rpc).To) ((List.getD v3 t5.toNat z_impl_Rpc).Term) (w64 ((w64 ((w64 ((w64 (t1 + 1)) + 1)) + 1)) + 1)) ((List.getD v3 t5.toNat z_impl_Rpc).IndexTerm) ((List.getD v3 t5.toNat z_impl_Rpc).Commit) ((List.getD v3 t5.toNat z_impl_Rpc).List) ((List.getD v3 t5.toNat z_impl_Rpc).Ok) ((List.getD v3 t5.toNat z_impl_Rpc).Snap)))
              if (0 : Int) ≤ t5 ∧ t5 < (List.length v4 : Int) then
                let v5 : (List impl_Rpc) := (List.set v4 t5.toNat (impl_Rpc.mk ((List.getD v4 t5.toNat z_impl_Rpc).Kind) ((List.getD v4 t5.toNat z_impl_Rpc).From) ((List.getD v4 t5.toNat z_impl_Rpc).To) ((List.getD v4 t5.toNat z_impl_Rpc).Term) ((List.getD v4 t5.toNat z_impl_Rpc).Index) (w64 ((w64 ((w64 ((w64 ((w64 (t1 + 1)) + 1)) + 1)) + 1)) + 1)) ((List.getD v4 t5.toNat z_impl_Rpc).Commit) ((List.getD v4 t5.toNat z_impl_Rpc).List) ((List.getD v4 t5.toNat z_impl_Rpc).Ok) ((List.getD v4 t5.toNat z_impl_Rpc).Snap)))
                if (0 : Int) ≤ t5 ∧ t5 < (List.length v5 : Int) then
                  let v6 : (List impl_Rpc) := (List.set v5 t5.toNat (impl_Rpc.mk ((List.getD v5 t5.toNat z_impl_Rpc).Kind) ((List.getD v5 t5.toNat z_impl_Rpc).From) ((List.getD v5 t5.toNat z_impl_Rpc).To) ((List.getD v5 t5.toNat z_impl_Rpc).Term) ((List.getD v5 t5.toNat z_impl_Rpc).Index) ((List.getD v5 t5.toNat z_impl_Rpc).IndexTerm) (w64 ((w64 ((w64 ((w64 ((w64 ((w64 (t1 + 1)) + 1)) + 1)) + 1)) + 1)) + 1)) ((List.getD v5 t5.toNat z_impl_Rpc).List) ((List.getD v5 t5.toNat z_impl_Rpc).Ok) ((List.getD v5 t5.toNat z_impl_Rpc).Snap)))
                  if (0 : Int) ≤ t5 ∧ t5 < (List.length v6 : Int) then
                    (l_markEntryS ((List.getD v6 t5.toNat z_impl_Rpc).List) (w64 ((w64 ((w64 ((w64 ((w64 ((w64 ((w64 (t1 + 1)) + 1)) + 1)) + 1)) + 1)) + 1)) + 1))).bind fun (r0 : Int × (List impl_Entry) × Unit) =>
                    if (0 : Int) ≤ t5 ∧ t5 < (List.length (List.set v6 t5.toNat (impl_Rpc.mk ((List.getD v6 t5.toNat z_impl_Rpc).Kind) ((List.getD v6 t5.toNat z_impl_Rpc).From) ((List.getD v6 t5.toNat z_impl_Rpc).To) ((List.getD v6 t5.toNat z_impl_Rpc).Term) ((List.getD v6 t5.toNat z_impl_Rpc).Index) ((List.getD v6 t5.toNat z_impl_Rpc).IndexTerm) ((List.getD v6 t5.toNat z_impl_Rpc).Commit) r0.2.1 ((List.getD v6 t5.toNat z_impl_Rpc).Ok) ((List.getD v6 t5.toNat z_impl_Rpc).Snap))) : Int) then
                      let v7 : (List impl_Rpc) := (List.set (List.set v6 t5.toNat (impl_Rpc.mk ((List.getD v6 t5.toNat z_impl_Rpc).Kind) ((List.getD v6 t5.toNat z_impl_Rpc).From) ((List.getD v6 t5.toNat z_impl_Rpc).To) ((List.getD v6 t5.toNat z_impl_Rpc).Term) ((List.getD v6 t5.toNat z_impl_Rpc).Index) ((List.getD v6 t5.toNat z_impl_Rpc).IndexTerm) ((List.getD v6 t5.toNat z_impl_Rpc).Commit) r0.2.1 ((List.getD v6 t5.toNat z_impl_Rpc).Ok) ((List.getD v6 t5.toNat z_impl_Rpc).Snap))) t5.toNat (impl_Rpc.mk ((List.getD (List.set v6 t5.toNat (impl_Rpc.mk ((List.getD v6 t5.toNat z_impl_Rpc).Kind) ((List.getD v6 t5.toNat z_impl_Rpc).From) ((List.getD v6 t5.toNat z_impl_Rpc).To) ((List.getD v6 t5.toNat z_impl_Rpc).Term) ((List.getD v6 t5.toNat z_impl_Rpc).Index) ((List.getD v6 t5.toNat z_impl_Rpc).IndexTerm) ((List.getD v6 t5.toNat z_impl_Rpc).Commit) r0.2.1 ((List.getD v6 t5.toNat z_impl_Rpc).Ok) ((List.getD v6 t5.toNat z_impl_Rpc).Snap))) t5.toNat z_impl_Rpc).Kind) ((List.getD (List.set v6 t5.toNat (impl_Rpc.mk ((List.getD v6 t5.toNat z_impl_Rpc).Kind) ((List.getD v6 t5.toNat z_impl_Rpc).From) ((List.getD v6 t5.toNat z_impl_Rpc).To) ((List.getD v6 t5.toNat z_impl_Rpc).Term) ((List.getD v6 t5.toNat z_impl_Rpc).Index) ((List.getD v6 t5.toNat z_impl_Rpc).IndexTerm) ((List.getD v6 t5.toNat z_impl_Rpc).Commit) r0.2.1 ((List.getD v6 t5.toNat z_impl_Rpc).Ok) ((List.getD v6 t5.toNat z_impl_Rpc).Snap))) t5.toNat z_impl_Rpc).From) ((List.getD (List.set v6 t5.toNat (impl_Rpc.mk ((List.getD v6 t5.toNat z_impl_Rpc).Kind) ((List.getD v6 t5.toNat z_impl_Rpc).From) ((List.getD v6 t5.toNat z_impl_Rpc).To) ((List.getD v6 t5.toNat z_impl_Rpc).Term) ((List.getD v6 t5.toNat z_impl_Rpc).Index) ((List.getD v6 t5.toNat z_impl_Rpc).IndexTerm) ((List.getD v6 t5.toNat z_impl_Rpc).Commit) r0.2.1 ((List.getD v6 t5.toNat z_impl_Rpc).Ok) ((List.getD v6 t5.toNat z_impl_Rpc).Snap))) t5.toNat z_impl_Rpc).To) ((List.getD (List.set v6 t5.toNat (impl_Rpc.mk ((List.getD v6 t5.toNat z_impl_Rpc).Kind) ((List.getD v6 t5.toNat z_impl_Rpc).From) ((List.getD v6 t5.toNat z_impl_Rpc).To) ((List.getD v6 t5.toNat z_impl_Rpc).Term) ((List.getD v6 t5.toNat z_impl_Rpc).Index) ((List.getD v6 t5.toNat z_impl_Rpc).IndexTerm) ((List.getD v6 t5.toNat z_impl_Rpc).Commit) r0.2.1 ((List.getD v6 t5.toNat z_impl_Rpc).Ok) ((List.getD v6 t5.toNat z_impl_Rpc).Snap))) t5.toNat z_impl_Rpc).Term) ((List.getD (List.set v6 t5.toNat (impl_Rpc.mk ((List.getD v6 t5.toNat z_impl_Rpc).Kind) ((List.getD v6 t5.toNat z_impl_Rpc).From) ((List.getD v6 t5.toNat z_impl_Rpc).To) ((List.getD v6 t5.toNat z_impl_Rpc).Term) ((List.getD v6 t5.toNat z_impl_Rpc).Index) ((List.getD v6 t5.toNat z_impl_Rpc).IndexTerm) ((List.getD v6 t5.toNat z_impl_Rpc).Commit) r0.2.1 ((List.getD v6 t5.toNat z_impl_Rpc).Ok) ((List.getD v6 t5.toNat z_impl_Rpc).Snap))) t5.toNat z_impl_Rpc).Index) ((List.getD (List.set v6 t5.toNat (impl_Rpc.mk ((List.getD v6 t5.toNat z_impl_Rpc).Kind) ((List.getD v6 t5.toNat z_impl_Rpc).From) ((List.getD v6 t5.toNat z_impl_Rpc).To) ((List.getD v6 t5.toNat z_impl_Rpc).Term) ((List.getD v6 t5.toNat z_impl_Rpc).Index) ((List.getD v6 t5.toNat z_impl_Rpc).IndexTerm) ((List.getD v6 t5.toNat z_impl_Rpc).Commit) r0.2.1 ((List.getD v6 t5.toNat z_impl_Rpc).Ok) ((List.getD v6 t5.toNat z_impl_Rpc).Snap))) t5.toNat z_impl_Rpc).IndexTerm) ((List.getD (List.set v6 t5.toNat (impl_Rpc.mk ((List.getD v6 t5.toNat z_impl_Rpc).Kind) ((List.getD v6 t5.toNat z_impl_Rpc).From) ((List.getD v6 t5.toNat z_impl_Rpc).To) ((List.getD v6 t5.toNat z_impl_Rpc).Term) ((List.getD v6 t5.toNat z_impl_Rpc).Index) ((List.getD v6 t5.toNat z_impl_Rpc).IndexTerm) ((List.getD v6 t5.toNat z_impl_Rpc).Commit) r0.2.1 ((List.getD v6 t5.toNat z_impl_Rpc).Ok) ((List.getD v6 t5.toNat z_impl_Rpc).Snap))) t5.toNat z_impl_Rpc).Commit) ((List.getD (List.set v6 t5.toNat (impl_Rpc.mk ((List.getD v6 t5.toNat z_impl_Rpc).Kind) ((List.getD v6 t5.toNat z_impl_Rpc).From) ((List.getD v6 t5.toNat z_impl_Rpc).To) ((List.getD v6 t5.toNat z_impl_Rpc).Term) ((List.getD v6 t5.toNat z_impl_Rpc).Index) ((List.getD v6 t5.toNat z_impl_Rpc).IndexTerm) ((List.getD v6 t5.toNat z_impl_Rpc).Commit) r0.2.1 ((List.getD v6 t5.toNat z_impl_Rpc).Ok) ((List.getD v6 t5.toNat z_impl_Rpc).Snap))) t5.toNat z_impl_Rpc).List) (decide ((Int.tmod r0.1 3) = 0)) ((List.getD (List.set v6 t5.toNat (impl_Rpc.mk ((List.getD v6 t5.toNat z_impl_Rpc).Kind) ((List.getD v6 t5.toNat z_impl_Rpc).From) ((List.getD v6 t5.toNat z_impl_Rpc).To) ((List.getD v6 t5.toNat z_impl_Rpc).Term) ((List.getD v6 t5.toNat z_impl_Rpc).Index) ((List.getD v6 t5.toNat z_impl_Rpc).IndexTerm) ((List.getD v6 t5.toNat z_impl_Rpc).Commit) r0.2.1 ((List.getD v6 t5.toNat z_impl_Rpc).Ok) ((List.getD v6 t5.toNat z_impl_Rpc).Snap))) t5.toNat z_impl_Rpc).Snap)))
                      (l_markText (w64 (r0.1 + 1))).bind fun (r1 : (List Int) × Unit) =>
                      if (0 : Int) ≤ t5 ∧ t5 < (List.length v7 : Int) then
                        let v8 : (List impl_Rpc) := (List.set v7 t5.toNat (impl_Rpc.mk ((List.getD v7 t5.toNat z_impl_Rpc).Kind) ((List.getD v7 t5.toNat z_impl_Rpc).From) ((List.getD v7 t5.toNat z_impl_Rpc).To) ((List.getD v7 t5.toNat z_impl_Rpc).Term) ((List.getD v7 t5.toNat z_impl_Rpc).Index) ((List.getD v7 t5.toNat z_impl_Rpc).IndexTerm) ((List.getD v7 t5.toNat z_impl_Rpc).Commit) ((List.getD v7 t5.toNat z_impl_Rpc).List) ((List.getD v7 t5.toNat z_impl_Rpc).Ok) r1.1))
                        l_markRpcS_L1 v8 (w64 ((w64 (r0.1 + 1)) + 1)) (w64 (t5 + 1))
                      else none
                    else none
                  else none
                else none
              else none
            else none
          else none
        else none
      else none
    else none
  else
    some (t1, t0, ()) := (lim_eq tab 55 (t0, (t1, (t5, ())))).trans (by kernel_rfl)
theorem l_markEntryS_eq (t0 : (List impl_Entry)) (t1 : Int) : l_markEntryS t0 t1 =
  l_markEntryS_L1 t0 t1 0 := (lim_eq tab 56 (t0, (t1, ()))).trans (by kernel_rfl)
theorem l_markEntryS_L1_eq (t0 : (List impl_Entry)) (t1 : Int) (t5 : Int) : l_markEntryS_L1 t0 t1 t5 =
  if (decide (t5 < (List.length t0 : Int))) = true then
    if (0 : Int) ≤ t5 ∧ t5 < (List.length t0 : Int) then
      if (0 : Int) ≤ t5 ∧ t5 < (List.length (List.set t0 t5.toNat (impl_Entry.mk t1 ((List.getD t0 t5.toNat z_impl_Entry).C))) : Int) then
        let v0 : (List impl_Entry) := (List.set (List.set t0 t5.toNat (impl_Entry.mk t1 ((List.getD t0 t5.toNat z_impl_Entry).C))) t5.toNat (impl_Entry.mk ((List.getD (List.set t0 t5.toNat (impl_Entry.mk t1 ((List.getD t0 t5.toNat z_impl_Entry).C))) t5.toNat z_impl_Entry).Term) (impl_Cmd.mk (w64 (t1 + 1)) (((List.getD (List.set t0 t5.toNat (impl_Entry.mk t1 ((List.getD t0 t5.toNat z_impl_Entry).C))) t5.toNat z_impl_Entry).C).Seq) (((List.getD (List.set t0 t5.toNat (impl_Entry.mk t1 ((List.getD t0 t5.toNat z_impl_Entry).C))) t5.toNat z_impl_Entry).C).Line))))
        if (0 : Int) ≤ t5 ∧ t5 < (List.length v0 : Int) then
          let v1 : (List impl_Entry) := (List.set v0 t5.toNat (impl_Entry.mk ((List.getD v0 t5.toNat z_impl_Entry).Term) (impl_Cmd.mk (((List.getD v0 t5.toNat z_impl_Entry).C).Who) (w64 ((w64 (t1 + 1)) + 1)) (((List.getD v0 t5.toNat z_impl_Entry).C).Line))))
          (l_markText (w64 ((w64 ((w64 (t1 + 1)) + 1)) + 1))).bind fun (r0 : (List Int) × Unit) =>
          if (0 : Int) ≤ t5 ∧ t5 < (List.length v1 : Int) then
            let v2 : (List impl_Entry) := (List.set v1 t5.toNat (impl_Entry.mk ((List.getD v1 t5.toNat z_impl_Entry).Term) (impl_Cmd.mk (((List.getD v1 t5.toNat z_impl_Entry).C).Who) (((List.getD v1 t5.toNat z_impl_Entry).C).Seq) r0.1)))
            l_markEntryS_L1 v2 (w64 ((w64 ((w64 ((w64 (t1 + 1)) + 1)) + 1)) + 1)) (w64 (t5 + 1))
          else none
        else none
      else none
    else none
  else
    some (t1, t0, ()) := (lim_eq tab 57 (t0, (t1, (t5, ())))).trans (by kernel_rfl)
theorem l_heldHard_eq (t0 : impl_Hard) (t1 : Int) : l_heldHard t0 t1 =
  (l_heldLog t0.Log t1).bind fun (r0 : Int × Unit) =>
  if (decide (r0.1 < 0)) = true then
    some ((-1), ())
  else
    (l_heldMach t0.Snap r0.1).bind fun (r1 : Int × Unit) =>
    if (decide (r1.1 < 0)) = true then
      some ((-1), ())
    else
      some (r1.1, ()) := (lim_eq tab 58 (t0, (t1, ()))).trans (by kernel_rfl)
theorem l_heldBoolS_eq (t0 : (List Bool)) (t1 : Int) : l_heldBoolS t0 t1 =
  l_heldBoolS_L1 t0 t1 0 := (lim_eq tab 59 (t0, (t1, ()))).trans (by kernel_rfl)
theorem l_heldBoolS_L1_eq (t0 : (List Bool)) (t1 : Int) (t5 : Int) : l_heldBoolS_L1 t0 t1 t5 =
  if (decide (t5 < (List.length t0 : Int))) = true then
    if (0 : Int) ≤ t5 ∧ t5 < (List.length t0 : Int) then
      if (!(decide ((List.getD t0 t5.toNat false) = (decide ((Int.tmod t1 3) = 0))))) = true then
        some ((-1), ())
      else
        l_heldBoolS_L1 t0 (w64 (t1 + 1)) (w64 (t5 + 1))
    else none
  else
    some (t1, ()) := (lim_eq tab 60 (t0, (t1, (t5, ())))).trans (by kernel_rfl)
theorem l_heldIntS_eq (t0 : (List Int)) (t1 : Int) : l_heldIntS t0 t1 =
  l_heldIntS_L1 t0 t1 0 := (lim_eq tab 61 (t0, (t1, ()))).trans (by kernel_rfl)
theorem l_heldIntS_L1_eq (t0 : (List Int)) (t1 : Int) (t5 : Int) : l_heldIntS_L1 t0 t1 t5 =
  if (decide (t5 < (List.length t0 : Int))) = true then
    if (0 : Int) ≤ t5 ∧ t5 < (List.length t0 : Int) then
      if (!(decide ((List.getD t0 t5.toNat 0) = t1))) = true then
        some ((-1), ())
      else
        l_heldIntS_L1 t0 (w64 (t1 + 1)) (w64 (t5 + 1))
    else none
  else
    some (t1, ()) := (lim_eq tab 62 (t0, (t1, (t5, ())))).trans (by kernel_rfl)
theorem l_heldMach_eq (t0 : impl_Mach) (t1 : Int) : l_heldMach t0 t1 =
  (l_heldState t0.State t1).bind fun (r0 : Int × Unit) =>
  if (decide (r0.1 < 0)) = true then
    some ((-1), ())
  else
    (l_heldIntS t0.Done r0.1).bind fun (r1 : Int × Unit) =>
    if (decide (r1.1 < 0)) = true then
      some ((-1), ())
    else
      some (r1.1, ()) := (lim_eq tab 63 (t0, (t1, ()))).trans (by kernel_rfl)
theorem l_heldDisk_eq (t0 : impl_Disk) (t1 : Int) : l_heldDisk t0 t1 =
  (l_heldByteS t0.Bytes t1).bind fun (r0 : Int × Unit) =>
  if (decide (r0.1 < 0)) = true then
    some ((-1), ())
  else
    some (r0.1, ()) := (lim_eq tab 64 (t0, (t1, ()))).trans (by kernel_rfl)
theorem l_heldRpcS_eq (t0 : (List impl_Rpc)) (t1 : Int) : l_heldRpcS t0 t1 =
  l_heldRpcS_L1 t0 t1 0 := (lim_eq tab 65 (t0, (t1, ()))).trans (by kernel_rfl)
theorem l_heldRpcS_L1_eq (t0 : (List impl_Rpc)) (t1 : Int) (t5 : Int) : l_heldRpcS_L1 t0 t1 t5 =
  if (decide (t5 < (List.length t0 : Int))) = true then
    if (0 : Int) ≤ t5 ∧ t5 < (List.length t0 : Int) then
      if (!(decide (((List.getD t0 t5.toNat z_impl_Rpc).Kind) = t1))) = true then
        some ((-1), ())
      else
        if (0 : Int) ≤ t5 ∧ t5 < (List.length t0 : Int) then
          if (!(decide (((List.getD t0 t5.toNat z_impl_Rpc).From) = (w64 (t1 + 1))))) = true then
            some ((-1), ())
          else
            if (0 : Int) ≤ t5 ∧ t5 < (List.length t0 : Int) then
              if (!(decide (((List.getD t0 t5.toNat z_impl_Rpc).To) = (w64 ((w64 (t1 + 1)) + 1))))) = true then
                some ((-1), ())
              else
                if (0 : Int) ≤ t5 ∧ t5 < (List.length t0 : Int) then
                  if (!(decide (((List.getD t0 t5.toNat z_impl_Rpc).Term) = (w64 ((w64 ((w64 (t1 + 1)) + 1)) + 1))))) = true then
                    some ((-1), ())
                  else
                    if (0 : Int) ≤ t5 ∧ t5 < (List.length t0 : Int) then
                      if (!(decide (((List.getD t0 t5.toNat z_impl_Rpc).Index) = (w64 ((w64 ((w64 ((w64 (t1 + 1)) + 1)) + 1)) + 1))))) = true then
                        some ((-1), ())
                      else
                        if (0 : Int) ≤ t5 ∧ t5 < (List.length t0 : Int) then
                          if (!(decide (((List.getD t0 t5.toNat z_impl_Rpc).IndexTerm) = (w64 ((w64 ((w64 ((w64 ((w64 (t1 + 1)) + 1)) + 1)) + 1)) + 1))))) = true then
                            some ((-1), ())
                          else
                            if (0 : Int) ≤ t5 ∧ t5 < (List.length t0 : Int) then
                              if (!(decide (((List.getD t0 t5.toNat z_impl_Rpc).Commit) = (w64 ((w64 ((w64 ((w64 ((w64 ((w64 (t1 + 1)) + 1)) + 1)) + 1)) + 1)) + 1))))) = true then
                                some ((-1), ())
                              else
                                if (0 : Int) ≤ t5 ∧ t5 < (List.length t0 : Int) then
                                  (l_heldEntryS ((List.getD t0 t5.toNat z_impl_Rpc).List) (w64 ((w64 ((w64 ((w64 ((w64 ((w64 ((w64 (t1 + 1)) + 1)) + 1)) + 1)) + 1)) + 1)) + 1))).bind fun (r0 : Int × Unit) =>
                                  if (decide (r0.1 < 0)) = true then
                                    some ((-1), ())
                                  else
                                    if (0 : Int) ≤ t5 ∧ t5 < (List.length t0 : Int) then
                                      if (!(decide (((List.getD t0 t5.toNat z_impl_Rpc).Ok) = (decide ((Int.tmod r0.1 3) = 0))))) = true then
                                        some ((-1), ())
                                      else
                                        if (0 : Int) ≤ t5 ∧ t5 < (List.length t0 : Int) then
                                          (l_markText (w64 (r0.1 + 1))).bind fun (r1 : (List Int) × Unit) =>
                                          if (!(decide (((List.getD t0 t5.toNat z_impl_Rpc).Snap) = r1.1))) = true then
                                            some ((-1), ())
                                          else
                                            l_heldRpcS_L1 t0 (w64 ((w64 (r0.1 + 1)) + 1)) (w64 (t5 + 1))
                                        else none
                                    else none
                                else none
                            else none
                        else none
                    else none
                else none
            else none
        else none
    else none
  else
    some (t1, ()) := (lim_eq tab 66 (t0, (t1, (t5, ())))).trans (by kernel_rfl)
theorem l_szLog_eq (t0 : laws_Log) (t1 : Int) : l_szLog t0 t1 =
  (l_szEntryS t0.List t1).bind fun (r0 : Int × Unit) =>
  if (decide (r0.1 < 0)) = true then
    some ((-1), ())
  else
    some (r0.1, ()) := (lim_eq tab 67 (t0, (t1, ()))).trans (by kernel_rfl)
theorem l_szState_eq (t0 : laws_State) (t1 : Int) : l_szState t0 t1 =
  (l_szValS t0.Vars t1).bind fun (r0 : Int × Unit) =>
  if (decide (r0.1 < 0)) = true then
    some ((-1), ())
  else
    (l_szCellS t0.Cells r0.1).bind fun (r1 : Int × Unit) =>
    if (decide (r1.1 < 0)) = true then
      some ((-1), ())
    else
      some (r1.1, ()) := (lim_eq tab 68 (t0, (t1, ()))).trans (by kernel_rfl)
theorem l_szByteS_eq (t0 : (List Int)) (t1 : Int) : l_szByteS t0 t1 =
  if (decide ((w64 (t1 - (List.length t0 : Int))) < 0)) = true then
    some ((-1), ())
  else
    some ((w64 (t1 - (List.length t0 : Int))), ()) := (lim_eq tab 69 (t0, (t1, ()))).trans (by kernel_rfl)
theorem l_szEntry_eq (t0 : laws_Entry) (t1 : Int) : l_szEntry t0 t1 =
  (l_szCmd t0.C t1).bind fun (r0 : Int × Unit) =>
  if (decide (r0.1 < 0)) = true then
    some ((-1), ())
  else
    some (r0.1, ()) := (lim_eq tab 70 (t0, (t1, ()))).trans (by kernel_rfl)
theorem l_toLog_eq (t0 : laws_Log) : l_toLog t0 =
  (l_toEntryS t0.List).bind fun (r0 : (List impl_Entry) × Unit) =>
  some ((impl_Log.mk t0.Base t0.BaseTerm r0.1), ()) := (lim_eq tab 71 (t0, ())).trans (by kernel_rfl)
theorem l_toState_eq (t0 : laws_State) : l_toState t0 =
  (l_toValS t0.Vars).bind fun (r0 : (List impl_Val) × Unit) =>
  (l_toCellS t0.Cells).bind fun (r1 : (List impl_Cell) × Unit) =>
  some ((impl_State.mk r0.1 r1.1 t0.Nr t0.Err), ()) := (lim_eq tab 72 (t0, ())).trans (by kernel_rfl)
theorem l_toByteS_eq (t0 : (List Int)) : l_toByteS t0 =
  if (0 : Int) ≤ (List.length t0 : Int) ∧ (List.length t0 : Int) ≤ (List.length t0 : Int) ∧ (List.length t0 : Int) ≤ (room : Int) then
    l_toByteS_L1 t0 (List.replicate (List.length t0 : Int).toNat 0) 0
  else none := (lim_eq tab 73 (t0, ())).trans (by kernel_rfl)
theorem l_toByteS_L1_eq (t0 : (List Int)) (t3 : (List Int)) (t4 : Int) : l_toByteS_L1 t0 t3 t4 =
  if (decide (t4 < (List.length t0 : Int))) = true then
    if (0 : Int) ≤ t4 ∧ t4 < (List.length t0 : Int) then
      if (0 : Int) ≤ t4 ∧ t4 < (List.length t3 : Int) then
        l_toByteS_L1 t0 (List.set t3 t4.toNat (List.getD t0 t4.toNat 0)) (w64 (t4 + 1))
      else none
    else none
  else
    some (t3, ()) := (lim_eq tab 74 (t0, (t3, (t4, ())))).trans (by kernel_rfl)
theorem l_toEntry_eq (t0 : laws_Entry) : l_toEntry t0 =
  (l_toCmd t0.C).bind fun (r0 : impl_Cmd × Unit) =>
  some ((impl_Entry.mk t0.Term r0.1), ()) := (lim_eq tab 75 (t0, ())).trans (by kernel_rfl)
theorem s_l21Copy_eq (t0 : impl_Hard) : s_l21Copy t0 =
  (s_l18Copy t0.Log).bind fun (r0 : impl_Log × Unit) =>
  (s_l16Copy t0.Snap).bind fun (r1 : impl_Mach × Unit) =>
  some ((impl_Hard.mk t0.Term t0.Vote r0.1 r1.1), ()) := (lim_eq tab 76 (t0, ())).trans (by kernel_rfl)
theorem s_l16Copy_eq (t0 : impl_Mach) : s_l16Copy t0 =
  (s_l11Copy t0.State).bind fun (r0 : impl_State × Unit) =>
  if 0 + List.length t0.Done ≤ room then
    some ((impl_Mach.mk r0.1 (List.append [] t0.Done) t0.Out), ())
  else none := (lim_eq tab 77 (t0, ())).trans (by kernel_rfl)
theorem s_l20Copy_eq (t0 : impl_Disk) : s_l20Copy t0 =
  if 0 + List.length t0.Bytes ≤ room then
    some ((impl_Disk.mk (List.append [] t0.Bytes) t0.Sure), ())
  else none := (lim_eq tab 78 (t0, ())).trans (by kernel_rfl)
theorem s_l22Rpcs_eq (t0 : (List impl_Rpc)) : s_l22Rpcs t0 =
  s_l22Rpcs_L1 t0 [] 0 := (lim_eq tab 79 (t0, ())).trans (by kernel_rfl)
theorem s_l22Rpcs_L1_eq (t0 : (List impl_Rpc)) (t3 : (List impl_Rpc)) (t4 : Int) : s_l22Rpcs_L1 t0 t3 t4 =
  if (decide (t4 < (List.length t0 : Int))) = true then
    if (0 : Int) ≤ t4 ∧ t4 < (List.length t0 : Int) then
      (s_l22Rpc (List.getD t0 t4.toNat z_impl_Rpc)).bind fun (r0 : impl_Rpc × Unit) =>
      if List.length t3 + 1 ≤ room then
        s_l22Rpcs_L1 t0 (List.append t3 [r0.1]) (w64 (t4 + 1))
      else none
    else none
  else
    some (t3, ()) := (lim_eq tab 80 (t0, (t3, (t4, ())))).trans (by kernel_rfl)
theorem i_cloneHard_eq (t0 : impl_Hard) : i_cloneHard t0 =
  (i_cloneLog t0.Log).bind fun (r0 : impl_Log × Unit) =>
  (i_cloneMach t0.Snap).bind fun (r1 : impl_Mach × Unit) =>
  some ((impl_Hard.mk t0.Term t0.Vote r0.1 r1.1), ()) := (lim_eq tab 81 (t0, ())).trans (by kernel_rfl)
theorem i_cloneMach_eq (t0 : impl_Mach) : i_cloneMach t0 =
  (i_cloneState t0.State).bind fun (r0 : impl_State × Unit) =>
  (x_slices_Clone_int t0.Done).bind fun (r1 : (List Int) × Unit) =>
  some ((impl_Mach.mk r0.1 r1.1 t0.Out), ()) := (lim_eq tab 82 (t0, ())).trans (by kernel_rfl)
theorem i_cloneDisk_eq (t0 : impl_Disk) : i_cloneDisk t0 =
  (x_slices_Clone_byte t0.Bytes).bind fun (r0 : (List Int) × Unit) =>
  some ((impl_Disk.mk r0.1 t0.Sure), ()) := (lim_eq tab 83 (t0, ())).trans (by kernel_rfl)
theorem i_cloneRpcs_eq (t0 : (List impl_Rpc)) : i_cloneRpcs t0 =
  i_cloneRpcs_L1 [] t0 (List.length t0 : Int) 0 := (lim_eq tab 84 (t0, ())).trans (by kernel_rfl)
theorem i_cloneRpcs_L1_eq (t3 : (List impl_Rpc)) (t6 : (List impl_Rpc)) (t7 : Int) (t8 : Int) : i_cloneRpcs_L1 t3 t6 t7 t8 =
  if (decide (t8 < t7)) = true then
    if (0 : Int) ≤ t8 ∧ t8 < (List.length t6 : Int) then
      (i_cloneRpc (List.getD t6 t8.toNat z_impl_Rpc)).bind fun (r0 : impl_Rpc × Unit) =>
      if List.length t3 + 1 ≤ room then
        i_cloneRpcs_L1 (List.append t3 [r0.1]) t6 t7 (w64 (t8 + 1))
      else none
    else none
  else
    some (t3, ()) := (lim_eq tab 85 (t3, (t6, (t7, (t8, ()))))).trans (by kernel_rfl)
theorem x_slices_Clone_bool_eq (t0 : (List Bool)) : x_slices_Clone_bool t0 =
  if (Nat.beq (List.length t0) 0) = true then
    amb (
      some ([], ()))
    (
      if 0 + List.length t0 ≤ room then
        some ((List.append [] t0), ())
      else none)
  else
    if 0 + List.length t0 ≤ room then
      some ((List.append [] t0), ())
    else none := (lim_eq tab 86 (t0, ())).trans (by kernel_rfl)
theorem x_slices_Clone_int_eq (t0 : (List Int)) : x_slices_Clone_int t0 =
  if (Nat.beq (List.length t0) 0) = true then
    amb (
      some ([], ()))
    (
      if 0 + List.length t0 ≤ room then
        some ((List.append [] t0), ())
      else none)
  else
    if 0 + List.length t0 ≤ room then
      some ((List.append [] t0), ())
    else none := (lim_eq tab 87 (t0, ())).trans (by kernel_rfl)
theorem x_slices_Clone_impl_Entry_eq (t0 : (List impl_Entry)) : x_slices_Clone_impl_Entry t0 =
  if (Nat.beq (List.length t0) 0) = true then
    amb (
      some ([], ()))
    (
      if 0 + List.length t0 ≤ room then
        some ((List.append [] t0), ())
      else none)
  else
    if 0 + List.length t0 ≤ room then
      some ((List.append [] t0), ())
    else none := (lim_eq tab 88 (t0, ())).trans (by kernel_rfl)
theorem l_eqLog_eq (t0 : impl_Log) (t1 : impl_Log) : l_eqLog t0 t1 =
  if (!(decide (t0.Base = t1.Base))) = true then
    some (false, ())
  else
    if (!(decide (t0.BaseTerm = t1.BaseTerm))) = true then
      some (false, ())
    else
      (l_eqEntryS t0.List t1.List).bind fun (r0 : Bool × Unit) =>
      if (!r0.1) = true then
        some (false, ())
      else
        some (true, ()) := (lim_eq tab 89 (t0, (t1, ()))).trans (by kernel_rfl)
theorem l_eqState_eq (t0 : impl_State) (t1 : impl_State) : l_eqState t0 t1 =
  (l_eqValS t0.Vars t1.Vars).bind fun (r0 : Bool × Unit) =>
  if (!r0.1) = true then
    some (false, ())
  else
    (l_eqCellS t0.Cells t1.Cells).bind fun (r1 : Bool × Unit) =>
    if (!r1.1) = true then
      some (false, ())
    else
      if (!(decide (t0.Nr = t1.Nr))) = true then
        some (false, ())
      else
        if (!(decide (t0.Err = t1.Err))) = true then
          some (false, ())
        else
          some (true, ()) := (lim_eq tab 90 (t0, (t1, ()))).trans (by kernel_rfl)
theorem l_eqByteS_eq (t0 : (List Int)) (t1 : (List Int)) : l_eqByteS t0 t1 =
  if (!(decide ((List.length t0 : Int) = (List.length t1 : Int)))) = true then
    some (false, ())
  else
    l_eqByteS_L1 t0 t1 0 := (lim_eq tab 91 (t0, (t1, ()))).trans (by kernel_rfl)
theorem l_eqByteS_L1_eq (t0 : (List Int)) (t1 : (List Int)) (t5 : Int) : l_eqByteS_L1 t0 t1 t5 =
  if (decide (t5 < (List.length t0 : Int))) = true then
    if (0 : Int) ≤ t5 ∧ t5 < (List.length t0 : Int) then
      if (0 : Int) ≤ t5 ∧ t5 < (List.length t1 : Int) then
        if (!(decide ((List.getD t0 t5.toNat 0) = (List.getD t1 t5.toNat 0)))) = true then
          some (false, ())
        else
          l_eqByteS_L1 t0 t1 (w64 (t5 + 1))
      else none
    else none
  else
    some (true, ()) := (lim_eq tab 92 (t0, (t1, (t5, ())))).trans (by kernel_rfl)
theorem l_eqEntry_eq (t0 : impl_Entry) (t1 : impl_Entry) : l_eqEntry t0 t1 =
  if (!(decide (t0.Term = t1.Term))) = true then
    some (false, ())
  else
    (l_eqCmd t0.C t1.C).bind fun (r0 : Bool × Unit) =>
    if (!r0.1) = true then
      some (false, ())
    else
      some (true, ()) := (lim_eq tab 93 (t0, (t1, ()))).trans (by kernel_rfl)
theorem l_markLog_eq (t0 : impl_Log) (t1 : Int) : l_markLog t0 t1 =
  (l_markEntryS t0.List t1).bind fun (r0 : Int × (List impl_Entry) × Unit) =>
  some (r0.1, (impl_Log.mk t0.Base t0.BaseTerm r0.2.1), ()) := (lim_eq tab 94 (t0, (t1, ()))).trans (by kernel_rfl)
theorem l_markState_eq (t0 : impl_State) (t1 : Int) : l_markState t0 t1 =
  (l_markValS t0.Vars t1).bind fun (r0 : Int × (List impl_Val) × Unit) =>
  (l_markCellS t0.Cells r0.1).bind fun (r1 : Int × (List impl_Cell) × Unit) =>
  some (r1.1, (impl_State.mk r0.2.1 r1.2.1 t0.Nr t0.Err), ()) := (lim_eq tab 95 (t0, (t1, ()))).trans (by kernel_rfl)
theorem l_markByteS_eq (t0 : (List Int)) (t1 : Int) : l_markByteS t0 t1 =
  l_markByteS_L1 t0 t1 0 := (lim_eq tab 96 (t0, (t1, ()))).trans (by kernel_rfl)
theorem l_markByteS_L1_eq (t0 : (List Int)) (t1 : Int) (t5 : Int) : l_markByteS_L1 t0 t1 t5 =
  if (decide (t5 < (List.length t0 : Int))) = true then
    if (0 : Int) ≤ t5 ∧ t5 < (List.length t0 : Int) then
      l_markByteS_L1 (List.set t0 t5.toNat (w8 t1)) (w64 (t1 + 1)) (w64 (t5 + 1))
    else none
  else
    some (t1, t0, ()) := (lim_eq tab 97 (t0, (t1, (t5, ())))).trans (by kernel_rfl)
theorem l_markText_eq (t0 : Int) : l_markText t0 =
  if (decide (t0 ≤ 0)) = true then
    some ([109, 48], ())
  else
    l_markText_L1 t0 [] := (lim_eq tab 98 (t0, ())).trans (by kernel_rfl)
theorem l_markText_L1_eq (t0 : Int) (t3 : (List Int)) : l_markText_L1 t0 t3 =
  if (decide (t0 > 0)) = true then
    if List.length [(w8 (w64 (48 + (Int.tmod t0 10))))] + List.length t3 ≤ 9223372036854775807 then
      l_markText_L1 (w64 (Int.tdiv t0 10)) ([(w8 (w64 (48 + (Int.tmod t0 10))))] ++ t3)
    else none
  else
    if List.length [109] + List.length t3 ≤ 9223372036854775807 then
      some (([109] ++ t3), ())
    else none := (lim_eq tab 99 (t0, (t3, ()))).trans (by kernel_rfl)
theorem l_heldLog_eq (t0 : impl_Log) (t1 : Int) : l_heldLog t0 t1 =
  (l_heldEntryS t0.List t1).bind fun (r0 : Int × Unit) =>
  if (decide (r0.1 < 0)) = true then
    some ((-1), ())
  else
    some (r0.1, ()) := (lim_eq tab 100 (t0, (t1, ()))).trans (by kernel_rfl)
theorem l_heldState_eq (t0 : impl_State) (t1 : Int) : l_heldState t0 t1 =
  (l_heldValS t0.Vars t1).bind fun (r0 : Int × Unit) =>
  if (decide (r0.1 < 0)) = true then
    some ((-1), ())
  else
    (l_heldCellS t0.Cells r0.1).bind fun (r1 : Int × Unit) =>
    if (decide (r1.1 < 0)) = true then
      some ((-1), ())
    else
      some (r1.1, ()) := (lim_eq tab 101 (t0, (t1, ()))).trans (by kernel_rfl)
theorem l_heldByteS_eq (t0 : (List Int)) (t1 : Int) : l_heldByteS t0 t1 =
  l_heldByteS_L1 t0 t1 0 := (lim_eq tab 102 (t0, (t1, ()))).trans (by kernel_rfl)
theorem l_heldByteS_L1_eq (t0 : (List Int)) (t1 : Int) (t5 : Int) : l_heldByteS_L1 t0 t1 t5 =
  if (decide (t5 < (List.length t0 : Int))) = true then
    if (0 : Int) ≤ t5 ∧ t5 < (List.length t0 : Int) then
      if (!(decide ((List.getD t0 t5.toNat 0) = (w8 t1)))) = true then
        some ((-1), ())
      else
        l_heldByteS_L1 t0 (w64 (t1 + 1)) (w64 (t5 + 1))
    else none
  else
    some (t1, ()) := (lim_eq tab 103 (t0, (t1, (t5, ())))).trans (by kernel_rfl)
theorem l_heldEntryS_eq (t0 : (List impl_Entry)) (t1 : Int) : l_heldEntryS t0 t1 =
  l_heldEntryS_L1 t0 t1 0 := (lim_eq tab 104 (t0, (t1, ()))).trans (by kernel_rfl)
theorem l_heldEntryS_L1_eq (t0 : (List impl_Entry)) (t1 : Int) (t5 : Int) : l_heldEntryS_L1 t0 t1 t5 =
  if (decide (t5 < (List.length t0 : Int))) = true then
    if (0 : Int) ≤ t5 ∧ t5 < (List.length t0 : Int) then
      if (!(decide (((List.getD t0 t5.toNat z_impl_Entry).Term) = t1))) = true then
        some ((-1), ())
      else
        if (0 : Int) ≤ t5 ∧ t5 < (List.length t0 : Int) then
          if (!(decide ((((List.getD t0 t5.toNat z_impl_Entry).C).Who) = (w64 (t1 + 1))))) = true then
            some ((-1), ())
          else
            if (0 : Int) ≤ t5 ∧ t5 < (List.length t0 : Int) then
              if (!(decide ((((List.getD t0 t5.toNat z_impl_Entry).C).Seq) = (w64 ((w64 (t1 + 1)) + 1))))) = true then
                some ((-1), ())
              else
                if (0 : Int) ≤ t5 ∧ t5 < (List.length t0 : Int) then
                  (l_markText (w64 ((w64 ((w64 (t1 + 1)) + 1)) + 1))).bind fun (r0 : (List Int) × Unit) =>
                  if (!(decide ((((List.getD t0 t5.toNat z_impl_Entry).C).Line) = r0.1))) = true then
                    some ((-1), ())
                  else
                    l_heldEntryS_L1 t0 (w64 ((w64 ((w64 ((w64 (t1 + 1)) + 1)) + 1)) + 1)) (w64 (t5 + 1))
                else none
            else none
        else none
    else none
  else
    some (t1, ()) := (lim_eq tab 105 (t0, (t1, (t5, ())))).trans (by kernel_rfl)
theorem l_szValS_eq (t0 : (List laws_Val)) (t1 : Int) : l_szValS t0 t1 =
  if (decide ((w64 (t1 - (List.length t0 : Int))) < 0)) = true then
    some ((-1), ())
  else
    l_szValS_L1 t0 (w64 (t1 - (List.length t0 : Int))) 0 := (lim_eq tab 106 (t0, (t1, ()))).trans (by kernel_rfl)
theorem l_szValS_L1_eq (t0 : (List laws_Val)) (t1 : Int) (t5 : Int) : l_szValS_L1 t0 t1 t5 =
  if (decide (t5 < (List.length t0 : Int))) = true then
    if (0 : Int) ≤ t5 ∧ t5 < (List.length t0 : Int) then
      (l_szVal (List.getD t0 t5.toNat z_laws_Val) t1).bind fun (r0 : Int × Unit) =>
      if (decide (r0.1 < 0)) = true then
        some ((-1), ())
      else
        l_szValS_L1 t0 r0.1 (w64 (t5 + 1))
    else none
  else
    some (t1, ()) := (lim_eq tab 107 (t0, (t1, (t5, ())))).trans (by kernel_rfl)
theorem l_szCellS_eq (t0 : (List laws_Cell)) (t1 : Int) : l_szCellS t0 t1 =
  if (decide ((w64 (t1 - (List.length t0 : Int))) < 0)) = true then
    some ((-1), ())
  else
    l_szCellS_L1 t0 (w64 (t1 - (List.length t0 : Int))) 0 := (lim_eq tab 108 (t0, (t1, ()))).trans (by kernel_rfl)
theorem l_szCellS_L1_eq (t0 : (List laws_Cell)) (t1 : Int) (t5 : Int) : l_szCellS_L1 t0 t1 t5 =
  if (decide (t5 < (List.length t0 : Int))) = true then
    if (0 : Int) ≤ t5 ∧ t5 < (List.length t0 : Int) then
      (l_szCell (List.getD t0 t5.toNat z_laws_Cell) t1).bind fun (r0 : Int × Unit) =>
      if (decide (r0.1 < 0)) = true then
        some ((-1), ())
      else
        l_szCellS_L1 t0 r0.1 (w64 (t5 + 1))
    else none
  else
    some (t1, ()) := (lim_eq tab 109 (t0, (t1, (t5, ())))).trans (by kernel_rfl)
theorem l_szCmd_eq (t0 : laws_Cmd) (t1 : Int) : l_szCmd t0 t1 =
  if (decide ((w64 (t1 - (List.length t0.Line : Int))) < 0)) = true then
    some ((-1), ())
  else
    some ((w64 (t1 - (List.length t0.Line : Int))), ()) := (lim_eq tab 110 (t0, (t1, ()))).trans (by kernel_rfl)
theorem l_toValS_eq (t0 : (List laws_Val)) : l_toValS t0 =
  if (0 : Int) ≤ (List.length t0 : Int) ∧ (List.length t0 : Int) ≤ (List.length t0 : Int) ∧ (List.length t0 : Int) ≤ (room : Int) then
    l_toValS_L1 t0 (List.replicate (List.length t0 : Int).toNat z_impl_Val) 0
  else none := (lim_eq tab 111 (t0, ())).trans (by kernel_rfl)
theorem l_toValS_L1_eq (t0 : (List laws_Val)) (t3 : (List impl_Val)) (t4 : Int) : l_toValS_L1 t0 t3 t4 =
  if (decide (t4 < (List.length t0 : Int))) = true then
    if (0 : Int) ≤ t4 ∧ t4 < (List.length t0 : Int) then
      (l_toVal (List.getD t0 t4.toNat z_laws_Val)).bind fun (r0 : impl_Val × Unit) =>
      if (0 : Int) ≤ t4 ∧ t4 < (List.length t3 : Int) then
        l_toValS_L1 t0 (List.set t3 t4.toNat r0.1) (w64 (t4 + 1))
      else none
    else none
  else
    some (t3, ()) := (lim_eq tab 112 (t0, (t3, (t4, ())))).trans (by kernel_rfl)
theorem l_toCellS_eq (t0 : (List laws_Cell)) : l_toCellS t0 =
  if (0 : Int) ≤ (List.length t0 : Int) ∧ (List.length t0 : Int) ≤ (List.length t0 : Int) ∧ (List.length t0 : Int) ≤ (room : Int) then
    l_toCellS_L1 t0 (List.replicate (List.length t0 : Int).toNat z_impl_Cell) 0
  else none := (lim_eq tab 113 (t0, ())).trans (by kernel_rfl)
theorem l_toCellS_L1_eq (t0 : (List laws_Cell)) (t3 : (List impl_Cell)) (t4 : Int) : l_toCellS_L1 t0 t3 t4 =
  if (decide (t4 < (List.length t0 : Int))) = true then
    if (0 : Int) ≤ t4 ∧ t4 < (List.length t0 : Int) then
      (l_toCell (List.getD t0 t4.toNat z_laws_Cell)).bind fun (r0 : impl_Cell × Unit) =>
      if (0 : Int) ≤ t4 ∧ t4 < (List.length t3 : Int) then
        l_toCellS_L1 t0 (List.set t3 t4.toNat r0.1) (w64 (t4 + 1))
      else none
    else none
  else
    some (t3, ()) := (lim_eq tab 114 (t0, (t3, (t4, ())))).trans (by kernel_rfl)
theorem l_toCmd_eq (t0 : laws_Cmd) : l_toCmd t0 =
  some ((impl_Cmd.mk t0.Who t0.Seq t0.Line), ()) := (lim_eq tab 115 (t0, ())).trans (by kernel_rfl)
theorem s_l18Copy_eq (t0 : impl_Log) : s_l18Copy t0 =
  if 0 + List.length t0.List ≤ room then
    some ((impl_Log.mk t0.Base t0.BaseTerm (List.append [] t0.List)), ())
  else none := (lim_eq tab 116 (t0, ())).trans (by kernel_rfl)
theorem s_l11Copy_eq (t0 : impl_State) : s_l11Copy t0 =
  if 0 + List.length t0.Vars ≤ room then
    if 0 + List.length t0.Cells ≤ room then
      some ((impl_State.mk (List.append [] t0.Vars) (List.append [] t0.Cells) t0.Nr t0.Err), ())
    else none
  else none := (lim_eq tab 117 (t0, ())).trans (by kernel_rfl)
theorem i_cloneLog_eq (t0 : impl_Log) : i_cloneLog t0 =
  (x_slices_Clone_impl_Entry t0.List).bind fun (r0 : (List impl_Entry) × Unit) =>
  some ((impl_Log.mk t0.Base t0.BaseTerm r0.1), ()) := (lim_eq tab 118 (t0, ())).trans (by kernel_rfl)
theorem i_cloneState_eq (t0 : impl_State) : i_cloneState t0 =
  (x_slices_Clone_impl_Val t0.Vars).bind fun (r0 : (List impl_Val) × Unit) =>
  (x_slices_Clone_impl_Cell t0.Cells).bind fun (r1 : (List impl_Cell) × Unit) =>
  some ((impl_State.mk r0.1 r1.1 t0.Nr t0.Err), ()) := (lim_eq tab 119 (t0, ())).trans (by kernel_rfl)
theorem x_slices_Clone_byte_eq (t0 : (List Int)) : x_slices_Clone_byte t0 =
  if (Nat.beq (List.length t0) 0) = true then
    amb (
      some ([], ()))
    (
      if 0 + List.length t0 ≤ room then
        some ((List.append [] t0), ())
      else none)
  else
    if 0 + List.length t0 ≤ room then
      some ((List.append [] t0), ())
    else none := (lim_eq tab 120 (t0, ())).trans (by kernel_rfl)
theorem l_eqValS_eq (t0 : (List impl_Val)) (t1 : (List impl_Val)) : l_eqValS t0 t1 =
  if (!(decide ((List.length t0 : Int) = (List.length t1 : Int)))) = true then
    some (false, ())
  else
    l_eqValS_L1 t0 t1 0 := (lim_eq tab 121 (t0, (t1, ()))).trans (by kernel_rfl)
theorem l_eqValS_L1_eq (t0 : (List impl_Val)) (t1 : (List impl_Val)) (t5 : Int) : l_eqValS_L1 t0 t1 t5 =
  if (decide (t5 < (List.length t0 : Int))) = true then
    if (0 : Int) ≤ t5 ∧ t5 < (List.length t0 : Int) then
      if (0 : Int) ≤ t5 ∧ t5 < (List.length t1 : Int) then
        (l_eqVal (List.getD t0 t5.toNat z_impl_Val) (List.getD t1 t5.toNat z_impl_Val)).bind fun (r0 : Bool × Unit) =>
        if (!r0.1) = true then
          some (false, ())
        else
          l_eqValS_L1 t0 t1 (w64 (t5 + 1))
      else none
    else none
  else
    some (true, ()) := (lim_eq tab 122 (t0, (t1, (t5, ())))).trans (by kernel_rfl)
theorem l_eqCellS_eq (t0 : (List impl_Cell)) (t1 : (List impl_Cell)) : l_eqCellS t0 t1 =
  if (!(decide ((List.length t0 : Int) = (List.length t1 : Int)))) = true then
    some (false, ())
  else
    l_eqCellS_L1 t0 t1 0 := (lim_eq tab 123 (t0, (t1, ()))).trans (by kernel_rfl)
theorem l_eqCellS_L1_eq (t0 : (List impl_Cell)) (t1 : (List impl_Cell)) (t5 : Int) : l_eqCellS_L1 t0 t1 t5 =
  if (decide (t5 < (List.length t0 : Int))) = true then
    if (0 : Int) ≤ t5 ∧ t5 < (List.length t0 : Int) then
      if (0 : Int) ≤ t5 ∧ t5 < (List.length t1 : Int) then
        (l_eqCell (List.getD t0 t5.toNat z_impl_Cell) (List.getD t1 t5.toNat z_impl_Cell)).bind fun (r0 : Bool × Unit) =>
        if (!r0.1) = true then
          some (false, ())
        else
          l_eqCellS_L1 t0 t1 (w64 (t5 + 1))
      else none
    else none
  else
    some (true, ()) := (lim_eq tab 124 (t0, (t1, (t5, ())))).trans (by kernel_rfl)
theorem l_eqCmd_eq (t0 : impl_Cmd) (t1 : impl_Cmd) : l_eqCmd t0 t1 =
  if (!(decide (t0.Who = t1.Who))) = true then
    some (false, ())
  else
    if (!(decide (t0.Seq = t1.Seq))) = true then
      some (false, ())
    else
      if (!(decide (t0.Line = t1.Line))) = true then
        some (false, ())
      else
        some (true, ()) := (lim_eq tab 125 (t0, (t1, ()))).trans (by kernel_rfl)
theorem l_markValS_eq (t0 : (List impl_Val)) (t1 : Int) : l_markValS t0 t1 =
  l_markValS_L1 t0 t1 0 := (lim_eq tab 126 (t0, (t1, ()))).trans (by kernel_rfl)
theorem l_markValS_L1_eq (t0 : (List impl_Val)) (t1 : Int) (t5 : Int) : l_markValS_L1 t0 t1 t5 =
  if (decide (t5 < (List.length t0 : Int))) = true then
    if (0 : Int) ≤ t5 ∧ t5 < (List.length t0 : Int) then
      let v0 : (List impl_Val) := (List.set t0 t5.toNat (impl_Val.mk t1 ((List.getD t0 t5.toNat z_impl_Val).N) ((List.getD t0 t5.toNat z_impl_Val).S)))
      if (0 : Int) ≤ t5 ∧ t5 < (List.length v0 : Int) then
        let v1 : (List impl_Val) := (List.set v0 t5.toNat (impl_Val.mk ((List.getD v0 t5.toNat z_impl_Val).Kind) (w64 (t1 + 1)) ((List.getD v0 t5.toNat z_impl_Val).S)))
        (l_markText (w64 ((w64 (t1 + 1)) + 1))).bind fun (r0 : (List Int) × Unit) =>
        if (0 : Int) ≤ t5 ∧ t5 < (List.length v1 : Int) then
          let v2 : (List impl_Val) := (List.set v1 t5.toNat (impl_Val.mk ((List.getD v1 t5.toNat z_impl_Val).Kind) ((List.getD v1 t5.toNat z_impl_Val).N) r0.1))
          l_markValS_L1 v2 (w64 ((w64 ((w64 (t1 + 1)) + 1)) + 1)) (w64 (t5 + 1))
        else none
      else none
    else none
  else
    some (t1, t0, ()) := (lim_eq tab 127 (t0, (t1, (t5, ())))).trans (by kernel_rfl)
theorem l_markCellS_eq (t0 : (List impl_Cell)) (t1 : Int) : l_markCellS t0 t1 =
  l_markCellS_L1 t0 t1 0 := (lim_eq tab 128 (t0, (t1, ()))).trans (by kernel_rfl)
theorem l_markCellS_L1_eq (t0 : (List impl_Cell)) (t1 : Int) (t5 : Int) : l_markCellS_L1 t0 t1 t5 =
  if (decide (t5 < (List.length t0 : Int))) = true then
    if (0 : Int) ≤ t5 ∧ t5 < (List.length t0 : Int) then
      let v0 : (List impl_Cell) := (List.set t0 t5.toNat (impl_Cell.mk t1 ((List.getD t0 t5.toNat z_impl_Cell).Key) ((List.getD t0 t5.toNat z_impl_Cell).Val)))
      (l_markText (w64 (t1 + 1))).bind fun (r0 : (List Int) × Unit) =>
      if (0 : Int) ≤ t5 ∧ t5 < (List.length v0 : Int) then
        let v1 : (List impl_Cell) := (List.set v0 t5.toNat (impl_Cell.mk ((List.getD v0 t5.toNat z_impl_Cell).Name) r0.1 ((List.getD v0 t5.toNat z_impl_Cell).Val)))
        if (0 : Int) ≤ t5 ∧ t5 < (List.length v1 : Int) then
          let v2 : (List impl_Cell) := (List.set v1 t5.toNat (impl_Cell.mk ((List.getD v1 t5.toNat z_impl_Cell).Name) ((List.getD v1 t5.toNat z_impl_Cell).Key) (impl_Val.mk (w64 ((w64 (t1 + 1)) + 1)) (((List.getD v1 t5.toNat z_impl_Cell).Val).N) (((List.getD v1 t5.toNat z_impl_Cell).Val).S))))
          if (0 : Int) ≤ t5 ∧ t5 < (List.length v2 : Int) then
            let v3 : (List impl_Cell) := (List.set v2 t5.toNat (impl_Cell.mk ((List.getD v2 t5.toNat z_impl_Cell).Name) ((List.getD v2 t5.toNat z_impl_Cell).Key) (impl_Val.mk (((List.getD v2 t5.toNat z_impl_Cell).Val).Kind) (w64 ((w64 ((w64 (t1 + 1)) + 1)) + 1)) (((List.getD v2 t5.toNat z_impl_Cell).Val).S))))
            (l_markText (w64 ((w64 ((w64 ((w64 (t1 + 1)) + 1)) + 1)) + 1))).bind fun (r1 : (List Int) × Unit) =>
            if (0 : Int) ≤ t5 ∧ t5 < (List.length v3 : Int) then
              let v4 : (List impl_Cell) := (List.set v3 t5.toNat (impl_Cell.mk ((List.getD v3 t5.toNat z_impl_Cell).Name) ((List.getD v3 t5.toNat z_impl_Cell).Key) (impl_Val.mk (((List.getD v3 t5.toNat z_impl_Cell).Val).Kind) (((List.getD v3 t5.toNat z_impl_Cell).Val).N) r1.1)))
              l_markCellS_L1 v4 (w64 ((w64 ((w64 ((w64 ((w64 (t1 + 1)) + 1)) + 1)) + 1)) + 1)) (w64 (t5 + 1))
            else none
          else none
        else none
      else none
    else none
  else
    some (t1, t0, ()) := (lim_eq tab 129 (t0, (t1, (t5, ())))).trans (by kernel_rfl)
theorem l_heldValS_eq (t0 : (List impl_Val)) (t1 : Int) : l_heldValS t0 t1 =
  l_heldValS_L1 t0 t1 0 := (lim_eq tab 130 (t0, (t1, ()))).trans (by kernel_rfl)
theorem l_heldValS_L1_eq (t0 : (List impl_Val)) (t1 : Int) (t5 : Int) : l_heldValS_L1 t0 t1 t5 =
  if (decide (t5 < (List.length t0 : Int))) = true then
    if (0 : Int) ≤ t5 ∧ t5 < (List.length t0 : Int) then
      if (!(decide (((List.getD t0 t5.toNat z_impl_Val).Kind) = t1))) = true then
        some ((-1), ())
      else
        if (0 : Int) ≤ t5 ∧ t5 < (List.length t0 : Int) then
          if (!(decide (((List.getD t0 t5.toNat z_impl_Val).N) = (w64 (t1 + 1))))) = true then
            some ((-1), ())
          else
            if (0 : Int) ≤ t5 ∧ t5 < (List.length t0 : Int) then
              (l_markText (w64 ((w64 (t1 + 1)) + 1))).bind fun (r0 : (List Int) × Unit) =>
              if (!(decide (((List.getD t0 t5.toNat z_impl_Val).S) = r0.1))) = true then
                some ((-1), ())
              else
                l_heldValS_L1 t0 (w64 ((w64 ((w64 (t1 + 1)) + 1)) + 1)) (w64 (t5 + 1))
            else none
        else none
    else none
  else
    some (t1, ()) := (lim_eq tab 131 (t0, (t1, (t5, ())))).trans (by kernel_rfl)
theorem l_heldCellS_eq (t0 : (List impl_Cell)) (t1 : Int) : l_heldCellS t0 t1 =
  l_heldCellS_L1 t0 t1 0 := (lim_eq tab 132 (t0, (t1, ()))).trans (by kernel_rfl)
theorem l_heldCellS_L1_eq (t0 : (List impl_Cell)) (t1 : Int) (t5 : Int) : l_heldCellS_L1 t0 t1 t5 =
  if (decide (t5 < (List.length t0 : Int))) = true then
    if (0 : Int) ≤ t5 ∧ t5 < (List.length t0 : Int) then
      if (!(decide (((List.getD t0 t5.toNat z_impl_Cell).Name) = t1))) = true then
        some ((-1), ())
      else
        if (0 : Int) ≤ t5 ∧ t5 < (List.length t0 : Int) then
          (l_markText (w64 (t1 + 1))).bind fun (r0 : (List Int) × Unit) =>
          if (!(decide (((List.getD t0 t5.toNat z_impl_Cell).Key) = r0.1))) = true then
            some ((-1), ())
          else
            if (0 : Int) ≤ t5 ∧ t5 < (List.length t0 : Int) then
              if (!(decide ((((List.getD t0 t5.toNat z_impl_Cell).Val).Kind) = (w64 ((w64 (t1 + 1)) + 1))))) = true then
                some ((-1), ())
              else
                if (0 : Int) ≤ t5 ∧ t5 < (List.length t0 : Int) then
                  if (!(decide ((((List.getD t0 t5.toNat z_impl_Cell).Val).N) = (w64 ((w64 ((w64 (t1 + 1)) + 1)) + 1))))) = true then
                    some ((-1), ())
                  else
                    if (0 : Int) ≤ t5 ∧ t5 < (List.length t0 : Int) then
                      (l_markText (w64 ((w64 ((w64 ((w64 (t1 + 1)) + 1)) + 1)) + 1))).bind fun (r1 : (List Int) × Unit) =>
                      if (!(decide ((((List.getD t0 t5.toNat z_impl_Cell).Val).S) = r1.1))) = true then
                        some ((-1), ())
                      else
                        l_heldCellS_L1 t0 (w64 ((w64 ((w64 ((w64 ((w64 (t1 + 1)) + 1)) + 1)) + 1)) + 1)) (w64 (t5 + 1))
                    else none
                else none
            else none
        else none
    else none
  else
    some (t1, ()) := (lim_eq tab 133 (t0, (t1, (t5, ())))).trans (by kernel_rfl)
theorem l_szVal_eq (t0 : laws_Val) (t1 : Int) : l_szVal t0 t1 =
  if (decide ((w64 (t1 - (List.length t0.S : Int))) < 0)) = true then
    some ((-1), ())
  else
    some ((w64 (t1 - (List.length t0.S : Int))), ()) := (lim_eq tab 134 (t0, (t1, ()))).trans (by kernel_rfl)
theorem l_szCell_eq (t0 : laws_Cell) (t1 : Int) : l_szCell t0 t1 =
  if (decide ((w64 (t1 - (List.length t0.Key : Int))) < 0)) = true then
    some ((-1), ())
  else
    (l_szVal t0.Val (w64 (t1 - (List.length t0.Key : Int)))).bind fun (r0 : Int × Unit) =>
    if (decide (r0.1 < 0)) = true then
      some ((-1), ())
    else
      some (r0.1, ()) := (lim_eq tab 135 (t0, (t1, ()))).trans (by kernel_rfl)
theorem l_toVal_eq (t0 : laws_Val) : l_toVal t0 =
  some ((impl_Val.mk t0.Kind t0.N t0.S), ()) := (lim_eq tab 136 (t0, ())).trans (by kernel_rfl)
theorem l_toCell_eq (t0 : laws_Cell) : l_toCell t0 =
  (l_toVal t0.Val).bind fun (r0 : impl_Val × Unit) =>
  some ((impl_Cell.mk t0.Name t0.Key r0.1), ()) := (lim_eq tab 137 (t0, ())).trans (by kernel_rfl)
theorem x_slices_Clone_impl_Val_eq (t0 : (List impl_Val)) : x_slices_Clone_impl_Val t0 =
  if (Nat.beq (List.length t0) 0) = true then
    amb (
      some ([], ()))
    (
      if 0 + List.length t0 ≤ room then
        some ((List.append [] t0), ())
      else none)
  else
    if 0 + List.length t0 ≤ room then
      some ((List.append [] t0), ())
    else none := (lim_eq tab 138 (t0, ())).trans (by kernel_rfl)
theorem x_slices_Clone_impl_Cell_eq (t0 : (List impl_Cell)) : x_slices_Clone_impl_Cell t0 =
  if (Nat.beq (List.length t0) 0) = true then
    amb (
      some ([], ()))
    (
      if 0 + List.length t0 ≤ room then
        some ((List.append [] t0), ())
      else none)
  else
    if 0 + List.length t0 ≤ room then
      some ((List.append [] t0), ())
    else none := (lim_eq tab 139 (t0, ())).trans (by kernel_rfl)
theorem l_eqVal_eq (t0 : impl_Val) (t1 : impl_Val) : l_eqVal t0 t1 =
  if (!(decide (t0.Kind = t1.Kind))) = true then
    some (false, ())
  else
    if (!(decide (t0.N = t1.N))) = true then
      some (false, ())
    else
      if (!(decide (t0.S = t1.S))) = true then
        some (false, ())
      else
        some (true, ()) := (lim_eq tab 140 (t0, (t1, ()))).trans (by kernel_rfl)
theorem l_eqCell_eq (t0 : impl_Cell) (t1 : impl_Cell) : l_eqCell t0 t1 =
  if (!(decide (t0.Name = t1.Name))) = true then
    some (false, ())
  else
    if (!(decide (t0.Key = t1.Key))) = true then
      some (false, ())
    else
      (l_eqVal t0.Val t1.Val).bind fun (r0 : Bool × Unit) =>
      if (!r0.1) = true then
        some (false, ())
      else
        some (true, ()) := (lim_eq tab 141 (t0, (t1, ()))).trans (by kernel_rfl)
end Go.Proofs.YtlidpmhmchbilaaGreat.E.TT
