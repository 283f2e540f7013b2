/- The keys' plain equations (1). No condition. -/
import Derived.Test.YtajahbpeiifcbaaTBe0
namespace Go.Proofs.Ytajahbpeiifcbaa.E.TB
open Go.Proofs.Ytajahbpeiifcbaa.E
set_option linter.unusedVariables false
set_option maxRecDepth 100000
theorem l_FnExactLogOk_eq (t0 : laws_Log) : l_FnExactLogOk t0 =
  (l_szLog t0 1048576).bind fun (r0 : Int × Unit) =>
  if (decide (r0.1 < 0)) = true then
    some (true, ())
  else
    (l_toLog t0).bind fun (r1 : impl_Log × Unit) =>
    (s_LogOk r1.1).bind fun (r2 : Bool × Unit) =>
    (l_toLog t0).bind fun (r3 : impl_Log × Unit) =>
    (i_LogOk r3.1).bind fun (r4 : Bool × Unit) =>
    if (!(decide (r4.1 = r2.1))) = true then
      some (false, ())
    else
      (l_toLog t0).bind fun (r5 : impl_Log × Unit) =>
      (l_eqLog r3.1 r5.1).bind fun (r6 : Bool × Unit) =>
      if (!r6.1) = true then
        some (false, ())
      else
        some (true, ()) := (lim_eq tab 0 (t0, ())).trans (by kernel_rfl)
theorem l_FnExactRpcOk_eq (t0 : laws_Rpc) (t1 : Int) : l_FnExactRpcOk t0 t1 =
  (l_szRpc t0 1048576).bind fun (r0 : Int × Unit) =>
  if (decide (r0.1 < 0)) = true then
    some (true, ())
  else
    (l_toRpc t0).bind fun (r1 : impl_Rpc × Unit) =>
    (s_RpcOk r1.1 t1).bind fun (r2 : Bool × Unit) =>
    (l_toRpc t0).bind fun (r3 : impl_Rpc × Unit) =>
    (i_RpcOk r3.1 t1).bind fun (r4 : Bool × Unit) =>
    if (!(decide (r4.1 = r2.1))) = true then
      some (false, ())
    else
      (l_toRpc t0).bind fun (r5 : impl_Rpc × Unit) =>
      (l_eqRpc r3.1 r5.1).bind fun (r6 : Bool × Unit) =>
      if (!r6.1) = true then
        some (false, ())
      else
        some (true, ()) := (lim_eq tab 1 (t0, (t1, ()))).trans (by kernel_rfl)
theorem l_FnExactRecOk_eq (t0 : laws_Rec) : l_FnExactRecOk t0 =
  (l_szRec t0 1048576).bind fun (r0 : Int × Unit) =>
  if (decide (r0.1 < 0)) = true then
    some (true, ())
  else
    (l_toRec t0).bind fun (r1 : impl_Rec × Unit) =>
    (s_RecOk r1.1).bind fun (r2 : Bool × Unit) =>
    (l_toRec t0).bind fun (r3 : impl_Rec × Unit) =>
    (i_RecOk r3.1).bind fun (r4 : Bool × Unit) =>
    if (!(decide (r4.1 = r2.1))) = true then
      some (false, ())
    else
      (l_toRec t0).bind fun (r5 : impl_Rec × Unit) =>
      (l_eqRec r3.1 r5.1).bind fun (r6 : Bool × Unit) =>
      if (!r6.1) = true then
        some (false, ())
      else
        some (true, ()) := (lim_eq tab 2 (t0, ())).trans (by kernel_rfl)
theorem l_FnExactLogPut_eq (t0 : laws_Log) (t1 : Int) (t2 : Int) (t3 : (List laws_Entry)) : l_FnExactLogPut t0 t1 t2 t3 =
  (l_szLog t0 1048576).bind fun (r0 : Int × Unit) =>
  if (decide (r0.1 < 0)) = true then
    some (true, ())
  else
    (l_szEntryS t3 r0.1).bind fun (r1 : Int × Unit) =>
    if (decide (r1.1 < 0)) = true then
      some (true, ())
    else
      (l_toLog t0).bind fun (r2 : impl_Log × Unit) =>
      (l_toEntryS t3).bind fun (r3 : (List impl_Entry) × Unit) =>
      (s_LogPut r2.1 t1 t2 r3.1).bind fun (r4 : impl_Log × Bool × Unit) =>
      (l_toLog t0).bind fun (r5 : impl_Log × Unit) =>
      (l_toEntryS t3).bind fun (r6 : (List impl_Entry) × Unit) =>
      (i_LogPut r5.1 t1 t2 r6.1).bind fun (r7 : impl_Log × Bool × Unit) =>
      (l_eqLog r7.1 r4.1).bind fun (r8 : Bool × Unit) =>
      if (!r8.1) = true then
        some (false, ())
      else
        if (!(decide (r7.2.1 = r4.2.1))) = true then
          some (false, ())
        else
          (l_toLog t0).bind fun (r9 : impl_Log × Unit) =>
          (l_eqLog r5.1 r9.1).bind fun (r10 : Bool × Unit) =>
          if (!r10.1) = true then
            some (false, ())
          else
            (l_toEntryS t3).bind fun (r11 : (List impl_Entry) × Unit) =>
            (l_eqEntryS r6.1 r11.1).bind fun (r12 : Bool × Unit) =>
            if (!r12.1) = true then
              some (false, ())
            else
              (l_markLog r5.1 1).bind fun (r13 : Int × impl_Log × Unit) =>
              (l_markEntryS r6.1 r13.1).bind fun (r14 : Int × (List impl_Entry) × Unit) =>
              if (decide (r14.1 < 0)) = true then
                some (false, ())
              else
                (l_eqLog r7.1 r4.1).bind fun (r15 : Bool × Unit) =>
                if (!r15.1) = true then
                  some (false, ())
                else
                  if (!(decide (r7.2.1 = r4.2.1))) = true then
                    some (false, ())
                  else
                    (l_markLog r7.1 1).bind fun (r16 : Int × impl_Log × Unit) =>
                    (l_heldLog r16.2.1 1).bind fun (r17 : Int × Unit) =>
                    if (decide (r17.1 < 0)) = true then
                      some (false, ())
                    else
                      if (!(decide (r17.1 = r16.1))) = true then
                        some (false, ())
                      else
                        (l_toLog t0).bind fun (r18 : impl_Log × Unit) =>
                        (l_toEntryS t3).bind fun (r19 : (List impl_Entry) × Unit) =>
                        (i_LogPut r18.1 t1 t2 r19.1).bind fun (r20 : impl_Log × Bool × Unit) =>
                        (l_eqLog r20.1 r4.1).bind fun (r21 : Bool × Unit) =>
                        if (!r21.1) = true then
                          some (false, ())
                        else
                          if (!(decide (r20.2.1 = r4.2.1))) = true then
                            some (false, ())
                          else
                            (l_heldLog r16.2.1 1).bind fun (r22 : Int × Unit) =>
                            if (decide (r22.1 < 0)) = true then
                              some (false, ())
                            else
                              if (!(decide (r22.1 = r16.1))) = true then
                                some (false, ())
                              else
                                some (true, ()) := (lim_eq tab 3 (t0, (t1, (t2, (t3, ()))))).trans (by kernel_rfl)
theorem l_FnExactRecBytes_eq (t0 : laws_Rec) : l_FnExactRecBytes t0 =
  (l_szRec t0 1048576).bind fun (r0 : Int × Unit) =>
  if (decide (r0.1 < 0)) = true then
    some (true, ())
  else
    (l_toRec t0).bind fun (r1 : impl_Rec × Unit) =>
    (s_RecBytes r1.1).bind fun (r2 : (List Int) × Unit) =>
    (l_toRec t0).bind fun (r3 : impl_Rec × Unit) =>
    (i_RecBytes r3.1).bind fun (r4 : (List Int) × Unit) =>
    (l_eqByteS r4.1 r2.1).bind fun (r5 : Bool × Unit) =>
    if (!r5.1) = true then
      some (false, ())
    else
      (l_toRec t0).bind fun (r6 : impl_Rec × Unit) =>
      (l_eqRec r3.1 r6.1).bind fun (r7 : Bool × Unit) =>
      if (!r7.1) = true then
        some (false, ())
      else
        (l_markRec r3.1 1).bind fun (r8 : Int × Unit) =>
        if (decide (r8.1 < 0)) = true then
          some (false, ())
        else
          (l_eqByteS r4.1 r2.1).bind fun (r9 : Bool × Unit) =>
          if (!r9.1) = true then
            some (false, ())
          else
            (l_markByteS r4.1 1).bind fun (r10 : Int × (List Int) × Unit) =>
            (l_heldByteS r10.2.1 1).bind fun (r11 : Int × Unit) =>
            if (decide (r11.1 < 0)) = true then
              some (false, ())
            else
              if (!(decide (r11.1 = r10.1))) = true then
                some (false, ())
              else
                (l_toRec t0).bind fun (r12 : impl_Rec × Unit) =>
                (i_RecBytes r12.1).bind fun (r13 : (List Int) × Unit) =>
                (l_eqByteS r13.1 r2.1).bind fun (r14 : Bool × Unit) =>
                if (!r14.1) = true then
                  some (false, ())
                else
                  (l_heldByteS r10.2.1 1).bind fun (r15 : Int × Unit) =>
                  if (decide (r15.1 < 0)) = true then
                    some (false, ())
                  else
                    if (!(decide (r15.1 = r10.1))) = true then
                      some (false, ())
                    else
                      some (true, ()) := (lim_eq tab 4 (t0, ())).trans (by kernel_rfl)
theorem l_szLog_eq (t0 : laws_Log) (t1 : Int) : l_szLog t0 t1 =
  (l_szEntryS t0.List t1).bind fun (r0 : Int × Unit) =>
  if (decide (r0.1 < 0)) = true then
    some ((-1), ())
  else
    some (r0.1, ()) := (lim_eq tab 5 (t0, (t1, ()))).trans (by kernel_rfl)
theorem l_toLog_eq (t0 : laws_Log) : l_toLog t0 =
  (l_toEntryS t0.List).bind fun (r0 : (List impl_Entry) × Unit) =>
  some ((impl_Log.mk t0.Base t0.BaseTerm r0.1), ()) := (lim_eq tab 6 (t0, ())).trans (by kernel_rfl)
theorem s_LogOk_eq (t0 : impl_Log) : s_LogOk t0 =
  (s_l1In t0.Base 0 300).bind fun (r0 : Bool × Unit) =>
  if (!r0.1) = true then
    some (false, ())
  else
    (s_l1In t0.BaseTerm 0 300).bind fun (r1 : Bool × Unit) =>
    if (!r1.1) = true then
      some (false, ())
    else
      if (decide ((List.length t0.List : Int) > (w64 (300 - t0.Base)))) = true then
        some (false, ())
      else
        s_LogOk_L1 t0.BaseTerm 0 t0 := (lim_eq tab 7 (t0, ())).trans (by kernel_rfl)
theorem s_LogOk_L1_eq (t3 : Int) (t4 : Int) (s16 : impl_Log) : s_LogOk_L1 t3 t4 s16 =
  if (decide (t4 < (List.length s16.List : Int))) = true then
    if (0 : Int) ≤ t4 ∧ t4 < (List.length s16.List : Int) then
      (s_l1In ((List.getD s16.List t4.toNat z_impl_Entry).Term) t3 300).bind fun (r0 : Bool × Unit) =>
      if (!r0.1) = true then
        some (false, ())
      else
        if (0 : Int) ≤ t4 ∧ t4 < (List.length s16.List : Int) then
          (s_CmdOk ((List.getD s16.List t4.toNat z_impl_Entry).C)).bind fun (r1 : Bool × Unit) =>
          if (!r1.1) = true then
            some (false, ())
          else
            if (0 : Int) ≤ t4 ∧ t4 < (List.length s16.List : Int) then
              s_LogOk_L1 ((List.getD s16.List t4.toNat z_impl_Entry).Term) (w64 (t4 + 1)) s16
            else none
        else none
    else none
  else
    some (true, ()) := (lim_eq tab 8 (t3, (t4, (s16, ())))).trans (by kernel_rfl)
theorem i_LogOk_eq (t0 : impl_Log) : i_LogOk t0 =
  (i_isIndex t0.Base).bind fun (r0 : Bool × Unit) =>
  if (!r0.1) = true then
    some (false, ())
  else
    (i_isIndex t0.BaseTerm).bind fun (r1 : Bool × Unit) =>
    if (!r1.1) = true then
      some (false, ())
    else
      if (decide ((w64 (t0.Base + (List.length t0.List : Int))) > 300)) = true then
        some (false, ())
      else
        i_LogOk_L1 t0.BaseTerm t0.List (List.length t0.List : Int) 0 := (lim_eq tab 9 (t0, ())).trans (by kernel_rfl)
theorem i_LogOk_L1_eq (t3 : Int) (t28 : (List impl_Entry)) (t29 : Int) (t30 : Int) : i_LogOk_L1 t3 t28 t29 t30 =
  if (decide (t30 < t29)) = true then
    if (0 : Int) ≤ t30 ∧ t30 < (List.length t28 : Int) then
      (i_in ((List.getD t28 t30.toNat z_impl_Entry).Term) t3 300).bind fun (r0 : Bool × Unit) =>
      if (!r0.1) = true then
        some (false, ())
      else
        (i_CmdOk ((List.getD t28 t30.toNat z_impl_Entry).C)).bind fun (r1 : Bool × Unit) =>
        if (!r1.1) = true then
          some (false, ())
        else
          i_LogOk_L1 ((List.getD t28 t30.toNat z_impl_Entry).Term) t28 t29 (w64 (t30 + 1))
    else none
  else
    some (true, ()) := (lim_eq tab 10 (t3, (t28, (t29, (t30, ()))))).trans (by kernel_rfl)
theorem l_eqLog_eq (t0 : impl_Log) (t1 : impl_Log) : l_eqLog t0 t1 =
  if (!(decide (t0.Base = t1.Base))) = true then
    some (false, ())
  else
    if (!(decide (t0.BaseTerm = t1.BaseTerm))) = true then
      some (false, ())
    else
      (l_eqEntryS t0.List t1.List).bind fun (r0 : Bool × Unit) =>
      if (!r0.1) = true then
        some (false, ())
      else
        some (true, ()) := (lim_eq tab 11 (t0, (t1, ()))).trans (by kernel_rfl)
theorem l_szRpc_eq (t0 : laws_Rpc) (t1 : Int) : l_szRpc t0 t1 =
  (l_szEntryS t0.List t1).bind fun (r0 : Int × Unit) =>
  if (decide (r0.1 < 0)) = true then
    some ((-1), ())
  else
    if (decide ((w64 (r0.1 - (List.length t0.Snap : Int))) < 0)) = true then
      some ((-1), ())
    else
      some ((w64 (r0.1 - (List.length t0.Snap : Int))), ()) := (lim_eq tab 12 (t0, (t1, ()))).trans (by kernel_rfl)
theorem l_toRpc_eq (t0 : laws_Rpc) : l_toRpc t0 =
  (l_toEntryS t0.List).bind fun (r0 : (List impl_Entry) × Unit) =>
  some ((impl_Rpc.mk t0.Kind t0.From t0.To t0.Term t0.Index t0.IndexTerm t0.Commit r0.1 t0.Ok t0.Snap), ()) := (lim_eq tab 13 (t0, ())).trans (by kernel_rfl)
theorem s_RpcOk_eq (t0 : impl_Rpc) (t1 : Int) : s_RpcOk t0 t1 =
  (s_l1In t0.Kind 1 5).bind fun (r0 : Bool × Unit) =>
  if (!r0.1) = true then
    some (false, ())
  else
    (s_l1In t1 1 5).bind fun (r1 : Bool × Unit) =>
    if (!r1.1) = true then
      some (false, ())
    else
      (s_l1In t0.From 0 (w64 (t1 - 1))).bind fun (r2 : Bool × Unit) =>
      if (!r2.1) = true then
        some (false, ())
      else
        (s_l1In t0.To 0 (w64 (t1 - 1))).bind fun (r3 : Bool × Unit) =>
        if (!r3.1) = true then
          some (false, ())
        else
          if (decide (t0.From = t0.To)) = true then
            some (false, ())
          else
            (s_l1In t0.Term 0 300).bind fun (r4 : Bool × Unit) =>
            if r4.1 = true then
              (s_l1In t0.Index 0 300).bind fun (r5 : Bool × Unit) =>
              if r5.1 = true then
                (s_l1In t0.IndexTerm 0 300).bind fun (r6 : Bool × Unit) =>
                if r6.1 = true then
                  (s_l1In t0.Commit 0 300).bind fun (r7 : Bool × Unit) =>
                  if r7.1 = true then
                    (s_l19List t0.List t0.Term).bind fun (r8 : Bool × Unit) =>
                    if r8.1 = true then
                      some ((decide ((List.length t0.Snap : Int) ≤ 30000)), ())
                    else
                      some (false, ())
                  else
                    some (false, ())
                else
                  some (false, ())
              else
                some (false, ())
            else
              some (false, ()) := (lim_eq tab 14 (t0, (t1, ()))).trans (by kernel_rfl)
theorem i_RpcOk_eq (t0 : impl_Rpc) (t1 : Int) : i_RpcOk t0 t1 =
  (i_in t0.Kind 1 5).bind fun (r0 : Bool × Unit) =>
  if (!r0.1) = true then
    some (false, ())
  else
    (i_in t1 1 5).bind fun (r1 : Bool × Unit) =>
    if (!r1.1) = true then
      some (false, ())
    else
      (i_in t0.From 0 (w64 (t1 - 1))).bind fun (r2 : Bool × Unit) =>
      if (!r2.1) = true then
        some (false, ())
      else
        (i_in t0.To 0 (w64 (t1 - 1))).bind fun (r3 : Bool × Unit) =>
        if (!r3.1) = true then
          some (false, ())
        else
          if (decide (t0.From = t0.To)) = true then
            some (false, ())
          else
            (i_isIndex t0.Term).bind fun (r4 : Bool × Unit) =>
            if r4.1 = true then
              (i_isIndex t0.Index).bind fun (r5 : Bool × Unit) =>
              if r5.1 = true then
                (i_isIndex t0.IndexTerm).bind fun (r6 : Bool × Unit) =>
                if r6.1 = true then
                  (i_isIndex t0.Commit).bind fun (r7 : Bool × Unit) =>
                  if r7.1 = true then
                    (i_entriesOk t0.List t0.Term).bind fun (r8 : Bool × Unit) =>
                    if r8.1 = true then
                      some ((decide ((List.length t0.Snap : Int) ≤ 30000)), ())
                    else
                      some (false, ())
                  else
                    some (false, ())
                else
                  some (false, ())
              else
                some (false, ())
            else
              some (false, ()) := (lim_eq tab 15 (t0, (t1, ()))).trans (by kernel_rfl)
theorem l_eqRpc_eq (t0 : impl_Rpc) (t1 : impl_Rpc) : l_eqRpc t0 t1 =
  if (!(decide (t0.Kind = t1.Kind))) = true then
    some (false, ())
  else
    if (!(decide (t0.From = t1.From))) = true then
      some (false, ())
    else
      if (!(decide (t0.To = t1.To))) = true then
        some (false, ())
      else
        if (!(decide (t0.Term = t1.Term))) = true then
          some (false, ())
        else
          if (!(decide (t0.Index = t1.Index))) = true then
            some (false, ())
          else
            if (!(decide (t0.IndexTerm = t1.IndexTerm))) = true then
              some (false, ())
            else
              if (!(decide (t0.Commit = t1.Commit))) = true then
                some (false, ())
              else
                (l_eqEntryS t0.List t1.List).bind fun (r0 : Bool × Unit) =>
                if (!r0.1) = true then
                  some (false, ())
                else
                  if (!(decide (t0.Ok = t1.Ok))) = true then
                    some (false, ())
                  else
                    if (!(decide (t0.Snap = t1.Snap))) = true then
                      some (false, ())
                    else
                      some (true, ()) := (lim_eq tab 16 (t0, (t1, ()))).trans (by kernel_rfl)
theorem l_szRec_eq (t0 : laws_Rec) (t1 : Int) : l_szRec t0 t1 =
  (l_szEntryS t0.List t1).bind fun (r0 : Int × Unit) =>
  if (decide (r0.1 < 0)) = true then
    some ((-1), ())
  else
    if (decide ((w64 (r0.1 - (List.length t0.Snap : Int))) < 0)) = true then
      some ((-1), ())
    else
      some ((w64 (r0.1 - (List.length t0.Snap : Int))), ()) := (lim_eq tab 17 (t0, (t1, ()))).trans (by kernel_rfl)
theorem l_toRec_eq (t0 : laws_Rec) : l_toRec t0 =
  (l_toEntryS t0.List).bind fun (r0 : (List impl_Entry) × Unit) =>
  some ((impl_Rec.mk t0.Kind t0.Term t0.Vote t0.Prev r0.1 t0.Snap), ()) := (lim_eq tab 18 (t0, ())).trans (by kernel_rfl)
theorem s_RecOk_eq (t0 : impl_Rec) : s_RecOk t0 =
  (s_l1In t0.Term 0 300).bind fun (r0 : Bool × Unit) =>
  if (!r0.1) = true then
    some (false, ())
  else
    (s_l1In t0.Prev 0 300).bind fun (r1 : Bool × Unit) =>
    if (!r1.1) = true then
      some (false, ())
    else
      (s_l19List t0.List 300).bind fun (r2 : Bool × Unit) =>
      if (!r2.1) = true then
        some (false, ())
      else
        if (decide ((List.length t0.Snap : Int) > 30000)) = true then
          some (false, ())
        else
          if (decide (t0.Kind = 1)) = true then
            (s_l1In t0.Vote (-1) 4).bind fun (r3 : Bool × Unit) =>
            if r3.1 = true then
              if (decide (t0.Prev = 0)) = true then
                if (decide ((List.length t0.List : Int) = 0)) = true then
                  some ((decide (t0.Snap = [])), ())
                else
                  some (false, ())
              else
                some (false, ())
            else
              some (false, ())
          else
            if (decide (t0.Kind = 2)) = true then
              if (decide (t0.Vote = 0)) = true then
                some ((decide (t0.Snap = [])), ())
              else
                some (false, ())
            else
              if (decide (t0.Kind = 3)) = true then
                if (decide (t0.Vote = 0)) = true then
                  some ((decide ((List.length t0.List : Int) = 0)), ())
                else
                  some (false, ())
              else
                some (false, ()) := (lim_eq tab 19 (t0, ())).trans (by kernel_rfl)
theorem i_RecOk_eq (t0 : impl_Rec) : i_RecOk t0 =
  (i_isIndex t0.Term).bind fun (r0 : Bool × Unit) =>
  if (!r0.1) = true then
    some (false, ())
  else
    (i_isIndex t0.Prev).bind fun (r1 : Bool × Unit) =>
    if (!r1.1) = true then
      some (false, ())
    else
      (i_entriesOk t0.List 300).bind fun (r2 : Bool × Unit) =>
      if (!r2.1) = true then
        some (false, ())
      else
        if (decide ((List.length t0.Snap : Int) > 30000)) = true then
          some (false, ())
        else
          if (decide (t0.Kind = 1)) = true then
            (i_isVote t0.Vote).bind fun (r3 : Bool × Unit) =>
            if r3.1 = true then
              if (decide (t0.Prev = 0)) = true then
                if (decide ((List.length t0.List : Int) = 0)) = true then
                  some ((decide (t0.Snap = [])), ())
                else
                  some (false, ())
              else
                some (false, ())
            else
              some (false, ())
          else
            if (decide (t0.Kind = 2)) = true then
              if (decide (t0.Vote = 0)) = true then
                some ((decide (t0.Snap = [])), ())
              else
                some (false, ())
            else
              if (decide (t0.Kind = 3)) = true then
                if (decide (t0.Vote = 0)) = true then
                  some ((decide ((List.length t0.List : Int) = 0)), ())
                else
                  some (false, ())
              else
                some (false, ()) := (lim_eq tab 20 (t0, ())).trans (by kernel_rfl)
theorem l_eqRec_eq (t0 : impl_Rec) (t1 : impl_Rec) : l_eqRec t0 t1 =
  if (!(decide (t0.Kind = t1.Kind))) = true then
    some (false, ())
  else
    if (!(decide (t0.Term = t1.Term))) = true then
      some (false, ())
    else
      if (!(decide (t0.Vote = t1.Vote))) = true then
        some (false, ())
      else
        if (!(decide (t0.Prev = t1.Prev))) = true then
          some (false, ())
        else
          (l_eqEntryS t0.List t1.List).bind fun (r0 : Bool × Unit) =>
          if (!r0.1) = true then
            some (false, ())
          else
            if (!(decide (t0.Snap = t1.Snap))) = true then
              some (false, ())
            else
              some (true, ()) := (lim_eq tab 21 (t0, (t1, ()))).trans (by kernel_rfl)
theorem l_szEntryS_eq (t0 : (List laws_Entry)) (t1 : Int) : l_szEntryS t0 t1 =
  if (decide ((w64 (t1 - (List.length t0 : Int))) < 0)) = true then
    some ((-1), ())
  else
    l_szEntryS_L1 t0 (w64 (t1 - (List.length t0 : Int))) 0 := (lim_eq tab 22 (t0, (t1, ()))).trans (by kernel_rfl)
theorem l_szEntryS_L1_eq (t0 : (List laws_Entry)) (t1 : Int) (t5 : Int) : l_szEntryS_L1 t0 t1 t5 =
  if (decide (t5 < (List.length t0 : Int))) = true then
    if (0 : Int) ≤ t5 ∧ t5 < (List.length t0 : Int) then
      (l_szEntry (List.getD t0 t5.toNat z_laws_Entry) t1).bind fun (r0 : Int × Unit) =>
      if (decide (r0.1 < 0)) = true then
        some ((-1), ())
      else
        l_szEntryS_L1 t0 r0.1 (w64 (t5 + 1))
    else none
  else
    some (t1, ()) := (lim_eq tab 23 (t0, (t1, (t5, ())))).trans (by kernel_rfl)
theorem l_toEntryS_eq (t0 : (List laws_Entry)) : l_toEntryS t0 =
  if (0 : Int) ≤ (List.length t0 : Int) ∧ (List.length t0 : Int) ≤ (List.length t0 : Int) ∧ (List.length t0 : Int) ≤ (room : Int) then
    l_toEntryS_L1 t0 (List.replicate (List.length t0 : Int).toNat z_impl_Entry) 0
  else none := (lim_eq tab 24 (t0, ())).trans (by kernel_rfl)
theorem l_toEntryS_L1_eq (t0 : (List laws_Entry)) (t3 : (List impl_Entry)) (t4 : Int) : l_toEntryS_L1 t0 t3 t4 =
  if (decide (t4 < (List.length t0 : Int))) = true then
    if (0 : Int) ≤ t4 ∧ t4 < (List.length t0 : Int) then
      (l_toEntry (List.getD t0 t4.toNat z_laws_Entry)).bind fun (r0 : impl_Entry × Unit) =>
      if (0 : Int) ≤ t4 ∧ t4 < (List.length t3 : Int) then
        l_toEntryS_L1 t0 (List.set t3 t4.toNat r0.1) (w64 (t4 + 1))
      else none
    else none
  else
    some (t3, ()) := (lim_eq tab 25 (t0, (t3, (t4, ())))).trans (by kernel_rfl)
theorem s_LogPut_eq (t0 : impl_Log) (t1 : Int) (t2 : Int) (t3 : (List impl_Entry)) : s_LogPut t0 t1 t2 t3 =
  (s_LogOk t0).bind fun (r0 : Bool × Unit) =>
  if (!r0.1) = true then
    some ((impl_Log.mk 0 0 []), false, ())
  else
    (s_l18Copy t0).bind fun (r1 : impl_Log × Unit) =>
    if (decide (t2 < 0)) = true then
      some (r1.1, false, ())
    else
      (s_TermAt t0 t1).bind fun (r2 : Int × Unit) =>
      if (!(decide (r2.1 = t2))) = true then
        some (r1.1, false, ())
      else
        s_LogPut_L1 t1 t3 0 t0 z_impl_Log r1.1 := (lim_eq tab 26 (t0, (t1, (t2, (t3, ()))))).trans (by kernel_rfl)
theorem s_LogPut_L1_eq (t1 : Int) (t3 : (List impl_Entry)) (t11 : Int) (s64 : impl_Log) (s128 : impl_Log) (s160 : impl_Log) : s_LogPut_L1 t1 t3 t11 s64 s128 s160 =
  if (decide (t11 < (List.length t3 : Int))) = true then
    if (decide ((w64 ((w64 (t1 - s64.Base)) + t11)) < (List.length s160.List : Int))) = true then
      if (0 : Int) ≤ (w64 ((w64 (t1 - s64.Base)) + t11)) ∧ (w64 ((w64 (t1 - s64.Base)) + t11)) < (List.length s160.List : Int) then
        if (0 : Int) ≤ t11 ∧ t11 < (List.length t3 : Int) then
          if (decide (((List.getD s160.List (w64 ((w64 (t1 - s64.Base)) + t11)).toNat z_impl_Entry).Term) = ((List.getD t3 t11.toNat z_impl_Entry).Term))) = true then
            s_LogPut_L1 t1 t3 (w64 (t11 + 1)) s64 s128 s160
          else
            if (0 : Int) ≤ (w64 ((w64 (t1 - s64.Base)) + t11)) ∧ (w64 ((w64 (t1 - s64.Base)) + t11)) ≤ (List.length s160.List : Int) then
              if 0 + List.length (List.take (w64 ((w64 (t1 - s64.Base)) + t11)).toNat s160.List) ≤ room then
                if (0 : Int) ≤ t11 ∧ t11 < (List.length t3 : Int) then
                  if List.length (List.append [] (List.take (w64 ((w64 (t1 - s64.Base)) + t11)).toNat s160.List)) + 1 ≤ room then
                    let v0 : (List impl_Entry) := (List.append (List.append [] (List.take (w64 ((w64 (t1 - s64.Base)) + t11)).toNat s160.List)) [(List.getD t3 t11.toNat z_impl_Entry)])
                    s_LogPut_L1 t1 t3 (w64 (t11 + 1)) s64 s128 (impl_Log.mk s160.Base s160.BaseTerm v0)
                  else none
                else none
              else none
            else none
        else none
      else none
    else
      if (0 : Int) ≤ t11 ∧ t11 < (List.length t3 : Int) then
        if List.length s160.List + 1 ≤ room then
          s_LogPut_L1 t1 t3 (w64 (t11 + 1)) s64 s128 (impl_Log.mk s160.Base s160.BaseTerm (List.append s160.List [(List.getD t3 t11.toNat z_impl_Entry)]))
        else none
      else none
  else
    (s_LogOk s160).bind fun (r0 : Bool × Unit) =>
    if (!r0.1) = true then
      (s_l18Copy s64).bind fun (r1 : impl_Log × Unit) =>
      some (r1.1, false, ())
    else
      some (s160, true, ()) := (lim_eq tab 27 (t1, (t3, (t11, (s64, (s128, (s160, ()))))))).trans (by kernel_rfl)
theorem i_LogPut_eq (t0 : impl_Log) (t1 : Int) (t2 : Int) (t3 : (List impl_Entry)) : i_LogPut t0 t1 t2 t3 =
  (i_LogOk t0).bind fun (r0 : Bool × Unit) =>
  if (!r0.1) = true then
    some ((impl_Log.mk 0 0 []), false, ())
  else
    if (decide (t2 < 0)) = true then
      (i_cloneLog t0).bind fun (r1 : impl_Log × Unit) =>
      some (r1.1, false, ())
    else
      (i_TermAt t0 t1).bind fun (r2 : Int × Unit) =>
      if (!(decide (r2.1 = t2))) = true then
        (i_cloneLog t0).bind fun (r3 : impl_Log × Unit) =>
        some (r3.1, false, ())
      else
        (i_cloneLog t0).bind fun (r4 : impl_Log × Unit) =>
        i_LogPut_L1 t1 t3 (List.length t3 : Int) 0 t0 z_impl_Log r4.1 := (lim_eq tab 28 (t0, (t1, (t2, (t3, ()))))).trans (by kernel_rfl)
theorem i_LogPut_L1_eq (t1 : Int) (t31 : (List impl_Entry)) (t32 : Int) (t33 : Int) (s64 : impl_Log) (s128 : impl_Log) (s160 : impl_Log) : i_LogPut_L1 t1 t31 t32 t33 s64 s128 s160 =
  if (decide (t33 < t32)) = true then
    if (0 : Int) ≤ t33 ∧ t33 < (List.length t31 : Int) then
      if (decide ((w64 ((w64 (t1 - s64.Base)) + t33)) < (List.length s160.List : Int))) = true then
        if (0 : Int) ≤ (w64 ((w64 (t1 - s64.Base)) + t33)) ∧ (w64 ((w64 (t1 - s64.Base)) + t33)) < (List.length s160.List : Int) then
          if (decide (((List.getD s160.List (w64 ((w64 (t1 - s64.Base)) + t33)).toNat z_impl_Entry).Term) = ((List.getD t31 t33.toNat z_impl_Entry).Term))) = true then
            i_LogPut_L1 t1 t31 t32 (w64 (t33 + 1)) s64 s128 s160
          else
            if (0 : Int) ≤ (w64 ((w64 (t1 - s64.Base)) + t33)) ∧ (w64 ((w64 (t1 - s64.Base)) + t33)) ≤ (List.length s160.List : Int) then
              if List.length (List.take (w64 ((w64 (t1 - s64.Base)) + t33)).toNat s160.List) + 1 ≤ room then
                let v0 : (List impl_Entry) := (List.append (List.take (w64 ((w64 (t1 - s64.Base)) + t33)).toNat s160.List) [(List.getD t31 t33.toNat z_impl_Entry)])
                i_LogPut_L1 t1 t31 t32 (w64 (t33 + 1)) s64 s128 (impl_Log.mk s160.Base s160.BaseTerm v0)
              else none
            else none
        else none
      else
        if List.length s160.List + 1 ≤ room then
          i_LogPut_L1 t1 t31 t32 (w64 (t33 + 1)) s64 s128 (impl_Log.mk s160.Base s160.BaseTerm (List.append s160.List [(List.getD t31 t33.toNat z_impl_Entry)]))
        else none
    else none
  else
    (i_LogOk s160).bind fun (r0 : Bool × Unit) =>
    if (!r0.1) = true then
      (i_cloneLog s64).bind fun (r1 : impl_Log × Unit) =>
      some (r1.1, false, ())
    else
      some (s160, true, ()) := (lim_eq tab 29 (t1, (t31, (t32, (t33, (s64, (s128, (s160, ())))))))).trans (by kernel_rfl)
theorem l_eqEntryS_eq (t0 : (List impl_Entry)) (t1 : (List impl_Entry)) : l_eqEntryS t0 t1 =
  if (!(decide ((List.length t0 : Int) = (List.length t1 : Int)))) = true then
    some (false, ())
  else
    l_eqEntryS_L1 t0 t1 0 := (lim_eq tab 30 (t0, (t1, ()))).trans (by kernel_rfl)
theorem l_eqEntryS_L1_eq (t0 : (List impl_Entry)) (t1 : (List impl_Entry)) (t5 : Int) : l_eqEntryS_L1 t0 t1 t5 =
  if (decide (t5 < (List.length t0 : Int))) = true then
    if (0 : Int) ≤ t5 ∧ t5 < (List.length t0 : Int) then
      if (0 : Int) ≤ t5 ∧ t5 < (List.length t1 : Int) then
        (l_eqEntry (List.getD t0 t5.toNat z_impl_Entry) (List.getD t1 t5.toNat z_impl_Entry)).bind fun (r0 : Bool × Unit) =>
        if (!r0.1) = true then
          some (false, ())
        else
          l_eqEntryS_L1 t0 t1 (w64 (t5 + 1))
      else none
    else none
  else
    some (true, ()) := (lim_eq tab 31 (t0, (t1, (t5, ())))).trans (by kernel_rfl)
theorem l_markLog_eq (t0 : impl_Log) (t1 : Int) : l_markLog t0 t1 =
  (l_markEntryS t0.List t1).bind fun (r0 : Int × (List impl_Entry) × Unit) =>
  some (r0.1, (impl_Log.mk t0.Base t0.BaseTerm r0.2.1), ()) := (lim_eq tab 32 (t0, (t1, ()))).trans (by kernel_rfl)
theorem l_markEntryS_eq (t0 : (List impl_Entry)) (t1 : Int) : l_markEntryS t0 t1 =
  l_markEntryS_L1 t0 t1 0 := (lim_eq tab 33 (t0, (t1, ()))).trans (by kernel_rfl)
theorem l_markEntryS_L1_eq (t0 : (List impl_Entry)) (t1 : Int) (t5 : Int) : l_markEntryS_L1 t0 t1 t5 =
  if (decide (t5 < (List.length t0 : Int))) = true then
    if (0 : Int) ≤ t5 ∧ t5 < (List.length t0 : Int) then
      if (0 : Int) ≤ t5 ∧ t5 < (List.length (List.set t0 t5.toNat (impl_Entry.mk t1 ((List.getD t0 t5.toNat z_impl_Entry).C))) : Int) then
        let v0 : (List impl_Entry) := (List.set (List.set t0 t5.toNat (impl_Entry.mk t1 ((List.getD t0 t5.toNat z_impl_Entry).C))) t5.toNat (impl_Entry.mk ((List.getD (List.set t0 t5.toNat (impl_Entry.mk t1 ((List.getD t0 t5.toNat z_impl_Entry).C))) t5.toNat z_impl_Entry).Term) (impl_Cmd.mk (w64 (t1 + 1)) (((List.getD (List.set t0 t5.toNat (impl_Entry.mk t1 ((List.getD t0 t5.toNat z_impl_Entry).C))) t5.toNat z_impl_Entry).C).Seq) (((List.getD (List.set t0 t5.toNat (impl_Entry.mk t1 ((List.getD t0 t5.toNat z_impl_Entry).C))) t5.toNat z_impl_Entry).C).Line))))
        if (0 : Int) ≤ t5 ∧ t5 < (List.length v0 : Int) then
          let v1 : (List impl_Entry) := (List.set v0 t5.toNat (impl_Entry.mk ((List.getD v0 t5.toNat z_impl_Entry).Term) (impl_Cmd.mk (((List.getD v0 t5.toNat z_impl_Entry).C).Who) (w64 ((w64 (t1 + 1)) + 1)) (((List.getD v0 t5.toNat z_impl_Entry).C).Line))))
          (l_markText (w64 ((w64 ((w64 (t1 + 1)) + 1)) + 1))).bind fun (r0 : (List Int) × Unit) =>
          if (0 : Int) ≤ t5 ∧ t5 < (List.length v1 : Int) then
            let v2 : (List impl_Entry) := (List.set v1 t5.toNat (impl_Entry.mk ((List.getD v1 t5.toNat z_impl_Entry).Term) (impl_Cmd.mk (((List.getD v1 t5.toNat z_impl_Entry).C).Who) (((List.getD v1 t5.toNat z_impl_Entry).C).Seq) r0.1)))
            l_markEntryS_L1 v2 (w64 ((w64 ((w64 ((w64 (t1 + 1)) + 1)) + 1)) + 1)) (w64 (t5 + 1))
          else none
        else none
      else none
    else none
  else
    some (t1, t0, ()) := (lim_eq tab 34 (t0, (t1, (t5, ())))).trans (by kernel_rfl)
theorem l_heldLog_eq (t0 : impl_Log) (t1 : Int) : l_heldLog t0 t1 =
  (l_heldEntryS t0.List t1).bind fun (r0 : Int × Unit) =>
  if (decide (r0.1 < 0)) = true then
    some ((-1), ())
  else
    some (r0.1, ()) := (lim_eq tab 35 (t0, (t1, ()))).trans (by kernel_rfl)
theorem s_RecBytes_eq (t0 : impl_Rec) : s_RecBytes t0 =
  (s_RecOk t0).bind fun (r0 : Bool × Unit) =>
  if (!r0.1) = true then
    some ([], ())
  else
    (s_l19Body t0).bind fun (r1 : (List Int) × Unit) =>
    (s_PutNum (List.length r1.1 : Int)).bind fun (r2 : (List Int) × Unit) =>
    if List.length r2.1 + List.length r1.1 ≤ room then
      (s_l19Sum r1.1).bind fun (r3 : (List Int) × Unit) =>
      if List.length (List.append r2.1 r1.1) + List.length r3.1 ≤ room then
        some ((List.append (List.append r2.1 r1.1) r3.1), ())
      else none
    else none := (lim_eq tab 36 (t0, ())).trans (by kernel_rfl)
theorem i_RecBytes_eq (t0 : impl_Rec) : i_RecBytes t0 =
  (i_RecOk t0).bind fun (r0 : Bool × Unit) =>
  if (!r0.1) = true then
    some ([], ())
  else
    i_RecBytes_L1 [] [t0.Kind, t0.Term, (w64 (t0.Vote + 1)), t0.Prev, (List.length t0.List : Int)] 5 0 t0 := (lim_eq tab 37 (t0, ())).trans (by kernel_rfl)
theorem i_RecBytes_L1_eq (t3 : (List Int)) (t28 : (List Int)) (t29 : Int) (t30 : Int) (s16 : impl_Rec) : i_RecBytes_L1 t3 t28 t29 t30 s16 =
  if (decide (t30 < t29)) = true then
    if (0 : Int) ≤ t30 ∧ t30 < (List.length t28 : Int) then
      (i_PutNum (List.getD t28 t30.toNat 0)).bind fun (r0 : (List Int) × Unit) =>
      if List.length t3 + List.length r0.1 ≤ room then
        i_RecBytes_L1 (List.append t3 r0.1) t28 t29 (w64 (t30 + 1)) s16
      else none
    else none
  else
    i_RecBytes_L2 t3 s16.List (List.length s16.List : Int) 0 s16 := (lim_eq tab 38 (t3, (t28, (t29, (t30, (s16, ())))))).trans (by kernel_rfl)
theorem i_RecBytes_L2_eq (t3 : (List Int)) (t40 : (List impl_Entry)) (t41 : Int) (t42 : Int) (s16 : impl_Rec) : i_RecBytes_L2 t3 t40 t41 t42 s16 =
  if (decide (t42 < t41)) = true then
    if (0 : Int) ≤ t42 ∧ t42 < (List.length t40 : Int) then
      i_RecBytes_L3 t3 t40 t41 t42 [(List.getD t40 t42.toNat z_impl_Entry).Term, (w64 ((((List.getD t40 t42.toNat z_impl_Entry).C).Who) + 1)), ((List.getD t40 t42.toNat z_impl_Entry).C).Seq] 3 0 s16 (List.getD t40 t42.toNat z_impl_Entry)
    else none
  else
    (i_PutText s16.Snap).bind fun (r0 : (List Int) × Unit) =>
    if List.length t3 + List.length r0.1 ≤ room then
      (i_SumOf (List.append t3 r0.1)).bind fun (r1 : Int × Unit) =>
      (i_PutNum (List.length (List.append t3 r0.1) : Int)).bind fun (r2 : (List Int) × Unit) =>
      if List.length r2.1 + List.length (List.append t3 r0.1) ≤ room then
        if List.length (List.append r2.1 (List.append t3 r0.1)) + 4 ≤ room then
          some ((List.append (List.append r2.1 (List.append t3 r0.1)) [(w8 r1.1), (w8 (shrI .i64 r1.1 8)), (w8 (shrI .i64 r1.1 16)), (w8 (shrI .i64 r1.1 24))]), ())
        else none
      else none
    else none := (lim_eq tab 39 (t3, (t40, (t41, (t42, (s16, ())))))).trans (by kernel_rfl)
theorem i_RecBytes_L3_eq (t3 : (List Int)) (t40 : (List impl_Entry)) (t41 : Int) (t42 : Int) (t55 : (List Int)) (t56 : Int) (t57 : Int) (s16 : impl_Rec) (s112 : impl_Entry) : i_RecBytes_L3 t3 t40 t41 t42 t55 t56 t57 s16 s112 =
  if (decide (t57 < t56)) = true then
    if (0 : Int) ≤ t57 ∧ t57 < (List.length t55 : Int) then
      (i_PutNum (List.getD t55 t57.toNat 0)).bind fun (r0 : (List Int) × Unit) =>
      if List.length t3 + List.length r0.1 ≤ room then
        i_RecBytes_L3 (List.append t3 r0.1) t40 t41 t42 t55 t56 (w64 (t57 + 1)) s16 s112
      else none
    else none
  else
    (i_PutText s112.C.Line).bind fun (r1 : (List Int) × Unit) =>
    if List.length t3 + List.length r1.1 ≤ room then
      i_RecBytes_L2 (List.append t3 r1.1) t40 t41 (w64 (t42 + 1)) s16
    else none := (lim_eq tab 40 (t3, (t40, (t41, (t42, (t55, (t56, (t57, (s16, (s112, ())))))))))).trans (by kernel_rfl)
theorem l_eqByteS_eq (t0 : (List Int)) (t1 : (List Int)) : l_eqByteS t0 t1 =
  if (!(decide ((List.length t0 : Int) = (List.length t1 : Int)))) = true then
    some (false, ())
  else
    l_eqByteS_L1 t0 t1 0 := (lim_eq tab 41 (t0, (t1, ()))).trans (by kernel_rfl)
theorem l_eqByteS_L1_eq (t0 : (List Int)) (t1 : (List Int)) (t5 : Int) : l_eqByteS_L1 t0 t1 t5 =
  if (decide (t5 < (List.length t0 : Int))) = true then
    if (0 : Int) ≤ t5 ∧ t5 < (List.length t0 : Int) then
      if (0 : Int) ≤ t5 ∧ t5 < (List.length t1 : Int) then
        if (!(decide ((List.getD t0 t5.toNat 0) = (List.getD t1 t5.toNat 0)))) = true then
          some (false, ())
        else
          l_eqByteS_L1 t0 t1 (w64 (t5 + 1))
      else none
    else none
  else
    some (true, ()) := (lim_eq tab 42 (t0, (t1, (t5, ())))).trans (by kernel_rfl)
theorem l_markRec_eq (t0 : impl_Rec) (t1 : Int) : l_markRec t0 t1 =
  (l_markEntryS t0.List t1).bind fun (r0 : Int × (List impl_Entry) × Unit) =>
  some (r0.1, ()) := (lim_eq tab 43 (t0, (t1, ()))).trans (by kernel_rfl)
theorem l_markByteS_eq (t0 : (List Int)) (t1 : Int) : l_markByteS t0 t1 =
  l_markByteS_L1 t0 t1 0 := (lim_eq tab 44 (t0, (t1, ()))).trans (by kernel_rfl)
theorem l_markByteS_L1_eq (t0 : (List Int)) (t1 : Int) (t5 : Int) : l_markByteS_L1 t0 t1 t5 =
  if (decide (t5 < (List.length t0 : Int))) = true then
    if (0 : Int) ≤ t5 ∧ t5 < (List.length t0 : Int) then
      l_markByteS_L1 (List.set t0 t5.toNat (w8 t1)) (w64 (t1 + 1)) (w64 (t5 + 1))
    else none
  else
    some (t1, t0, ()) := (lim_eq tab 45 (t0, (t1, (t5, ())))).trans (by kernel_rfl)
theorem l_heldByteS_eq (t0 : (List Int)) (t1 : Int) : l_heldByteS t0 t1 =
  l_heldByteS_L1 t0 t1 0 := (lim_eq tab 46 (t0, (t1, ()))).trans (by kernel_rfl)
theorem l_heldByteS_L1_eq (t0 : (List Int)) (t1 : Int) (t5 : Int) : l_heldByteS_L1 t0 t1 t5 =
  if (decide (t5 < (List.length t0 : Int))) = true then
    if (0 : Int) ≤ t5 ∧ t5 < (List.length t0 : Int) then
      if (!(decide ((List.getD t0 t5.toNat 0) = (w8 t1)))) = true then
        some ((-1), ())
      else
        l_heldByteS_L1 t0 (w64 (t1 + 1)) (w64 (t5 + 1))
    else none
  else
    some (t1, ()) := (lim_eq tab 47 (t0, (t1, (t5, ())))).trans (by kernel_rfl)
theorem s_l1In_eq (t0 : Int) (t1 : Int) (t2 : Int) : s_l1In t0 t1 t2 =
  if (decide (t0 ≥ t1)) = true then
    some ((decide (t0 ≤ t2)), ())
  else
    some (false, ()) := (lim_eq tab 48 (t0, (t1, (t2, ())))).trans (by kernel_rfl)
theorem s_CmdOk_eq (t0 : impl_Cmd) : s_CmdOk t0 =
  if (decide (t0.Who = (-1))) = true then
    if (decide (t0.Seq = 0)) = true then
      some ((decide (t0.Line = [])), ())
    else
      some (false, ())
  else
    (s_l1In t0.Who 0 2).bind fun (r0 : Bool × Unit) =>
    if r0.1 = true then
      (s_l1In t0.Seq 1 100000).bind fun (r1 : Bool × Unit) =>
      if r1.1 = true then
        if (decide ((List.length t0.Line : Int) ≤ 60)) = true then
          (s_l9Line t0.Line).bind fun (r2 : Bool × Unit) =>
          some (r2.1, ())
        else
          some (false, ())
      else
        some (false, ())
    else
      some (false, ()) := (lim_eq tab 49 (t0, ())).trans (by kernel_rfl)
theorem i_isIndex_eq (t0 : Int) : i_isIndex t0 =
  (i_in t0 0 300).bind fun (r0 : Bool × Unit) =>
  some (r0.1, ()) := (lim_eq tab 50 (t0, ())).trans (by kernel_rfl)
theorem i_in_eq (t0 : Int) (t1 : Int) (t2 : Int) : i_in t0 t1 t2 =
  if (decide (t0 ≥ t1)) = true then
    some ((decide (t0 ≤ t2)), ())
  else
    some (false, ()) := (lim_eq tab 51 (t0, (t1, (t2, ())))).trans (by kernel_rfl)
theorem i_CmdOk_eq (t0 : impl_Cmd) : i_CmdOk t0 =
  if (decide (t0.Who = (-1))) = true then
    if (decide (t0.Seq = 0)) = true then
      some ((decide (t0.Line = [])), ())
    else
      some (false, ())
  else
    (i_in t0.Who 0 2).bind fun (r0 : Bool × Unit) =>
    if r0.1 = true then
      (i_in t0.Seq 1 100000).bind fun (r1 : Bool × Unit) =>
      if r1.1 = true then
        (i_lineOk t0.Line).bind fun (r2 : Bool × Unit) =>
        some (r2.1, ())
      else
        some (false, ())
    else
      some (false, ()) := (lim_eq tab 52 (t0, ())).trans (by kernel_rfl)
theorem s_l19List_eq (t0 : (List impl_Entry)) (t1 : Int) : s_l19List t0 t1 =
  s_l19List_L1 t0 t1 0 := (lim_eq tab 53 (t0, (t1, ()))).trans (by kernel_rfl)
theorem s_l19List_L1_eq (t0 : (List impl_Entry)) (t1 : Int) (t5 : Int) : s_l19List_L1 t0 t1 t5 =
  if (decide (t5 < (List.length t0 : Int))) = true then
    if (0 : Int) ≤ t5 ∧ t5 < (List.length t0 : Int) then
      (s_l1In ((List.getD t0 t5.toNat z_impl_Entry).Term) 0 t1).bind fun (r0 : Bool × Unit) =>
      if (!r0.1) = true then
        some (false, ())
      else
        if (0 : Int) ≤ t5 ∧ t5 < (List.length t0 : Int) then
          (s_CmdOk ((List.getD t0 t5.toNat z_impl_Entry).C)).bind fun (r1 : Bool × Unit) =>
          if (!r1.1) = true then
            some (false, ())
          else
            s_l19List_L1 t0 t1 (w64 (t5 + 1))
        else none
    else none
  else
    some ((decide ((List.length t0 : Int) ≤ 40)), ()) := (lim_eq tab 54 (t0, (t1, (t5, ())))).trans (by kernel_rfl)
theorem i_entriesOk_eq (t0 : (List impl_Entry)) (t1 : Int) : i_entriesOk t0 t1 =
  if (decide ((List.length t0 : Int) ≤ 40)) = true then
    (x_slices_ContainsFunc_impl_Entry_entriesOk_1 t0 t1).bind fun (r0 : Bool × Int × Unit) =>
    some ((!r0.1), ())
  else
    some (false, ()) := (lim_eq tab 55 (t0, (t1, ()))).trans (by kernel_rfl)
theorem i_isVote_eq (t0 : Int) : i_isVote t0 =
  (i_in t0 (-1) 4).bind fun (r0 : Bool × Unit) =>
  some (r0.1, ()) := (lim_eq tab 56 (t0, ())).trans (by kernel_rfl)
theorem l_szEntry_eq (t0 : laws_Entry) (t1 : Int) : l_szEntry t0 t1 =
  (l_szCmd t0.C t1).bind fun (r0 : Int × Unit) =>
  if (decide (r0.1 < 0)) = true then
    some ((-1), ())
  else
    some (r0.1, ()) := (lim_eq tab 57 (t0, (t1, ()))).trans (by kernel_rfl)
theorem l_toEntry_eq (t0 : laws_Entry) : l_toEntry t0 =
  (l_toCmd t0.C).bind fun (r0 : impl_Cmd × Unit) =>
  some ((impl_Entry.mk t0.Term r0.1), ()) := (lim_eq tab 58 (t0, ())).trans (by kernel_rfl)
theorem s_l18Copy_eq (t0 : impl_Log) : s_l18Copy t0 =
  if 0 + List.length t0.List ≤ room then
    some ((impl_Log.mk t0.Base t0.BaseTerm (List.append [] t0.List)), ())
  else none := (lim_eq tab 59 (t0, ())).trans (by kernel_rfl)
theorem s_TermAt_eq (t0 : impl_Log) (t1 : Int) : s_TermAt t0 t1 =
  if (decide (t1 = t0.Base)) = true then
    some (t0.BaseTerm, ())
  else
    (s_l18At t0 t1).bind fun (r0 : Int × Unit) =>
    if (decide (r0.1 < 0)) = true then
      some ((-1), ())
    else
      if (0 : Int) ≤ r0.1 ∧ r0.1 < (List.length t0.List : Int) then
        some ((List.getD t0.List r0.1.toNat z_impl_Entry).Term, ())
      else none := (lim_eq tab 60 (t0, (t1, ()))).trans (by kernel_rfl)
theorem i_cloneLog_eq (t0 : impl_Log) : i_cloneLog t0 =
  (x_slices_Clone_impl_Entry t0.List).bind fun (r0 : (List impl_Entry) × Unit) =>
  some ((impl_Log.mk t0.Base t0.BaseTerm r0.1), ()) := (lim_eq tab 61 (t0, ())).trans (by kernel_rfl)
theorem i_TermAt_eq (t0 : impl_Log) (t1 : Int) : i_TermAt t0 t1 =
  (i_there t0).bind fun (r0 : (List impl_Entry) × Unit) =>
  if (decide (t1 = t0.Base)) = true then
    some (t0.BaseTerm, ())
  else
    if (decide (t1 > t0.Base)) = true then
      if (decide ((List.length r0.1 : Int) > 0)) = true then
        if (decide (t1 ≤ (w64 (t0.Base + (List.length r0.1 : Int))))) = true then
          if (0 : Int) ≤ (w64 ((w64 (t1 - t0.Base)) - 1)) ∧ (w64 ((w64 (t1 - t0.Base)) - 1)) < (List.length r0.1 : Int) then
            some ((List.getD r0.1 (w64 ((w64 (t1 - t0.Base)) - 1)).toNat z_impl_Entry).Term, ())
          else none
        else
          some ((-1), ())
      else
        some ((-1), ())
    else
      some ((-1), ()) := (lim_eq tab 62 (t0, (t1, ()))).trans (by kernel_rfl)
theorem l_eqEntry_eq (t0 : impl_Entry) (t1 : impl_Entry) : l_eqEntry t0 t1 =
  if (!(decide (t0.Term = t1.Term))) = true then
    some (false, ())
  else
    (l_eqCmd t0.C t1.C).bind fun (r0 : Bool × Unit) =>
    if (!r0.1) = true then
      some (false, ())
    else
      some (true, ()) := (lim_eq tab 63 (t0, (t1, ()))).trans (by kernel_rfl)
theorem l_markText_eq (t0 : Int) : l_markText t0 =
  if (decide (t0 ≤ 0)) = true then
    some ([109, 48], ())
  else
    l_markText_L1 t0 [] := (lim_eq tab 64 (t0, ())).trans (by kernel_rfl)
theorem l_markText_L1_eq (t0 : Int) (t3 : (List Int)) : l_markText_L1 t0 t3 =
  if (decide (t0 > 0)) = true then
    if List.length [(w8 (w64 (48 + (Int.tmod t0 10))))] + List.length t3 ≤ 9223372036854775807 then
      l_markText_L1 (w64 (Int.tdiv t0 10)) ([(w8 (w64 (48 + (Int.tmod t0 10))))] ++ t3)
    else none
  else
    if List.length [109] + List.length t3 ≤ 9223372036854775807 then
      some (([109] ++ t3), ())
    else none := (lim_eq tab 65 (t0, (t3, ()))).trans (by kernel_rfl)
theorem l_heldEntryS_eq (t0 : (List impl_Entry)) (t1 : Int) : l_heldEntryS t0 t1 =
  l_heldEntryS_L1 t0 t1 0 := (lim_eq tab 66 (t0, (t1, ()))).trans (by kernel_rfl)
theorem l_heldEntryS_L1_eq (t0 : (List impl_Entry)) (t1 : Int) (t5 : Int) : l_heldEntryS_L1 t0 t1 t5 =
  if (decide (t5 < (List.length t0 : Int))) = true then
    if (0 : Int) ≤ t5 ∧ t5 < (List.length t0 : Int) then
      if (!(decide (((List.getD t0 t5.toNat z_impl_Entry).Term) = t1))) = true then
        some ((-1), ())
      else
        if (0 : Int) ≤ t5 ∧ t5 < (List.length t0 : Int) then
          if (!(decide ((((List.getD t0 t5.toNat z_impl_Entry).C).Who) = (w64 (t1 + 1))))) = true then
            some ((-1), ())
          else
            if (0 : Int) ≤ t5 ∧ t5 < (List.length t0 : Int) then
              if (!(decide ((((List.getD t0 t5.toNat z_impl_Entry).C).Seq) = (w64 ((w64 (t1 + 1)) + 1))))) = true then
                some ((-1), ())
              else
                if (0 : Int) ≤ t5 ∧ t5 < (List.length t0 : Int) then
                  (l_markText (w64 ((w64 ((w64 (t1 + 1)) + 1)) + 1))).bind fun (r0 : (List Int) × Unit) =>
                  if (!(decide ((((List.getD t0 t5.toNat z_impl_Entry).C).Line) = r0.1))) = true then
                    some ((-1), ())
                  else
                    l_heldEntryS_L1 t0 (w64 ((w64 ((w64 ((w64 (t1 + 1)) + 1)) + 1)) + 1)) (w64 (t5 + 1))
                else none
            else none
        else none
    else none
  else
    some (t1, ()) := (lim_eq tab 67 (t0, (t1, (t5, ())))).trans (by kernel_rfl)
theorem s_l19Body_eq (t0 : impl_Rec) : s_l19Body t0 =
  (s_PutNum t0.Kind).bind fun (r0 : (List Int) × Unit) =>
  (s_PutNum t0.Term).bind fun (r1 : (List Int) × Unit) =>
  if List.length r0.1 + List.length r1.1 ≤ room then
    (s_PutNum (w64 (t0.Vote + 1))).bind fun (r2 : (List Int) × Unit) =>
    if List.length (List.append r0.1 r1.1) + List.length r2.1 ≤ room then
      (s_PutNum t0.Prev).bind fun (r3 : (List Int) × Unit) =>
      if List.length (List.append (List.append r0.1 r1.1) r2.1) + List.length r3.1 ≤ room then
        (s_PutNum (List.length t0.List : Int)).bind fun (r4 : (List Int) × Unit) =>
        if List.length (List.append (List.append (List.append r0.1 r1.1) r2.1) r3.1) + List.length r4.1 ≤ room then
          s_l19Body_L1 (List.append (List.append (List.append (List.append r0.1 r1.1) r2.1) r3.1) r4.1) 0 t0
        else none
      else none
    else none
  else none := (lim_eq tab 68 (t0, ())).trans (by kernel_rfl)
theorem s_l19Body_L1_eq (t3 : (List Int)) (t4 : Int) (s16 : impl_Rec) : s_l19Body_L1 t3 t4 s16 =
  if (decide (t4 < (List.length s16.List : Int))) = true then
    if (0 : Int) ≤ t4 ∧ t4 < (List.length s16.List : Int) then
      (s_PutNum ((List.getD s16.List t4.toNat z_impl_Entry).Term)).bind fun (r0 : (List Int) × Unit) =>
      if List.length t3 + List.length r0.1 ≤ room then
        (s_PutNum (w64 ((((List.getD s16.List t4.toNat z_impl_Entry).C).Who) + 1))).bind fun (r1 : (List Int) × Unit) =>
        if List.length (List.append t3 r0.1) + List.length r1.1 ≤ room then
          (s_PutNum (((List.getD s16.List t4.toNat z_impl_Entry).C).Seq)).bind fun (r2 : (List Int) × Unit) =>
          if List.length (List.append (List.append t3 r0.1) r1.1) + List.length r2.1 ≤ room then
            (s_PutText (((List.getD s16.List t4.toNat z_impl_Entry).C).Line)).bind fun (r3 : (List Int) × Unit) =>
            if List.length (List.append (List.append (List.append t3 r0.1) r1.1) r2.1) + List.length r3.1 ≤ room then
              s_l19Body_L1 (List.append (List.append (List.append (List.append t3 r0.1) r1.1) r2.1) r3.1) (w64 (t4 + 1)) s16
            else none
          else none
        else none
      else none
    else none
  else
    (s_PutText s16.Snap).bind fun (r4 : (List Int) × Unit) =>
    if List.length t3 + List.length r4.1 ≤ room then
      some ((List.append t3 r4.1), ())
    else none := (lim_eq tab 69 (t3, (t4, (s16, ())))).trans (by kernel_rfl)
theorem s_PutNum_eq (t0 : Int) : s_PutNum t0 =
  (s_l1In t0 0 4611686018427387903).bind fun (r0 : Bool × Unit) =>
  if (!r0.1) = true then
    some ([], ())
  else
    s_PutNum_L1 t0 [] := (lim_eq tab 70 (t0, ())).trans (by kernel_rfl)
theorem s_PutNum_L1_eq (t0 : Int) (t3 : (List Int)) : s_PutNum_L1 t0 t3 =
  if (decide (t0 > 127)) = true then
    if List.length t3 + 1 ≤ room then
      s_PutNum_L1 (w64 (Int.tdiv t0 128)) (List.append t3 [(w8 (w64 ((Int.tmod t0 128) + 128)))])
    else none
  else
    if List.length t3 + 1 ≤ room then
      some ((List.append t3 [(w8 t0)]), ())
    else none := (lim_eq tab 71 (t0, (t3, ()))).trans (by kernel_rfl)
theorem s_l19Sum_eq (t0 : (List Int)) : s_l19Sum t0 =
  (s_SumOf t0).bind fun (r0 : Int × Unit) =>
  some ([(w8 r0.1), (w8 (shrI .i64 r0.1 8)), (w8 (shrI .i64 r0.1 16)), (w8 (shrI .i64 r0.1 24))], ()) := (lim_eq tab 72 (t0, ())).trans (by kernel_rfl)
theorem i_PutNum_eq (t0 : Int) : i_PutNum t0 =
  (i_in t0 0 4611686018427387903).bind fun (r0 : Bool × Unit) =>
  if (!r0.1) = true then
    some ([], ())
  else
    i_PutNum_L1 t0 [] := (lim_eq tab 73 (t0, ())).trans (by kernel_rfl)
theorem i_PutNum_L1_eq (t0 : Int) (t3 : (List Int)) : i_PutNum_L1 t0 t3 =
  if (decide (t0 > 127)) = true then
    if List.length t3 + 1 ≤ room then
      i_PutNum_L1 (shrI .i64 t0 7) (List.append t3 [(w8 (bits .or .i64 (bits .and .i64 t0 127) 128))])
    else none
  else
    if List.length t3 + 1 ≤ room then
      some ((List.append t3 [(w8 t0)]), ())
    else none := (lim_eq tab 74 (t0, (t3, ()))).trans (by kernel_rfl)
theorem i_PutText_eq (t0 : (List Int)) : i_PutText t0 =
  (i_PutNum (List.length t0 : Int)).bind fun (r0 : (List Int) × Unit) =>
  if List.length r0.1 + List.length t0 ≤ room then
    some ((List.append r0.1 t0), ())
  else none := (lim_eq tab 75 (t0, ())).trans (by kernel_rfl)
theorem i_SumOf_eq (t0 : (List Int)) : i_SumOf t0 =
  i_SumOf_L1 1 0 t0 (List.length t0 : Int) 0 := (lim_eq tab 76 (t0, ())).trans (by kernel_rfl)
theorem i_SumOf_L1_eq (t3 : Int) (t4 : Int) (t7 : (List Int)) (t8 : Int) (t9 : Int) : i_SumOf_L1 t3 t4 t7 t8 t9 =
  if (decide (t9 < t8)) = true then
    if (0 : Int) ≤ t9 ∧ t9 < (List.length t7 : Int) then
      i_SumOf_L1 (Int.tmod (w64 (t3 + (w64 (List.getD t7 t9.toNat 0)))) 65521) (Int.tmod (w64 (t4 + (Int.tmod (w64 (t3 + (w64 (List.getD t7 t9.toNat 0)))) 65521))) 65521) t7 t8 (w64 (t9 + 1))
    else none
  else
    some ((w64 ((w64 (t4 * 65536)) + t3)), ()) := (lim_eq tab 77 (t3, (t4, (t7, (t8, (t9, ())))))).trans (by kernel_rfl)
theorem s_l9Line_eq (t0 : (List Int)) : s_l9Line t0 =
  s_l9Line_L1 t0 0 := (lim_eq tab 78 (t0, ())).trans (by kernel_rfl)
theorem s_l9Line_L1_eq (t0 : (List Int)) (t3 : Int) : s_l9Line_L1 t0 t3 =
  if (decide (t3 < (List.length t0 : Int))) = true then
    if (0 : Int) ≤ t3 ∧ t3 < (List.length t0 : Int) then
      if (decide ((List.getD t0 t3.toNat 0) = 10)) = true then
        some (false, ())
      else
        s_l9Line_L1 t0 (w64 (t3 + 1))
    else none
  else
    some (true, ()) := (lim_eq tab 79 (t0, (t3, ()))).trans (by kernel_rfl)
theorem i_lineOk_eq (t0 : (List Int)) : i_lineOk t0 =
  if (decide ((List.length t0 : Int) ≤ 60)) = true then
    (x_strings_Contains t0 [10]).bind fun (r0 : Bool × Unit) =>
    some ((!r0.1), ())
  else
    some (false, ()) := (lim_eq tab 80 (t0, ())).trans (by kernel_rfl)
theorem x_slices_ContainsFunc_impl_Entry_entriesOk_1_eq (t0 : (List impl_Entry)) (s16 : Int) : x_slices_ContainsFunc_impl_Entry_entriesOk_1 t0 s16 =
  (x_slices_IndexFunc_impl_Entry_entriesOk_1 t0 s16).bind fun (r0 : Int × Int × Unit) =>
  some ((decide (r0.1 ≥ 0)), r0.2.1, ()) := (lim_eq tab 81 (t0, (s16, ()))).trans (by kernel_rfl)
theorem l_szCmd_eq (t0 : laws_Cmd) (t1 : Int) : l_szCmd t0 t1 =
  if (decide ((w64 (t1 - (List.length t0.Line : Int))) < 0)) = true then
    some ((-1), ())
  else
    some ((w64 (t1 - (List.length t0.Line : Int))), ()) := (lim_eq tab 82 (t0, (t1, ()))).trans (by kernel_rfl)
theorem l_toCmd_eq (t0 : laws_Cmd) : l_toCmd t0 =
  some ((impl_Cmd.mk t0.Who t0.Seq t0.Line), ()) := (lim_eq tab 83 (t0, ())).trans (by kernel_rfl)
theorem s_l18At_eq (t0 : impl_Log) (t1 : Int) : s_l18At t0 t1 =
  if (decide (t1 ≤ t0.Base)) = true then
    some ((-1), ())
  else
    if (decide (t1 > 300)) = true then
      some ((-1), ())
    else
      if (decide (t0.Base < 0)) = true then
        some ((-1), ())
      else
        if (decide ((w64 ((w64 (t1 - t0.Base)) - 1)) ≥ (List.length t0.List : Int))) = true then
          some ((-1), ())
        else
          some ((w64 ((w64 (t1 - t0.Base)) - 1)), ()) := (lim_eq tab 84 (t0, (t1, ()))).trans (by kernel_rfl)
theorem x_slices_Clone_impl_Entry_eq (t0 : (List impl_Entry)) : x_slices_Clone_impl_Entry t0 =
  if (Nat.beq (List.length t0) 0) = true then
    amb (
      some ([], ()))
    (
      if 0 + List.length t0 ≤ room then
        some ((List.append [] t0), ())
      else none)
  else
    if 0 + List.length t0 ≤ room then
      some ((List.append [] t0), ())
    else none := (lim_eq tab 85 (t0, ())).trans (by kernel_rfl)
theorem i_there_eq (t0 : impl_Log) : i_there t0 =
  (i_isIndex t0.Base).bind fun (r0 : Bool × Unit) =>
  if (!r0.1) = true then
    some ([], ())
  else
    if (0 : Int) ≤ (mnI (List.length t0.List : Int) (w64 (300 - t0.Base))) ∧ (mnI (List.length t0.List : Int) (w64 (300 - t0.Base))) ≤ (List.length t0.List : Int) then
      some ((List.take ((mnI (List.length t0.List : Int) (w64 (300 - t0.Base))).toNat - 0) (List.drop 0 t0.List)), ())
    else none := (lim_eq tab 86 (t0, ())).trans (by kernel_rfl)
theorem l_eqCmd_eq (t0 : impl_Cmd) (t1 : impl_Cmd) : l_eqCmd t0 t1 =
  if (!(decide (t0.Who = t1.Who))) = true then
    some (false, ())
  else
    if (!(decide (t0.Seq = t1.Seq))) = true then
      some (false, ())
    else
      if (!(decide (t0.Line = t1.Line))) = true then
        some (false, ())
      else
        some (true, ()) := (lim_eq tab 87 (t0, (t1, ()))).trans (by kernel_rfl)
theorem s_PutText_eq (t0 : (List Int)) : s_PutText t0 =
  (s_PutNum (List.length t0 : Int)).bind fun (r0 : (List Int) × Unit) =>
  if (List.length t0 : Nat) ≤ room then
    if List.length r0.1 + List.length t0 ≤ room then
      some ((List.append r0.1 t0), ())
    else none
  else none := (lim_eq tab 88 (t0, ())).trans (by kernel_rfl)
theorem s_SumOf_eq (t0 : (List Int)) : s_SumOf t0 =
  s_SumOf_L1 t0 1 0 0 := (lim_eq tab 89 (t0, ())).trans (by kernel_rfl)
theorem s_SumOf_L1_eq (t0 : (List Int)) (t3 : Int) (t4 : Int) (t5 : Int) : s_SumOf_L1 t0 t3 t4 t5 =
  if (decide (t5 < (List.length t0 : Int))) = true then
    if (0 : Int) ≤ t5 ∧ t5 < (List.length t0 : Int) then
      s_SumOf_L1 t0 (Int.tmod (w64 (t3 + (w64 (List.getD t0 t5.toNat 0)))) 65521) (Int.tmod (w64 (t4 + (Int.tmod (w64 (t3 + (w64 (List.getD t0 t5.toNat 0)))) 65521))) 65521) (w64 (t5 + 1))
    else none
  else
    some ((w64 ((w64 (t4 * 65536)) + t3)), ()) := (lim_eq tab 90 (t0, (t3, (t4, (t5, ()))))).trans (by kernel_rfl)
theorem x_strings_Contains_eq (t0 : (List Int)) (t1 : (List Int)) : x_strings_Contains t0 t1 =
  (x_strings_Index t0 t1).bind fun (r0 : Int × Unit) =>
  some ((decide (r0.1 ≥ 0)), ()) := (lim_eq tab 91 (t0, (t1, ()))).trans (by kernel_rfl)
theorem x_slices_IndexFunc_impl_Entry_entriesOk_1_eq (t0 : (List impl_Entry)) (s16 : Int) : x_slices_IndexFunc_impl_Entry_entriesOk_1 t0 s16 =
  x_slices_IndexFunc_impl_Entry_entriesOk_1_L1 t0 (List.length t0 : Int) 0 s16 := (lim_eq tab 92 (t0, (s16, ()))).trans (by kernel_rfl)
theorem x_slices_IndexFunc_impl_Entry_entriesOk_1_L1_eq (t0 : (List impl_Entry)) (t7 : Int) (t8 : Int) (s16 : Int) : x_slices_IndexFunc_impl_Entry_entriesOk_1_L1 t0 t7 t8 s16 =
  if (decide (t8 < t7)) = true then
    if (0 : Int) ≤ t8 ∧ t8 < (List.length t0 : Int) then
      (i_entriesOk_1 (List.getD t0 t8.toNat z_impl_Entry) s16).bind fun (r0 : Bool × Int × Unit) =>
      if r0.1 = true then
        some (t8, r0.2.1, ())
      else
        x_slices_IndexFunc_impl_Entry_entriesOk_1_L1 t0 t7 (w64 (t8 + 1)) r0.2.1
    else none
  else
    some ((-1), s16, ()) := (lim_eq tab 93 (t0, (t7, (t8, (s16, ()))))).trans (by kernel_rfl)
theorem x_strings_Index_eq (t0 : (List Int)) (t1 : (List Int)) : x_strings_Index t0 t1 =
  (x_internal_stringslite_Index t0 t1).bind fun (r0 : Int × Unit) =>
  some (r0.1, ()) := (lim_eq tab 94 (t0, (t1, ()))).trans (by kernel_rfl)
theorem i_entriesOk_1_eq (t0 : impl_Entry) (s16 : Int) : i_entriesOk_1 t0 s16 =
  (i_in t0.Term 0 s16).bind fun (r0 : Bool × Unit) =>
  if (!r0.1) = true then
    some (true, s16, ())
  else
    (i_CmdOk t0.C).bind fun (r1 : Bool × Unit) =>
    some ((!r1.1), s16, ()) := (lim_eq tab 95 (t0, (s16, ()))).trans (by kernel_rfl)
theorem x_internal_stringslite_Index_eq (t0 : (List Int)) (t1 : (List Int)) : x_internal_stringslite_Index t0 t1 =
  if (decide ((List.length t1 : Int) = 0)) = true then
    some (0, ())
  else
    if (decide (t1 = t0)) = true then
      some (0, ())
    else
      if (decide ((List.length t1 : Int) = 1)) = true then
        if (0 : Int) ≤ 0 ∧ (0 : Int) < (List.length t1 : Int) then
          (x_internal_stringslite_IndexByte t0 (List.getD t1 0 0)).bind fun (r0 : Int × Unit) =>
          some (r0.1, ())
        else none
      else
        if (decide ((List.length t1 : Int) ≥ (List.length t0 : Int))) = true then
          some ((-1), ())
        else
          none := (lim_eq tab 96 (t0, (t1, ()))).trans (by kernel_rfl)
theorem x_internal_stringslite_IndexByte_eq (t0 : (List Int)) (t1 : Int) : x_internal_stringslite_IndexByte t0 t1 =
  (x_internal_bytealg_IndexByteString t0 t1).bind fun (r0 : Int × Unit) =>
  some (r0.1, ()) := (lim_eq tab 97 (t0, (t1, ()))).trans (by kernel_rfl)
theorem x_internal_bytealg_IndexByteString_eq (t0 : (List Int)) (t1 : Int) : x_internal_bytealg_IndexByteString t0 t1 =
  some ((idxI t0 t1), ()) := (lim_eq tab 98 (t0, (t1, ()))).trans (by kernel_rfl)
end Go.Proofs.Ytajahbpeiifcbaa.E.TB
