/- The keys' plain equations (1). No condition. -/
import Derived.Test.YtlidpmhmchbilaaTEe0
namespace Go.Proofs.Ytlidpmhmchbilaa.E.TE
open Go.Proofs.Ytlidpmhmchbilaa.E
set_option linter.unusedVariables false
set_option maxRecDepth 100000
theorem l_FnExactRecs_eq (t0 : (List Int)) : l_FnExactRecs t0 =
  if (decide ((List.length t0 : Int) > 1048576)) = true then
    some (true, ())
  else
    (l_toByteS t0).bind fun (r0 : (List Int) × Unit) =>
    (s_Recs r0.1).bind fun (r1 : (List impl_Rec) × Int × Unit) =>
    (l_toByteS t0).bind fun (r2 : (List Int) × Unit) =>
    (i_Recs r2.1).bind fun (r3 : (List impl_Rec) × Int × Unit) =>
    (l_eqRecS r3.1 r1.1).bind fun (r4 : Bool × Unit) =>
    if (!r4.1) = true then
      some (false, ())
    else
      if (!(decide (r3.2.1 = r1.2.1))) = true then
        some (false, ())
      else
        (l_toByteS t0).bind fun (r5 : (List Int) × Unit) =>
        (l_eqByteS r2.1 r5.1).bind fun (r6 : Bool × Unit) =>
        if (!r6.1) = true then
          some (false, ())
        else
          (l_markByteS r2.1 1).bind fun (r7 : Int × Unit) =>
          if (decide (r7.1 < 0)) = true then
            some (false, ())
          else
            (l_eqRecS r3.1 r1.1).bind fun (r8 : Bool × Unit) =>
            if (!r8.1) = true then
              some (false, ())
            else
              if (!(decide (r3.2.1 = r1.2.1))) = true then
                some (false, ())
              else
                (l_markRecS r3.1 1).bind fun (r9 : Int × (List impl_Rec) × Unit) =>
                (l_heldRecS r9.2.1 1).bind fun (r10 : Int × Unit) =>
                if (decide (r10.1 < 0)) = true then
                  some (false, ())
                else
                  if (!(decide (r10.1 = r9.1))) = true then
                    some (false, ())
                  else
                    (l_toByteS t0).bind fun (r11 : (List Int) × Unit) =>
                    (i_Recs r11.1).bind fun (r12 : (List impl_Rec) × Int × Unit) =>
                    (l_eqRecS r12.1 r1.1).bind fun (r13 : Bool × Unit) =>
                    if (!r13.1) = true then
                      some (false, ())
                    else
                      if (!(decide (r12.2.1 = r1.2.1))) = true then
                        some (false, ())
                      else
                        (l_heldRecS r9.2.1 1).bind fun (r14 : Int × Unit) =>
                        if (decide (r14.1 < 0)) = true then
                          some (false, ())
                        else
                          if (!(decide (r14.1 = r9.1))) = true then
                            some (false, ())
                          else
                            some (true, ()) := (lim_eq tab 0 (t0, ())).trans (by kernel_rfl)
theorem l_toByteS_eq (t0 : (List Int)) : l_toByteS t0 =
  if (0 : Int) ≤ (List.length t0 : Int) ∧ (List.length t0 : Int) ≤ (List.length t0 : Int) ∧ (List.length t0 : Int) ≤ (room : Int) then
    l_toByteS_L1 t0 (List.replicate (List.length t0 : Int).toNat 0) 0
  else none := (lim_eq tab 1 (t0, ())).trans (by kernel_rfl)
theorem l_toByteS_L1_eq (t0 : (List Int)) (t3 : (List Int)) (t4 : Int) : l_toByteS_L1 t0 t3 t4 =
  if (decide (t4 < (List.length t0 : Int))) = true then
    if (0 : Int) ≤ t4 ∧ t4 < (List.length t0 : Int) then
      if (0 : Int) ≤ t4 ∧ t4 < (List.length t3 : Int) then
        l_toByteS_L1 t0 (List.set t3 t4.toNat (List.getD t0 t4.toNat 0)) (w64 (t4 + 1))
      else none
    else none
  else
    some (t3, ()) := (lim_eq tab 2 (t0, (t3, (t4, ())))).trans (by kernel_rfl)
theorem s_Recs_eq (t0 : (List Int)) : s_Recs t0 =
  s_Recs_L1 t0 [] 0 := (lim_eq tab 3 (t0, ())).trans (by kernel_rfl)
theorem s_Recs_L1_eq (t0 : (List Int)) (t4 : (List impl_Rec)) (t5 : Int) : s_Recs_L1 t0 t4 t5 =
  if (decide (t5 < (List.length t0 : Int))) = true then
    (s_RecOf t0 t5).bind fun (r0 : impl_Rec × Int × Bool × Unit) =>
    if (!r0.2.2.1) = true then
      some (t4, t5, ())
    else
      if List.length t4 + 1 ≤ room then
        s_Recs_L1 t0 (List.append t4 [r0.1]) r0.2.1
      else none
  else
    some (t4, t5, ()) := (lim_eq tab 4 (t0, (t4, (t5, ())))).trans (by kernel_rfl)
theorem i_Recs_eq (t0 : (List Int)) : i_Recs t0 =
  i_Recs_L1 t0 [] 0 := (lim_eq tab 5 (t0, ())).trans (by kernel_rfl)
theorem i_Recs_L1_eq (t0 : (List Int)) (t4 : (List impl_Rec)) (t5 : Int) : i_Recs_L1 t0 t4 t5 =
  (i_RecOf t0 t5).bind fun (r0 : impl_Rec × Int × Bool × Unit) =>
  if (!r0.2.2.1) = true then
    some (t4, t5, ())
  else
    if List.length t4 + 1 ≤ room then
      i_Recs_L1 t0 (List.append t4 [r0.1]) r0.2.1
    else none := (lim_eq tab 6 (t0, (t4, (t5, ())))).trans (by kernel_rfl)
theorem l_eqRecS_eq (t0 : (List impl_Rec)) (t1 : (List impl_Rec)) : l_eqRecS t0 t1 =
  if (!(decide ((List.length t0 : Int) = (List.length t1 : Int)))) = true then
    some (false, ())
  else
    l_eqRecS_L1 t0 t1 0 := (lim_eq tab 7 (t0, (t1, ()))).trans (by kernel_rfl)
theorem l_eqRecS_L1_eq (t0 : (List impl_Rec)) (t1 : (List impl_Rec)) (t5 : Int) : l_eqRecS_L1 t0 t1 t5 =
  if (decide (t5 < (List.length t0 : Int))) = true then
    if (0 : Int) ≤ t5 ∧ t5 < (List.length t0 : Int) then
      if (0 : Int) ≤ t5 ∧ t5 < (List.length t1 : Int) then
        (l_eqRec (List.getD t0 t5.toNat z_impl_Rec) (List.getD t1 t5.toNat z_impl_Rec)).bind fun (r0 : Bool × Unit) =>
        if (!r0.1) = true then
          some (false, ())
        else
          l_eqRecS_L1 t0 t1 (w64 (t5 + 1))
      else none
    else none
  else
    some (true, ()) := (lim_eq tab 8 (t0, (t1, (t5, ())))).trans (by kernel_rfl)
theorem l_eqByteS_eq (t0 : (List Int)) (t1 : (List Int)) : l_eqByteS t0 t1 =
  if (!(decide ((List.length t0 : Int) = (List.length t1 : Int)))) = true then
    some (false, ())
  else
    l_eqByteS_L1 t0 t1 0 := (lim_eq tab 9 (t0, (t1, ()))).trans (by kernel_rfl)
theorem l_eqByteS_L1_eq (t0 : (List Int)) (t1 : (List Int)) (t5 : Int) : l_eqByteS_L1 t0 t1 t5 =
  if (decide (t5 < (List.length t0 : Int))) = true then
    if (0 : Int) ≤ t5 ∧ t5 < (List.length t0 : Int) then
      if (0 : Int) ≤ t5 ∧ t5 < (List.length t1 : Int) then
        if (!(decide ((List.getD t0 t5.toNat 0) = (List.getD t1 t5.toNat 0)))) = true then
          some (false, ())
        else
          l_eqByteS_L1 t0 t1 (w64 (t5 + 1))
      else none
    else none
  else
    some (true, ()) := (lim_eq tab 10 (t0, (t1, (t5, ())))).trans (by kernel_rfl)
theorem l_markByteS_eq (t0 : (List Int)) (t1 : Int) : l_markByteS t0 t1 =
  l_markByteS_L1 t0 t1 0 := (lim_eq tab 11 (t0, (t1, ()))).trans (by kernel_rfl)
theorem l_markByteS_L1_eq (t0 : (List Int)) (t1 : Int) (t5 : Int) : l_markByteS_L1 t0 t1 t5 =
  if (decide (t5 < (List.length t0 : Int))) = true then
    if (0 : Int) ≤ t5 ∧ t5 < (List.length t0 : Int) then
      l_markByteS_L1 (List.set t0 t5.toNat (w8 t1)) (w64 (t1 + 1)) (w64 (t5 + 1))
    else none
  else
    some (t1, ()) := (lim_eq tab 12 (t0, (t1, (t5, ())))).trans (by kernel_rfl)
theorem l_markRecS_eq (t0 : (List impl_Rec)) (t1 : Int) : l_markRecS t0 t1 =
  l_markRecS_L1 t0 t1 0 := (lim_eq tab 13 (t0, (t1, ()))).trans (by kernel_rfl)
theorem l_markRecS_L1_eq (t0 : (List impl_Rec)) (t1 : Int) (t5 : Int) : l_markRecS_L1 t0 t1 t5 =
  if (decide (t5 < (List.length t0 : Int))) = true then
    if (0 : Int) ≤ t5 ∧ t5 < (List.length t0 : Int) then
      let v0 : (List impl_Rec) := (List.set t0 t5.toNat (impl_Rec.mk t1 ((List.getD t0 t5.toNat z_impl_Rec).Term) ((List.getD t0 t5.toNat z_impl_Rec).Vote) ((List.getD t0 t5.toNat z_impl_Rec).Prev) ((List.getD t0 t5.toNat z_impl_Rec).List) ((List.getD t0 t5.toNat z_impl_Rec).Snap)))
      if (0 : Int) ≤ t5 ∧ t5 < (List.length v0 : Int) then
        let v1 : (List impl_Rec) := (List.set v0 t5.toNat (impl_Rec.mk ((List.getD v0 t5.toNat z_impl_Rec).Kind) (w64 (t1 + 1)) ((List.getD v0 t5.toNat z_impl_Rec).Vote) ((List.getD v0 t5.toNat z_impl_Rec).Prev) ((List.getD v0 t5.toNat z_impl_Rec).List) ((List.getD v0 t5.toNat z_impl_Rec).Snap)))
        if (0 : Int) ≤ t5 ∧ t5 < (List.length v1 : Int) then
          let v2 : (List impl_Rec) := (List.set v1 t5.toNat (impl_Rec.mk ((List.getD v1 t5.toNat z_impl_Rec).Kind) ((List.getD v1 t5.toNat z_impl_Rec).Term) (w64 ((w64 (t1 + 1)) + 1)) ((List.getD v1 t5.toNat z_impl_Rec).Prev) ((List.getD v1 t5.toNat z_impl_Rec).List) ((List.getD v1 t5.toNat z_impl_Rec).Snap)))
          if (0 : Int) ≤ t5 ∧ t5 < (List.length v2 : Int) then
            let v3 : (List impl_Rec) := (List.set v2 t5.toNat (impl_Rec.mk ((List.getD v2 t5.toNat z_impl_Rec).Kind) ((List.getD v2 t5.toNat z_impl_Rec).Term) ((List.getD v2 t5.toNat z_impl_Rec).Vote) (w64 ((w64 ((w64 (t1 + 1)) + 1)) + 1)) ((List.getD v2 t5.toNat z_impl_Rec).List) ((List.getD v2 t5.toNat z_impl_Rec).Snap)))
            if (0 : Int) ≤ t5 ∧ t5 < (List.length v3 : Int) then
              (l_markEntryS ((List.getD v3 t5.toNat z_impl_Rec).List) (w64 ((w64 ((w64 ((w64 (t1 + 1)) + 1)) + 1)) + 1))).bind fun (r0 : Int × (List impl_Entry) × Unit) =>
              (l_markText r0.1).bind fun (r1 : (List Int) × Unit) =>
              if (0 : Int) ≤ t5 ∧ t5 < (List.length (List.set v3 t5.toNat (impl_Rec.mk ((List.getD v3 t5.toNat z_impl_Rec).Kind) ((List.getD v3 t5.toNat z_impl_Rec).Term) ((List.getD v3 t5.toNat z_impl_Rec).Vote) ((List.getD v3 t5.toNat z_impl_Rec).Prev) r0.2.1 ((List.getD v3 t5.toNat z_impl_Rec).Snap))) : Int) then
                let v4 : (List impl_Rec) := (List.set (List.set v3 t5.toNat (impl_Rec.mk ((List.getD v3 t5.toNat z_impl_Rec).Kind) ((List.getD v3 t5.toNat z_impl_Rec).Term) ((List.getD v3 t5.toNat z_impl_Rec).Vote) ((List.getD v3 t5.toNat z_impl_Rec).Prev) r0.2.1 ((List.getD v3 t5.toNat z_impl_Rec).Snap))) t5.toNat (impl_Rec.mk ((List.getD (List.set v3 t5.toNat (impl_Rec.mk ((List.getD v3 t5.toNat z_impl_Rec).Kind) ((List.getD v3 t5.toNat z_impl_Rec).Term) ((List.getD v3 t5.toNat z_impl_Rec).Vote) ((List.getD v3 t5.toNat z_impl_Rec).Prev) r0.2.1 ((List.getD v3 t5.toNat z_impl_Rec).Snap))) t5.toNat z_impl_Rec).Kind) ((List.getD (List.set v3 t5.toNat (impl_Rec.mk ((List.getD v3 t5.toNat z_impl_Rec).Kind) ((List.getD v3 t5.toNat z_impl_Rec).Term) ((List.getD v3 t5.toNat z_impl_Rec).Vote) ((List.getD v3 t5.toNat z_impl_Rec).Prev) r0.2.1 ((List.getD v3 t5.toNat z_impl_Rec).Snap))) t5.toNat z_impl_Rec).Term) ((List.getD (List.set v3 t5.toNat (impl_Rec.mk ((List.getD v3 t5.toNat z_impl_Rec).Kind) ((List.getD v3 t5.toNat z_impl_Rec).Term) ((List.getD v3 t5.toNat z_impl_Rec).Vote) ((List.getD v3 t5.toNat z_impl_Rec).Prev) r0.2.1 ((List.getD v3 t5.toNat z_impl_Rec).Snap))) t5.toNat z_impl_Rec).Vote) ((List.getD (List.set v3 t5.toNat (impl_Rec.mk ((List.getD v3 t5.toNat z_impl_Rec).Kind) ((List.getD v3 t5.toNat z_impl_Rec).Term) ((List.getD v3 t5.toNat z_impl_Rec).Vote) ((List.getD v3 t5.toNat z_impl_Rec).Prev) r0.2.1 ((List.getD v3 t5.toNat z_impl_Rec).Snap))) t5.toNat z_impl_Rec).Prev) ((List.getD (List.set v3 t5.toNat (impl_Rec.mk ((List.getD v3 t5.toNat z_impl_Rec).Kind) ((List.getD v3 t5.toNat z_impl_Rec).Term) ((List.getD v3 t5.toNat z_impl_Rec).Vote) ((List.getD v3 t5.toNat z_impl_Rec).Prev) r0.2.1 ((List.getD v3 t5.toNat z_impl_Rec).Snap))) t5.toNat z_impl_Rec).List) r1.1))
                l_markRecS_L1 v4 (w64 (r0.1 + 1)) (w64 (t5 + 1))
              else none
            else none
          else none
        else none
      else none
    else none
  else
    some (t1, t0, ()) := (lim_eq tab 14 (t0, (t1, (t5, ())))).trans (by kernel_rfl)
theorem l_heldRecS_eq (t0 : (List impl_Rec)) (t1 : Int) : l_heldRecS t0 t1 =
  l_heldRecS_L1 t0 t1 0 := (lim_eq tab 15 (t0, (t1, ()))).trans (by kernel_rfl)
theorem l_heldRecS_L1_eq (t0 : (List impl_Rec)) (t1 : Int) (t5 : Int) : l_heldRecS_L1 t0 t1 t5 =
  if (decide (t5 < (List.length t0 : Int))) = true then
    if (0 : Int) ≤ t5 ∧ t5 < (List.length t0 : Int) then
      if (!(decide (((List.getD t0 t5.toNat z_impl_Rec).Kind) = t1))) = true then
        some ((-1), ())
      else
        if (0 : Int) ≤ t5 ∧ t5 < (List.length t0 : Int) then
          if (!(decide (((List.getD t0 t5.toNat z_impl_Rec).Term) = (w64 (t1 + 1))))) = true then
            some ((-1), ())
          else
            if (0 : Int) ≤ t5 ∧ t5 < (List.length t0 : Int) then
              if (!(decide (((List.getD t0 t5.toNat z_impl_Rec).Vote) = (w64 ((w64 (t1 + 1)) + 1))))) = true then
                some ((-1), ())
              else
                if (0 : Int) ≤ t5 ∧ t5 < (List.length t0 : Int) then
                  if (!(decide (((List.getD t0 t5.toNat z_impl_Rec).Prev) = (w64 ((w64 ((w64 (t1 + 1)) + 1)) + 1))))) = true then
                    some ((-1), ())
                  else
                    if (0 : Int) ≤ t5 ∧ t5 < (List.length t0 : Int) then
                      (l_heldEntryS ((List.getD t0 t5.toNat z_impl_Rec).List) (w64 ((w64 ((w64 ((w64 (t1 + 1)) + 1)) + 1)) + 1))).bind fun (r0 : Int × Unit) =>
                      if (decide (r0.1 < 0)) = true then
                        some ((-1), ())
                      else
                        if (0 : Int) ≤ t5 ∧ t5 < (List.length t0 : Int) then
                          (l_markText r0.1).bind fun (r1 : (List Int) × Unit) =>
                          if (!(decide (((List.getD t0 t5.toNat z_impl_Rec).Snap) = r1.1))) = true then
                            some ((-1), ())
                          else
                            l_heldRecS_L1 t0 (w64 (r0.1 + 1)) (w64 (t5 + 1))
                        else none
                    else none
                else none
            else none
        else none
    else none
  else
    some (t1, ()) := (lim_eq tab 16 (t0, (t1, (t5, ())))).trans (by kernel_rfl)
theorem s_RecOf_eq (t0 : (List Int)) (t1 : Int) : s_RecOf t0 t1 =
  (s_GetNum t0 t1).bind fun (r0 : Int × Int × Bool × Unit) =>
  if (!r0.2.2.1) = true then
    some ((impl_Rec.mk 0 0 0 0 [] []), 0, false, ())
  else
    if (decide (r0.1 > (w64 ((w64 ((List.length t0 : Int) - r0.2.1)) - 4)))) = true then
      some ((impl_Rec.mk 0 0 0 0 [] []), 0, false, ())
    else
      if (0 : Int) ≤ r0.2.1 ∧ r0.2.1 ≤ (w64 (r0.2.1 + r0.1)) ∧ (w64 (r0.2.1 + r0.1)) ≤ (List.length t0 : Int) then
        (s_l19Sum (List.take ((w64 (r0.2.1 + r0.1)).toNat - r0.2.1.toNat) (List.drop r0.2.1.toNat t0))).bind fun (r1 : (List Int) × Unit) =>
        if (0 : Int) ≤ (w64 (r0.2.1 + r0.1)) ∧ (w64 (r0.2.1 + r0.1)) ≤ (w64 ((w64 (r0.2.1 + r0.1)) + 4)) ∧ (w64 ((w64 (r0.2.1 + r0.1)) + 4)) ≤ (List.length t0 : Int) then
          if (!(decide (r1.1 = (List.take ((w64 ((w64 (r0.2.1 + r0.1)) + 4)).toNat - (w64 (r0.2.1 + r0.1)).toNat) (List.drop (w64 (r0.2.1 + r0.1)).toNat t0))))) = true then
            some ((impl_Rec.mk 0 0 0 0 [] []), 0, false, ())
          else
            (s_l19Read (spec_l17Cur.mk (List.take ((w64 (r0.2.1 + r0.1)).toNat - r0.2.1.toNat) (List.drop r0.2.1.toNat t0)) 0 true)).bind fun (r2 : impl_Rec × spec_l17Cur × Unit) =>
            if (!r2.2.1.ok) = true then
              some ((impl_Rec.mk 0 0 0 0 [] []), 0, false, ())
            else
              if (!(decide (r2.2.1.at_ = (List.length (List.take ((w64 (r0.2.1 + r0.1)).toNat - r0.2.1.toNat) (List.drop r0.2.1.toNat t0)) : Int)))) = true then
                some ((impl_Rec.mk 0 0 0 0 [] []), 0, false, ())
              else
                (s_RecOk r2.1).bind fun (r3 : Bool × Unit) =>
                if (!r3.1) = true then
                  some ((impl_Rec.mk 0 0 0 0 [] []), 0, false, ())
                else
                  some (r2.1, (w64 ((w64 (r0.2.1 + r0.1)) + 4)), true, ())
        else none
      else none := (lim_eq tab 17 (t0, (t1, ()))).trans (by kernel_rfl)
theorem i_RecOf_eq (t0 : (List Int)) (t1 : Int) : i_RecOf t0 t1 =
  (i_GetNum t0 t1).bind fun (r0 : Int × Int × Bool × Unit) =>
  if (!r0.2.2.1) = true then
    some ((impl_Rec.mk 0 0 0 0 [] []), 0, false, ())
  else
    if (decide (r0.1 > (w64 ((w64 ((List.length t0 : Int) - r0.2.1)) - 4)))) = true then
      some ((impl_Rec.mk 0 0 0 0 [] []), 0, false, ())
    else
      if (0 : Int) ≤ r0.2.1 ∧ r0.2.1 ≤ (w64 (r0.2.1 + r0.1)) ∧ (w64 (r0.2.1 + r0.1)) ≤ (List.length t0 : Int) then
        (i_source_rec (impl_source.mk (List.take ((w64 (r0.2.1 + r0.1)).toNat - r0.2.1.toNat) (List.drop r0.2.1.toNat t0)) 0 false)).bind fun (r1 : impl_Rec × impl_source × Unit) =>
        if r1.2.1.bad = true then
          some ((impl_Rec.mk 0 0 0 0 [] []), 0, false, ())
        else
          if (!(decide (r1.2.1.at_ = r0.1))) = true then
            some ((impl_Rec.mk 0 0 0 0 [] []), 0, false, ())
          else
            (i_RecBytes r1.1).bind fun (r2 : (List Int) × Unit) =>
            if (0 : Int) ≤ t1 ∧ t1 ≤ (w64 ((w64 (r0.2.1 + r0.1)) + 4)) ∧ (w64 ((w64 (r0.2.1 + r0.1)) + 4)) ≤ (List.length t0 : Int) then
              (x_slices_Equal_byte r2.1 (List.take ((w64 ((w64 (r0.2.1 + r0.1)) + 4)).toNat - t1.toNat) (List.drop t1.toNat t0))).bind fun (r3 : Bool × Unit) =>
              if (!r3.1) = true then
                some ((impl_Rec.mk 0 0 0 0 [] []), 0, false, ())
              else
                some (r1.1, (w64 ((w64 (r0.2.1 + r0.1)) + 4)), true, ())
            else none
      else none := (lim_eq tab 18 (t0, (t1, ()))).trans (by kernel_rfl)
theorem l_eqRec_eq (t0 : impl_Rec) (t1 : impl_Rec) : l_eqRec t0 t1 =
  if (!(decide (t0.Kind = t1.Kind))) = true then
    some (false, ())
  else
    if (!(decide (t0.Term = t1.Term))) = true then
      some (false, ())
    else
      if (!(decide (t0.Vote = t1.Vote))) = true then
        some (false, ())
      else
        if (!(decide (t0.Prev = t1.Prev))) = true then
          some (false, ())
        else
          (l_eqEntryS t0.List t1.List).bind fun (r0 : Bool × Unit) =>
          if (!r0.1) = true then
            some (false, ())
          else
            if (!(decide (t0.Snap = t1.Snap))) = true then
              some (false, ())
            else
              some (true, ()) := (lim_eq tab 19 (t0, (t1, ()))).trans (by kernel_rfl)
theorem l_markEntryS_eq (t0 : (List impl_Entry)) (t1 : Int) : l_markEntryS t0 t1 =
  l_markEntryS_L1 t0 t1 0 := (lim_eq tab 20 (t0, (t1, ()))).trans (by kernel_rfl)
theorem l_markEntryS_L1_eq (t0 : (List impl_Entry)) (t1 : Int) (t5 : Int) : l_markEntryS_L1 t0 t1 t5 =
  if (decide (t5 < (List.length t0 : Int))) = true then
    if (0 : Int) ≤ t5 ∧ t5 < (List.length t0 : Int) then
      if (0 : Int) ≤ t5 ∧ t5 < (List.length (List.set t0 t5.toNat (impl_Entry.mk t1 ((List.getD t0 t5.toNat z_impl_Entry).C))) : Int) then
        let v0 : (List impl_Entry) := (List.set (List.set t0 t5.toNat (impl_Entry.mk t1 ((List.getD t0 t5.toNat z_impl_Entry).C))) t5.toNat (impl_Entry.mk ((List.getD (List.set t0 t5.toNat (impl_Entry.mk t1 ((List.getD t0 t5.toNat z_impl_Entry).C))) t5.toNat z_impl_Entry).Term) (impl_Cmd.mk (w64 (t1 + 1)) (((List.getD (List.set t0 t5.toNat (impl_Entry.mk t1 ((List.getD t0 t5.toNat z_impl_Entry).C))) t5.toNat z_impl_Entry).C).Seq) (((List.getD (List.set t0 t5.toNat (impl_Entry.mk t1 ((List.getD t0 t5.toNat z_impl_Entry).C))) t5.toNat z_impl_Entry).C).Line))))
        if (0 : Int) ≤ t5 ∧ t5 < (List.length v0 : Int) then
          let v1 : (List impl_Entry) := (List.set v0 t5.toNat (impl_Entry.mk ((List.getD v0 t5.toNat z_impl_Entry).Term) (impl_Cmd.mk (((List.getD v0 t5.toNat z_impl_Entry).C).Who) (w64 ((w64 (t1 + 1)) + 1)) (((List.getD v0 t5.toNat z_impl_Entry).C).Line))))
          (l_markText (w64 ((w64 ((w64 (t1 + 1)) + 1)) + 1))).bind fun (r0 : (List Int) × Unit) =>
          if (0 : Int) ≤ t5 ∧ t5 < (List.length v1 : Int) then
            let v2 : (List impl_Entry) := (List.set v1 t5.toNat (impl_Entry.mk ((List.getD v1 t5.toNat z_impl_Entry).Term) (impl_Cmd.mk (((List.getD v1 t5.toNat z_impl_Entry).C).Who) (((List.getD v1 t5.toNat z_impl_Entry).C).Seq) r0.1)))
            l_markEntryS_L1 v2 (w64 ((w64 ((w64 ((w64 (t1 + 1)) + 1)) + 1)) + 1)) (w64 (t5 + 1))
          else none
        else none
      else none
    else none
  else
    some (t1, t0, ()) := (lim_eq tab 21 (t0, (t1, (t5, ())))).trans (by kernel_rfl)
theorem l_markText_eq (t0 : Int) : l_markText t0 =
  if (decide (t0 ≤ 0)) = true then
    some ([109, 48], ())
  else
    l_markText_L1 t0 [] := (lim_eq tab 22 (t0, ())).trans (by kernel_rfl)
theorem l_markText_L1_eq (t0 : Int) (t3 : (List Int)) : l_markText_L1 t0 t3 =
  if (decide (t0 > 0)) = true then
    if List.length [(w8 (w64 (48 + (Int.tmod t0 10))))] + List.length t3 ≤ 9223372036854775807 then
      l_markText_L1 (w64 (Int.tdiv t0 10)) ([(w8 (w64 (48 + (Int.tmod t0 10))))] ++ t3)
    else none
  else
    if List.length [109] + List.length t3 ≤ 9223372036854775807 then
      some (([109] ++ t3), ())
    else none := (lim_eq tab 23 (t0, (t3, ()))).trans (by kernel_rfl)
theorem l_heldEntryS_eq (t0 : (List impl_Entry)) (t1 : Int) : l_heldEntryS t0 t1 =
  l_heldEntryS_L1 t0 t1 0 := (lim_eq tab 24 (t0, (t1, ()))).trans (by kernel_rfl)
theorem l_heldEntryS_L1_eq (t0 : (List impl_Entry)) (t1 : Int) (t5 : Int) : l_heldEntryS_L1 t0 t1 t5 =
  if (decide (t5 < (List.length t0 : Int))) = true then
    if (0 : Int) ≤ t5 ∧ t5 < (List.length t0 : Int) then
      if (!(decide (((List.getD t0 t5.toNat z_impl_Entry).Term) = t1))) = true then
        some ((-1), ())
      else
        if (0 : Int) ≤ t5 ∧ t5 < (List.length t0 : Int) then
          if (!(decide ((((List.getD t0 t5.toNat z_impl_Entry).C).Who) = (w64 (t1 + 1))))) = true then
            some ((-1), ())
          else
            if (0 : Int) ≤ t5 ∧ t5 < (List.length t0 : Int) then
              if (!(decide ((((List.getD t0 t5.toNat z_impl_Entry).C).Seq) = (w64 ((w64 (t1 + 1)) + 1))))) = true then
                some ((-1), ())
              else
                if (0 : Int) ≤ t5 ∧ t5 < (List.length t0 : Int) then
                  (l_markText (w64 ((w64 ((w64 (t1 + 1)) + 1)) + 1))).bind fun (r0 : (List Int) × Unit) =>
                  if (!(decide ((((List.getD t0 t5.toNat z_impl_Entry).C).Line) = r0.1))) = true then
                    some ((-1), ())
                  else
                    l_heldEntryS_L1 t0 (w64 ((w64 ((w64 ((w64 (t1 + 1)) + 1)) + 1)) + 1)) (w64 (t5 + 1))
                else none
            else none
        else none
    else none
  else
    some (t1, ()) := (lim_eq tab 25 (t0, (t1, (t5, ())))).trans (by kernel_rfl)
theorem s_GetNum_eq (t0 : (List Int)) (t1 : Int) : s_GetNum t0 t1 =
  s_GetNum_L1 t0 t1 0 0 := (lim_eq tab 26 (t0, (t1, ()))).trans (by kernel_rfl)
theorem s_GetNum_L1_eq (t0 : (List Int)) (t1 : Int) (t7 : Int) (t8 : Int) : s_GetNum_L1 t0 t1 t7 t8 =
  if (decide (t8 < 9)) = true then
    if (decide (t1 < 0)) = true then
      some (0, 0, false, ())
    else
      if (decide (t1 ≥ (w64 ((List.length t0 : Int) - t8)))) = true then
        some (0, 0, false, ())
      else
        if (0 : Int) ≤ (w64 (t1 + t8)) ∧ (w64 (t1 + t8)) < (List.length t0 : Int) then
          if (0 : Int) ≤ (w64 (7 * t8)) then
            if (decide ((w64 (List.getD t0 (w64 (t1 + t8)).toNat 0)) < 128)) = true then
              if (decide (t8 > 0)) = true then
                if (decide ((w64 (List.getD t0 (w64 (t1 + t8)).toNat 0)) = 0)) = true then
                  some (0, 0, false, ())
                else
                  if (decide ((bits .or .i64 t7 (shlI .i64 (Int.tmod (w64 (List.getD t0 (w64 (t1 + t8)).toNat 0)) 128) (w64 (7 * t8)))) > 4611686018427387903)) = true then
                    some (0, 0, false, ())
                  else
                    if (decide ((bits .or .i64 t7 (shlI .i64 (Int.tmod (w64 (List.getD t0 (w64 (t1 + t8)).toNat 0)) 128) (w64 (7 * t8)))) < 0)) = true then
                      some (0, 0, false, ())
                    else
                      some ((bits .or .i64 t7 (shlI .i64 (Int.tmod (w64 (List.getD t0 (w64 (t1 + t8)).toNat 0)) 128) (w64 (7 * t8)))), (w64 ((w64 (t1 + t8)) + 1)), true, ())
              else
                if (decide ((bits .or .i64 t7 (shlI .i64 (Int.tmod (w64 (List.getD t0 (w64 (t1 + t8)).toNat 0)) 128) (w64 (7 * t8)))) > 4611686018427387903)) = true then
                  some (0, 0, false, ())
                else
                  if (decide ((bits .or .i64 t7 (shlI .i64 (Int.tmod (w64 (List.getD t0 (w64 (t1 + t8)).toNat 0)) 128) (w64 (7 * t8)))) < 0)) = true then
                    some (0, 0, false, ())
                  else
                    some ((bits .or .i64 t7 (shlI .i64 (Int.tmod (w64 (List.getD t0 (w64 (t1 + t8)).toNat 0)) 128) (w64 (7 * t8)))), (w64 ((w64 (t1 + t8)) + 1)), true, ())
            else
              s_GetNum_L1 t0 t1 (bits .or .i64 t7 (shlI .i64 (Int.tmod (w64 (List.getD t0 (w64 (t1 + t8)).toNat 0)) 128) (w64 (7 * t8)))) (w64 (t8 + 1))
          else none
        else none
  else
    some (0, 0, false, ()) := (lim_eq tab 27 (t0, (t1, (t7, (t8, ()))))).trans (by kernel_rfl)
theorem s_l19Sum_eq (t0 : (List Int)) : s_l19Sum t0 =
  (s_SumOf t0).bind fun (r0 : Int × Unit) =>
  some ([(w8 r0.1), (w8 (shrI .i64 r0.1 8)), (w8 (shrI .i64 r0.1 16)), (w8 (shrI .i64 r0.1 24))], ()) := (lim_eq tab 28 (t0, ())).trans (by kernel_rfl)
theorem s_l19Read_eq (s0 : spec_l17Cur) : s_l19Read s0 =
  (s_l17Num s0).bind fun (r0 : Int × spec_l17Cur × Unit) =>
  (s_l17Num r0.2.1).bind fun (r1 : Int × spec_l17Cur × Unit) =>
  (s_l17Num r1.2.1).bind fun (r2 : Int × spec_l17Cur × Unit) =>
  (s_l17Num r2.2.1).bind fun (r3 : Int × spec_l17Cur × Unit) =>
  (s_l17Num r3.2.1).bind fun (r4 : Int × spec_l17Cur × Unit) =>
  s_l19Read_L1 r4.1 0 r4.2.1 z_impl_Rec (impl_Rec.mk r0.1 r1.1 (w64 (r2.1 - 1)) r3.1 [] []) := (lim_eq tab 29 (s0, ())).trans (by kernel_rfl)
theorem s_l19Read_L1_eq (t4 : Int) (t5 : Int) (s0 : spec_l17Cur) (s32 : impl_Rec) (s48 : impl_Rec) : s_l19Read_L1 t4 t5 s0 s32 s48 =
  if (decide (t5 < t4)) = true then
    if s0.ok = true then
      (s_l17Num s0).bind fun (r0 : Int × spec_l17Cur × Unit) =>
      (s_l17Num r0.2.1).bind fun (r1 : Int × spec_l17Cur × Unit) =>
      (s_l17Num r1.2.1).bind fun (r2 : Int × spec_l17Cur × Unit) =>
      (s_l17Text r2.2.1).bind fun (r3 : (List Int) × spec_l17Cur × Unit) =>
      if List.length s48.List + 1 ≤ room then
        s_l19Read_L1 t4 (w64 (t5 + 1)) r3.2.1 s32 (impl_Rec.mk s48.Kind s48.Term s48.Vote s48.Prev (List.append s48.List [(impl_Entry.mk r0.1 (impl_Cmd.mk (w64 (r1.1 - 1)) r2.1 r3.1))]) s48.Snap)
      else none
    else
      (s_l17Text s0).bind fun (r4 : (List Int) × spec_l17Cur × Unit) =>
      some ((impl_Rec.mk s48.Kind s48.Term s48.Vote s48.Prev s48.List r4.1), r4.2.1, ())
  else
    (s_l17Text s0).bind fun (r5 : (List Int) × spec_l17Cur × Unit) =>
    some ((impl_Rec.mk s48.Kind s48.Term s48.Vote s48.Prev s48.List r5.1), r5.2.1, ()) := (lim_eq tab 30 (t4, (t5, (s0, (s32, (s48, ())))))).trans (by kernel_rfl)
theorem s_RecOk_eq (t0 : impl_Rec) : s_RecOk t0 =
  (s_l1In t0.Term 0 300).bind fun (r0 : Bool × Unit) =>
  if (!r0.1) = true then
    some (false, ())
  else
    (s_l1In t0.Prev 0 300).bind fun (r1 : Bool × Unit) =>
    if (!r1.1) = true then
      some (false, ())
    else
      (s_l19List t0.List 300).bind fun (r2 : Bool × Unit) =>
      if (!r2.1) = true then
        some (false, ())
      else
        if (decide ((List.length t0.Snap : Int) > 30000)) = true then
          some (false, ())
        else
          if (decide (t0.Kind = 1)) = true then
            (s_l1In t0.Vote (-1) 4).bind fun (r3 : Bool × Unit) =>
            if r3.1 = true then
              if (decide (t0.Prev = 0)) = true then
                if (decide ((List.length t0.List : Int) = 0)) = true then
                  some ((decide (t0.Snap = [])), ())
                else
                  some (false, ())
              else
                some (false, ())
            else
              some (false, ())
          else
            if (decide (t0.Kind = 2)) = true then
              if (decide (t0.Vote = 0)) = true then
                some ((decide (t0.Snap = [])), ())
              else
                some (false, ())
            else
              if (decide (t0.Kind = 3)) = true then
                if (decide (t0.Vote = 0)) = true then
                  some ((decide ((List.length t0.List : Int) = 0)), ())
                else
                  some (false, ())
              else
                some (false, ()) := (lim_eq tab 31 (t0, ())).trans (by kernel_rfl)
theorem i_GetNum_eq (t0 : (List Int)) (t1 : Int) : i_GetNum t0 t1 =
  (i_in t1 0 (List.length t0 : Int)).bind fun (r0 : Bool × Unit) =>
  if (!r0.1) = true then
    some (0, 0, false, ())
  else
    i_GetNum_L1 t0 t1 0 0 := (lim_eq tab 32 (t0, (t1, ()))).trans (by kernel_rfl)
theorem i_GetNum_L1_eq (t0 : (List Int)) (t1 : Int) (t7 : Int) (t8 : Int) : i_GetNum_L1 t0 t1 t7 t8 =
  if (decide (t8 < 9)) = true then
    if (decide ((w64 (t1 + t8)) < (List.length t0 : Int))) = true then
      if (0 : Int) ≤ (w64 (t1 + t8)) ∧ (w64 (t1 + t8)) < (List.length t0 : Int) then
        if (0 : Int) ≤ (w64 (7 * t8)) then
          if (decide ((w64 (List.getD t0 (w64 (t1 + t8)).toNat 0)) > 127)) = true then
            i_GetNum_L1 t0 t1 (bits .or .i64 t7 (shlI .i64 (bits .and .i64 (w64 (List.getD t0 (w64 (t1 + t8)).toNat 0)) 127) (w64 (7 * t8)))) (w64 (t8 + 1))
          else
            if (decide ((w64 (List.getD t0 (w64 (t1 + t8)).toNat 0)) = 0)) = true then
              if (decide (t8 > 0)) = true then
                some (0, 0, false, ())
              else
                (i_in (bits .or .i64 t7 (shlI .i64 (bits .and .i64 (w64 (List.getD t0 (w64 (t1 + t8)).toNat 0)) 127) (w64 (7 * t8)))) 0 4611686018427387903).bind fun (r0 : Bool × Unit) =>
                if (!r0.1) = true then
                  some (0, 0, false, ())
                else
                  some ((bits .or .i64 t7 (shlI .i64 (bits .and .i64 (w64 (List.getD t0 (w64 (t1 + t8)).toNat 0)) 127) (w64 (7 * t8)))), (w64 ((w64 (t1 + t8)) + 1)), true, ())
            else
              (i_in (bits .or .i64 t7 (shlI .i64 (bits .and .i64 (w64 (List.getD t0 (w64 (t1 + t8)).toNat 0)) 127) (w64 (7 * t8)))) 0 4611686018427387903).bind fun (r1 : Bool × Unit) =>
              if (!r1.1) = true then
                some (0, 0, false, ())
              else
                some ((bits .or .i64 t7 (shlI .i64 (bits .and .i64 (w64 (List.getD t0 (w64 (t1 + t8)).toNat 0)) 127) (w64 (7 * t8)))), (w64 ((w64 (t1 + t8)) + 1)), true, ())
        else none
      else none
    else
      some (0, 0, false, ())
  else
    some (0, 0, false, ()) := (lim_eq tab 33 (t0, (t1, (t7, (t8, ()))))).trans (by kernel_rfl)
theorem i_source_rec_eq (s0 : impl_source) : i_source_rec s0 =
  (i_source_num s0 4611686018427387903).bind fun (r0 : Int × impl_source × Unit) =>
  (i_source_num r0.2.1 4611686018427387903).bind fun (r1 : Int × impl_source × Unit) =>
  (i_source_num r1.2.1 4611686018427387903).bind fun (r2 : Int × impl_source × Unit) =>
  (i_source_num r2.2.1 4611686018427387903).bind fun (r3 : Int × impl_source × Unit) =>
  (i_source_num r3.2.1 40).bind fun (r4 : Int × impl_source × Unit) =>
  i_source_rec_L1 r4.1 0 r4.2.1 z_impl_Rec (impl_Rec.mk r0.1 r1.1 (w64 (r2.1 - 1)) r3.1 [] []) := (lim_eq tab 34 (s0, ())).trans (by kernel_rfl)
theorem i_source_rec_L1_eq (t19 : Int) (t20 : Int) (s0 : impl_source) (s32 : impl_Rec) (s48 : impl_Rec) : i_source_rec_L1 t19 t20 s0 s32 s48 =
  if (decide (t20 < t19)) = true then
    (i_source_num s0 4611686018427387903).bind fun (r0 : Int × impl_source × Unit) =>
    (i_source_num r0.2.1 4611686018427387903).bind fun (r1 : Int × impl_source × Unit) =>
    (i_source_num r1.2.1 4611686018427387903).bind fun (r2 : Int × impl_source × Unit) =>
    (i_source_text r2.2.1).bind fun (r3 : (List Int) × impl_source × Unit) =>
    if List.length s48.List + 1 ≤ room then
      i_source_rec_L1 t19 (w64 (t20 + 1)) r3.2.1 s32 (impl_Rec.mk s48.Kind s48.Term s48.Vote s48.Prev (List.append s48.List [(impl_Entry.mk r0.1 (impl_Cmd.mk (w64 (r1.1 - 1)) r2.1 r3.1))]) s48.Snap)
    else none
  else
    (i_source_text s0).bind fun (r4 : (List Int) × impl_source × Unit) =>
    some ((impl_Rec.mk s48.Kind s48.Term s48.Vote s48.Prev s48.List r4.1), r4.2.1, ()) := (lim_eq tab 35 (t19, (t20, (s0, (s32, (s48, ())))))).trans (by kernel_rfl)
theorem i_RecBytes_eq (t0 : impl_Rec) : i_RecBytes t0 =
  (i_RecOk t0).bind fun (r0 : Bool × Unit) =>
  if (!r0.1) = true then
    some ([], ())
  else
    i_RecBytes_L1 [] [t0.Kind, t0.Term, (w64 (t0.Vote + 1)), t0.Prev, (List.length t0.List : Int)] 5 0 t0 := (lim_eq tab 36 (t0, ())).trans (by kernel_rfl)
theorem i_RecBytes_L1_eq (t3 : (List Int)) (t28 : (List Int)) (t29 : Int) (t30 : Int) (s16 : impl_Rec) : i_RecBytes_L1 t3 t28 t29 t30 s16 =
  if (decide (t30 < t29)) = true then
    if (0 : Int) ≤ t30 ∧ t30 < (List.length t28 : Int) then
      (i_PutNum (List.getD t28 t30.toNat 0)).bind fun (r0 : (List Int) × Unit) =>
      if List.length t3 + List.length r0.1 ≤ room then
        i_RecBytes_L1 (List.append t3 r0.1) t28 t29 (w64 (t30 + 1)) s16
      else none
    else none
  else
    i_RecBytes_L2 t3 s16.List (List.length s16.List : Int) 0 s16 := (lim_eq tab 37 (t3, (t28, (t29, (t30, (s16, ())))))).trans (by kernel_rfl)
theorem i_RecBytes_L2_eq (t3 : (List Int)) (t40 : (List impl_Entry)) (t41 : Int) (t42 : Int) (s16 : impl_Rec) : i_RecBytes_L2 t3 t40 t41 t42 s16 =
  if (decide (t42 < t41)) = true then
    if (0 : Int) ≤ t42 ∧ t42 < (List.length t40 : Int) then
      i_RecBytes_L3 t3 t40 t41 t42 [(List.getD t40 t42.toNat z_impl_Entry).Term, (w64 ((((List.getD t40 t42.toNat z_impl_Entry).C).Who) + 1)), ((List.getD t40 t42.toNat z_impl_Entry).C).Seq] 3 0 s16 (List.getD t40 t42.toNat z_impl_Entry)
    else none
  else
    (i_PutText s16.Snap).bind fun (r0 : (List Int) × Unit) =>
    if List.length t3 + List.length r0.1 ≤ room then
      (i_SumOf (List.append t3 r0.1)).bind fun (r1 : Int × Unit) =>
      (i_PutNum (List.length (List.append t3 r0.1) : Int)).bind fun (r2 : (List Int) × Unit) =>
      if List.length r2.1 + List.length (List.append t3 r0.1) ≤ room then
        if List.length (List.append r2.1 (List.append t3 r0.1)) + 4 ≤ room then
          some ((List.append (List.append r2.1 (List.append t3 r0.1)) [(w8 r1.1), (w8 (shrI .i64 r1.1 8)), (w8 (shrI .i64 r1.1 16)), (w8 (shrI .i64 r1.1 24))]), ())
        else none
      else none
    else none := (lim_eq tab 38 (t3, (t40, (t41, (t42, (s16, ())))))).trans (by kernel_rfl)
theorem i_RecBytes_L3_eq (t3 : (List Int)) (t40 : (List impl_Entry)) (t41 : Int) (t42 : Int) (t55 : (List Int)) (t56 : Int) (t57 : Int) (s16 : impl_Rec) (s112 : impl_Entry) : i_RecBytes_L3 t3 t40 t41 t42 t55 t56 t57 s16 s112 =
  if (decide (t57 < t56)) = true then
    if (0 : Int) ≤ t57 ∧ t57 < (List.length t55 : Int) then
      (i_PutNum (List.getD t55 t57.toNat 0)).bind fun (r0 : (List Int) × Unit) =>
      if List.length t3 + List.length r0.1 ≤ room then
        i_RecBytes_L3 (List.append t3 r0.1) t40 t41 t42 t55 t56 (w64 (t57 + 1)) s16 s112
      else none
    else none
  else
    (i_PutText s112.C.Line).bind fun (r1 : (List Int) × Unit) =>
    if List.length t3 + List.length r1.1 ≤ room then
      i_RecBytes_L2 (List.append t3 r1.1) t40 t41 (w64 (t42 + 1)) s16
    else none := (lim_eq tab 39 (t3, (t40, (t41, (t42, (t55, (t56, (t57, (s16, (s112, ())))))))))).trans (by kernel_rfl)
theorem x_slices_Equal_byte_eq (t0 : (List Int)) (t1 : (List Int)) : x_slices_Equal_byte t0 t1 =
  if (!(decide ((List.length t0 : Int) = (List.length t1 : Int)))) = true then
    some (false, ())
  else
    x_slices_Equal_byte_L1 t0 t1 (List.length t0 : Int) 0 := (lim_eq tab 40 (t0, (t1, ()))).trans (by kernel_rfl)
theorem x_slices_Equal_byte_L1_eq (t0 : (List Int)) (t1 : (List Int)) (t12 : Int) (t13 : Int) : x_slices_Equal_byte_L1 t0 t1 t12 t13 =
  if (decide (t13 < t12)) = true then
    if (0 : Int) ≤ t13 ∧ t13 < (List.length t0 : Int) then
      if (0 : Int) ≤ t13 ∧ t13 < (List.length t1 : Int) then
        if (!(decide ((List.getD t0 t13.toNat 0) = (List.getD t1 t13.toNat 0)))) = true then
          some (false, ())
        else
          x_slices_Equal_byte_L1 t0 t1 t12 (w64 (t13 + 1))
      else none
    else none
  else
    some (true, ()) := (lim_eq tab 41 (t0, (t1, (t12, (t13, ()))))).trans (by kernel_rfl)
theorem l_eqEntryS_eq (t0 : (List impl_Entry)) (t1 : (List impl_Entry)) : l_eqEntryS t0 t1 =
  if (!(decide ((List.length t0 : Int) = (List.length t1 : Int)))) = true then
    some (false, ())
  else
    l_eqEntryS_L1 t0 t1 0 := (lim_eq tab 42 (t0, (t1, ()))).trans (by kernel_rfl)
theorem l_eqEntryS_L1_eq (t0 : (List impl_Entry)) (t1 : (List impl_Entry)) (t5 : Int) : l_eqEntryS_L1 t0 t1 t5 =
  if (decide (t5 < (List.length t0 : Int))) = true then
    if (0 : Int) ≤ t5 ∧ t5 < (List.length t0 : Int) then
      if (0 : Int) ≤ t5 ∧ t5 < (List.length t1 : Int) then
        (l_eqEntry (List.getD t0 t5.toNat z_impl_Entry) (List.getD t1 t5.toNat z_impl_Entry)).bind fun (r0 : Bool × Unit) =>
        if (!r0.1) = true then
          some (false, ())
        else
          l_eqEntryS_L1 t0 t1 (w64 (t5 + 1))
      else none
    else none
  else
    some (true, ()) := (lim_eq tab 43 (t0, (t1, (t5, ())))).trans (by kernel_rfl)
theorem s_SumOf_eq (t0 : (List Int)) : s_SumOf t0 =
  s_SumOf_L1 t0 1 0 0 := (lim_eq tab 44 (t0, ())).trans (by kernel_rfl)
theorem s_SumOf_L1_eq (t0 : (List Int)) (t3 : Int) (t4 : Int) (t5 : Int) : s_SumOf_L1 t0 t3 t4 t5 =
  if (decide (t5 < (List.length t0 : Int))) = true then
    if (0 : Int) ≤ t5 ∧ t5 < (List.length t0 : Int) then
      s_SumOf_L1 t0 (Int.tmod (w64 (t3 + (w64 (List.getD t0 t5.toNat 0)))) 65521) (Int.tmod (w64 (t4 + (Int.tmod (w64 (t3 + (w64 (List.getD t0 t5.toNat 0)))) 65521))) 65521) (w64 (t5 + 1))
    else none
  else
    some ((w64 ((w64 (t4 * 65536)) + t3)), ()) := (lim_eq tab 45 (t0, (t3, (t4, (t5, ()))))).trans (by kernel_rfl)
theorem s_l17Num_eq (s0 : spec_l17Cur) : s_l17Num s0 =
  (s_GetNum s0.b s0.at_).bind fun (r0 : Int × Int × Bool × Unit) =>
  if (!r0.2.2.1) = true then
    some (0, (spec_l17Cur.mk s0.b s0.at_ false), ())
  else
    if (!s0.ok) = true then
      some (0, (spec_l17Cur.mk s0.b s0.at_ false), ())
    else
      some (r0.1, (spec_l17Cur.mk s0.b r0.2.1 s0.ok), ()) := (lim_eq tab 46 (s0, ())).trans (by kernel_rfl)
theorem s_l17Text_eq (s0 : spec_l17Cur) : s_l17Text s0 =
  (s_GetText s0.b s0.at_).bind fun (r0 : (List Int) × Int × Bool × Unit) =>
  if (!r0.2.2.1) = true then
    some ([], (spec_l17Cur.mk s0.b s0.at_ false), ())
  else
    if (!s0.ok) = true then
      some ([], (spec_l17Cur.mk s0.b s0.at_ false), ())
    else
      some (r0.1, (spec_l17Cur.mk s0.b r0.2.1 s0.ok), ()) := (lim_eq tab 47 (s0, ())).trans (by kernel_rfl)
theorem s_l1In_eq (t0 : Int) (t1 : Int) (t2 : Int) : s_l1In t0 t1 t2 =
  if (decide (t0 ≥ t1)) = true then
    some ((decide (t0 ≤ t2)), ())
  else
    some (false, ()) := (lim_eq tab 48 (t0, (t1, (t2, ())))).trans (by kernel_rfl)
theorem s_l19List_eq (t0 : (List impl_Entry)) (t1 : Int) : s_l19List t0 t1 =
  s_l19List_L1 t0 t1 0 := (lim_eq tab 49 (t0, (t1, ()))).trans (by kernel_rfl)
theorem s_l19List_L1_eq (t0 : (List impl_Entry)) (t1 : Int) (t5 : Int) : s_l19List_L1 t0 t1 t5 =
  if (decide (t5 < (List.length t0 : Int))) = true then
    if (0 : Int) ≤ t5 ∧ t5 < (List.length t0 : Int) then
      (s_l1In ((List.getD t0 t5.toNat z_impl_Entry).Term) 0 t1).bind fun (r0 : Bool × Unit) =>
      if (!r0.1) = true then
        some (false, ())
      else
        if (0 : Int) ≤ t5 ∧ t5 < (List.length t0 : Int) then
          (s_CmdOk ((List.getD t0 t5.toNat z_impl_Entry).C)).bind fun (r1 : Bool × Unit) =>
          if (!r1.1) = true then
            some (false, ())
          else
            s_l19List_L1 t0 t1 (w64 (t5 + 1))
        else none
    else none
  else
    some ((decide ((List.length t0 : Int) ≤ 40)), ()) := (lim_eq tab 50 (t0, (t1, (t5, ())))).trans (by kernel_rfl)
theorem i_in_eq (t0 : Int) (t1 : Int) (t2 : Int) : i_in t0 t1 t2 =
  if (decide (t0 ≥ t1)) = true then
    some ((decide (t0 ≤ t2)), ())
  else
    some (false, ()) := (lim_eq tab 51 (t0, (t1, (t2, ())))).trans (by kernel_rfl)
theorem i_source_num_eq (s0 : impl_source) (t1 : Int) : i_source_num s0 t1 =
  (i_GetNum s0.b s0.at_).bind fun (r0 : Int × Int × Bool × Unit) =>
  if s0.bad = true then
    some (0, (impl_source.mk s0.b s0.at_ true), ())
  else
    if (!r0.2.2.1) = true then
      some (0, (impl_source.mk s0.b s0.at_ true), ())
    else
      if (decide (r0.1 > t1)) = true then
        some (0, (impl_source.mk s0.b s0.at_ true), ())
      else
        some (r0.1, (impl_source.mk s0.b r0.2.1 s0.bad), ()) := (lim_eq tab 52 (s0, (t1, ()))).trans (by kernel_rfl)
theorem i_source_text_eq (s0 : impl_source) : i_source_text s0 =
  (i_GetText s0.b s0.at_).bind fun (r0 : (List Int) × Int × Bool × Unit) =>
  if s0.bad = true then
    some ([], (impl_source.mk s0.b s0.at_ true), ())
  else
    if (!r0.2.2.1) = true then
      some ([], (impl_source.mk s0.b s0.at_ true), ())
    else
      some (r0.1, (impl_source.mk s0.b r0.2.1 s0.bad), ()) := (lim_eq tab 53 (s0, ())).trans (by kernel_rfl)
theorem i_RecOk_eq (t0 : impl_Rec) : i_RecOk t0 =
  (i_isIndex t0.Term).bind fun (r0 : Bool × Unit) =>
  if (!r0.1) = true then
    some (false, ())
  else
    (i_isIndex t0.Prev).bind fun (r1 : Bool × Unit) =>
    if (!r1.1) = true then
      some (false, ())
    else
      (i_entriesOk t0.List 300).bind fun (r2 : Bool × Unit) =>
      if (!r2.1) = true then
        some (false, ())
      else
        if (decide ((List.length t0.Snap : Int) > 30000)) = true then
          some (false, ())
        else
          if (decide (t0.Kind = 1)) = true then
            (i_isVote t0.Vote).bind fun (r3 : Bool × Unit) =>
            if r3.1 = true then
              if (decide (t0.Prev = 0)) = true then
                if (decide ((List.length t0.List : Int) = 0)) = true then
                  some ((decide (t0.Snap = [])), ())
                else
                  some (false, ())
              else
                some (false, ())
            else
              some (false, ())
          else
            if (decide (t0.Kind = 2)) = true then
              if (decide (t0.Vote = 0)) = true then
                some ((decide (t0.Snap = [])), ())
              else
                some (false, ())
            else
              if (decide (t0.Kind = 3)) = true then
                if (decide (t0.Vote = 0)) = true then
                  some ((decide ((List.length t0.List : Int) = 0)), ())
                else
                  some (false, ())
              else
                some (false, ()) := (lim_eq tab 54 (t0, ())).trans (by kernel_rfl)
theorem i_PutNum_eq (t0 : Int) : i_PutNum t0 =
  (i_in t0 0 4611686018427387903).bind fun (r0 : Bool × Unit) =>
  if (!r0.1) = true then
    some ([], ())
  else
    i_PutNum_L1 t0 [] := (lim_eq tab 55 (t0, ())).trans (by kernel_rfl)
theorem i_PutNum_L1_eq (t0 : Int) (t3 : (List Int)) : i_PutNum_L1 t0 t3 =
  if (decide (t0 > 127)) = true then
    if List.length t3 + 1 ≤ room then
      i_PutNum_L1 (shrI .i64 t0 7) (List.append t3 [(w8 (bits .or .i64 (bits .and .i64 t0 127) 128))])
    else none
  else
    if List.length t3 + 1 ≤ room then
      some ((List.append t3 [(w8 t0)]), ())
    else none := (lim_eq tab 56 (t0, (t3, ()))).trans (by kernel_rfl)
theorem i_PutText_eq (t0 : (List Int)) : i_PutText t0 =
  (i_PutNum (List.length t0 : Int)).bind fun (r0 : (List Int) × Unit) =>
  if List.length r0.1 + List.length t0 ≤ room then
    some ((List.append r0.1 t0), ())
  else none := (lim_eq tab 57 (t0, ())).trans (by kernel_rfl)
theorem i_SumOf_eq (t0 : (List Int)) : i_SumOf t0 =
  i_SumOf_L1 1 0 t0 (List.length t0 : Int) 0 := (lim_eq tab 58 (t0, ())).trans (by kernel_rfl)
theorem i_SumOf_L1_eq (t3 : Int) (t4 : Int) (t7 : (List Int)) (t8 : Int) (t9 : Int) : i_SumOf_L1 t3 t4 t7 t8 t9 =
  if (decide (t9 < t8)) = true then
    if (0 : Int) ≤ t9 ∧ t9 < (List.length t7 : Int) then
      i_SumOf_L1 (Int.tmod (w64 (t3 + (w64 (List.getD t7 t9.toNat 0)))) 65521) (Int.tmod (w64 (t4 + (Int.tmod (w64 (t3 + (w64 (List.getD t7 t9.toNat 0)))) 65521))) 65521) t7 t8 (w64 (t9 + 1))
    else none
  else
    some ((w64 ((w64 (t4 * 65536)) + t3)), ()) := (lim_eq tab 59 (t3, (t4, (t7, (t8, (t9, ())))))).trans (by kernel_rfl)
theorem l_eqEntry_eq (t0 : impl_Entry) (t1 : impl_Entry) : l_eqEntry t0 t1 =
  if (!(decide (t0.Term = t1.Term))) = true then
    some (false, ())
  else
    (l_eqCmd t0.C t1.C).bind fun (r0 : Bool × Unit) =>
    if (!r0.1) = true then
      some (false, ())
    else
      some (true, ()) := (lim_eq tab 60 (t0, (t1, ()))).trans (by kernel_rfl)
theorem s_GetText_eq (t0 : (List Int)) (t1 : Int) : s_GetText t0 t1 =
  (s_GetNum t0 t1).bind fun (r0 : Int × Int × Bool × Unit) =>
  if (!r0.2.2.1) = true then
    some ([], 0, false, ())
  else
    if (decide (r0.1 > (w64 ((List.length t0 : Int) - r0.2.1)))) = true then
      some ([], 0, false, ())
    else
      if (0 : Int) ≤ r0.2.1 ∧ r0.2.1 ≤ (w64 (r0.2.1 + r0.1)) ∧ (w64 (r0.2.1 + r0.1)) ≤ (List.length t0 : Int) then
        some ((List.take ((w64 (r0.2.1 + r0.1)).toNat - r0.2.1.toNat) (List.drop r0.2.1.toNat t0)), (w64 (r0.2.1 + r0.1)), true, ())
      else none := (lim_eq tab 61 (t0, (t1, ()))).trans (by kernel_rfl)
theorem s_CmdOk_eq (t0 : impl_Cmd) : s_CmdOk t0 =
  if (decide (t0.Who = (-1))) = true then
    if (decide (t0.Seq = 0)) = true then
      some ((decide (t0.Line = [])), ())
    else
      some (false, ())
  else
    (s_l1In t0.Who 0 2).bind fun (r0 : Bool × Unit) =>
    if r0.1 = true then
      (s_l1In t0.Seq 1 100000).bind fun (r1 : Bool × Unit) =>
      if r1.1 = true then
        if (decide ((List.length t0.Line : Int) ≤ 60)) = true then
          (s_l9Line t0.Line).bind fun (r2 : Bool × Unit) =>
          some (r2.1, ())
        else
          some (false, ())
      else
        some (false, ())
    else
      some (false, ()) := (lim_eq tab 62 (t0, ())).trans (by kernel_rfl)
theorem i_GetText_eq (t0 : (List Int)) (t1 : Int) : i_GetText t0 t1 =
  (i_GetNum t0 t1).bind fun (r0 : Int × Int × Bool × Unit) =>
  if (!r0.2.2.1) = true then
    some ([], 0, false, ())
  else
    if (decide (r0.1 > (w64 ((List.length t0 : Int) - r0.2.1)))) = true then
      some ([], 0, false, ())
    else
      if (0 : Int) ≤ r0.2.1 ∧ r0.2.1 ≤ (w64 (r0.2.1 + r0.1)) ∧ (w64 (r0.2.1 + r0.1)) ≤ (List.length t0 : Int) then
        some ((List.take ((w64 (r0.2.1 + r0.1)).toNat - r0.2.1.toNat) (List.drop r0.2.1.toNat t0)), (w64 (r0.2.1 + r0.1)), true, ())
      else none := (lim_eq tab 63 (t0, (t1, ()))).trans (by kernel_rfl)
theorem i_isIndex_eq (t0 : Int) : i_isIndex t0 =
  (i_in t0 0 300).bind fun (r0 : Bool × Unit) =>
  some (r0.1, ()) := (lim_eq tab 64 (t0, ())).trans (by kernel_rfl)
theorem i_entriesOk_eq (t0 : (List impl_Entry)) (t1 : Int) : i_entriesOk t0 t1 =
  if (decide ((List.length t0 : Int) ≤ 40)) = true then
    (x_slices_ContainsFunc_impl_Entry_entriesOk_1 t0 t1).bind fun (r0 : Bool × Int × Unit) =>
    some ((!r0.1), ())
  else
    some (false, ()) := (lim_eq tab 65 (t0, (t1, ()))).trans (by kernel_rfl)
theorem i_isVote_eq (t0 : Int) : i_isVote t0 =
  (i_in t0 (-1) 4).bind fun (r0 : Bool × Unit) =>
  some (r0.1, ()) := (lim_eq tab 66 (t0, ())).trans (by kernel_rfl)
theorem l_eqCmd_eq (t0 : impl_Cmd) (t1 : impl_Cmd) : l_eqCmd t0 t1 =
  if (!(decide (t0.Who = t1.Who))) = true then
    some (false, ())
  else
    if (!(decide (t0.Seq = t1.Seq))) = true then
      some (false, ())
    else
      if (!(decide (t0.Line = t1.Line))) = true then
        some (false, ())
      else
        some (true, ()) := (lim_eq tab 67 (t0, (t1, ()))).trans (by kernel_rfl)
theorem s_l9Line_eq (t0 : (List Int)) : s_l9Line t0 =
  s_l9Line_L1 t0 0 := (lim_eq tab 68 (t0, ())).trans (by kernel_rfl)
theorem s_l9Line_L1_eq (t0 : (List Int)) (t3 : Int) : s_l9Line_L1 t0 t3 =
  if (decide (t3 < (List.length t0 : Int))) = true then
    if (0 : Int) ≤ t3 ∧ t3 < (List.length t0 : Int) then
      if (decide ((List.getD t0 t3.toNat 0) = 10)) = true then
        some (false, ())
      else
        s_l9Line_L1 t0 (w64 (t3 + 1))
    else none
  else
    some (true, ()) := (lim_eq tab 69 (t0, (t3, ()))).trans (by kernel_rfl)
theorem x_slices_ContainsFunc_impl_Entry_entriesOk_1_eq (t0 : (List impl_Entry)) (s16 : Int) : x_slices_ContainsFunc_impl_Entry_entriesOk_1 t0 s16 =
  (x_slices_IndexFunc_impl_Entry_entriesOk_1 t0 s16).bind fun (r0 : Int × Int × Unit) =>
  some ((decide (r0.1 ≥ 0)), r0.2.1, ()) := (lim_eq tab 70 (t0, (s16, ()))).trans (by kernel_rfl)
theorem x_slices_IndexFunc_impl_Entry_entriesOk_1_eq (t0 : (List impl_Entry)) (s16 : Int) : x_slices_IndexFunc_impl_Entry_entriesOk_1 t0 s16 =
  x_slices_IndexFunc_impl_Entry_entriesOk_1_L1 t0 (List.length t0 : Int) 0 s16 := (lim_eq tab 71 (t0, (s16, ()))).trans (by kernel_rfl)
theorem x_slices_IndexFunc_impl_Entry_entriesOk_1_L1_eq (t0 : (List impl_Entry)) (t7 : Int) (t8 : Int) (s16 : Int) : x_slices_IndexFunc_impl_Entry_entriesOk_1_L1 t0 t7 t8 s16 =
  if (decide (t8 < t7)) = true then
    if (0 : Int) ≤ t8 ∧ t8 < (List.length t0 : Int) then
      (i_entriesOk_1 (List.getD t0 t8.toNat z_impl_Entry) s16).bind fun (r0 : Bool × Int × Unit) =>
      if r0.1 = true then
        some (t8, r0.2.1, ())
      else
        x_slices_IndexFunc_impl_Entry_entriesOk_1_L1 t0 t7 (w64 (t8 + 1)) r0.2.1
    else none
  else
    some ((-1), s16, ()) := (lim_eq tab 72 (t0, (t7, (t8, (s16, ()))))).trans (by kernel_rfl)
theorem i_entriesOk_1_eq (t0 : impl_Entry) (s16 : Int) : i_entriesOk_1 t0 s16 =
  (i_in t0.Term 0 s16).bind fun (r0 : Bool × Unit) =>
  if (!r0.1) = true then
    some (true, s16, ())
  else
    (i_CmdOk t0.C).bind fun (r1 : Bool × Unit) =>
    some ((!r1.1), s16, ()) := (lim_eq tab 73 (t0, (s16, ()))).trans (by kernel_rfl)
theorem i_CmdOk_eq (t0 : impl_Cmd) : i_CmdOk t0 =
  if (decide (t0.Who = (-1))) = true then
    if (decide (t0.Seq = 0)) = true then
      some ((decide (t0.Line = [])), ())
    else
      some (false, ())
  else
    (i_in t0.Who 0 2).bind fun (r0 : Bool × Unit) =>
    if r0.1 = true then
      (i_in t0.Seq 1 100000).bind fun (r1 : Bool × Unit) =>
      if r1.1 = true then
        (i_lineOk t0.Line).bind fun (r2 : Bool × Unit) =>
        some (r2.1, ())
      else
        some (false, ())
    else
      some (false, ()) := (lim_eq tab 74 (t0, ())).trans (by kernel_rfl)
theorem i_lineOk_eq (t0 : (List Int)) : i_lineOk t0 =
  if (decide ((List.length t0 : Int) ≤ 60)) = true then
    (x_strings_Contains t0 [10]).bind fun (r0 : Bool × Unit) =>
    some ((!r0.1), ())
  else
    some (false, ()) := (lim_eq tab 75 (t0, ())).trans (by kernel_rfl)
theorem x_strings_Contains_eq (t0 : (List Int)) (t1 : (List Int)) : x_strings_Contains t0 t1 =
  (x_strings_Index t0 t1).bind fun (r0 : Int × Unit) =>
  some ((decide (r0.1 ≥ 0)), ()) := (lim_eq tab 76 (t0, (t1, ()))).trans (by kernel_rfl)
theorem x_strings_Index_eq (t0 : (List Int)) (t1 : (List Int)) : x_strings_Index t0 t1 =
  (x_internal_stringslite_Index t0 t1).bind fun (r0 : Int × Unit) =>
  some (r0.1, ()) := (lim_eq tab 77 (t0, (t1, ()))).trans (by kernel_rfl)
theorem x_internal_stringslite_Index_eq (t0 : (List Int)) (t1 : (List Int)) : x_internal_stringslite_Index t0 t1 =
  if (decide ((List.length t1 : Int) = 0)) = true then
    some (0, ())
  else
    if (decide (t1 = t0)) = true then
      some (0, ())
    else
      if (decide ((List.length t1 : Int) = 1)) = true then
        if (0 : Int) ≤ 0 ∧ (0 : Int) < (List.length t1 : Int) then
          (x_internal_stringslite_IndexByte t0 (List.getD t1 0 0)).bind fun (r0 : Int × Unit) =>
          some (r0.1, ())
        else none
      else
        if (decide ((List.length t1 : Int) ≥ (List.length t0 : Int))) = true then
          some ((-1), ())
        else
          none := (lim_eq tab 78 (t0, (t1, ()))).trans (by kernel_rfl)
theorem x_internal_stringslite_IndexByte_eq (t0 : (List Int)) (t1 : Int) : x_internal_stringslite_IndexByte t0 t1 =
  (x_internal_bytealg_IndexByteString t0 t1).bind fun (r0 : Int × Unit) =>
  some (r0.1, ()) := (lim_eq tab 79 (t0, (t1, ()))).trans (by kernel_rfl)
theorem x_internal_bytealg_IndexByteString_eq (t0 : (List Int)) (t1 : Int) : x_internal_bytealg_IndexByteString t0 t1 =
  some ((idxI t0 t1), ()) := (lim_eq tab 80 (t0, (t1, ()))).trans (by kernel_rfl)
end Go.Proofs.Ytlidpmhmchbilaa.E.TE
