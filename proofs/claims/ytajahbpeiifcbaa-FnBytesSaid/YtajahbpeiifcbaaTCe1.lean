/- The keys' plain equations (1). No condition. -/
import Derived.Test.YtajahbpeiifcbaaTCe0
namespace Go.Proofs.Ytajahbpeiifcbaa.E.TC
open Go.Proofs.Ytajahbpeiifcbaa.E
set_option linter.unusedVariables false
set_option maxRecDepth 100000
theorem l_FnBytes_eq (t0 : (List Int)) : l_FnBytes t0 =
  (l_big t0).bind fun (r0 : Bool × Unit) =>
  if r0.1 = true then
    some (true, ())
  else
    (s_DrawPutNum t0).bind fun (r1 : Int × Unit) =>
    (s_DrawPutInt t0).bind fun (r2 : Int × Unit) =>
    (i_PutNum r1.1).bind fun (r3 : (List Int) × Unit) =>
    (i_PutInt r2.1).bind fun (r4 : (List Int) × Unit) =>
    (s_DrawPutText t0).bind fun (r5 : (List Int) × Unit) =>
    (i_PutText r5.1).bind fun (r6 : (List Int) × Unit) =>
    (s_PutNum r1.1).bind fun (r7 : (List Int) × Unit) =>
    if (!(decide (r3.1 = r7.1))) = true then
      some (false, ())
    else
      (s_PutInt r2.1).bind fun (r8 : (List Int) × Unit) =>
      if (!(decide (r4.1 = r8.1))) = true then
        some (false, ())
      else
        (s_PutText r5.1).bind fun (r9 : (List Int) × Unit) =>
        if (!(decide (r6.1 = r9.1))) = true then
          some (false, ())
        else
          (i_GetNum r3.1 0).bind fun (r10 : Int × Int × Bool × Unit) =>
          (i_GetInt r4.1 0).bind fun (r11 : Int × Int × Bool × Unit) =>
          (i_GetText r6.1 0).bind fun (r12 : (List Int) × Int × Bool × Unit) =>
          if (decide ((List.length r3.1 : Int) > 0)) = true then
            if (!r10.2.2.1) = true then
              some (false, ())
            else
              if (!(decide (r10.1 = r1.1))) = true then
                some (false, ())
              else
                if (!(decide (r10.2.1 = (List.length r3.1 : Int)))) = true then
                  some (false, ())
                else
                  if (decide ((List.length r4.1 : Int) > 0)) = true then
                    if (!r11.2.2.1) = true then
                      some (false, ())
                    else
                      if (!(decide (r11.1 = r2.1))) = true then
                        some (false, ())
                      else
                        if (!(decide (r11.2.1 = (List.length r4.1 : Int)))) = true then
                          some (false, ())
                        else
                          if (!r12.2.2.1) = true then
                            some (false, ())
                          else
                            if (!(decide (r12.1 = r5.1))) = true then
                              some (false, ())
                            else
                              if (!(decide (r12.2.1 = (List.length r6.1 : Int)))) = true then
                                some (false, ())
                              else
                                (s_DrawGetNum t0).bind fun (r13 : (List Int) × Int × Unit) =>
                                (i_GetNum r13.1 r13.2.1).bind fun (r14 : Int × Int × Bool × Unit) =>
                                (s_GetNum r13.1 r13.2.1).bind fun (r15 : Int × Int × Bool × Unit) =>
                                (s_DrawGetInt t0).bind fun (r16 : (List Int) × Int × Unit) =>
                                (i_GetInt r16.1 r16.2.1).bind fun (r17 : Int × Int × Bool × Unit) =>
                                (s_GetInt r16.1 r16.2.1).bind fun (r18 : Int × Int × Bool × Unit) =>
                                (s_DrawGetText t0).bind fun (r19 : (List Int) × Int × Unit) =>
                                (i_GetText r19.1 r19.2.1).bind fun (r20 : (List Int) × Int × Bool × Unit) =>
                                (s_GetText r19.1 r19.2.1).bind fun (r21 : (List Int) × Int × Bool × Unit) =>
                                if (!(decide (r14.2.2.1 = r15.2.2.1))) = true then
                                  some (false, ())
                                else
                                  if (!(decide (r14.2.1 = r15.2.1))) = true then
                                    some (false, ())
                                  else
                                    if (!(decide (r17.2.2.1 = r18.2.2.1))) = true then
                                      some (false, ())
                                    else
                                      if (!(decide (r17.2.1 = r18.2.1))) = true then
                                        some (false, ())
                                      else
                                        if (!(decide (r20.2.2.1 = r21.2.2.1))) = true then
                                          some (false, ())
                                        else
                                          if (!(decide (r20.2.1 = r21.2.1))) = true then
                                            some (false, ())
                                          else
                                            if (!r14.2.2.1) = true then
                                              if (!r17.2.2.1) = true then
                                                if (!r20.2.2.1) = true then
                                                  some (true, ())
                                                else
                                                  (i_PutText r20.1).bind fun (r22 : (List Int) × Unit) =>
                                                  if (0 : Int) ≤ r19.2.1 ∧ r19.2.1 ≤ r20.2.1 ∧ r20.2.1 ≤ (List.length r19.1 : Int) then
                                                    some ((decide (r22.1 = (List.take (r20.2.1.toNat - r19.2.1.toNat) (List.drop r19.2.1.toNat r19.1)))), ())
                                                  else none
                                              else
                                                (i_PutInt r17.1).bind fun (r23 : (List Int) × Unit) =>
                                                if (0 : Int) ≤ r16.2.1 ∧ r16.2.1 ≤ r17.2.1 ∧ r17.2.1 ≤ (List.length r16.1 : Int) then
                                                  if (decide (r23.1 = (List.take (r17.2.1.toNat - r16.2.1.toNat) (List.drop r16.2.1.toNat r16.1)))) = true then
                                                    if (!r20.2.2.1) = true then
                                                      some (true, ())
                                                    else
                                                      (i_PutText r20.1).bind fun (r24 : (List Int) × Unit) =>
                                                      if (0 : Int) ≤ r19.2.1 ∧ r19.2.1 ≤ r20.2.1 ∧ r20.2.1 ≤ (List.length r19.1 : Int) then
                                                        some ((decide (r24.1 = (List.take (r20.2.1.toNat - r19.2.1.toNat) (List.drop r19.2.1.toNat r19.1)))), ())
                                                      else none
                                                  else
                                                    some (false, ())
                                                else none
                                            else
                                              (i_PutNum r14.1).bind fun (r25 : (List Int) × Unit) =>
                                              if (0 : Int) ≤ r13.2.1 ∧ r13.2.1 ≤ r14.2.1 ∧ r14.2.1 ≤ (List.length r13.1 : Int) then
                                                if (decide (r25.1 = (List.take (r14.2.1.toNat - r13.2.1.toNat) (List.drop r13.2.1.toNat r13.1)))) = true then
                                                  if (!r17.2.2.1) = true then
                                                    if (!r20.2.2.1) = true then
                                                      some (true, ())
                                                    else
                                                      (i_PutText r20.1).bind fun (r26 : (List Int) × Unit) =>
                                                      if (0 : Int) ≤ r19.2.1 ∧ r19.2.1 ≤ r20.2.1 ∧ r20.2.1 ≤ (List.length r19.1 : Int) then
                                                        some ((decide (r26.1 = (List.take (r20.2.1.toNat - r19.2.1.toNat) (List.drop r19.2.1.toNat r19.1)))), ())
                                                      else none
                                                  else
                                                    (i_PutInt r17.1).bind fun (r27 : (List Int) × Unit) =>
                                                    if (0 : Int) ≤ r16.2.1 ∧ r16.2.1 ≤ r17.2.1 ∧ r17.2.1 ≤ (List.length r16.1 : Int) then
                                                      if (decide (r27.1 = (List.take (r17.2.1.toNat - r16.2.1.toNat) (List.drop r16.2.1.toNat r16.1)))) = true then
                                                        if (!r20.2.2.1) = true then
                                                          some (true, ())
                                                        else
                                                          (i_PutText r20.1).bind fun (r28 : (List Int) × Unit) =>
                                                          if (0 : Int) ≤ r19.2.1 ∧ r19.2.1 ≤ r20.2.1 ∧ r20.2.1 ≤ (List.length r19.1 : Int) then
                                                            some ((decide (r28.1 = (List.take (r20.2.1.toNat - r19.2.1.toNat) (List.drop r19.2.1.toNat r19.1)))), ())
                                                          else none
                                                      else
                                                        some (false, ())
                                                    else none
                                                else
                                                  some (false, ())
                                              else none
                  else
                    if (!r12.2.2.1) = true then
                      some (false, ())
                    else
                      if (!(decide (r12.1 = r5.1))) = true then
                        some (false, ())
                      else
                        if (!(decide (r12.2.1 = (List.length r6.1 : Int)))) = true then
                          some (false, ())
                        else
                          (s_DrawGetNum t0).bind fun (r29 : (List Int) × Int × Unit) =>
                          (i_GetNum r29.1 r29.2.1).bind fun (r30 : Int × Int × Bool × Unit) =>
                          (s_GetNum r29.1 r29.2.1).bind fun (r31 : Int × Int × Bool × Unit) =>
                          (s_DrawGetInt t0).bind fun (r32 : (List Int) × Int × Unit) =>
                          (i_GetInt r32.1 r32.2.1).bind fun (r33 : Int × Int × Bool × Unit) =>
                          (s_GetInt r32.1 r32.2.1).bind fun (r34 : Int × Int × Bool × Unit) =>
                          (s_DrawGetText t0).bind fun (r35 : (List Int) × Int × Unit) =>
                          (i_GetText r35.1 r35.2.1).bind fun (r36 : (List Int) × Int × Bool × Unit) =>
                          (s_GetText r35.1 r35.2.1).bind fun (r37 : (List Int) × Int × Bool × Unit) =>
                          if (!(decide (r30.2.2.1 = r31.2.2.1))) = true then
                            some (false, ())
                          else
                            if (!(decide (r30.2.1 = r31.2.1))) = true then
                              some (false, ())
                            else
                              if (!(decide (r33.2.2.1 = r34.2.2.1))) = true then
                                some (false, ())
                              else
                                if (!(decide (r33.2.1 = r34.2.1))) = true then
                                  some (false, ())
                                else
                                  if (!(decide (r36.2.2.1 = r37.2.2.1))) = true then
                                    some (false, ())
                                  else
                                    if (!(decide (r36.2.1 = r37.2.1))) = true then
                                      some (false, ())
                                    else
                                      if (!r30.2.2.1) = true then
                                        if (!r33.2.2.1) = true then
                                          if (!r36.2.2.1) = true then
                                            some (true, ())
                                          else
                                            (i_PutText r36.1).bind fun (r38 : (List Int) × Unit) =>
                                            if (0 : Int) ≤ r35.2.1 ∧ r35.2.1 ≤ r36.2.1 ∧ r36.2.1 ≤ (List.length r35.1 : Int) then
                                              some ((decide (r38.1 = (List.take (r36.2.1.toNat - r35.2.1.toNat) (List.drop r35.2.1.toNat r35.1)))), ())
                                            else none
                                        else
                                          (i_PutInt r33.1).bind fun (r39 : (List Int) × Unit) =>
                                          if (0 : Int) ≤ r32.2.1 ∧ r32.2.1 ≤ r33.2.1 ∧ r33.2.1 ≤ (List.length r32.1 : Int) then
                                            if (decide (r39.1 = (List.take (r33.2.1.toNat - r32.2.1.toNat) (List.drop r32.2.1.toNat r32.1)))) = true then
                                              if (!r36.2.2.1) = true then
                                                some (true, ())
                                              else
                                                (i_PutText r36.1).bind fun (r40 : (List Int) × Unit) =>
                                                if (0 : Int) ≤ r35.2.1 ∧ r35.2.1 ≤ r36.2.1 ∧ r36.2.1 ≤ (List.length r35.1 : Int) then
                                                  some ((decide (r40.1 = (List.take (r36.2.1.toNat - r35.2.1.toNat) (List.drop r35.2.1.toNat r35.1)))), ())
                                                else none
                                            else
                                              some (false, ())
                                          else none
                                      else
                                        (i_PutNum r30.1).bind fun (r41 : (List Int) × Unit) =>
                                        if (0 : Int) ≤ r29.2.1 ∧ r29.2.1 ≤ r30.2.1 ∧ r30.2.1 ≤ (List.length r29.1 : Int) then
                                          if (decide (r41.1 = (List.take (r30.2.1.toNat - r29.2.1.toNat) (List.drop r29.2.1.toNat r29.1)))) = true then
                                            if (!r33.2.2.1) = true then
                                              if (!r36.2.2.1) = true then
                                                some (true, ())
                                              else
                                                (i_PutText r36.1).bind fun (r42 : (List Int) × Unit) =>
                                                if (0 : Int) ≤ r35.2.1 ∧ r35.2.1 ≤ r36.2.1 ∧ r36.2.1 ≤ (List.length r35.1 : Int) then
                                                  some ((decide (r42.1 = (List.take (r36.2.1.toNat - r35.2.1.toNat) (List.drop r35.2.1.toNat r35.1)))), ())
                                                else none
                                            else
                                              (i_PutInt r33.1).bind fun (r43 : (List Int) × Unit) =>
                                              if (0 : Int) ≤ r32.2.1 ∧ r32.2.1 ≤ r33.2.1 ∧ r33.2.1 ≤ (List.length r32.1 : Int) then
                                                if (decide (r43.1 = (List.take (r33.2.1.toNat - r32.2.1.toNat) (List.drop r32.2.1.toNat r32.1)))) = true then
                                                  if (!r36.2.2.1) = true then
                                                    some (true, ())
                                                  else
                                                    (i_PutText r36.1).bind fun (r44 : (List Int) × Unit) =>
                                                    if (0 : Int) ≤ r35.2.1 ∧ r35.2.1 ≤ r36.2.1 ∧ r36.2.1 ≤ (List.length r35.1 : Int) then
                                                      some ((decide (r44.1 = (List.take (r36.2.1.toNat - r35.2.1.toNat) (List.drop r35.2.1.toNat r35.1)))), ())
                                                    else none
                                                else
                                                  some (false, ())
                                              else none
                                          else
                                            some (false, ())
                                        else none
          else
            if (decide ((List.length r4.1 : Int) > 0)) = true then
              if (!r11.2.2.1) = true then
                some (false, ())
              else
                if (!(decide (r11.1 = r2.1))) = true then
                  some (false, ())
                else
                  if (!(decide (r11.2.1 = (List.length r4.1 : Int)))) = true then
                    some (false, ())
                  else
                    if (!r12.2.2.1) = true then
                      some (false, ())
                    else
                      if (!(decide (r12.1 = r5.1))) = true then
                        some (false, ())
                      else
                        if (!(decide (r12.2.1 = (List.length r6.1 : Int)))) = true then
                          some (false, ())
                        else
                          (s_DrawGetNum t0).bind fun (r45 : (List Int) × Int × Unit) =>
                          (i_GetNum r45.1 r45.2.1).bind fun (r46 : Int × Int × Bool × Unit) =>
                          (s_GetNum r45.1 r45.2.1).bind fun (r47 : Int × Int × Bool × Unit) =>
                          (s_DrawGetInt t0).bind fun (r48 : (List Int) × Int × Unit) =>
                          (i_GetInt r48.1 r48.2.1).bind fun (r49 : Int × Int × Bool × Unit) =>
                          (s_GetInt r48.1 r48.2.1).bind fun (r50 : Int × Int × Bool × Unit) =>
                          (s_DrawGetText t0).bind fun (r51 : (List Int) × Int × Unit) =>
                          (i_GetText r51.1 r51.2.1).bind fun (r52 : (List Int) × Int × Bool × Unit) =>
                          (s_GetText r51.1 r51.2.1).bind fun (r53 : (List Int) × Int × Bool × Unit) =>
                          if (!(decide (r46.2.2.1 = r47.2.2.1))) = true then
                            some (false, ())
                          else
                            if (!(decide (r46.2.1 = r47.2.1))) = true then
                              some (false, ())
                            else
                              if (!(decide (r49.2.2.1 = r50.2.2.1))) = true then
                                some (false, ())
                              else
                                if (!(decide (r49.2.1 = r50.2.1))) = true then
                                  some (false, ())
                                else
                                  if (!(decide (r52.2.2.1 = r53.2.2.1))) = true then
                                    some (false, ())
                                  else
                                    if (!(decide (r52.2.1 = r53.2.1))) = true then
                                      some (false, ())
                                    else
                                      if (!r46.2.2.1) = true then
                                        if (!r49.2.2.1) = true then
                                          if (!r52.2.2.1) = true then
                                            some (true, ())
                                          else
                                            (i_PutText r52.1).bind fun (r54 : (List Int) × Unit) =>
                                            if (0 : Int) ≤ r51.2.1 ∧ r51.2.1 ≤ r52.2.1 ∧ r52.2.1 ≤ (List.length r51.1 : Int) then
                                              some ((decide (r54.1 = (List.take (r52.2.1.toNat - r51.2.1.toNat) (List.drop r51.2.1.toNat r51.1)))), ())
                                            else none
                                        else
                                          (i_PutInt r49.1).bind fun (r55 : (List Int) × Unit) =>
                                          if (0 : Int) ≤ r48.2.1 ∧ r48.2.1 ≤ r49.2.1 ∧ r49.2.1 ≤ (List.length r48.1 : Int) then
                                            if (decide (r55.1 = (List.take (r49.2.1.toNat - r48.2.1.toNat) (List.drop r48.2.1.toNat r48.1)))) = true then
                                              if (!r52.2.2.1) = true then
                                                some (true, ())
                                              else
                                                (i_PutText r52.1).bind fun (r56 : (List Int) × Unit) =>
                                                if (0 : Int) ≤ r51.2.1 ∧ r51.2.1 ≤ r52.2.1 ∧ r52.2.1 ≤ (List.length r51.1 : Int) then
                                                  some ((decide (r56.1 = (List.take (r52.2.1.toNat - r51.2.1.toNat) (List.drop r51.2.1.toNat r51.1)))), ())
                                                else none
                                            else
                                              some (false, ())
                                          else none
                                      else
                                        (i_PutNum r46.1).bind fun (r57 : (List Int) × Unit) =>
                                        if (0 : Int) ≤ r45.2.1 ∧ r45.2.1 ≤ r46.2.1 ∧ r46.2.1 ≤ (List.length r45.1 : Int) then
                                          if (decide (r57.1 = (List.take (r46.2.1.toNat - r45.2.1.toNat) (List.drop r45.2.1.toNat r45.1)))) = true then
                                            if (!r49.2.2.1) = true then
                                              if (!r52.2.2.1) = true then
                                                some (true, ())
                                              else
                                                (i_PutText r52.1).bind fun (r58 : (List Int) × Unit) =>
                                                if (0 : Int) ≤ r51.2.1 ∧ r51.2.1 ≤ r52.2.1 ∧ r52.2.1 ≤ (List.length r51.1 : Int) then
                                                  some ((decide (r58.1 = (List.take (r52.2.1.toNat - r51.2.1.toNat) (List.drop r51.2.1.toNat r51.1)))), ())
                                                else none
                                            else
                                              (i_PutInt r49.1).bind fun (r59 : (List Int) × Unit) =>
                                              if (0 : Int) ≤ r48.2.1 ∧ r48.2.1 ≤ r49.2.1 ∧ r49.2.1 ≤ (List.length r48.1 : Int) then
                                                if (decide (r59.1 = (List.take (r49.2.1.toNat - r48.2.1.toNat) (List.drop r48.2.1.toNat r48.1)))) = true then
                                                  if (!r52.2.2.1) = true then
                                                    some (true, ())
                                                  else
                                                    (i_PutText r52.1).bind fun (r60 : (List Int) × Unit) =>
                                                    if (0 : Int) ≤ r51.2.1 ∧ r51.2.1 ≤ r52.2.1 ∧ r52.2.1 ≤ (List.length r51.1 : Int) then
                                                      some ((decide (r60.1 = (List.take (r52.2.1.toNat - r51.2.1.toNat) (List.drop r51.2.1.toNat r51.1)))), ())
                                                    else none
                                                else
                                                  some (false, ())
                                              else none
                                          else
                                            some (false, ())
                                        else none
            else
              if (!r12.2.2.1) = true then
                some (false, ())
              else
                if (!(decide (r12.1 = r5.1))) = true then
                  some (false, ())
                else
                  if (!(decide (r12.2.1 = (List.length r6.1 : Int)))) = true then
                    some (false, ())
                  else
                    (s_DrawGetNum t0).bind fun (r61 : (List Int) × Int × Unit) =>
                    (i_GetNum r61.1 r61.2.1).bind fun (r62 : Int × Int × Bool × Unit) =>
                    (s_GetNum r61.1 r61.2.1).bind fun (r63 : Int × Int × Bool × Unit) =>
                    (s_DrawGetInt t0).bind fun (r64 : (List Int) × Int × Unit) =>
                    (i_GetInt r64.1 r64.2.1).bind fun (r65 : Int × Int × Bool × Unit) =>
                    (s_GetInt r64.1 r64.2.1).bind fun (r66 : Int × Int × Bool × Unit) =>
                    (s_DrawGetText t0).bind fun (r67 : (List Int) × Int × Unit) =>
                    (i_GetText r67.1 r67.2.1).bind fun (r68 : (List Int) × Int × Bool × Unit) =>
                    (s_GetText r67.1 r67.2.1).bind fun (r69 : (List Int) × Int × Bool × Unit) =>
                    if (!(decide (r62.2.2.1 = r63.2.2.1))) = true then
                      some (false, ())
                    else
                      if (!(decide (r62.2.1 = r63.2.1))) = true then
                        some (false, ())
                      else
                        if (!(decide (r65.2.2.1 = r66.2.2.1))) = true then
                          some (false, ())
                        else
                          if (!(decide (r65.2.1 = r66.2.1))) = true then
                            some (false, ())
                          else
                            if (!(decide (r68.2.2.1 = r69.2.2.1))) = true then
                              some (false, ())
                            else
                              if (!(decide (r68.2.1 = r69.2.1))) = true then
                                some (false, ())
                              else
                                if (!r62.2.2.1) = true then
                                  if (!r65.2.2.1) = true then
                                    if (!r68.2.2.1) = true then
                                      some (true, ())
                                    else
                                      (i_PutText r68.1).bind fun (r70 : (List Int) × Unit) =>
                                      if (0 : Int) ≤ r67.2.1 ∧ r67.2.1 ≤ r68.2.1 ∧ r68.2.1 ≤ (List.length r67.1 : Int) then
                                        some ((decide (r70.1 = (List.take (r68.2.1.toNat - r67.2.1.toNat) (List.drop r67.2.1.toNat r67.1)))), ())
                                      else none
                                  else
                                    (i_PutInt r65.1).bind fun (r71 : (List Int) × Unit) =>
                                    if (0 : Int) ≤ r64.2.1 ∧ r64.2.1 ≤ r65.2.1 ∧ r65.2.1 ≤ (List.length r64.1 : Int) then
                                      if (decide (r71.1 = (List.take (r65.2.1.toNat - r64.2.1.toNat) (List.drop r64.2.1.toNat r64.1)))) = true then
                                        if (!r68.2.2.1) = true then
                                          some (true, ())
                                        else
                                          (i_PutText r68.1).bind fun (r72 : (List Int) × Unit) =>
                                          if (0 : Int) ≤ r67.2.1 ∧ r67.2.1 ≤ r68.2.1 ∧ r68.2.1 ≤ (List.length r67.1 : Int) then
                                            some ((decide (r72.1 = (List.take (r68.2.1.toNat - r67.2.1.toNat) (List.drop r67.2.1.toNat r67.1)))), ())
                                          else none
                                      else
                                        some (false, ())
                                    else none
                                else
                                  (i_PutNum r62.1).bind fun (r73 : (List Int) × Unit) =>
                                  if (0 : Int) ≤ r61.2.1 ∧ r61.2.1 ≤ r62.2.1 ∧ r62.2.1 ≤ (List.length r61.1 : Int) then
                                    if (decide (r73.1 = (List.take (r62.2.1.toNat - r61.2.1.toNat) (List.drop r61.2.1.toNat r61.1)))) = true then
                                      if (!r65.2.2.1) = true then
                                        if (!r68.2.2.1) = true then
                                          some (true, ())
                                        else
                                          (i_PutText r68.1).bind fun (r74 : (List Int) × Unit) =>
                                          if (0 : Int) ≤ r67.2.1 ∧ r67.2.1 ≤ r68.2.1 ∧ r68.2.1 ≤ (List.length r67.1 : Int) then
                                            some ((decide (r74.1 = (List.take (r68.2.1.toNat - r67.2.1.toNat) (List.drop r67.2.1.toNat r67.1)))), ())
                                          else none
                                      else
                                        (i_PutInt r65.1).bind fun (r75 : (List Int) × Unit) =>
                                        if (0 : Int) ≤ r64.2.1 ∧ r64.2.1 ≤ r65.2.1 ∧ r65.2.1 ≤ (List.length r64.1 : Int) then
                                          if (decide (r75.1 = (List.take (r65.2.1.toNat - r64.2.1.toNat) (List.drop r64.2.1.toNat r64.1)))) = true then
                                            if (!r68.2.2.1) = true then
                                              some (true, ())
                                            else
                                              (i_PutText r68.1).bind fun (r76 : (List Int) × Unit) =>
                                              if (0 : Int) ≤ r67.2.1 ∧ r67.2.1 ≤ r68.2.1 ∧ r68.2.1 ≤ (List.length r67.1 : Int) then
                                                some ((decide (r76.1 = (List.take (r68.2.1.toNat - r67.2.1.toNat) (List.drop r67.2.1.toNat r67.1)))), ())
                                              else none
                                          else
                                            some (false, ())
                                        else none
                                    else
                                      some (false, ())
                                  else none := (lim_eq tab 0 (t0, ())).trans (by kernel_rfl)
theorem l_big_eq (t0 : (List Int)) : l_big t0 =
  some ((decide ((List.length t0 : Int) > 1048576)), ()) := (lim_eq tab 1 (t0, ())).trans (by kernel_rfl)
theorem s_DrawPutNum_eq (t0 : (List Int)) : s_DrawPutNum t0 =
  (s_l1New t0).bind fun (r0 : (Unit × spec_l1Cur) × Unit) =>
  (s_l1PickInt r0.1.2 [0, 1, 127, 128, 300, 16384, 4611686018427387903, (-1), 9223372036854775807]).bind fun (r1 : Int × spec_l1Cur × Unit) =>
  some (r1.1, ()) := (lim_eq tab 2 (t0, ())).trans (by kernel_rfl)
theorem s_DrawPutInt_eq (t0 : (List Int)) : s_DrawPutInt t0 =
  (s_l1New t0).bind fun (r0 : (Unit × spec_l1Cur) × Unit) =>
  (s_l1PickInt r0.1.2 [0, 1, (-1), 63, (-64), 64, 2305843009213693951, (-2305843009213693951), 4611686018427387903, (-9223372036854775808)]).bind fun (r1 : Int × spec_l1Cur × Unit) =>
  some (r1.1, ()) := (lim_eq tab 3 (t0, ())).trans (by kernel_rfl)
theorem i_PutNum_eq (t0 : Int) : i_PutNum t0 =
  (i_in t0 0 4611686018427387903).bind fun (r0 : Bool × Unit) =>
  if (!r0.1) = true then
    some ([], ())
  else
    i_PutNum_L1 t0 [] := (lim_eq tab 4 (t0, ())).trans (by kernel_rfl)
theorem i_PutNum_L1_eq (t0 : Int) (t3 : (List Int)) : i_PutNum_L1 t0 t3 =
  if (decide (t0 > 127)) = true then
    if List.length t3 + 1 ≤ room then
      i_PutNum_L1 (shrI .i64 t0 7) (List.append t3 [(w8 (bits .or .i64 (bits .and .i64 t0 127) 128))])
    else none
  else
    if List.length t3 + 1 ≤ room then
      some ((List.append t3 [(w8 t0)]), ())
    else none := (lim_eq tab 5 (t0, (t3, ()))).trans (by kernel_rfl)
theorem i_PutInt_eq (t0 : Int) : i_PutInt t0 =
  (i_in t0 (-2305843009213693951) 2305843009213693951).bind fun (r0 : Bool × Unit) =>
  if (!r0.1) = true then
    some ([], ())
  else
    if (decide (t0 < 0)) = true then
      (i_PutNum (w64 ((w64 ((-2) * t0)) - 1))).bind fun (r1 : (List Int) × Unit) =>
      some (r1.1, ())
    else
      (i_PutNum (w64 (2 * t0))).bind fun (r2 : (List Int) × Unit) =>
      some (r2.1, ()) := (lim_eq tab 6 (t0, ())).trans (by kernel_rfl)
theorem s_DrawPutText_eq (t0 : (List Int)) : s_DrawPutText t0 =
  (s_l1New t0).bind fun (r0 : (Unit × spec_l1Cur) × Unit) =>
  (s_l1Pick r0.1.2 [[], [97], [116, 119, 111, 32, 119, 111, 114, 100, 115], [0, 255]]).bind fun (r1 : (List Int) × spec_l1Cur × Unit) =>
  some (r1.1, ()) := (lim_eq tab 7 (t0, ())).trans (by kernel_rfl)
theorem i_PutText_eq (t0 : (List Int)) : i_PutText t0 =
  (i_PutNum (List.length t0 : Int)).bind fun (r0 : (List Int) × Unit) =>
  if List.length r0.1 + List.length t0 ≤ room then
    some ((List.append r0.1 t0), ())
  else none := (lim_eq tab 8 (t0, ())).trans (by kernel_rfl)
theorem s_PutNum_eq (t0 : Int) : s_PutNum t0 =
  (s_l1In t0 0 4611686018427387903).bind fun (r0 : Bool × Unit) =>
  if (!r0.1) = true then
    some ([], ())
  else
    s_PutNum_L1 t0 [] := (lim_eq tab 9 (t0, ())).trans (by kernel_rfl)
theorem s_PutNum_L1_eq (t0 : Int) (t3 : (List Int)) : s_PutNum_L1 t0 t3 =
  if (decide (t0 > 127)) = true then
    if List.length t3 + 1 ≤ room then
      s_PutNum_L1 (w64 (Int.tdiv t0 128)) (List.append t3 [(w8 (w64 ((Int.tmod t0 128) + 128)))])
    else none
  else
    if List.length t3 + 1 ≤ room then
      some ((List.append t3 [(w8 t0)]), ())
    else none := (lim_eq tab 10 (t0, (t3, ()))).trans (by kernel_rfl)
theorem s_PutInt_eq (t0 : Int) : s_PutInt t0 =
  (s_l1In t0 (-2305843009213693951) 2305843009213693951).bind fun (r0 : Bool × Unit) =>
  if (!r0.1) = true then
    some ([], ())
  else
    if (decide (t0 < 0)) = true then
      (s_PutNum (w64 ((w64 ((-2) * t0)) - 1))).bind fun (r1 : (List Int) × Unit) =>
      some (r1.1, ())
    else
      (s_PutNum (w64 (2 * t0))).bind fun (r2 : (List Int) × Unit) =>
      some (r2.1, ()) := (lim_eq tab 11 (t0, ())).trans (by kernel_rfl)
theorem s_PutText_eq (t0 : (List Int)) : s_PutText t0 =
  (s_PutNum (List.length t0 : Int)).bind fun (r0 : (List Int) × Unit) =>
  if (List.length t0 : Nat) ≤ room then
    if List.length r0.1 + List.length t0 ≤ room then
      some ((List.append r0.1 t0), ())
    else none
  else none := (lim_eq tab 12 (t0, ())).trans (by kernel_rfl)
theorem i_GetNum_eq (t0 : (List Int)) (t1 : Int) : i_GetNum t0 t1 =
  (i_in t1 0 (List.length t0 : Int)).bind fun (r0 : Bool × Unit) =>
  if (!r0.1) = true then
    some (0, 0, false, ())
  else
    i_GetNum_L1 t0 t1 0 0 := (lim_eq tab 13 (t0, (t1, ()))).trans (by kernel_rfl)
theorem i_GetNum_L1_eq (t0 : (List Int)) (t1 : Int) (t7 : Int) (t8 : Int) : i_GetNum_L1 t0 t1 t7 t8 =
  if (decide (t8 < 9)) = true then
    if (decide ((w64 (t1 + t8)) < (List.length t0 : Int))) = true then
      if (0 : Int) ≤ (w64 (t1 + t8)) ∧ (w64 (t1 + t8)) < (List.length t0 : Int) then
        if (0 : Int) ≤ (w64 (7 * t8)) then
          if (decide ((w64 (List.getD t0 (w64 (t1 + t8)).toNat 0)) > 127)) = true then
            i_GetNum_L1 t0 t1 (bits .or .i64 t7 (shlI .i64 (bits .and .i64 (w64 (List.getD t0 (w64 (t1 + t8)).toNat 0)) 127) (w64 (7 * t8)))) (w64 (t8 + 1))
          else
            if (decide ((w64 (List.getD t0 (w64 (t1 + t8)).toNat 0)) = 0)) = true then
              if (decide (t8 > 0)) = true then
                some (0, 0, false, ())
              else
                (i_in (bits .or .i64 t7 (shlI .i64 (bits .and .i64 (w64 (List.getD t0 (w64 (t1 + t8)).toNat 0)) 127) (w64 (7 * t8)))) 0 4611686018427387903).bind fun (r0 : Bool × Unit) =>
                if (!r0.1) = true then
                  some (0, 0, false, ())
                else
                  some ((bits .or .i64 t7 (shlI .i64 (bits .and .i64 (w64 (List.getD t0 (w64 (t1 + t8)).toNat 0)) 127) (w64 (7 * t8)))), (w64 ((w64 (t1 + t8)) + 1)), true, ())
            else
              (i_in (bits .or .i64 t7 (shlI .i64 (bits .and .i64 (w64 (List.getD t0 (w64 (t1 + t8)).toNat 0)) 127) (w64 (7 * t8)))) 0 4611686018427387903).bind fun (r1 : Bool × Unit) =>
              if (!r1.1) = true then
                some (0, 0, false, ())
              else
                some ((bits .or .i64 t7 (shlI .i64 (bits .and .i64 (w64 (List.getD t0 (w64 (t1 + t8)).toNat 0)) 127) (w64 (7 * t8)))), (w64 ((w64 (t1 + t8)) + 1)), true, ())
        else none
      else none
    else
      some (0, 0, false, ())
  else
    some (0, 0, false, ()) := (lim_eq tab 14 (t0, (t1, (t7, (t8, ()))))).trans (by kernel_rfl)
theorem i_GetInt_eq (t0 : (List Int)) (t1 : Int) : i_GetInt t0 t1 =
  (i_GetNum t0 t1).bind fun (r0 : Int × Int × Bool × Unit) =>
  if (decide ((Int.tmod r0.1 2) = 1)) = true then
    i_GetInt_L1 r0.2.1 r0.2.2.1 (w64 (0 - (w64 ((w64 (Int.tdiv r0.1 2)) + 1))))
  else
    i_GetInt_L1 r0.2.1 r0.2.2.1 (w64 (Int.tdiv r0.1 2)) := (lim_eq tab 15 (t0, (t1, ()))).trans (by kernel_rfl)
theorem i_GetInt_L1_eq (t8 : Int) (t9 : Bool) (t10 : Int) : i_GetInt_L1 t8 t9 t10 =
  if (!t9) = true then
    some (0, 0, false, ())
  else
    (i_in t10 (-2305843009213693951) 2305843009213693951).bind fun (r0 : Bool × Unit) =>
    if (!r0.1) = true then
      some (0, 0, false, ())
    else
      some (t10, t8, true, ()) := (lim_eq tab 16 (t8, (t9, (t10, ())))).trans (by kernel_rfl)
theorem i_GetText_eq (t0 : (List Int)) (t1 : Int) : i_GetText t0 t1 =
  (i_GetNum t0 t1).bind fun (r0 : Int × Int × Bool × Unit) =>
  if (!r0.2.2.1) = true then
    some ([], 0, false, ())
  else
    if (decide (r0.1 > (w64 ((List.length t0 : Int) - r0.2.1)))) = true then
      some ([], 0, false, ())
    else
      if (0 : Int) ≤ r0.2.1 ∧ r0.2.1 ≤ (w64 (r0.2.1 + r0.1)) ∧ (w64 (r0.2.1 + r0.1)) ≤ (List.length t0 : Int) then
        some ((List.take ((w64 (r0.2.1 + r0.1)).toNat - r0.2.1.toNat) (List.drop r0.2.1.toNat t0)), (w64 (r0.2.1 + r0.1)), true, ())
      else none := (lim_eq tab 17 (t0, (t1, ()))).trans (by kernel_rfl)
theorem s_DrawGetNum_eq (t0 : (List Int)) : s_DrawGetNum t0 =
  (s_l1New t0).bind fun (r0 : (Unit × spec_l1Cur) × Unit) =>
  (s_l17DrawNums r0.1.2).bind fun (r1 : (List Int) × spec_l1Cur × Unit) =>
  (s_l1PickInt r1.2.1 [0, 0, 1, (List.length r1.1 : Int), (w64 ((List.length r1.1 : Int) - 9)), (-1), 9223372036854775807]).bind fun (r2 : Int × spec_l1Cur × Unit) =>
  some (r1.1, r2.1, ()) := (lim_eq tab 18 (t0, ())).trans (by kernel_rfl)
theorem s_GetNum_eq (t0 : (List Int)) (t1 : Int) : s_GetNum t0 t1 =
  s_GetNum_L1 t0 t1 0 0 := (lim_eq tab 19 (t0, (t1, ()))).trans (by kernel_rfl)
theorem s_GetNum_L1_eq (t0 : (List Int)) (t1 : Int) (t7 : Int) (t8 : Int) : s_GetNum_L1 t0 t1 t7 t8 =
  if (decide (t8 < 9)) = true then
    if (decide (t1 < 0)) = true then
      some (0, 0, false, ())
    else
      if (decide (t1 ≥ (w64 ((List.length t0 : Int) - t8)))) = true then
        some (0, 0, false, ())
      else
        if (0 : Int) ≤ (w64 (t1 + t8)) ∧ (w64 (t1 + t8)) < (List.length t0 : Int) then
          if (0 : Int) ≤ (w64 (7 * t8)) then
            if (decide ((w64 (List.getD t0 (w64 (t1 + t8)).toNat 0)) < 128)) = true then
              if (decide (t8 > 0)) = true then
                if (decide ((w64 (List.getD t0 (w64 (t1 + t8)).toNat 0)) = 0)) = true then
                  some (0, 0, false, ())
                else
                  if (decide ((bits .or .i64 t7 (shlI .i64 (Int.tmod (w64 (List.getD t0 (w64 (t1 + t8)).toNat 0)) 128) (w64 (7 * t8)))) > 4611686018427387903)) = true then
                    some (0, 0, false, ())
                  else
                    if (decide ((bits .or .i64 t7 (shlI .i64 (Int.tmod (w64 (List.getD t0 (w64 (t1 + t8)).toNat 0)) 128) (w64 (7 * t8)))) < 0)) = true then
                      some (0, 0, false, ())
                    else
                      some ((bits .or .i64 t7 (shlI .i64 (Int.tmod (w64 (List.getD t0 (w64 (t1 + t8)).toNat 0)) 128) (w64 (7 * t8)))), (w64 ((w64 (t1 + t8)) + 1)), true, ())
              else
                if (decide ((bits .or .i64 t7 (shlI .i64 (Int.tmod (w64 (List.getD t0 (w64 (t1 + t8)).toNat 0)) 128) (w64 (7 * t8)))) > 4611686018427387903)) = true then
                  some (0, 0, false, ())
                else
                  if (decide ((bits .or .i64 t7 (shlI .i64 (Int.tmod (w64 (List.getD t0 (w64 (t1 + t8)).toNat 0)) 128) (w64 (7 * t8)))) < 0)) = true then
                    some (0, 0, false, ())
                  else
                    some ((bits .or .i64 t7 (shlI .i64 (Int.tmod (w64 (List.getD t0 (w64 (t1 + t8)).toNat 0)) 128) (w64 (7 * t8)))), (w64 ((w64 (t1 + t8)) + 1)), true, ())
            else
              s_GetNum_L1 t0 t1 (bits .or .i64 t7 (shlI .i64 (Int.tmod (w64 (List.getD t0 (w64 (t1 + t8)).toNat 0)) 128) (w64 (7 * t8)))) (w64 (t8 + 1))
          else none
        else none
  else
    some (0, 0, false, ()) := (lim_eq tab 20 (t0, (t1, (t7, (t8, ()))))).trans (by kernel_rfl)
theorem s_DrawGetInt_eq (t0 : (List Int)) : s_DrawGetInt t0 =
  (s_DrawGetNum t0).bind fun (r0 : (List Int) × Int × Unit) =>
  some (r0.1, r0.2.1, ()) := (lim_eq tab 21 (t0, ())).trans (by kernel_rfl)
theorem s_GetInt_eq (t0 : (List Int)) (t1 : Int) : s_GetInt t0 t1 =
  (s_GetNum t0 t1).bind fun (r0 : Int × Int × Bool × Unit) =>
  if (!r0.2.2.1) = true then
    some (0, 0, false, ())
  else
    if (decide ((Int.tmod r0.1 2) = 1)) = true then
      s_GetInt_L1 r0.2.1 (w64 ((-1) - (w64 (Int.tdiv r0.1 2))))
    else
      s_GetInt_L1 r0.2.1 (w64 (Int.tdiv r0.1 2)) := (lim_eq tab 22 (t0, (t1, ()))).trans (by kernel_rfl)
theorem s_GetInt_L1_eq (t8 : Int) (t10 : Int) : s_GetInt_L1 t8 t10 =
  (s_l1In t10 (-2305843009213693951) 2305843009213693951).bind fun (r0 : Bool × Unit) =>
  if (!r0.1) = true then
    some (0, 0, false, ())
  else
    some (t10, t8, true, ()) := (lim_eq tab 23 (t8, (t10, ()))).trans (by kernel_rfl)
theorem s_DrawGetText_eq (t0 : (List Int)) : s_DrawGetText t0 =
  (s_l1New t0).bind fun (r0 : (Unit × spec_l1Cur) × Unit) =>
  (s_l1Pick r0.1.2 [[], [97, 98, 99], [120]]).bind fun (r1 : (List Int) × spec_l1Cur × Unit) =>
  (s_PutText r1.1).bind fun (r2 : (List Int) × Unit) =>
  (s_l17DrawNums r1.2.1).bind fun (r3 : (List Int) × spec_l1Cur × Unit) =>
  if List.length r2.1 + List.length r3.1 ≤ room then
    (s_l1Once r3.2.1 4).bind fun (r4 : Bool × spec_l1Cur × Unit) =>
    if r4.1 = true then
      (s_l1Below r4.2.1 (w64 ((List.length (List.append r2.1 r3.1) : Int) + 1))).bind fun (r5 : Int × spec_l1Cur × Unit) =>
      if (0 : Int) ≤ r5.1 ∧ r5.1 ≤ (List.length (List.append r2.1 r3.1) : Int) then
        (s_l1PickInt r5.2.1 [0, 0, 0, 1, (List.length (List.take r5.1.toNat (List.append r2.1 r3.1)) : Int), (-1)]).bind fun (r6 : Int × spec_l1Cur × Unit) =>
        some ((List.take r5.1.toNat (List.append r2.1 r3.1)), r6.1, ())
      else none
    else
      (s_l1PickInt r4.2.1 [0, 0, 0, 1, (List.length (List.append r2.1 r3.1) : Int), (-1)]).bind fun (r7 : Int × spec_l1Cur × Unit) =>
      some ((List.append r2.1 r3.1), r7.1, ())
  else none := (lim_eq tab 24 (t0, ())).trans (by kernel_rfl)
theorem s_GetText_eq (t0 : (List Int)) (t1 : Int) : s_GetText t0 t1 =
  (s_GetNum t0 t1).bind fun (r0 : Int × Int × Bool × Unit) =>
  if (!r0.2.2.1) = true then
    some ([], 0, false, ())
  else
    if (decide (r0.1 > (w64 ((List.length t0 : Int) - r0.2.1)))) = true then
      some ([], 0, false, ())
    else
      if (0 : Int) ≤ r0.2.1 ∧ r0.2.1 ≤ (w64 (r0.2.1 + r0.1)) ∧ (w64 (r0.2.1 + r0.1)) ≤ (List.length t0 : Int) then
        some ((List.take ((w64 (r0.2.1 + r0.1)).toNat - r0.2.1.toNat) (List.drop r0.2.1.toNat t0)), (w64 (r0.2.1 + r0.1)), true, ())
      else none := (lim_eq tab 25 (t0, (t1, ()))).trans (by kernel_rfl)
theorem s_l1New_eq (t0 : (List Int)) : s_l1New t0 =
  s_l1New_L1 t0 (w64 (20700 + (List.length t0 : Int))) 0 := (lim_eq tab 26 (t0, ())).trans (by kernel_rfl)
theorem s_l1New_L1_eq (t0 : (List Int)) (t3 : Int) (t4 : Int) : s_l1New_L1 t0 t3 t4 =
  if (decide (t4 < (List.length t0 : Int))) = true then
    if (decide (t4 < 4000)) = true then
      if (0 : Int) ≤ t4 ∧ t4 < (List.length t0 : Int) then
        s_l1New_L1 t0 (bits .and .i64 (w64 ((w64 ((w64 (t3 * 131)) + (w64 (List.getD t0 t4.toNat 0)))) + 7)) 1073741823) (w64 (t4 + 1))
      else none
    else
      some (((), (spec_l1Cur.mk t0 0 t3)), ())
  else
    some (((), (spec_l1Cur.mk t0 0 t3)), ()) := (lim_eq tab 27 (t0, (t3, (t4, ())))).trans (by kernel_rfl)
theorem s_l1PickInt_eq (s0 : spec_l1Cur) (t1 : (List Int)) : s_l1PickInt s0 t1 =
  (s_l1Below s0 (List.length t1 : Int)).bind fun (r0 : Int × spec_l1Cur × Unit) =>
  if (0 : Int) ≤ r0.1 ∧ r0.1 < (List.length t1 : Int) then
    some ((List.getD t1 r0.1.toNat 0), r0.2.1, ())
  else none := (lim_eq tab 28 (s0, (t1, ()))).trans (by kernel_rfl)
theorem i_in_eq (t0 : Int) (t1 : Int) (t2 : Int) : i_in t0 t1 t2 =
  if (decide (t0 ≥ t1)) = true then
    some ((decide (t0 ≤ t2)), ())
  else
    some (false, ()) := (lim_eq tab 29 (t0, (t1, (t2, ())))).trans (by kernel_rfl)
theorem s_l1Pick_eq (s0 : spec_l1Cur) (t1 : (List (List Int))) : s_l1Pick s0 t1 =
  (s_l1Below s0 (List.length t1 : Int)).bind fun (r0 : Int × spec_l1Cur × Unit) =>
  if (0 : Int) ≤ r0.1 ∧ r0.1 < (List.length t1 : Int) then
    some ((List.getD t1 r0.1.toNat []), r0.2.1, ())
  else none := (lim_eq tab 30 (s0, (t1, ()))).trans (by kernel_rfl)
theorem s_l1In_eq (t0 : Int) (t1 : Int) (t2 : Int) : s_l1In t0 t1 t2 =
  if (decide (t0 ≥ t1)) = true then
    some ((decide (t0 ≤ t2)), ())
  else
    some (false, ()) := (lim_eq tab 31 (t0, (t1, (t2, ())))).trans (by kernel_rfl)
theorem s_l17DrawNums_eq (s0 : spec_l1Cur) : s_l17DrawNums s0 =
  s_l17DrawNums_L1 [] 0 s0 := (lim_eq tab 32 (s0, ())).trans (by kernel_rfl)
theorem s_l17DrawNums_L1_eq (t3 : (List Int)) (t4 : Int) (s0 : spec_l1Cur) : s_l17DrawNums_L1 t3 t4 s0 =
  (s_l1Below s0 4).bind fun (r0 : Int × spec_l1Cur × Unit) =>
  if (decide (t4 < r0.1)) = true then
    (s_l1PickInt r0.2.1 [0, 1, 127, 128, 300, 4611686018427387903, 4611686018427387902]).bind fun (r1 : Int × spec_l1Cur × Unit) =>
    (s_PutNum r1.1).bind fun (r2 : (List Int) × Unit) =>
    if List.length t3 + List.length r2.1 ≤ room then
      s_l17DrawNums_L1 (List.append t3 r2.1) (w64 (t4 + 1)) r1.2.1
    else none
  else
    (s_l1Once r0.2.1 3).bind fun (r3 : Bool × spec_l1Cur × Unit) =>
    if r3.1 = true then
      (s_l1PickInt r3.2.1 [0, 128, 255]).bind fun (r4 : Int × spec_l1Cur × Unit) =>
      (s_l1Below r4.2.1 3).bind fun (r5 : Int × spec_l1Cur × Unit) =>
      if List.length t3 + 2 ≤ room then
        s_l17DrawNums_L2 (List.append t3 [(w8 r4.1), (w8 r5.1)]) r5.2.1
      else none
    else
      s_l17DrawNums_L2 t3 r3.2.1 := (lim_eq tab 33 (t3, (t4, (s0, ())))).trans (by kernel_rfl)
theorem s_l17DrawNums_L2_eq (t3 : (List Int)) (s0 : spec_l1Cur) : s_l17DrawNums_L2 t3 s0 =
  (s_l1Once s0 12).bind fun (r0 : Bool × spec_l1Cur × Unit) =>
  if r0.1 = true then
    (s_l1PickInt r0.2.1 [63, 64, 127, 128]).bind fun (r1 : Int × spec_l1Cur × Unit) =>
    if List.length t3 + 9 ≤ room then
      some ((List.append t3 [255, 255, 255, 255, 255, 255, 255, 255, (w8 r1.1)]), r1.2.1, ())
    else none
  else
    some (t3, r0.2.1, ()) := (lim_eq tab 34 (t3, (s0, ()))).trans (by kernel_rfl)
theorem s_l1Once_eq (s0 : spec_l1Cur) (t1 : Int) : s_l1Once s0 t1 =
  (s_l1Below s0 t1).bind fun (r0 : Int × spec_l1Cur × Unit) =>
  some ((decide (r0.1 = 0)), r0.2.1, ()) := (lim_eq tab 35 (s0, (t1, ()))).trans (by kernel_rfl)
theorem s_l1Below_eq (s0 : spec_l1Cur) (t1 : Int) : s_l1Below s0 t1 =
  if (decide (t1 ≤ 0)) = true then
    some (0, s0, ())
  else
    if (decide (t1 ≤ 256)) = true then
      (s_l1Byte s0).bind fun (r0 : Int × spec_l1Cur × Unit) =>
      if t1 ≠ 0 then
        some ((Int.tmod r0.1 t1), r0.2.1, ())
      else none
    else
      (s_l1Byte s0).bind fun (r1 : Int × spec_l1Cur × Unit) =>
      (s_l1Byte r1.2.1).bind fun (r2 : Int × spec_l1Cur × Unit) =>
      (s_l1Byte r2.2.1).bind fun (r3 : Int × spec_l1Cur × Unit) =>
      (s_l1Byte r3.2.1).bind fun (r4 : Int × spec_l1Cur × Unit) =>
      if t1 ≠ 0 then
        some ((Int.tmod (w64 ((w64 ((w64 ((w64 (r1.1 * 16777216)) + (w64 (r2.1 * 65536)))) + (w64 (r3.1 * 256)))) + r4.1)) t1), r4.2.1, ())
      else none := (lim_eq tab 36 (s0, (t1, ()))).trans (by kernel_rfl)
theorem s_l1Byte_eq (s0 : spec_l1Cur) : s_l1Byte s0 =
  if (decide (s0.i < (List.length s0.b : Int))) = true then
    if (0 : Int) ≤ s0.i ∧ s0.i < (List.length s0.b : Int) then
      let v0 : spec_l1Cur := (spec_l1Cur.mk s0.b (w64 (s0.i + 1)) (w64 ((w64 (s0.h * 6364136223846793005)) + 1442695040888963407)))
      some ((bits .and .i64 (w64 ((bits .and .i64 (bits .xor .i64 (shrI .i64 (w64 ((w64 (s0.h * 6364136223846793005)) + 1442695040888963407)) 33) (shrI .i64 (w64 ((w64 (s0.h * 6364136223846793005)) + 1442695040888963407)) 45)) 255) + (w64 (List.getD s0.b s0.i.toNat 0)))) 255), v0, ())
    else none
  else
    some ((bits .and .i64 (bits .xor .i64 (shrI .i64 (w64 ((w64 (s0.h * 6364136223846793005)) + 1442695040888963407)) 33) (shrI .i64 (w64 ((w64 (s0.h * 6364136223846793005)) + 1442695040888963407)) 45)) 255), (spec_l1Cur.mk s0.b s0.i (w64 ((w64 (s0.h * 6364136223846793005)) + 1442695040888963407))), ()) := (lim_eq tab 37 (s0, ())).trans (by kernel_rfl)
end Go.Proofs.Ytajahbpeiifcbaa.E.TC
