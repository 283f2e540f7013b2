/- The keys of the table of S as functions. No condition. -/
import Derived.Test.YtfafpanihhikoaaTSa
namespace Go.Proofs.Ytfafpanihhikoaa.E.TS
open Go.Proofs.Ytfafpanihhikoaa.E
set_option linter.unusedVariables false
set_option maxRecDepth 100000
noncomputable def l_FnSinks (t0 : (List Int)) : Option (Bool × Unit) := tab.lim 0 (t0, ())
noncomputable def l_big (t0 : (List Int)) : Option (Bool × Unit) := tab.lim 1 (t0, ())
noncomputable def s_DrawOffer (t0 : (List Int)) : Option (impl_Sink × Int × Int × (List Int) × Unit) := tab.lim 2 (t0, ())
noncomputable def i_Offer (t0 : impl_Sink) (t1 : Int) (t2 : Int) (t3 : (List Int)) : Option (impl_Sink × Bool × Unit) := tab.lim 3 (t0, (t1, (t2, (t3, ()))))
noncomputable def i_Offer_L1 (s64 : impl_Sink) (s128 : impl_Sink) (s160 : impl_Sink) : Option (impl_Sink × Bool × Unit) := tab.lim 4 (s64, (s128, (s160, ())))
noncomputable def s_Offer (t0 : impl_Sink) (t1 : Int) (t2 : Int) (t3 : (List Int)) : Option (impl_Sink × Bool × Unit) := tab.lim 5 (t0, (t1, (t2, (t3, ()))))
noncomputable def s_Offer_L1 (s64 : impl_Sink) (s128 : impl_Sink) (s160 : impl_Sink) : Option (impl_Sink × Bool × Unit) := tab.lim 6 (s64, (s128, (s160, ())))
noncomputable def s_DrawSinkOk (t0 : (List Int)) : Option (impl_Sink × Unit) := tab.lim 7 (t0, ())
noncomputable def i_SinkOk (t0 : impl_Sink) : Option (Bool × Unit) := tab.lim 8 (t0, ())
noncomputable def s_SinkOk (t0 : impl_Sink) : Option (Bool × Unit) := tab.lim 9 (t0, ())
noncomputable def s_l1New (t0 : (List Int)) : Option ((Unit × spec_l1Cur) × Unit) := tab.lim 10 (t0, ())
noncomputable def s_l1New_L1 (t0 : (List Int)) (t3 : Int) (t4 : Int) : Option ((Unit × spec_l1Cur) × Unit) := tab.lim 11 (t0, (t3, (t4, ())))
noncomputable def s_l25Draw (s0 : spec_l1Cur) : Option (impl_Sink × spec_l1Cur × Unit) := tab.lim 12 (s0, ())
noncomputable def s_l25Draw_L1 (s0 : spec_l1Cur) (s32 : impl_Sink) (s48 : impl_Sink) : Option (impl_Sink × spec_l1Cur × Unit) := tab.lim 13 (s0, (s32, (s48, ())))
noncomputable def s_l1PickInt (s0 : spec_l1Cur) (t1 : (List Int)) : Option (Int × spec_l1Cur × Unit) := tab.lim 14 (s0, (t1, ()))
noncomputable def s_l1Pick (s0 : spec_l1Cur) (t1 : (List (List Int))) : Option ((List Int) × spec_l1Cur × Unit) := tab.lim 15 (s0, (t1, ()))
noncomputable def i_in (t0 : Int) (t1 : Int) (t2 : Int) : Option (Bool × Unit) := tab.lim 16 (t0, (t1, (t2, ())))
noncomputable def s_l1In (t0 : Int) (t1 : Int) (t2 : Int) : Option (Bool × Unit) := tab.lim 17 (t0, (t1, (t2, ())))
noncomputable def i_isIndex (t0 : Int) : Option (Bool × Unit) := tab.lim 18 (t0, ())
noncomputable def s_l1Below (s0 : spec_l1Cur) (t1 : Int) : Option (Int × spec_l1Cur × Unit) := tab.lim 19 (s0, (t1, ()))
noncomputable def s_l1Byte (s0 : spec_l1Cur) : Option (Int × spec_l1Cur × Unit) := tab.lim 20 (s0, ())
end Go.Proofs.Ytfafpanihhikoaa.E.TS
