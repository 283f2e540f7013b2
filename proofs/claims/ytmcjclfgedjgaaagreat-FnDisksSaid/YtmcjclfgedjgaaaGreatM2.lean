/- What the pure statement needs (2). No condition. -/
import Derived.Test.YtmcjclfgedjgaaaGreatM1
import Derived.Test.YtmcjclfgedjgaaaGreatTDe1
import Derived.Test.YtmcjclfgedjgaaaGreatTDe2
import Derived.Test.YtmcjclfgedjgaaaGreatTDe3
namespace Go.Proofs.YtmcjclfgedjgaaaGreat.E.TD
open Go.Proofs.YtmcjclfgedjgaaaGreat.E
set_option linter.unusedVariables false
set_option maxRecDepth 100000
structure FsBuild where
 s_l1In:Int→Int→Int→Option (Bool×Unit)
 s_Build:(List Int)→Option (bB×Int×Unit)
 s_ProgOk:bB→Option (Bool×Unit)
 s_ProgOk_L1:Int→bB→Option (Bool×Unit)
 s_ProgOk_L2:Int→bB→Option (Bool×Unit)
 s_l9Line:(List Int)→Option (Bool×Unit)
 s_l9Line_L1:(List Int)→Int→Option (Bool×Unit)
 s_Parse:(List Int)→Option ((List bE)×Int×Unit)
 s_Parse_L1:(List bE)→(List bE)→Int→(List bG)→Int→Int→Bool→bw→Option ((List bE)×Int×Unit)
 s_Compile:(List bE)→Option (bB×Int×Unit)
 s_Compile_L1:(List bE)→(List (List Int))→(List (List Int))→Int→bB→(List (List Int))→(List (List Int))→(List bz)→(List (List Int))→(List (List Int))→(List bz)→Option (bB×Int×Unit)
 s_l9Name:(List Int)→Option (Bool×Unit)
 s_l9Name_L1:(List Int)→Int→Option (Bool×Unit)
 s_l7Within:(List (List Int))→(List Int)→Option (Bool×Unit)
 s_l7Within_L1:(List (List Int))→(List Int)→Int→Option (Bool×Unit)
 s_OpsOk:(List bz)→Int→Int→Option (Bool×Unit)
 s_OpsOk_L1:(List bz)→Int→Int→Int→Int→Option (Bool×Unit)
 s_Tokens:(List Int)→Option ((List bG)×Int×Unit)
 s_Tokens_L1:(List Int)→(List bG)→Int→Option ((List bG)×Int×Unit)
 s_Tokens_L2:(List Int)→(List bG)→Int→Option ((List bG)×Int×Unit)
 s_l8Now:bN→Option (bG×bN×Unit)
 s_l8Rule:bN→Option (bE×bN×Unit)
 s_Deep:bw→Option (Int×Unit)
 s_Deep_L1:Int→Int→bw→Option (Int×Unit)
 s_l1Max:Int→Int→Option (Int×Unit)
 s_Check:(List bE)→Option (Int×Unit)
 s_Check_L1:(List bE)→Int→Option (Int×Unit)
 s_Check_L2:(List bE)→(List (List Int))→(List (List Int))→Int→Option (Int×Unit)
 s_Check_L3:(List bE)→Int→Option (Int×Unit)
 s_Check_L4:(List bE)→Int→Option (Int×Unit)
 s_Names:(List bE)→Option ((List (List Int))×(List (List Int))×Unit)
 s_Names_L1:(List bE)→(List (List Int))→(List (List Int))→Int→Option ((List (List Int))×(List (List Int))×Unit)
 s_l14Block:(List (List Int))→(List (List Int))→(List bz)→bw→Option (((List (List Int))×((List (List Int))×((List bz)×Unit)))×Unit)
 s_l14Block_L1:Int→(List (List Int))→(List (List Int))→(List bz)→bw→Option (((List (List Int))×((List (List Int))×((List bz)×Unit)))×Unit)
 s_l14E:(List (List Int))→(List (List Int))→(List bz)→bw→Option (((List (List Int))×((List (List Int))×((List bz)×Unit)))×Unit)
 s_l14E_L1:Int→Bool→(List (List Int))→(List (List Int))→(List bz)→bw→Option (((List (List Int))×((List (List Int))×((List bz)×Unit)))×Unit)
 s_l14E_L2:Int→(List (List Int))→(List (List Int))→(List bz)→bw→Option (((List (List Int))×((List (List Int))×((List bz)×Unit)))×Unit)
 s_l14Put:(List (List Int))→(List (List Int))→(List bz)→Int→Int→(List Int)→Option (Int×((List (List Int))×((List (List Int))×((List bz)×Unit)))×Unit)
 s_l7Letter:Int→Option (Bool×Unit)
 s_Keyword:(List Int)→Option (Bool×Unit)
 s_l13Op:bz→Int→Int→Int→Option (Bool×Unit)
 s_l13Op_L1:Int→Int→Int→Int→Bool→bz→Option (Bool×Unit)
 s_l13Op_L2:Int→Int→Int→Bool→bz→Option (Bool×Unit)
 s_l13Op_L3:Int→Int→Bool→bz→Option (Bool×Unit)
 s_l13Op_L4:Int→Int→Bool→bz→Option (Bool×Unit)
 s_l7One:(List Int)→Int→(List bG)→Option (bG×Int×Bool×Unit)
 s_l7One_L1:(List Int)→Int→Int→bG→Option (bG×Int×Bool×Unit)
 s_l8Is:bN→(List Int)→Option (Bool×bN×Unit)
 s_l8Next:bN→Option (bN×Unit)
 s_l8Block:bN→Option (bw×bN×Unit)
 s_l8Block_L1:bN→Int→Int→(List Int)→(List bw)→Int→Int→(List Int)→(List bw)→Option (bw×bN×Unit)
 s_l8Sign:bN→(List Int)→Option (Bool×bN×Unit)
 s_l8E:bN→Option (bw×bN×Unit)
 s_l8E_L1:Int→bN→Int→Int→(List Int)→(List bw)→bw→Option (bw×bN×Unit)
 s_l8Kids:Int→(List bw)→Option ((Int×(Int×((List Int)×((List bw)×Unit))))×Unit)
 s_Tidy:(List bE)→Option (Bool×Unit)
 s_Tidy_L1:(List bE)→Int→Option (Bool×Unit)
 s_l10Line:bw→Option (Bool×Unit)
 s_l10Line_L1:Int→bw→Option (Bool×Unit)
 s_l10Args:bw→Option (Bool×Unit)
 s_l10Args_L1:Int→bw→Option (Bool×Unit)
 s_l10Args_L2:Int→Int→bw→Option (Bool×Unit)
 s_l10Rexes:bw→Option (Bool×Unit)
 s_l10Rexes_L1:Int→bw→Option (Bool×Unit)
 s_l10Names:bw→(List (List Int))→(List (List Int))→Option ((List (List Int))×(List (List Int))×Unit)
 s_l10Names_L1:(List (List Int))→(List (List Int))→bw→Option ((List (List Int))×(List (List Int))×Unit)
 s_l10Names_L2:(List (List Int))→(List (List Int))→Int→bw→Option ((List (List Int))×(List (List Int))×Unit)
 s_l14Stmt:(List (List Int))→(List (List Int))→(List bz)→bw→Option (((List (List Int))×((List (List Int))×((List bz)×Unit)))×Unit)
 s_l14Set:(List (List Int))→(List (List Int))→(List bz)→bw→Option (((List (List Int))×((List (List Int))×((List bz)×Unit)))×Unit)
 s_l14And:(List (List Int))→(List (List Int))→(List bz)→bw→Option (((List (List Int))×((List (List Int))×((List bz)×Unit)))×Unit)
 s_l14Or:(List (List Int))→(List (List Int))→(List bz)→bw→Option (((List (List Int))×((List (List Int))×((List bz)×Unit)))×Unit)
 s_l14Last:(List (List Int))→(List (List Int))→(List bz)→bw→Option (((List (List Int))×((List (List Int))×((List bz)×Unit)))×Unit)
 s_l7Calls:Option ((List (List Int))×Unit)
 s_DecOk:Int→Option (Bool×Unit)
 s_RexParse:(List Int)→Option (bD×Bool×Unit)
 s_l2Digit:Int→Option (Bool×Unit)
 s_l7Number:(List Int)→Int→Option (Int×Int×Bool×Unit)
 s_l7Number_L1:(List Int)→Int→Int→Option (Int×Int×Bool×Unit)
 s_l7Number_L2:(List Int)→Int→Int→Int→Option (Int×Int×Bool×Unit)
 s_l7Number_L3:(List Int)→Int→Int→Option (Int×Int×Bool×Unit)
 s_l7Text:(List Int)→Int→Option ((List Int)×Int×Bool×Unit)
 s_l7Text_L1:(List Int)→(List Int)→Int→Option ((List Int)×Int×Bool×Unit)
 s_l7After:(List bG)→Option (Bool×Unit)
 s_l7Rex:(List Int)→Int→Option ((List Int)×Int×Bool×Unit)
 s_l7Rex_L1:(List Int)→(List Int)→Int→Option ((List Int)×Int×Bool×Unit)
 s_l7Sign:(List Int)→Int→Option ((List Int)×Unit)
 s_l7Sign_L1:(List Int)→Int→(List (List Int))→Int→Option ((List Int)×Unit)
 s_l8Take:bN→(List Int)→Option (bN×Unit)
 s_l8Stmt:bN→Option (bw×bN×Unit)
 s_l8Named:bN→Option (bw×bN×Unit)
 s_l8Level:bN→Int→Option (bw×bN×Unit)
 s_l9Node:bw→Option (Bool×Unit)
 s_l9Node_L1:Int→Bool→bw→Option (Bool×Unit)
 s_l9IsE:Int→Option (Bool×Unit)
 s_l10Put:(List (List Int))→(List Int)→Option ((List (List Int))×Unit)
 s_l10Put_L1:(List (List Int))→(List Int)→Int→Option ((List (List Int))×Unit)
 s_l14Print:(List (List Int))→(List (List Int))→(List bz)→bw→Option (((List (List Int))×((List (List Int))×((List bz)×Unit)))×Unit)
 s_l14Print_L1:(List (List Int))→(List (List Int))→(List bz)→bw→Option (((List (List Int))×((List (List Int))×((List bz)×Unit)))×Unit)
 s_l14Print_L2:Int→(List (List Int))→(List (List Int))→(List bz)→bw→Option (((List (List Int))×((List (List Int))×((List bz)×Unit)))×Unit)
 s_l14If:(List (List Int))→(List (List Int))→(List bz)→bw→Option (((List (List Int))×((List (List Int))×((List bz)×Unit)))×Unit)
 s_l14While:(List (List Int))→(List (List Int))→(List bz)→bw→Option (((List (List Int))×((List (List Int))×((List bz)×Unit)))×Unit)
 s_l12Where:(List (List Int))→(List Int)→Option (Int×Unit)
 s_l12Where_L1:(List (List Int))→(List Int)→Int→Option (Int×Unit)
 s_l1Bit:Bool→Option (Int×Unit)
 s_l3Pattern:bM→Int→Option (bD×bM×Unit)
 s_l3Pattern_L1:Int→(List bD)→bM→bD→Option (bD×bM×Unit)
 s_l3Deep:bD→Option (Int×Unit)
 s_l3Deep_L1:Int→Int→bD→Option (Int×Unit)
 s_DecFront:(List Int)→Option (Int×Int×Unit)
 s_DecFront_L1:(List Int)→Int→Option (Int×Int×Unit)
 s_DecFront_L2:(List Int)→Int→Bool→Option (Int×Int×Unit)
 s_DecFront_L3:(List Int)→Int→Bool→Int→Int→Option (Int×Int×Unit)
 s_DecFront_L4:(List Int)→Int→Bool→Int→Int→Int→Option (Int×Int×Unit)
 s_DecFront_L5:Int→Bool→Int→Int→Option (Int×Int×Unit)
 s_l8Bad:bN→Option (bN×Unit)
 s_l8While:bN→Int→Option (bw×bN×Unit)
 s_l8Simple:bN→Option (bw×bN×Unit)
 s_l8Simple_L1:bN→Int→Int→(List Int)→(List bw)→Int→Int→(List Int)→(List bw)→Option (bw×bN×Unit)
 s_l8Es:bN→(List Int)→Option ((List bw)×bN×Unit)
 s_l8Es_L1:(List Int)→(List bw)→bN→Option ((List bw)×bN×Unit)
 s_l8Name:bN→Option ((List Int)×bN×Unit)
 s_l8Compare:bN→Option (bw×bN×Unit)
 s_l8Compare_L1:(List (List Int))→Int→bN→Int→Int→(List Int)→(List bw)→bw→Option (bw×bN×Unit)
 s_l8Row:bN→Option (bw×bN×Unit)
 s_l8Row_L1:bN→Int→Int→(List Int)→(List bw)→bw→Option (bw×bN×Unit)
 s_l8Unit:bN→Option (bw×bN×Unit)
 s_l8Left:bN→Int→Option (bw×bN×Unit)
 s_l8Left_L1:Int→(List (List (List Int)))→(List (List Int))→bN→bw→bw→Option (bw×bN×Unit)
 s_l8Left_L2:Int→(List (List (List Int)))→(List (List Int))→Int→bN→bw→bw→Option (bw×bN×Unit)
 s_l8Left_L3:Int→(List (List (List Int)))→(List (List Int))→Int→bN→bw→bw→Option (bw×bN×Unit)
 s_l9Kids:bw→Option (Bool×Unit)
 s_l9Kids_L1:Int→Int→Bool→bw→Option (Bool×Unit)
 s_l9Kids_L2:Int→Int→Bool→bw→Option (Bool×Unit)
 s_l9Kids_L3:Int→Int→Bool→bw→Option (Bool×Unit)
 s_l9Kids_L4:Int→Int→Bool→bw→Option (Bool×Unit)
 s_l9Kids_L5:Int→Int→bw→Option (Bool×Unit)
 s_l9Rex:(List Int)→Option (Bool×Unit)
 s_l9Rex_L1:(List Int)→Int→Option (Bool×Unit)
 s_l3Part:bM→Int→Option (bD×bM×Unit)
 s_l3Part_L1:Int→(List bD)→bM→bD→Option (bD×bM×Unit)
 s_l3Now:bM→Int→Option (Bool×bM×Unit)
 s_l8Begins:bN→Option (Bool×bN×Unit)
 s_l8Begins_L1:Int→Bool→bN→bG→Option (Bool×bN×Unit)
 s_l8Atom:bN→Option (bw×bN×Unit)
 s_l9Es:bw→Int→Int→Option (Bool×Unit)
 s_l9Es_L1:Int→Int→bw→Option (Bool×Unit)
 s_l9Blocks:bw→Int→Option (Bool×Unit)
 s_l9Blocks_L1:Int→bw→Option (Bool×Unit)
 s_l3Piece:bM→Int→Option (bD×bM×Unit)
 s_l3Piece_L1:bM→bD→bD→Option (bD×bM×Unit)
 s_l3Piece_L2:Int→bM→bD→bD→Option (bD×bM×Unit)
 s_l3Atom:bM→Int→Option (bD×bM×Unit)
 s_l3Atom_L1:Int→bM→bD→Option (bD×bM×Unit)
 s_NfaOf:bD→Option ((List bA)×Unit)
 s_l3Set:bM→Option (bD×bM×Unit)
 s_l3Set_L1:bM→bD→bD→Option (bD×bM×Unit)
 s_l3Set_L2:(List Bool)→Int→bM→bD→bD→Option (bD×bM×Unit)
 s_l3Set_L3:(List Bool)→Int→Int→Int→bM→bD→bD→Option (bD×bM×Unit)
 s_l3Set_L4:(List Bool)→bM→bD→bD→Option (bD×bM×Unit)
 s_l3Set_L5:(List Bool)→Int→Int→Int→bM→bD→bD→Option (bD×bM×Unit)
 s_l3Set_L6:(List Bool)→(List Int)→Int→bM→bD→bD→Option (bD×bM×Unit)
 s_l3Set_L7:(List Bool)→Int→Int→Int→bM→bD→bD→Option (bD×bM×Unit)
 s_RexOk:bD→Option (Bool×Unit)
 s_l4Of:(List bA)→bD→Option ((List bA)×Unit)
 s_l4Of_L1:(List bA)→Int→bD→Option ((List bA)×Unit)
 s_l4Of_L2:(List bA)→Option ((List bA)×Unit)
 s_l4Put:(List bA)→Int→Option ((List bA)×Unit)
 s_l3Right:bD→Option (Bool×Unit)
 s_l3Right_L1:Int→bD→Option (Bool×Unit)
 s_l3Right_L2:Int→Int→Bool→bD→Option (Bool×Unit)
 s_l3Right_L3:Int→Bool→bD→Option (Bool×Unit)
 s_l4Or:(List bA)→(List bD)→Option ((List bA)×Unit)
 s_l4Or_L1:(List bA)→(List bD)→(List Int)→Int→Option ((List bA)×Unit)
 s_l4Or_L2:(List bA)→(List Int)→Int→Option ((List bA)×Unit)
 s_l3Up:(List Int)→Option (Bool×Unit)
 s_l3Up_L1:(List Int)→Int→Option (Bool×Unit)
structure LeFsBuild (F:FsBuild):Prop where
 s_l1In:∀ (t0:Int) (t1:Int) (t2:Int),LeO (F.s_l1In t0 t1 t2) (TD.s_l1In t0 t1 t2)
 s_Build:∀ (t0:(List Int)),LeO (F.s_Build t0) (TD.s_Build t0)
 s_ProgOk:∀ (t0:bB),LeO (F.s_ProgOk t0) (TD.s_ProgOk t0)
 s_ProgOk_L1:∀ (t3:Int) (s16:bB),LeO (F.s_ProgOk_L1 t3 s16) (TD.s_ProgOk_L1 t3 s16)
 s_ProgOk_L2:∀ (t4:Int) (s16:bB),LeO (F.s_ProgOk_L2 t4 s16) (TD.s_ProgOk_L2 t4 s16)
 s_l9Line:∀ (t0:(List Int)),LeO (F.s_l9Line t0) (TD.s_l9Line t0)
 s_l9Line_L1:∀ (t0:(List Int)) (t3:Int),LeO (F.s_l9Line_L1 t0 t3) (TD.s_l9Line_L1 t0 t3)
 s_Parse:∀ (t0:(List Int)),LeO (F.s_Parse t0) (TD.s_Parse t0)
 s_Parse_L1:∀ (t4:(List bE)) (t8:(List bE)) (t9:Int) (s368_0:(List bG)) (s368_1:Int) (s368_2:Int) (s368_3:Bool) (s368_4:bw),LeO (F.s_Parse_L1 t4 t8 t9 s368_0 s368_1 s368_2 s368_3 s368_4) (TD.s_Parse_L1 t4 t8 t9 s368_0 s368_1 s368_2 s368_3 s368_4)
 s_Compile:∀ (t0:(List bE)),LeO (F.s_Compile t0) (TD.s_Compile t0)
 s_Compile_L1:∀ (t0:(List bE)) (t5:(List (List Int))) (t6:(List (List Int))) (t9:Int) (s32:bB) (s432_0:(List (List Int))) (s432_1:(List (List Int))) (s432_2:(List bz)) (s496_0:(List (List Int))) (s496_1:(List (List Int))) (s496_2:(List bz)),LeO (F.s_Compile_L1 t0 t5 t6 t9 s32 s432_0 s432_1 s432_2 s496_0 s496_1 s496_2) (TD.s_Compile_L1 t0 t5 t6 t9 s32 s432_0 s432_1 s432_2 s496_0 s496_1 s496_2)
 s_l9Name:∀ (t0:(List Int)),LeO (F.s_l9Name t0) (TD.s_l9Name t0)
 s_l9Name_L1:∀ (t0:(List Int)) (t3:Int),LeO (F.s_l9Name_L1 t0 t3) (TD.s_l9Name_L1 t0 t3)
 s_l7Within:∀ (t0:(List (List Int))) (t1:(List Int)),LeO (F.s_l7Within t0 t1) (TD.s_l7Within t0 t1)
 s_l7Within_L1:∀ (t0:(List (List Int))) (t1:(List Int)) (t5:Int),LeO (F.s_l7Within_L1 t0 t1 t5) (TD.s_l7Within_L1 t0 t1 t5)
 s_OpsOk:∀ (t0:(List bz)) (t1:Int) (t2:Int),LeO (F.s_OpsOk t0 t1 t2) (TD.s_OpsOk t0 t1 t2)
 s_OpsOk_L1:∀ (t0:(List bz)) (t1:Int) (t2:Int) (t7:Int) (t8:Int),LeO (F.s_OpsOk_L1 t0 t1 t2 t7 t8) (TD.s_OpsOk_L1 t0 t1 t2 t7 t8)
 s_Tokens:∀ (t0:(List Int)),LeO (F.s_Tokens t0) (TD.s_Tokens t0)
 s_Tokens_L1:∀ (t0:(List Int)) (t4:(List bG)) (t5:Int),LeO (F.s_Tokens_L1 t0 t4 t5) (TD.s_Tokens_L1 t0 t4 t5)
 s_Tokens_L2:∀ (t0:(List Int)) (t4:(List bG)) (t5:Int),LeO (F.s_Tokens_L2 t0 t4 t5) (TD.s_Tokens_L2 t0 t4 t5)
 s_l8Now:∀ (s0:bN),LeO (F.s_l8Now s0) (TD.s_l8Now s0)
 s_l8Rule:∀ (s0:bN),LeO (F.s_l8Rule s0) (TD.s_l8Rule s0)
 s_Deep:∀ (t0:bw),LeO (F.s_Deep t0) (TD.s_Deep t0)
 s_Deep_L1:∀ (t3:Int) (t4:Int) (s16:bw),LeO (F.s_Deep_L1 t3 t4 s16) (TD.s_Deep_L1 t3 t4 s16)
 s_l1Max:∀ (t0:Int) (t1:Int),LeO (F.s_l1Max t0 t1) (TD.s_l1Max t0 t1)
 s_Check:∀ (t0:(List bE)),LeO (F.s_Check t0) (TD.s_Check t0)
 s_Check_L1:∀ (t0:(List bE)) (t3:Int),LeO (F.s_Check_L1 t0 t3) (TD.s_Check_L1 t0 t3)
 s_Check_L2:∀ (t0:(List bE)) (t4:(List (List Int))) (t5:(List (List Int))) (t6:Int),LeO (F.s_Check_L2 t0 t4 t5 t6) (TD.s_Check_L2 t0 t4 t5 t6)
 s_Check_L3:∀ (t0:(List bE)) (t7:Int),LeO (F.s_Check_L3 t0 t7) (TD.s_Check_L3 t0 t7)
 s_Check_L4:∀ (t0:(List bE)) (t8:Int),LeO (F.s_Check_L4 t0 t8) (TD.s_Check_L4 t0 t8)
 s_Names:∀ (t0:(List bE)),LeO (F.s_Names t0) (TD.s_Names t0)
 s_Names_L1:∀ (t0:(List bE)) (t4:(List (List Int))) (t5:(List (List Int))) (t6:Int),LeO (F.s_Names_L1 t0 t4 t5 t6) (TD.s_Names_L1 t0 t4 t5 t6)
 s_l14Block:∀ (s0_0:(List (List Int))) (s0_1:(List (List Int))) (s0_2:(List bz)) (t1:bw),LeO (F.s_l14Block s0_0 s0_1 s0_2 t1) (TD.s_l14Block s0_0 s0_1 s0_2 t1)
 s_l14Block_L1:∀ (t4:Int) (s0_0:(List (List Int))) (s0_1:(List (List Int))) (s0_2:(List bz)) (s48:bw),LeO (F.s_l14Block_L1 t4 s0_0 s0_1 s0_2 s48) (TD.s_l14Block_L1 t4 s0_0 s0_1 s0_2 s48)
 s_l14E:∀ (s0_0:(List (List Int))) (s0_1:(List (List Int))) (s0_2:(List bz)) (t1:bw),LeO (F.s_l14E s0_0 s0_1 s0_2 t1) (TD.s_l14E s0_0 s0_1 s0_2 t1)
 s_l14E_L1:∀ (t6:Int) (t24:Bool) (s0_0:(List (List Int))) (s0_1:(List (List Int))) (s0_2:(List bz)) (s48:bw),LeO (F.s_l14E_L1 t6 t24 s0_0 s0_1 s0_2 s48) (TD.s_l14E_L1 t6 t24 s0_0 s0_1 s0_2 s48)
 s_l14E_L2:∀ (t4:Int) (s0_0:(List (List Int))) (s0_1:(List (List Int))) (s0_2:(List bz)) (s48:bw),LeO (F.s_l14E_L2 t4 s0_0 s0_1 s0_2 s48) (TD.s_l14E_L2 t4 s0_0 s0_1 s0_2 s48)
 s_l14Put:∀ (s0_0:(List (List Int))) (s0_1:(List (List Int))) (s0_2:(List bz)) (t1:Int) (t2:Int) (t3:(List Int)),LeO (F.s_l14Put s0_0 s0_1 s0_2 t1 t2 t3) (TD.s_l14Put s0_0 s0_1 s0_2 t1 t2 t3)
 s_l7Letter:∀ (t0:Int),LeO (F.s_l7Letter t0) (TD.s_l7Letter t0)
 s_Keyword:∀ (t0:(List Int)),LeO (F.s_Keyword t0) (TD.s_Keyword t0)
 s_l13Op:∀ (t0:bz) (t1:Int) (t2:Int) (t3:Int),LeO (F.s_l13Op t0 t1 t2 t3) (TD.s_l13Op t0 t1 t2 t3)
 s_l13Op_L1:∀ (t1:Int) (t2:Int) (t3:Int) (t12:Int) (t28:Bool) (s64:bz),LeO (F.s_l13Op_L1 t1 t2 t3 t12 t28 s64) (TD.s_l13Op_L1 t1 t2 t3 t12 t28 s64)
 s_l13Op_L2:∀ (t1:Int) (t3:Int) (t12:Int) (t46:Bool) (s64:bz),LeO (F.s_l13Op_L2 t1 t3 t12 t46 s64) (TD.s_l13Op_L2 t1 t3 t12 t46 s64)
 s_l13Op_L3:∀ (t1:Int) (t12:Int) (t65:Bool) (s64:bz),LeO (F.s_l13Op_L3 t1 t12 t65 s64) (TD.s_l13Op_L3 t1 t12 t65 s64)
 s_l13Op_L4:∀ (t1:Int) (t12:Int) (t91:Bool) (s64:bz),LeO (F.s_l13Op_L4 t1 t12 t91 s64) (TD.s_l13Op_L4 t1 t12 t91 s64)
 s_l7One:∀ (t0:(List Int)) (t1:Int) (t2:(List bG)),LeO (F.s_l7One t0 t1 t2) (TD.s_l7One t0 t1 t2)
 s_l7One_L1:∀ (t0:(List Int)) (t1:Int) (t10:Int) (s96:bG),LeO (F.s_l7One_L1 t0 t1 t10 s96) (TD.s_l7One_L1 t0 t1 t10 s96)
 s_l8Is:∀ (s0:bN) (t1:(List Int)),LeO (F.s_l8Is s0 t1) (TD.s_l8Is s0 t1)
 s_l8Next:∀ (s0:bN),LeO (F.s_l8Next s0) (TD.s_l8Next s0)
 s_l8Block:∀ (s0:bN),LeO (F.s_l8Block s0) (TD.s_l8Block s0)
 s_l8Block_L1:∀ (s0:bN) (s32_0:Int) (s32_1:Int) (s32_2:(List Int)) (s32_3:(List bw)) (s48_0:Int) (s48_1:Int) (s48_2:(List Int)) (s48_3:(List bw)),LeO (F.s_l8Block_L1 s0 s32_0 s32_1 s32_2 s32_3 s48_0 s48_1 s48_2 s48_3) (TD.s_l8Block_L1 s0 s32_0 s32_1 s32_2 s32_3 s48_0 s48_1 s48_2 s48_3)
 s_l8Sign:∀ (s0:bN) (t1:(List Int)),LeO (F.s_l8Sign s0 t1) (TD.s_l8Sign s0 t1)
 s_l8E:∀ (s0:bN),LeO (F.s_l8E s0) (TD.s_l8E s0)
 s_l8E_L1:∀ (t5:Int) (s0:bN) (s32_0:Int) (s32_1:Int) (s32_2:(List Int)) (s32_3:(List bw)) (s64:bw),LeO (F.s_l8E_L1 t5 s0 s32_0 s32_1 s32_2 s32_3 s64) (TD.s_l8E_L1 t5 s0 s32_0 s32_1 s32_2 s32_3 s64)
 s_l8Kids:∀ (t0:Int) (t1:(List bw)),LeO (F.s_l8Kids t0 t1) (TD.s_l8Kids t0 t1)
 s_Tidy:∀ (t0:(List bE)),LeO (F.s_Tidy t0) (TD.s_Tidy t0)
 s_Tidy_L1:∀ (t0:(List bE)) (t3:Int),LeO (F.s_Tidy_L1 t0 t3) (TD.s_Tidy_L1 t0 t3)
 s_l10Line:∀ (t0:bw),LeO (F.s_l10Line t0) (TD.s_l10Line t0)
 s_l10Line_L1:∀ (t3:Int) (s16:bw),LeO (F.s_l10Line_L1 t3 s16) (TD.s_l10Line_L1 t3 s16)
 s_l10Args:∀ (t0:bw),LeO (F.s_l10Args t0) (TD.s_l10Args t0)
 s_l10Args_L1:∀ (t3:Int) (s16:bw),LeO (F.s_l10Args_L1 t3 s16) (TD.s_l10Args_L1 t3 s16)
 s_l10Args_L2:∀ (t3:Int) (t4:Int) (s16:bw),LeO (F.s_l10Args_L2 t3 t4 s16) (TD.s_l10Args_L2 t3 t4 s16)
 s_l10Rexes:∀ (t0:bw),LeO (F.s_l10Rexes t0) (TD.s_l10Rexes t0)
 s_l10Rexes_L1:∀ (t5:Int) (s16:bw),LeO (F.s_l10Rexes_L1 t5 s16) (TD.s_l10Rexes_L1 t5 s16)
 s_l10Names:∀ (t0:bw) (t1:(List (List Int))) (t2:(List (List Int))),LeO (F.s_l10Names t0 t1 t2) (TD.s_l10Names t0 t1 t2)
 s_l10Names_L1:∀ (t1:(List (List Int))) (t2:(List (List Int))) (s48:bw),LeO (F.s_l10Names_L1 t1 t2 s48) (TD.s_l10Names_L1 t1 t2 s48)
 s_l10Names_L2:∀ (t1:(List (List Int))) (t2:(List (List Int))) (t8:Int) (s48:bw),LeO (F.s_l10Names_L2 t1 t2 t8 s48) (TD.s_l10Names_L2 t1 t2 t8 s48)
 s_l14Stmt:∀ (s0_0:(List (List Int))) (s0_1:(List (List Int))) (s0_2:(List bz)) (t1:bw),LeO (F.s_l14Stmt s0_0 s0_1 s0_2 t1) (TD.s_l14Stmt s0_0 s0_1 s0_2 t1)
 s_l14Set:∀ (s0_0:(List (List Int))) (s0_1:(List (List Int))) (s0_2:(List bz)) (t1:bw),LeO (F.s_l14Set s0_0 s0_1 s0_2 t1) (TD.s_l14Set s0_0 s0_1 s0_2 t1)
 s_l14And:∀ (s0_0:(List (List Int))) (s0_1:(List (List Int))) (s0_2:(List bz)) (t1:bw),LeO (F.s_l14And s0_0 s0_1 s0_2 t1) (TD.s_l14And s0_0 s0_1 s0_2 t1)
 s_l14Or:∀ (s0_0:(List (List Int))) (s0_1:(List (List Int))) (s0_2:(List bz)) (t1:bw),LeO (F.s_l14Or s0_0 s0_1 s0_2 t1) (TD.s_l14Or s0_0 s0_1 s0_2 t1)
 s_l14Last:∀ (s0_0:(List (List Int))) (s0_1:(List (List Int))) (s0_2:(List bz)) (t1:bw),LeO (F.s_l14Last s0_0 s0_1 s0_2 t1) (TD.s_l14Last s0_0 s0_1 s0_2 t1)
 s_l7Calls:LeO (F.s_l7Calls ) (TD.s_l7Calls )
 s_DecOk:∀ (t0:Int),LeO (F.s_DecOk t0) (TD.s_DecOk t0)
 s_RexParse:∀ (t0:(List Int)),LeO (F.s_RexParse t0) (TD.s_RexParse t0)
 s_l2Digit:∀ (t0:Int),LeO (F.s_l2Digit t0) (TD.s_l2Digit t0)
 s_l7Number:∀ (t0:(List Int)) (t1:Int),LeO (F.s_l7Number t0 t1) (TD.s_l7Number t0 t1)
 s_l7Number_L1:∀ (t0:(List Int)) (t1:Int) (t7:Int),LeO (F.s_l7Number_L1 t0 t1 t7) (TD.s_l7Number_L1 t0 t1 t7)
 s_l7Number_L2:∀ (t0:(List Int)) (t1:Int) (t7:Int) (t8:Int),LeO (F.s_l7Number_L2 t0 t1 t7 t8) (TD.s_l7Number_L2 t0 t1 t7 t8)
 s_l7Number_L3:∀ (t0:(List Int)) (t1:Int) (t7:Int),LeO (F.s_l7Number_L3 t0 t1 t7) (TD.s_l7Number_L3 t0 t1 t7)
 s_l7Text:∀ (t0:(List Int)) (t1:Int),LeO (F.s_l7Text t0 t1) (TD.s_l7Text t0 t1)
 s_l7Text_L1:∀ (t0:(List Int)) (t7:(List Int)) (t8:Int),LeO (F.s_l7Text_L1 t0 t7 t8) (TD.s_l7Text_L1 t0 t7 t8)
 s_l7After:∀ (t0:(List bG)),LeO (F.s_l7After t0) (TD.s_l7After t0)
 s_l7Rex:∀ (t0:(List Int)) (t1:Int),LeO (F.s_l7Rex t0 t1) (TD.s_l7Rex t0 t1)
 s_l7Rex_L1:∀ (t0:(List Int)) (t7:(List Int)) (t8:Int),LeO (F.s_l7Rex_L1 t0 t7 t8) (TD.s_l7Rex_L1 t0 t7 t8)
 s_l7Sign:∀ (t0:(List Int)) (t1:Int),LeO (F.s_l7Sign t0 t1) (TD.s_l7Sign t0 t1)
 s_l7Sign_L1:∀ (t0:(List Int)) (t1:Int) (t5:(List (List Int))) (t6:Int),LeO (F.s_l7Sign_L1 t0 t1 t5 t6) (TD.s_l7Sign_L1 t0 t1 t5 t6)
 s_l8Take:∀ (s0:bN) (t1:(List Int)),LeO (F.s_l8Take s0 t1) (TD.s_l8Take s0 t1)
 s_l8Stmt:∀ (s0:bN),LeO (F.s_l8Stmt s0) (TD.s_l8Stmt s0)
 s_l8Named:∀ (s0:bN),LeO (F.s_l8Named s0) (TD.s_l8Named s0)
 s_l8Level:∀ (s0:bN) (t1:Int),LeO (F.s_l8Level s0 t1) (TD.s_l8Level s0 t1)
 s_l9Node:∀ (t0:bw),LeO (F.s_l9Node t0) (TD.s_l9Node t0)
 s_l9Node_L1:∀ (t23:Int) (t44:Bool) (s16:bw),LeO (F.s_l9Node_L1 t23 t44 s16) (TD.s_l9Node_L1 t23 t44 s16)
 s_l9IsE:∀ (t0:Int),LeO (F.s_l9IsE t0) (TD.s_l9IsE t0)
 s_l10Put:∀ (t0:(List (List Int))) (t1:(List Int)),LeO (F.s_l10Put t0 t1) (TD.s_l10Put t0 t1)
 s_l10Put_L1:∀ (t0:(List (List Int))) (t1:(List Int)) (t5:Int),LeO (F.s_l10Put_L1 t0 t1 t5) (TD.s_l10Put_L1 t0 t1 t5)
 s_l14Print:∀ (s0_0:(List (List Int))) (s0_1:(List (List Int))) (s0_2:(List bz)) (t1:bw),LeO (F.s_l14Print s0_0 s0_1 s0_2 t1) (TD.s_l14Print s0_0 s0_1 s0_2 t1)
 s_l14Print_L1:∀ (s0_0:(List (List Int))) (s0_1:(List (List Int))) (s0_2:(List bz)) (s48:bw),LeO (F.s_l14Print_L1 s0_0 s0_1 s0_2 s48) (TD.s_l14Print_L1 s0_0 s0_1 s0_2 s48)
 s_l14Print_L2:∀ (t4:Int) (s0_0:(List (List Int))) (s0_1:(List (List Int))) (s0_2:(List bz)) (s48:bw),LeO (F.s_l14Print_L2 t4 s0_0 s0_1 s0_2 s48) (TD.s_l14Print_L2 t4 s0_0 s0_1 s0_2 s48)
 s_l14If:∀ (s0_0:(List (List Int))) (s0_1:(List (List Int))) (s0_2:(List bz)) (t1:bw),LeO (F.s_l14If s0_0 s0_1 s0_2 t1) (TD.s_l14If s0_0 s0_1 s0_2 t1)
 s_l14While:∀ (s0_0:(List (List Int))) (s0_1:(List (List Int))) (s0_2:(List bz)) (t1:bw),LeO (F.s_l14While s0_0 s0_1 s0_2 t1) (TD.s_l14While s0_0 s0_1 s0_2 t1)
 s_l12Where:∀ (t0:(List (List Int))) (t1:(List Int)),LeO (F.s_l12Where t0 t1) (TD.s_l12Where t0 t1)
 s_l12Where_L1:∀ (t0:(List (List Int))) (t1:(List Int)) (t5:Int),LeO (F.s_l12Where_L1 t0 t1 t5) (TD.s_l12Where_L1 t0 t1 t5)
 s_l1Bit:∀ (t0:Bool),LeO (F.s_l1Bit t0) (TD.s_l1Bit t0)
 s_l3Pattern:∀ (s0:bM) (t1:Int),LeO (F.s_l3Pattern s0 t1) (TD.s_l3Pattern s0 t1)
 s_l3Pattern_L1:∀ (t1:Int) (t5:(List bD)) (s0:bM) (s64:bD),LeO (F.s_l3Pattern_L1 t1 t5 s0 s64) (TD.s_l3Pattern_L1 t1 t5 s0 s64)
 s_l3Deep:∀ (t0:bD),LeO (F.s_l3Deep t0) (TD.s_l3Deep t0)
 s_l3Deep_L1:∀ (t3:Int) (t4:Int) (s16:bD),LeO (F.s_l3Deep_L1 t3 t4 s16) (TD.s_l3Deep_L1 t3 t4 s16)
 s_DecFront:∀ (t0:(List Int)),LeO (F.s_DecFront t0) (TD.s_DecFront t0)
 s_DecFront_L1:∀ (t0:(List Int)) (t4:Int),LeO (F.s_DecFront_L1 t0 t4) (TD.s_DecFront_L1 t0 t4)
 s_DecFront_L2:∀ (t0:(List Int)) (t4:Int) (t5:Bool),LeO (F.s_DecFront_L2 t0 t4 t5) (TD.s_DecFront_L2 t0 t4 t5)
 s_DecFront_L3:∀ (t0:(List Int)) (t4:Int) (t5:Bool) (t6:Int) (t7:Int),LeO (F.s_DecFront_L3 t0 t4 t5 t6 t7) (TD.s_DecFront_L3 t0 t4 t5 t6 t7)
 s_DecFront_L4:∀ (t0:(List Int)) (t4:Int) (t5:Bool) (t6:Int) (t7:Int) (t8:Int),LeO (F.s_DecFront_L4 t0 t4 t5 t6 t7 t8) (TD.s_DecFront_L4 t0 t4 t5 t6 t7 t8)
 s_DecFront_L5:∀ (t4:Int) (t5:Bool) (t6:Int) (t7:Int),LeO (F.s_DecFront_L5 t4 t5 t6 t7) (TD.s_DecFront_L5 t4 t5 t6 t7)
 s_l8Bad:∀ (s0:bN),LeO (F.s_l8Bad s0) (TD.s_l8Bad s0)
 s_l8While:∀ (s0:bN) (t1:Int),LeO (F.s_l8While s0 t1) (TD.s_l8While s0 t1)
 s_l8Simple:∀ (s0:bN),LeO (F.s_l8Simple s0) (TD.s_l8Simple s0)
 s_l8Simple_L1:∀ (s0:bN) (s32_0:Int) (s32_1:Int) (s32_2:(List Int)) (s32_3:(List bw)) (s48_0:Int) (s48_1:Int) (s48_2:(List Int)) (s48_3:(List bw)),LeO (F.s_l8Simple_L1 s0 s32_0 s32_1 s32_2 s32_3 s48_0 s48_1 s48_2 s48_3) (TD.s_l8Simple_L1 s0 s32_0 s32_1 s32_2 s32_3 s48_0 s48_1 s48_2 s48_3)
 s_l8Es:∀ (s0:bN) (t1:(List Int)),LeO (F.s_l8Es s0 t1) (TD.s_l8Es s0 t1)
 s_l8Es_L1:∀ (t1:(List Int)) (t5:(List bw)) (s0:bN),LeO (F.s_l8Es_L1 t1 t5 s0) (TD.s_l8Es_L1 t1 t5 s0)
 s_l8Name:∀ (s0:bN),LeO (F.s_l8Name s0) (TD.s_l8Name s0)
 s_l8Compare:∀ (s0:bN),LeO (F.s_l8Compare s0) (TD.s_l8Compare s0)
 s_l8Compare_L1:∀ (t3:(List (List Int))) (t5:Int) (s0:bN) (s32_0:Int) (s32_1:Int) (s32_2:(List Int)) (s32_3:(List bw)) (s64:bw),LeO (F.s_l8Compare_L1 t3 t5 s0 s32_0 s32_1 s32_2 s32_3 s64) (TD.s_l8Compare_L1 t3 t5 s0 s32_0 s32_1 s32_2 s32_3 s64)
 s_l8Row:∀ (s0:bN),LeO (F.s_l8Row s0) (TD.s_l8Row s0)
 s_l8Row_L1:∀ (s0:bN) (s32_0:Int) (s32_1:Int) (s32_2:(List Int)) (s32_3:(List bw)) (s48:bw),LeO (F.s_l8Row_L1 s0 s32_0 s32_1 s32_2 s32_3 s48) (TD.s_l8Row_L1 s0 s32_0 s32_1 s32_2 s32_3 s48)
 s_l8Unit:∀ (s0:bN),LeO (F.s_l8Unit s0) (TD.s_l8Unit s0)
 s_l8Left:∀ (s0:bN) (t1:Int),LeO (F.s_l8Left s0 t1) (TD.s_l8Left s0 t1)
 s_l8Left_L1:∀ (t1:Int) (t5:(List (List (List Int)))) (t6:(List (List Int))) (s0:bN) (s64:bw) (s112:bw),LeO (F.s_l8Left_L1 t1 t5 t6 s0 s64 s112) (TD.s_l8Left_L1 t1 t5 t6 s0 s64 s112)
 s_l8Left_L2:∀ (t1:Int) (t5:(List (List (List Int)))) (t6:(List (List Int))) (t8:Int) (s0:bN) (s64:bw) (s112:bw),LeO (F.s_l8Left_L2 t1 t5 t6 t8 s0 s64 s112) (TD.s_l8Left_L2 t1 t5 t6 t8 s0 s64 s112)
 s_l8Left_L3:∀ (t1:Int) (t5:(List (List (List Int)))) (t6:(List (List Int))) (t8:Int) (s0:bN) (s64:bw) (s112:bw),LeO (F.s_l8Left_L3 t1 t5 t6 t8 s0 s64 s112) (TD.s_l8Left_L3 t1 t5 t6 t8 s0 s64 s112)
 s_l9Kids:∀ (t0:bw),LeO (F.s_l9Kids t0) (TD.s_l9Kids t0)
 s_l9Kids_L1:∀ (t3:Int) (t9:Int) (t10:Bool) (s16:bw),LeO (F.s_l9Kids_L1 t3 t9 t10 s16) (TD.s_l9Kids_L1 t3 t9 t10 s16)
 s_l9Kids_L2:∀ (t3:Int) (t9:Int) (t23:Bool) (s16:bw),LeO (F.s_l9Kids_L2 t3 t9 t23 s16) (TD.s_l9Kids_L2 t3 t9 t23 s16)
 s_l9Kids_L3:∀ (t3:Int) (t9:Int) (t45:Bool) (s16:bw),LeO (F.s_l9Kids_L3 t3 t9 t45 s16) (TD.s_l9Kids_L3 t3 t9 t45 s16)
 s_l9Kids_L4:∀ (t3:Int) (t9:Int) (t70:Bool) (s16:bw),LeO (F.s_l9Kids_L4 t3 t9 t70 s16) (TD.s_l9Kids_L4 t3 t9 t70 s16)
 s_l9Kids_L5:∀ (t3:Int) (t4:Int) (s16:bw),LeO (F.s_l9Kids_L5 t3 t4 s16) (TD.s_l9Kids_L5 t3 t4 s16)
 s_l9Rex:∀ (t0:(List Int)),LeO (F.s_l9Rex t0) (TD.s_l9Rex t0)
 s_l9Rex_L1:∀ (t0:(List Int)) (t3:Int),LeO (F.s_l9Rex_L1 t0 t3) (TD.s_l9Rex_L1 t0 t3)
 s_l3Part:∀ (s0:bM) (t1:Int),LeO (F.s_l3Part s0 t1) (TD.s_l3Part s0 t1)
 s_l3Part_L1:∀ (t1:Int) (t5:(List bD)) (s0:bM) (s64:bD),LeO (F.s_l3Part_L1 t1 t5 s0 s64) (TD.s_l3Part_L1 t1 t5 s0 s64)
 s_l3Now:∀ (s0:bM) (t1:Int),LeO (F.s_l3Now s0 t1) (TD.s_l3Now s0 t1)
 s_l8Begins:∀ (s0:bN),LeO (F.s_l8Begins s0) (TD.s_l8Begins s0)
 s_l8Begins_L1:∀ (t12:Int) (t13:Bool) (s0:bN) (s48:bG),LeO (F.s_l8Begins_L1 t12 t13 s0 s48) (TD.s_l8Begins_L1 t12 t13 s0 s48)
 s_l8Atom:∀ (s0:bN),LeO (F.s_l8Atom s0) (TD.s_l8Atom s0)
 s_l9Es:∀ (t0:bw) (t1:Int) (t2:Int),LeO (F.s_l9Es t0 t1 t2) (TD.s_l9Es t0 t1 t2)
 s_l9Es_L1:∀ (t2:Int) (t7:Int) (s48:bw),LeO (F.s_l9Es_L1 t2 t7 s48) (TD.s_l9Es_L1 t2 t7 s48)
 s_l9Blocks:∀ (t0:bw) (t1:Int),LeO (F.s_l9Blocks t0 t1) (TD.s_l9Blocks t0 t1)
 s_l9Blocks_L1:∀ (t5:Int) (s32:bw),LeO (F.s_l9Blocks_L1 t5 s32) (TD.s_l9Blocks_L1 t5 s32)
 s_l3Piece:∀ (s0:bM) (t1:Int),LeO (F.s_l3Piece s0 t1) (TD.s_l3Piece s0 t1)
 s_l3Piece_L1:∀ (s0:bM) (s64:bD) (s80:bD),LeO (F.s_l3Piece_L1 s0 s64 s80) (TD.s_l3Piece_L1 s0 s64 s80)
 s_l3Piece_L2:∀ (t6:Int) (s0:bM) (s64:bD) (s80:bD),LeO (F.s_l3Piece_L2 t6 s0 s64 s80) (TD.s_l3Piece_L2 t6 s0 s64 s80)
 s_l3Atom:∀ (s0:bM) (t1:Int),LeO (F.s_l3Atom s0 t1) (TD.s_l3Atom s0 t1)
 s_l3Atom_L1:∀ (t5:Int) (s0:bM) (s64:bD),LeO (F.s_l3Atom_L1 t5 s0 s64) (TD.s_l3Atom_L1 t5 s0 s64)
 s_NfaOf:∀ (t0:bD),LeO (F.s_NfaOf t0) (TD.s_NfaOf t0)
 s_l3Set:∀ (s0:bM),LeO (F.s_l3Set s0) (TD.s_l3Set s0)
 s_l3Set_L1:∀ (s0:bM) (s32:bD) (s48:bD),LeO (F.s_l3Set_L1 s0 s32 s48) (TD.s_l3Set_L1 s0 s32 s48)
 s_l3Set_L2:∀ (t4:(List Bool)) (t5:Int) (s0:bM) (s32:bD) (s48:bD),LeO (F.s_l3Set_L2 t4 t5 s0 s32 s48) (TD.s_l3Set_L2 t4 t5 s0 s32 s48)
 s_l3Set_L3:∀ (t4:(List Bool)) (t5:Int) (t6:Int) (t7:Int) (s0:bM) (s32:bD) (s48:bD),LeO (F.s_l3Set_L3 t4 t5 t6 t7 s0 s32 s48) (TD.s_l3Set_L3 t4 t5 t6 t7 s0 s32 s48)
 s_l3Set_L4:∀ (t4:(List Bool)) (s0:bM) (s32:bD) (s48:bD),LeO (F.s_l3Set_L4 t4 s0 s32 s48) (TD.s_l3Set_L4 t4 s0 s32 s48)
 s_l3Set_L5:∀ (t4:(List Bool)) (t5:Int) (t6:Int) (t7:Int) (s0:bM) (s32:bD) (s48:bD),LeO (F.s_l3Set_L5 t4 t5 t6 t7 s0 s32 s48) (TD.s_l3Set_L5 t4 t5 t6 t7 s0 s32 s48)
 s_l3Set_L6:∀ (t4:(List Bool)) (t9:(List Int)) (t10:Int) (s0:bM) (s32:bD) (s48:bD),LeO (F.s_l3Set_L6 t4 t9 t10 s0 s32 s48) (TD.s_l3Set_L6 t4 t9 t10 s0 s32 s48)
 s_l3Set_L7:∀ (t4:(List Bool)) (t5:Int) (t7:Int) (t8:Int) (s0:bM) (s32:bD) (s48:bD),LeO (F.s_l3Set_L7 t4 t5 t7 t8 s0 s32 s48) (TD.s_l3Set_L7 t4 t5 t7 t8 s0 s32 s48)
 s_RexOk:∀ (t0:bD),LeO (F.s_RexOk t0) (TD.s_RexOk t0)
 s_l4Of:∀ (t0:(List bA)) (t1:bD),LeO (F.s_l4Of t0 t1) (TD.s_l4Of t0 t1)
 s_l4Of_L1:∀ (t0:(List bA)) (t6:Int) (s48:bD),LeO (F.s_l4Of_L1 t0 t6 s48) (TD.s_l4Of_L1 t0 t6 s48)
 s_l4Of_L2:∀ (t0:(List bA)),LeO (F.s_l4Of_L2 t0) (TD.s_l4Of_L2 t0)
 s_l4Put:∀ (t0:(List bA)) (t1:Int),LeO (F.s_l4Put t0 t1) (TD.s_l4Put t0 t1)
 s_l3Right:∀ (t0:bD),LeO (F.s_l3Right t0) (TD.s_l3Right t0)
 s_l3Right_L1:∀ (t3:Int) (s16:bD),LeO (F.s_l3Right_L1 t3 s16) (TD.s_l3Right_L1 t3 s16)
 s_l3Right_L2:∀ (t4:Int) (t23:Int) (t62:Bool) (s16:bD),LeO (F.s_l3Right_L2 t4 t23 t62 s16) (TD.s_l3Right_L2 t4 t23 t62 s16)
 s_l3Right_L3:∀ (t4:Int) (t82:Bool) (s16:bD),LeO (F.s_l3Right_L3 t4 t82 s16) (TD.s_l3Right_L3 t4 t82 s16)
 s_l4Or:∀ (t0:(List bA)) (t1:(List bD)),LeO (F.s_l4Or t0 t1) (TD.s_l4Or t0 t1)
 s_l4Or_L1:∀ (t0:(List bA)) (t1:(List bD)) (t5:(List Int)) (t6:Int),LeO (F.s_l4Or_L1 t0 t1 t5 t6) (TD.s_l4Or_L1 t0 t1 t5 t6)
 s_l4Or_L2:∀ (t0:(List bA)) (t5:(List Int)) (t8:Int),LeO (F.s_l4Or_L2 t0 t5 t8) (TD.s_l4Or_L2 t0 t5 t8)
 s_l3Up:∀ (t0:(List Int)),LeO (F.s_l3Up t0) (TD.s_l3Up t0)
 s_l3Up_L1:∀ (t0:(List Int)) (t3:Int),LeO (F.s_l3Up_L1 t0 t3) (TD.s_l3Up_L1 t0 t3)
def mm(F:FsBuild)(t0:Int)(t1:Int)(t2:Int):Option (Bool×Unit) :=
 if(decide (t0≥t1))=true then
  some ((decide (t0≤t2)),())
 else
  some (false,())
def kQ(F:FsBuild)(t0:(List Int)):Option (bB×Int×Unit) :=
 (F.s_Parse t0).bind fun(r0:(List bE)×Int×Unit) =>
 if(decide (r0.2.1≥0))=true then
  some ((bB.mk [] [] [] []),(-1),())
 else
  (F.s_Compile r0.1).bind fun(r1:bB×Int×Unit) =>
  some (r1.1,r1.2.1,())
def lw(F:FsBuild)(t0:bB):Option (Bool×Unit) :=
 F.s_ProgOk_L1 0 t0
def lx(F:FsBuild)(t3:Int)(s16:bB):Option (Bool×Unit) :=
 if(decide (t3<(List.length s16.Vars:Int)))=true then
  if(0:Int)≤t3∧t3<(List.length s16.Vars:Int) then
   (F.s_l9Name (List.getD s16.Vars t3.toNat [])).bind fun(r0:Bool×Unit) =>
   if(!r0.1)=true then
    some (false,())
   else
    if(0:Int)≤t3∧t3<(List.length s16.Vars:Int) then
     (F.s_l7Within s16.Cells (List.getD s16.Vars t3.toNat [])).bind fun(r1:Bool×Unit) =>
     if r1.1=true then
      some (false,())
     else
      if(decide (t3>0))=true then
       if(0:Int)≤(w64 (t3-1))∧(w64 (t3-1))<(List.length s16.Vars:Int) then
        if(0:Int)≤t3∧t3<(List.length s16.Vars:Int) then
         if(!(ltS (List.getD s16.Vars (w64 (t3-1)).toNat []) (List.getD s16.Vars t3.toNat [])))=true then
          some (false,())
         else
          F.s_ProgOk_L1 (w64 (t3+1)) s16
        else none
       else none
      else
       F.s_ProgOk_L1 (w64 (t3+1)) s16
    else none
  else none
 else
  F.s_ProgOk_L2 0 s16
def ly(F:FsBuild)(t4:Int)(s16:bB):Option (Bool×Unit) :=
 if(decide (t4<(List.length s16.Cells:Int)))=true then
  if(0:Int)≤t4∧t4<(List.length s16.Cells:Int) then
   (F.s_l9Name (List.getD s16.Cells t4.toNat [])).bind fun(r0:Bool×Unit) =>
   if(!r0.1)=true then
    some (false,())
   else
    if(decide (t4>0))=true then
     if(0:Int)≤(w64 (t4-1))∧(w64 (t4-1))<(List.length s16.Cells:Int) then
      if(0:Int)≤t4∧t4<(List.length s16.Cells:Int) then
       if(!(ltS (List.getD s16.Cells (w64 (t4-1)).toNat []) (List.getD s16.Cells t4.toNat [])))=true then
        some (false,())
       else
        F.s_ProgOk_L2 (w64 (t4+1)) s16
      else none
     else none
    else
     F.s_ProgOk_L2 (w64 (t4+1)) s16
  else none
 else
  if(decide ((List.length s16.Vars:Int)≤8))=true then
   if(decide ((List.length s16.Cells:Int)≤8))=true then
    (F.s_OpsOk s16.Start (List.length s16.Vars:Int) (List.length s16.Cells:Int)).bind fun(r1:Bool×Unit) =>
    if r1.1=true then
     (F.s_OpsOk s16.Main (List.length s16.Vars:Int) (List.length s16.Cells:Int)).bind fun(r2:Bool×Unit) =>
     some (r2.1,())
    else
     some (false,())
   else
    some (false,())
  else
   some (false,())
def oo(F:FsBuild)(t0:(List Int)):Option (Bool×Unit) :=
 F.s_l9Line_L1 t0 0
def oq(F:FsBuild)(t0:(List Int))(t3:Int):Option (Bool×Unit) :=
 if(decide (t3<(List.length t0:Int)))=true then
  if(0:Int)≤t3∧t3<(List.length t0:Int) then
   if(decide ((List.getD t0 t3.toNat 0)=10))=true then
    some (false,())
   else
    F.s_l9Line_L1 t0 (w64 (t3+1))
  else none
 else
  some (true,())
def lu(F:FsBuild)(t0:(List Int)):Option ((List bE)×Int×Unit) :=
 (F.s_Tokens t0).bind fun(r0:(List bG)×Int×Unit) =>
 if(decide (r0.2.1≥0))=true then
  some ([],r0.2.1,())
 else
  F.s_Parse_L1 [] [] 0 r0.1 0 (-1) false cl
def lv(F:FsBuild)(t4:(List bE))(t8:(List bE))(t9:Int)(s368_0:(List bG))(s368_1:Int)(s368_2:Int)(s368_3:Bool)(s368_4:bw):Option ((List bE)×Int×Unit) :=
 if(decide (s368_2<0))=true then
  (F.s_l8Now (bN.mk s368_0 s368_1 s368_2 s368_3 s368_4)).bind fun(r0:bG×bN×Unit) =>
  if(!(decide (r0.1.Kind=0)))=true then
   (F.s_l8Rule r0.2.1).bind fun(r1:bE×bN×Unit) =>
   if List.length t8+1≤room then
    (F.s_Deep r1.1.Pat).bind fun(r2:Int×Unit) =>
    (F.s_Deep r1.1.Body).bind fun(r3:Int×Unit) =>
    (F.s_l1Max r2.1 r3.1).bind fun(r4:Int×Unit) =>
    (F.s_l1Max t9 r4.1).bind fun(r5:Int×Unit) =>
    F.s_Parse_L1 t4 (List.append t8 [r1.1]) r5.1 r1.2.1.list r1.2.1.at_ r1.2.1.bad r1.2.1.has r1.2.1.kept
   else none
  else
   if(decide (r0.2.1.bad≥0))=true then
    some (t4,r0.2.1.bad,())
   else
    if(decide (t9>16))=true then
     some (t4,0,())
    else
     some (t8,(-1),())
 else
  if(decide (s368_2≥0))=true then
   some (t4,s368_2,())
  else
   if(decide (t9>16))=true then
    some (t4,0,())
   else
    some (t8,(-1),())
def kW(F:FsBuild)(t0:(List bE)):Option (bB×Int×Unit) :=
 (F.s_Check t0).bind fun(r0:Int×Unit) =>
 if(!(decide (r0.1=0)))=true then
  some ((bB.mk [] [] [] []),r0.1,())
 else
  (F.s_Names t0).bind fun(r1:(List (List Int))×(List (List Int))×Unit) =>
  F.s_Compile_L1 t0 r1.1 r1.2.1 0 zt r1.1 r1.2.1 [] r1.1 r1.2.1 []
def kX(F:FsBuild)(t0:(List bE))(t5:(List (List Int)))(t6:(List (List Int)))(t9:Int)(s32:bB)(s432_0:(List (List Int)))(s432_1:(List (List Int)))(s432_2:(List bz))(s496_0:(List (List Int)))(s496_1:(List (List Int)))(s496_2:(List bz)):Option (bB×Int×Unit) :=
 if(decide (t9<(List.length t0:Int)))=true then
  if(0:Int)≤t9∧t9<(List.length t0:Int) then
   if(decide (((List.getD t0 t9.toNat bV).Kind)=1))=true then
    (F.s_l14Block s432_0 s432_1 s432_2 ((List.getD t0 t9.toNat bV).Body)).bind fun(r0:((List (List Int))×((List (List Int))×((List bz)×Unit)))×Unit) =>
    F.s_Compile_L1 t0 t5 t6 (w64 (t9+1)) s32 r0.1.1 r0.1.2.1 r0.1.2.2.1 s496_0 s496_1 s496_2
   else
    if(decide (((List.getD t0 t9.toNat bV).Kind)=2))=true then
     (F.s_l14Block s496_0 s496_1 s496_2 ((List.getD t0 t9.toNat bV).Body)).bind fun(r1:((List (List Int))×((List (List Int))×((List bz)×Unit)))×Unit) =>
     F.s_Compile_L1 t0 t5 t6 (w64 (t9+1)) s32 s432_0 s432_1 s432_2 r1.1.1 r1.1.2.1 r1.1.2.2.1
    else
     (F.s_l14E s496_0 s496_1 s496_2 ((List.getD t0 t9.toNat bV).Pat)).bind fun(r2:((List (List Int))×((List (List Int))×((List bz)×Unit)))×Unit) =>
     (F.s_l14Put r2.1.1 r2.1.2.1 r2.1.2.2.1 31 0 []).bind fun(r3:Int×((List (List Int))×((List (List Int))×((List bz)×Unit)))×Unit) =>
     (F.s_l14Block r3.2.1.1 r3.2.1.2.1 r3.2.1.2.2.1 ((List.getD t0 t9.toNat bV).Body)).bind fun(r4:((List (List Int))×((List (List Int))×((List bz)×Unit)))×Unit) =>
     if(0:Int)≤r3.1∧r3.1<(List.length r4.1.2.2.1:Int) then
      let v0:(List bz):=(List.set r4.1.2.2.1 r3.1.toNat (bz.mk ((List.getD r4.1.2.2.1 r3.1.toNat di).Code) (List.length r4.1.2.2.1:Int) ((List.getD r4.1.2.2.1 r3.1.toNat di).S)))
      F.s_Compile_L1 t0 t5 t6 (w64 (t9+1)) s32 s432_0 s432_1 s432_2 r4.1.1 r4.1.2.1 v0
     else none
  else none
 else
  (F.s_l14Put s432_0 s432_1 s432_2 36 0 []).bind fun(r5:Int×((List (List Int))×((List (List Int))×((List bz)×Unit)))×Unit) =>
  (F.s_l14Put s496_0 s496_1 s496_2 36 0 []).bind fun(r6:Int×((List (List Int))×((List (List Int))×((List bz)×Unit)))×Unit) =>
  (F.s_ProgOk (bB.mk t5 t6 r5.2.1.2.2.1 r6.2.1.2.2.1)).bind fun(r7:Bool×Unit) =>
  if(!r7.1)=true then
   some ((bB.mk [] [] [] []),3,())
  else
   some ((bB.mk t5 t6 r5.2.1.2.2.1 r6.2.1.2.2.1),0,())
def ot(F:FsBuild)(t0:(List Int)):Option (Bool×Unit) :=
 F.s_l9Name_L1 t0 0
def ou(F:FsBuild)(t0:(List Int))(t3:Int):Option (Bool×Unit) :=
 if(decide (t3<(List.length t0:Int)))=true then
  if(0:Int)≤t3∧t3<(List.length t0:Int) then
   (F.s_l7Letter (List.getD t0 t3.toNat 0)).bind fun(r0:Bool×Unit) =>
   if(!r0.1)=true then
    some (false,())
   else
    F.s_l9Name_L1 t0 (w64 (t3+1))
  else none
 else
  (F.s_l1In (List.length t0:Int) 1 8).bind fun(r1:Bool×Unit) =>
  if r1.1=true then
   (F.s_Keyword t0).bind fun(r2:Bool×Unit) =>
   some ((!r2.1),())
  else
   some (false,())
def nr(F:FsBuild)(t0:(List (List Int)))(t1:(List Int)):Option (Bool×Unit) :=
 F.s_l7Within_L1 t0 t1 0
def nu(F:FsBuild)(t0:(List (List Int)))(t1:(List Int))(t5:Int):Option (Bool×Unit) :=
 if(decide (t5<(List.length t0:Int)))=true then
  if(0:Int)≤t5∧t5<(List.length t0:Int) then
   if(decide ((List.getD t0 t5.toNat [])=t1))=true then
    some (true,())
   else
    F.s_l7Within_L1 t0 t1 (w64 (t5+1))
  else none
 else
  some (false,())
def ls(F:FsBuild)(t0:(List bz))(t1:Int)(t2:Int):Option (Bool×Unit) :=
 (F.s_l1In (List.length t0:Int) 1 1500).bind fun(r0:Bool×Unit) =>
 if(!r0.1)=true then
  some (false,())
 else
  if(0:Int)≤(w64 ((List.length t0:Int)-1))∧(w64 ((List.length t0:Int)-1))<(List.length t0:Int) then
   if(!(decide (((List.getD t0 (w64 ((List.length t0:Int)-1)).toNat di).Code)=36)))=true then
    some (false,())
   else
    F.s_OpsOk_L1 t0 t1 t2 (List.length t0:Int) 0
  else none
def lt(F:FsBuild)(t0:(List bz))(t1:Int)(t2:Int)(t7:Int)(t8:Int):Option (Bool×Unit) :=
 if(decide (t8<t7))=true then
  if(0:Int)≤t8∧t8<(List.length t0:Int) then
   (F.s_l13Op (List.getD t0 t8.toNat di) t7 t1 t2).bind fun(r0:Bool×Unit) =>
   if(!r0.1)=true then
    some (false,())
   else
    F.s_OpsOk_L1 t0 t1 t2 t7 (w64 (t8+1))
  else none
 else
  some (true,())
def lD(F:FsBuild)(t0:(List Int)):Option ((List bG)×Int×Unit) :=
 if(decide ((List.length t0:Int)>2000))=true then
  some ([],0,())
 else
  F.s_Tokens_L1 t0 [] 0
def lE(F:FsBuild)(t0:(List Int))(t4:(List bG))(t5:Int):Option ((List bG)×Int×Unit) :=
 if(decide (t5<(List.length t0:Int)))=true then
  if(0:Int)≤t5∧t5<(List.length t0:Int) then
   if(decide ((List.getD t0 t5.toNat 0)=32))=true then
    F.s_Tokens_L1 t0 t4 (w64 (t5+1))
   else
    if(0:Int)≤t5∧t5<(List.length t0:Int) then
     if(decide ((List.getD t0 t5.toNat 0)=10))=true then
      F.s_Tokens_L1 t0 t4 (w64 (t5+1))
     else
      if(0:Int)≤t5∧t5<(List.length t0:Int) then
       if(decide ((List.getD t0 t5.toNat 0)=35))=true then
        F.s_Tokens_L2 t0 t4 t5
       else
        (F.s_l7One t0 t5 t4).bind fun(r0:bG×Int×Bool×Unit) =>
        if(!r0.2.2.1)=true then
         some ([],t5,())
        else
         if List.length t4+1≤room then
          F.s_Tokens_L1 t0 (List.append t4 [r0.1]) r0.2.1
         else none
      else none
    else none
  else none
 else
  if List.length t4+1≤room then
   some ((List.append t4 [(bG.mk 0 [] 0 (List.length t0:Int))]),(-1),())
  else none
def lF(F:FsBuild)(t0:(List Int))(t4:(List bG))(t5:Int):Option ((List bG)×Int×Unit) :=
 if(decide (t5<(List.length t0:Int)))=true then
  if(0:Int)≤t5∧t5<(List.length t0:Int) then
   if(!(decide ((List.getD t0 t5.toNat 0)=10)))=true then
    F.s_Tokens_L2 t0 t4 (w64 (t5+1))
   else
    F.s_Tokens_L1 t0 t4 t5
  else none
 else
  F.s_Tokens_L1 t0 t4 t5
def nS(F:FsBuild)(s0:bN):Option (bG×bN×Unit) :=
 if(0:Int)≤s0.at_∧s0.at_<(List.length s0.list:Int) then
  some ((List.getD s0.list s0.at_.toNat gU),s0,())
 else none
def nV(F:FsBuild)(s0:bN):Option (bE×bN×Unit) :=
 (F.s_l8Is s0 [66,69,71,73,78]).bind fun(r0:Bool×bN×Unit) =>
 if r0.1=true then
  (F.s_l8Next r0.2.1).bind fun(r1:bN×Unit) =>
  (F.s_l8Block r1.1).bind fun(r2:bw×bN×Unit) =>
  some ((bE.mk 1 cl r2.1),r2.2.1,())
 else
  (F.s_l8Sign r0.2.1 [123]).bind fun(r3:Bool×bN×Unit) =>
  if r3.1=true then
   (F.s_l8Block r3.2.1).bind fun(r4:bw×bN×Unit) =>
   some ((bE.mk 2 cl r4.1),r4.2.1,())
  else
   (F.s_l8E r3.2.1).bind fun(r5:bw×bN×Unit) =>
   (F.s_l8Sign r5.2.1 [123]).bind fun(r6:Bool×bN×Unit) =>
   if r6.1=true then
    (F.s_l8Block r6.2.1).bind fun(r7:bw×bN×Unit) =>
    some ((bE.mk 3 r5.1 r7.1),r7.2.1,())
   else
    (F.s_l8Kids 29 [(bw.mk 30 0 [] [])]).bind fun(r8:(Int×(Int×((List Int)×((List bw)×Unit))))×Unit) =>
    some ((bE.mk 3 r5.1 (bw.mk r8.1.1 r8.1.2.1 r8.1.2.2.1 r8.1.2.2.2.1)),r6.2.1,())
def lj(F:FsBuild)(t0:bw):Option (Int×Unit) :=
 F.s_Deep_L1 0 0 t0
def lk(F:FsBuild)(t3:Int)(t4:Int)(s16:bw):Option (Int×Unit) :=
 if(decide (t4<(List.length s16.Kids:Int)))=true then
  if(0:Int)≤t4∧t4<(List.length s16.Kids:Int) then
   (F.s_Deep (List.getD s16.Kids t4.toNat cl)).bind fun(r0:Int×Unit) =>
   (F.s_l1Max t3 r0.1).bind fun(r1:Int×Unit) =>
   F.s_Deep_L1 r1.1 (w64 (t4+1)) s16
  else none
 else
  some ((w64 (t3+1)),())
def mn(F:FsBuild)(t0:Int)(t1:Int):Option (Int×Unit) :=
 if(decide (t0>t1))=true then
  some (t0,())
 else
  some (t1,())
def kR(F:FsBuild)(t0:(List bE)):Option (Int×Unit) :=
 (F.s_Tidy t0).bind fun(r0:Bool×Unit) =>
 if(!r0.1)=true then
  some (1,())
 else
  F.s_Check_L1 t0 0
def kS(F:FsBuild)(t0:(List bE))(t3:Int):Option (Int×Unit) :=
 if(decide (t3<(List.length t0:Int)))=true then
  if(0:Int)≤t3∧t3<(List.length t0:Int) then
   if(decide (((List.getD t0 t3.toNat bV).Kind)=1))=true then
    if(decide (t3>0))=true then
     some (2,())
    else
     if(0:Int)≤t3∧t3<(List.length t0:Int) then
      (F.s_l10Line ((List.getD t0 t3.toNat bV).Body)).bind fun(r0:Bool×Unit) =>
      if r0.1=true then
       some (2,())
      else
       F.s_Check_L1 t0 (w64 (t3+1))
     else none
   else
    F.s_Check_L1 t0 (w64 (t3+1))
  else none
 else
  (F.s_Names t0).bind fun(r1:(List (List Int))×(List (List Int))×Unit) =>
  if(decide ((List.length r1.1:Int)>8))=true then
   some (3,())
  else
   if(decide ((List.length r1.2.1:Int)>8))=true then
    some (3,())
   else
    F.s_Check_L2 t0 r1.1 r1.2.1 0
def kT(F:FsBuild)(t0:(List bE))(t4:(List (List Int)))(t5:(List (List Int)))(t6:Int):Option (Int×Unit) :=
 if(decide (t6<(List.length t4:Int)))=true then
  if(0:Int)≤t6∧t6<(List.length t4:Int) then
   (F.s_l7Within t5 (List.getD t4 t6.toNat [])).bind fun(r0:Bool×Unit) =>
   if r0.1=true then
    some (4,())
   else
    F.s_Check_L2 t0 t4 t5 (w64 (t6+1))
  else none
 else
  F.s_Check_L3 t0 0
def kU(F:FsBuild)(t0:(List bE))(t7:Int):Option (Int×Unit) :=
 if(decide (t7<(List.length t0:Int)))=true then
  if(0:Int)≤t7∧t7<(List.length t0:Int) then
   (F.s_l10Args ((List.getD t0 t7.toNat bV).Pat)).bind fun(r0:Bool×Unit) =>
   if(!r0.1)=true then
    some (5,())
   else
    if(0:Int)≤t7∧t7<(List.length t0:Int) then
     (F.s_l10Args ((List.getD t0 t7.toNat bV).Body)).bind fun(r1:Bool×Unit) =>
     if(!r1.1)=true then
      some (5,())
     else
      F.s_Check_L3 t0 (w64 (t7+1))
    else none
  else none
 else
  F.s_Check_L4 t0 0
def kV(F:FsBuild)(t0:(List bE))(t8:Int):Option (Int×Unit) :=
 if(decide (t8<(List.length t0:Int)))=true then
  if(0:Int)≤t8∧t8<(List.length t0:Int) then
   (F.s_l10Rexes ((List.getD t0 t8.toNat bV).Pat)).bind fun(r0:Bool×Unit) =>
   if(!r0.1)=true then
    some (6,())
   else
    if(0:Int)≤t8∧t8<(List.length t0:Int) then
     (F.s_l10Rexes ((List.getD t0 t8.toNat bV).Body)).bind fun(r1:Bool×Unit) =>
     if(!r1.1)=true then
      some (6,())
     else
      F.s_Check_L4 t0 (w64 (t8+1))
    else none
  else none
 else
  some (0,())
def lm(F:FsBuild)(t0:(List bE)):Option ((List (List Int))×(List (List Int))×Unit) :=
 F.s_Names_L1 t0 [] [] 0
def lp(F:FsBuild)(t0:(List bE))(t4:(List (List Int)))(t5:(List (List Int)))(t6:Int):Option ((List (List Int))×(List (List Int))×Unit) :=
 if(decide (t6<(List.length t0:Int)))=true then
  if(0:Int)≤t6∧t6<(List.length t0:Int) then
   (F.s_l10Names ((List.getD t0 t6.toNat bV).Pat) t4 t5).bind fun(r0:(List (List Int))×(List (List Int))×Unit) =>
   if(0:Int)≤t6∧t6<(List.length t0:Int) then
    (F.s_l10Names ((List.getD t0 t6.toNat bV).Body) r0.1 r0.2.1).bind fun(r1:(List (List Int))×(List (List Int))×Unit) =>
    F.s_Names_L1 t0 r1.1 r1.2.1 (w64 (t6+1))
   else none
  else none
 else
  some (t4,t5,())
def l5(F:FsBuild)(s0_0:(List (List Int)))(s0_1:(List (List Int)))(s0_2:(List bz))(t1:bw):Option (((List (List Int))×((List (List Int))×((List bz)×Unit)))×Unit) :=
 F.s_l14Block_L1 0 s0_0 s0_1 s0_2 t1
def l6(F:FsBuild)(t4:Int)(s0_0:(List (List Int)))(s0_1:(List (List Int)))(s0_2:(List bz))(s48:bw):Option (((List (List Int))×((List (List Int))×((List bz)×Unit)))×Unit) :=
 if(decide (t4<(List.length s48.Kids:Int)))=true then
  if(0:Int)≤t4∧t4<(List.length s48.Kids:Int) then
   (F.s_l14Stmt s0_0 s0_1 s0_2 (List.getD s48.Kids t4.toNat cl)).bind fun(r0:((List (List Int))×((List (List Int))×((List bz)×Unit)))×Unit) =>
   F.s_l14Block_L1 (w64 (t4+1)) r0.1.1 r0.1.2.1 r0.1.2.2.1 s48
  else none
 else
  some ((s0_0,(s0_1,(s0_2,()))),())
def l7(F:FsBuild)(s0_0:(List (List Int)))(s0_1:(List (List Int)))(s0_2:(List bz))(t1:bw):Option (((List (List Int))×((List (List Int))×((List bz)×Unit)))×Unit) :=
 if(decide (t1.Op=26))=true then
  F.s_l14E_L1 t1.Op (decide (t1.Op=26)) s0_0 s0_1 s0_2 t1
 else
  F.s_l14E_L1 t1.Op (decide (t1.Op=27)) s0_0 s0_1 s0_2 t1
def l8(F:FsBuild)(t6:Int)(t24:Bool)(s0_0:(List (List Int)))(s0_1:(List (List Int)))(s0_2:(List bz))(s48:bw):Option (((List (List Int))×((List (List Int))×((List bz)×Unit)))×Unit) :=
 if t24=true then
  (F.s_l14Set s0_0 s0_1 s0_2 s48).bind fun(r0:((List (List Int))×((List (List Int))×((List bz)×Unit)))×Unit) =>
  some ((r0.1.1,(r0.1.2.1,(r0.1.2.2.1,()))),())
 else
  if(decide (t6=24))=true then
   (F.s_l14And s0_0 s0_1 s0_2 s48).bind fun(r1:((List (List Int))×((List (List Int))×((List bz)×Unit)))×Unit) =>
   some ((r1.1.1,(r1.1.2.1,(r1.1.2.2.1,()))),())
  else
   if(decide (t6=25))=true then
    (F.s_l14Or s0_0 s0_1 s0_2 s48).bind fun(r2:((List (List Int))×((List (List Int))×((List bz)×Unit)))×Unit) =>
    some ((r2.1.1,(r2.1.2.1,(r2.1.2.2.1,()))),())
   else
    if(decide (t6=21))=true then
     if(0:Int)≤0∧(0:Int)<(List.length s48.Kids:Int) then
      (F.s_l14E s0_0 s0_1 s0_2 (List.getD s48.Kids 0 cl)).bind fun(r3:((List (List Int))×((List (List Int))×((List bz)×Unit)))×Unit) =>
      if(0:Int)≤1∧(1:Int)<(List.length s48.Kids:Int) then
       (F.s_l14Put r3.1.1 r3.1.2.1 r3.1.2.2.1 24 0 ((List.getD s48.Kids 1 cl).S)).bind fun(r4:Int×((List (List Int))×((List (List Int))×((List bz)×Unit)))×Unit) =>
       some ((r4.2.1.1,(r4.2.1.2.1,(r4.2.1.2.2.1,()))),())
      else none
     else none
    else
     F.s_l14E_L2 0 s0_0 s0_1 s0_2 s48
def l9(F:FsBuild)(t4:Int)(s0_0:(List (List Int)))(s0_1:(List (List Int)))(s0_2:(List bz))(s48:bw):Option (((List (List Int))×((List (List Int))×((List bz)×Unit)))×Unit) :=
 if(decide (t4<(List.length s48.Kids:Int)))=true then
  if(0:Int)≤t4∧t4<(List.length s48.Kids:Int) then
   (F.s_l14E s0_0 s0_1 s0_2 (List.getD s48.Kids t4.toNat cl)).bind fun(r0:((List (List Int))×((List (List Int))×((List bz)×Unit)))×Unit) =>
   F.s_l14E_L2 (w64 (t4+1)) r0.1.1 r0.1.2.1 r0.1.2.2.1 s48
  else none
 else
  (F.s_l14Last s0_0 s0_1 s0_2 s48).bind fun(r1:((List (List Int))×((List (List Int))×((List bz)×Unit)))×Unit) =>
  some ((r1.1.1,(r1.1.2.1,(r1.1.2.2.1,()))),())
def mg(F:FsBuild)(s0_0:(List (List Int)))(s0_1:(List (List Int)))(s0_2:(List bz))(t1:Int)(t2:Int)(t3:(List Int)):Option (Int×((List (List Int))×((List (List Int))×((List bz)×Unit)))×Unit) :=
 if List.length s0_2+1≤room then
  some ((w64 ((List.length (List.append s0_2 [(bz.mk t1 t2 t3)]):Int)-1)),(s0_0,(s0_1,((List.append s0_2 [(bz.mk t1 t2 t3)]),()))),())
 else none
def m0(F:FsBuild)(t0:Int):Option (Bool×Unit) :=
 if(decide (t0≥97))=true then
  if(decide (t0≤122))=true then
   some (true,())
  else
   if(decide (t0≥65))=true then
    some ((decide (t0≤90)),())
   else
    some (false,())
 else
  if(decide (t0≥65))=true then
   some ((decide (t0≤90)),())
  else
   some (false,())
def ll(F:FsBuild)(t0:(List Int)):Option (Bool×Unit) :=
 (F.s_l7Within [[66,69,71,73,78],[112,114,105,110,116],[105,102],[101,108,115,101],[119,104,105,108,101],[110,101,120,116],[100,101,108,101,116,101],[78,82],[78,70]] t0).bind fun(r0:Bool×Unit) =>
 if r0.1=true then
  some (true,())
 else
  (F.s_l7Calls ).bind fun(r1:(List (List Int))×Unit) =>
  (F.s_l7Within r1.1 t0).bind fun(r2:Bool×Unit) =>
  some (r2.1,())
def lU(F:FsBuild)(t0:bz)(t1:Int)(t2:Int)(t3:Int):Option (Bool×Unit) :=
 if(decide (t0.Code=1))=true then
  (F.s_DecOk t0.N).bind fun(r0:Bool×Unit) =>
  if r0.1=true then
   some ((decide (t0.S=[])),())
  else
   some (false,())
 else
  if(decide (t0.Code=2))=true then
   some ((decide (t0.N=0)),())
  else
   if(decide (t0.Code=3))=true then
    F.s_l13Op_L1 t1 t2 t3 t0.Code (decide (t0.Code=3)) t0
   else
    if(decide (t0.Code=4))=true then
     F.s_l13Op_L1 t1 t2 t3 t0.Code (decide (t0.Code=4)) t0
    else
     F.s_l13Op_L1 t1 t2 t3 t0.Code (decide (t0.Code=5)) t0
def lV(F:FsBuild)(t1:Int)(t2:Int)(t3:Int)(t12:Int)(t28:Bool)(s64:bz):Option (Bool×Unit) :=
 if t28=true then
  if(decide (s64.N≥0))=true then
   if(decide (s64.N<t2))=true then
    some ((decide (s64.S=[])),())
   else
    some (false,())
  else
   some (false,())
 else
  if(decide (t12=6))=true then
   F.s_l13Op_L2 t1 t3 t12 (decide (t12=6)) s64
  else
   if(decide (t12=7))=true then
    F.s_l13Op_L2 t1 t3 t12 (decide (t12=7)) s64
   else
    if(decide (t12=8))=true then
     F.s_l13Op_L2 t1 t3 t12 (decide (t12=8)) s64
    else
     F.s_l13Op_L2 t1 t3 t12 (decide (t12=35)) s64
def lW(F:FsBuild)(t1:Int)(t3:Int)(t12:Int)(t46:Bool)(s64:bz):Option (Bool×Unit) :=
 if t46=true then
  if(decide (s64.N≥0))=true then
   if(decide (s64.N<t3))=true then
    some ((decide (s64.S=[])),())
   else
    some (false,())
  else
   some (false,())
 else
  if(decide (t12=24))=true then
   F.s_l13Op_L3 t1 t12 (decide (t12=24)) s64
  else
   F.s_l13Op_L3 t1 t12 (decide (t12=25)) s64
def lX(F:FsBuild)(t1:Int)(t12:Int)(t65:Bool)(s64:bz):Option (Bool×Unit) :=
 if t65=true then
  (F.s_RexParse s64.S).bind fun(r0:bD×Bool×Unit) =>
  if r0.2.1=true then
   some ((decide (s64.N=0)),())
  else
   some (false,())
 else
  if(decide (t12=29))=true then
   (F.s_l1In s64.N 1 3).bind fun(r1:Bool×Unit) =>
   if r1.1=true then
    (F.s_l7Calls ).bind fun(r2:(List (List Int))×Unit) =>
    (F.s_l7Within r2.1 s64.S).bind fun(r3:Bool×Unit) =>
    some (r3.1,())
   else
    some (false,())
  else
   if(decide (t12=30))=true then
    F.s_l13Op_L4 t1 t12 (decide (t12=30)) s64
   else
    F.s_l13Op_L4 t1 t12 (decide (t12=31)) s64
def lY(F:FsBuild)(t1:Int)(t12:Int)(t91:Bool)(s64:bz):Option (Bool×Unit) :=
 if t91=true then
  (F.s_l1In s64.N 0 (w64 (t1-1))).bind fun(r0:Bool×Unit) =>
  if r0.1=true then
   some ((decide (s64.S=[])),())
  else
   some (false,())
 else
  if(decide (t12=33))=true then
   (F.s_l1In s64.N 0 1).bind fun(r1:Bool×Unit) =>
   if r1.1=true then
    some ((decide (s64.S=[])),())
   else
    some (false,())
  else
   (F.s_l1In s64.Code 1 36).bind fun(r2:Bool×Unit) =>
   if r2.1=true then
    if(decide (s64.N=0))=true then
     some ((decide (s64.S=[])),())
    else
     some (false,())
   else
    some (false,())
def nf(F:FsBuild)(t0:(List Int))(t1:Int)(t2:(List bG)):Option (bG×Int×Bool×Unit) :=
 if(0:Int)≤t1∧t1<(List.length t0:Int) then
  (F.s_l7Letter (List.getD t0 t1.toNat 0)).bind fun(r0:Bool×Unit) =>
  if r0.1=true then
   F.s_l7One_L1 t0 t1 t1 gU
  else
   (F.s_l2Digit (List.getD t0 t1.toNat 0)).bind fun(r1:Bool×Unit) =>
   if r1.1=true then
    (F.s_l7Number t0 t1).bind fun(r2:Int×Int×Bool×Unit) =>
    some ((bG.mk 2 [] r2.1 t1),r2.2.1,r2.2.2.1,())
   else
    if(decide ((List.getD t0 t1.toNat 0)=34))=true then
     (F.s_l7Text t0 t1).bind fun(r3:(List Int)×Int×Bool×Unit) =>
     some ((bG.mk 3 r3.1 0 t1),r3.2.1,r3.2.2.1,())
    else
     if(decide ((List.getD t0 t1.toNat 0)=47))=true then
      (F.s_l7After t2).bind fun(r4:Bool×Unit) =>
      if(!r4.1)=true then
       (F.s_l7Rex t0 t1).bind fun(r5:(List Int)×Int×Bool×Unit) =>
       some ((bG.mk 4 r5.1 0 t1),r5.2.1,r5.2.2.1,())
      else
       (F.s_l7Sign t0 t1).bind fun(r6:(List Int)×Unit) =>
       some ((bG.mk 5 r6.1 0 t1),(w64 (t1+(List.length r6.1:Int))),(!(decide (r6.1=[]))),())
     else
      (F.s_l7Sign t0 t1).bind fun(r7:(List Int)×Unit) =>
      some ((bG.mk 5 r7.1 0 t1),(w64 (t1+(List.length r7.1:Int))),(!(decide (r7.1=[]))),())
 else none
def ng(F:FsBuild)(t0:(List Int))(t1:Int)(t10:Int)(s96:bG):Option (bG×Int×Bool×Unit) :=
 if(decide (t10<(List.length t0:Int)))=true then
  if(0:Int)≤t10∧t10<(List.length t0:Int) then
   (F.s_l7Letter (List.getD t0 t10.toNat 0)).bind fun(r0:Bool×Unit) =>
   if r0.1=true then
    F.s_l7One_L1 t0 t1 (w64 (t10+1)) s96
   else
    if(0:Int)≤t1∧t1≤t10∧t10≤(List.length t0:Int) then
     some ((bG.mk 1 (List.take (t10.toNat-t1.toNat) (List.drop t1.toNat t0)) 0 t1),t10,(decide ((w64 (t10-t1))≤8)),())
    else none
  else none
 else
  if(0:Int)≤t1∧t1≤t10∧t10≤(List.length t0:Int) then
   some ((bG.mk 1 (List.take (t10.toNat-t1.toNat) (List.drop t1.toNat t0)) 0 t1),t10,(decide ((w64 (t10-t1))≤8)),())
  else none
def nI(F:FsBuild)(s0:bN)(t1:(List Int)):Option (Bool×bN×Unit) :=
 (F.s_l8Now s0).bind fun(r0:bG×bN×Unit) =>
 if(decide (r0.2.1.bad<0))=true then
  if(decide (r0.1.Kind=1))=true then
   some ((decide (r0.1.Text=t1)),r0.2.1,())
  else
   some (false,r0.2.1,())
 else
  some (false,r0.2.1,())
def nR(F:FsBuild)(s0:bN):Option (bN×Unit) :=
 if(decide (s0.at_<(w64 ((List.length s0.list:Int)-1))))=true then
  some ((bN.mk s0.list (w64 (s0.at_+1)) s0.bad s0.has s0.kept),())
 else
  some (s0,())
def nA(F:FsBuild)(s0:bN):Option (bw×bN×Unit) :=
 (F.s_l8Take s0 [123]).bind fun(r0:bN×Unit) =>
 F.s_l8Block_L1 r0.1 0 0 [] [] 29 0 [] []
def nB(F:FsBuild)(s0:bN)(s32_0:Int)(s32_1:Int)(s32_2:(List Int))(s32_3:(List bw))(s48_0:Int)(s48_1:Int)(s48_2:(List Int))(s48_3:(List bw)):Option (bw×bN×Unit) :=
 if(decide (s0.bad<0))=true then
  (F.s_l8Sign s0 [125]).bind fun(r0:Bool×bN×Unit) =>
  if(!r0.1)=true then
   (F.s_l8Sign r0.2.1 [59]).bind fun(r1:Bool×bN×Unit) =>
   if r1.1=true then
    (F.s_l8Next r1.2.1).bind fun(r2:bN×Unit) =>
    F.s_l8Block_L1 r2.1 s32_0 s32_1 s32_2 s32_3 s48_0 s48_1 s48_2 s48_3
   else
    (F.s_l8Stmt r1.2.1).bind fun(r3:bw×bN×Unit) =>
    if List.length s48_3+1≤room then
     F.s_l8Block_L1 r3.2.1 s32_0 s32_1 s32_2 s32_3 s48_0 s48_1 s48_2 (List.append s48_3 [r3.1])
    else none
  else
   (F.s_l8Take r0.2.1 [125]).bind fun(r4:bN×Unit) =>
   some ((bw.mk s48_0 s48_1 s48_2 s48_3),r4.1,())
 else
  (F.s_l8Take s0 [125]).bind fun(r5:bN×Unit) =>
  some ((bw.mk s48_0 s48_1 s48_2 s48_3),r5.1,())
def nW(F:FsBuild)(s0:bN)(t1:(List Int)):Option (Bool×bN×Unit) :=
 (F.s_l8Now s0).bind fun(r0:bG×bN×Unit) =>
 if(decide (r0.2.1.bad<0))=true then
  if(decide (r0.1.Kind=5))=true then
   some ((decide (r0.1.Text=t1)),r0.2.1,())
  else
   some (false,r0.2.1,())
 else
  some (false,r0.2.1,())
def nE(F:FsBuild)(s0:bN):Option (bw×bN×Unit) :=
 (F.s_l8Now s0).bind fun(r0:bG×bN×Unit) =>
 if(decide (r0.2.1.bad<0))=true then
  if(decide (r0.1.Kind=1))=true then
   (F.s_Keyword r0.1.Text).bind fun(r1:Bool×Unit) =>
   if(!r1.1)=true then
    (F.s_l8Named r0.2.1).bind fun(r2:bw×bN×Unit) =>
    (F.s_l8Sign r2.2.1 [61]).bind fun(r3:Bool×bN×Unit) =>
    if r3.1=true then
     F.s_l8E_L1 26 r3.2.1 0 0 [] [] r2.1
    else
     (F.s_l8Sign r3.2.1 [43,61]).bind fun(r4:Bool×bN×Unit) =>
     if r4.1=true then
      F.s_l8E_L1 27 r4.2.1 0 0 [] [] r2.1
     else
      F.s_l8E_L1 0 r4.2.1 0 0 [] [] r2.1
   else
    (F.s_l8Level r0.2.1 0).bind fun(r5:bw×bN×Unit) =>
    some (r5.1,r5.2.1,())
  else
   (F.s_l8Level r0.2.1 0).bind fun(r6:bw×bN×Unit) =>
   some (r6.1,r6.2.1,())
 else
  (F.s_l8Level r0.2.1 0).bind fun(r7:bw×bN×Unit) =>
  some (r7.1,r7.2.1,())
def nF(F:FsBuild)(t5:Int)(s0:bN)(s32_0:Int)(s32_1:Int)(s32_2:(List Int))(s32_3:(List bw))(s64:bw):Option (bw×bN×Unit) :=
 if(decide (t5>0))=true then
  (F.s_l8Next s0).bind fun(r0:bN×Unit) =>
  (F.s_l8E r0.1).bind fun(r1:bw×bN×Unit) =>
  (F.s_l8Kids t5 [s64,r1.1]).bind fun(r2:(Int×(Int×((List Int)×((List bw)×Unit))))×Unit) =>
  some ((bw.mk r2.1.1 r2.1.2.1 r2.1.2.2.1 r2.1.2.2.2.1),r1.2.1,())
 else
  (F.s_l8Level (bN.mk s0.list s0.at_ s0.bad true s64) 0).bind fun(r3:bw×bN×Unit) =>
  some (r3.1,r3.2.1,())
def nJ(F:FsBuild)(t0:Int)(t1:(List bw)):Option ((Int×(Int×((List Int)×((List bw)×Unit))))×Unit) :=
 if 0+List.length t1≤room then
  some ((t0,(0,([],((List.append [] t1),())))),())
 else none
def lB(F:FsBuild)(t0:(List bE)):Option (Bool×Unit) :=
 F.s_Tidy_L1 t0 0
def lC(F:FsBuild)(t0:(List bE))(t3:Int):Option (Bool×Unit) :=
 if(decide (t3<(List.length t0:Int)))=true then
  if(0:Int)≤t3∧t3<(List.length t0:Int) then
   if(decide ((((List.getD t0 t3.toNat bV).Pat).Op)=0))=true then
    if(decide ((((List.getD t0 t3.toNat bV).Pat).N)=0))=true then
     if(decide ((((List.getD t0 t3.toNat bV).Pat).S)=[]))=true then
      (F.s_l1In ((List.getD t0 t3.toNat bV).Kind) 1 2).bind fun(r0:Bool×Unit) =>
      if r0.1=true then
       if(decide ((List.length (((List.getD t0 t3.toNat bV).Pat).Kids):Int)=0))=true then
        if(!(decide ((((List.getD t0 t3.toNat bV).Body).Op)=29)))=true then
         some (false,())
        else
         (F.s_Deep ((List.getD t0 t3.toNat bV).Body)).bind fun(r1:Int×Unit) =>
         if(decide (r1.1>16))=true then
          some (false,())
         else
          (F.s_l9Node ((List.getD t0 t3.toNat bV).Body)).bind fun(r2:Bool×Unit) =>
          if(!r2.1)=true then
           some (false,())
          else
           F.s_Tidy_L1 t0 (w64 (t3+1))
       else
        if(decide (((List.getD t0 t3.toNat bV).Kind)=3))=true then
         (F.s_l9IsE (((List.getD t0 t3.toNat bV).Pat).Op)).bind fun(r3:Bool×Unit) =>
         if r3.1=true then
          (F.s_l9Node ((List.getD t0 t3.toNat bV).Pat)).bind fun(r4:Bool×Unit) =>
          if r4.1=true then
           (F.s_Deep ((List.getD t0 t3.toNat bV).Pat)).bind fun(r5:Int×Unit) =>
           if(!(decide (r5.1≤16)))=true then
            some (false,())
           else
            if(!(decide ((((List.getD t0 t3.toNat bV).Body).Op)=29)))=true then
             some (false,())
            else
             (F.s_Deep ((List.getD t0 t3.toNat bV).Body)).bind fun(r6:Int×Unit) =>
             if(decide (r6.1>16))=true then
              some (false,())
             else
              (F.s_l9Node ((List.getD t0 t3.toNat bV).Body)).bind fun(r7:Bool×Unit) =>
              if(!r7.1)=true then
               some (false,())
              else
               F.s_Tidy_L1 t0 (w64 (t3+1))
          else
           some (false,())
         else
          some (false,())
        else
         some (false,())
      else
       if(decide (((List.getD t0 t3.toNat bV).Kind)=3))=true then
        (F.s_l9IsE (((List.getD t0 t3.toNat bV).Pat).Op)).bind fun(r8:Bool×Unit) =>
        if r8.1=true then
         (F.s_l9Node ((List.getD t0 t3.toNat bV).Pat)).bind fun(r9:Bool×Unit) =>
         if r9.1=true then
          (F.s_Deep ((List.getD t0 t3.toNat bV).Pat)).bind fun(r10:Int×Unit) =>
          if(!(decide (r10.1≤16)))=true then
           some (false,())
          else
           if(!(decide ((((List.getD t0 t3.toNat bV).Body).Op)=29)))=true then
            some (false,())
           else
            (F.s_Deep ((List.getD t0 t3.toNat bV).Body)).bind fun(r11:Int×Unit) =>
            if(decide (r11.1>16))=true then
             some (false,())
            else
             (F.s_l9Node ((List.getD t0 t3.toNat bV).Body)).bind fun(r12:Bool×Unit) =>
             if(!r12.1)=true then
              some (false,())
             else
              F.s_Tidy_L1 t0 (w64 (t3+1))
         else
          some (false,())
        else
         some (false,())
       else
        some (false,())
     else
      (F.s_l1In ((List.getD t0 t3.toNat bV).Kind) 1 2).bind fun(r13:Bool×Unit) =>
      if r13.1=true then
       if(decide (((List.getD t0 t3.toNat bV).Kind)=3))=true then
        (F.s_l9IsE (((List.getD t0 t3.toNat bV).Pat).Op)).bind fun(r14:Bool×Unit) =>
        if r14.1=true then
         (F.s_l9Node ((List.getD t0 t3.toNat bV).Pat)).bind fun(r15:Bool×Unit) =>
         if r15.1=true then
          (F.s_Deep ((List.getD t0 t3.toNat bV).Pat)).bind fun(r16:Int×Unit) =>
          if(!(decide (r16.1≤16)))=true then
           some (false,())
          else
           if(!(decide ((((List.getD t0 t3.toNat bV).Body).Op)=29)))=true then
            some (false,())
           else
            (F.s_Deep ((List.getD t0 t3.toNat bV).Body)).bind fun(r17:Int×Unit) =>
            if(decide (r17.1>16))=true then
             some (false,())
            else
             (F.s_l9Node ((List.getD t0 t3.toNat bV).Body)).bind fun(r18:Bool×Unit) =>
             if(!r18.1)=true then
              some (false,())
             else
              F.s_Tidy_L1 t0 (w64 (t3+1))
         else
          some (false,())
        else
         some (false,())
       else
        some (false,())
      else
       if(decide (((List.getD t0 t3.toNat bV).Kind)=3))=true then
        (F.s_l9IsE (((List.getD t0 t3.toNat bV).Pat).Op)).bind fun(r19:Bool×Unit) =>
        if r19.1=true then
         (F.s_l9Node ((List.getD t0 t3.toNat bV).Pat)).bind fun(r20:Bool×Unit) =>
         if r20.1=true then
          (F.s_Deep ((List.getD t0 t3.toNat bV).Pat)).bind fun(r21:Int×Unit) =>
          if(!(decide (r21.1≤16)))=true then
           some (false,())
          else
           if(!(decide ((((List.getD t0 t3.toNat bV).Body).Op)=29)))=true then
            some (false,())
           else
            (F.s_Deep ((List.getD t0 t3.toNat bV).Body)).bind fun(r22:Int×Unit) =>
            if(decide (r22.1>16))=true then
             some (false,())
            else
             (F.s_l9Node ((List.getD t0 t3.toNat bV).Body)).bind fun(r23:Bool×Unit) =>
             if(!r23.1)=true then
              some (false,())
             else
              F.s_Tidy_L1 t0 (w64 (t3+1))
         else
          some (false,())
        else
         some (false,())
       else
        some (false,())
    else
     (F.s_l1In ((List.getD t0 t3.toNat bV).Kind) 1 2).bind fun(r24:Bool×Unit) =>
     if r24.1=true then
      if(decide (((List.getD t0 t3.toNat bV).Kind)=3))=true then
       (F.s_l9IsE (((List.getD t0 t3.toNat bV).Pat).Op)).bind fun(r25:Bool×Unit) =>
       if r25.1=true then
        (F.s_l9Node ((List.getD t0 t3.toNat bV).Pat)).bind fun(r26:Bool×Unit) =>
        if r26.1=true then
         (F.s_Deep ((List.getD t0 t3.toNat bV).Pat)).bind fun(r27:Int×Unit) =>
         if(!(decide (r27.1≤16)))=true then
          some (false,())
         else
          if(!(decide ((((List.getD t0 t3.toNat bV).Body).Op)=29)))=true then
           some (false,())
          else
           (F.s_Deep ((List.getD t0 t3.toNat bV).Body)).bind fun(r28:Int×Unit) =>
           if(decide (r28.1>16))=true then
            some (false,())
           else
            (F.s_l9Node ((List.getD t0 t3.toNat bV).Body)).bind fun(r29:Bool×Unit) =>
            if(!r29.1)=true then
             some (false,())
            else
             F.s_Tidy_L1 t0 (w64 (t3+1))
        else
         some (false,())
       else
        some (false,())
      else
       some (false,())
     else
      if(decide (((List.getD t0 t3.toNat bV).Kind)=3))=true then
       (F.s_l9IsE (((List.getD t0 t3.toNat bV).Pat).Op)).bind fun(r30:Bool×Unit) =>
       if r30.1=true then
        (F.s_l9Node ((List.getD t0 t3.toNat bV).Pat)).bind fun(r31:Bool×Unit) =>
        if r31.1=true then
         (F.s_Deep ((List.getD t0 t3.toNat bV).Pat)).bind fun(r32:Int×Unit) =>
         if(!(decide (r32.1≤16)))=true then
          some (false,())
         else
          if(!(decide ((((List.getD t0 t3.toNat bV).Body).Op)=29)))=true then
           some (false,())
          else
           (F.s_Deep ((List.getD t0 t3.toNat bV).Body)).bind fun(r33:Int×Unit) =>
           if(decide (r33.1>16))=true then
            some (false,())
           else
            (F.s_l9Node ((List.getD t0 t3.toNat bV).Body)).bind fun(r34:Bool×Unit) =>
            if(!r34.1)=true then
             some (false,())
            else
             F.s_Tidy_L1 t0 (w64 (t3+1))
        else
         some (false,())
       else
        some (false,())
      else
       some (false,())
   else
    (F.s_l1In ((List.getD t0 t3.toNat bV).Kind) 1 2).bind fun(r35:Bool×Unit) =>
    if r35.1=true then
     if(decide (((List.getD t0 t3.toNat bV).Kind)=3))=true then
      (F.s_l9IsE (((List.getD t0 t3.toNat bV).Pat).Op)).bind fun(r36:Bool×Unit) =>
      if r36.1=true then
       (F.s_l9Node ((List.getD t0 t3.toNat bV).Pat)).bind fun(r37:Bool×Unit) =>
       if r37.1=true then
        (F.s_Deep ((List.getD t0 t3.toNat bV).Pat)).bind fun(r38:Int×Unit) =>
        if(!(decide (r38.1≤16)))=true then
         some (false,())
        else
         if(!(decide ((((List.getD t0 t3.toNat bV).Body).Op)=29)))=true then
          some (false,())
         else
          (F.s_Deep ((List.getD t0 t3.toNat bV).Body)).bind fun(r39:Int×Unit) =>
          if(decide (r39.1>16))=true then
           some (false,())
          else
           (F.s_l9Node ((List.getD t0 t3.toNat bV).Body)).bind fun(r40:Bool×Unit) =>
           if(!r40.1)=true then
            some (false,())
           else
            F.s_Tidy_L1 t0 (w64 (t3+1))
       else
        some (false,())
      else
       some (false,())
     else
      some (false,())
    else
     if(decide (((List.getD t0 t3.toNat bV).Kind)=3))=true then
      (F.s_l9IsE (((List.getD t0 t3.toNat bV).Pat).Op)).bind fun(r41:Bool×Unit) =>
      if r41.1=true then
       (F.s_l9Node ((List.getD t0 t3.toNat bV).Pat)).bind fun(r42:Bool×Unit) =>
       if r42.1=true then
        (F.s_Deep ((List.getD t0 t3.toNat bV).Pat)).bind fun(r43:Int×Unit) =>
        if(!(decide (r43.1≤16)))=true then
         some (false,())
        else
         if(!(decide ((((List.getD t0 t3.toNat bV).Body).Op)=29)))=true then
          some (false,())
         else
          (F.s_Deep ((List.getD t0 t3.toNat bV).Body)).bind fun(r44:Int×Unit) =>
          if(decide (r44.1>16))=true then
           some (false,())
          else
           (F.s_l9Node ((List.getD t0 t3.toNat bV).Body)).bind fun(r45:Bool×Unit) =>
           if(!r45.1)=true then
            some (false,())
           else
            F.s_Tidy_L1 t0 (w64 (t3+1))
       else
        some (false,())
      else
       some (false,())
     else
      some (false,())
  else none
 else
  some (true,())
def lJ(F:FsBuild)(t0:bw):Option (Bool×Unit) :=
 if(decide (t0.Op=6))=true then
  some (true,())
 else
  if(decide (t0.Op=7))=true then
   some (true,())
  else
   if(decide (t0.Op=8))=true then
    some (true,())
   else
    if(decide (t0.Op=33))=true then
     some (true,())
    else
     if(decide (t0.Op=3))=true then
      some (true,())
     else
      F.s_l10Line_L1 0 t0
def lK(F:FsBuild)(t3:Int)(s16:bw):Option (Bool×Unit) :=
 if(decide (t3<(List.length s16.Kids:Int)))=true then
  if(decide (s16.Op=21))=true then
   if(decide (t3=1))=true then
    if(0:Int)≤t3∧t3<(List.length s16.Kids:Int) then
     if(decide (((List.getD s16.Kids t3.toNat cl).Op)=3))=true then
      F.s_l10Line_L1 (w64 (t3+1)) s16
     else
      if(0:Int)≤t3∧t3<(List.length s16.Kids:Int) then
       (F.s_l10Line (List.getD s16.Kids t3.toNat cl)).bind fun(r0:Bool×Unit) =>
       if r0.1=true then
        some (true,())
       else
        F.s_l10Line_L1 (w64 (t3+1)) s16
      else none
    else none
   else
    if(0:Int)≤t3∧t3<(List.length s16.Kids:Int) then
     (F.s_l10Line (List.getD s16.Kids t3.toNat cl)).bind fun(r1:Bool×Unit) =>
     if r1.1=true then
      some (true,())
     else
      F.s_l10Line_L1 (w64 (t3+1)) s16
    else none
  else
   if(0:Int)≤t3∧t3<(List.length s16.Kids:Int) then
    (F.s_l10Line (List.getD s16.Kids t3.toNat cl)).bind fun(r2:Bool×Unit) =>
    if r2.1=true then
     some (true,())
    else
     F.s_l10Line_L1 (w64 (t3+1)) s16
   else none
 else
  some (false,())
def lG(F:FsBuild)(t0:bw):Option (Bool×Unit) :=
 if(decide (t0.Op=28))=true then
  if(decide (t0.S=[105,110,100,101,120]))=true then
   if(!(decide ((List.length t0.Kids:Int)=2)))=true then
    some (false,())
   else
    F.s_l10Args_L1 (List.length t0.Kids:Int) t0
  else
   if(decide (t0.S=[115,117,98,115,116,114]))=true then
    if(!(decide ((List.length t0.Kids:Int)=2)))=true then
     if(!(decide ((List.length t0.Kids:Int)=3)))=true then
      some (false,())
     else
      F.s_l10Args_L1 (List.length t0.Kids:Int) t0
    else
     F.s_l10Args_L1 (List.length t0.Kids:Int) t0
   else
    if(!(decide ((List.length t0.Kids:Int)=1)))=true then
     some (false,())
    else
     F.s_l10Args_L1 (List.length t0.Kids:Int) t0
 else
  F.s_l10Args_L1 (List.length t0.Kids:Int) t0
def lH(F:FsBuild)(t3:Int)(s16:bw):Option (Bool×Unit) :=
 F.s_l10Args_L2 t3 0 s16
def lI(F:FsBuild)(t3:Int)(t4:Int)(s16:bw):Option (Bool×Unit) :=
 if(decide (t4<t3))=true then
  if(0:Int)≤t4∧t4<(List.length s16.Kids:Int) then
   (F.s_l10Args (List.getD s16.Kids t4.toNat cl)).bind fun(r0:Bool×Unit) =>
   if(!r0.1)=true then
    some (false,())
   else
    F.s_l10Args_L2 t3 (w64 (t4+1)) s16
  else none
 else
  some (true,())
def lQ(F:FsBuild)(t0:bw):Option (Bool×Unit) :=
 if(decide (t0.Op=3))=true then
  (F.s_RexParse t0.S).bind fun(r0:bD×Bool×Unit) =>
  some (r0.2.1,())
 else
  if(decide (t0.Op=21))=true then
   if(0:Int)≤1∧(1:Int)<(List.length t0.Kids:Int) then
    if(!(decide (((List.getD t0.Kids 1 cl).Op)=3)))=true then
     some (false,())
    else
     F.s_l10Rexes_L1 0 t0
   else none
  else
   F.s_l10Rexes_L1 0 t0
def lR(F:FsBuild)(t5:Int)(s16:bw):Option (Bool×Unit) :=
 if(decide (t5<(List.length s16.Kids:Int)))=true then
  if(0:Int)≤t5∧t5<(List.length s16.Kids:Int) then
   (F.s_l10Rexes (List.getD s16.Kids t5.toNat cl)).bind fun(r0:Bool×Unit) =>
   if(!r0.1)=true then
    some (false,())
   else
    F.s_l10Rexes_L1 (w64 (t5+1)) s16
  else none
 else
  some (true,())
def lL(F:FsBuild)(t0:bw)(t1:(List (List Int)))(t2:(List (List Int))):Option ((List (List Int))×(List (List Int))×Unit) :=
 if(decide (t0.Op=4))=true then
  (F.s_l10Put t1 t0.S).bind fun(r0:(List (List Int))×Unit) =>
  F.s_l10Names_L1 r0.1 t2 t0
 else
  if(decide (t0.Op=5))=true then
   if(decide (t0.Op=5))=true then
    (F.s_l10Put t2 t0.S).bind fun(r1:(List (List Int))×Unit) =>
    F.s_l10Names_L1 t1 r1.1 t0
   else
    F.s_l10Names_L1 t1 t2 t0
  else
   if(decide (t0.Op=34))=true then
    (F.s_l10Put t2 t0.S).bind fun(r2:(List (List Int))×Unit) =>
    F.s_l10Names_L1 t1 r2.1 t0
   else
    F.s_l10Names_L1 t1 t2 t0
def lM(F:FsBuild)(t1:(List (List Int)))(t2:(List (List Int)))(s48:bw):Option ((List (List Int))×(List (List Int))×Unit) :=
 F.s_l10Names_L2 t1 t2 0 s48
def lN(F:FsBuild)(t1:(List (List Int)))(t2:(List (List Int)))(t8:Int)(s48:bw):Option ((List (List Int))×(List (List Int))×Unit) :=
 if(decide (t8<(List.length s48.Kids:Int)))=true then
  if(0:Int)≤t8∧t8<(List.length s48.Kids:Int) then
   (F.s_l10Names (List.getD s48.Kids t8.toNat cl) t1 t2).bind fun(r0:(List (List Int))×(List (List Int))×Unit) =>
   F.s_l10Names_L2 r0.1 r0.2.1 (w64 (t8+1)) s48
  else none
 else
  some (t1,t2,())
def mi(F:FsBuild)(s0_0:(List (List Int)))(s0_1:(List (List Int)))(s0_2:(List bz))(t1:bw):Option (((List (List Int))×((List (List Int))×((List bz)×Unit)))×Unit) :=
 if(decide (t1.Op=29))=true then
  (F.s_l14Block s0_0 s0_1 s0_2 t1).bind fun(r0:((List (List Int))×((List (List Int))×((List bz)×Unit)))×Unit) =>
  some ((r0.1.1,(r0.1.2.1,(r0.1.2.2.1,()))),())
 else
  if(decide (t1.Op=30))=true then
   (F.s_l14Print s0_0 s0_1 s0_2 t1).bind fun(r1:((List (List Int))×((List (List Int))×((List bz)×Unit)))×Unit) =>
   some ((r1.1.1,(r1.1.2.1,(r1.1.2.2.1,()))),())
  else
   if(decide (t1.Op=31))=true then
    (F.s_l14If s0_0 s0_1 s0_2 t1).bind fun(r2:((List (List Int))×((List (List Int))×((List bz)×Unit)))×Unit) =>
    some ((r2.1.1,(r2.1.2.1,(r2.1.2.2.1,()))),())
   else
    if(decide (t1.Op=32))=true then
     (F.s_l14While s0_0 s0_1 s0_2 t1).bind fun(r3:((List (List Int))×((List (List Int))×((List bz)×Unit)))×Unit) =>
     some ((r3.1.1,(r3.1.2.1,(r3.1.2.2.1,()))),())
    else
     if(decide (t1.Op=33))=true then
      (F.s_l14Put s0_0 s0_1 s0_2 36 0 []).bind fun(r4:Int×((List (List Int))×((List (List Int))×((List bz)×Unit)))×Unit) =>
      some ((r4.2.1.1,(r4.2.1.2.1,(r4.2.1.2.2.1,()))),())
     else
      if(decide (t1.Op=34))=true then
       if(0:Int)≤0∧(0:Int)<(List.length t1.Kids:Int) then
        (F.s_l14E s0_0 s0_1 s0_2 (List.getD t1.Kids 0 cl)).bind fun(r5:((List (List Int))×((List (List Int))×((List bz)×Unit)))×Unit) =>
        (F.s_l12Where r5.1.2.1 t1.S).bind fun(r6:Int×Unit) =>
        (F.s_l14Put r5.1.1 r5.1.2.1 r5.1.2.2.1 35 r6.1 []).bind fun(r7:Int×((List (List Int))×((List (List Int))×((List bz)×Unit)))×Unit) =>
        some ((r7.2.1.1,(r7.2.1.2.1,(r7.2.1.2.2.1,()))),())
       else none
      else
       if(0:Int)≤0∧(0:Int)<(List.length t1.Kids:Int) then
        (F.s_l14E s0_0 s0_1 s0_2 (List.getD t1.Kids 0 cl)).bind fun(r8:((List (List Int))×((List (List Int))×((List bz)×Unit)))×Unit) =>
        (F.s_l14Put r8.1.1 r8.1.2.1 r8.1.2.2.1 32 0 []).bind fun(r9:Int×((List (List Int))×((List (List Int))×((List bz)×Unit)))×Unit) =>
        some ((r9.2.1.1,(r9.2.1.2.1,(r9.2.1.2.2.1,()))),())
       else none
def mh(F:FsBuild)(s0_0:(List (List Int)))(s0_1:(List (List Int)))(s0_2:(List bz))(t1:bw):Option (((List (List Int))×((List (List Int))×((List bz)×Unit)))×Unit) :=
 if(0:Int)≤0∧(0:Int)<(List.length t1.Kids:Int) then
  (F.s_l1Bit (decide (t1.Op=27))).bind fun(r0:Int×Unit) =>
  if(decide (((List.getD t1.Kids 0 cl).Op)=4))=true then
   if(0:Int)≤1∧(1:Int)<(List.length t1.Kids:Int) then
    (F.s_l14E s0_0 s0_1 s0_2 (List.getD t1.Kids 1 cl)).bind fun(r1:((List (List Int))×((List (List Int))×((List bz)×Unit)))×Unit) =>
    (F.s_l12Where r1.1.1 ((List.getD t1.Kids 0 cl).S)).bind fun(r2:Int×Unit) =>
    (F.s_l14Put r1.1.1 r1.1.2.1 r1.1.2.2.1 (w64 (4+r0.1)) r2.1 []).bind fun(r3:Int×((List (List Int))×((List (List Int))×((List bz)×Unit)))×Unit) =>
    some ((r3.2.1.1,(r3.2.1.2.1,(r3.2.1.2.2.1,()))),())
   else none
  else
   if(0:Int)≤0∧(0:Int)<(List.length ((List.getD t1.Kids 0 cl).Kids):Int) then
    (F.s_l14E s0_0 s0_1 s0_2 (List.getD ((List.getD t1.Kids 0 cl).Kids) 0 cl)).bind fun(r4:((List (List Int))×((List (List Int))×((List bz)×Unit)))×Unit) =>
    if(0:Int)≤1∧(1:Int)<(List.length t1.Kids:Int) then
     (F.s_l14E r4.1.1 r4.1.2.1 r4.1.2.2.1 (List.getD t1.Kids 1 cl)).bind fun(r5:((List (List Int))×((List (List Int))×((List bz)×Unit)))×Unit) =>
     (F.s_l12Where r5.1.2.1 ((List.getD t1.Kids 0 cl).S)).bind fun(r6:Int×Unit) =>
     (F.s_l14Put r5.1.1 r5.1.2.1 r5.1.2.2.1 (w64 (7+r0.1)) r6.1 []).bind fun(r7:Int×((List (List Int))×((List (List Int))×((List bz)×Unit)))×Unit) =>
     some ((r7.2.1.1,(r7.2.1.2.1,(r7.2.1.2.2.1,()))),())
    else none
   else none
 else none
def lZ(F:FsBuild)(s0_0:(List (List Int)))(s0_1:(List (List Int)))(s0_2:(List bz))(t1:bw):Option (((List (List Int))×((List (List Int))×((List bz)×Unit)))×Unit) :=
 if(0:Int)≤0∧(0:Int)<(List.length t1.Kids:Int) then
  (F.s_l14E s0_0 s0_1 s0_2 (List.getD t1.Kids 0 cl)).bind fun(r0:((List (List Int))×((List (List Int))×((List bz)×Unit)))×Unit) =>
  (F.s_l14Put r0.1.1 r0.1.2.1 r0.1.2.2.1 31 0 []).bind fun(r1:Int×((List (List Int))×((List (List Int))×((List bz)×Unit)))×Unit) =>
  if(0:Int)≤1∧(1:Int)<(List.length t1.Kids:Int) then
   (F.s_l14E r1.2.1.1 r1.2.1.2.1 r1.2.1.2.2.1 (List.getD t1.Kids 1 cl)).bind fun(r2:((List (List Int))×((List (List Int))×((List bz)×Unit)))×Unit) =>
   (F.s_l14Put r2.1.1 r2.1.2.1 r2.1.2.2.1 28 0 []).bind fun(r3:Int×((List (List Int))×((List (List Int))×((List bz)×Unit)))×Unit) =>
   (F.s_l14Put r3.2.1.1 r3.2.1.2.1 r3.2.1.2.2.1 30 0 []).bind fun(r4:Int×((List (List Int))×((List (List Int))×((List bz)×Unit)))×Unit) =>
   if(0:Int)≤r1.1∧r1.1<(List.length r4.2.1.2.2.1:Int) then
    let v0:(List bz):=(List.set r4.2.1.2.2.1 r1.1.toNat (bz.mk ((List.getD r4.2.1.2.2.1 r1.1.toNat di).Code) (List.length r4.2.1.2.2.1:Int) ((List.getD r4.2.1.2.2.1 r1.1.toNat di).S)))
    (F.s_l14Put r4.2.1.1 r4.2.1.2.1 v0 1 0 []).bind fun(r5:Int×((List (List Int))×((List (List Int))×((List bz)×Unit)))×Unit) =>
    if(0:Int)≤r4.1∧r4.1<(List.length r5.2.1.2.2.1:Int) then
     let v1:(List bz):=(List.set r5.2.1.2.2.1 r4.1.toNat (bz.mk ((List.getD r5.2.1.2.2.1 r4.1.toNat di).Code) (List.length r5.2.1.2.2.1:Int) ((List.getD r5.2.1.2.2.1 r4.1.toNat di).S)))
     some ((r5.2.1.1,(r5.2.1.2.1,(v1,()))),())
    else none
   else none
  else none
 else none
def mc(F:FsBuild)(s0_0:(List (List Int)))(s0_1:(List (List Int)))(s0_2:(List bz))(t1:bw):Option (((List (List Int))×((List (List Int))×((List bz)×Unit)))×Unit) :=
 if(0:Int)≤0∧(0:Int)<(List.length t1.Kids:Int) then
  (F.s_l14E s0_0 s0_1 s0_2 (List.getD t1.Kids 0 cl)).bind fun(r0:((List (List Int))×((List (List Int))×((List bz)×Unit)))×Unit) =>
  (F.s_l14Put r0.1.1 r0.1.2.1 r0.1.2.2.1 31 0 []).bind fun(r1:Int×((List (List Int))×((List (List Int))×((List bz)×Unit)))×Unit) =>
  (F.s_l14Put r1.2.1.1 r1.2.1.2.1 r1.2.1.2.2.1 1 1000000 []).bind fun(r2:Int×((List (List Int))×((List (List Int))×((List bz)×Unit)))×Unit) =>
  (F.s_l14Put r2.2.1.1 r2.2.1.2.1 r2.2.1.2.2.1 30 0 []).bind fun(r3:Int×((List (List Int))×((List (List Int))×((List bz)×Unit)))×Unit) =>
  if(0:Int)≤r1.1∧r1.1<(List.length r3.2.1.2.2.1:Int) then
   let v0:(List bz):=(List.set r3.2.1.2.2.1 r1.1.toNat (bz.mk ((List.getD r3.2.1.2.2.1 r1.1.toNat di).Code) (List.length r3.2.1.2.2.1:Int) ((List.getD r3.2.1.2.2.1 r1.1.toNat di).S)))
   if(0:Int)≤1∧(1:Int)<(List.length t1.Kids:Int) then
    (F.s_l14E r3.2.1.1 r3.2.1.2.1 v0 (List.getD t1.Kids 1 cl)).bind fun(r4:((List (List Int))×((List (List Int))×((List bz)×Unit)))×Unit) =>
    (F.s_l14Put r4.1.1 r4.1.2.1 r4.1.2.2.1 28 0 []).bind fun(r5:Int×((List (List Int))×((List (List Int))×((List bz)×Unit)))×Unit) =>
    if(0:Int)≤r3.1∧r3.1<(List.length r5.2.1.2.2.1:Int) then
     let v1:(List bz):=(List.set r5.2.1.2.2.1 r3.1.toNat (bz.mk ((List.getD r5.2.1.2.2.1 r3.1.toNat di).Code) (List.length r5.2.1.2.2.1:Int) ((List.getD r5.2.1.2.2.1 r3.1.toNat di).S)))
     some ((r5.2.1.1,(r5.2.1.2.1,(v1,()))),())
    else none
   else none
  else none
 else none
def mb(F:FsBuild)(s0_0:(List (List Int)))(s0_1:(List (List Int)))(s0_2:(List bz))(t1:bw):Option (((List (List Int))×((List (List Int))×((List bz)×Unit)))×Unit) :=
 if(decide (t1.Op=1))=true then
  (F.s_l14Put s0_0 s0_1 s0_2 1 t1.N []).bind fun(r0:Int×((List (List Int))×((List (List Int))×((List bz)×Unit)))×Unit) =>
  some ((r0.2.1.1,(r0.2.1.2.1,(r0.2.1.2.2.1,()))),())
 else
  if(decide (t1.Op=2))=true then
   (F.s_l14Put s0_0 s0_1 s0_2 2 0 t1.S).bind fun(r1:Int×((List (List Int))×((List (List Int))×((List bz)×Unit)))×Unit) =>
   some ((r1.2.1.1,(r1.2.1.2.1,(r1.2.1.2.2.1,()))),())
  else
   if(decide (t1.Op=3))=true then
    (F.s_l14Put s0_0 s0_1 s0_2 25 0 t1.S).bind fun(r2:Int×((List (List Int))×((List (List Int))×((List bz)×Unit)))×Unit) =>
    some ((r2.2.1.1,(r2.2.1.2.1,(r2.2.1.2.2.1,()))),())
   else
    if(decide (t1.Op=4))=true then
     (F.s_l12Where s0_0 t1.S).bind fun(r3:Int×Unit) =>
     (F.s_l14Put s0_0 s0_1 s0_2 3 r3.1 []).bind fun(r4:Int×((List (List Int))×((List (List Int))×((List bz)×Unit)))×Unit) =>
     some ((r4.2.1.1,(r4.2.1.2.1,(r4.2.1.2.2.1,()))),())
    else
     if(decide (t1.Op=5))=true then
      (F.s_l12Where s0_1 t1.S).bind fun(r5:Int×Unit) =>
      (F.s_l14Put s0_0 s0_1 s0_2 6 r5.1 []).bind fun(r6:Int×((List (List Int))×((List (List Int))×((List bz)×Unit)))×Unit) =>
      some ((r6.2.1.1,(r6.2.1.2.1,(r6.2.1.2.2.1,()))),())
     else
      if(decide (t1.Op=6))=true then
       (F.s_l14Put s0_0 s0_1 s0_2 9 0 []).bind fun(r7:Int×((List (List Int))×((List (List Int))×((List bz)×Unit)))×Unit) =>
       some ((r7.2.1.1,(r7.2.1.2.1,(r7.2.1.2.2.1,()))),())
      else
       if(decide (t1.Op=7))=true then
        (F.s_l14Put s0_0 s0_1 s0_2 10 0 []).bind fun(r8:Int×((List (List Int))×((List (List Int))×((List bz)×Unit)))×Unit) =>
        some ((r8.2.1.1,(r8.2.1.2.1,(r8.2.1.2.2.1,()))),())
       else
        if(decide (t1.Op=8))=true then
         (F.s_l14Put s0_0 s0_1 s0_2 11 0 []).bind fun(r9:Int×((List (List Int))×((List (List Int))×((List bz)×Unit)))×Unit) =>
         some ((r9.2.1.1,(r9.2.1.2.1,(r9.2.1.2.2.1,()))),())
        else
         if(decide (t1.Op=22))=true then
          (F.s_l14Put s0_0 s0_1 s0_2 26 0 []).bind fun(r10:Int×((List (List Int))×((List (List Int))×((List bz)×Unit)))×Unit) =>
          some ((r10.2.1.1,(r10.2.1.2.1,(r10.2.1.2.2.1,()))),())
         else
          if(decide (t1.Op=23))=true then
           (F.s_l14Put s0_0 s0_1 s0_2 27 0 []).bind fun(r11:Int×((List (List Int))×((List (List Int))×((List bz)×Unit)))×Unit) =>
           some ((r11.2.1.1,(r11.2.1.2.1,(r11.2.1.2.2.1,()))),())
          else
           if(decide (t1.Op=28))=true then
            (F.s_l14Put s0_0 s0_1 s0_2 29 (List.length t1.Kids:Int) t1.S).bind fun(r12:Int×((List (List Int))×((List (List Int))×((List bz)×Unit)))×Unit) =>
            some ((r12.2.1.1,(r12.2.1.2.1,(r12.2.1.2.2.1,()))),())
           else
            (F.s_l14Put s0_0 s0_1 s0_2 (w64 ((w64 (12+t1.Op))-9)) 0 []).bind fun(r13:Int×((List (List Int))×((List (List Int))×((List bz)×Unit)))×Unit) =>
            some ((r13.2.1.1,(r13.2.1.2.1,(r13.2.1.2.2.1,()))),())
def mZ(F:FsBuild) :Option ((List (List Int))×Unit) :=
 some ([[108,101,110,103,116,104],[115,117,98,115,116,114],[105,110,100,101,120],[105,110,116],[117,112,112,101,114],[108,111,119,101,114]],())
def lh(F:FsBuild)(t0:Int):Option (Bool×Unit) :=
 (F.s_l1In t0 (-9000000000000) 9000000000000).bind fun(r0:Bool×Unit) =>
 some (r0.1,())
def lA(F:FsBuild)(t0:(List Int)):Option (bD×Bool×Unit) :=
 if(decide ((List.length t0:Int)>60))=true then
  some ((bD.mk 0 0 [] false []),false,())
 else
  (F.s_l3Pattern (bM.mk t0 0 false) 0).bind fun(r0:bD×bM×Unit) =>
  if r0.2.1.bad=true then
   some ((bD.mk 0 0 [] false []),false,())
  else
   if(!(decide (r0.2.1.at_=(List.length t0:Int))))=true then
    some ((bD.mk 0 0 [] false []),false,())
   else
    (F.s_l3Deep r0.1).bind fun(r1:Int×Unit) =>
    if(decide (r1.1>12))=true then
     some ((bD.mk 0 0 [] false []),false,())
    else
     some (r0.1,true,())
def mo(F:FsBuild)(t0:Int):Option (Bool×Unit) :=
 if(decide (t0≥48))=true then
  some ((decide (t0≤57)),())
 else
  some (false,())
def m8(F:FsBuild)(t0:(List Int))(t1:Int):Option (Int×Int×Bool×Unit) :=
 F.s_l7Number_L1 t0 t1 t1
def m9(F:FsBuild)(t0:(List Int))(t1:Int)(t7:Int):Option (Int×Int×Bool×Unit) :=
 if(decide (t7<(List.length t0:Int)))=true then
  if(0:Int)≤t7∧t7<(List.length t0:Int) then
   (F.s_l2Digit (List.getD t0 t7.toNat 0)).bind fun(r0:Bool×Unit) =>
   if r0.1=true then
    F.s_l7Number_L1 t0 t1 (w64 (t7+1))
   else
    if(decide ((w64 (t7+1))<(List.length t0:Int)))=true then
     if(0:Int)≤t7∧t7<(List.length t0:Int) then
      if(decide ((List.getD t0 t7.toNat 0)=46))=true then
       if(0:Int)≤(w64 (t7+1))∧(w64 (t7+1))<(List.length t0:Int) then
        (F.s_l2Digit (List.getD t0 (w64 (t7+1)).toNat 0)).bind fun(r1:Bool×Unit) =>
        if r1.1=true then
         F.s_l7Number_L2 t0 t1 (w64 (t7+1)) t7
        else
         F.s_l7Number_L3 t0 t1 t7
       else none
      else
       F.s_l7Number_L3 t0 t1 t7
     else none
    else
     F.s_l7Number_L3 t0 t1 t7
  else none
 else
  if(decide ((w64 (t7+1))<(List.length t0:Int)))=true then
   if(0:Int)≤t7∧t7<(List.length t0:Int) then
    if(decide ((List.getD t0 t7.toNat 0)=46))=true then
     if(0:Int)≤(w64 (t7+1))∧(w64 (t7+1))<(List.length t0:Int) then
      (F.s_l2Digit (List.getD t0 (w64 (t7+1)).toNat 0)).bind fun(r2:Bool×Unit) =>
      if r2.1=true then
       F.s_l7Number_L2 t0 t1 (w64 (t7+1)) t7
      else
       F.s_l7Number_L3 t0 t1 t7
     else none
    else
     F.s_l7Number_L3 t0 t1 t7
   else none
  else
   F.s_l7Number_L3 t0 t1 t7
def na(F:FsBuild)(t0:(List Int))(t1:Int)(t7:Int)(t8:Int):Option (Int×Int×Bool×Unit) :=
 if(decide (t7<(List.length t0:Int)))=true then
  if(0:Int)≤t7∧t7<(List.length t0:Int) then
   (F.s_l2Digit (List.getD t0 t7.toNat 0)).bind fun(r0:Bool×Unit) =>
   if r0.1=true then
    F.s_l7Number_L2 t0 t1 (w64 (t7+1)) t8
   else
    if(decide ((w64 (t7-t8))>7))=true then
     some (0,t7,false,())
    else
     F.s_l7Number_L3 t0 t1 t7
  else none
 else
  if(decide ((w64 (t7-t8))>7))=true then
   some (0,t7,false,())
  else
   F.s_l7Number_L3 t0 t1 t7
def nb(F:FsBuild)(t0:(List Int))(t1:Int)(t7:Int):Option (Int×Int×Bool×Unit) :=
 if(0:Int)≤t1∧t1≤t7∧t7≤(List.length t0:Int) then
  (F.s_DecFront (List.take (t7.toNat-t1.toNat) (List.drop t1.toNat t0))).bind fun(r0:Int×Int×Unit) =>
  some (r0.1,t7,(decide (r0.2.1=(w64 (t7-t1)))),())
 else none
def nn(F:FsBuild)(t0:(List Int))(t1:Int):Option ((List Int)×Int×Bool×Unit) :=
 F.s_l7Text_L1 t0 [] (w64 (t1+1))
def nq(F:FsBuild)(t0:(List Int))(t7:(List Int))(t8:Int):Option ((List Int)×Int×Bool×Unit) :=
 if(decide (t8<(List.length t0:Int)))=true then
  if(0:Int)≤t8∧t8<(List.length t0:Int) then
   if(decide ((List.getD t0 t8.toNat 0)=34))=true then
    some (t7,(w64 (t8+1)),true,())
   else
    if(decide ((List.getD t0 t8.toNat 0)=10))=true then
     some ([],0,false,())
    else
     if(decide ((List.getD t0 t8.toNat 0)=92))=true then
      if(decide ((w64 (t8+1))≥(List.length t0:Int)))=true then
       some ([],0,false,())
      else
       if(0:Int)≤(w64 (t8+1))∧(w64 (t8+1))<(List.length t0:Int) then
        if(decide ((List.getD t0 (w64 (t8+1)).toNat 0)=10))=true then
         some ([],0,false,())
        else
         if(0:Int)≤(w64 (t8+1))∧(w64 (t8+1))<(List.length t0:Int) then
          if List.length t7+1≤room then
           F.s_l7Text_L1 t0 (List.append t7 [(List.getD t0 (w64 (t8+1)).toNat 0)]) (w64 ((w64 (t8+1))+1))
          else none
         else none
       else none
     else
      if(0:Int)≤t8∧t8<(List.length t0:Int) then
       if List.length t7+1≤room then
        F.s_l7Text_L1 t0 (List.append t7 [(List.getD t0 t8.toNat 0)]) (w64 (t8+1))
       else none
      else none
  else none
 else
  some ([],0,false,())
def mY(F:FsBuild)(t0:(List bG)):Option (Bool×Unit) :=
 if(decide ((List.length t0:Int)=0))=true then
  some (false,())
 else
  if(0:Int)≤(w64 ((List.length t0:Int)-1))∧(w64 ((List.length t0:Int)-1))<(List.length t0:Int) then
   if(decide (((List.getD t0 (w64 ((List.length t0:Int)-1)).toNat gU).Kind)=5))=true then
    if(decide (((List.getD t0 (w64 ((List.length t0:Int)-1)).toNat gU).Text)=[41]))=true then
     some (true,())
    else
     if(decide (((List.getD t0 (w64 ((List.length t0:Int)-1)).toNat gU).Text)=[93]))=true then
      some (true,())
     else
      (F.s_l1In ((List.getD t0 (w64 ((List.length t0:Int)-1)).toNat gU).Kind) 1 4).bind fun(r0:Bool×Unit) =>
      some (r0.1,())
   else
    (F.s_l1In ((List.getD t0 (w64 ((List.length t0:Int)-1)).toNat gU).Kind) 1 4).bind fun(r1:Bool×Unit) =>
    some (r1.1,())
  else none
def nh(F:FsBuild)(t0:(List Int))(t1:Int):Option ((List Int)×Int×Bool×Unit) :=
 F.s_l7Rex_L1 t0 [] (w64 (t1+1))
def ni(F:FsBuild)(t0:(List Int))(t7:(List Int))(t8:Int):Option ((List Int)×Int×Bool×Unit) :=
 if(decide (t8<(List.length t0:Int)))=true then
  if(0:Int)≤t8∧t8<(List.length t0:Int) then
   if(decide ((List.getD t0 t8.toNat 0)=47))=true then
    some (t7,(w64 (t8+1)),true,())
   else
    if(decide ((List.getD t0 t8.toNat 0)=10))=true then
     some ([],0,false,())
    else
     if(decide ((List.getD t0 t8.toNat 0)=92))=true then
      if(decide ((w64 (t8+1))≥(List.length t0:Int)))=true then
       some ([],0,false,())
      else
       if(0:Int)≤(w64 (t8+1))∧(w64 (t8+1))<(List.length t0:Int) then
        if(decide ((List.getD t0 (w64 (t8+1)).toNat 0)=10))=true then
         some ([],0,false,())
        else
         if(0:Int)≤(w64 (t8+1))∧(w64 (t8+1))<(List.length t0:Int) then
          if(!(decide ((List.getD t0 (w64 (t8+1)).toNat 0)=47)))=true then
           if(0:Int)≤t8∧t8<(List.length t0:Int) then
            if List.length t7+1≤room then
             if(0:Int)≤(w64 (t8+1))∧(w64 (t8+1))<(List.length t0:Int) then
              if List.length (List.append t7 [(List.getD t0 t8.toNat 0)])+1≤room then
               F.s_l7Rex_L1 t0 (List.append (List.append t7 [(List.getD t0 t8.toNat 0)]) [(List.getD t0 (w64 (t8+1)).toNat 0)]) (w64 ((w64 (t8+1))+1))
              else none
             else none
            else none
           else none
          else
           if(0:Int)≤(w64 (t8+1))∧(w64 (t8+1))<(List.length t0:Int) then
            if List.length t7+1≤room then
             F.s_l7Rex_L1 t0 (List.append t7 [(List.getD t0 (w64 (t8+1)).toNat 0)]) (w64 ((w64 (t8+1))+1))
            else none
           else none
         else none
       else none
     else
      if(0:Int)≤t8∧t8<(List.length t0:Int) then
       if List.length t7+1≤room then
        F.s_l7Rex_L1 t0 (List.append t7 [(List.getD t0 t8.toNat 0)]) (w64 (t8+1))
       else none
      else none
  else none
 else
  some ([],0,false,())
def nj(F:FsBuild)(t0:(List Int))(t1:Int):Option ((List Int)×Unit) :=
 F.s_l7Sign_L1 t0 t1 [[61,61],[33,61],[60,61],[62,61],[38,38],[124,124],[43,61],[33,126],[40],[41],[123],[125],[91],[93],[44],[59],[61],[60],[62],[33],[126],[43],[45],[42],[47],[37],[36]] 0
def nk(F:FsBuild)(t0:(List Int))(t1:Int)(t5:(List (List Int)))(t6:Int):Option ((List Int)×Unit) :=
 if(decide (t6<(List.length t5:Int)))=true then
  if(0:Int)≤t6∧t6<(List.length t5:Int) then
   if(decide ((w64 (t1+(List.length (List.getD t5 t6.toNat []):Int)))≤(List.length t0:Int)))=true then
    if(0:Int)≤t1∧t1≤(w64 (t1+(List.length (List.getD t5 t6.toNat []):Int)))∧(w64 (t1+(List.length (List.getD t5 t6.toNat []):Int)))≤(List.length t0:Int) then
     if(0:Int)≤t6∧t6<(List.length t5:Int) then
      if(decide ((List.take ((w64 (t1+(List.length (List.getD t5 t6.toNat []):Int))).toNat-t1.toNat) (List.drop t1.toNat t0))=(List.getD t5 t6.toNat [])))=true then
       if(0:Int)≤t6∧t6<(List.length t5:Int) then
        some ((List.getD t5 t6.toNat []),())
       else none
      else
       F.s_l7Sign_L1 t0 t1 t5 (w64 (t6+1))
     else none
    else none
   else
    F.s_l7Sign_L1 t0 t1 t5 (w64 (t6+1))
  else none
 else
  some ([],())
def n6(F:FsBuild)(s0:bN)(t1:(List Int)):Option (bN×Unit) :=
 (F.s_l8Sign s0 t1).bind fun(r0:Bool×bN×Unit) =>
 if(!r0.1)=true then
  (F.s_l8Bad r0.2.1).bind fun(r1:bN×Unit) =>
  some (r1.1,())
 else
  (F.s_l8Next r0.2.1).bind fun(r2:bN×Unit) =>
  some (r2.1,())
def nZ(F:FsBuild)(s0:bN):Option (bw×bN×Unit) :=
 (F.s_l8Is s0 [105,102]).bind fun(r0:Bool×bN×Unit) =>
 if r0.1=true then
  (F.s_l8While r0.2.1 31).bind fun(r1:bw×bN×Unit) =>
  some (r1.1,r1.2.1,())
 else
  (F.s_l8Is r0.2.1 [119,104,105,108,101]).bind fun(r2:Bool×bN×Unit) =>
  if r2.1=true then
   (F.s_l8While r2.2.1 32).bind fun(r3:bw×bN×Unit) =>
   some (r3.1,r3.2.1,())
  else
   (F.s_l8Sign r2.2.1 [123]).bind fun(r4:Bool×bN×Unit) =>
   if r4.1=true then
    (F.s_l8Block r4.2.1).bind fun(r5:bw×bN×Unit) =>
    some (r5.1,r5.2.1,())
   else
    (F.s_l8Simple r4.2.1).bind fun(r6:bw×bN×Unit) =>
    (F.s_l8Sign r6.2.1 [125]).bind fun(r7:Bool×bN×Unit) =>
    if(!r7.1)=true then
     (F.s_l8Take r7.2.1 [59]).bind fun(r8:bN×Unit) =>
     some (r6.1,r8.1,())
    else
     some (r6.1,r7.2.1,())
def nQ(F:FsBuild)(s0:bN):Option (bw×bN×Unit) :=
 (F.s_l8Now s0).bind fun(r0:bG×bN×Unit) =>
 (F.s_l8Is r0.2.1 [78,82]).bind fun(r1:Bool×bN×Unit) =>
 if r1.1=true then
  (F.s_l8Next r1.2.1).bind fun(r2:bN×Unit) =>
  some ((bw.mk 7 0 [] []),r2.1,())
 else
  (F.s_l8Is r1.2.1 [78,70]).bind fun(r3:Bool×bN×Unit) =>
  if r3.1=true then
   (F.s_l8Next r3.2.1).bind fun(r4:bN×Unit) =>
   some ((bw.mk 8 0 [] []),r4.1,())
  else
   if(decide (r3.2.1.bad<0))=true then
    (F.s_l7Calls ).bind fun(r5:(List (List Int))×Unit) =>
    (F.s_l7Within r5.1 r0.1.Text).bind fun(r6:Bool×Unit) =>
    if r6.1=true then
     (F.s_l8Next r3.2.1).bind fun(r7:bN×Unit) =>
     (F.s_l8Take r7.1 [40]).bind fun(r8:bN×Unit) =>
     (F.s_l8Es r8.1 [41]).bind fun(r9:(List bw)×bN×Unit) =>
     (F.s_l8Take r9.2.1 [41]).bind fun(r10:bN×Unit) =>
     some ((bw.mk 28 0 r0.1.Text r9.1),r10.1,())
    else
     (F.s_l8Name r3.2.1).bind fun(r11:(List Int)×bN×Unit) =>
     (F.s_l8Sign r11.2.1 [91]).bind fun(r12:Bool×bN×Unit) =>
     if(!r12.1)=true then
      some ((bw.mk 4 0 r11.1 []),r12.2.1,())
     else
      (F.s_l8Next r12.2.1).bind fun(r13:bN×Unit) =>
      (F.s_l8E r13.1).bind fun(r14:bw×bN×Unit) =>
      (F.s_l8Take r14.2.1 [93]).bind fun(r15:bN×Unit) =>
      some ((bw.mk 5 0 r11.1 [r14.1]),r15.1,())
   else
    (F.s_l8Name r3.2.1).bind fun(r16:(List Int)×bN×Unit) =>
    (F.s_l8Sign r16.2.1 [91]).bind fun(r17:Bool×bN×Unit) =>
    if(!r17.1)=true then
     some ((bw.mk 4 0 r16.1 []),r17.2.1,())
    else
     (F.s_l8Next r17.2.1).bind fun(r18:bN×Unit) =>
     (F.s_l8E r18.1).bind fun(r19:bw×bN×Unit) =>
     (F.s_l8Take r19.2.1 [93]).bind fun(r20:bN×Unit) =>
     some ((bw.mk 5 0 r16.1 [r19.1]),r20.1,())
def nO(F:FsBuild)(s0:bN)(t1:Int):Option (bw×bN×Unit) :=
 if(decide (t1=3))=true then
  (F.s_l8Compare s0).bind fun(r0:bw×bN×Unit) =>
  some (r0.1,r0.2.1,())
 else
  if(decide (t1=4))=true then
   (F.s_l8Row s0).bind fun(r1:bw×bN×Unit) =>
   some (r1.1,r1.2.1,())
  else
   if(decide (t1=7))=true then
    (F.s_l8Unit s0).bind fun(r2:bw×bN×Unit) =>
    some (r2.1,r2.2.1,())
   else
    (F.s_l8Left s0 t1).bind fun(r3:bw×bN×Unit) =>
    some (r3.1,r3.2.1,())
def ov(F:FsBuild)(t0:bw):Option (Bool×Unit) :=
 (F.s_l9Kids t0).bind fun(r0:Bool×Unit) =>
 if(!r0.1)=true then
  some (false,())
 else
  (F.s_l1In t0.Op 1 35).bind fun(r1:Bool×Unit) =>
  if(!r1.1)=true then
   some (false,())
  else
   if(!(decide (t0.N=0)))=true then
    if(!(decide (t0.Op=1)))=true then
     some (false,())
    else
     if(decide (t0.Op=1))=true then
      if(decide (t0.S=[]))=true then
       (F.s_l1In t0.N 0 9000000000000).bind fun(r2:Bool×Unit) =>
       some (r2.1,())
      else
       some (false,())
     else
      if(decide (t0.Op=2))=true then
       (F.s_l9Line t0.S).bind fun(r3:Bool×Unit) =>
       some (r3.1,())
      else
       if(decide (t0.Op=3))=true then
        (F.s_l9Rex t0.S).bind fun(r4:Bool×Unit) =>
        some (r4.1,())
       else
        if(decide (t0.Op=4))=true then
         F.s_l9Node_L1 t0.Op (decide (t0.Op=4)) t0
        else
         if(decide (t0.Op=5))=true then
          F.s_l9Node_L1 t0.Op (decide (t0.Op=5)) t0
         else
          F.s_l9Node_L1 t0.Op (decide (t0.Op=34)) t0
   else
    if(decide (t0.Op=1))=true then
     if(decide (t0.S=[]))=true then
      (F.s_l1In t0.N 0 9000000000000).bind fun(r5:Bool×Unit) =>
      some (r5.1,())
     else
      some (false,())
    else
     if(decide (t0.Op=2))=true then
      (F.s_l9Line t0.S).bind fun(r6:Bool×Unit) =>
      some (r6.1,())
     else
      if(decide (t0.Op=3))=true then
       (F.s_l9Rex t0.S).bind fun(r7:Bool×Unit) =>
       some (r7.1,())
      else
       if(decide (t0.Op=4))=true then
        F.s_l9Node_L1 t0.Op (decide (t0.Op=4)) t0
       else
        if(decide (t0.Op=5))=true then
         F.s_l9Node_L1 t0.Op (decide (t0.Op=5)) t0
        else
         F.s_l9Node_L1 t0.Op (decide (t0.Op=34)) t0
def ow(F:FsBuild)(t23:Int)(t44:Bool)(s16:bw):Option (Bool×Unit) :=
 if t44=true then
  (F.s_l9Name s16.S).bind fun(r0:Bool×Unit) =>
  some (r0.1,())
 else
  if(decide (t23=28))=true then
   (F.s_l7Calls ).bind fun(r1:(List (List Int))×Unit) =>
   (F.s_l7Within r1.1 s16.S).bind fun(r2:Bool×Unit) =>
   some (r2.1,())
  else
   some ((decide (s16.S=[])),())
def od(F:FsBuild)(t0:Int):Option (Bool×Unit) :=
 (F.s_l1In t0 1 28).bind fun(r0:Bool×Unit) =>
 some (r0.1,())
def lO(F:FsBuild)(t0:(List (List Int)))(t1:(List Int)):Option ((List (List Int))×Unit) :=
 (F.s_l7Within t0 t1).bind fun(r0:Bool×Unit) =>
 if r0.1=true then
  some (t0,())
 else
  F.s_l10Put_L1 t0 t1 0
def lP(F:FsBuild)(t0:(List (List Int)))(t1:(List Int))(t5:Int):Option ((List (List Int))×Unit) :=
 if(decide (t5<(List.length t0:Int)))=true then
  if(0:Int)≤t5∧t5<(List.length t0:Int) then
   if(ltS (List.getD t0 t5.toNat []) t1)=true then
    F.s_l10Put_L1 t0 t1 (w64 (t5+1))
   else
    if(0:Int)≤t5∧t5≤(List.length t0:Int) then
     if 0+List.length (List.take (t5.toNat-0) (List.drop 0 t0))≤room then
      if List.length (List.append [] (List.take (t5.toNat-0) (List.drop 0 t0)))+1≤room then
       if(0:Int)≤t5∧t5≤(List.length t0:Int) then
        if List.length (List.append (List.append [] (List.take (t5.toNat-0) (List.drop 0 t0))) [t1])+List.length (List.take ((List.length t0)-t5.toNat) (List.drop t5.toNat t0))≤room then
         some ((List.append (List.append (List.append [] (List.take (t5.toNat-0) (List.drop 0 t0))) [t1]) (List.take ((List.length t0)-t5.toNat) (List.drop t5.toNat t0))),())
        else none
       else none
      else none
     else none
    else none
  else none
 else
  if(0:Int)≤t5∧t5≤(List.length t0:Int) then
   if 0+List.length (List.take (t5.toNat-0) (List.drop 0 t0))≤room then
    if List.length (List.append [] (List.take (t5.toNat-0) (List.drop 0 t0)))+1≤room then
     if(0:Int)≤t5∧t5≤(List.length t0:Int) then
      if List.length (List.append (List.append [] (List.take (t5.toNat-0) (List.drop 0 t0))) [t1])+List.length (List.take ((List.length t0)-t5.toNat) (List.drop t5.toNat t0))≤room then
       some ((List.append (List.append (List.append [] (List.take (t5.toNat-0) (List.drop 0 t0))) [t1]) (List.take ((List.length t0)-t5.toNat) (List.drop t5.toNat t0))),())
      else none
     else none
    else none
   else none
  else none
def md(F:FsBuild)(s0_0:(List (List Int)))(s0_1:(List (List Int)))(s0_2:(List bz))(t1:bw):Option (((List (List Int))×((List (List Int))×((List bz)×Unit)))×Unit) :=
 if(decide ((List.length t1.Kids:Int)=0))=true then
  (F.s_l14Put s0_0 s0_1 s0_2 1 0 []).bind fun(r0:Int×((List (List Int))×((List (List Int))×((List bz)×Unit)))×Unit) =>
  (F.s_l14Put r0.2.1.1 r0.2.1.2.1 r0.2.1.2.2.1 9 0 []).bind fun(r1:Int×((List (List Int))×((List (List Int))×((List bz)×Unit)))×Unit) =>
  (F.s_l14Put r1.2.1.1 r1.2.1.2.1 r1.2.1.2.2.1 33 0 []).bind fun(r2:Int×((List (List Int))×((List (List Int))×((List bz)×Unit)))×Unit) =>
  F.s_l14Print_L1 r2.2.1.1 r2.2.1.2.1 r2.2.1.2.2.1 t1
 else
  F.s_l14Print_L1 s0_0 s0_1 s0_2 t1
def me(F:FsBuild)(s0_0:(List (List Int)))(s0_1:(List (List Int)))(s0_2:(List bz))(s48:bw):Option (((List (List Int))×((List (List Int))×((List bz)×Unit)))×Unit) :=
 F.s_l14Print_L2 0 s0_0 s0_1 s0_2 s48
def mf(F:FsBuild)(t4:Int)(s0_0:(List (List Int)))(s0_1:(List (List Int)))(s0_2:(List bz))(s48:bw):Option (((List (List Int))×((List (List Int))×((List bz)×Unit)))×Unit) :=
 if(decide (t4<(List.length s48.Kids:Int)))=true then
  if(0:Int)≤t4∧t4<(List.length s48.Kids:Int) then
   (F.s_l14E s0_0 s0_1 s0_2 (List.getD s48.Kids t4.toNat cl)).bind fun(r0:((List (List Int))×((List (List Int))×((List bz)×Unit)))×Unit) =>
   (F.s_l1Bit (decide (t4>0))).bind fun(r1:Int×Unit) =>
   (F.s_l14Put r0.1.1 r0.1.2.1 r0.1.2.2.1 33 r1.1 []).bind fun(r2:Int×((List (List Int))×((List (List Int))×((List bz)×Unit)))×Unit) =>
   F.s_l14Print_L2 (w64 (t4+1)) r2.2.1.1 r2.2.1.2.1 r2.2.1.2.2.1 s48
  else none
 else
  (F.s_l14Put s0_0 s0_1 s0_2 34 0 []).bind fun(r3:Int×((List (List Int))×((List (List Int))×((List bz)×Unit)))×Unit) =>
  some ((r3.2.1.1,(r3.2.1.2.1,(r3.2.1.2.2.1,()))),())
def ma(F:FsBuild)(s0_0:(List (List Int)))(s0_1:(List (List Int)))(s0_2:(List bz))(t1:bw):Option (((List (List Int))×((List (List Int))×((List bz)×Unit)))×Unit) :=
 if(0:Int)≤0∧(0:Int)<(List.length t1.Kids:Int) then
  (F.s_l14E s0_0 s0_1 s0_2 (List.getD t1.Kids 0 cl)).bind fun(r0:((List (List Int))×((List (List Int))×((List bz)×Unit)))×Unit) =>
  (F.s_l14Put r0.1.1 r0.1.2.1 r0.1.2.2.1 31 0 []).bind fun(r1:Int×((List (List Int))×((List (List Int))×((List bz)×Unit)))×Unit) =>
  if(0:Int)≤1∧(1:Int)<(List.length t1.Kids:Int) then
   (F.s_l14Block r1.2.1.1 r1.2.1.2.1 r1.2.1.2.2.1 (List.getD t1.Kids 1 cl)).bind fun(r2:((List (List Int))×((List (List Int))×((List bz)×Unit)))×Unit) =>
   if(decide ((List.length t1.Kids:Int)=3))=true then
    (F.s_l14Put r2.1.1 r2.1.2.1 r2.1.2.2.1 30 0 []).bind fun(r3:Int×((List (List Int))×((List (List Int))×((List bz)×Unit)))×Unit) =>
    if(0:Int)≤r1.1∧r1.1<(List.length r3.2.1.2.2.1:Int) then
     let v0:(List bz):=(List.set r3.2.1.2.2.1 r1.1.toNat (bz.mk ((List.getD r3.2.1.2.2.1 r1.1.toNat di).Code) (List.length r3.2.1.2.2.1:Int) ((List.getD r3.2.1.2.2.1 r1.1.toNat di).S)))
     if(0:Int)≤2∧(2:Int)<(List.length t1.Kids:Int) then
      (F.s_l14Block r3.2.1.1 r3.2.1.2.1 v0 (List.getD t1.Kids 2 cl)).bind fun(r4:((List (List Int))×((List (List Int))×((List bz)×Unit)))×Unit) =>
      if(0:Int)≤r3.1∧r3.1<(List.length r4.1.2.2.1:Int) then
       let v1:(List bz):=(List.set r4.1.2.2.1 r3.1.toNat (bz.mk ((List.getD r4.1.2.2.1 r3.1.toNat di).Code) (List.length r4.1.2.2.1:Int) ((List.getD r4.1.2.2.1 r3.1.toNat di).S)))
       some ((r4.1.1,(r4.1.2.1,(v1,()))),())
      else none
     else none
    else none
   else
    if(0:Int)≤r1.1∧r1.1<(List.length r2.1.2.2.1:Int) then
     let v2:(List bz):=(List.set r2.1.2.2.1 r1.1.toNat (bz.mk ((List.getD r2.1.2.2.1 r1.1.toNat di).Code) (List.length r2.1.2.2.1:Int) ((List.getD r2.1.2.2.1 r1.1.toNat di).S)))
     some ((r2.1.1,(r2.1.2.1,(v2,()))),())
    else none
  else none
 else none
def mj(F:FsBuild)(s0_0:(List (List Int)))(s0_1:(List (List Int)))(s0_2:(List bz))(t1:bw):Option (((List (List Int))×((List (List Int))×((List bz)×Unit)))×Unit) :=
 if(0:Int)≤0∧(0:Int)<(List.length t1.Kids:Int) then
  (F.s_l14E s0_0 s0_1 s0_2 (List.getD t1.Kids 0 cl)).bind fun(r0:((List (List Int))×((List (List Int))×((List bz)×Unit)))×Unit) =>
  (F.s_l14Put r0.1.1 r0.1.2.1 r0.1.2.2.1 31 0 []).bind fun(r1:Int×((List (List Int))×((List (List Int))×((List bz)×Unit)))×Unit) =>
  if(0:Int)≤1∧(1:Int)<(List.length t1.Kids:Int) then
   (F.s_l14Block r1.2.1.1 r1.2.1.2.1 r1.2.1.2.2.1 (List.getD t1.Kids 1 cl)).bind fun(r2:((List (List Int))×((List (List Int))×((List bz)×Unit)))×Unit) =>
   (F.s_l14Put r2.1.1 r2.1.2.1 r2.1.2.2.1 30 (List.length s0_2:Int) []).bind fun(r3:Int×((List (List Int))×((List (List Int))×((List bz)×Unit)))×Unit) =>
   if(0:Int)≤r1.1∧r1.1<(List.length r3.2.1.2.2.1:Int) then
    let v0:(List bz):=(List.set r3.2.1.2.2.1 r1.1.toNat (bz.mk ((List.getD r3.2.1.2.2.1 r1.1.toNat di).Code) (List.length r3.2.1.2.2.1:Int) ((List.getD r3.2.1.2.2.1 r1.1.toNat di).S)))
    some ((r3.2.1.1,(r3.2.1.2.1,(v0,()))),())
   else none
  else none
 else none
def lS(F:FsBuild)(t0:(List (List Int)))(t1:(List Int)):Option (Int×Unit) :=
 F.s_l12Where_L1 t0 t1 0
def lT(F:FsBuild)(t0:(List (List Int)))(t1:(List Int))(t5:Int):Option (Int×Unit) :=
 if(decide (t5<(List.length t0:Int)))=true then
  if(0:Int)≤t5∧t5<(List.length t0:Int) then
   if(decide ((List.getD t0 t5.toNat [])=t1))=true then
    some (t5,())
   else
    F.s_l12Where_L1 t0 t1 (w64 (t5+1))
  else none
 else
  some (0,())
def ml(F:FsBuild)(t0:Bool):Option (Int×Unit) :=
 if t0=true then
  some (1,())
 else
  some (0,())
def my(F:FsBuild)(s0:bM)(t1:Int):Option (bD×bM×Unit) :=
 (F.s_l3Part s0 t1).bind fun(r0:bD×bM×Unit) =>
 F.s_l3Pattern_L1 t1 [r0.1] r0.2.1 cY
def mz(F:FsBuild)(t1:Int)(t5:(List bD))(s0:bM)(s64:bD):Option (bD×bM×Unit) :=
 (F.s_l3Now s0 124).bind fun(r0:Bool×bM×Unit) =>
 if r0.1=true then
  (F.s_l3Part (bM.mk r0.2.1.s (w64 (r0.2.1.at_+1)) r0.2.1.bad) t1).bind fun(r1:bD×bM×Unit) =>
  if List.length t5+1≤room then
   F.s_l3Pattern_L1 t1 (List.append t5 [r1.1]) r1.2.1 s64
  else none
 else
  if(decide ((List.length t5:Int)=1))=true then
   if(0:Int)≤0∧(0:Int)<(List.length t5:Int) then
    some ((List.getD t5 0 cY),r0.2.1,())
   else none
  else
   some ((bD.mk 7 0 [] false t5),r0.2.1,())
def mr(F:FsBuild)(t0:bD):Option (Int×Unit) :=
 F.s_l3Deep_L1 0 0 t0
def mt(F:FsBuild)(t3:Int)(t4:Int)(s16:bD):Option (Int×Unit) :=
 if(decide (t4<(List.length s16.Kids:Int)))=true then
  if(0:Int)≤t4∧t4<(List.length s16.Kids:Int) then
   (F.s_l3Deep (List.getD s16.Kids t4.toNat cY)).bind fun(r0:Int×Unit) =>
   (F.s_l1Max t3 r0.1).bind fun(r1:Int×Unit) =>
   F.s_l3Deep_L1 r1.1 (w64 (t4+1)) s16
  else none
 else
  some ((w64 (t3+1)),())
def kY(F:FsBuild)(t0:(List Int)):Option (Int×Int×Unit) :=
 F.s_DecFront_L1 t0 0
def kZ(F:FsBuild)(t0:(List Int))(t4:Int):Option (Int×Int×Unit) :=
 if(decide (t4<(List.length t0:Int)))=true then
  if(0:Int)≤t4∧t4<(List.length t0:Int) then
   if(decide ((List.getD t0 t4.toNat 0)=32))=true then
    F.s_DecFront_L1 t0 (w64 (t4+1))
   else
    if(decide (t4<(List.length t0:Int)))=true then
     if(0:Int)≤t4∧t4<(List.length t0:Int) then
      if(decide (t4<(List.length t0:Int)))=true then
       if(0:Int)≤t4∧t4<(List.length t0:Int) then
        if(decide ((List.getD t0 t4.toNat 0)=45))=true then
         F.s_DecFront_L2 t0 (w64 (t4+1)) (decide ((List.getD t0 t4.toNat 0)=45))
        else
         if(0:Int)≤t4∧t4<(List.length t0:Int) then
          if(decide ((List.getD t0 t4.toNat 0)=43))=true then
           F.s_DecFront_L2 t0 (w64 (t4+1)) (decide ((List.getD t0 t4.toNat 0)=45))
          else
           F.s_DecFront_L2 t0 t4 (decide ((List.getD t0 t4.toNat 0)=45))
         else none
       else none
      else
       F.s_DecFront_L2 t0 t4 (decide ((List.getD t0 t4.toNat 0)=45))
     else none
    else
     if(decide (t4<(List.length t0:Int)))=true then
      if(0:Int)≤t4∧t4<(List.length t0:Int) then
       if(decide ((List.getD t0 t4.toNat 0)=45))=true then
        F.s_DecFront_L2 t0 (w64 (t4+1)) false
       else
        if(0:Int)≤t4∧t4<(List.length t0:Int) then
         if(decide ((List.getD t0 t4.toNat 0)=43))=true then
          F.s_DecFront_L2 t0 (w64 (t4+1)) false
         else
          F.s_DecFront_L2 t0 t4 false
        else none
      else none
     else
      F.s_DecFront_L2 t0 t4 false
  else none
 else
  if(decide (t4<(List.length t0:Int)))=true then
   if(0:Int)≤t4∧t4<(List.length t0:Int) then
    if(decide (t4<(List.length t0:Int)))=true then
     if(0:Int)≤t4∧t4<(List.length t0:Int) then
      if(decide ((List.getD t0 t4.toNat 0)=45))=true then
       F.s_DecFront_L2 t0 (w64 (t4+1)) (decide ((List.getD t0 t4.toNat 0)=45))
      else
       if(0:Int)≤t4∧t4<(List.length t0:Int) then
        if(decide ((List.getD t0 t4.toNat 0)=43))=true then
         F.s_DecFront_L2 t0 (w64 (t4+1)) (decide ((List.getD t0 t4.toNat 0)=45))
        else
         F.s_DecFront_L2 t0 t4 (decide ((List.getD t0 t4.toNat 0)=45))
       else none
     else none
    else
     F.s_DecFront_L2 t0 t4 (decide ((List.getD t0 t4.toNat 0)=45))
   else none
  else
   if(decide (t4<(List.length t0:Int)))=true then
    if(0:Int)≤t4∧t4<(List.length t0:Int) then
     if(decide ((List.getD t0 t4.toNat 0)=45))=true then
      F.s_DecFront_L2 t0 (w64 (t4+1)) false
     else
      if(0:Int)≤t4∧t4<(List.length t0:Int) then
       if(decide ((List.getD t0 t4.toNat 0)=43))=true then
        F.s_DecFront_L2 t0 (w64 (t4+1)) false
       else
        F.s_DecFront_L2 t0 t4 false
      else none
    else none
   else
    F.s_DecFront_L2 t0 t4 false
def k9(F:FsBuild)(t0:(List Int))(t4:Int)(t5:Bool):Option (Int×Int×Unit) :=
 F.s_DecFront_L3 t0 t4 t5 0 0
def la(F:FsBuild)(t0:(List Int))(t4:Int)(t5:Bool)(t6:Int)(t7:Int):Option (Int×Int×Unit) :=
 if(decide (t4<(List.length t0:Int)))=true then
  if(0:Int)≤t4∧t4<(List.length t0:Int) then
   (F.s_l2Digit (List.getD t0 t4.toNat 0)).bind fun(r0:Bool×Unit) =>
   if r0.1=true then
    if(decide (t6≤9000000000000))=true then
     if(0:Int)≤t4∧t4<(List.length t0:Int) then
      F.s_DecFront_L3 t0 (w64 (t4+1)) t5 (w64 ((w64 (10*t6))+(w64 ((w64 ((w64 (List.getD t0 t4.toNat 0))-48))*1000000)))) (w64 (t7+1))
     else none
    else
     F.s_DecFront_L3 t0 (w64 (t4+1)) t5 t6 (w64 (t7+1))
   else
    if(decide ((w64 (t4+1))<(List.length t0:Int)))=true then
     if(0:Int)≤t4∧t4<(List.length t0:Int) then
      if(decide ((List.getD t0 t4.toNat 0)=46))=true then
       if(0:Int)≤(w64 (t4+1))∧(w64 (t4+1))<(List.length t0:Int) then
        (F.s_l2Digit (List.getD t0 (w64 (t4+1)).toNat 0)).bind fun(r1:Bool×Unit) =>
        if r1.1=true then
         F.s_DecFront_L4 t0 (w64 (t4+1)) t5 t6 t7 100000
        else
         F.s_DecFront_L5 t4 t5 t6 t7
       else none
      else
       F.s_DecFront_L5 t4 t5 t6 t7
     else none
    else
     F.s_DecFront_L5 t4 t5 t6 t7
  else none
 else
  if(decide ((w64 (t4+1))<(List.length t0:Int)))=true then
   if(0:Int)≤t4∧t4<(List.length t0:Int) then
    if(decide ((List.getD t0 t4.toNat 0)=46))=true then
     if(0:Int)≤(w64 (t4+1))∧(w64 (t4+1))<(List.length t0:Int) then
      (F.s_l2Digit (List.getD t0 (w64 (t4+1)).toNat 0)).bind fun(r2:Bool×Unit) =>
      if r2.1=true then
       F.s_DecFront_L4 t0 (w64 (t4+1)) t5 t6 t7 100000
      else
       F.s_DecFront_L5 t4 t5 t6 t7
     else none
    else
     F.s_DecFront_L5 t4 t5 t6 t7
   else none
  else
   F.s_DecFront_L5 t4 t5 t6 t7
def lf(F:FsBuild)(t0:(List Int))(t4:Int)(t5:Bool)(t6:Int)(t7:Int)(t8:Int):Option (Int×Int×Unit) :=
 if(decide (t4<(List.length t0:Int)))=true then
  if(0:Int)≤t4∧t4<(List.length t0:Int) then
   (F.s_l2Digit (List.getD t0 t4.toNat 0)).bind fun(r0:Bool×Unit) =>
   if r0.1=true then
    if(0:Int)≤t4∧t4<(List.length t0:Int) then
     F.s_DecFront_L4 t0 (w64 (t4+1)) t5 (w64 (t6+(w64 ((w64 ((w64 (List.getD t0 t4.toNat 0))-48))*t8)))) (w64 (t7+1)) (w64 (Int.tdiv t8 10))
    else none
   else
    F.s_DecFront_L5 t4 t5 t6 t7
  else none
 else
  F.s_DecFront_L5 t4 t5 t6 t7
def lg(F:FsBuild)(t4:Int)(t5:Bool)(t6:Int)(t7:Int):Option (Int×Int×Unit) :=
 if(decide (t7=0))=true then
  some (0,0,())
 else
  if(decide (t6>9000000000000))=true then
   some (0,0,())
  else
   if t5=true then
    some ((w64 (0-t6)),t4,())
   else
    some (t6,t4,())
def nx(F:FsBuild)(s0:bN):Option (bN×Unit) :=
 if(decide (s0.bad<0))=true then
  (F.s_l8Now s0).bind fun(r0:bG×bN×Unit) =>
  some ((bN.mk r0.2.1.list r0.2.1.at_ r0.1.At r0.2.1.has r0.2.1.kept),())
 else
  some (s0,())
def n8(F:FsBuild)(s0:bN)(t1:Int):Option (bw×bN×Unit) :=
 (F.s_l8Next s0).bind fun(r0:bN×Unit) =>
 (F.s_l8Take r0.1 [40]).bind fun(r1:bN×Unit) =>
 (F.s_l8E r1.1).bind fun(r2:bw×bN×Unit) =>
 (F.s_l8Take r2.2.1 [41]).bind fun(r3:bN×Unit) =>
 (F.s_l8Block r3.1).bind fun(r4:bw×bN×Unit) =>
 (F.s_l8Kids t1 [r2.1,r4.1]).bind fun(r5:(Int×(Int×((List Int)×((List bw)×Unit))))×Unit) =>
 if(decide (t1=31))=true then
  (F.s_l8Is r4.2.1 [101,108,115,101]).bind fun(r6:Bool×bN×Unit) =>
  if r6.1=true then
   (F.s_l8Next r6.2.1).bind fun(r7:bN×Unit) =>
   (F.s_l8Block r7.1).bind fun(r8:bw×bN×Unit) =>
   if List.length r5.1.2.2.2.1+1≤room then
    some ((bw.mk r5.1.1 r5.1.2.1 r5.1.2.2.1 (List.append r5.1.2.2.2.1 [r8.1])),r8.2.1,())
   else none
  else
   some ((bw.mk r5.1.1 r5.1.2.1 r5.1.2.2.1 r5.1.2.2.2.1),r6.2.1,())
 else
  some ((bw.mk r5.1.1 r5.1.2.1 r5.1.2.2.1 r5.1.2.2.2.1),r4.2.1,())
def nX(F:FsBuild)(s0:bN):Option (bw×bN×Unit) :=
 (F.s_l8Is s0 [112,114,105,110,116]).bind fun(r0:Bool×bN×Unit) =>
 if r0.1=true then
  (F.s_l8Next r0.2.1).bind fun(r1:bN×Unit) =>
  F.s_l8Simple_L1 r1.1 0 0 [] [] 30 0 [] []
 else
  (F.s_l8Is r0.2.1 [110,101,120,116]).bind fun(r2:Bool×bN×Unit) =>
  if r2.1=true then
   (F.s_l8Next r2.2.1).bind fun(r3:bN×Unit) =>
   some ((bw.mk 33 0 [] []),r3.1,())
  else
   (F.s_l8Is r2.2.1 [100,101,108,101,116,101]).bind fun(r4:Bool×bN×Unit) =>
   if r4.1=true then
    (F.s_l8Next r4.2.1).bind fun(r5:bN×Unit) =>
    (F.s_l8Name r5.1).bind fun(r6:(List Int)×bN×Unit) =>
    (F.s_l8Take r6.2.1 [91]).bind fun(r7:bN×Unit) =>
    (F.s_l8E r7.1).bind fun(r8:bw×bN×Unit) =>
    (F.s_l8Take r8.2.1 [93]).bind fun(r9:bN×Unit) =>
    some ((bw.mk 34 0 r6.1 [r8.1]),r9.1,())
   else
    (F.s_l8E r4.2.1).bind fun(r10:bw×bN×Unit) =>
    (F.s_l8Kids 35 [r10.1]).bind fun(r11:(Int×(Int×((List Int)×((List bw)×Unit))))×Unit) =>
    some ((bw.mk r11.1.1 r11.1.2.1 r11.1.2.2.1 r11.1.2.2.2.1),r10.2.1,())
def nY(F:FsBuild)(s0:bN)(s32_0:Int)(s32_1:Int)(s32_2:(List Int))(s32_3:(List bw))(s48_0:Int)(s48_1:Int)(s48_2:(List Int))(s48_3:(List bw)):Option (bw×bN×Unit) :=
 if(decide (s0.bad<0))=true then
  (F.s_l8Sign s0 [59]).bind fun(r0:Bool×bN×Unit) =>
  if(!r0.1)=true then
   (F.s_l8Sign r0.2.1 [125]).bind fun(r1:Bool×bN×Unit) =>
   if(!r1.1)=true then
    if(decide ((List.length s48_3:Int)>0))=true then
     (F.s_l8Take r1.2.1 [44]).bind fun(r2:bN×Unit) =>
     (F.s_l8E r2.1).bind fun(r3:bw×bN×Unit) =>
     if List.length s48_3+1≤room then
      F.s_l8Simple_L1 r3.2.1 s32_0 s32_1 s32_2 s32_3 s48_0 s48_1 s48_2 (List.append s48_3 [r3.1])
     else none
    else
     (F.s_l8E r1.2.1).bind fun(r4:bw×bN×Unit) =>
     if List.length s48_3+1≤room then
      F.s_l8Simple_L1 r4.2.1 s32_0 s32_1 s32_2 s32_3 s48_0 s48_1 s48_2 (List.append s48_3 [r4.1])
     else none
   else
    some ((bw.mk s48_0 s48_1 s48_2 s48_3),r1.2.1,())
  else
   some ((bw.mk s48_0 s48_1 s48_2 s48_3),r0.2.1,())
 else
  some ((bw.mk s48_0 s48_1 s48_2 s48_3),s0,())
def nG(F:FsBuild)(s0:bN)(t1:(List Int)):Option ((List bw)×bN×Unit) :=
 F.s_l8Es_L1 t1 [] s0
def nH(F:FsBuild)(t1:(List Int))(t5:(List bw))(s0:bN):Option ((List bw)×bN×Unit) :=
 if(decide (s0.bad<0))=true then
  (F.s_l8Sign s0 t1).bind fun(r0:Bool×bN×Unit) =>
  if(!r0.1)=true then
   if(decide ((List.length t5:Int)>0))=true then
    (F.s_l8Take r0.2.1 [44]).bind fun(r1:bN×Unit) =>
    (F.s_l8E r1.1).bind fun(r2:bw×bN×Unit) =>
    if List.length t5+1≤room then
     F.s_l8Es_L1 t1 (List.append t5 [r2.1]) r2.2.1
    else none
   else
    (F.s_l8E r0.2.1).bind fun(r3:bw×bN×Unit) =>
    if List.length t5+1≤room then
     F.s_l8Es_L1 t1 (List.append t5 [r3.1]) r3.2.1
    else none
  else
   some (t5,r0.2.1,())
 else
  some (t5,s0,())
def nP(F:FsBuild)(s0:bN):Option ((List Int)×bN×Unit) :=
 (F.s_l8Now s0).bind fun(r0:bG×bN×Unit) =>
 if(decide (r0.2.1.bad≥0))=true then
  (F.s_l8Bad r0.2.1).bind fun(r1:bN×Unit) =>
  some ([],r1.1,())
 else
  if(!(decide (r0.1.Kind=1)))=true then
   (F.s_l8Bad r0.2.1).bind fun(r2:bN×Unit) =>
   some ([],r2.1,())
  else
   (F.s_Keyword r0.1.Text).bind fun(r3:Bool×Unit) =>
   if r3.1=true then
    (F.s_l8Bad r0.2.1).bind fun(r4:bN×Unit) =>
    some ([],r4.1,())
   else
    (F.s_l8Next r0.2.1).bind fun(r5:bN×Unit) =>
    some (r0.1.Text,r5.1,())
def nC(F:FsBuild)(s0:bN):Option (bw×bN×Unit) :=
 (F.s_l8Level s0 4).bind fun(r0:bw×bN×Unit) =>
 F.s_l8Compare_L1 [[60],[60,61],[62],[62,61],[61,61],[33,61]] 0 r0.2.1 0 0 [] [] r0.1
def nD(F:FsBuild)(t3:(List (List Int)))(t5:Int)(s0:bN)(s32_0:Int)(s32_1:Int)(s32_2:(List Int))(s32_3:(List bw))(s64:bw):Option (bw×bN×Unit) :=
 if(decide (t5<(List.length t3:Int)))=true then
  if(0:Int)≤t5∧t5<(List.length t3:Int) then
   (F.s_l8Sign s0 (List.getD t3 t5.toNat [])).bind fun(r0:Bool×bN×Unit) =>
   if r0.1=true then
    (F.s_l8Next r0.2.1).bind fun(r1:bN×Unit) =>
    (F.s_l8Level r1.1 4).bind fun(r2:bw×bN×Unit) =>
    (F.s_l8Kids (w64 (15+t5)) [s64,r2.1]).bind fun(r3:(Int×(Int×((List Int)×((List bw)×Unit))))×Unit) =>
    some ((bw.mk r3.1.1 r3.1.2.1 r3.1.2.2.1 r3.1.2.2.2.1),r2.2.1,())
   else
    F.s_l8Compare_L1 t3 (w64 (t5+1)) r0.2.1 s32_0 s32_1 s32_2 s32_3 s64
  else none
 else
  some (s64,s0,())
def nT(F:FsBuild)(s0:bN):Option (bw×bN×Unit) :=
 (F.s_l8Level s0 5).bind fun(r0:bw×bN×Unit) =>
 F.s_l8Row_L1 r0.2.1 0 0 [] [] r0.1
def nU(F:FsBuild)(s0:bN)(s32_0:Int)(s32_1:Int)(s32_2:(List Int))(s32_3:(List bw))(s48:bw):Option (bw×bN×Unit) :=
 (F.s_l8Begins s0).bind fun(r0:Bool×bN×Unit) =>
 if r0.1=true then
  (F.s_l8Level r0.2.1 5).bind fun(r1:bw×bN×Unit) =>
  (F.s_l8Kids 14 [s48,r1.1]).bind fun(r2:(Int×(Int×((List Int)×((List bw)×Unit))))×Unit) =>
  F.s_l8Row_L1 r1.2.1 s32_0 s32_1 s32_2 s32_3 (bw.mk r2.1.1 r2.1.2.1 r2.1.2.2.1 r2.1.2.2.2.1)
 else
  some (s48,r0.2.1,())
def n7(F:FsBuild)(s0:bN):Option (bw×bN×Unit) :=
 if s0.has=true then
  (F.s_l8Atom s0).bind fun(r0:bw×bN×Unit) =>
  some (r0.1,r0.2.1,())
 else
  (F.s_l8Sign s0 [33]).bind fun(r1:Bool×bN×Unit) =>
  if r1.1=true then
   (F.s_l8Next r1.2.1).bind fun(r2:bN×Unit) =>
   (F.s_l8Unit r2.1).bind fun(r3:bw×bN×Unit) =>
   (F.s_l8Kids 22 [r3.1]).bind fun(r4:(Int×(Int×((List Int)×((List bw)×Unit))))×Unit) =>
   some ((bw.mk r4.1.1 r4.1.2.1 r4.1.2.2.1 r4.1.2.2.2.1),r3.2.1,())
  else
   (F.s_l8Sign r1.2.1 [45]).bind fun(r5:Bool×bN×Unit) =>
   if r5.1=true then
    (F.s_l8Next r5.2.1).bind fun(r6:bN×Unit) =>
    (F.s_l8Unit r6.1).bind fun(r7:bw×bN×Unit) =>
    (F.s_l8Kids 23 [r7.1]).bind fun(r8:(Int×(Int×((List Int)×((List bw)×Unit))))×Unit) =>
    some ((bw.mk r8.1.1 r8.1.2.1 r8.1.2.2.1 r8.1.2.2.2.1),r7.2.1,())
   else
    (F.s_l8Atom r5.2.1).bind fun(r9:bw×bN×Unit) =>
    some (r9.1,r9.2.1,())
def nK(F:FsBuild)(s0:bN)(t1:Int):Option (bw×bN×Unit) :=
 (F.s_l8Level s0 (w64 (t1+1))).bind fun(r0:bw×bN×Unit) =>
 F.s_l8Left_L1 t1 [[[124,124]],[[38,38]],[[126],[33,126]],[],[],[[43],[45]],[[42],[47],[37]]] [[25],[24],[21,21],[],[],[9,10],[11,12,13]] r0.2.1 (bw.mk 0 0 [] []) r0.1
def nL(F:FsBuild)(t1:Int)(t5:(List (List (List Int))))(t6:(List (List Int)))(s0:bN)(s64:bw)(s112:bw):Option (bw×bN×Unit) :=
 if(decide (s0.bad<0))=true then
  F.s_l8Left_L2 t1 t5 t6 0 s0 s64 s112
 else
  some (s112,s0,())
def nM(F:FsBuild)(t1:Int)(t5:(List (List (List Int))))(t6:(List (List Int)))(t8:Int)(s0:bN)(s64:bw)(s112:bw):Option (bw×bN×Unit) :=
 if(0:Int)≤t1∧t1<(List.length t5:Int) then
  if(decide (t8<(List.length (List.getD t5 t1.toNat []):Int)))=true then
   if(0:Int)≤t1∧t1<(List.length t5:Int) then
    if(0:Int)≤t8∧t8<(List.length (List.getD t5 t1.toNat []):Int) then
     (F.s_l8Sign s0 (List.getD (List.getD t5 t1.toNat []) t8.toNat [])).bind fun(r0:Bool×bN×Unit) =>
     if(!r0.1)=true then
      F.s_l8Left_L2 t1 t5 t6 (w64 (t8+1)) r0.2.1 s64 s112
     else
      if(0:Int)≤t1∧t1<(List.length t5:Int) then
       if(decide (t8=(List.length (List.getD t5 t1.toNat []):Int)))=true then
        some (s112,r0.2.1,())
       else
        (F.s_l8Next r0.2.1).bind fun(r1:bN×Unit) =>
        (F.s_l8Level r1.1 (w64 (t1+1))).bind fun(r2:bw×bN×Unit) =>
        if(0:Int)≤t1∧t1<(List.length t6:Int) then
         if(0:Int)≤t8∧t8<(List.length (List.getD t6 t1.toNat []):Int) then
          (F.s_l8Kids (List.getD (List.getD t6 t1.toNat []) t8.toNat 0) [s112,r2.1]).bind fun(r3:(Int×(Int×((List Int)×((List bw)×Unit))))×Unit) =>
          F.s_l8Left_L3 t1 t5 t6 t8 r2.2.1 s64 (bw.mk r3.1.1 r3.1.2.1 r3.1.2.2.1 r3.1.2.2.2.1)
         else none
        else none
      else none
    else none
   else none
  else
   if(0:Int)≤t1∧t1<(List.length t5:Int) then
    if(decide (t8=(List.length (List.getD t5 t1.toNat []):Int)))=true then
     some (s112,s0,())
    else
     (F.s_l8Next s0).bind fun(r4:bN×Unit) =>
     (F.s_l8Level r4.1 (w64 (t1+1))).bind fun(r5:bw×bN×Unit) =>
     if(0:Int)≤t1∧t1<(List.length t6:Int) then
      if(0:Int)≤t8∧t8<(List.length (List.getD t6 t1.toNat []):Int) then
       (F.s_l8Kids (List.getD (List.getD t6 t1.toNat []) t8.toNat 0) [s112,r5.1]).bind fun(r6:(Int×(Int×((List Int)×((List bw)×Unit))))×Unit) =>
       F.s_l8Left_L3 t1 t5 t6 t8 r5.2.1 s64 (bw.mk r6.1.1 r6.1.2.1 r6.1.2.2.1 r6.1.2.2.2.1)
      else none
     else none
   else none
 else none
def nN(F:FsBuild)(t1:Int)(t5:(List (List (List Int))))(t6:(List (List Int)))(t8:Int)(s0:bN)(s64:bw)(s112:bw):Option (bw×bN×Unit) :=
 if(decide (t1=2))=true then
  if(decide (t8=1))=true then
   (F.s_l8Kids 22 [s112]).bind fun(r0:(Int×(Int×((List Int)×((List bw)×Unit))))×Unit) =>
   F.s_l8Left_L1 t1 t5 t6 s0 s64 (bw.mk r0.1.1 r0.1.2.1 r0.1.2.2.1 r0.1.2.2.2.1)
  else
   F.s_l8Left_L1 t1 t5 t6 s0 s64 s112
 else
  F.s_l8Left_L1 t1 t5 t6 s0 s64 s112
def oe(F:FsBuild)(t0:bw):Option (Bool×Unit) :=
 if(decide (t0.Op=5))=true then
  F.s_l9Kids_L1 (List.length t0.Kids:Int) t0.Op (decide (t0.Op=5)) t0
 else
  if(decide (t0.Op=6))=true then
   F.s_l9Kids_L1 (List.length t0.Kids:Int) t0.Op (decide (t0.Op=6)) t0
  else
   if(decide (t0.Op=22))=true then
    F.s_l9Kids_L1 (List.length t0.Kids:Int) t0.Op (decide (t0.Op=22)) t0
   else
    if(decide (t0.Op=23))=true then
     F.s_l9Kids_L1 (List.length t0.Kids:Int) t0.Op (decide (t0.Op=23)) t0
    else
     if(decide (t0.Op=34))=true then
      F.s_l9Kids_L1 (List.length t0.Kids:Int) t0.Op (decide (t0.Op=34)) t0
     else
      F.s_l9Kids_L1 (List.length t0.Kids:Int) t0.Op (decide (t0.Op=35)) t0
def oh(F:FsBuild)(t3:Int)(t9:Int)(t10:Bool)(s16:bw):Option (Bool×Unit) :=
 if t10=true then
  if(decide (t3=1))=true then
   (F.s_l9Es s16 0 1).bind fun(r0:Bool×Unit) =>
   some (r0.1,())
  else
   some (false,())
 else
  if(decide (t9=9))=true then
   F.s_l9Kids_L2 t3 t9 (decide (t9=9)) s16
  else
   if(decide (t9=10))=true then
    F.s_l9Kids_L2 t3 t9 (decide (t9=10)) s16
   else
    if(decide (t9=11))=true then
     F.s_l9Kids_L2 t3 t9 (decide (t9=11)) s16
    else
     if(decide (t9=12))=true then
      F.s_l9Kids_L2 t3 t9 (decide (t9=12)) s16
     else
      if(decide (t9=13))=true then
       F.s_l9Kids_L2 t3 t9 (decide (t9=13)) s16
      else
       if(decide (t9=14))=true then
        F.s_l9Kids_L2 t3 t9 (decide (t9=14)) s16
       else
        if(decide (t9=15))=true then
         F.s_l9Kids_L2 t3 t9 (decide (t9=15)) s16
        else
         if(decide (t9=16))=true then
          F.s_l9Kids_L2 t3 t9 (decide (t9=16)) s16
         else
          if(decide (t9=17))=true then
           F.s_l9Kids_L2 t3 t9 (decide (t9=17)) s16
          else
           if(decide (t9=18))=true then
            F.s_l9Kids_L2 t3 t9 (decide (t9=18)) s16
           else
            if(decide (t9=19))=true then
             F.s_l9Kids_L2 t3 t9 (decide (t9=19)) s16
            else
             if(decide (t9=20))=true then
              F.s_l9Kids_L2 t3 t9 (decide (t9=20)) s16
             else
              if(decide (t9=21))=true then
               F.s_l9Kids_L2 t3 t9 (decide (t9=21)) s16
              else
               if(decide (t9=24))=true then
                F.s_l9Kids_L2 t3 t9 (decide (t9=24)) s16
               else
                F.s_l9Kids_L2 t3 t9 (decide (t9=25)) s16
def oi(F:FsBuild)(t3:Int)(t9:Int)(t23:Bool)(s16:bw):Option (Bool×Unit) :=
 if t23=true then
  if(decide (t3=2))=true then
   (F.s_l9Es s16 0 2).bind fun(r0:Bool×Unit) =>
   some (r0.1,())
  else
   some (false,())
 else
  if(decide (t9=26))=true then
   F.s_l9Kids_L3 t3 t9 (decide (t9=26)) s16
  else
   F.s_l9Kids_L3 t3 t9 (decide (t9=27)) s16
def oj(F:FsBuild)(t3:Int)(t9:Int)(t45:Bool)(s16:bw):Option (Bool×Unit) :=
 if t45=true then
  if(decide (t3=2))=true then
   if(0:Int)≤0∧(0:Int)<(List.length s16.Kids:Int) then
    if(decide (((List.getD s16.Kids 0 cl).Op)=4))=true then
     (F.s_l9Es s16 0 2).bind fun(r0:Bool×Unit) =>
     some (r0.1,())
    else
     if(0:Int)≤0∧(0:Int)<(List.length s16.Kids:Int) then
      if(decide (((List.getD s16.Kids 0 cl).Op)=5))=true then
       (F.s_l9Es s16 0 2).bind fun(r1:Bool×Unit) =>
       some (r1.1,())
      else
       some (false,())
     else none
   else none
  else
   some (false,())
 else
  if(decide (t9=28))=true then
   F.s_l9Kids_L4 t3 t9 (decide (t9=28)) s16
  else
   F.s_l9Kids_L4 t3 t9 (decide (t9=30)) s16
def ol(F:FsBuild)(t3:Int)(t9:Int)(t70:Bool)(s16:bw):Option (Bool×Unit) :=
 if t70=true then
  (F.s_l9Es s16 0 t3).bind fun(r0:Bool×Unit) =>
  some (r0.1,())
 else
  if(decide (t9=31))=true then
   (F.s_l1In t3 2 3).bind fun(r1:Bool×Unit) =>
   if r1.1=true then
    (F.s_l9Es s16 0 1).bind fun(r2:Bool×Unit) =>
    if r2.1=true then
     (F.s_l9Blocks s16 1).bind fun(r3:Bool×Unit) =>
     some (r3.1,())
    else
     some (false,())
   else
    some (false,())
  else
   if(decide (t9=32))=true then
    if(decide (t3=2))=true then
     (F.s_l9Es s16 0 1).bind fun(r4:Bool×Unit) =>
     if r4.1=true then
      (F.s_l9Blocks s16 1).bind fun(r5:Bool×Unit) =>
      some (r5.1,())
     else
      some (false,())
    else
     some (false,())
   else
    if(decide (t9=29))=true then
     F.s_l9Kids_L5 t3 0 s16
    else
     some ((decide (t3=0)),())
def om(F:FsBuild)(t3:Int)(t4:Int)(s16:bw):Option (Bool×Unit) :=
 if(decide (t4<t3))=true then
  if(0:Int)≤t4∧t4<(List.length s16.Kids:Int) then
   (F.s_l1In ((List.getD s16.Kids t4.toNat cl).Op) 29 35).bind fun(r0:Bool×Unit) =>
   if(!r0.1)=true then
    some (false,())
   else
    if(0:Int)≤t4∧t4<(List.length s16.Kids:Int) then
     (F.s_l9Node (List.getD s16.Kids t4.toNat cl)).bind fun(r1:Bool×Unit) =>
     if(!r1.1)=true then
      some (false,())
     else
      F.s_l9Kids_L5 t3 (w64 (t4+1)) s16
    else none
  else none
 else
  some (true,())
def ox(F:FsBuild)(t0:(List Int)):Option (Bool×Unit) :=
 F.s_l9Rex_L1 t0 0
def oy(F:FsBuild)(t0:(List Int))(t3:Int):Option (Bool×Unit) :=
 if(decide (t3<(List.length t0:Int)))=true then
  if(0:Int)≤t3∧t3<(List.length t0:Int) then
   if(decide ((List.getD t0 t3.toNat 0)=92))=true then
    if(decide ((w64 (t3+1))=(List.length t0:Int)))=true then
     some (false,())
    else
     if(0:Int)≤(w64 (t3+1))∧(w64 (t3+1))<(List.length t0:Int) then
      if(decide ((List.getD t0 (w64 (t3+1)).toNat 0)=47))=true then
       some (false,())
      else
       F.s_l9Rex_L1 t0 (w64 ((w64 (t3+1))+1))
     else none
   else
    F.s_l9Rex_L1 t0 (w64 (t3+1))
  else none
 else
  (F.s_l9Line t0).bind fun(r0:Bool×Unit) =>
  some (r0.1,())
def mv(F:FsBuild)(s0:bM)(t1:Int):Option (bD×bM×Unit) :=
 F.s_l3Part_L1 t1 [] s0 cY
def mw(F:FsBuild)(t1:Int)(t5:(List bD))(s0:bM)(s64:bD):Option (bD×bM×Unit) :=
 if(!s0.bad)=true then
  if(decide (s0.at_<(List.length s0.s:Int)))=true then
   if(0:Int)≤s0.at_∧s0.at_<(List.length s0.s:Int) then
    if(!(decide ((List.getD s0.s s0.at_.toNat 0)=124)))=true then
     if(0:Int)≤s0.at_∧s0.at_<(List.length s0.s:Int) then
      if(!(decide ((List.getD s0.s s0.at_.toNat 0)=41)))=true then
       (F.s_l3Piece s0 t1).bind fun(r0:bD×bM×Unit) =>
       if List.length t5+1≤room then
        F.s_l3Part_L1 t1 (List.append t5 [r0.1]) r0.2.1 s64
       else none
      else
       if(decide ((List.length t5:Int)=0))=true then
        some ((bD.mk 11 0 [] false []),s0,())
       else
        if(decide ((List.length t5:Int)=1))=true then
         if(0:Int)≤0∧(0:Int)<(List.length t5:Int) then
          some ((List.getD t5 0 cY),s0,())
         else none
        else
         some ((bD.mk 6 0 [] false t5),s0,())
     else none
    else
     if(decide ((List.length t5:Int)=0))=true then
      some ((bD.mk 11 0 [] false []),s0,())
     else
      if(decide ((List.length t5:Int)=1))=true then
       if(0:Int)≤0∧(0:Int)<(List.length t5:Int) then
        some ((List.getD t5 0 cY),s0,())
       else none
      else
       some ((bD.mk 6 0 [] false t5),s0,())
   else none
  else
   if(decide ((List.length t5:Int)=0))=true then
    some ((bD.mk 11 0 [] false []),s0,())
   else
    if(decide ((List.length t5:Int)=1))=true then
     if(0:Int)≤0∧(0:Int)<(List.length t5:Int) then
      some ((List.getD t5 0 cY),s0,())
     else none
    else
     some ((bD.mk 6 0 [] false t5),s0,())
 else
  if(decide ((List.length t5:Int)=0))=true then
   some ((bD.mk 11 0 [] false []),s0,())
  else
   if(decide ((List.length t5:Int)=1))=true then
    if(0:Int)≤0∧(0:Int)<(List.length t5:Int) then
     some ((List.getD t5 0 cY),s0,())
    else none
   else
    some ((bD.mk 6 0 [] false t5),s0,())
def mu(F:FsBuild)(s0:bM)(t1:Int):Option (Bool×bM×Unit) :=
 if(!s0.bad)=true then
  if(decide (s0.at_<(List.length s0.s:Int)))=true then
   if(0:Int)≤s0.at_∧s0.at_<(List.length s0.s:Int) then
    some ((decide ((List.getD s0.s s0.at_.toNat 0)=t1)),s0,())
   else none
  else
   some (false,s0,())
 else
  some (false,s0,())
def ny(F:FsBuild)(s0:bN):Option (Bool×bN×Unit) :=
 (F.s_l8Now s0).bind fun(r0:bG×bN×Unit) =>
 if(decide (r0.2.1.bad≥0))=true then
  some (false,r0.2.1,())
 else
  if(decide (r0.1.Kind=2))=true then
   F.s_l8Begins_L1 r0.1.Kind (decide (r0.1.Kind=2)) r0.2.1 r0.1
  else
   if(decide (r0.1.Kind=3))=true then
    F.s_l8Begins_L1 r0.1.Kind (decide (r0.1.Kind=3)) r0.2.1 r0.1
   else
    F.s_l8Begins_L1 r0.1.Kind (decide (r0.1.Kind=4)) r0.2.1 r0.1
def nz(F:FsBuild)(t12:Int)(t13:Bool)(s0:bN)(s48:bG):Option (Bool×bN×Unit) :=
 if t13=true then
  some (true,s0,())
 else
  if(decide (t12=1))=true then
   (F.s_Keyword s48.Text).bind fun(r0:Bool×Unit) =>
   if(!r0.1)=true then
    some (true,s0,())
   else
    if(decide (s48.Text=[78,82]))=true then
     some (true,s0,())
    else
     if(decide (s48.Text=[78,70]))=true then
      some (true,s0,())
     else
      (F.s_l7Calls ).bind fun(r1:(List (List Int))×Unit) =>
      (F.s_l7Within r1.1 s48.Text).bind fun(r2:Bool×Unit) =>
      some (r2.1,s0,())
  else
   if(decide (s48.Kind=5))=true then
    if(decide (s48.Text=[36]))=true then
     some (true,s0,())
    else
     some ((decide (s48.Text=[40])),s0,())
   else
    some (false,s0,())
def nw(F:FsBuild)(s0:bN):Option (bw×bN×Unit) :=
 if s0.has=true then
  some (s0.kept,(bN.mk s0.list s0.at_ s0.bad false s0.kept),())
 else
  (F.s_l8Now s0).bind fun(r0:bG×bN×Unit) =>
  if(decide (r0.2.1.bad≥0))=true then
   some ((bw.mk 0 0 [] []),r0.2.1,())
  else
   if(decide (r0.1.Kind=2))=true then
    (F.s_l8Next r0.2.1).bind fun(r1:bN×Unit) =>
    some ((bw.mk 1 r0.1.N [] []),r1.1,())
   else
    if(decide (r0.1.Kind=3))=true then
     (F.s_l8Next r0.2.1).bind fun(r2:bN×Unit) =>
     some ((bw.mk 2 0 r0.1.Text []),r2.1,())
    else
     if(decide (r0.1.Kind=4))=true then
      (F.s_l8Next r0.2.1).bind fun(r3:bN×Unit) =>
      some ((bw.mk 3 0 r0.1.Text []),r3.1,())
     else
      if(decide (r0.1.Kind=1))=true then
       (F.s_l8Named r0.2.1).bind fun(r4:bw×bN×Unit) =>
       some (r4.1,r4.2.1,())
      else
       (F.s_l8Sign r0.2.1 [36]).bind fun(r5:Bool×bN×Unit) =>
       if r5.1=true then
        (F.s_l8Next r5.2.1).bind fun(r6:bN×Unit) =>
        (F.s_l8Atom r6.1).bind fun(r7:bw×bN×Unit) =>
        (F.s_l8Kids 6 [r7.1]).bind fun(r8:(Int×(Int×((List Int)×((List bw)×Unit))))×Unit) =>
        some ((bw.mk r8.1.1 r8.1.2.1 r8.1.2.2.1 r8.1.2.2.2.1),r7.2.1,())
       else
        (F.s_l8Take r5.2.1 [40]).bind fun(r9:bN×Unit) =>
        (F.s_l8E r9.1).bind fun(r10:bw×bN×Unit) =>
        (F.s_l8Take r10.2.1 [41]).bind fun(r11:bN×Unit) =>
        some (r10.1,r11.1,())
def ob(F:FsBuild)(t0:bw)(t1:Int)(t2:Int):Option (Bool×Unit) :=
 F.s_l9Es_L1 t2 t1 t0
def oc(F:FsBuild)(t2:Int)(t7:Int)(s48:bw):Option (Bool×Unit) :=
 if(decide (t7<t2))=true then
  if(0:Int)≤t7∧t7<(List.length s48.Kids:Int) then
   (F.s_l9IsE ((List.getD s48.Kids t7.toNat cl).Op)).bind fun(r0:Bool×Unit) =>
   if(!r0.1)=true then
    some (false,())
   else
    if(0:Int)≤t7∧t7<(List.length s48.Kids:Int) then
     (F.s_l9Node (List.getD s48.Kids t7.toNat cl)).bind fun(r1:Bool×Unit) =>
     if(!r1.1)=true then
      some (false,())
     else
      F.s_l9Es_L1 t2 (w64 (t7+1)) s48
    else none
  else none
 else
  some (true,())
def n9(F:FsBuild)(t0:bw)(t1:Int):Option (Bool×Unit) :=
 F.s_l9Blocks_L1 t1 t0
def oa(F:FsBuild)(t5:Int)(s32:bw):Option (Bool×Unit) :=
 if(decide (t5<(List.length s32.Kids:Int)))=true then
  if(0:Int)≤t5∧t5<(List.length s32.Kids:Int) then
   if(!(decide (((List.getD s32.Kids t5.toNat cl).Op)=29)))=true then
    some (false,())
   else
    if(0:Int)≤t5∧t5<(List.length s32.Kids:Int) then
     (F.s_l9Node (List.getD s32.Kids t5.toNat cl)).bind fun(r0:Bool×Unit) =>
     if(!r0.1)=true then
      some (false,())
     else
      F.s_l9Blocks_L1 (w64 (t5+1)) s32
    else none
  else none
 else
  some (true,())
def mA(F:FsBuild)(s0:bM)(t1:Int):Option (bD×bM×Unit) :=
 (F.s_l3Atom s0 t1).bind fun(r0:bD×bM×Unit) =>
 F.s_l3Piece_L1 r0.2.1 cY r0.1
def mB(F:FsBuild)(s0:bM)(s64:bD)(s80:bD):Option (bD×bM×Unit) :=
 if(!s0.bad)=true then
  (F.s_l3Now s0 42).bind fun(r0:Bool×bM×Unit) =>
  if r0.1=true then
   F.s_l3Piece_L2 8 r0.2.1 s64 s80
  else
   (F.s_l3Now r0.2.1 43).bind fun(r1:Bool×bM×Unit) =>
   if r1.1=true then
    F.s_l3Piece_L2 9 r1.2.1 s64 s80
   else
    (F.s_l3Now r1.2.1 63).bind fun(r2:Bool×bM×Unit) =>
    if r2.1=true then
     F.s_l3Piece_L2 10 r2.2.1 s64 s80
    else
     F.s_l3Piece_L2 0 r2.2.1 s64 s80
 else
  some (s80,s0,())
def mC(F:FsBuild)(t6:Int)(s0:bM)(s64:bD)(s80:bD):Option (bD×bM×Unit) :=
 if(decide (t6=0))=true then
  some (s80,s0,())
 else
  F.s_l3Piece_L1 (bM.mk s0.s (w64 (s0.at_+1)) s0.bad) s64 (bD.mk t6 0 [] false [s80])
def mp(F:FsBuild)(s0:bM)(t1:Int):Option (bD×bM×Unit) :=
 if s0.bad=true then
  some ((bD.mk 0 0 [] false []),(bM.mk s0.s s0.at_ true),())
 else
  if(decide (s0.at_≥(List.length s0.s:Int)))=true then
   some ((bD.mk 0 0 [] false []),(bM.mk s0.s s0.at_ true),())
  else
   if(decide (t1>40))=true then
    some ((bD.mk 0 0 [] false []),(bM.mk s0.s s0.at_ true),())
   else
    if(0:Int)≤s0.at_∧s0.at_<(List.length s0.s:Int) then
     if(decide ((List.getD s0.s s0.at_.toNat 0)=40))=true then
      (F.s_l3Pattern (bM.mk s0.s (w64 (s0.at_+1)) s0.bad) (w64 (t1+1))).bind fun(r0:bD×bM×Unit) =>
      (F.s_l3Now r0.2.1 41).bind fun(r1:Bool×bM×Unit) =>
      if(!r1.1)=true then
       some (r0.1,(bM.mk r1.2.1.s (w64 (r1.2.1.at_+1)) true),())
      else
       some (r0.1,(bM.mk r1.2.1.s (w64 (r1.2.1.at_+1)) r1.2.1.bad),())
     else
      if(decide ((List.getD s0.s s0.at_.toNat 0)=46))=true then
       some ((bD.mk 2 0 [] false []),(bM.mk s0.s (w64 (s0.at_+1)) s0.bad),())
      else
       if(decide ((List.getD s0.s s0.at_.toNat 0)=94))=true then
        some ((bD.mk 4 0 [] false []),(bM.mk s0.s (w64 (s0.at_+1)) s0.bad),())
       else
        if(decide ((List.getD s0.s s0.at_.toNat 0)=36))=true then
         some ((bD.mk 5 0 [] false []),(bM.mk s0.s (w64 (s0.at_+1)) s0.bad),())
        else
         if(decide ((List.getD s0.s s0.at_.toNat 0)=91))=true then
          (F.s_l3Set (bM.mk s0.s (w64 (s0.at_+1)) s0.bad)).bind fun(r2:bD×bM×Unit) =>
          some (r2.1,r2.2.1,())
         else
          if(decide ((List.getD s0.s s0.at_.toNat 0)=92))=true then
           if(decide ((w64 (s0.at_+1))≥(List.length s0.s:Int)))=true then
            some ((bD.mk 0 0 [] false []),(bM.mk s0.s (w64 (s0.at_+1)) true),())
           else
            if(0:Int)≤(w64 (s0.at_+1))∧(w64 (s0.at_+1))<(List.length s0.s:Int) then
             some ((bD.mk 1 (w64 (List.getD s0.s (w64 (s0.at_+1)).toNat 0)) [] false []),(bM.mk s0.s (w64 ((w64 (s0.at_+1))+1)) s0.bad),())
            else none
          else
           if(decide ((List.getD s0.s s0.at_.toNat 0)=42))=true then
            if(decide ((List.getD s0.s s0.at_.toNat 0)=42))=true then
             F.s_l3Atom_L1 (List.getD s0.s s0.at_.toNat 0) (bM.mk s0.s (w64 (s0.at_+1)) true) cY
            else
             F.s_l3Atom_L1 (List.getD s0.s s0.at_.toNat 0) (bM.mk s0.s (w64 (s0.at_+1)) s0.bad) cY
           else
            if(decide ((List.getD s0.s s0.at_.toNat 0)=43))=true then
             if(decide ((List.getD s0.s s0.at_.toNat 0)=43))=true then
              F.s_l3Atom_L1 (List.getD s0.s s0.at_.toNat 0) (bM.mk s0.s (w64 (s0.at_+1)) true) cY
             else
              F.s_l3Atom_L1 (List.getD s0.s s0.at_.toNat 0) (bM.mk s0.s (w64 (s0.at_+1)) s0.bad) cY
            else
             if(decide ((List.getD s0.s s0.at_.toNat 0)=63))=true then
              F.s_l3Atom_L1 (List.getD s0.s s0.at_.toNat 0) (bM.mk s0.s (w64 (s0.at_+1)) true) cY
             else
              F.s_l3Atom_L1 (List.getD s0.s s0.at_.toNat 0) (bM.mk s0.s (w64 (s0.at_+1)) s0.bad) cY
    else none
def mq(F:FsBuild)(t5:Int)(s0:bM)(s64:bD):Option (bD×bM×Unit) :=
 some ((bD.mk 1 (w64 t5) [] false []),s0,())
def lq(F:FsBuild)(t0:bD):Option ((List bA)×Unit) :=
 (F.s_RexOk t0).bind fun(r0:Bool×Unit) =>
 if(!r0.1)=true then
  some ([],())
 else
  (F.s_l4Of [] t0).bind fun(r1:(List bA)×Unit) =>
  (F.s_l4Put r1.1 8).bind fun(r2:(List bA)×Unit) =>
  some (r2.1,())
def mH(F:FsBuild)(s0:bM):Option (bD×bM×Unit) :=
 (F.s_l3Now s0 94).bind fun(r0:Bool×bM×Unit) =>
 if r0.1=true then
  F.s_l3Set_L1 (bM.mk r0.2.1.s (w64 (r0.2.1.at_+1)) r0.2.1.bad) cY (bD.mk 3 0 [] true [])
 else
  F.s_l3Set_L1 r0.2.1 cY (bD.mk 3 0 [] false [])
def mI(F:FsBuild)(s0:bM)(s32:bD)(s48:bD):Option (bD×bM×Unit) :=
 F.s_l3Set_L2 (List.replicate 256 false) 0 s0 s32 s48
def mJ(F:FsBuild)(t4:(List Bool))(t5:Int)(s0:bM)(s32:bD)(s48:bD):Option (bD×bM×Unit) :=
 if(decide (s0.at_<(List.length s0.s:Int)))=true then
  if(0:Int)≤s0.at_∧s0.at_<(List.length s0.s:Int) then
   if(!(decide ((List.getD s0.s s0.at_.toNat 0)=93)))=true then
    if(0:Int)≤s0.at_∧s0.at_<(List.length s0.s:Int) then
     if(decide ((w64 ((w64 (s0.at_+1))+1))<(List.length s0.s:Int)))=true then
      if(0:Int)≤(w64 (s0.at_+1))∧(w64 (s0.at_+1))<(List.length s0.s:Int) then
       if(decide ((List.getD s0.s (w64 (s0.at_+1)).toNat 0)=45))=true then
        if(0:Int)≤(w64 ((w64 (s0.at_+1))+1))∧(w64 ((w64 (s0.at_+1))+1))<(List.length s0.s:Int) then
         if(!(decide ((List.getD s0.s (w64 ((w64 (s0.at_+1))+1)).toNat 0)=93)))=true then
          if(0:Int)≤(w64 ((w64 (s0.at_+1))+1))∧(w64 ((w64 (s0.at_+1))+1))<(List.length s0.s:Int) then
           F.s_l3Set_L3 t4 t5 (w64 (List.getD s0.s s0.at_.toNat 0)) (w64 (List.getD s0.s (w64 ((w64 (s0.at_+1))+1)).toNat 0)) (bM.mk s0.s (w64 ((w64 (s0.at_+1))+2)) s0.bad) s32 s48
          else none
         else
          F.s_l3Set_L3 t4 t5 (w64 (List.getD s0.s s0.at_.toNat 0)) (w64 (List.getD s0.s s0.at_.toNat 0)) (bM.mk s0.s (w64 (s0.at_+1)) s0.bad) s32 s48
        else none
       else
        F.s_l3Set_L3 t4 t5 (w64 (List.getD s0.s s0.at_.toNat 0)) (w64 (List.getD s0.s s0.at_.toNat 0)) (bM.mk s0.s (w64 (s0.at_+1)) s0.bad) s32 s48
      else none
     else
      F.s_l3Set_L3 t4 t5 (w64 (List.getD s0.s s0.at_.toNat 0)) (w64 (List.getD s0.s s0.at_.toNat 0)) (bM.mk s0.s (w64 (s0.at_+1)) s0.bad) s32 s48
    else none
   else
    if(decide (s0.at_≥(List.length s0.s:Int)))=true then
     F.s_l3Set_L4 t4 (bM.mk s0.s s0.at_ true) s32 s48
    else
     if(decide (t5=0))=true then
      F.s_l3Set_L4 t4 (bM.mk s0.s s0.at_ true) s32 s48
     else
      F.s_l3Set_L4 t4 s0 s32 s48
  else none
 else
  if(decide (s0.at_≥(List.length s0.s:Int)))=true then
   F.s_l3Set_L4 t4 (bM.mk s0.s s0.at_ true) s32 s48
  else
   if(decide (t5=0))=true then
    F.s_l3Set_L4 t4 (bM.mk s0.s s0.at_ true) s32 s48
   else
    F.s_l3Set_L4 t4 s0 s32 s48
def mK(F:FsBuild)(t4:(List Bool))(t5:Int)(t6:Int)(t7:Int)(s0:bM)(s32:bD)(s48:bD):Option (bD×bM×Unit) :=
 if(decide (t7<t6))=true then
  F.s_l3Set_L5 t4 t5 t6 t7 (bM.mk s0.s s0.at_ true) s32 s48
 else
  F.s_l3Set_L5 t4 t5 t6 t7 s0 s32 s48
def mL(F:FsBuild)(t4:(List Bool))(s0:bM)(s32:bD)(s48:bD):Option (bD×bM×Unit) :=
 F.s_l3Set_L6 t4 [] 0 (bM.mk s0.s (w64 (s0.at_+1)) s0.bad) s32 s48
def mM(F:FsBuild)(t4:(List Bool))(t5:Int)(t6:Int)(t7:Int)(s0:bM)(s32:bD)(s48:bD):Option (bD×bM×Unit) :=
 F.s_l3Set_L7 t4 t5 t7 t6 s0 s32 s48
def mN(F:FsBuild)(t4:(List Bool))(t9:(List Int))(t10:Int)(s0:bM)(s32:bD)(s48:bD):Option (bD×bM×Unit) :=
 if(decide (t10<256))=true then
  if(0:Int)≤t10∧t10<(List.length t4:Int) then
   if(List.getD t4 t10.toNat false)=true then
    if List.length t9+1≤room then
     F.s_l3Set_L6 t4 (List.append t9 [(w8 t10)]) (w64 (t10+1)) s0 s32 s48
    else none
   else
    F.s_l3Set_L6 t4 t9 (w64 (t10+1)) s0 s32 s48
  else none
 else
  some ((bD.mk s48.Op s48.C t9 s48.Not s48.Kids),s0,())
def mO(F:FsBuild)(t4:(List Bool))(t5:Int)(t7:Int)(t8:Int)(s0:bM)(s32:bD)(s48:bD):Option (bD×bM×Unit) :=
 if(decide (t8≤t7))=true then
  if(0:Int)≤t8∧t8<(List.length t4:Int) then
   F.s_l3Set_L7 (List.set t4 t8.toNat true) t5 t7 (w64 (t8+1)) s0 s32 s48
  else none
 else
  F.s_l3Set_L2 t4 (w64 (t5+1)) s0 s32 s48
def lz(F:FsBuild)(t0:bD):Option (Bool×Unit) :=
 (F.s_l3Deep t0).bind fun(r0:Int×Unit) =>
 if(decide (r0.1≤12))=true then
  (F.s_l3Right t0).bind fun(r1:Bool×Unit) =>
  some (r1.1,())
 else
  some (false,())
def mR(F:FsBuild)(t0:(List bA))(t1:bD):Option ((List bA)×Unit) :=
 if(decide (t1.Op=1))=true then
  if List.length t0+1≤room then
   some ((List.append t0 [(bA.mk 1 t1.C [] false 0 0)]),())
  else none
 else
  if(decide (t1.Op=2))=true then
   (F.s_l4Put t0 2).bind fun(r0:(List bA)×Unit) =>
   some (r0.1,())
  else
   if(decide (t1.Op=3))=true then
    if List.length t0+1≤room then
     some ((List.append t0 [(bA.mk 3 0 t1.Set t1.Not 0 0)]),())
    else none
   else
    if(decide (t1.Op=4))=true then
     (F.s_l4Put t0 4).bind fun(r1:(List bA)×Unit) =>
     some (r1.1,())
    else
     if(decide (t1.Op=5))=true then
      (F.s_l4Put t0 5).bind fun(r2:(List bA)×Unit) =>
      some (r2.1,())
     else
      if(decide (t1.Op=6))=true then
       F.s_l4Of_L1 t0 0 t1
      else
       if(decide (t1.Op=7))=true then
        (F.s_l4Or t0 t1.Kids).bind fun(r3:(List bA)×Unit) =>
        some (r3.1,())
       else
        if(decide (t1.Op=8))=true then
         (F.s_l4Put t0 7).bind fun(r4:(List bA)×Unit) =>
         if(0:Int)≤0∧(0:Int)<(List.length t1.Kids:Int) then
          (F.s_l4Of r4.1 (List.getD t1.Kids 0 cY)).bind fun(r5:(List bA)×Unit) =>
          if List.length r5.1+1≤room then
           if(0:Int)≤(List.length t0:Int)∧(List.length t0:Int)<(List.length (List.append r5.1 [(bA.mk 6 0 [] false (List.length t0:Int) 0)]):Int) then
            let v0:(List bA):=(List.set (List.append r5.1 [(bA.mk 6 0 [] false (List.length t0:Int) 0)]) (List.length t0:Int).toNat (bA.mk ((List.getD (List.append r5.1 [(bA.mk 6 0 [] false (List.length t0:Int) 0)]) (List.length t0:Int).toNat cg).Op) ((List.getD (List.append r5.1 [(bA.mk 6 0 [] false (List.length t0:Int) 0)]) (List.length t0:Int).toNat cg).C) ((List.getD (List.append r5.1 [(bA.mk 6 0 [] false (List.length t0:Int) 0)]) (List.length t0:Int).toNat cg).Set) ((List.getD (List.append r5.1 [(bA.mk 6 0 [] false (List.length t0:Int) 0)]) (List.length t0:Int).toNat cg).Not) (w64 ((List.length t0:Int)+1)) ((List.getD (List.append r5.1 [(bA.mk 6 0 [] false (List.length t0:Int) 0)]) (List.length t0:Int).toNat cg).B)))
            if(0:Int)≤(List.length t0:Int)∧(List.length t0:Int)<(List.length v0:Int) then
             let v1:(List bA):=(List.set v0 (List.length t0:Int).toNat (bA.mk ((List.getD v0 (List.length t0:Int).toNat cg).Op) ((List.getD v0 (List.length t0:Int).toNat cg).C) ((List.getD v0 (List.length t0:Int).toNat cg).Set) ((List.getD v0 (List.length t0:Int).toNat cg).Not) ((List.getD v0 (List.length t0:Int).toNat cg).A) (List.length v0:Int)))
             F.s_l4Of_L2 v1
            else none
           else none
          else none
         else none
        else
         if(decide (t1.Op=9))=true then
          if(0:Int)≤0∧(0:Int)<(List.length t1.Kids:Int) then
           (F.s_l4Of t0 (List.getD t1.Kids 0 cY)).bind fun(r6:(List bA)×Unit) =>
           if List.length r6.1+1≤room then
            F.s_l4Of_L2 (List.append r6.1 [(bA.mk 7 0 [] false (List.length t0:Int) (w64 ((List.length r6.1:Int)+1)))])
           else none
          else none
         else
          if(decide (t1.Op=10))=true then
           (F.s_l4Put t0 7).bind fun(r7:(List bA)×Unit) =>
           if(0:Int)≤0∧(0:Int)<(List.length t1.Kids:Int) then
            (F.s_l4Of r7.1 (List.getD t1.Kids 0 cY)).bind fun(r8:(List bA)×Unit) =>
            if(0:Int)≤(List.length t0:Int)∧(List.length t0:Int)<(List.length r8.1:Int) then
             let v2:(List bA):=(List.set r8.1 (List.length t0:Int).toNat (bA.mk ((List.getD r8.1 (List.length t0:Int).toNat cg).Op) ((List.getD r8.1 (List.length t0:Int).toNat cg).C) ((List.getD r8.1 (List.length t0:Int).toNat cg).Set) ((List.getD r8.1 (List.length t0:Int).toNat cg).Not) (w64 ((List.length t0:Int)+1)) ((List.getD r8.1 (List.length t0:Int).toNat cg).B)))
             if(0:Int)≤(List.length t0:Int)∧(List.length t0:Int)<(List.length v2:Int) then
              let v3:(List bA):=(List.set v2 (List.length t0:Int).toNat (bA.mk ((List.getD v2 (List.length t0:Int).toNat cg).Op) ((List.getD v2 (List.length t0:Int).toNat cg).C) ((List.getD v2 (List.length t0:Int).toNat cg).Set) ((List.getD v2 (List.length t0:Int).toNat cg).Not) ((List.getD v2 (List.length t0:Int).toNat cg).A) (List.length v2:Int)))
              F.s_l4Of_L2 v3
             else none
            else none
           else none
          else
           F.s_l4Of_L2 t0
def mS(F:FsBuild)(t0:(List bA))(t6:Int)(s48:bD):Option ((List bA)×Unit) :=
 if(decide (t6<(List.length s48.Kids:Int)))=true then
  if(0:Int)≤t6∧t6<(List.length s48.Kids:Int) then
   (F.s_l4Of t0 (List.getD s48.Kids t6.toNat cY)).bind fun(r0:(List bA)×Unit) =>
   F.s_l4Of_L1 r0.1 (w64 (t6+1)) s48
  else none
 else
  F.s_l4Of_L2 t0
def mT(F:FsBuild)(t0:(List bA)):Option ((List bA)×Unit) :=
 some (t0,())
def mX(F:FsBuild)(t0:(List bA))(t1:Int):Option ((List bA)×Unit) :=
 if List.length t0+1≤room then
  some ((List.append t0 [(bA.mk t1 0 [] false 0 0)]),())
 else none
def mD(F:FsBuild)(t0:bD):Option (Bool×Unit) :=
 F.s_l3Right_L1 0 t0
def mE(F:FsBuild)(t3:Int)(s16:bD):Option (Bool×Unit) :=
 if(decide (t3<(List.length s16.Kids:Int)))=true then
  if(0:Int)≤t3∧t3<(List.length s16.Kids:Int) then
   (F.s_l3Right (List.getD s16.Kids t3.toNat cY)).bind fun(r0:Bool×Unit) =>
   if(!r0.1)=true then
    some (false,())
   else
    F.s_l3Right_L1 (w64 (t3+1)) s16
  else none
 else
  if(decide (s16.Op=1))=true then
   (F.s_l1In s16.C 0 255).bind fun(r1:Bool×Unit) =>
   if r1.1=true then
    if(decide (s16.Set=[]))=true then
     if(!s16.Not)=true then
      some ((decide ((List.length s16.Kids:Int)=0)),())
     else
      some (false,())
    else
     some (false,())
   else
    some (false,())
  else
   if(decide (s16.Op=3))=true then
    if(decide (s16.C=0))=true then
     if(!(decide (s16.Set=[])))=true then
      (F.s_l3Up s16.Set).bind fun(r2:Bool×Unit) =>
      if r2.1=true then
       some ((decide ((List.length s16.Kids:Int)=0)),())
      else
       some (false,())
     else
      some (false,())
    else
     some (false,())
   else
    if(decide (s16.Op=6))=true then
     F.s_l3Right_L2 (List.length s16.Kids:Int) s16.Op (decide (s16.Op=6)) s16
    else
     F.s_l3Right_L2 (List.length s16.Kids:Int) s16.Op (decide (s16.Op=7)) s16
def mF(F:FsBuild)(t4:Int)(t23:Int)(t62:Bool)(s16:bD):Option (Bool×Unit) :=
 if t62=true then
  if(decide (s16.C=0))=true then
   if(decide (s16.Set=[]))=true then
    if(!s16.Not)=true then
     some ((decide (t4≥2)),())
    else
     some (false,())
   else
    some (false,())
  else
   some (false,())
 else
  if(decide (t23=8))=true then
   F.s_l3Right_L3 t4 (decide (t23=8)) s16
  else
   if(decide (t23=9))=true then
    F.s_l3Right_L3 t4 (decide (t23=9)) s16
   else
    F.s_l3Right_L3 t4 (decide (t23=10)) s16
def mG(F:FsBuild)(t4:Int)(t82:Bool)(s16:bD):Option (Bool×Unit) :=
 if t82=true then
  if(decide (s16.C=0))=true then
   if(decide (s16.Set=[]))=true then
    if(!s16.Not)=true then
     some ((decide (t4=1)),())
    else
     some (false,())
   else
    some (false,())
  else
   some (false,())
 else
  (F.s_l1In s16.Op 2 11).bind fun(r0:Bool×Unit) =>
  if r0.1=true then
   if(decide (s16.C=0))=true then
    if(decide (s16.Set=[]))=true then
     if(!s16.Not)=true then
      some ((decide (t4=0)),())
     else
      some (false,())
    else
     some (false,())
   else
    some (false,())
  else
   some (false,())
def mU(F:FsBuild)(t0:(List bA))(t1:(List bD)):Option ((List bA)×Unit) :=
 F.s_l4Or_L1 t0 t1 [] 0
def mV(F:FsBuild)(t0:(List bA))(t1:(List bD))(t5:(List Int))(t6:Int):Option ((List bA)×Unit) :=
 if(decide (t6<(w64 ((List.length t1:Int)-1))))=true then
  (F.s_l4Put t0 7).bind fun(r0:(List bA)×Unit) =>
  if(0:Int)≤t6∧t6<(List.length t1:Int) then
   (F.s_l4Of r0.1 (List.getD t1 t6.toNat cY)).bind fun(r1:(List bA)×Unit) =>
   if List.length t5+1≤room then
    (F.s_l4Put r1.1 6).bind fun(r2:(List bA)×Unit) =>
    if(0:Int)≤(List.length t0:Int)∧(List.length t0:Int)<(List.length r2.1:Int) then
     let v0:(List bA):=(List.set r2.1 (List.length t0:Int).toNat (bA.mk ((List.getD r2.1 (List.length t0:Int).toNat cg).Op) ((List.getD r2.1 (List.length t0:Int).toNat cg).C) ((List.getD r2.1 (List.length t0:Int).toNat cg).Set) ((List.getD r2.1 (List.length t0:Int).toNat cg).Not) (w64 ((List.length t0:Int)+1)) ((List.getD r2.1 (List.length t0:Int).toNat cg).B)))
     if(0:Int)≤(List.length t0:Int)∧(List.length t0:Int)<(List.length v0:Int) then
      let v1:(List bA):=(List.set v0 (List.length t0:Int).toNat (bA.mk ((List.getD v0 (List.length t0:Int).toNat cg).Op) ((List.getD v0 (List.length t0:Int).toNat cg).C) ((List.getD v0 (List.length t0:Int).toNat cg).Set) ((List.getD v0 (List.length t0:Int).toNat cg).Not) ((List.getD v0 (List.length t0:Int).toNat cg).A) (List.length v0:Int)))
      F.s_l4Or_L1 v1 t1 (List.append t5 [(List.length r1.1:Int)]) (w64 (t6+1))
     else none
    else none
   else none
  else none
 else
  if(0:Int)≤(w64 ((List.length t1:Int)-1))∧(w64 ((List.length t1:Int)-1))<(List.length t1:Int) then
   (F.s_l4Of t0 (List.getD t1 (w64 ((List.length t1:Int)-1)).toNat cY)).bind fun(r3:(List bA)×Unit) =>
   F.s_l4Or_L2 r3.1 t5 0
  else none
def mW(F:FsBuild)(t0:(List bA))(t5:(List Int))(t8:Int):Option ((List bA)×Unit) :=
 if(decide (t8<(List.length t5:Int)))=true then
  if(0:Int)≤t8∧t8<(List.length t5:Int) then
   if(0:Int)≤(List.getD t5 t8.toNat 0)∧(List.getD t5 t8.toNat 0)<(List.length t0:Int) then
    let v2:(List bA):=(List.set t0 (List.getD t5 t8.toNat 0).toNat (bA.mk ((List.getD t0 (List.getD t5 t8.toNat 0).toNat cg).Op) ((List.getD t0 (List.getD t5 t8.toNat 0).toNat cg).C) ((List.getD t0 (List.getD t5 t8.toNat 0).toNat cg).Set) ((List.getD t0 (List.getD t5 t8.toNat 0).toNat cg).Not) (List.length t0:Int) ((List.getD t0 (List.getD t5 t8.toNat 0).toNat cg).B)))
    F.s_l4Or_L2 v2 t5 (w64 (t8+1))
   else none
  else none
 else
  some (t0,())
def mP(F:FsBuild)(t0:(List Int)):Option (Bool×Unit) :=
 F.s_l3Up_L1 t0 1
def mQ(F:FsBuild)(t0:(List Int))(t3:Int):Option (Bool×Unit) :=
 if(decide (t3<(List.length t0:Int)))=true then
  if(0:Int)≤(w64 (t3-1))∧(w64 (t3-1))<(List.length t0:Int) then
   if(0:Int)≤t3∧t3<(List.length t0:Int) then
    if(decide ((List.getD t0 (w64 (t3-1)).toNat 0)≥(List.getD t0 t3.toNat 0)))=true then
     some (false,())
    else
     F.s_l3Up_L1 t0 (w64 (t3+1))
   else none
  else none
 else
  some (true,())
noncomputable def bO:FsBuild:=⟨s_l1In,s_Build,s_ProgOk,s_ProgOk_L1,s_ProgOk_L2,s_l9Line,s_l9Line_L1,s_Parse,s_Parse_L1,s_Compile,s_Compile_L1,s_l9Name,s_l9Name_L1,s_l7Within,s_l7Within_L1,s_OpsOk,s_OpsOk_L1,s_Tokens,s_Tokens_L1,s_Tokens_L2,s_l8Now,s_l8Rule,s_Deep,s_Deep_L1,s_l1Max,s_Check,s_Check_L1,s_Check_L2,s_Check_L3,s_Check_L4,s_Names,s_Names_L1,s_l14Block,s_l14Block_L1,s_l14E,s_l14E_L1,s_l14E_L2,s_l14Put,s_l7Letter,s_Keyword,s_l13Op,s_l13Op_L1,s_l13Op_L2,s_l13Op_L3,s_l13Op_L4,s_l7One,s_l7One_L1,s_l8Is,s_l8Next,s_l8Block,s_l8Block_L1,s_l8Sign,s_l8E,s_l8E_L1,s_l8Kids,s_Tidy,s_Tidy_L1,s_l10Line,s_l10Line_L1,s_l10Args,s_l10Args_L1,s_l10Args_L2,s_l10Rexes,s_l10Rexes_L1,s_l10Names,s_l10Names_L1,s_l10Names_L2,s_l14Stmt,s_l14Set,s_l14And,s_l14Or,s_l14Last,s_l7Calls,s_DecOk,s_RexParse,s_l2Digit,s_l7Number,s_l7Number_L1,s_l7Number_L2,s_l7Number_L3,s_l7Text,s_l7Text_L1,s_l7After,s_l7Rex,s_l7Rex_L1,s_l7Sign,s_l7Sign_L1,s_l8Take,s_l8Stmt,s_l8Named,s_l8Level,s_l9Node,s_l9Node_L1,s_l9IsE,s_l10Put,s_l10Put_L1,s_l14Print,s_l14Print_L1,s_l14Print_L2,s_l14If,s_l14While,s_l12Where,s_l12Where_L1,s_l1Bit,s_l3Pattern,s_l3Pattern_L1,s_l3Deep,s_l3Deep_L1,s_DecFront,s_DecFront_L1,s_DecFront_L2,s_DecFront_L3,s_DecFront_L4,s_DecFront_L5,s_l8Bad,s_l8While,s_l8Simple,s_l8Simple_L1,s_l8Es,s_l8Es_L1,s_l8Name,s_l8Compare,s_l8Compare_L1,s_l8Row,s_l8Row_L1,s_l8Unit,s_l8Left,s_l8Left_L1,s_l8Left_L2,s_l8Left_L3,s_l9Kids,s_l9Kids_L1,s_l9Kids_L2,s_l9Kids_L3,s_l9Kids_L4,s_l9Kids_L5,s_l9Rex,s_l9Rex_L1,s_l3Part,s_l3Part_L1,s_l3Now,s_l8Begins,s_l8Begins_L1,s_l8Atom,s_l9Es,s_l9Es_L1,s_l9Blocks,s_l9Blocks_L1,s_l3Piece,s_l3Piece_L1,s_l3Piece_L2,s_l3Atom,s_l3Atom_L1,s_NfaOf,s_l3Set,s_l3Set_L1,s_l3Set_L2,s_l3Set_L3,s_l3Set_L4,s_l3Set_L5,s_l3Set_L6,s_l3Set_L7,s_RexOk,s_l4Of,s_l4Of_L1,s_l4Of_L2,s_l4Put,s_l3Right,s_l3Right_L1,s_l3Right_L2,s_l3Right_L3,s_l4Or,s_l4Or_L1,s_l4Or_L2,s_l3Up,s_l3Up_L1⟩
theorem Da{F:FsBuild}(H:LeFsBuild F):∀ (t0:Int) (t1:Int) (t2:Int),LeO (mm F t0 t1 t2) (s_l1In t0 t1 t2):=fun t0 t1 t2=>(show s_l1In t0 t1 t2=mm bO t0 t1 t2 from leq (by kernel_rfl)).symm ▸ (show LeO (mm F t0 t1 t2) (mm bO t0 t1 t2) from(li lr lr))
theorem BX{F:FsBuild}(H:LeFsBuild F):∀ (t0:(List Int)),LeO (kQ F t0) (s_Build t0):=fun t0=>(show s_Build t0=kQ bO t0 from leq (by kernel_rfl)).symm ▸ (show LeO (kQ F t0) (kQ bO t0) from(lb (H.s_Parse _) fun _=>(li lr (lb (H.s_Compile _) fun _=>lr))))
theorem Cp{F:FsBuild}(H:LeFsBuild F):∀ (t0:bB),LeO (lw F t0) (s_ProgOk t0):=fun t0=>(show s_ProgOk t0=lw bO t0 from leq (by kernel_rfl)).symm ▸ (show LeO (lw F t0) (lw bO t0) from(H.s_ProgOk_L1 _ _))
theorem Cq{F:FsBuild}(H:LeFsBuild F):∀ (t3:Int) (s16:bB),LeO (lx F t3 s16) (s_ProgOk_L1 t3 s16):=fun t3 s16=>(show s_ProgOk_L1 t3 s16=lx bO t3 s16 from leq (by kernel_rfl)).symm ▸ (show LeO (lx F t3 s16) (lx bO t3 s16) from(li (li (lb (H.s_l9Name _) fun _=>(li lr (li (lb (H.s_l7Within _ _) fun _=>(li lr (li (li (li (li lr (H.s_ProgOk_L1 _ _)) lr) lr) (H.s_ProgOk_L1 _ _)))) lr))) lr) (H.s_ProgOk_L2 _ _)))
theorem Cr{F:FsBuild}(H:LeFsBuild F):∀ (t4:Int) (s16:bB),LeO (ly F t4 s16) (s_ProgOk_L2 t4 s16):=fun t4 s16=>(show s_ProgOk_L2 t4 s16=ly bO t4 s16 from leq (by kernel_rfl)).symm ▸ (show LeO (ly F t4 s16) (ly bO t4 s16) from(li (li (lb (H.s_l9Name _) fun _=>(li lr (li (li (li (li lr (H.s_ProgOk_L2 _ _)) lr) lr) (H.s_ProgOk_L2 _ _)))) lr) (li (li (lb (H.s_OpsOk _ _ _) fun _=>(li (lb (H.s_OpsOk _ _ _) fun _=>lr) lr)) lr) lr)))
theorem EQ{F:FsBuild}(H:LeFsBuild F):∀ (t0:(List Int)),LeO (oo F t0) (s_l9Line t0):=fun t0=>(show s_l9Line t0=oo bO t0 from leq (by kernel_rfl)).symm ▸ (show LeO (oo F t0) (oo bO t0) from(H.s_l9Line_L1 _ _))
theorem ER{F:FsBuild}(H:LeFsBuild F):∀ (t0:(List Int)) (t3:Int),LeO (oq F t0 t3) (s_l9Line_L1 t0 t3):=fun t0 t3=>(show s_l9Line_L1 t0 t3=oq bO t0 t3 from leq (by kernel_rfl)).symm ▸ (show LeO (oq F t0 t3) (oq bO t0 t3) from(li (li (li lr (H.s_l9Line_L1 _ _)) lr) lr))
theorem Cm{F:FsBuild}(H:LeFsBuild F):∀ (t0:(List Int)),LeO (lu F t0) (s_Parse t0):=fun t0=>(show s_Parse t0=lu bO t0 from leq (by kernel_rfl)).symm ▸ (show LeO (lu F t0) (lu bO t0) from(lb (H.s_Tokens _) fun _=>(li lr (H.s_Parse_L1 _ _ _ _ _ _ _ _))))
theorem Cn{F:FsBuild}(H:LeFsBuild F):∀ (t4:(List bE)) (t8:(List bE)) (t9:Int) (s368_0:(List bG)) (s368_1:Int) (s368_2:Int) (s368_3:Bool) (s368_4:bw),LeO (lv F t4 t8 t9 s368_0 s368_1 s368_2 s368_3 s368_4) (s_Parse_L1 t4 t8 t9 s368_0 s368_1 s368_2 s368_3 s368_4):=fun t4 t8 t9 s368_0 s368_1 s368_2 s368_3 s368_4=>(show s_Parse_L1 t4 t8 t9 s368_0 s368_1 s368_2 s368_3 s368_4=lv bO t4 t8 t9 s368_0 s368_1 s368_2 s368_3 s368_4 from leq (by kernel_rfl)).symm ▸ (show LeO (lv F t4 t8 t9 s368_0 s368_1 s368_2 s368_3 s368_4) (lv bO t4 t8 t9 s368_0 s368_1 s368_2 s368_3 s368_4) from(li (lb (H.s_l8Now _) fun _=>(li (lb (H.s_l8Rule _) fun _=>(li (lb (H.s_Deep _) fun _=>(lb (H.s_Deep _) fun _=>(lb (H.s_l1Max _ _) fun _=>(lb (H.s_l1Max _ _) fun _=>(H.s_Parse_L1 _ _ _ _ _ _ _ _))))) lr)) (li lr (li lr lr)))) (li lr (li lr lr))))
theorem B5{F:FsBuild}(H:LeFsBuild F):∀ (t0:(List bE)),LeO (kW F t0) (s_Compile t0):=fun t0=>(show s_Compile t0=kW bO t0 from leq (by kernel_rfl)).symm ▸ (show LeO (kW F t0) (kW bO t0) from(lb (H.s_Check _) fun _=>(li lr (lb (H.s_Names _) fun _=>(H.s_Compile_L1 _ _ _ _ _ _ _ _ _ _ _)))))
theorem B6{F:FsBuild}(H:LeFsBuild F):∀ (t0:(List bE)) (t5:(List (List Int))) (t6:(List (List Int))) (t9:Int) (s32:bB) (s432_0:(List (List Int))) (s432_1:(List (List Int))) (s432_2:(List bz)) (s496_0:(List (List Int))) (s496_1:(List (List Int))) (s496_2:(List bz)),LeO (kX F t0 t5 t6 t9 s32 s432_0 s432_1 s432_2 s496_0 s496_1 s496_2) (s_Compile_L1 t0 t5 t6 t9 s32 s432_0 s432_1 s432_2 s496_0 s496_1 s496_2):=fun t0 t5 t6 t9 s32 s432_0 s432_1 s432_2 s496_0 s496_1 s496_2=>(show s_Compile_L1 t0 t5 t6 t9 s32 s432_0 s432_1 s432_2 s496_0 s496_1 s496_2=kX bO t0 t5 t6 t9 s32 s432_0 s432_1 s432_2 s496_0 s496_1 s496_2 from leq (by kernel_rfl)).symm ▸ (show LeO (kX F t0 t5 t6 t9 s32 s432_0 s432_1 s432_2 s496_0 s496_1 s496_2) (kX bO t0 t5 t6 t9 s32 s432_0 s432_1 s432_2 s496_0 s496_1 s496_2) from(li (li (li (lb (H.s_l14Block _ _ _ _) fun _=>(H.s_Compile_L1 _ _ _ _ _ _ _ _ _ _ _)) (li (lb (H.s_l14Block _ _ _ _) fun _=>(H.s_Compile_L1 _ _ _ _ _ _ _ _ _ _ _)) (lb (H.s_l14E _ _ _ _) fun _=>(lb (H.s_l14Put _ _ _ _ _ _) fun _=>(lb (H.s_l14Block _ _ _ _) fun _=>(li (H.s_Compile_L1 _ _ _ _ _ _ _ _ _ _ _) lr)))))) lr) (lb (H.s_l14Put _ _ _ _ _ _) fun _=>(lb (H.s_l14Put _ _ _ _ _ _) fun _=>(lb (H.s_ProgOk _) fun _=>(li lr lr))))))
theorem ES{F:FsBuild}(H:LeFsBuild F):∀ (t0:(List Int)),LeO (ot F t0) (s_l9Name t0):=fun t0=>(show s_l9Name t0=ot bO t0 from leq (by kernel_rfl)).symm ▸ (show LeO (ot F t0) (ot bO t0) from(H.s_l9Name_L1 _ _))
theorem ET{F:FsBuild}(H:LeFsBuild F):∀ (t0:(List Int)) (t3:Int),LeO (ou F t0 t3) (s_l9Name_L1 t0 t3):=fun t0 t3=>(show s_l9Name_L1 t0 t3=ou bO t0 t3 from leq (by kernel_rfl)).symm ▸ (show LeO (ou F t0 t3) (ou bO t0 t3) from(li (li (lb (H.s_l7Letter _) fun _=>(li lr (H.s_l9Name_L1 _ _))) lr) (lb (H.s_l1In _ _ _) fun _=>(li (lb (H.s_Keyword _) fun _=>lr) lr))))
theorem D5{F:FsBuild}(H:LeFsBuild F):∀ (t0:(List (List Int))) (t1:(List Int)),LeO (nr F t0 t1) (s_l7Within t0 t1):=fun t0 t1=>(show s_l7Within t0 t1=nr bO t0 t1 from leq (by kernel_rfl)).symm ▸ (show LeO (nr F t0 t1) (nr bO t0 t1) from(H.s_l7Within_L1 _ _ _))
theorem D6{F:FsBuild}(H:LeFsBuild F):∀ (t0:(List (List Int))) (t1:(List Int)) (t5:Int),LeO (nu F t0 t1 t5) (s_l7Within_L1 t0 t1 t5):=fun t0 t1 t5=>(show s_l7Within_L1 t0 t1 t5=nu bO t0 t1 t5 from leq (by kernel_rfl)).symm ▸ (show LeO (nu F t0 t1 t5) (nu bO t0 t1 t5) from(li (li (li lr (H.s_l7Within_L1 _ _ _)) lr) lr))
theorem Ck{F:FsBuild}(H:LeFsBuild F):∀ (t0:(List bz)) (t1:Int) (t2:Int),LeO (ls F t0 t1 t2) (s_OpsOk t0 t1 t2):=fun t0 t1 t2=>(show s_OpsOk t0 t1 t2=ls bO t0 t1 t2 from leq (by kernel_rfl)).symm ▸ (show LeO (ls F t0 t1 t2) (ls bO t0 t1 t2) from(lb (H.s_l1In _ _ _) fun _=>(li lr (li (li lr (H.s_OpsOk_L1 _ _ _ _ _)) lr))))
theorem Cl{F:FsBuild}(H:LeFsBuild F):∀ (t0:(List bz)) (t1:Int) (t2:Int) (t7:Int) (t8:Int),LeO (lt F t0 t1 t2 t7 t8) (s_OpsOk_L1 t0 t1 t2 t7 t8):=fun t0 t1 t2 t7 t8=>(show s_OpsOk_L1 t0 t1 t2 t7 t8=lt bO t0 t1 t2 t7 t8 from leq (by kernel_rfl)).symm ▸ (show LeO (lt F t0 t1 t2 t7 t8) (lt bO t0 t1 t2 t7 t8) from(li (li (lb (H.s_l13Op _ _ _ _) fun _=>(li lr (H.s_OpsOk_L1 _ _ _ _ _))) lr) lr))
theorem Cw{F:FsBuild}(H:LeFsBuild F):∀ (t0:(List Int)),LeO (lD F t0) (s_Tokens t0):=fun t0=>(show s_Tokens t0=lD bO t0 from leq (by kernel_rfl)).symm ▸ (show LeO (lD F t0) (lD bO t0) from(li lr (H.s_Tokens_L1 _ _ _)))
theorem Cy{F:FsBuild}(H:LeFsBuild F):∀ (t0:(List Int)) (t4:(List bG)) (t5:Int),LeO (lE F t0 t4 t5) (s_Tokens_L1 t0 t4 t5):=fun t0 t4 t5=>(show s_Tokens_L1 t0 t4 t5=lE bO t0 t4 t5 from leq (by kernel_rfl)).symm ▸ (show LeO (lE F t0 t4 t5) (lE bO t0 t4 t5) from(li (li (li (H.s_Tokens_L1 _ _ _) (li (li (H.s_Tokens_L1 _ _ _) (li (li (H.s_Tokens_L2 _ _ _) (lb (H.s_l7One _ _ _) fun _=>(li lr (li (H.s_Tokens_L1 _ _ _) lr)))) lr)) lr)) lr) (li lr lr)))
theorem Cz{F:FsBuild}(H:LeFsBuild F):∀ (t0:(List Int)) (t4:(List bG)) (t5:Int),LeO (lF F t0 t4 t5) (s_Tokens_L2 t0 t4 t5):=fun t0 t4 t5=>(show s_Tokens_L2 t0 t4 t5=lF bO t0 t4 t5 from leq (by kernel_rfl)).symm ▸ (show LeO (lF F t0 t4 t5) (lF bO t0 t4 t5) from(li (li (li (H.s_Tokens_L2 _ _ _) (H.s_Tokens_L1 _ _ _)) lr) (H.s_Tokens_L1 _ _ _)))
theorem Et{F:FsBuild}(H:LeFsBuild F):∀ (s0:bN),LeO (nS F s0) (s_l8Now s0):=fun s0=>(show s_l8Now s0=nS bO s0 from leq (by kernel_rfl)).symm ▸ (show LeO (nS F s0) (nS bO s0) from(li lr lr))
theorem Ex{F:FsBuild}(H:LeFsBuild F):∀ (s0:bN),LeO (nV F s0) (s_l8Rule s0):=fun s0=>(show s_l8Rule s0=nV bO s0 from leq (by kernel_rfl)).symm ▸ (show LeO (nV F s0) (nV bO s0) from(lb (H.s_l8Is _ _) fun _=>(li (lb (H.s_l8Next _) fun _=>(lb (H.s_l8Block _) fun _=>lr)) (lb (H.s_l8Sign _ _) fun _=>(li (lb (H.s_l8Block _) fun _=>lr) (lb (H.s_l8E _) fun _=>(lb (H.s_l8Sign _ _) fun _=>(li (lb (H.s_l8Block _) fun _=>lr) (lb (H.s_l8Kids _ _) fun _=>lr)))))))))
theorem Ce{F:FsBuild}(H:LeFsBuild F):∀ (t0:bw),LeO (lj F t0) (s_Deep t0):=fun t0=>(show s_Deep t0=lj bO t0 from leq (by kernel_rfl)).symm ▸ (show LeO (lj F t0) (lj bO t0) from(H.s_Deep_L1 _ _ _))
theorem Cf{F:FsBuild}(H:LeFsBuild F):∀ (t3:Int) (t4:Int) (s16:bw),LeO (lk F t3 t4 s16) (s_Deep_L1 t3 t4 s16):=fun t3 t4 s16=>(show s_Deep_L1 t3 t4 s16=lk bO t3 t4 s16 from leq (by kernel_rfl)).symm ▸ (show LeO (lk F t3 t4 s16) (lk bO t3 t4 s16) from(li (li (lb (H.s_Deep _) fun _=>(lb (H.s_l1Max _ _) fun _=>(H.s_Deep_L1 _ _ _))) lr) lr))
theorem Db{F:FsBuild}(H:LeFsBuild F):∀ (t0:Int) (t1:Int),LeO (mn F t0 t1) (s_l1Max t0 t1):=fun t0 t1=>(show s_l1Max t0 t1=mn bO t0 t1 from leq (by kernel_rfl)).symm ▸ (show LeO (mn F t0 t1) (mn bO t0 t1) from(li lr lr))
theorem BZ{F:FsBuild}(H:LeFsBuild F):∀ (t0:(List bE)),LeO (kR F t0) (s_Check t0):=fun t0=>(show s_Check t0=kR bO t0 from leq (by kernel_rfl)).symm ▸ (show LeO (kR F t0) (kR bO t0) from(lb (H.s_Tidy _) fun _=>(li lr (H.s_Check_L1 _ _))))
theorem B0{F:FsBuild}(H:LeFsBuild F):∀ (t0:(List bE)) (t3:Int),LeO (kS F t0 t3) (s_Check_L1 t0 t3):=fun t0 t3=>(show s_Check_L1 t0 t3=kS bO t0 t3 from leq (by kernel_rfl)).symm ▸ (show LeO (kS F t0 t3) (kS bO t0 t3) from(li (li (li (li lr (li (lb (H.s_l10Line _) fun _=>(li lr (H.s_Check_L1 _ _))) lr)) (H.s_Check_L1 _ _)) lr) (lb (H.s_Names _) fun _=>(li lr (li lr (H.s_Check_L2 _ _ _ _))))))
theorem B1{F:FsBuild}(H:LeFsBuild F):∀ (t0:(List bE)) (t4:(List (List Int))) (t5:(List (List Int))) (t6:Int),LeO (kT F t0 t4 t5 t6) (s_Check_L2 t0 t4 t5 t6):=fun t0 t4 t5 t6=>(show s_Check_L2 t0 t4 t5 t6=kT bO t0 t4 t5 t6 from leq (by kernel_rfl)).symm ▸ (show LeO (kT F t0 t4 t5 t6) (kT bO t0 t4 t5 t6) from(li (li (lb (H.s_l7Within _ _) fun _=>(li lr (H.s_Check_L2 _ _ _ _))) lr) (H.s_Check_L3 _ _)))
theorem B3{F:FsBuild}(H:LeFsBuild F):∀ (t0:(List bE)) (t7:Int),LeO (kU F t0 t7) (s_Check_L3 t0 t7):=fun t0 t7=>(show s_Check_L3 t0 t7=kU bO t0 t7 from leq (by kernel_rfl)).symm ▸ (show LeO (kU F t0 t7) (kU bO t0 t7) from(li (li (lb (H.s_l10Args _) fun _=>(li lr (li (lb (H.s_l10Args _) fun _=>(li lr (H.s_Check_L3 _ _))) lr))) lr) (H.s_Check_L4 _ _)))
theorem B4{F:FsBuild}(H:LeFsBuild F):∀ (t0:(List bE)) (t8:Int),LeO (kV F t0 t8) (s_Check_L4 t0 t8):=fun t0 t8=>(show s_Check_L4 t0 t8=kV bO t0 t8 from leq (by kernel_rfl)).symm ▸ (show LeO (kV F t0 t8) (kV bO t0 t8) from(li (li (lb (H.s_l10Rexes _) fun _=>(li lr (li (lb (H.s_l10Rexes _) fun _=>(li lr (H.s_Check_L4 _ _))) lr))) lr) lr))
theorem Ch{F:FsBuild}(H:LeFsBuild F):∀ (t0:(List bE)),LeO (lm F t0) (s_Names t0):=fun t0=>(show s_Names t0=lm bO t0 from leq (by kernel_rfl)).symm ▸ (show LeO (lm F t0) (lm bO t0) from(H.s_Names_L1 _ _ _ _))
theorem Ci{F:FsBuild}(H:LeFsBuild F):∀ (t0:(List bE)) (t4:(List (List Int))) (t5:(List (List Int))) (t6:Int),LeO (lp F t0 t4 t5 t6) (s_Names_L1 t0 t4 t5 t6):=fun t0 t4 t5 t6=>(show s_Names_L1 t0 t4 t5 t6=lp bO t0 t4 t5 t6 from leq (by kernel_rfl)).symm ▸ (show LeO (lp F t0 t4 t5 t6) (lp bO t0 t4 t5 t6) from(li (li (lb (H.s_l10Names _ _ _) fun _=>(li (lb (H.s_l10Names _ _ _) fun _=>(H.s_Names_L1 _ _ _ _)) lr)) lr) lr))
theorem CU{F:FsBuild}(H:LeFsBuild F):∀ (s0_0:(List (List Int))) (s0_1:(List (List Int))) (s0_2:(List bz)) (t1:bw),LeO (l5 F s0_0 s0_1 s0_2 t1) (s_l14Block s0_0 s0_1 s0_2 t1):=fun s0_0 s0_1 s0_2 t1=>(show s_l14Block s0_0 s0_1 s0_2 t1=l5 bO s0_0 s0_1 s0_2 t1 from leq (by kernel_rfl)).symm ▸ (show LeO (l5 F s0_0 s0_1 s0_2 t1) (l5 bO s0_0 s0_1 s0_2 t1) from(H.s_l14Block_L1 _ _ _ _ _))
theorem CV{F:FsBuild}(H:LeFsBuild F):∀ (t4:Int) (s0_0:(List (List Int))) (s0_1:(List (List Int))) (s0_2:(List bz)) (s48:bw),LeO (l6 F t4 s0_0 s0_1 s0_2 s48) (s_l14Block_L1 t4 s0_0 s0_1 s0_2 s48):=fun t4 s0_0 s0_1 s0_2 s48=>(show s_l14Block_L1 t4 s0_0 s0_1 s0_2 s48=l6 bO t4 s0_0 s0_1 s0_2 s48 from leq (by kernel_rfl)).symm ▸ (show LeO (l6 F t4 s0_0 s0_1 s0_2 s48) (l6 bO t4 s0_0 s0_1 s0_2 s48) from(li (li (lb (H.s_l14Stmt _ _ _ _) fun _=>(H.s_l14Block_L1 _ _ _ _ _)) lr) lr))
theorem CW{F:FsBuild}(H:LeFsBuild F):∀ (s0_0:(List (List Int))) (s0_1:(List (List Int))) (s0_2:(List bz)) (t1:bw),LeO (l7 F s0_0 s0_1 s0_2 t1) (s_l14E s0_0 s0_1 s0_2 t1):=fun s0_0 s0_1 s0_2 t1=>(show s_l14E s0_0 s0_1 s0_2 t1=l7 bO s0_0 s0_1 s0_2 t1 from leq (by kernel_rfl)).symm ▸ (show LeO (l7 F s0_0 s0_1 s0_2 t1) (l7 bO s0_0 s0_1 s0_2 t1) from(li (H.s_l14E_L1 _ _ _ _ _ _) (H.s_l14E_L1 _ _ _ _ _ _)))
theorem CX{F:FsBuild}(H:LeFsBuild F):∀ (t6:Int) (t24:Bool) (s0_0:(List (List Int))) (s0_1:(List (List Int))) (s0_2:(List bz)) (s48:bw),LeO (l8 F t6 t24 s0_0 s0_1 s0_2 s48) (s_l14E_L1 t6 t24 s0_0 s0_1 s0_2 s48):=fun t6 t24 s0_0 s0_1 s0_2 s48=>(show s_l14E_L1 t6 t24 s0_0 s0_1 s0_2 s48=l8 bO t6 t24 s0_0 s0_1 s0_2 s48 from leq (by kernel_rfl)).symm ▸ (show LeO (l8 F t6 t24 s0_0 s0_1 s0_2 s48) (l8 bO t6 t24 s0_0 s0_1 s0_2 s48) from(li (lb (H.s_l14Set _ _ _ _) fun _=>lr) (li (lb (H.s_l14And _ _ _ _) fun _=>lr) (li (lb (H.s_l14Or _ _ _ _) fun _=>lr) (li (li (lb (H.s_l14E _ _ _ _) fun _=>(li (lb (H.s_l14Put _ _ _ _ _ _) fun _=>lr) lr)) lr) (H.s_l14E_L2 _ _ _ _ _))))))
theorem CY{F:FsBuild}(H:LeFsBuild F):∀ (t4:Int) (s0_0:(List (List Int))) (s0_1:(List (List Int))) (s0_2:(List bz)) (s48:bw),LeO (l9 F t4 s0_0 s0_1 s0_2 s48) (s_l14E_L2 t4 s0_0 s0_1 s0_2 s48):=fun t4 s0_0 s0_1 s0_2 s48=>(show s_l14E_L2 t4 s0_0 s0_1 s0_2 s48=l9 bO t4 s0_0 s0_1 s0_2 s48 from leq (by kernel_rfl)).symm ▸ (show LeO (l9 F t4 s0_0 s0_1 s0_2 s48) (l9 bO t4 s0_0 s0_1 s0_2 s48) from(li (li (lb (H.s_l14E _ _ _ _) fun _=>(H.s_l14E_L2 _ _ _ _ _)) lr) (lb (H.s_l14Last _ _ _ _) fun _=>lr)))
theorem C5{F:FsBuild}(H:LeFsBuild F):∀ (s0_0:(List (List Int))) (s0_1:(List (List Int))) (s0_2:(List bz)) (t1:Int) (t2:Int) (t3:(List Int)),LeO (mg F s0_0 s0_1 s0_2 t1 t2 t3) (s_l14Put s0_0 s0_1 s0_2 t1 t2 t3):=fun s0_0 s0_1 s0_2 t1 t2 t3=>(show s_l14Put s0_0 s0_1 s0_2 t1 t2 t3=mg bO s0_0 s0_1 s0_2 t1 t2 t3 from leq (by kernel_rfl)).symm ▸ (show LeO (mg F s0_0 s0_1 s0_2 t1 t2 t3) (mg bO s0_0 s0_1 s0_2 t1 t2 t3) from(li lr lr))
theorem DP{F:FsBuild}(H:LeFsBuild F):∀ (t0:Int),LeO (m0 F t0) (s_l7Letter t0):=fun t0=>(show s_l7Letter t0=m0 bO t0 from leq (by kernel_rfl)).symm ▸ (show LeO (m0 F t0) (m0 bO t0) from(li (li lr (li lr lr)) (li lr lr)))
theorem Cg{F:FsBuild}(H:LeFsBuild F):∀ (t0:(List Int)),LeO (ll F t0) (s_Keyword t0):=fun t0=>(show s_Keyword t0=ll bO t0 from leq (by kernel_rfl)).symm ▸ (show LeO (ll F t0) (ll bO t0) from(lb (H.s_l7Within _ _) fun _=>(li lr (lb (H.s_l7Calls ) fun _=>(lb (H.s_l7Within _ _) fun _=>lr)))))
theorem CO{F:FsBuild}(H:LeFsBuild F):∀ (t0:bz) (t1:Int) (t2:Int) (t3:Int),LeO (lU F t0 t1 t2 t3) (s_l13Op t0 t1 t2 t3):=fun t0 t1 t2 t3=>(show s_l13Op t0 t1 t2 t3=lU bO t0 t1 t2 t3 from leq (by kernel_rfl)).symm ▸ (show LeO (lU F t0 t1 t2 t3) (lU bO t0 t1 t2 t3) from(li (lb (H.s_DecOk _) fun _=>(li lr lr)) (li lr (li (H.s_l13Op_L1 _ _ _ _ _ _) (li (H.s_l13Op_L1 _ _ _ _ _ _) (H.s_l13Op_L1 _ _ _ _ _ _))))))
theorem CP{F:FsBuild}(H:LeFsBuild F):∀ (t1:Int) (t2:Int) (t3:Int) (t12:Int) (t28:Bool) (s64:bz),LeO (lV F t1 t2 t3 t12 t28 s64) (s_l13Op_L1 t1 t2 t3 t12 t28 s64):=fun t1 t2 t3 t12 t28 s64=>(show s_l13Op_L1 t1 t2 t3 t12 t28 s64=lV bO t1 t2 t3 t12 t28 s64 from leq (by kernel_rfl)).symm ▸ (show LeO (lV F t1 t2 t3 t12 t28 s64) (lV bO t1 t2 t3 t12 t28 s64) from(li (li (li lr lr) lr) (li (H.s_l13Op_L2 _ _ _ _ _) (li (H.s_l13Op_L2 _ _ _ _ _) (li (H.s_l13Op_L2 _ _ _ _ _) (H.s_l13Op_L2 _ _ _ _ _))))))
theorem CQ{F:FsBuild}(H:LeFsBuild F):∀ (t1:Int) (t3:Int) (t12:Int) (t46:Bool) (s64:bz),LeO (lW F t1 t3 t12 t46 s64) (s_l13Op_L2 t1 t3 t12 t46 s64):=fun t1 t3 t12 t46 s64=>(show s_l13Op_L2 t1 t3 t12 t46 s64=lW bO t1 t3 t12 t46 s64 from leq (by kernel_rfl)).symm ▸ (show LeO (lW F t1 t3 t12 t46 s64) (lW bO t1 t3 t12 t46 s64) from(li (li (li lr lr) lr) (li (H.s_l13Op_L3 _ _ _ _) (H.s_l13Op_L3 _ _ _ _))))
theorem CR{F:FsBuild}(H:LeFsBuild F):∀ (t1:Int) (t12:Int) (t65:Bool) (s64:bz),LeO (lX F t1 t12 t65 s64) (s_l13Op_L3 t1 t12 t65 s64):=fun t1 t12 t65 s64=>(show s_l13Op_L3 t1 t12 t65 s64=lX bO t1 t12 t65 s64 from leq (by kernel_rfl)).symm ▸ (show LeO (lX F t1 t12 t65 s64) (lX bO t1 t12 t65 s64) from(li (lb (H.s_RexParse _) fun _=>(li lr lr)) (li (lb (H.s_l1In _ _ _) fun _=>(li (lb (H.s_l7Calls ) fun _=>(lb (H.s_l7Within _ _) fun _=>lr)) lr)) (li (H.s_l13Op_L4 _ _ _ _) (H.s_l13Op_L4 _ _ _ _)))))
theorem CS{F:FsBuild}(H:LeFsBuild F):∀ (t1:Int) (t12:Int) (t91:Bool) (s64:bz),LeO (lY F t1 t12 t91 s64) (s_l13Op_L4 t1 t12 t91 s64):=fun t1 t12 t91 s64=>(show s_l13Op_L4 t1 t12 t91 s64=lY bO t1 t12 t91 s64 from leq (by kernel_rfl)).symm ▸ (show LeO (lY F t1 t12 t91 s64) (lY bO t1 t12 t91 s64) from(li (lb (H.s_l1In _ _ _) fun _=>(li lr lr)) (li (lb (H.s_l1In _ _ _) fun _=>(li lr lr)) (lb (H.s_l1In _ _ _) fun _=>(li (li lr lr) lr)))))
theorem DU{F:FsBuild}(H:LeFsBuild F):∀ (t0:(List Int)) (t1:Int) (t2:(List bG)),LeO (nf F t0 t1 t2) (s_l7One t0 t1 t2):=fun t0 t1 t2=>(show s_l7One t0 t1 t2=nf bO t0 t1 t2 from leq (by kernel_rfl)).symm ▸ (show LeO (nf F t0 t1 t2) (nf bO t0 t1 t2) from(li (lb (H.s_l7Letter _) fun _=>(li (H.s_l7One_L1 _ _ _ _) (lb (H.s_l2Digit _) fun _=>(li (lb (H.s_l7Number _ _) fun _=>lr) (li (lb (H.s_l7Text _ _) fun _=>lr) (li (lb (H.s_l7After _) fun _=>(li (lb (H.s_l7Rex _ _) fun _=>lr) (lb (H.s_l7Sign _ _) fun _=>lr))) (lb (H.s_l7Sign _ _) fun _=>lr))))))) lr))
theorem DW{F:FsBuild}(H:LeFsBuild F):∀ (t0:(List Int)) (t1:Int) (t10:Int) (s96:bG),LeO (ng F t0 t1 t10 s96) (s_l7One_L1 t0 t1 t10 s96):=fun t0 t1 t10 s96=>(show s_l7One_L1 t0 t1 t10 s96=ng bO t0 t1 t10 s96 from leq (by kernel_rfl)).symm ▸ (show LeO (ng F t0 t1 t10 s96) (ng bO t0 t1 t10 s96) from(li (li (lb (H.s_l7Letter _) fun _=>(li (H.s_l7One_L1 _ _ _ _) (li lr lr))) lr) (li lr lr)))
theorem Ej{F:FsBuild}(H:LeFsBuild F):∀ (s0:bN) (t1:(List Int)),LeO (nI F s0 t1) (s_l8Is s0 t1):=fun s0 t1=>(show s_l8Is s0 t1=nI bO s0 t1 from leq (by kernel_rfl)).symm ▸ (show LeO (nI F s0 t1) (nI bO s0 t1) from(lb (H.s_l8Now _) fun _=>(li (li lr lr) lr)))
theorem Es{F:FsBuild}(H:LeFsBuild F):∀ (s0:bN),LeO (nR F s0) (s_l8Next s0):=fun s0=>(show s_l8Next s0=nR bO s0 from leq (by kernel_rfl)).symm ▸ (show LeO (nR F s0) (nR bO s0) from(li lr lr))
theorem Eb{F:FsBuild}(H:LeFsBuild F):∀ (s0:bN),LeO (nA F s0) (s_l8Block s0):=fun s0=>(show s_l8Block s0=nA bO s0 from leq (by kernel_rfl)).symm ▸ (show LeO (nA F s0) (nA bO s0) from(lb (H.s_l8Take _ _) fun _=>(H.s_l8Block_L1 _ _ _ _ _ _ _ _ _)))
theorem Ec{F:FsBuild}(H:LeFsBuild F):∀ (s0:bN) (s32_0:Int) (s32_1:Int) (s32_2:(List Int)) (s32_3:(List bw)) (s48_0:Int) (s48_1:Int) (s48_2:(List Int)) (s48_3:(List bw)),LeO (nB F s0 s32_0 s32_1 s32_2 s32_3 s48_0 s48_1 s48_2 s48_3) (s_l8Block_L1 s0 s32_0 s32_1 s32_2 s32_3 s48_0 s48_1 s48_2 s48_3):=fun s0 s32_0 s32_1 s32_2 s32_3 s48_0 s48_1 s48_2 s48_3=>(show s_l8Block_L1 s0 s32_0 s32_1 s32_2 s32_3 s48_0 s48_1 s48_2 s48_3=nB bO s0 s32_0 s32_1 s32_2 s32_3 s48_0 s48_1 s48_2 s48_3 from leq (by kernel_rfl)).symm ▸ (show LeO (nB F s0 s32_0 s32_1 s32_2 s32_3 s48_0 s48_1 s48_2 s48_3) (nB bO s0 s32_0 s32_1 s32_2 s32_3 s48_0 s48_1 s48_2 s48_3) from(li (lb (H.s_l8Sign _ _) fun _=>(li (lb (H.s_l8Sign _ _) fun _=>(li (lb (H.s_l8Next _) fun _=>(H.s_l8Block_L1 _ _ _ _ _ _ _ _ _)) (lb (H.s_l8Stmt _) fun _=>(li (H.s_l8Block_L1 _ _ _ _ _ _ _ _ _) lr)))) (lb (H.s_l8Take _ _) fun _=>lr))) (lb (H.s_l8Take _ _) fun _=>lr)))
theorem Ey{F:FsBuild}(H:LeFsBuild F):∀ (s0:bN) (t1:(List Int)),LeO (nW F s0 t1) (s_l8Sign s0 t1):=fun s0 t1=>(show s_l8Sign s0 t1=nW bO s0 t1 from leq (by kernel_rfl)).symm ▸ (show LeO (nW F s0 t1) (nW bO s0 t1) from(lb (H.s_l8Now _) fun _=>(li (li lr lr) lr)))
theorem Ef{F:FsBuild}(H:LeFsBuild F):∀ (s0:bN),LeO (nE F s0) (s_l8E s0):=fun s0=>(show s_l8E s0=nE bO s0 from leq (by kernel_rfl)).symm ▸ (show LeO (nE F s0) (nE bO s0) from(lb (H.s_l8Now _) fun _=>(li (li (lb (H.s_Keyword _) fun _=>(li (lb (H.s_l8Named _) fun _=>(lb (H.s_l8Sign _ _) fun _=>(li (H.s_l8E_L1 _ _ _ _ _ _ _) (lb (H.s_l8Sign _ _) fun _=>(li (H.s_l8E_L1 _ _ _ _ _ _ _) (H.s_l8E_L1 _ _ _ _ _ _ _)))))) (lb (H.s_l8Level _ _) fun _=>lr))) (lb (H.s_l8Level _ _) fun _=>lr)) (lb (H.s_l8Level _ _) fun _=>lr))))
theorem Eg{F:FsBuild}(H:LeFsBuild F):∀ (t5:Int) (s0:bN) (s32_0:Int) (s32_1:Int) (s32_2:(List Int)) (s32_3:(List bw)) (s64:bw),LeO (nF F t5 s0 s32_0 s32_1 s32_2 s32_3 s64) (s_l8E_L1 t5 s0 s32_0 s32_1 s32_2 s32_3 s64):=fun t5 s0 s32_0 s32_1 s32_2 s32_3 s64=>(show s_l8E_L1 t5 s0 s32_0 s32_1 s32_2 s32_3 s64=nF bO t5 s0 s32_0 s32_1 s32_2 s32_3 s64 from leq (by kernel_rfl)).symm ▸ (show LeO (nF F t5 s0 s32_0 s32_1 s32_2 s32_3 s64) (nF bO t5 s0 s32_0 s32_1 s32_2 s32_3 s64) from(li (lb (H.s_l8Next _) fun _=>(lb (H.s_l8E _) fun _=>(lb (H.s_l8Kids _ _) fun _=>lr))) (lb (H.s_l8Level _ _) fun _=>lr)))
theorem Ek{F:FsBuild}(H:LeFsBuild F):∀ (t0:Int) (t1:(List bw)),LeO (nJ F t0 t1) (s_l8Kids t0 t1):=fun t0 t1=>(show s_l8Kids t0 t1=nJ bO t0 t1 from leq (by kernel_rfl)).symm ▸ (show LeO (nJ F t0 t1) (nJ bO t0 t1) from(li lr lr))
theorem Cu{F:FsBuild}(H:LeFsBuild F):∀ (t0:(List bE)),LeO (lB F t0) (s_Tidy t0):=fun t0=>(show s_Tidy t0=lB bO t0 from leq (by kernel_rfl)).symm ▸ (show LeO (lB F t0) (lB bO t0) from(H.s_Tidy_L1 _ _))
theorem Cv{F:FsBuild}(H:LeFsBuild F):∀ (t0:(List bE)) (t3:Int),LeO (lC F t0 t3) (s_Tidy_L1 t0 t3):=fun t0 t3=>(show s_Tidy_L1 t0 t3=lC bO t0 t3 from leq (by kernel_rfl)).symm ▸ (show LeO (lC F t0 t3) (lC bO t0 t3) from(li (li (li (li (li (lb (H.s_l1In _ _ _) fun _=>(li (li (li lr (lb (H.s_Deep _) fun _=>(li lr (lb (H.s_l9Node _) fun _=>(li lr (H.s_Tidy_L1 _ _)))))) (li (lb (H.s_l9IsE _) fun _=>(li (lb (H.s_l9Node _) fun _=>(li (lb (H.s_Deep _) fun _=>(li lr (li lr (lb (H.s_Deep _) fun _=>(li lr (lb (H.s_l9Node _) fun _=>(li lr (H.s_Tidy_L1 _ _)))))))) lr)) lr)) lr)) (li (lb (H.s_l9IsE _) fun _=>(li (lb (H.s_l9Node _) fun _=>(li (lb (H.s_Deep _) fun _=>(li lr (li lr (lb (H.s_Deep _) fun _=>(li lr (lb (H.s_l9Node _) fun _=>(li lr (H.s_Tidy_L1 _ _)))))))) lr)) lr)) lr))) (lb (H.s_l1In _ _ _) fun _=>(li (li (lb (H.s_l9IsE _) fun _=>(li (lb (H.s_l9Node _) fun _=>(li (lb (H.s_Deep _) fun _=>(li lr (li lr (lb (H.s_Deep _) fun _=>(li lr (lb (H.s_l9Node _) fun _=>(li lr (H.s_Tidy_L1 _ _)))))))) lr)) lr)) lr) (li (lb (H.s_l9IsE _) fun _=>(li (lb (H.s_l9Node _) fun _=>(li (lb (H.s_Deep _) fun _=>(li lr (li lr (lb (H.s_Deep _) fun _=>(li lr (lb (H.s_l9Node _) fun _=>(li lr (H.s_Tidy_L1 _ _)))))))) lr)) lr)) lr)))) (lb (H.s_l1In _ _ _) fun _=>(li (li (lb (H.s_l9IsE _) fun _=>(li (lb (H.s_l9Node _) fun _=>(li (lb (H.s_Deep _) fun _=>(li lr (li lr (lb (H.s_Deep _) fun _=>(li lr (lb (H.s_l9Node _) fun _=>(li lr (H.s_Tidy_L1 _ _)))))))) lr)) lr)) lr) (li (lb (H.s_l9IsE _) fun _=>(li (lb (H.s_l9Node _) fun _=>(li (lb (H.s_Deep _) fun _=>(li lr (li lr (lb (H.s_Deep _) fun _=>(li lr (lb (H.s_l9Node _) fun _=>(li lr (H.s_Tidy_L1 _ _)))))))) lr)) lr)) lr)))) (lb (H.s_l1In _ _ _) fun _=>(li (li (lb (H.s_l9IsE _) fun _=>(li (lb (H.s_l9Node _) fun _=>(li (lb (H.s_Deep _) fun _=>(li lr (li lr (lb (H.s_Deep _) fun _=>(li lr (lb (H.s_l9Node _) fun _=>(li lr (H.s_Tidy_L1 _ _)))))))) lr)) lr)) lr) (li (lb (H.s_l9IsE _) fun _=>(li (lb (H.s_l9Node _) fun _=>(li (lb (H.s_Deep _) fun _=>(li lr (li lr (lb (H.s_Deep _) fun _=>(li lr (lb (H.s_l9Node _) fun _=>(li lr (H.s_Tidy_L1 _ _)))))))) lr)) lr)) lr)))) lr) lr))
theorem CD{F:FsBuild}(H:LeFsBuild F):∀ (t0:bw),LeO (lJ F t0) (s_l10Line t0):=fun t0=>(show s_l10Line t0=lJ bO t0 from leq (by kernel_rfl)).symm ▸ (show LeO (lJ F t0) (lJ bO t0) from(li lr (li lr (li lr (li lr (li lr (H.s_l10Line_L1 _ _)))))))
theorem CE{F:FsBuild}(H:LeFsBuild F):∀ (t3:Int) (s16:bw),LeO (lK F t3 s16) (s_l10Line_L1 t3 s16):=fun t3 s16=>(show s_l10Line_L1 t3 s16=lK bO t3 s16 from leq (by kernel_rfl)).symm ▸ (show LeO (lK F t3 s16) (lK bO t3 s16) from(li (li (li (li (li (H.s_l10Line_L1 _ _) (li (lb (H.s_l10Line _) fun _=>(li lr (H.s_l10Line_L1 _ _))) lr)) lr) (li (lb (H.s_l10Line _) fun _=>(li lr (H.s_l10Line_L1 _ _))) lr)) (li (lb (H.s_l10Line _) fun _=>(li lr (H.s_l10Line_L1 _ _))) lr)) lr))
theorem CA{F:FsBuild}(H:LeFsBuild F):∀ (t0:bw),LeO (lG F t0) (s_l10Args t0):=fun t0=>(show s_l10Args t0=lG bO t0 from leq (by kernel_rfl)).symm ▸ (show LeO (lG F t0) (lG bO t0) from(li (li (li lr (H.s_l10Args_L1 _ _)) (li (li (li lr (H.s_l10Args_L1 _ _)) (H.s_l10Args_L1 _ _)) (li lr (H.s_l10Args_L1 _ _)))) (H.s_l10Args_L1 _ _)))
theorem CB{F:FsBuild}(H:LeFsBuild F):∀ (t3:Int) (s16:bw),LeO (lH F t3 s16) (s_l10Args_L1 t3 s16):=fun t3 s16=>(show s_l10Args_L1 t3 s16=lH bO t3 s16 from leq (by kernel_rfl)).symm ▸ (show LeO (lH F t3 s16) (lH bO t3 s16) from(H.s_l10Args_L2 _ _ _))
theorem CC{F:FsBuild}(H:LeFsBuild F):∀ (t3:Int) (t4:Int) (s16:bw),LeO (lI F t3 t4 s16) (s_l10Args_L2 t3 t4 s16):=fun t3 t4 s16=>(show s_l10Args_L2 t3 t4 s16=lI bO t3 t4 s16 from leq (by kernel_rfl)).symm ▸ (show LeO (lI F t3 t4 s16) (lI bO t3 t4 s16) from(li (li (lb (H.s_l10Args _) fun _=>(li lr (H.s_l10Args_L2 _ _ _))) lr) lr))
theorem CK{F:FsBuild}(H:LeFsBuild F):∀ (t0:bw),LeO (lQ F t0) (s_l10Rexes t0):=fun t0=>(show s_l10Rexes t0=lQ bO t0 from leq (by kernel_rfl)).symm ▸ (show LeO (lQ F t0) (lQ bO t0) from(li (lb (H.s_RexParse _) fun _=>lr) (li (li (li lr (H.s_l10Rexes_L1 _ _)) lr) (H.s_l10Rexes_L1 _ _))))
theorem CL{F:FsBuild}(H:LeFsBuild F):∀ (t5:Int) (s16:bw),LeO (lR F t5 s16) (s_l10Rexes_L1 t5 s16):=fun t5 s16=>(show s_l10Rexes_L1 t5 s16=lR bO t5 s16 from leq (by kernel_rfl)).symm ▸ (show LeO (lR F t5 s16) (lR bO t5 s16) from(li (li (lb (H.s_l10Rexes _) fun _=>(li lr (H.s_l10Rexes_L1 _ _))) lr) lr))
theorem CF{F:FsBuild}(H:LeFsBuild F):∀ (t0:bw) (t1:(List (List Int))) (t2:(List (List Int))),LeO (lL F t0 t1 t2) (s_l10Names t0 t1 t2):=fun t0 t1 t2=>(show s_l10Names t0 t1 t2=lL bO t0 t1 t2 from leq (by kernel_rfl)).symm ▸ (show LeO (lL F t0 t1 t2) (lL bO t0 t1 t2) from(li (lb (H.s_l10Put _ _) fun _=>(H.s_l10Names_L1 _ _ _)) (li (li (lb (H.s_l10Put _ _) fun _=>(H.s_l10Names_L1 _ _ _)) (H.s_l10Names_L1 _ _ _)) (li (lb (H.s_l10Put _ _) fun _=>(H.s_l10Names_L1 _ _ _)) (H.s_l10Names_L1 _ _ _)))))
theorem CG{F:FsBuild}(H:LeFsBuild F):∀ (t1:(List (List Int))) (t2:(List (List Int))) (s48:bw),LeO (lM F t1 t2 s48) (s_l10Names_L1 t1 t2 s48):=fun t1 t2 s48=>(show s_l10Names_L1 t1 t2 s48=lM bO t1 t2 s48 from leq (by kernel_rfl)).symm ▸ (show LeO (lM F t1 t2 s48) (lM bO t1 t2 s48) from(H.s_l10Names_L2 _ _ _ _))
theorem CH{F:FsBuild}(H:LeFsBuild F):∀ (t1:(List (List Int))) (t2:(List (List Int))) (t8:Int) (s48:bw),LeO (lN F t1 t2 t8 s48) (s_l10Names_L2 t1 t2 t8 s48):=fun t1 t2 t8 s48=>(show s_l10Names_L2 t1 t2 t8 s48=lN bO t1 t2 t8 s48 from leq (by kernel_rfl)).symm ▸ (show LeO (lN F t1 t2 t8 s48) (lN bO t1 t2 t8 s48) from(li (li (lb (H.s_l10Names _ _ _) fun _=>(H.s_l10Names_L2 _ _ _ _)) lr) lr))
theorem C7{F:FsBuild}(H:LeFsBuild F):∀ (s0_0:(List (List Int))) (s0_1:(List (List Int))) (s0_2:(List bz)) (t1:bw),LeO (mi F s0_0 s0_1 s0_2 t1) (s_l14Stmt s0_0 s0_1 s0_2 t1):=fun s0_0 s0_1 s0_2 t1=>(show s_l14Stmt s0_0 s0_1 s0_2 t1=mi bO s0_0 s0_1 s0_2 t1 from leq (by kernel_rfl)).symm ▸ (show LeO (mi F s0_0 s0_1 s0_2 t1) (mi bO s0_0 s0_1 s0_2 t1) from(li (lb (H.s_l14Block _ _ _ _) fun _=>lr) (li (lb (H.s_l14Print _ _ _ _) fun _=>lr) (li (lb (H.s_l14If _ _ _ _) fun _=>lr) (li (lb (H.s_l14While _ _ _ _) fun _=>lr) (li (lb (H.s_l14Put _ _ _ _ _ _) fun _=>lr) (li (li (lb (H.s_l14E _ _ _ _) fun _=>(lb (H.s_l12Where _ _) fun _=>(lb (H.s_l14Put _ _ _ _ _ _) fun _=>lr))) lr) (li (lb (H.s_l14E _ _ _ _) fun _=>(lb (H.s_l14Put _ _ _ _ _ _) fun _=>lr)) lr))))))))
theorem C6{F:FsBuild}(H:LeFsBuild F):∀ (s0_0:(List (List Int))) (s0_1:(List (List Int))) (s0_2:(List bz)) (t1:bw),LeO (mh F s0_0 s0_1 s0_2 t1) (s_l14Set s0_0 s0_1 s0_2 t1):=fun s0_0 s0_1 s0_2 t1=>(show s_l14Set s0_0 s0_1 s0_2 t1=mh bO s0_0 s0_1 s0_2 t1 from leq (by kernel_rfl)).symm ▸ (show LeO (mh F s0_0 s0_1 s0_2 t1) (mh bO s0_0 s0_1 s0_2 t1) from(li (lb (H.s_l1Bit _) fun _=>(li (li (lb (H.s_l14E _ _ _ _) fun _=>(lb (H.s_l12Where _ _) fun _=>(lb (H.s_l14Put _ _ _ _ _ _) fun _=>lr))) lr) (li (lb (H.s_l14E _ _ _ _) fun _=>(li (lb (H.s_l14E _ _ _ _) fun _=>(lb (H.s_l12Where _ _) fun _=>(lb (H.s_l14Put _ _ _ _ _ _) fun _=>lr))) lr)) lr))) lr))
theorem CT{F:FsBuild}(H:LeFsBuild F):∀ (s0_0:(List (List Int))) (s0_1:(List (List Int))) (s0_2:(List bz)) (t1:bw),LeO (lZ F s0_0 s0_1 s0_2 t1) (s_l14And s0_0 s0_1 s0_2 t1):=fun s0_0 s0_1 s0_2 t1=>(show s_l14And s0_0 s0_1 s0_2 t1=lZ bO s0_0 s0_1 s0_2 t1 from leq (by kernel_rfl)).symm ▸ (show LeO (lZ F s0_0 s0_1 s0_2 t1) (lZ bO s0_0 s0_1 s0_2 t1) from(li (lb (H.s_l14E _ _ _ _) fun _=>(lb (H.s_l14Put _ _ _ _ _ _) fun _=>(li (lb (H.s_l14E _ _ _ _) fun _=>(lb (H.s_l14Put _ _ _ _ _ _) fun _=>(lb (H.s_l14Put _ _ _ _ _ _) fun _=>(li (lb (H.s_l14Put _ _ _ _ _ _) fun _=>(li lr lr)) lr)))) lr))) lr))
theorem C1{F:FsBuild}(H:LeFsBuild F):∀ (s0_0:(List (List Int))) (s0_1:(List (List Int))) (s0_2:(List bz)) (t1:bw),LeO (mc F s0_0 s0_1 s0_2 t1) (s_l14Or s0_0 s0_1 s0_2 t1):=fun s0_0 s0_1 s0_2 t1=>(show s_l14Or s0_0 s0_1 s0_2 t1=mc bO s0_0 s0_1 s0_2 t1 from leq (by kernel_rfl)).symm ▸ (show LeO (mc F s0_0 s0_1 s0_2 t1) (mc bO s0_0 s0_1 s0_2 t1) from(li (lb (H.s_l14E _ _ _ _) fun _=>(lb (H.s_l14Put _ _ _ _ _ _) fun _=>(lb (H.s_l14Put _ _ _ _ _ _) fun _=>(lb (H.s_l14Put _ _ _ _ _ _) fun _=>(li (li (lb (H.s_l14E _ _ _ _) fun _=>(lb (H.s_l14Put _ _ _ _ _ _) fun _=>(li lr lr))) lr) lr))))) lr))
theorem C0{F:FsBuild}(H:LeFsBuild F):∀ (s0_0:(List (List Int))) (s0_1:(List (List Int))) (s0_2:(List bz)) (t1:bw),LeO (mb F s0_0 s0_1 s0_2 t1) (s_l14Last s0_0 s0_1 s0_2 t1):=fun s0_0 s0_1 s0_2 t1=>(show s_l14Last s0_0 s0_1 s0_2 t1=mb bO s0_0 s0_1 s0_2 t1 from leq (by kernel_rfl)).symm ▸ (show LeO (mb F s0_0 s0_1 s0_2 t1) (mb bO s0_0 s0_1 s0_2 t1) from(li (lb (H.s_l14Put _ _ _ _ _ _) fun _=>lr) (li (lb (H.s_l14Put _ _ _ _ _ _) fun _=>lr) (li (lb (H.s_l14Put _ _ _ _ _ _) fun _=>lr) (li (lb (H.s_l12Where _ _) fun _=>(lb (H.s_l14Put _ _ _ _ _ _) fun _=>lr)) (li (lb (H.s_l12Where _ _) fun _=>(lb (H.s_l14Put _ _ _ _ _ _) fun _=>lr)) (li (lb (H.s_l14Put _ _ _ _ _ _) fun _=>lr) (li (lb (H.s_l14Put _ _ _ _ _ _) fun _=>lr) (li (lb (H.s_l14Put _ _ _ _ _ _) fun _=>lr) (li (lb (H.s_l14Put _ _ _ _ _ _) fun _=>lr) (li (lb (H.s_l14Put _ _ _ _ _ _) fun _=>lr) (li (lb (H.s_l14Put _ _ _ _ _ _) fun _=>lr) (lb (H.s_l14Put _ _ _ _ _ _) fun _=>lr)))))))))))))
theorem DN{F:FsBuild}(H:LeFsBuild F):LeO (mZ F ) (s_l7Calls ):=(show s_l7Calls  = mZ bO  from leq (by kernel_rfl)).symm ▸ (show LeO (mZ F ) (mZ bO )from lr)
theorem Cd{F:FsBuild}(H:LeFsBuild F):∀ (t0:Int),LeO (lh F t0) (s_DecOk t0):=fun t0=>(show s_DecOk t0=lh bO t0 from leq (by kernel_rfl)).symm ▸ (show LeO (lh F t0) (lh bO t0) from(lb (H.s_l1In _ _ _) fun _=>lr))
theorem Ct{F:FsBuild}(H:LeFsBuild F):∀ (t0:(List Int)),LeO (lA F t0) (s_RexParse t0):=fun t0=>(show s_RexParse t0=lA bO t0 from leq (by kernel_rfl)).symm ▸ (show LeO (lA F t0) (lA bO t0) from(li lr (lb (H.s_l3Pattern _ _) fun _=>(li lr (li lr (lb (H.s_l3Deep _) fun _=>(li lr lr)))))))
theorem Dd{F:FsBuild}(H:LeFsBuild F):∀ (t0:Int),LeO (mo F t0) (s_l2Digit t0):=fun t0=>(show s_l2Digit t0=mo bO t0 from leq (by kernel_rfl)).symm ▸ (show LeO (mo F t0) (mo bO t0) from(li lr lr))
theorem DQ{F:FsBuild}(H:LeFsBuild F):∀ (t0:(List Int)) (t1:Int),LeO (m8 F t0 t1) (s_l7Number t0 t1):=fun t0 t1=>(show s_l7Number t0 t1=m8 bO t0 t1 from leq (by kernel_rfl)).symm ▸ (show LeO (m8 F t0 t1) (m8 bO t0 t1) from(H.s_l7Number_L1 _ _ _))
theorem DR{F:FsBuild}(H:LeFsBuild F):∀ (t0:(List Int)) (t1:Int) (t7:Int),LeO (m9 F t0 t1 t7) (s_l7Number_L1 t0 t1 t7):=fun t0 t1 t7=>(show s_l7Number_L1 t0 t1 t7=m9 bO t0 t1 t7 from leq (by kernel_rfl)).symm ▸ (show LeO (m9 F t0 t1 t7) (m9 bO t0 t1 t7) from(li (li (lb (H.s_l2Digit _) fun _=>(li (H.s_l7Number_L1 _ _ _) (li (li (li (li (lb (H.s_l2Digit _) fun _=>(li (H.s_l7Number_L2 _ _ _ _) (H.s_l7Number_L3 _ _ _))) lr) (H.s_l7Number_L3 _ _ _)) lr) (H.s_l7Number_L3 _ _ _)))) lr) (li (li (li (li (lb (H.s_l2Digit _) fun _=>(li (H.s_l7Number_L2 _ _ _ _) (H.s_l7Number_L3 _ _ _))) lr) (H.s_l7Number_L3 _ _ _)) lr) (H.s_l7Number_L3 _ _ _))))
theorem DS{F:FsBuild}(H:LeFsBuild F):∀ (t0:(List Int)) (t1:Int) (t7:Int) (t8:Int),LeO (na F t0 t1 t7 t8) (s_l7Number_L2 t0 t1 t7 t8):=fun t0 t1 t7 t8=>(show s_l7Number_L2 t0 t1 t7 t8=na bO t0 t1 t7 t8 from leq (by kernel_rfl)).symm ▸ (show LeO (na F t0 t1 t7 t8) (na bO t0 t1 t7 t8) from(li (li (lb (H.s_l2Digit _) fun _=>(li (H.s_l7Number_L2 _ _ _ _) (li lr (H.s_l7Number_L3 _ _ _)))) lr) (li lr (H.s_l7Number_L3 _ _ _))))
theorem DT{F:FsBuild}(H:LeFsBuild F):∀ (t0:(List Int)) (t1:Int) (t7:Int),LeO (nb F t0 t1 t7) (s_l7Number_L3 t0 t1 t7):=fun t0 t1 t7=>(show s_l7Number_L3 t0 t1 t7=nb bO t0 t1 t7 from leq (by kernel_rfl)).symm ▸ (show LeO (nb F t0 t1 t7) (nb bO t0 t1 t7) from(li (lb (H.s_DecFront _) fun _=>lr) lr))
theorem D3{F:FsBuild}(H:LeFsBuild F):∀ (t0:(List Int)) (t1:Int),LeO (nn F t0 t1) (s_l7Text t0 t1):=fun t0 t1=>(show s_l7Text t0 t1=nn bO t0 t1 from leq (by kernel_rfl)).symm ▸ (show LeO (nn F t0 t1) (nn bO t0 t1) from(H.s_l7Text_L1 _ _ _))
theorem D4{F:FsBuild}(H:LeFsBuild F):∀ (t0:(List Int)) (t7:(List Int)) (t8:Int),LeO (nq F t0 t7 t8) (s_l7Text_L1 t0 t7 t8):=fun t0 t7 t8=>(show s_l7Text_L1 t0 t7 t8=nq bO t0 t7 t8 from leq (by kernel_rfl)).symm ▸ (show LeO (nq F t0 t7 t8) (nq bO t0 t7 t8) from(li (li (li lr (li lr (li (li lr (li (li lr (li (li (H.s_l7Text_L1 _ _ _) lr) lr)) lr)) (li (li (H.s_l7Text_L1 _ _ _) lr) lr)))) lr) lr))
theorem DM{F:FsBuild}(H:LeFsBuild F):∀ (t0:(List bG)),LeO (mY F t0) (s_l7After t0):=fun t0=>(show s_l7After t0=mY bO t0 from leq (by kernel_rfl)).symm ▸ (show LeO (mY F t0) (mY bO t0) from(li lr (li (li (li lr (li lr (lb (H.s_l1In _ _ _) fun _=>lr))) (lb (H.s_l1In _ _ _) fun _=>lr)) lr)))
theorem DX{F:FsBuild}(H:LeFsBuild F):∀ (t0:(List Int)) (t1:Int),LeO (nh F t0 t1) (s_l7Rex t0 t1):=fun t0 t1=>(show s_l7Rex t0 t1=nh bO t0 t1 from leq (by kernel_rfl)).symm ▸ (show LeO (nh F t0 t1) (nh bO t0 t1) from(H.s_l7Rex_L1 _ _ _))
theorem DY{F:FsBuild}(H:LeFsBuild F):∀ (t0:(List Int)) (t7:(List Int)) (t8:Int),LeO (ni F t0 t7 t8) (s_l7Rex_L1 t0 t7 t8):=fun t0 t7 t8=>(show s_l7Rex_L1 t0 t7 t8=ni bO t0 t7 t8 from leq (by kernel_rfl)).symm ▸ (show LeO (ni F t0 t7 t8) (ni bO t0 t7 t8) from(li (li (li lr (li lr (li (li lr (li (li lr (li (li (li (li (li (li (H.s_l7Rex_L1 _ _ _) lr) lr) lr) lr) (li (li (H.s_l7Rex_L1 _ _ _) lr) lr)) lr)) lr)) (li (li (H.s_l7Rex_L1 _ _ _) lr) lr)))) lr) lr))
theorem DZ{F:FsBuild}(H:LeFsBuild F):∀ (t0:(List Int)) (t1:Int),LeO (nj F t0 t1) (s_l7Sign t0 t1):=fun t0 t1=>(show s_l7Sign t0 t1=nj bO t0 t1 from leq (by kernel_rfl)).symm ▸ (show LeO (nj F t0 t1) (nj bO t0 t1) from(H.s_l7Sign_L1 _ _ _ _))
theorem D0{F:FsBuild}(H:LeFsBuild F):∀ (t0:(List Int)) (t1:Int) (t5:(List (List Int))) (t6:Int),LeO (nk F t0 t1 t5 t6) (s_l7Sign_L1 t0 t1 t5 t6):=fun t0 t1 t5 t6=>(show s_l7Sign_L1 t0 t1 t5 t6=nk bO t0 t1 t5 t6 from leq (by kernel_rfl)).symm ▸ (show LeO (nk F t0 t1 t5 t6) (nk bO t0 t1 t5 t6) from(li (li (li (li (li (li (li lr lr) (H.s_l7Sign_L1 _ _ _ _)) lr) lr) (H.s_l7Sign_L1 _ _ _ _)) lr) lr))
theorem EC{F:FsBuild}(H:LeFsBuild F):∀ (s0:bN) (t1:(List Int)),LeO (n6 F s0 t1) (s_l8Take s0 t1):=fun s0 t1=>(show s_l8Take s0 t1=n6 bO s0 t1 from leq (by kernel_rfl)).symm ▸ (show LeO (n6 F s0 t1) (n6 bO s0 t1) from(lb (H.s_l8Sign _ _) fun _=>(li (lb (H.s_l8Bad _) fun _=>lr) (lb (H.s_l8Next _) fun _=>lr))))
theorem EB{F:FsBuild}(H:LeFsBuild F):∀ (s0:bN),LeO (nZ F s0) (s_l8Stmt s0):=fun s0=>(show s_l8Stmt s0=nZ bO s0 from leq (by kernel_rfl)).symm ▸ (show LeO (nZ F s0) (nZ bO s0) from(lb (H.s_l8Is _ _) fun _=>(li (lb (H.s_l8While _ _) fun _=>lr) (lb (H.s_l8Is _ _) fun _=>(li (lb (H.s_l8While _ _) fun _=>lr) (lb (H.s_l8Sign _ _) fun _=>(li (lb (H.s_l8Block _) fun _=>lr) (lb (H.s_l8Simple _) fun _=>(lb (H.s_l8Sign _ _) fun _=>(li (lb (H.s_l8Take _ _) fun _=>lr) lr))))))))))
theorem Er{F:FsBuild}(H:LeFsBuild F):∀ (s0:bN),LeO (nQ F s0) (s_l8Named s0):=fun s0=>(show s_l8Named s0=nQ bO s0 from leq (by kernel_rfl)).symm ▸ (show LeO (nQ F s0) (nQ bO s0) from(lb (H.s_l8Now _) fun _=>(lb (H.s_l8Is _ _) fun _=>(li (lb (H.s_l8Next _) fun _=>lr) (lb (H.s_l8Is _ _) fun _=>(li (lb (H.s_l8Next _) fun _=>lr) (li (lb (H.s_l7Calls ) fun _=>(lb (H.s_l7Within _ _) fun _=>(li (lb (H.s_l8Next _) fun _=>(lb (H.s_l8Take _ _) fun _=>(lb (H.s_l8Es _ _) fun _=>(lb (H.s_l8Take _ _) fun _=>lr)))) (lb (H.s_l8Name _) fun _=>(lb (H.s_l8Sign _ _) fun _=>(li lr (lb (H.s_l8Next _) fun _=>(lb (H.s_l8E _) fun _=>(lb (H.s_l8Take _ _) fun _=>lr))))))))) (lb (H.s_l8Name _) fun _=>(lb (H.s_l8Sign _ _) fun _=>(li lr (lb (H.s_l8Next _) fun _=>(lb (H.s_l8E _) fun _=>(lb (H.s_l8Take _ _) fun _=>lr)))))))))))))
theorem Ep{F:FsBuild}(H:LeFsBuild F):∀ (s0:bN) (t1:Int),LeO (nO F s0 t1) (s_l8Level s0 t1):=fun s0 t1=>(show s_l8Level s0 t1=nO bO s0 t1 from leq (by kernel_rfl)).symm ▸ (show LeO (nO F s0 t1) (nO bO s0 t1) from(li (lb (H.s_l8Compare _) fun _=>lr) (li (lb (H.s_l8Row _) fun _=>lr) (li (lb (H.s_l8Unit _) fun _=>lr) (lb (H.s_l8Left _ _) fun _=>lr)))))
theorem EU{F:FsBuild}(H:LeFsBuild F):∀ (t0:bw),LeO (ov F t0) (s_l9Node t0):=fun t0=>(show s_l9Node t0=ov bO t0 from leq (by kernel_rfl)).symm ▸ (show LeO (ov F t0) (ov bO t0) from(lb (H.s_l9Kids _) fun _=>(li lr (lb (H.s_l1In _ _ _) fun _=>(li lr (li (li lr (li (li (lb (H.s_l1In _ _ _) fun _=>lr) lr) (li (lb (H.s_l9Line _) fun _=>lr) (li (lb (H.s_l9Rex _) fun _=>lr) (li (H.s_l9Node_L1 _ _ _) (li (H.s_l9Node_L1 _ _ _) (H.s_l9Node_L1 _ _ _))))))) (li (li (lb (H.s_l1In _ _ _) fun _=>lr) lr) (li (lb (H.s_l9Line _) fun _=>lr) (li (lb (H.s_l9Rex _) fun _=>lr) (li (H.s_l9Node_L1 _ _ _) (li (H.s_l9Node_L1 _ _ _) (H.s_l9Node_L1 _ _ _))))))))))))
theorem EV{F:FsBuild}(H:LeFsBuild F):∀ (t23:Int) (t44:Bool) (s16:bw),LeO (ow F t23 t44 s16) (s_l9Node_L1 t23 t44 s16):=fun t23 t44 s16=>(show s_l9Node_L1 t23 t44 s16=ow bO t23 t44 s16 from leq (by kernel_rfl)).symm ▸ (show LeO (ow F t23 t44 s16) (ow bO t23 t44 s16) from(li (lb (H.s_l9Name _) fun _=>lr) (li (lb (H.s_l7Calls ) fun _=>(lb (H.s_l7Within _ _) fun _=>lr)) lr)))
theorem EJ{F:FsBuild}(H:LeFsBuild F):∀ (t0:Int),LeO (od F t0) (s_l9IsE t0):=fun t0=>(show s_l9IsE t0=od bO t0 from leq (by kernel_rfl)).symm ▸ (show LeO (od F t0) (od bO t0) from(lb (H.s_l1In _ _ _) fun _=>lr))
theorem CI{F:FsBuild}(H:LeFsBuild F):∀ (t0:(List (List Int))) (t1:(List Int)),LeO (lO F t0 t1) (s_l10Put t0 t1):=fun t0 t1=>(show s_l10Put t0 t1=lO bO t0 t1 from leq (by kernel_rfl)).symm ▸ (show LeO (lO F t0 t1) (lO bO t0 t1) from(lb (H.s_l7Within _ _) fun _=>(li lr (H.s_l10Put_L1 _ _ _))))
theorem CJ{F:FsBuild}(H:LeFsBuild F):∀ (t0:(List (List Int))) (t1:(List Int)) (t5:Int),LeO (lP F t0 t1 t5) (s_l10Put_L1 t0 t1 t5):=fun t0 t1 t5=>(show s_l10Put_L1 t0 t1 t5=lP bO t0 t1 t5 from leq (by kernel_rfl)).symm ▸ (show LeO (lP F t0 t1 t5) (lP bO t0 t1 t5) from(li (li (li (H.s_l10Put_L1 _ _ _) (li (li (li (li (li lr lr) lr) lr) lr) lr)) lr) (li (li (li (li (li lr lr) lr) lr) lr) lr)))
theorem C2{F:FsBuild}(H:LeFsBuild F):∀ (s0_0:(List (List Int))) (s0_1:(List (List Int))) (s0_2:(List bz)) (t1:bw),LeO (md F s0_0 s0_1 s0_2 t1) (s_l14Print s0_0 s0_1 s0_2 t1):=fun s0_0 s0_1 s0_2 t1=>(show s_l14Print s0_0 s0_1 s0_2 t1=md bO s0_0 s0_1 s0_2 t1 from leq (by kernel_rfl)).symm ▸ (show LeO (md F s0_0 s0_1 s0_2 t1) (md bO s0_0 s0_1 s0_2 t1) from(li (lb (H.s_l14Put _ _ _ _ _ _) fun _=>(lb (H.s_l14Put _ _ _ _ _ _) fun _=>(lb (H.s_l14Put _ _ _ _ _ _) fun _=>(H.s_l14Print_L1 _ _ _ _)))) (H.s_l14Print_L1 _ _ _ _)))
theorem C3{F:FsBuild}(H:LeFsBuild F):∀ (s0_0:(List (List Int))) (s0_1:(List (List Int))) (s0_2:(List bz)) (s48:bw),LeO (me F s0_0 s0_1 s0_2 s48) (s_l14Print_L1 s0_0 s0_1 s0_2 s48):=fun s0_0 s0_1 s0_2 s48=>(show s_l14Print_L1 s0_0 s0_1 s0_2 s48=me bO s0_0 s0_1 s0_2 s48 from leq (by kernel_rfl)).symm ▸ (show LeO (me F s0_0 s0_1 s0_2 s48) (me bO s0_0 s0_1 s0_2 s48) from(H.s_l14Print_L2 _ _ _ _ _))
theorem C4{F:FsBuild}(H:LeFsBuild F):∀ (t4:Int) (s0_0:(List (List Int))) (s0_1:(List (List Int))) (s0_2:(List bz)) (s48:bw),LeO (mf F t4 s0_0 s0_1 s0_2 s48) (s_l14Print_L2 t4 s0_0 s0_1 s0_2 s48):=fun t4 s0_0 s0_1 s0_2 s48=>(show s_l14Print_L2 t4 s0_0 s0_1 s0_2 s48=mf bO t4 s0_0 s0_1 s0_2 s48 from leq (by kernel_rfl)).symm ▸ (show LeO (mf F t4 s0_0 s0_1 s0_2 s48) (mf bO t4 s0_0 s0_1 s0_2 s48) from(li (li (lb (H.s_l14E _ _ _ _) fun _=>(lb (H.s_l1Bit _) fun _=>(lb (H.s_l14Put _ _ _ _ _ _) fun _=>(H.s_l14Print_L2 _ _ _ _ _)))) lr) (lb (H.s_l14Put _ _ _ _ _ _) fun _=>lr)))
theorem CZ{F:FsBuild}(H:LeFsBuild F):∀ (s0_0:(List (List Int))) (s0_1:(List (List Int))) (s0_2:(List bz)) (t1:bw),LeO (ma F s0_0 s0_1 s0_2 t1) (s_l14If s0_0 s0_1 s0_2 t1):=fun s0_0 s0_1 s0_2 t1=>(show s_l14If s0_0 s0_1 s0_2 t1=ma bO s0_0 s0_1 s0_2 t1 from leq (by kernel_rfl)).symm ▸ (show LeO (ma F s0_0 s0_1 s0_2 t1) (ma bO s0_0 s0_1 s0_2 t1) from(li (lb (H.s_l14E _ _ _ _) fun _=>(lb (H.s_l14Put _ _ _ _ _ _) fun _=>(li (lb (H.s_l14Block _ _ _ _) fun _=>(li (lb (H.s_l14Put _ _ _ _ _ _) fun _=>(li (li (lb (H.s_l14Block _ _ _ _) fun _=>(li lr lr)) lr) lr)) (li lr lr))) lr))) lr))
theorem C8{F:FsBuild}(H:LeFsBuild F):∀ (s0_0:(List (List Int))) (s0_1:(List (List Int))) (s0_2:(List bz)) (t1:bw),LeO (mj F s0_0 s0_1 s0_2 t1) (s_l14While s0_0 s0_1 s0_2 t1):=fun s0_0 s0_1 s0_2 t1=>(show s_l14While s0_0 s0_1 s0_2 t1=mj bO s0_0 s0_1 s0_2 t1 from leq (by kernel_rfl)).symm ▸ (show LeO (mj F s0_0 s0_1 s0_2 t1) (mj bO s0_0 s0_1 s0_2 t1) from(li (lb (H.s_l14E _ _ _ _) fun _=>(lb (H.s_l14Put _ _ _ _ _ _) fun _=>(li (lb (H.s_l14Block _ _ _ _) fun _=>(lb (H.s_l14Put _ _ _ _ _ _) fun _=>(li lr lr))) lr))) lr))
theorem CM{F:FsBuild}(H:LeFsBuild F):∀ (t0:(List (List Int))) (t1:(List Int)),LeO (lS F t0 t1) (s_l12Where t0 t1):=fun t0 t1=>(show s_l12Where t0 t1=lS bO t0 t1 from leq (by kernel_rfl)).symm ▸ (show LeO (lS F t0 t1) (lS bO t0 t1) from(H.s_l12Where_L1 _ _ _))
theorem CN{F:FsBuild}(H:LeFsBuild F):∀ (t0:(List (List Int))) (t1:(List Int)) (t5:Int),LeO (lT F t0 t1 t5) (s_l12Where_L1 t0 t1 t5):=fun t0 t1 t5=>(show s_l12Where_L1 t0 t1 t5=lT bO t0 t1 t5 from leq (by kernel_rfl)).symm ▸ (show LeO (lT F t0 t1 t5) (lT bO t0 t1 t5) from(li (li (li lr (H.s_l12Where_L1 _ _ _)) lr) lr))
theorem C9{F:FsBuild}(H:LeFsBuild F):∀ (t0:Bool),LeO (ml F t0) (s_l1Bit t0):=fun t0=>(show s_l1Bit t0=ml bO t0 from leq (by kernel_rfl)).symm ▸ (show LeO (ml F t0) (ml bO t0) from(li lr lr))
theorem Dl{F:FsBuild}(H:LeFsBuild F):∀ (s0:bM) (t1:Int),LeO (my F s0 t1) (s_l3Pattern s0 t1):=fun s0 t1=>(show s_l3Pattern s0 t1=my bO s0 t1 from leq (by kernel_rfl)).symm ▸ (show LeO (my F s0 t1) (my bO s0 t1) from(lb (H.s_l3Part _ _) fun _=>(H.s_l3Pattern_L1 _ _ _ _)))
theorem Dm{F:FsBuild}(H:LeFsBuild F):∀ (t1:Int) (t5:(List bD)) (s0:bM) (s64:bD),LeO (mz F t1 t5 s0 s64) (s_l3Pattern_L1 t1 t5 s0 s64):=fun t1 t5 s0 s64=>(show s_l3Pattern_L1 t1 t5 s0 s64=mz bO t1 t5 s0 s64 from leq (by kernel_rfl)).symm ▸ (show LeO (mz F t1 t5 s0 s64) (mz bO t1 t5 s0 s64) from(lb (H.s_l3Now _ _) fun _=>(li (lb (H.s_l3Part _ _) fun _=>(li (H.s_l3Pattern_L1 _ _ _ _) lr)) (li (li lr lr) lr))))
theorem Dg{F:FsBuild}(H:LeFsBuild F):∀ (t0:bD),LeO (mr F t0) (s_l3Deep t0):=fun t0=>(show s_l3Deep t0=mr bO t0 from leq (by kernel_rfl)).symm ▸ (show LeO (mr F t0) (mr bO t0) from(H.s_l3Deep_L1 _ _ _))
theorem Dh{F:FsBuild}(H:LeFsBuild F):∀ (t3:Int) (t4:Int) (s16:bD),LeO (mt F t3 t4 s16) (s_l3Deep_L1 t3 t4 s16):=fun t3 t4 s16=>(show s_l3Deep_L1 t3 t4 s16=mt bO t3 t4 s16 from leq (by kernel_rfl)).symm ▸ (show LeO (mt F t3 t4 s16) (mt bO t3 t4 s16) from(li (li (lb (H.s_l3Deep _) fun _=>(lb (H.s_l1Max _ _) fun _=>(H.s_l3Deep_L1 _ _ _))) lr) lr))
theorem B7{F:FsBuild}(H:LeFsBuild F):∀ (t0:(List Int)),LeO (kY F t0) (s_DecFront t0):=fun t0=>(show s_DecFront t0=kY bO t0 from leq (by kernel_rfl)).symm ▸ (show LeO (kY F t0) (kY bO t0) from(H.s_DecFront_L1 _ _))
theorem B8{F:FsBuild}(H:LeFsBuild F):∀ (t0:(List Int)) (t4:Int),LeO (kZ F t0 t4) (s_DecFront_L1 t0 t4):=fun t0 t4=>(show s_DecFront_L1 t0 t4=kZ bO t0 t4 from leq (by kernel_rfl)).symm ▸ (show LeO (kZ F t0 t4) (kZ bO t0 t4) from(li (li (li (H.s_DecFront_L1 _ _) (li (li (li (li (li (H.s_DecFront_L2 _ _ _) (li (li (H.s_DecFront_L2 _ _ _) (H.s_DecFront_L2 _ _ _)) lr)) lr) (H.s_DecFront_L2 _ _ _)) lr) (li (li (li (H.s_DecFront_L2 _ _ _) (li (li (H.s_DecFront_L2 _ _ _) (H.s_DecFront_L2 _ _ _)) lr)) lr) (H.s_DecFront_L2 _ _ _)))) lr) (li (li (li (li (li (H.s_DecFront_L2 _ _ _) (li (li (H.s_DecFront_L2 _ _ _) (H.s_DecFront_L2 _ _ _)) lr)) lr) (H.s_DecFront_L2 _ _ _)) lr) (li (li (li (H.s_DecFront_L2 _ _ _) (li (li (H.s_DecFront_L2 _ _ _) (H.s_DecFront_L2 _ _ _)) lr)) lr) (H.s_DecFront_L2 _ _ _)))))
theorem B9{F:FsBuild}(H:LeFsBuild F):∀ (t0:(List Int)) (t4:Int) (t5:Bool),LeO (k9 F t0 t4 t5) (s_DecFront_L2 t0 t4 t5):=fun t0 t4 t5=>(show s_DecFront_L2 t0 t4 t5=k9 bO t0 t4 t5 from leq (by kernel_rfl)).symm ▸ (show LeO (k9 F t0 t4 t5) (k9 bO t0 t4 t5) from(H.s_DecFront_L3 _ _ _ _ _))
theorem Ca{F:FsBuild}(H:LeFsBuild F):∀ (t0:(List Int)) (t4:Int) (t5:Bool) (t6:Int) (t7:Int),LeO (la F t0 t4 t5 t6 t7) (s_DecFront_L3 t0 t4 t5 t6 t7):=fun t0 t4 t5 t6 t7=>(show s_DecFront_L3 t0 t4 t5 t6 t7=la bO t0 t4 t5 t6 t7 from leq (by kernel_rfl)).symm ▸ (show LeO (la F t0 t4 t5 t6 t7) (la bO t0 t4 t5 t6 t7) from(li (li (lb (H.s_l2Digit _) fun _=>(li (li (li (H.s_DecFront_L3 _ _ _ _ _) lr) (H.s_DecFront_L3 _ _ _ _ _)) (li (li (li (li (lb (H.s_l2Digit _) fun _=>(li (H.s_DecFront_L4 _ _ _ _ _ _) (H.s_DecFront_L5 _ _ _ _))) lr) (H.s_DecFront_L5 _ _ _ _)) lr) (H.s_DecFront_L5 _ _ _ _)))) lr) (li (li (li (li (lb (H.s_l2Digit _) fun _=>(li (H.s_DecFront_L4 _ _ _ _ _ _) (H.s_DecFront_L5 _ _ _ _))) lr) (H.s_DecFront_L5 _ _ _ _)) lr) (H.s_DecFront_L5 _ _ _ _))))
theorem Cb{F:FsBuild}(H:LeFsBuild F):∀ (t0:(List Int)) (t4:Int) (t5:Bool) (t6:Int) (t7:Int) (t8:Int),LeO (lf F t0 t4 t5 t6 t7 t8) (s_DecFront_L4 t0 t4 t5 t6 t7 t8):=fun t0 t4 t5 t6 t7 t8=>(show s_DecFront_L4 t0 t4 t5 t6 t7 t8=lf bO t0 t4 t5 t6 t7 t8 from leq (by kernel_rfl)).symm ▸ (show LeO (lf F t0 t4 t5 t6 t7 t8) (lf bO t0 t4 t5 t6 t7 t8) from(li (li (lb (H.s_l2Digit _) fun _=>(li (li (H.s_DecFront_L4 _ _ _ _ _ _) lr) (H.s_DecFront_L5 _ _ _ _))) lr) (H.s_DecFront_L5 _ _ _ _)))
theorem Cc{F:FsBuild}(H:LeFsBuild F):∀ (t4:Int) (t5:Bool) (t6:Int) (t7:Int),LeO (lg F t4 t5 t6 t7) (s_DecFront_L5 t4 t5 t6 t7):=fun t4 t5 t6 t7=>(show s_DecFront_L5 t4 t5 t6 t7=lg bO t4 t5 t6 t7 from leq (by kernel_rfl)).symm ▸ (show LeO (lg F t4 t5 t6 t7) (lg bO t4 t5 t6 t7) from(li lr (li lr (li lr lr))))
theorem D8{F:FsBuild}(H:LeFsBuild F):∀ (s0:bN),LeO (nx F s0) (s_l8Bad s0):=fun s0=>(show s_l8Bad s0=nx bO s0 from leq (by kernel_rfl)).symm ▸ (show LeO (nx F s0) (nx bO s0) from(li (lb (H.s_l8Now _) fun _=>lr) lr))
theorem EE{F:FsBuild}(H:LeFsBuild F):∀ (s0:bN) (t1:Int),LeO (n8 F s0 t1) (s_l8While s0 t1):=fun s0 t1=>(show s_l8While s0 t1=n8 bO s0 t1 from leq (by kernel_rfl)).symm ▸ (show LeO (n8 F s0 t1) (n8 bO s0 t1) from(lb (H.s_l8Next _) fun _=>(lb (H.s_l8Take _ _) fun _=>(lb (H.s_l8E _) fun _=>(lb (H.s_l8Take _ _) fun _=>(lb (H.s_l8Block _) fun _=>(lb (H.s_l8Kids _ _) fun _=>(li (lb (H.s_l8Is _ _) fun _=>(li (lb (H.s_l8Next _) fun _=>(lb (H.s_l8Block _) fun _=>(li lr lr))) lr)) lr))))))))
theorem Ez{F:FsBuild}(H:LeFsBuild F):∀ (s0:bN),LeO (nX F s0) (s_l8Simple s0):=fun s0=>(show s_l8Simple s0=nX bO s0 from leq (by kernel_rfl)).symm ▸ (show LeO (nX F s0) (nX bO s0) from(lb (H.s_l8Is _ _) fun _=>(li (lb (H.s_l8Next _) fun _=>(H.s_l8Simple_L1 _ _ _ _ _ _ _ _ _)) (lb (H.s_l8Is _ _) fun _=>(li (lb (H.s_l8Next _) fun _=>lr) (lb (H.s_l8Is _ _) fun _=>(li (lb (H.s_l8Next _) fun _=>(lb (H.s_l8Name _) fun _=>(lb (H.s_l8Take _ _) fun _=>(lb (H.s_l8E _) fun _=>(lb (H.s_l8Take _ _) fun _=>lr))))) (lb (H.s_l8E _) fun _=>(lb (H.s_l8Kids _ _) fun _=>lr)))))))))
theorem EA{F:FsBuild}(H:LeFsBuild F):∀ (s0:bN) (s32_0:Int) (s32_1:Int) (s32_2:(List Int)) (s32_3:(List bw)) (s48_0:Int) (s48_1:Int) (s48_2:(List Int)) (s48_3:(List bw)),LeO (nY F s0 s32_0 s32_1 s32_2 s32_3 s48_0 s48_1 s48_2 s48_3) (s_l8Simple_L1 s0 s32_0 s32_1 s32_2 s32_3 s48_0 s48_1 s48_2 s48_3):=fun s0 s32_0 s32_1 s32_2 s32_3 s48_0 s48_1 s48_2 s48_3=>(show s_l8Simple_L1 s0 s32_0 s32_1 s32_2 s32_3 s48_0 s48_1 s48_2 s48_3=nY bO s0 s32_0 s32_1 s32_2 s32_3 s48_0 s48_1 s48_2 s48_3 from leq (by kernel_rfl)).symm ▸ (show LeO (nY F s0 s32_0 s32_1 s32_2 s32_3 s48_0 s48_1 s48_2 s48_3) (nY bO s0 s32_0 s32_1 s32_2 s32_3 s48_0 s48_1 s48_2 s48_3) from(li (lb (H.s_l8Sign _ _) fun _=>(li (lb (H.s_l8Sign _ _) fun _=>(li (li (lb (H.s_l8Take _ _) fun _=>(lb (H.s_l8E _) fun _=>(li (H.s_l8Simple_L1 _ _ _ _ _ _ _ _ _) lr))) (lb (H.s_l8E _) fun _=>(li (H.s_l8Simple_L1 _ _ _ _ _ _ _ _ _) lr))) lr)) lr)) lr))
theorem Eh{F:FsBuild}(H:LeFsBuild F):∀ (s0:bN) (t1:(List Int)),LeO (nG F s0 t1) (s_l8Es s0 t1):=fun s0 t1=>(show s_l8Es s0 t1=nG bO s0 t1 from leq (by kernel_rfl)).symm ▸ (show LeO (nG F s0 t1) (nG bO s0 t1) from(H.s_l8Es_L1 _ _ _))
theorem Ei{F:FsBuild}(H:LeFsBuild F):∀ (t1:(List Int)) (t5:(List bw)) (s0:bN),LeO (nH F t1 t5 s0) (s_l8Es_L1 t1 t5 s0):=fun t1 t5 s0=>(show s_l8Es_L1 t1 t5 s0=nH bO t1 t5 s0 from leq (by kernel_rfl)).symm ▸ (show LeO (nH F t1 t5 s0) (nH bO t1 t5 s0) from(li (lb (H.s_l8Sign _ _) fun _=>(li (li (lb (H.s_l8Take _ _) fun _=>(lb (H.s_l8E _) fun _=>(li (H.s_l8Es_L1 _ _ _) lr))) (lb (H.s_l8E _) fun _=>(li (H.s_l8Es_L1 _ _ _) lr))) lr)) lr))
theorem Eq{F:FsBuild}(H:LeFsBuild F):∀ (s0:bN),LeO (nP F s0) (s_l8Name s0):=fun s0=>(show s_l8Name s0=nP bO s0 from leq (by kernel_rfl)).symm ▸ (show LeO (nP F s0) (nP bO s0) from(lb (H.s_l8Now _) fun _=>(li (lb (H.s_l8Bad _) fun _=>lr) (li (lb (H.s_l8Bad _) fun _=>lr) (lb (H.s_Keyword _) fun _=>(li (lb (H.s_l8Bad _) fun _=>lr) (lb (H.s_l8Next _) fun _=>lr)))))))
theorem Ed{F:FsBuild}(H:LeFsBuild F):∀ (s0:bN),LeO (nC F s0) (s_l8Compare s0):=fun s0=>(show s_l8Compare s0=nC bO s0 from leq (by kernel_rfl)).symm ▸ (show LeO (nC F s0) (nC bO s0) from(lb (H.s_l8Level _ _) fun _=>(H.s_l8Compare_L1 _ _ _ _ _ _ _ _)))
theorem Ee{F:FsBuild}(H:LeFsBuild F):∀ (t3:(List (List Int))) (t5:Int) (s0:bN) (s32_0:Int) (s32_1:Int) (s32_2:(List Int)) (s32_3:(List bw)) (s64:bw),LeO (nD F t3 t5 s0 s32_0 s32_1 s32_2 s32_3 s64) (s_l8Compare_L1 t3 t5 s0 s32_0 s32_1 s32_2 s32_3 s64):=fun t3 t5 s0 s32_0 s32_1 s32_2 s32_3 s64=>(show s_l8Compare_L1 t3 t5 s0 s32_0 s32_1 s32_2 s32_3 s64=nD bO t3 t5 s0 s32_0 s32_1 s32_2 s32_3 s64 from leq (by kernel_rfl)).symm ▸ (show LeO (nD F t3 t5 s0 s32_0 s32_1 s32_2 s32_3 s64) (nD bO t3 t5 s0 s32_0 s32_1 s32_2 s32_3 s64) from(li (li (lb (H.s_l8Sign _ _) fun _=>(li (lb (H.s_l8Next _) fun _=>(lb (H.s_l8Level _ _) fun _=>(lb (H.s_l8Kids _ _) fun _=>lr))) (H.s_l8Compare_L1 _ _ _ _ _ _ _ _))) lr) lr))
theorem Ev{F:FsBuild}(H:LeFsBuild F):∀ (s0:bN),LeO (nT F s0) (s_l8Row s0):=fun s0=>(show s_l8Row s0=nT bO s0 from leq (by kernel_rfl)).symm ▸ (show LeO (nT F s0) (nT bO s0) from(lb (H.s_l8Level _ _) fun _=>(H.s_l8Row_L1 _ _ _ _ _ _)))
theorem Ew{F:FsBuild}(H:LeFsBuild F):∀ (s0:bN) (s32_0:Int) (s32_1:Int) (s32_2:(List Int)) (s32_3:(List bw)) (s48:bw),LeO (nU F s0 s32_0 s32_1 s32_2 s32_3 s48) (s_l8Row_L1 s0 s32_0 s32_1 s32_2 s32_3 s48):=fun s0 s32_0 s32_1 s32_2 s32_3 s48=>(show s_l8Row_L1 s0 s32_0 s32_1 s32_2 s32_3 s48=nU bO s0 s32_0 s32_1 s32_2 s32_3 s48 from leq (by kernel_rfl)).symm ▸ (show LeO (nU F s0 s32_0 s32_1 s32_2 s32_3 s48) (nU bO s0 s32_0 s32_1 s32_2 s32_3 s48) from(lb (H.s_l8Begins _) fun _=>(li (lb (H.s_l8Level _ _) fun _=>(lb (H.s_l8Kids _ _) fun _=>(H.s_l8Row_L1 _ _ _ _ _ _))) lr)))
theorem ED{F:FsBuild}(H:LeFsBuild F):∀ (s0:bN),LeO (n7 F s0) (s_l8Unit s0):=fun s0=>(show s_l8Unit s0=n7 bO s0 from leq (by kernel_rfl)).symm ▸ (show LeO (n7 F s0) (n7 bO s0) from(li (lb (H.s_l8Atom _) fun _=>lr) (lb (H.s_l8Sign _ _) fun _=>(li (lb (H.s_l8Next _) fun _=>(lb (H.s_l8Unit _) fun _=>(lb (H.s_l8Kids _ _) fun _=>lr))) (lb (H.s_l8Sign _ _) fun _=>(li (lb (H.s_l8Next _) fun _=>(lb (H.s_l8Unit _) fun _=>(lb (H.s_l8Kids _ _) fun _=>lr))) (lb (H.s_l8Atom _) fun _=>lr)))))))
theorem El{F:FsBuild}(H:LeFsBuild F):∀ (s0:bN) (t1:Int),LeO (nK F s0 t1) (s_l8Left s0 t1):=fun s0 t1=>(show s_l8Left s0 t1=nK bO s0 t1 from leq (by kernel_rfl)).symm ▸ (show LeO (nK F s0 t1) (nK bO s0 t1) from(lb (H.s_l8Level _ _) fun _=>(H.s_l8Left_L1 _ _ _ _ _ _)))
theorem Em{F:FsBuild}(H:LeFsBuild F):∀ (t1:Int) (t5:(List (List (List Int)))) (t6:(List (List Int))) (s0:bN) (s64:bw) (s112:bw),LeO (nL F t1 t5 t6 s0 s64 s112) (s_l8Left_L1 t1 t5 t6 s0 s64 s112):=fun t1 t5 t6 s0 s64 s112=>(show s_l8Left_L1 t1 t5 t6 s0 s64 s112=nL bO t1 t5 t6 s0 s64 s112 from leq (by kernel_rfl)).symm ▸ (show LeO (nL F t1 t5 t6 s0 s64 s112) (nL bO t1 t5 t6 s0 s64 s112) from(li (H.s_l8Left_L2 _ _ _ _ _ _ _) lr))
theorem En{F:FsBuild}(H:LeFsBuild F):∀ (t1:Int) (t5:(List (List (List Int)))) (t6:(List (List Int))) (t8:Int) (s0:bN) (s64:bw) (s112:bw),LeO (nM F t1 t5 t6 t8 s0 s64 s112) (s_l8Left_L2 t1 t5 t6 t8 s0 s64 s112):=fun t1 t5 t6 t8 s0 s64 s112=>(show s_l8Left_L2 t1 t5 t6 t8 s0 s64 s112=nM bO t1 t5 t6 t8 s0 s64 s112 from leq (by kernel_rfl)).symm ▸ (show LeO (nM F t1 t5 t6 t8 s0 s64 s112) (nM bO t1 t5 t6 t8 s0 s64 s112) from(li (li (li (li (lb (H.s_l8Sign _ _) fun _=>(li (H.s_l8Left_L2 _ _ _ _ _ _ _) (li (li lr (lb (H.s_l8Next _) fun _=>(lb (H.s_l8Level _ _) fun _=>(li (li (lb (H.s_l8Kids _ _) fun _=>(H.s_l8Left_L3 _ _ _ _ _ _ _)) lr) lr)))) lr))) lr) lr) (li (li lr (lb (H.s_l8Next _) fun _=>(lb (H.s_l8Level _ _) fun _=>(li (li (lb (H.s_l8Kids _ _) fun _=>(H.s_l8Left_L3 _ _ _ _ _ _ _)) lr) lr)))) lr)) lr))
theorem Eo{F:FsBuild}(H:LeFsBuild F):∀ (t1:Int) (t5:(List (List (List Int)))) (t6:(List (List Int))) (t8:Int) (s0:bN) (s64:bw) (s112:bw),LeO (nN F t1 t5 t6 t8 s0 s64 s112) (s_l8Left_L3 t1 t5 t6 t8 s0 s64 s112):=fun t1 t5 t6 t8 s0 s64 s112=>(show s_l8Left_L3 t1 t5 t6 t8 s0 s64 s112=nN bO t1 t5 t6 t8 s0 s64 s112 from leq (by kernel_rfl)).symm ▸ (show LeO (nN F t1 t5 t6 t8 s0 s64 s112) (nN bO t1 t5 t6 t8 s0 s64 s112) from(li (li (lb (H.s_l8Kids _ _) fun _=>(H.s_l8Left_L1 _ _ _ _ _ _)) (H.s_l8Left_L1 _ _ _ _ _ _)) (H.s_l8Left_L1 _ _ _ _ _ _)))
theorem EK{F:FsBuild}(H:LeFsBuild F):∀ (t0:bw),LeO (oe F t0) (s_l9Kids t0):=fun t0=>(show s_l9Kids t0=oe bO t0 from leq (by kernel_rfl)).symm ▸ (show LeO (oe F t0) (oe bO t0) from(li (H.s_l9Kids_L1 _ _ _ _) (li (H.s_l9Kids_L1 _ _ _ _) (li (H.s_l9Kids_L1 _ _ _ _) (li (H.s_l9Kids_L1 _ _ _ _) (li (H.s_l9Kids_L1 _ _ _ _) (H.s_l9Kids_L1 _ _ _ _)))))))
theorem EL{F:FsBuild}(H:LeFsBuild F):∀ (t3:Int) (t9:Int) (t10:Bool) (s16:bw),LeO (oh F t3 t9 t10 s16) (s_l9Kids_L1 t3 t9 t10 s16):=fun t3 t9 t10 s16=>(show s_l9Kids_L1 t3 t9 t10 s16=oh bO t3 t9 t10 s16 from leq (by kernel_rfl)).symm ▸ (show LeO (oh F t3 t9 t10 s16) (oh bO t3 t9 t10 s16) from(li (li (lb (H.s_l9Es _ _ _) fun _=>lr) lr) (li (H.s_l9Kids_L2 _ _ _ _) (li (H.s_l9Kids_L2 _ _ _ _) (li (H.s_l9Kids_L2 _ _ _ _) (li (H.s_l9Kids_L2 _ _ _ _) (li (H.s_l9Kids_L2 _ _ _ _) (li (H.s_l9Kids_L2 _ _ _ _) (li (H.s_l9Kids_L2 _ _ _ _) (li (H.s_l9Kids_L2 _ _ _ _) (li (H.s_l9Kids_L2 _ _ _ _) (li (H.s_l9Kids_L2 _ _ _ _) (li (H.s_l9Kids_L2 _ _ _ _) (li (H.s_l9Kids_L2 _ _ _ _) (li (H.s_l9Kids_L2 _ _ _ _) (li (H.s_l9Kids_L2 _ _ _ _) (H.s_l9Kids_L2 _ _ _ _)))))))))))))))))
theorem EM{F:FsBuild}(H:LeFsBuild F):∀ (t3:Int) (t9:Int) (t23:Bool) (s16:bw),LeO (oi F t3 t9 t23 s16) (s_l9Kids_L2 t3 t9 t23 s16):=fun t3 t9 t23 s16=>(show s_l9Kids_L2 t3 t9 t23 s16=oi bO t3 t9 t23 s16 from leq (by kernel_rfl)).symm ▸ (show LeO (oi F t3 t9 t23 s16) (oi bO t3 t9 t23 s16) from(li (li (lb (H.s_l9Es _ _ _) fun _=>lr) lr) (li (H.s_l9Kids_L3 _ _ _ _) (H.s_l9Kids_L3 _ _ _ _))))
theorem EN{F:FsBuild}(H:LeFsBuild F):∀ (t3:Int) (t9:Int) (t45:Bool) (s16:bw),LeO (oj F t3 t9 t45 s16) (s_l9Kids_L3 t3 t9 t45 s16):=fun t3 t9 t45 s16=>(show s_l9Kids_L3 t3 t9 t45 s16=oj bO t3 t9 t45 s16 from leq (by kernel_rfl)).symm ▸ (show LeO (oj F t3 t9 t45 s16) (oj bO t3 t9 t45 s16) from(li (li (li (li (lb (H.s_l9Es _ _ _) fun _=>lr) (li (li (lb (H.s_l9Es _ _ _) fun _=>lr) lr) lr)) lr) lr) (li (H.s_l9Kids_L4 _ _ _ _) (H.s_l9Kids_L4 _ _ _ _))))
theorem EO{F:FsBuild}(H:LeFsBuild F):∀ (t3:Int) (t9:Int) (t70:Bool) (s16:bw),LeO (ol F t3 t9 t70 s16) (s_l9Kids_L4 t3 t9 t70 s16):=fun t3 t9 t70 s16=>(show s_l9Kids_L4 t3 t9 t70 s16=ol bO t3 t9 t70 s16 from leq (by kernel_rfl)).symm ▸ (show LeO (ol F t3 t9 t70 s16) (ol bO t3 t9 t70 s16) from(li (lb (H.s_l9Es _ _ _) fun _=>lr) (li (lb (H.s_l1In _ _ _) fun _=>(li (lb (H.s_l9Es _ _ _) fun _=>(li (lb (H.s_l9Blocks _ _) fun _=>lr) lr)) lr)) (li (li (lb (H.s_l9Es _ _ _) fun _=>(li (lb (H.s_l9Blocks _ _) fun _=>lr) lr)) lr) (li (H.s_l9Kids_L5 _ _ _) lr)))))
theorem EP{F:FsBuild}(H:LeFsBuild F):∀ (t3:Int) (t4:Int) (s16:bw),LeO (om F t3 t4 s16) (s_l9Kids_L5 t3 t4 s16):=fun t3 t4 s16=>(show s_l9Kids_L5 t3 t4 s16=om bO t3 t4 s16 from leq (by kernel_rfl)).symm ▸ (show LeO (om F t3 t4 s16) (om bO t3 t4 s16) from(li (li (lb (H.s_l1In _ _ _) fun _=>(li lr (li (lb (H.s_l9Node _) fun _=>(li lr (H.s_l9Kids_L5 _ _ _))) lr))) lr) lr))
theorem EW{F:FsBuild}(H:LeFsBuild F):∀ (t0:(List Int)),LeO (ox F t0) (s_l9Rex t0):=fun t0=>(show s_l9Rex t0=ox bO t0 from leq (by kernel_rfl)).symm ▸ (show LeO (ox F t0) (ox bO t0) from(H.s_l9Rex_L1 _ _))
theorem EX{F:FsBuild}(H:LeFsBuild F):∀ (t0:(List Int)) (t3:Int),LeO (oy F t0 t3) (s_l9Rex_L1 t0 t3):=fun t0 t3=>(show s_l9Rex_L1 t0 t3=oy bO t0 t3 from leq (by kernel_rfl)).symm ▸ (show LeO (oy F t0 t3) (oy bO t0 t3) from(li (li (li (li lr (li (li lr (H.s_l9Rex_L1 _ _)) lr)) (H.s_l9Rex_L1 _ _)) lr) (lb (H.s_l9Line _) fun _=>lr)))
theorem Dj{F:FsBuild}(H:LeFsBuild F):∀ (s0:bM) (t1:Int),LeO (mv F s0 t1) (s_l3Part s0 t1):=fun s0 t1=>(show s_l3Part s0 t1=mv bO s0 t1 from leq (by kernel_rfl)).symm ▸ (show LeO (mv F s0 t1) (mv bO s0 t1) from(H.s_l3Part_L1 _ _ _ _))
theorem Dk{F:FsBuild}(H:LeFsBuild F):∀ (t1:Int) (t5:(List bD)) (s0:bM) (s64:bD),LeO (mw F t1 t5 s0 s64) (s_l3Part_L1 t1 t5 s0 s64):=fun t1 t5 s0 s64=>(show s_l3Part_L1 t1 t5 s0 s64=mw bO t1 t5 s0 s64 from leq (by kernel_rfl)).symm ▸ (show LeO (mw F t1 t5 s0 s64) (mw bO t1 t5 s0 s64) from(li (li (li (li (li (li (lb (H.s_l3Piece _ _) fun _=>(li (H.s_l3Part_L1 _ _ _ _) lr)) (li lr (li (li lr lr) lr))) lr) (li lr (li (li lr lr) lr))) lr) (li lr (li (li lr lr) lr))) (li lr (li (li lr lr) lr))))
theorem Di{F:FsBuild}(H:LeFsBuild F):∀ (s0:bM) (t1:Int),LeO (mu F s0 t1) (s_l3Now s0 t1):=fun s0 t1=>(show s_l3Now s0 t1=mu bO s0 t1 from leq (by kernel_rfl)).symm ▸ (show LeO (mu F s0 t1) (mu bO s0 t1) from(li (li (li lr lr) lr) lr))
theorem D9{F:FsBuild}(H:LeFsBuild F):∀ (s0:bN),LeO (ny F s0) (s_l8Begins s0):=fun s0=>(show s_l8Begins s0=ny bO s0 from leq (by kernel_rfl)).symm ▸ (show LeO (ny F s0) (ny bO s0) from(lb (H.s_l8Now _) fun _=>(li lr (li (H.s_l8Begins_L1 _ _ _ _) (li (H.s_l8Begins_L1 _ _ _ _) (H.s_l8Begins_L1 _ _ _ _))))))
theorem Ea{F:FsBuild}(H:LeFsBuild F):∀ (t12:Int) (t13:Bool) (s0:bN) (s48:bG),LeO (nz F t12 t13 s0 s48) (s_l8Begins_L1 t12 t13 s0 s48):=fun t12 t13 s0 s48=>(show s_l8Begins_L1 t12 t13 s0 s48=nz bO t12 t13 s0 s48 from leq (by kernel_rfl)).symm ▸ (show LeO (nz F t12 t13 s0 s48) (nz bO t12 t13 s0 s48) from(li lr (li (lb (H.s_Keyword _) fun _=>(li lr (li lr (li lr (lb (H.s_l7Calls ) fun _=>(lb (H.s_l7Within _ _) fun _=>lr)))))) (li (li lr lr) lr))))
theorem D7{F:FsBuild}(H:LeFsBuild F):∀ (s0:bN),LeO (nw F s0) (s_l8Atom s0):=fun s0=>(show s_l8Atom s0=nw bO s0 from leq (by kernel_rfl)).symm ▸ (show LeO (nw F s0) (nw bO s0) from(li lr (lb (H.s_l8Now _) fun _=>(li lr (li (lb (H.s_l8Next _) fun _=>lr) (li (lb (H.s_l8Next _) fun _=>lr) (li (lb (H.s_l8Next _) fun _=>lr) (li (lb (H.s_l8Named _) fun _=>lr) (lb (H.s_l8Sign _ _) fun _=>(li (lb (H.s_l8Next _) fun _=>(lb (H.s_l8Atom _) fun _=>(lb (H.s_l8Kids _ _) fun _=>lr))) (lb (H.s_l8Take _ _) fun _=>(lb (H.s_l8E _) fun _=>(lb (H.s_l8Take _ _) fun _=>lr)))))))))))))
theorem EH{F:FsBuild}(H:LeFsBuild F):∀ (t0:bw) (t1:Int) (t2:Int),LeO (ob F t0 t1 t2) (s_l9Es t0 t1 t2):=fun t0 t1 t2=>(show s_l9Es t0 t1 t2=ob bO t0 t1 t2 from leq (by kernel_rfl)).symm ▸ (show LeO (ob F t0 t1 t2) (ob bO t0 t1 t2) from(H.s_l9Es_L1 _ _ _))
theorem EI{F:FsBuild}(H:LeFsBuild F):∀ (t2:Int) (t7:Int) (s48:bw),LeO (oc F t2 t7 s48) (s_l9Es_L1 t2 t7 s48):=fun t2 t7 s48=>(show s_l9Es_L1 t2 t7 s48=oc bO t2 t7 s48 from leq (by kernel_rfl)).symm ▸ (show LeO (oc F t2 t7 s48) (oc bO t2 t7 s48) from(li (li (lb (H.s_l9IsE _) fun _=>(li lr (li (lb (H.s_l9Node _) fun _=>(li lr (H.s_l9Es_L1 _ _ _))) lr))) lr) lr))
theorem EF{F:FsBuild}(H:LeFsBuild F):∀ (t0:bw) (t1:Int),LeO (n9 F t0 t1) (s_l9Blocks t0 t1):=fun t0 t1=>(show s_l9Blocks t0 t1=n9 bO t0 t1 from leq (by kernel_rfl)).symm ▸ (show LeO (n9 F t0 t1) (n9 bO t0 t1) from(H.s_l9Blocks_L1 _ _))
theorem EG{F:FsBuild}(H:LeFsBuild F):∀ (t5:Int) (s32:bw),LeO (oa F t5 s32) (s_l9Blocks_L1 t5 s32):=fun t5 s32=>(show s_l9Blocks_L1 t5 s32=oa bO t5 s32 from leq (by kernel_rfl)).symm ▸ (show LeO (oa F t5 s32) (oa bO t5 s32) from(li (li (li lr (li (lb (H.s_l9Node _) fun _=>(li lr (H.s_l9Blocks_L1 _ _))) lr)) lr) lr))
theorem Dn{F:FsBuild}(H:LeFsBuild F):∀ (s0:bM) (t1:Int),LeO (mA F s0 t1) (s_l3Piece s0 t1):=fun s0 t1=>(show s_l3Piece s0 t1=mA bO s0 t1 from leq (by kernel_rfl)).symm ▸ (show LeO (mA F s0 t1) (mA bO s0 t1) from(lb (H.s_l3Atom _ _) fun _=>(H.s_l3Piece_L1 _ _ _)))
theorem Dp{F:FsBuild}(H:LeFsBuild F):∀ (s0:bM) (s64:bD) (s80:bD),LeO (mB F s0 s64 s80) (s_l3Piece_L1 s0 s64 s80):=fun s0 s64 s80=>(show s_l3Piece_L1 s0 s64 s80=mB bO s0 s64 s80 from leq (by kernel_rfl)).symm ▸ (show LeO (mB F s0 s64 s80) (mB bO s0 s64 s80) from(li (lb (H.s_l3Now _ _) fun _=>(li (H.s_l3Piece_L2 _ _ _ _) (lb (H.s_l3Now _ _) fun _=>(li (H.s_l3Piece_L2 _ _ _ _) (lb (H.s_l3Now _ _) fun _=>(li (H.s_l3Piece_L2 _ _ _ _) (H.s_l3Piece_L2 _ _ _ _))))))) lr))
theorem Dq{F:FsBuild}(H:LeFsBuild F):∀ (t6:Int) (s0:bM) (s64:bD) (s80:bD),LeO (mC F t6 s0 s64 s80) (s_l3Piece_L2 t6 s0 s64 s80):=fun t6 s0 s64 s80=>(show s_l3Piece_L2 t6 s0 s64 s80=mC bO t6 s0 s64 s80 from leq (by kernel_rfl)).symm ▸ (show LeO (mC F t6 s0 s64 s80) (mC bO t6 s0 s64 s80) from(li lr (H.s_l3Piece_L1 _ _ _)))
theorem De{F:FsBuild}(H:LeFsBuild F):∀ (s0:bM) (t1:Int),LeO (mp F s0 t1) (s_l3Atom s0 t1):=fun s0 t1=>(show s_l3Atom s0 t1=mp bO s0 t1 from leq (by kernel_rfl)).symm ▸ (show LeO (mp F s0 t1) (mp bO s0 t1) from(li lr (li lr (li lr (li (li (lb (H.s_l3Pattern _ _) fun _=>(lb (H.s_l3Now _ _) fun _=>(li lr lr))) (li lr (li lr (li lr (li (lb (H.s_l3Set _) fun _=>lr) (li (li lr (li lr lr)) (li (li (H.s_l3Atom_L1 _ _ _) (H.s_l3Atom_L1 _ _ _)) (li (li (H.s_l3Atom_L1 _ _ _) (H.s_l3Atom_L1 _ _ _)) (li (H.s_l3Atom_L1 _ _ _) (H.s_l3Atom_L1 _ _ _)))))))))) lr)))))
theorem Df{F:FsBuild}(H:LeFsBuild F):∀ (t5:Int) (s0:bM) (s64:bD),LeO (mq F t5 s0 s64) (s_l3Atom_L1 t5 s0 s64):=fun t5 s0 s64=>(show s_l3Atom_L1 t5 s0 s64=mq bO t5 s0 s64 from leq (by kernel_rfl)).symm ▸ (show LeO (mq F t5 s0 s64) (mq bO t5 s0 s64)from lr)
theorem Cj{F:FsBuild}(H:LeFsBuild F):∀ (t0:bD),LeO (lq F t0) (s_NfaOf t0):=fun t0=>(show s_NfaOf t0=lq bO t0 from leq (by kernel_rfl)).symm ▸ (show LeO (lq F t0) (lq bO t0) from(lb (H.s_RexOk _) fun _=>(li lr (lb (H.s_l4Of _ _) fun _=>(lb (H.s_l4Put _ _) fun _=>lr)))))
theorem Dv{F:FsBuild}(H:LeFsBuild F):∀ (s0:bM),LeO (mH F s0) (s_l3Set s0):=fun s0=>(show s_l3Set s0=mH bO s0 from leq (by kernel_rfl)).symm ▸ (show LeO (mH F s0) (mH bO s0) from(lb (H.s_l3Now _ _) fun _=>(li (H.s_l3Set_L1 _ _ _) (H.s_l3Set_L1 _ _ _))))
theorem Dw{F:FsBuild}(H:LeFsBuild F):∀ (s0:bM) (s32:bD) (s48:bD),LeO (mI F s0 s32 s48) (s_l3Set_L1 s0 s32 s48):=fun s0 s32 s48=>(show s_l3Set_L1 s0 s32 s48=mI bO s0 s32 s48 from leq (by kernel_rfl)).symm ▸ (show LeO (mI F s0 s32 s48) (mI bO s0 s32 s48) from(H.s_l3Set_L2 _ _ _ _ _))
theorem Dx{F:FsBuild}(H:LeFsBuild F):∀ (t4:(List Bool)) (t5:Int) (s0:bM) (s32:bD) (s48:bD),LeO (mJ F t4 t5 s0 s32 s48) (s_l3Set_L2 t4 t5 s0 s32 s48):=fun t4 t5 s0 s32 s48=>(show s_l3Set_L2 t4 t5 s0 s32 s48=mJ bO t4 t5 s0 s32 s48 from leq (by kernel_rfl)).symm ▸ (show LeO (mJ F t4 t5 s0 s32 s48) (mJ bO t4 t5 s0 s32 s48) from(li (li (li (li (li (li (li (li (li (li (H.s_l3Set_L3 _ _ _ _ _ _ _) lr) (H.s_l3Set_L3 _ _ _ _ _ _ _)) lr) (H.s_l3Set_L3 _ _ _ _ _ _ _)) lr) (H.s_l3Set_L3 _ _ _ _ _ _ _)) lr) (li (H.s_l3Set_L4 _ _ _ _) (li (H.s_l3Set_L4 _ _ _ _) (H.s_l3Set_L4 _ _ _ _)))) lr) (li (H.s_l3Set_L4 _ _ _ _) (li (H.s_l3Set_L4 _ _ _ _) (H.s_l3Set_L4 _ _ _ _)))))
theorem Dy{F:FsBuild}(H:LeFsBuild F):∀ (t4:(List Bool)) (t5:Int) (t6:Int) (t7:Int) (s0:bM) (s32:bD) (s48:bD),LeO (mK F t4 t5 t6 t7 s0 s32 s48) (s_l3Set_L3 t4 t5 t6 t7 s0 s32 s48):=fun t4 t5 t6 t7 s0 s32 s48=>(show s_l3Set_L3 t4 t5 t6 t7 s0 s32 s48=mK bO t4 t5 t6 t7 s0 s32 s48 from leq (by kernel_rfl)).symm ▸ (show LeO (mK F t4 t5 t6 t7 s0 s32 s48) (mK bO t4 t5 t6 t7 s0 s32 s48) from(li (H.s_l3Set_L5 _ _ _ _ _ _ _) (H.s_l3Set_L5 _ _ _ _ _ _ _)))
theorem Dz{F:FsBuild}(H:LeFsBuild F):∀ (t4:(List Bool)) (s0:bM) (s32:bD) (s48:bD),LeO (mL F t4 s0 s32 s48) (s_l3Set_L4 t4 s0 s32 s48):=fun t4 s0 s32 s48=>(show s_l3Set_L4 t4 s0 s32 s48=mL bO t4 s0 s32 s48 from leq (by kernel_rfl)).symm ▸ (show LeO (mL F t4 s0 s32 s48) (mL bO t4 s0 s32 s48) from(H.s_l3Set_L6 _ _ _ _ _ _))
theorem DA{F:FsBuild}(H:LeFsBuild F):∀ (t4:(List Bool)) (t5:Int) (t6:Int) (t7:Int) (s0:bM) (s32:bD) (s48:bD),LeO (mM F t4 t5 t6 t7 s0 s32 s48) (s_l3Set_L5 t4 t5 t6 t7 s0 s32 s48):=fun t4 t5 t6 t7 s0 s32 s48=>(show s_l3Set_L5 t4 t5 t6 t7 s0 s32 s48=mM bO t4 t5 t6 t7 s0 s32 s48 from leq (by kernel_rfl)).symm ▸ (show LeO (mM F t4 t5 t6 t7 s0 s32 s48) (mM bO t4 t5 t6 t7 s0 s32 s48) from(H.s_l3Set_L7 _ _ _ _ _ _ _))
theorem DB{F:FsBuild}(H:LeFsBuild F):∀ (t4:(List Bool)) (t9:(List Int)) (t10:Int) (s0:bM) (s32:bD) (s48:bD),LeO (mN F t4 t9 t10 s0 s32 s48) (s_l3Set_L6 t4 t9 t10 s0 s32 s48):=fun t4 t9 t10 s0 s32 s48=>(show s_l3Set_L6 t4 t9 t10 s0 s32 s48=mN bO t4 t9 t10 s0 s32 s48 from leq (by kernel_rfl)).symm ▸ (show LeO (mN F t4 t9 t10 s0 s32 s48) (mN bO t4 t9 t10 s0 s32 s48) from(li (li (li (li (H.s_l3Set_L6 _ _ _ _ _ _) lr) (H.s_l3Set_L6 _ _ _ _ _ _)) lr) lr))
theorem DC{F:FsBuild}(H:LeFsBuild F):∀ (t4:(List Bool)) (t5:Int) (t7:Int) (t8:Int) (s0:bM) (s32:bD) (s48:bD),LeO (mO F t4 t5 t7 t8 s0 s32 s48) (s_l3Set_L7 t4 t5 t7 t8 s0 s32 s48):=fun t4 t5 t7 t8 s0 s32 s48=>(show s_l3Set_L7 t4 t5 t7 t8 s0 s32 s48=mO bO t4 t5 t7 t8 s0 s32 s48 from leq (by kernel_rfl)).symm ▸ (show LeO (mO F t4 t5 t7 t8 s0 s32 s48) (mO bO t4 t5 t7 t8 s0 s32 s48) from(li (li (H.s_l3Set_L7 _ _ _ _ _ _ _) lr) (H.s_l3Set_L2 _ _ _ _ _)))
theorem Cs{F:FsBuild}(H:LeFsBuild F):∀ (t0:bD),LeO (lz F t0) (s_RexOk t0):=fun t0=>(show s_RexOk t0=lz bO t0 from leq (by kernel_rfl)).symm ▸ (show LeO (lz F t0) (lz bO t0) from(lb (H.s_l3Deep _) fun _=>(li (lb (H.s_l3Right _) fun _=>lr) lr)))
theorem DF{F:FsBuild}(H:LeFsBuild F):∀ (t0:(List bA)) (t1:bD),LeO (mR F t0 t1) (s_l4Of t0 t1):=fun t0 t1=>(show s_l4Of t0 t1=mR bO t0 t1 from leq (by kernel_rfl)).symm ▸ (show LeO (mR F t0 t1) (mR bO t0 t1) from(li (li lr lr) (li (lb (H.s_l4Put _ _) fun _=>lr) (li (li lr lr) (li (lb (H.s_l4Put _ _) fun _=>lr) (li (lb (H.s_l4Put _ _) fun _=>lr) (li (H.s_l4Of_L1 _ _ _) (li (lb (H.s_l4Or _ _) fun _=>lr) (li (lb (H.s_l4Put _ _) fun _=>(li (lb (H.s_l4Of _ _) fun _=>(li (li (li (H.s_l4Of_L2 _) lr) lr) lr)) lr)) (li (li (lb (H.s_l4Of _ _) fun _=>(li (H.s_l4Of_L2 _) lr)) lr) (li (lb (H.s_l4Put _ _) fun _=>(li (lb (H.s_l4Of _ _) fun _=>(li (li (H.s_l4Of_L2 _) lr) lr)) lr)) (H.s_l4Of_L2 _))))))))))))
theorem DG{F:FsBuild}(H:LeFsBuild F):∀ (t0:(List bA)) (t6:Int) (s48:bD),LeO (mS F t0 t6 s48) (s_l4Of_L1 t0 t6 s48):=fun t0 t6 s48=>(show s_l4Of_L1 t0 t6 s48=mS bO t0 t6 s48 from leq (by kernel_rfl)).symm ▸ (show LeO (mS F t0 t6 s48) (mS bO t0 t6 s48) from(li (li (lb (H.s_l4Of _ _) fun _=>(H.s_l4Of_L1 _ _ _)) lr) (H.s_l4Of_L2 _)))
theorem DH{F:FsBuild}(H:LeFsBuild F):∀ (t0:(List bA)),LeO (mT F t0) (s_l4Of_L2 t0):=fun t0=>(show s_l4Of_L2 t0=mT bO t0 from leq (by kernel_rfl)).symm ▸ (show LeO (mT F t0) (mT bO t0)from lr)
theorem DL{F:FsBuild}(H:LeFsBuild F):∀ (t0:(List bA)) (t1:Int),LeO (mX F t0 t1) (s_l4Put t0 t1):=fun t0 t1=>(show s_l4Put t0 t1=mX bO t0 t1 from leq (by kernel_rfl)).symm ▸ (show LeO (mX F t0 t1) (mX bO t0 t1) from(li lr lr))
theorem Dr{F:FsBuild}(H:LeFsBuild F):∀ (t0:bD),LeO (mD F t0) (s_l3Right t0):=fun t0=>(show s_l3Right t0=mD bO t0 from leq (by kernel_rfl)).symm ▸ (show LeO (mD F t0) (mD bO t0) from(H.s_l3Right_L1 _ _))
theorem Ds{F:FsBuild}(H:LeFsBuild F):∀ (t3:Int) (s16:bD),LeO (mE F t3 s16) (s_l3Right_L1 t3 s16):=fun t3 s16=>(show s_l3Right_L1 t3 s16=mE bO t3 s16 from leq (by kernel_rfl)).symm ▸ (show LeO (mE F t3 s16) (mE bO t3 s16) from(li (li (lb (H.s_l3Right _) fun _=>(li lr (H.s_l3Right_L1 _ _))) lr) (li (lb (H.s_l1In _ _ _) fun _=>(li (li (li lr lr) lr) lr)) (li (li (li (lb (H.s_l3Up _) fun _=>(li lr lr)) lr) lr) (li (H.s_l3Right_L2 _ _ _ _) (H.s_l3Right_L2 _ _ _ _))))))
theorem Dt{F:FsBuild}(H:LeFsBuild F):∀ (t4:Int) (t23:Int) (t62:Bool) (s16:bD),LeO (mF F t4 t23 t62 s16) (s_l3Right_L2 t4 t23 t62 s16):=fun t4 t23 t62 s16=>(show s_l3Right_L2 t4 t23 t62 s16=mF bO t4 t23 t62 s16 from leq (by kernel_rfl)).symm ▸ (show LeO (mF F t4 t23 t62 s16) (mF bO t4 t23 t62 s16) from(li (li (li (li lr lr) lr) lr) (li (H.s_l3Right_L3 _ _ _) (li (H.s_l3Right_L3 _ _ _) (H.s_l3Right_L3 _ _ _)))))
theorem Du{F:FsBuild}(H:LeFsBuild F):∀ (t4:Int) (t82:Bool) (s16:bD),LeO (mG F t4 t82 s16) (s_l3Right_L3 t4 t82 s16):=fun t4 t82 s16=>(show s_l3Right_L3 t4 t82 s16=mG bO t4 t82 s16 from leq (by kernel_rfl)).symm ▸ (show LeO (mG F t4 t82 s16) (mG bO t4 t82 s16) from(li (li (li (li lr lr) lr) lr) (lb (H.s_l1In _ _ _) fun _=>(li (li (li (li lr lr) lr) lr) lr))))
theorem DI{F:FsBuild}(H:LeFsBuild F):∀ (t0:(List bA)) (t1:(List bD)),LeO (mU F t0 t1) (s_l4Or t0 t1):=fun t0 t1=>(show s_l4Or t0 t1=mU bO t0 t1 from leq (by kernel_rfl)).symm ▸ (show LeO (mU F t0 t1) (mU bO t0 t1) from(H.s_l4Or_L1 _ _ _ _))
theorem DJ{F:FsBuild}(H:LeFsBuild F):∀ (t0:(List bA)) (t1:(List bD)) (t5:(List Int)) (t6:Int),LeO (mV F t0 t1 t5 t6) (s_l4Or_L1 t0 t1 t5 t6):=fun t0 t1 t5 t6=>(show s_l4Or_L1 t0 t1 t5 t6=mV bO t0 t1 t5 t6 from leq (by kernel_rfl)).symm ▸ (show LeO (mV F t0 t1 t5 t6) (mV bO t0 t1 t5 t6) from(li (lb (H.s_l4Put _ _) fun _=>(li (lb (H.s_l4Of _ _) fun _=>(li (lb (H.s_l4Put _ _) fun _=>(li (li (H.s_l4Or_L1 _ _ _ _) lr) lr)) lr)) lr)) (li (lb (H.s_l4Of _ _) fun _=>(H.s_l4Or_L2 _ _ _)) lr)))
theorem DK{F:FsBuild}(H:LeFsBuild F):∀ (t0:(List bA)) (t5:(List Int)) (t8:Int),LeO (mW F t0 t5 t8) (s_l4Or_L2 t0 t5 t8):=fun t0 t5 t8=>(show s_l4Or_L2 t0 t5 t8=mW bO t0 t5 t8 from leq (by kernel_rfl)).symm ▸ (show LeO (mW F t0 t5 t8) (mW bO t0 t5 t8) from(li (li (li (H.s_l4Or_L2 _ _ _) lr) lr) lr))
theorem DD{F:FsBuild}(H:LeFsBuild F):∀ (t0:(List Int)),LeO (mP F t0) (s_l3Up t0):=fun t0=>(show s_l3Up t0=mP bO t0 from leq (by kernel_rfl)).symm ▸ (show LeO (mP F t0) (mP bO t0) from(H.s_l3Up_L1 _ _))
theorem DE{F:FsBuild}(H:LeFsBuild F):∀ (t0:(List Int)) (t3:Int),LeO (mQ F t0 t3) (s_l3Up_L1 t0 t3):=fun t0 t3=>(show s_l3Up_L1 t0 t3=mQ bO t0 t3 from leq (by kernel_rfl)).symm ▸ (show LeO (mQ F t0 t3) (mQ bO t0 t3) from(li (li (li (li lr (H.s_l3Up_L1 _ _)) lr) lr) lr))
def jZ(n:Nat):FsBuild:=Nat.rec ⟨fun _ _ _=>none,fun _=>none,fun _=>none,fun _ _=>none,fun _ _=>none,fun _=>none,fun _ _=>none,fun _=>none,fun _ _ _ _ _ _ _ _=>none,fun _=>none,fun _ _ _ _ _ _ _ _ _ _ _=>none,fun _=>none,fun _ _=>none,fun _ _=>none,fun _ _ _=>none,fun _ _ _=>none,fun _ _ _ _ _=>none,fun _=>none,fun _ _ _=>none,fun _ _ _=>none,fun _=>none,fun _=>none,fun _=>none,fun _ _ _=>none,fun _ _=>none,fun _=>none,fun _ _=>none,fun _ _ _ _=>none,fun _ _=>none,fun _ _=>none,fun _=>none,fun _ _ _ _=>none,fun _ _ _ _=>none,fun _ _ _ _ _=>none,fun _ _ _ _=>none,fun _ _ _ _ _ _=>none,fun _ _ _ _ _=>none,fun _ _ _ _ _ _=>none,fun _=>none,fun _=>none,fun _ _ _ _=>none,fun _ _ _ _ _ _=>none,fun _ _ _ _ _=>none,fun _ _ _ _=>none,fun _ _ _ _=>none,fun _ _ _=>none,fun _ _ _ _=>none,fun _ _=>none,fun _=>none,fun _=>none,fun _ _ _ _ _ _ _ _ _=>none,fun _ _=>none,fun _=>none,fun _ _ _ _ _ _ _=>none,fun _ _=>none,fun _=>none,fun _ _=>none,fun _=>none,fun _ _=>none,fun _=>none,fun _ _=>none,fun _ _ _=>none,fun _=>none,fun _ _=>none,fun _ _ _=>none,fun _ _ _=>none,fun _ _ _ _=>none,fun _ _ _ _=>none,fun _ _ _ _=>none,fun _ _ _ _=>none,fun _ _ _ _=>none,fun _ _ _ _=>none,none,fun _=>none,fun _=>none,fun _=>none,fun _ _=>none,fun _ _ _=>none,fun _ _ _ _=>none,fun _ _ _=>none,fun _ _=>none,fun _ _ _=>none,fun _=>none,fun _ _=>none,fun _ _ _=>none,fun _ _=>none,fun _ _ _ _=>none,fun _ _=>none,fun _=>none,fun _=>none,fun _ _=>none,fun _=>none,fun _ _ _=>none,fun _=>none,fun _ _=>none,fun _ _ _=>none,fun _ _ _ _=>none,fun _ _ _ _=>none,fun _ _ _ _ _=>none,fun _ _ _ _=>none,fun _ _ _ _=>none,fun _ _=>none,fun _ _ _=>none,fun _=>none,fun _ _=>none,fun _ _ _ _=>none,fun _=>none,fun _ _ _=>none,fun _=>none,fun _ _=>none,fun _ _ _=>none,fun _ _ _ _ _=>none,fun _ _ _ _ _ _=>none,fun _ _ _ _=>none,fun _=>none,fun _ _=>none,fun _=>none,fun _ _ _ _ _ _ _ _ _=>none,fun _ _=>none,fun _ _ _=>none,fun _=>none,fun _=>none,fun _ _ _ _ _ _ _ _=>none,fun _=>none,fun _ _ _ _ _ _=>none,fun _=>none,fun _ _=>none,fun _ _ _ _ _ _=>none,fun _ _ _ _ _ _ _=>none,fun _ _ _ _ _ _ _=>none,fun _=>none,fun _ _ _ _=>none,fun _ _ _ _=>none,fun _ _ _ _=>none,fun _ _ _ _=>none,fun _ _ _=>none,fun _=>none,fun _ _=>none,fun _ _=>none,fun _ _ _ _=>none,fun _ _=>none,fun _=>none,fun _ _ _ _=>none,fun _=>none,fun _ _ _=>none,fun _ _ _=>none,fun _ _=>none,fun _ _=>none,fun _ _=>none,fun _ _ _=>none,fun _ _ _ _=>none,fun _ _=>none,fun _ _ _=>none,fun _=>none,fun _=>none,fun _ _ _=>none,fun _ _ _ _ _=>none,fun _ _ _ _ _ _ _=>none,fun _ _ _ _=>none,fun _ _ _ _ _ _ _=>none,fun _ _ _ _ _ _=>none,fun _ _ _ _ _ _ _=>none,fun _=>none,fun _ _=>none,fun _ _ _=>none,fun _=>none,fun _ _=>none,fun _=>none,fun _ _=>none,fun _ _ _ _=>none,fun _ _ _=>none,fun _ _=>none,fun _ _ _ _=>none,fun _ _ _=>none,fun _=>none,fun _ _=>none⟩ (fun _ F=>⟨mm F,kQ F,lw F,lx F,ly F,oo F,oq F,lu F,lv F,kW F,kX F,ot F,ou F,nr F,nu F,ls F,lt F,lD F,lE F,lF F,nS F,nV F,lj F,lk F,mn F,kR F,kS F,kT F,kU F,kV F,lm F,lp F,l5 F,l6 F,l7 F,l8 F,l9 F,mg F,m0 F,ll F,lU F,lV F,lW F,lX F,lY F,nf F,ng F,nI F,nR F,nA F,nB F,nW F,nE F,nF F,nJ F,lB F,lC F,lJ F,lK F,lG F,lH F,lI F,lQ F,lR F,lL F,lM F,lN F,mi F,mh F,lZ F,mc F,mb F,mZ F,lh F,lA F,mo F,m8 F,m9 F,na F,nb F,nn F,nq F,mY F,nh F,ni F,nj F,nk F,n6 F,nZ F,nQ F,nO F,ov F,ow F,od F,lO F,lP F,md F,me F,mf F,ma F,mj F,lS F,lT F,ml F,my F,mz F,mr F,mt F,kY F,kZ F,k9 F,la F,lf F,lg F,nx F,n8 F,nX F,nY F,nG F,nH F,nP F,nC F,nD F,nT F,nU F,n7 F,nK F,nL F,nM F,nN F,oe F,oh F,oi F,oj F,ol F,om F,ox F,oy F,mv F,mw F,mu F,ny F,nz F,nw F,ob F,oc F,n9 F,oa F,mA F,mB F,mC F,mp F,mq F,lq F,mH F,mI F,mJ F,mK F,mL F,mM F,mN F,mO F,lz F,mR F,mS F,mT F,mX F,mD F,mE F,mF F,mG F,mU F,mV F,mW F,mP F,mQ F⟩) n
theorem bR:∀ n,LeFsBuild (jZ n)
 | 0=>⟨fun _ _ _=>ln,fun _=>ln,fun _=>ln,fun _ _=>ln,fun _ _=>ln,fun _=>ln,fun _ _=>ln,fun _=>ln,fun _ _ _ _ _ _ _ _=>ln,fun _=>ln,fun _ _ _ _ _ _ _ _ _ _ _=>ln,fun _=>ln,fun _ _=>ln,fun _ _=>ln,fun _ _ _=>ln,fun _ _ _=>ln,fun _ _ _ _ _=>ln,fun _=>ln,fun _ _ _=>ln,fun _ _ _=>ln,fun _=>ln,fun _=>ln,fun _=>ln,fun _ _ _=>ln,fun _ _=>ln,fun _=>ln,fun _ _=>ln,fun _ _ _ _=>ln,fun _ _=>ln,fun _ _=>ln,fun _=>ln,fun _ _ _ _=>ln,fun _ _ _ _=>ln,fun _ _ _ _ _=>ln,fun _ _ _ _=>ln,fun _ _ _ _ _ _=>ln,fun _ _ _ _ _=>ln,fun _ _ _ _ _ _=>ln,fun _=>ln,fun _=>ln,fun _ _ _ _=>ln,fun _ _ _ _ _ _=>ln,fun _ _ _ _ _=>ln,fun _ _ _ _=>ln,fun _ _ _ _=>ln,fun _ _ _=>ln,fun _ _ _ _=>ln,fun _ _=>ln,fun _=>ln,fun _=>ln,fun _ _ _ _ _ _ _ _ _=>ln,fun _ _=>ln,fun _=>ln,fun _ _ _ _ _ _ _=>ln,fun _ _=>ln,fun _=>ln,fun _ _=>ln,fun _=>ln,fun _ _=>ln,fun _=>ln,fun _ _=>ln,fun _ _ _=>ln,fun _=>ln,fun _ _=>ln,fun _ _ _=>ln,fun _ _ _=>ln,fun _ _ _ _=>ln,fun _ _ _ _=>ln,fun _ _ _ _=>ln,fun _ _ _ _=>ln,fun _ _ _ _=>ln,fun _ _ _ _=>ln,ln,fun _=>ln,fun _=>ln,fun _=>ln,fun _ _=>ln,fun _ _ _=>ln,fun _ _ _ _=>ln,fun _ _ _=>ln,fun _ _=>ln,fun _ _ _=>ln,fun _=>ln,fun _ _=>ln,fun _ _ _=>ln,fun _ _=>ln,fun _ _ _ _=>ln,fun _ _=>ln,fun _=>ln,fun _=>ln,fun _ _=>ln,fun _=>ln,fun _ _ _=>ln,fun _=>ln,fun _ _=>ln,fun _ _ _=>ln,fun _ _ _ _=>ln,fun _ _ _ _=>ln,fun _ _ _ _ _=>ln,fun _ _ _ _=>ln,fun _ _ _ _=>ln,fun _ _=>ln,fun _ _ _=>ln,fun _=>ln,fun _ _=>ln,fun _ _ _ _=>ln,fun _=>ln,fun _ _ _=>ln,fun _=>ln,fun _ _=>ln,fun _ _ _=>ln,fun _ _ _ _ _=>ln,fun _ _ _ _ _ _=>ln,fun _ _ _ _=>ln,fun _=>ln,fun _ _=>ln,fun _=>ln,fun _ _ _ _ _ _ _ _ _=>ln,fun _ _=>ln,fun _ _ _=>ln,fun _=>ln,fun _=>ln,fun _ _ _ _ _ _ _ _=>ln,fun _=>ln,fun _ _ _ _ _ _=>ln,fun _=>ln,fun _ _=>ln,fun _ _ _ _ _ _=>ln,fun _ _ _ _ _ _ _=>ln,fun _ _ _ _ _ _ _=>ln,fun _=>ln,fun _ _ _ _=>ln,fun _ _ _ _=>ln,fun _ _ _ _=>ln,fun _ _ _ _=>ln,fun _ _ _=>ln,fun _=>ln,fun _ _=>ln,fun _ _=>ln,fun _ _ _ _=>ln,fun _ _=>ln,fun _=>ln,fun _ _ _ _=>ln,fun _=>ln,fun _ _ _=>ln,fun _ _ _=>ln,fun _ _=>ln,fun _ _=>ln,fun _ _=>ln,fun _ _ _=>ln,fun _ _ _ _=>ln,fun _ _=>ln,fun _ _ _=>ln,fun _=>ln,fun _=>ln,fun _ _ _=>ln,fun _ _ _ _ _=>ln,fun _ _ _ _ _ _ _=>ln,fun _ _ _ _=>ln,fun _ _ _ _ _ _ _=>ln,fun _ _ _ _ _ _=>ln,fun _ _ _ _ _ _ _=>ln,fun _=>ln,fun _ _=>ln,fun _ _ _=>ln,fun _=>ln,fun _ _=>ln,fun _=>ln,fun _ _=>ln,fun _ _ _ _=>ln,fun _ _ _=>ln,fun _ _=>ln,fun _ _ _ _=>ln,fun _ _ _=>ln,fun _=>ln,fun _ _=>ln⟩
 | n+1=>⟨Da (bR n),BX (bR n),Cp (bR n),Cq (bR n),Cr (bR n),EQ (bR n),ER (bR n),Cm (bR n),Cn (bR n),B5 (bR n),B6 (bR n),ES (bR n),ET (bR n),D5 (bR n),D6 (bR n),Ck (bR n),Cl (bR n),Cw (bR n),Cy (bR n),Cz (bR n),Et (bR n),Ex (bR n),Ce (bR n),Cf (bR n),Db (bR n),BZ (bR n),B0 (bR n),B1 (bR n),B3 (bR n),B4 (bR n),Ch (bR n),Ci (bR n),CU (bR n),CV (bR n),CW (bR n),CX (bR n),CY (bR n),C5 (bR n),DP (bR n),Cg (bR n),CO (bR n),CP (bR n),CQ (bR n),CR (bR n),CS (bR n),DU (bR n),DW (bR n),Ej (bR n),Es (bR n),Eb (bR n),Ec (bR n),Ey (bR n),Ef (bR n),Eg (bR n),Ek (bR n),Cu (bR n),Cv (bR n),CD (bR n),CE (bR n),CA (bR n),CB (bR n),CC (bR n),CK (bR n),CL (bR n),CF (bR n),CG (bR n),CH (bR n),C7 (bR n),C6 (bR n),CT (bR n),C1 (bR n),C0 (bR n),DN (bR n),Cd (bR n),Ct (bR n),Dd (bR n),DQ (bR n),DR (bR n),DS (bR n),DT (bR n),D3 (bR n),D4 (bR n),DM (bR n),DX (bR n),DY (bR n),DZ (bR n),D0 (bR n),EC (bR n),EB (bR n),Er (bR n),Ep (bR n),EU (bR n),EV (bR n),EJ (bR n),CI (bR n),CJ (bR n),C2 (bR n),C3 (bR n),C4 (bR n),CZ (bR n),C8 (bR n),CM (bR n),CN (bR n),C9 (bR n),Dl (bR n),Dm (bR n),Dg (bR n),Dh (bR n),B7 (bR n),B8 (bR n),B9 (bR n),Ca (bR n),Cb (bR n),Cc (bR n),D8 (bR n),EE (bR n),Ez (bR n),EA (bR n),Eh (bR n),Ei (bR n),Eq (bR n),Ed (bR n),Ee (bR n),Ev (bR n),Ew (bR n),ED (bR n),El (bR n),Em (bR n),En (bR n),Eo (bR n),EK (bR n),EL (bR n),EM (bR n),EN (bR n),EO (bR n),EP (bR n),EW (bR n),EX (bR n),Dj (bR n),Dk (bR n),Di (bR n),D9 (bR n),Ea (bR n),D7 (bR n),EH (bR n),EI (bR n),EF (bR n),EG (bR n),Dn (bR n),Dp (bR n),Dq (bR n),De (bR n),Df (bR n),Cj (bR n),Dv (bR n),Dw (bR n),Dx (bR n),Dy (bR n),Dz (bR n),DA (bR n),DB (bR n),DC (bR n),Cs (bR n),DF (bR n),DG (bR n),DH (bR n),DL (bR n),Dr (bR n),Ds (bR n),Dt (bR n),Du (bR n),DI (bR n),DJ (bR n),DK (bR n),DD (bR n),DE (bR n)⟩
end Go.Proofs.YtmcjclfgedjgaaaGreat.E.TD
