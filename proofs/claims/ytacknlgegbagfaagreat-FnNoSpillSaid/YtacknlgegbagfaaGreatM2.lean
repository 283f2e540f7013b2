/- What the pure statement needs (2). No condition. -/
import Derived.Test.YtacknlgegbagfaaGreatM1
import Derived.Test.YtacknlgegbagfaaGreatTNe1
import Derived.Test.YtacknlgegbagfaaGreatTNe2
import Derived.Test.YtacknlgegbagfaaGreatTNe3
namespace Go.Proofs.YtacknlgegbagfaaGreat.E.TN
open Go.Proofs.YtacknlgegbagfaaGreat.E
set_option linter.unusedVariables false
set_option maxRecDepth 100000
structure FsBuild where
 s_l1In:Int→Int→Int→Option (Bool×Unit)
 s_Build:(List Int)→Option (bA×Int×Unit)
 s_ProgOk:bA→Option (Bool×Unit)
 s_ProgOk_L1:Int→bA→Option (Bool×Unit)
 s_ProgOk_L2:Int→bA→Option (Bool×Unit)
 s_l9Line:(List Int)→Option (Bool×Unit)
 s_l9Line_L1:(List Int)→Int→Option (Bool×Unit)
 s_Parse:(List Int)→Option ((List bD)×Int×Unit)
 s_Parse_L1:(List bD)→(List bD)→Int→(List bF)→Int→Int→Bool→bv→Option ((List bD)×Int×Unit)
 s_Compile:(List bD)→Option (bA×Int×Unit)
 s_Compile_L1:(List bD)→(List (List Int))→(List (List Int))→Int→bA→(List (List Int))→(List (List Int))→(List bw)→(List (List Int))→(List (List Int))→(List bw)→Option (bA×Int×Unit)
 s_l9Name:(List Int)→Option (Bool×Unit)
 s_l9Name_L1:(List Int)→Int→Option (Bool×Unit)
 s_l7Within:(List (List Int))→(List Int)→Option (Bool×Unit)
 s_l7Within_L1:(List (List Int))→(List Int)→Int→Option (Bool×Unit)
 s_OpsOk:(List bw)→Int→Int→Option (Bool×Unit)
 s_OpsOk_L1:(List bw)→Int→Int→Int→Int→Option (Bool×Unit)
 s_Tokens:(List Int)→Option ((List bF)×Int×Unit)
 s_Tokens_L1:(List Int)→(List bF)→Int→Option ((List bF)×Int×Unit)
 s_Tokens_L2:(List Int)→(List bF)→Int→Option ((List bF)×Int×Unit)
 s_l8Now:bO→Option (bF×bO×Unit)
 s_l8Rule:bO→Option (bD×bO×Unit)
 s_Deep:bv→Option (Int×Unit)
 s_Deep_L1:Int→Int→bv→Option (Int×Unit)
 s_l1Max:Int→Int→Option (Int×Unit)
 s_Check:(List bD)→Option (Int×Unit)
 s_Check_L1:(List bD)→Int→Option (Int×Unit)
 s_Check_L2:(List bD)→(List (List Int))→(List (List Int))→Int→Option (Int×Unit)
 s_Check_L3:(List bD)→Int→Option (Int×Unit)
 s_Check_L4:(List bD)→Int→Option (Int×Unit)
 s_Names:(List bD)→Option ((List (List Int))×(List (List Int))×Unit)
 s_Names_L1:(List bD)→(List (List Int))→(List (List Int))→Int→Option ((List (List Int))×(List (List Int))×Unit)
 s_l14Block:(List (List Int))→(List (List Int))→(List bw)→bv→Option (((List (List Int))×((List (List Int))×((List bw)×Unit)))×Unit)
 s_l14Block_L1:Int→(List (List Int))→(List (List Int))→(List bw)→bv→Option (((List (List Int))×((List (List Int))×((List bw)×Unit)))×Unit)
 s_l14E:(List (List Int))→(List (List Int))→(List bw)→bv→Option (((List (List Int))×((List (List Int))×((List bw)×Unit)))×Unit)
 s_l14E_L1:Int→Bool→(List (List Int))→(List (List Int))→(List bw)→bv→Option (((List (List Int))×((List (List Int))×((List bw)×Unit)))×Unit)
 s_l14E_L2:Int→(List (List Int))→(List (List Int))→(List bw)→bv→Option (((List (List Int))×((List (List Int))×((List bw)×Unit)))×Unit)
 s_l14Put:(List (List Int))→(List (List Int))→(List bw)→Int→Int→(List Int)→Option (Int×((List (List Int))×((List (List Int))×((List bw)×Unit)))×Unit)
 s_l7Letter:Int→Option (Bool×Unit)
 s_Keyword:(List Int)→Option (Bool×Unit)
 s_l13Op:bw→Int→Int→Int→Option (Bool×Unit)
 s_l13Op_L1:Int→Int→Int→Int→Bool→bw→Option (Bool×Unit)
 s_l13Op_L2:Int→Int→Int→Bool→bw→Option (Bool×Unit)
 s_l13Op_L3:Int→Int→Bool→bw→Option (Bool×Unit)
 s_l13Op_L4:Int→Int→Bool→bw→Option (Bool×Unit)
 s_l7One:(List Int)→Int→(List bF)→Option (bF×Int×Bool×Unit)
 s_l7One_L1:(List Int)→Int→Int→bF→Option (bF×Int×Bool×Unit)
 s_l8Is:bO→(List Int)→Option (Bool×bO×Unit)
 s_l8Next:bO→Option (bO×Unit)
 s_l8Block:bO→Option (bv×bO×Unit)
 s_l8Block_L1:bO→Int→Int→(List Int)→(List bv)→Int→Int→(List Int)→(List bv)→Option (bv×bO×Unit)
 s_l8Sign:bO→(List Int)→Option (Bool×bO×Unit)
 s_l8E:bO→Option (bv×bO×Unit)
 s_l8E_L1:Int→bO→Int→Int→(List Int)→(List bv)→bv→Option (bv×bO×Unit)
 s_l8Kids:Int→(List bv)→Option ((Int×(Int×((List Int)×((List bv)×Unit))))×Unit)
 s_Tidy:(List bD)→Option (Bool×Unit)
 s_Tidy_L1:(List bD)→Int→Option (Bool×Unit)
 s_l10Line:bv→Option (Bool×Unit)
 s_l10Line_L1:Int→bv→Option (Bool×Unit)
 s_l10Args:bv→Option (Bool×Unit)
 s_l10Args_L1:Int→bv→Option (Bool×Unit)
 s_l10Args_L2:Int→Int→bv→Option (Bool×Unit)
 s_l10Rexes:bv→Option (Bool×Unit)
 s_l10Rexes_L1:Int→bv→Option (Bool×Unit)
 s_l10Names:bv→(List (List Int))→(List (List Int))→Option ((List (List Int))×(List (List Int))×Unit)
 s_l10Names_L1:(List (List Int))→(List (List Int))→bv→Option ((List (List Int))×(List (List Int))×Unit)
 s_l10Names_L2:(List (List Int))→(List (List Int))→Int→bv→Option ((List (List Int))×(List (List Int))×Unit)
 s_l14Stmt:(List (List Int))→(List (List Int))→(List bw)→bv→Option (((List (List Int))×((List (List Int))×((List bw)×Unit)))×Unit)
 s_l14Set:(List (List Int))→(List (List Int))→(List bw)→bv→Option (((List (List Int))×((List (List Int))×((List bw)×Unit)))×Unit)
 s_l14And:(List (List Int))→(List (List Int))→(List bw)→bv→Option (((List (List Int))×((List (List Int))×((List bw)×Unit)))×Unit)
 s_l14Or:(List (List Int))→(List (List Int))→(List bw)→bv→Option (((List (List Int))×((List (List Int))×((List bw)×Unit)))×Unit)
 s_l14Last:(List (List Int))→(List (List Int))→(List bw)→bv→Option (((List (List Int))×((List (List Int))×((List bw)×Unit)))×Unit)
 s_l7Calls:Option ((List (List Int))×Unit)
 s_DecOk:Int→Option (Bool×Unit)
 s_RexParse:(List Int)→Option (bC×Bool×Unit)
 s_l2Digit:Int→Option (Bool×Unit)
 s_l7Number:(List Int)→Int→Option (Int×Int×Bool×Unit)
 s_l7Number_L1:(List Int)→Int→Int→Option (Int×Int×Bool×Unit)
 s_l7Number_L2:(List Int)→Int→Int→Int→Option (Int×Int×Bool×Unit)
 s_l7Number_L3:(List Int)→Int→Int→Option (Int×Int×Bool×Unit)
 s_l7Text:(List Int)→Int→Option ((List Int)×Int×Bool×Unit)
 s_l7Text_L1:(List Int)→(List Int)→Int→Option ((List Int)×Int×Bool×Unit)
 s_l7After:(List bF)→Option (Bool×Unit)
 s_l7Rex:(List Int)→Int→Option ((List Int)×Int×Bool×Unit)
 s_l7Rex_L1:(List Int)→(List Int)→Int→Option ((List Int)×Int×Bool×Unit)
 s_l7Sign:(List Int)→Int→Option ((List Int)×Unit)
 s_l7Sign_L1:(List Int)→Int→(List (List Int))→Int→Option ((List Int)×Unit)
 s_l8Take:bO→(List Int)→Option (bO×Unit)
 s_l8Stmt:bO→Option (bv×bO×Unit)
 s_l8Named:bO→Option (bv×bO×Unit)
 s_l8Level:bO→Int→Option (bv×bO×Unit)
 s_l9Node:bv→Option (Bool×Unit)
 s_l9Node_L1:Int→Bool→bv→Option (Bool×Unit)
 s_l9IsE:Int→Option (Bool×Unit)
 s_l10Put:(List (List Int))→(List Int)→Option ((List (List Int))×Unit)
 s_l10Put_L1:(List (List Int))→(List Int)→Int→Option ((List (List Int))×Unit)
 s_l14Print:(List (List Int))→(List (List Int))→(List bw)→bv→Option (((List (List Int))×((List (List Int))×((List bw)×Unit)))×Unit)
 s_l14Print_L1:(List (List Int))→(List (List Int))→(List bw)→bv→Option (((List (List Int))×((List (List Int))×((List bw)×Unit)))×Unit)
 s_l14Print_L2:Int→(List (List Int))→(List (List Int))→(List bw)→bv→Option (((List (List Int))×((List (List Int))×((List bw)×Unit)))×Unit)
 s_l14If:(List (List Int))→(List (List Int))→(List bw)→bv→Option (((List (List Int))×((List (List Int))×((List bw)×Unit)))×Unit)
 s_l14While:(List (List Int))→(List (List Int))→(List bw)→bv→Option (((List (List Int))×((List (List Int))×((List bw)×Unit)))×Unit)
 s_l12Where:(List (List Int))→(List Int)→Option (Int×Unit)
 s_l12Where_L1:(List (List Int))→(List Int)→Int→Option (Int×Unit)
 s_l1Bit:Bool→Option (Int×Unit)
 s_l3Pattern:bN→Int→Option (bC×bN×Unit)
 s_l3Pattern_L1:Int→(List bC)→bN→bC→Option (bC×bN×Unit)
 s_l3Deep:bC→Option (Int×Unit)
 s_l3Deep_L1:Int→Int→bC→Option (Int×Unit)
 s_DecFront:(List Int)→Option (Int×Int×Unit)
 s_DecFront_L1:(List Int)→Int→Option (Int×Int×Unit)
 s_DecFront_L2:(List Int)→Int→Bool→Option (Int×Int×Unit)
 s_DecFront_L3:(List Int)→Int→Bool→Int→Int→Option (Int×Int×Unit)
 s_DecFront_L4:(List Int)→Int→Bool→Int→Int→Int→Option (Int×Int×Unit)
 s_DecFront_L5:Int→Bool→Int→Int→Option (Int×Int×Unit)
 s_l8Bad:bO→Option (bO×Unit)
 s_l8While:bO→Int→Option (bv×bO×Unit)
 s_l8Simple:bO→Option (bv×bO×Unit)
 s_l8Simple_L1:bO→Int→Int→(List Int)→(List bv)→Int→Int→(List Int)→(List bv)→Option (bv×bO×Unit)
 s_l8Es:bO→(List Int)→Option ((List bv)×bO×Unit)
 s_l8Es_L1:(List Int)→(List bv)→bO→Option ((List bv)×bO×Unit)
 s_l8Name:bO→Option ((List Int)×bO×Unit)
 s_l8Compare:bO→Option (bv×bO×Unit)
 s_l8Compare_L1:(List (List Int))→Int→bO→Int→Int→(List Int)→(List bv)→bv→Option (bv×bO×Unit)
 s_l8Row:bO→Option (bv×bO×Unit)
 s_l8Row_L1:bO→Int→Int→(List Int)→(List bv)→bv→Option (bv×bO×Unit)
 s_l8Unit:bO→Option (bv×bO×Unit)
 s_l8Left:bO→Int→Option (bv×bO×Unit)
 s_l8Left_L1:Int→(List (List (List Int)))→(List (List Int))→bO→bv→bv→Option (bv×bO×Unit)
 s_l8Left_L2:Int→(List (List (List Int)))→(List (List Int))→Int→bO→bv→bv→Option (bv×bO×Unit)
 s_l8Left_L3:Int→(List (List (List Int)))→(List (List Int))→Int→bO→bv→bv→Option (bv×bO×Unit)
 s_l9Kids:bv→Option (Bool×Unit)
 s_l9Kids_L1:Int→Int→Bool→bv→Option (Bool×Unit)
 s_l9Kids_L2:Int→Int→Bool→bv→Option (Bool×Unit)
 s_l9Kids_L3:Int→Int→Bool→bv→Option (Bool×Unit)
 s_l9Kids_L4:Int→Int→Bool→bv→Option (Bool×Unit)
 s_l9Kids_L5:Int→Int→bv→Option (Bool×Unit)
 s_l9Rex:(List Int)→Option (Bool×Unit)
 s_l9Rex_L1:(List Int)→Int→Option (Bool×Unit)
 s_l3Part:bN→Int→Option (bC×bN×Unit)
 s_l3Part_L1:Int→(List bC)→bN→bC→Option (bC×bN×Unit)
 s_l3Now:bN→Int→Option (Bool×bN×Unit)
 s_l8Begins:bO→Option (Bool×bO×Unit)
 s_l8Begins_L1:Int→Bool→bO→bF→Option (Bool×bO×Unit)
 s_l8Atom:bO→Option (bv×bO×Unit)
 s_l9Es:bv→Int→Int→Option (Bool×Unit)
 s_l9Es_L1:Int→Int→bv→Option (Bool×Unit)
 s_l9Blocks:bv→Int→Option (Bool×Unit)
 s_l9Blocks_L1:Int→bv→Option (Bool×Unit)
 s_l3Piece:bN→Int→Option (bC×bN×Unit)
 s_l3Piece_L1:bN→bC→bC→Option (bC×bN×Unit)
 s_l3Piece_L2:Int→bN→bC→bC→Option (bC×bN×Unit)
 s_l3Atom:bN→Int→Option (bC×bN×Unit)
 s_l3Atom_L1:Int→bN→bC→Option (bC×bN×Unit)
 s_NfaOf:bC→Option ((List bz)×Unit)
 s_l3Set:bN→Option (bC×bN×Unit)
 s_l3Set_L1:bN→bC→bC→Option (bC×bN×Unit)
 s_l3Set_L2:(List Bool)→Int→bN→bC→bC→Option (bC×bN×Unit)
 s_l3Set_L3:(List Bool)→Int→Int→Int→bN→bC→bC→Option (bC×bN×Unit)
 s_l3Set_L4:(List Bool)→bN→bC→bC→Option (bC×bN×Unit)
 s_l3Set_L5:(List Bool)→Int→Int→Int→bN→bC→bC→Option (bC×bN×Unit)
 s_l3Set_L6:(List Bool)→(List Int)→Int→bN→bC→bC→Option (bC×bN×Unit)
 s_l3Set_L7:(List Bool)→Int→Int→Int→bN→bC→bC→Option (bC×bN×Unit)
 s_RexOk:bC→Option (Bool×Unit)
 s_l4Of:(List bz)→bC→Option ((List bz)×Unit)
 s_l4Of_L1:(List bz)→Int→bC→Option ((List bz)×Unit)
 s_l4Of_L2:(List bz)→Option ((List bz)×Unit)
 s_l4Put:(List bz)→Int→Option ((List bz)×Unit)
 s_l3Right:bC→Option (Bool×Unit)
 s_l3Right_L1:Int→bC→Option (Bool×Unit)
 s_l3Right_L2:Int→Int→Bool→bC→Option (Bool×Unit)
 s_l3Right_L3:Int→Bool→bC→Option (Bool×Unit)
 s_l4Or:(List bz)→(List bC)→Option ((List bz)×Unit)
 s_l4Or_L1:(List bz)→(List bC)→(List Int)→Int→Option ((List bz)×Unit)
 s_l4Or_L2:(List bz)→(List Int)→Int→Option ((List bz)×Unit)
 s_l3Up:(List Int)→Option (Bool×Unit)
 s_l3Up_L1:(List Int)→Int→Option (Bool×Unit)
structure LeFsBuild (F:FsBuild):Prop where
 s_l1In:∀ (t0:Int) (t1:Int) (t2:Int),LeO (F.s_l1In t0 t1 t2) (TN.s_l1In t0 t1 t2)
 s_Build:∀ (t0:(List Int)),LeO (F.s_Build t0) (TN.s_Build t0)
 s_ProgOk:∀ (t0:bA),LeO (F.s_ProgOk t0) (TN.s_ProgOk t0)
 s_ProgOk_L1:∀ (t3:Int) (s16:bA),LeO (F.s_ProgOk_L1 t3 s16) (TN.s_ProgOk_L1 t3 s16)
 s_ProgOk_L2:∀ (t4:Int) (s16:bA),LeO (F.s_ProgOk_L2 t4 s16) (TN.s_ProgOk_L2 t4 s16)
 s_l9Line:∀ (t0:(List Int)),LeO (F.s_l9Line t0) (TN.s_l9Line t0)
 s_l9Line_L1:∀ (t0:(List Int)) (t3:Int),LeO (F.s_l9Line_L1 t0 t3) (TN.s_l9Line_L1 t0 t3)
 s_Parse:∀ (t0:(List Int)),LeO (F.s_Parse t0) (TN.s_Parse t0)
 s_Parse_L1:∀ (t4:(List bD)) (t8:(List bD)) (t9:Int) (s368_0:(List bF)) (s368_1:Int) (s368_2:Int) (s368_3:Bool) (s368_4:bv),LeO (F.s_Parse_L1 t4 t8 t9 s368_0 s368_1 s368_2 s368_3 s368_4) (TN.s_Parse_L1 t4 t8 t9 s368_0 s368_1 s368_2 s368_3 s368_4)
 s_Compile:∀ (t0:(List bD)),LeO (F.s_Compile t0) (TN.s_Compile t0)
 s_Compile_L1:∀ (t0:(List bD)) (t5:(List (List Int))) (t6:(List (List Int))) (t9:Int) (s32:bA) (s432_0:(List (List Int))) (s432_1:(List (List Int))) (s432_2:(List bw)) (s496_0:(List (List Int))) (s496_1:(List (List Int))) (s496_2:(List bw)),LeO (F.s_Compile_L1 t0 t5 t6 t9 s32 s432_0 s432_1 s432_2 s496_0 s496_1 s496_2) (TN.s_Compile_L1 t0 t5 t6 t9 s32 s432_0 s432_1 s432_2 s496_0 s496_1 s496_2)
 s_l9Name:∀ (t0:(List Int)),LeO (F.s_l9Name t0) (TN.s_l9Name t0)
 s_l9Name_L1:∀ (t0:(List Int)) (t3:Int),LeO (F.s_l9Name_L1 t0 t3) (TN.s_l9Name_L1 t0 t3)
 s_l7Within:∀ (t0:(List (List Int))) (t1:(List Int)),LeO (F.s_l7Within t0 t1) (TN.s_l7Within t0 t1)
 s_l7Within_L1:∀ (t0:(List (List Int))) (t1:(List Int)) (t5:Int),LeO (F.s_l7Within_L1 t0 t1 t5) (TN.s_l7Within_L1 t0 t1 t5)
 s_OpsOk:∀ (t0:(List bw)) (t1:Int) (t2:Int),LeO (F.s_OpsOk t0 t1 t2) (TN.s_OpsOk t0 t1 t2)
 s_OpsOk_L1:∀ (t0:(List bw)) (t1:Int) (t2:Int) (t7:Int) (t8:Int),LeO (F.s_OpsOk_L1 t0 t1 t2 t7 t8) (TN.s_OpsOk_L1 t0 t1 t2 t7 t8)
 s_Tokens:∀ (t0:(List Int)),LeO (F.s_Tokens t0) (TN.s_Tokens t0)
 s_Tokens_L1:∀ (t0:(List Int)) (t4:(List bF)) (t5:Int),LeO (F.s_Tokens_L1 t0 t4 t5) (TN.s_Tokens_L1 t0 t4 t5)
 s_Tokens_L2:∀ (t0:(List Int)) (t4:(List bF)) (t5:Int),LeO (F.s_Tokens_L2 t0 t4 t5) (TN.s_Tokens_L2 t0 t4 t5)
 s_l8Now:∀ (s0:bO),LeO (F.s_l8Now s0) (TN.s_l8Now s0)
 s_l8Rule:∀ (s0:bO),LeO (F.s_l8Rule s0) (TN.s_l8Rule s0)
 s_Deep:∀ (t0:bv),LeO (F.s_Deep t0) (TN.s_Deep t0)
 s_Deep_L1:∀ (t3:Int) (t4:Int) (s16:bv),LeO (F.s_Deep_L1 t3 t4 s16) (TN.s_Deep_L1 t3 t4 s16)
 s_l1Max:∀ (t0:Int) (t1:Int),LeO (F.s_l1Max t0 t1) (TN.s_l1Max t0 t1)
 s_Check:∀ (t0:(List bD)),LeO (F.s_Check t0) (TN.s_Check t0)
 s_Check_L1:∀ (t0:(List bD)) (t3:Int),LeO (F.s_Check_L1 t0 t3) (TN.s_Check_L1 t0 t3)
 s_Check_L2:∀ (t0:(List bD)) (t4:(List (List Int))) (t5:(List (List Int))) (t6:Int),LeO (F.s_Check_L2 t0 t4 t5 t6) (TN.s_Check_L2 t0 t4 t5 t6)
 s_Check_L3:∀ (t0:(List bD)) (t7:Int),LeO (F.s_Check_L3 t0 t7) (TN.s_Check_L3 t0 t7)
 s_Check_L4:∀ (t0:(List bD)) (t8:Int),LeO (F.s_Check_L4 t0 t8) (TN.s_Check_L4 t0 t8)
 s_Names:∀ (t0:(List bD)),LeO (F.s_Names t0) (TN.s_Names t0)
 s_Names_L1:∀ (t0:(List bD)) (t4:(List (List Int))) (t5:(List (List Int))) (t6:Int),LeO (F.s_Names_L1 t0 t4 t5 t6) (TN.s_Names_L1 t0 t4 t5 t6)
 s_l14Block:∀ (s0_0:(List (List Int))) (s0_1:(List (List Int))) (s0_2:(List bw)) (t1:bv),LeO (F.s_l14Block s0_0 s0_1 s0_2 t1) (TN.s_l14Block s0_0 s0_1 s0_2 t1)
 s_l14Block_L1:∀ (t4:Int) (s0_0:(List (List Int))) (s0_1:(List (List Int))) (s0_2:(List bw)) (s48:bv),LeO (F.s_l14Block_L1 t4 s0_0 s0_1 s0_2 s48) (TN.s_l14Block_L1 t4 s0_0 s0_1 s0_2 s48)
 s_l14E:∀ (s0_0:(List (List Int))) (s0_1:(List (List Int))) (s0_2:(List bw)) (t1:bv),LeO (F.s_l14E s0_0 s0_1 s0_2 t1) (TN.s_l14E s0_0 s0_1 s0_2 t1)
 s_l14E_L1:∀ (t6:Int) (t24:Bool) (s0_0:(List (List Int))) (s0_1:(List (List Int))) (s0_2:(List bw)) (s48:bv),LeO (F.s_l14E_L1 t6 t24 s0_0 s0_1 s0_2 s48) (TN.s_l14E_L1 t6 t24 s0_0 s0_1 s0_2 s48)
 s_l14E_L2:∀ (t4:Int) (s0_0:(List (List Int))) (s0_1:(List (List Int))) (s0_2:(List bw)) (s48:bv),LeO (F.s_l14E_L2 t4 s0_0 s0_1 s0_2 s48) (TN.s_l14E_L2 t4 s0_0 s0_1 s0_2 s48)
 s_l14Put:∀ (s0_0:(List (List Int))) (s0_1:(List (List Int))) (s0_2:(List bw)) (t1:Int) (t2:Int) (t3:(List Int)),LeO (F.s_l14Put s0_0 s0_1 s0_2 t1 t2 t3) (TN.s_l14Put s0_0 s0_1 s0_2 t1 t2 t3)
 s_l7Letter:∀ (t0:Int),LeO (F.s_l7Letter t0) (TN.s_l7Letter t0)
 s_Keyword:∀ (t0:(List Int)),LeO (F.s_Keyword t0) (TN.s_Keyword t0)
 s_l13Op:∀ (t0:bw) (t1:Int) (t2:Int) (t3:Int),LeO (F.s_l13Op t0 t1 t2 t3) (TN.s_l13Op t0 t1 t2 t3)
 s_l13Op_L1:∀ (t1:Int) (t2:Int) (t3:Int) (t12:Int) (t28:Bool) (s64:bw),LeO (F.s_l13Op_L1 t1 t2 t3 t12 t28 s64) (TN.s_l13Op_L1 t1 t2 t3 t12 t28 s64)
 s_l13Op_L2:∀ (t1:Int) (t3:Int) (t12:Int) (t46:Bool) (s64:bw),LeO (F.s_l13Op_L2 t1 t3 t12 t46 s64) (TN.s_l13Op_L2 t1 t3 t12 t46 s64)
 s_l13Op_L3:∀ (t1:Int) (t12:Int) (t65:Bool) (s64:bw),LeO (F.s_l13Op_L3 t1 t12 t65 s64) (TN.s_l13Op_L3 t1 t12 t65 s64)
 s_l13Op_L4:∀ (t1:Int) (t12:Int) (t91:Bool) (s64:bw),LeO (F.s_l13Op_L4 t1 t12 t91 s64) (TN.s_l13Op_L4 t1 t12 t91 s64)
 s_l7One:∀ (t0:(List Int)) (t1:Int) (t2:(List bF)),LeO (F.s_l7One t0 t1 t2) (TN.s_l7One t0 t1 t2)
 s_l7One_L1:∀ (t0:(List Int)) (t1:Int) (t10:Int) (s96:bF),LeO (F.s_l7One_L1 t0 t1 t10 s96) (TN.s_l7One_L1 t0 t1 t10 s96)
 s_l8Is:∀ (s0:bO) (t1:(List Int)),LeO (F.s_l8Is s0 t1) (TN.s_l8Is s0 t1)
 s_l8Next:∀ (s0:bO),LeO (F.s_l8Next s0) (TN.s_l8Next s0)
 s_l8Block:∀ (s0:bO),LeO (F.s_l8Block s0) (TN.s_l8Block s0)
 s_l8Block_L1:∀ (s0:bO) (s32_0:Int) (s32_1:Int) (s32_2:(List Int)) (s32_3:(List bv)) (s48_0:Int) (s48_1:Int) (s48_2:(List Int)) (s48_3:(List bv)),LeO (F.s_l8Block_L1 s0 s32_0 s32_1 s32_2 s32_3 s48_0 s48_1 s48_2 s48_3) (TN.s_l8Block_L1 s0 s32_0 s32_1 s32_2 s32_3 s48_0 s48_1 s48_2 s48_3)
 s_l8Sign:∀ (s0:bO) (t1:(List Int)),LeO (F.s_l8Sign s0 t1) (TN.s_l8Sign s0 t1)
 s_l8E:∀ (s0:bO),LeO (F.s_l8E s0) (TN.s_l8E s0)
 s_l8E_L1:∀ (t5:Int) (s0:bO) (s32_0:Int) (s32_1:Int) (s32_2:(List Int)) (s32_3:(List bv)) (s64:bv),LeO (F.s_l8E_L1 t5 s0 s32_0 s32_1 s32_2 s32_3 s64) (TN.s_l8E_L1 t5 s0 s32_0 s32_1 s32_2 s32_3 s64)
 s_l8Kids:∀ (t0:Int) (t1:(List bv)),LeO (F.s_l8Kids t0 t1) (TN.s_l8Kids t0 t1)
 s_Tidy:∀ (t0:(List bD)),LeO (F.s_Tidy t0) (TN.s_Tidy t0)
 s_Tidy_L1:∀ (t0:(List bD)) (t3:Int),LeO (F.s_Tidy_L1 t0 t3) (TN.s_Tidy_L1 t0 t3)
 s_l10Line:∀ (t0:bv),LeO (F.s_l10Line t0) (TN.s_l10Line t0)
 s_l10Line_L1:∀ (t3:Int) (s16:bv),LeO (F.s_l10Line_L1 t3 s16) (TN.s_l10Line_L1 t3 s16)
 s_l10Args:∀ (t0:bv),LeO (F.s_l10Args t0) (TN.s_l10Args t0)
 s_l10Args_L1:∀ (t3:Int) (s16:bv),LeO (F.s_l10Args_L1 t3 s16) (TN.s_l10Args_L1 t3 s16)
 s_l10Args_L2:∀ (t3:Int) (t4:Int) (s16:bv),LeO (F.s_l10Args_L2 t3 t4 s16) (TN.s_l10Args_L2 t3 t4 s16)
 s_l10Rexes:∀ (t0:bv),LeO (F.s_l10Rexes t0) (TN.s_l10Rexes t0)
 s_l10Rexes_L1:∀ (t5:Int) (s16:bv),LeO (F.s_l10Rexes_L1 t5 s16) (TN.s_l10Rexes_L1 t5 s16)
 s_l10Names:∀ (t0:bv) (t1:(List (List Int))) (t2:(List (List Int))),LeO (F.s_l10Names t0 t1 t2) (TN.s_l10Names t0 t1 t2)
 s_l10Names_L1:∀ (t1:(List (List Int))) (t2:(List (List Int))) (s48:bv),LeO (F.s_l10Names_L1 t1 t2 s48) (TN.s_l10Names_L1 t1 t2 s48)
 s_l10Names_L2:∀ (t1:(List (List Int))) (t2:(List (List Int))) (t8:Int) (s48:bv),LeO (F.s_l10Names_L2 t1 t2 t8 s48) (TN.s_l10Names_L2 t1 t2 t8 s48)
 s_l14Stmt:∀ (s0_0:(List (List Int))) (s0_1:(List (List Int))) (s0_2:(List bw)) (t1:bv),LeO (F.s_l14Stmt s0_0 s0_1 s0_2 t1) (TN.s_l14Stmt s0_0 s0_1 s0_2 t1)
 s_l14Set:∀ (s0_0:(List (List Int))) (s0_1:(List (List Int))) (s0_2:(List bw)) (t1:bv),LeO (F.s_l14Set s0_0 s0_1 s0_2 t1) (TN.s_l14Set s0_0 s0_1 s0_2 t1)
 s_l14And:∀ (s0_0:(List (List Int))) (s0_1:(List (List Int))) (s0_2:(List bw)) (t1:bv),LeO (F.s_l14And s0_0 s0_1 s0_2 t1) (TN.s_l14And s0_0 s0_1 s0_2 t1)
 s_l14Or:∀ (s0_0:(List (List Int))) (s0_1:(List (List Int))) (s0_2:(List bw)) (t1:bv),LeO (F.s_l14Or s0_0 s0_1 s0_2 t1) (TN.s_l14Or s0_0 s0_1 s0_2 t1)
 s_l14Last:∀ (s0_0:(List (List Int))) (s0_1:(List (List Int))) (s0_2:(List bw)) (t1:bv),LeO (F.s_l14Last s0_0 s0_1 s0_2 t1) (TN.s_l14Last s0_0 s0_1 s0_2 t1)
 s_l7Calls:LeO (F.s_l7Calls ) (TN.s_l7Calls )
 s_DecOk:∀ (t0:Int),LeO (F.s_DecOk t0) (TN.s_DecOk t0)
 s_RexParse:∀ (t0:(List Int)),LeO (F.s_RexParse t0) (TN.s_RexParse t0)
 s_l2Digit:∀ (t0:Int),LeO (F.s_l2Digit t0) (TN.s_l2Digit t0)
 s_l7Number:∀ (t0:(List Int)) (t1:Int),LeO (F.s_l7Number t0 t1) (TN.s_l7Number t0 t1)
 s_l7Number_L1:∀ (t0:(List Int)) (t1:Int) (t7:Int),LeO (F.s_l7Number_L1 t0 t1 t7) (TN.s_l7Number_L1 t0 t1 t7)
 s_l7Number_L2:∀ (t0:(List Int)) (t1:Int) (t7:Int) (t8:Int),LeO (F.s_l7Number_L2 t0 t1 t7 t8) (TN.s_l7Number_L2 t0 t1 t7 t8)
 s_l7Number_L3:∀ (t0:(List Int)) (t1:Int) (t7:Int),LeO (F.s_l7Number_L3 t0 t1 t7) (TN.s_l7Number_L3 t0 t1 t7)
 s_l7Text:∀ (t0:(List Int)) (t1:Int),LeO (F.s_l7Text t0 t1) (TN.s_l7Text t0 t1)
 s_l7Text_L1:∀ (t0:(List Int)) (t7:(List Int)) (t8:Int),LeO (F.s_l7Text_L1 t0 t7 t8) (TN.s_l7Text_L1 t0 t7 t8)
 s_l7After:∀ (t0:(List bF)),LeO (F.s_l7After t0) (TN.s_l7After t0)
 s_l7Rex:∀ (t0:(List Int)) (t1:Int),LeO (F.s_l7Rex t0 t1) (TN.s_l7Rex t0 t1)
 s_l7Rex_L1:∀ (t0:(List Int)) (t7:(List Int)) (t8:Int),LeO (F.s_l7Rex_L1 t0 t7 t8) (TN.s_l7Rex_L1 t0 t7 t8)
 s_l7Sign:∀ (t0:(List Int)) (t1:Int),LeO (F.s_l7Sign t0 t1) (TN.s_l7Sign t0 t1)
 s_l7Sign_L1:∀ (t0:(List Int)) (t1:Int) (t5:(List (List Int))) (t6:Int),LeO (F.s_l7Sign_L1 t0 t1 t5 t6) (TN.s_l7Sign_L1 t0 t1 t5 t6)
 s_l8Take:∀ (s0:bO) (t1:(List Int)),LeO (F.s_l8Take s0 t1) (TN.s_l8Take s0 t1)
 s_l8Stmt:∀ (s0:bO),LeO (F.s_l8Stmt s0) (TN.s_l8Stmt s0)
 s_l8Named:∀ (s0:bO),LeO (F.s_l8Named s0) (TN.s_l8Named s0)
 s_l8Level:∀ (s0:bO) (t1:Int),LeO (F.s_l8Level s0 t1) (TN.s_l8Level s0 t1)
 s_l9Node:∀ (t0:bv),LeO (F.s_l9Node t0) (TN.s_l9Node t0)
 s_l9Node_L1:∀ (t23:Int) (t44:Bool) (s16:bv),LeO (F.s_l9Node_L1 t23 t44 s16) (TN.s_l9Node_L1 t23 t44 s16)
 s_l9IsE:∀ (t0:Int),LeO (F.s_l9IsE t0) (TN.s_l9IsE t0)
 s_l10Put:∀ (t0:(List (List Int))) (t1:(List Int)),LeO (F.s_l10Put t0 t1) (TN.s_l10Put t0 t1)
 s_l10Put_L1:∀ (t0:(List (List Int))) (t1:(List Int)) (t5:Int),LeO (F.s_l10Put_L1 t0 t1 t5) (TN.s_l10Put_L1 t0 t1 t5)
 s_l14Print:∀ (s0_0:(List (List Int))) (s0_1:(List (List Int))) (s0_2:(List bw)) (t1:bv),LeO (F.s_l14Print s0_0 s0_1 s0_2 t1) (TN.s_l14Print s0_0 s0_1 s0_2 t1)
 s_l14Print_L1:∀ (s0_0:(List (List Int))) (s0_1:(List (List Int))) (s0_2:(List bw)) (s48:bv),LeO (F.s_l14Print_L1 s0_0 s0_1 s0_2 s48) (TN.s_l14Print_L1 s0_0 s0_1 s0_2 s48)
 s_l14Print_L2:∀ (t4:Int) (s0_0:(List (List Int))) (s0_1:(List (List Int))) (s0_2:(List bw)) (s48:bv),LeO (F.s_l14Print_L2 t4 s0_0 s0_1 s0_2 s48) (TN.s_l14Print_L2 t4 s0_0 s0_1 s0_2 s48)
 s_l14If:∀ (s0_0:(List (List Int))) (s0_1:(List (List Int))) (s0_2:(List bw)) (t1:bv),LeO (F.s_l14If s0_0 s0_1 s0_2 t1) (TN.s_l14If s0_0 s0_1 s0_2 t1)
 s_l14While:∀ (s0_0:(List (List Int))) (s0_1:(List (List Int))) (s0_2:(List bw)) (t1:bv),LeO (F.s_l14While s0_0 s0_1 s0_2 t1) (TN.s_l14While s0_0 s0_1 s0_2 t1)
 s_l12Where:∀ (t0:(List (List Int))) (t1:(List Int)),LeO (F.s_l12Where t0 t1) (TN.s_l12Where t0 t1)
 s_l12Where_L1:∀ (t0:(List (List Int))) (t1:(List Int)) (t5:Int),LeO (F.s_l12Where_L1 t0 t1 t5) (TN.s_l12Where_L1 t0 t1 t5)
 s_l1Bit:∀ (t0:Bool),LeO (F.s_l1Bit t0) (TN.s_l1Bit t0)
 s_l3Pattern:∀ (s0:bN) (t1:Int),LeO (F.s_l3Pattern s0 t1) (TN.s_l3Pattern s0 t1)
 s_l3Pattern_L1:∀ (t1:Int) (t5:(List bC)) (s0:bN) (s64:bC),LeO (F.s_l3Pattern_L1 t1 t5 s0 s64) (TN.s_l3Pattern_L1 t1 t5 s0 s64)
 s_l3Deep:∀ (t0:bC),LeO (F.s_l3Deep t0) (TN.s_l3Deep t0)
 s_l3Deep_L1:∀ (t3:Int) (t4:Int) (s16:bC),LeO (F.s_l3Deep_L1 t3 t4 s16) (TN.s_l3Deep_L1 t3 t4 s16)
 s_DecFront:∀ (t0:(List Int)),LeO (F.s_DecFront t0) (TN.s_DecFront t0)
 s_DecFront_L1:∀ (t0:(List Int)) (t4:Int),LeO (F.s_DecFront_L1 t0 t4) (TN.s_DecFront_L1 t0 t4)
 s_DecFront_L2:∀ (t0:(List Int)) (t4:Int) (t5:Bool),LeO (F.s_DecFront_L2 t0 t4 t5) (TN.s_DecFront_L2 t0 t4 t5)
 s_DecFront_L3:∀ (t0:(List Int)) (t4:Int) (t5:Bool) (t6:Int) (t7:Int),LeO (F.s_DecFront_L3 t0 t4 t5 t6 t7) (TN.s_DecFront_L3 t0 t4 t5 t6 t7)
 s_DecFront_L4:∀ (t0:(List Int)) (t4:Int) (t5:Bool) (t6:Int) (t7:Int) (t8:Int),LeO (F.s_DecFront_L4 t0 t4 t5 t6 t7 t8) (TN.s_DecFront_L4 t0 t4 t5 t6 t7 t8)
 s_DecFront_L5:∀ (t4:Int) (t5:Bool) (t6:Int) (t7:Int),LeO (F.s_DecFront_L5 t4 t5 t6 t7) (TN.s_DecFront_L5 t4 t5 t6 t7)
 s_l8Bad:∀ (s0:bO),LeO (F.s_l8Bad s0) (TN.s_l8Bad s0)
 s_l8While:∀ (s0:bO) (t1:Int),LeO (F.s_l8While s0 t1) (TN.s_l8While s0 t1)
 s_l8Simple:∀ (s0:bO),LeO (F.s_l8Simple s0) (TN.s_l8Simple s0)
 s_l8Simple_L1:∀ (s0:bO) (s32_0:Int) (s32_1:Int) (s32_2:(List Int)) (s32_3:(List bv)) (s48_0:Int) (s48_1:Int) (s48_2:(List Int)) (s48_3:(List bv)),LeO (F.s_l8Simple_L1 s0 s32_0 s32_1 s32_2 s32_3 s48_0 s48_1 s48_2 s48_3) (TN.s_l8Simple_L1 s0 s32_0 s32_1 s32_2 s32_3 s48_0 s48_1 s48_2 s48_3)
 s_l8Es:∀ (s0:bO) (t1:(List Int)),LeO (F.s_l8Es s0 t1) (TN.s_l8Es s0 t1)
 s_l8Es_L1:∀ (t1:(List Int)) (t5:(List bv)) (s0:bO),LeO (F.s_l8Es_L1 t1 t5 s0) (TN.s_l8Es_L1 t1 t5 s0)
 s_l8Name:∀ (s0:bO),LeO (F.s_l8Name s0) (TN.s_l8Name s0)
 s_l8Compare:∀ (s0:bO),LeO (F.s_l8Compare s0) (TN.s_l8Compare s0)
 s_l8Compare_L1:∀ (t3:(List (List Int))) (t5:Int) (s0:bO) (s32_0:Int) (s32_1:Int) (s32_2:(List Int)) (s32_3:(List bv)) (s64:bv),LeO (F.s_l8Compare_L1 t3 t5 s0 s32_0 s32_1 s32_2 s32_3 s64) (TN.s_l8Compare_L1 t3 t5 s0 s32_0 s32_1 s32_2 s32_3 s64)
 s_l8Row:∀ (s0:bO),LeO (F.s_l8Row s0) (TN.s_l8Row s0)
 s_l8Row_L1:∀ (s0:bO) (s32_0:Int) (s32_1:Int) (s32_2:(List Int)) (s32_3:(List bv)) (s48:bv),LeO (F.s_l8Row_L1 s0 s32_0 s32_1 s32_2 s32_3 s48) (TN.s_l8Row_L1 s0 s32_0 s32_1 s32_2 s32_3 s48)
 s_l8Unit:∀ (s0:bO),LeO (F.s_l8Unit s0) (TN.s_l8Unit s0)
 s_l8Left:∀ (s0:bO) (t1:Int),LeO (F.s_l8Left s0 t1) (TN.s_l8Left s0 t1)
 s_l8Left_L1:∀ (t1:Int) (t5:(List (List (List Int)))) (t6:(List (List Int))) (s0:bO) (s64:bv) (s112:bv),LeO (F.s_l8Left_L1 t1 t5 t6 s0 s64 s112) (TN.s_l8Left_L1 t1 t5 t6 s0 s64 s112)
 s_l8Left_L2:∀ (t1:Int) (t5:(List (List (List Int)))) (t6:(List (List Int))) (t8:Int) (s0:bO) (s64:bv) (s112:bv),LeO (F.s_l8Left_L2 t1 t5 t6 t8 s0 s64 s112) (TN.s_l8Left_L2 t1 t5 t6 t8 s0 s64 s112)
 s_l8Left_L3:∀ (t1:Int) (t5:(List (List (List Int)))) (t6:(List (List Int))) (t8:Int) (s0:bO) (s64:bv) (s112:bv),LeO (F.s_l8Left_L3 t1 t5 t6 t8 s0 s64 s112) (TN.s_l8Left_L3 t1 t5 t6 t8 s0 s64 s112)
 s_l9Kids:∀ (t0:bv),LeO (F.s_l9Kids t0) (TN.s_l9Kids t0)
 s_l9Kids_L1:∀ (t3:Int) (t9:Int) (t10:Bool) (s16:bv),LeO (F.s_l9Kids_L1 t3 t9 t10 s16) (TN.s_l9Kids_L1 t3 t9 t10 s16)
 s_l9Kids_L2:∀ (t3:Int) (t9:Int) (t23:Bool) (s16:bv),LeO (F.s_l9Kids_L2 t3 t9 t23 s16) (TN.s_l9Kids_L2 t3 t9 t23 s16)
 s_l9Kids_L3:∀ (t3:Int) (t9:Int) (t45:Bool) (s16:bv),LeO (F.s_l9Kids_L3 t3 t9 t45 s16) (TN.s_l9Kids_L3 t3 t9 t45 s16)
 s_l9Kids_L4:∀ (t3:Int) (t9:Int) (t70:Bool) (s16:bv),LeO (F.s_l9Kids_L4 t3 t9 t70 s16) (TN.s_l9Kids_L4 t3 t9 t70 s16)
 s_l9Kids_L5:∀ (t3:Int) (t4:Int) (s16:bv),LeO (F.s_l9Kids_L5 t3 t4 s16) (TN.s_l9Kids_L5 t3 t4 s16)
 s_l9Rex:∀ (t0:(List Int)),LeO (F.s_l9Rex t0) (TN.s_l9Rex t0)
 s_l9Rex_L1:∀ (t0:(List Int)) (t3:Int),LeO (F.s_l9Rex_L1 t0 t3) (TN.s_l9Rex_L1 t0 t3)
 s_l3Part:∀ (s0:bN) (t1:Int),LeO (F.s_l3Part s0 t1) (TN.s_l3Part s0 t1)
 s_l3Part_L1:∀ (t1:Int) (t5:(List bC)) (s0:bN) (s64:bC),LeO (F.s_l3Part_L1 t1 t5 s0 s64) (TN.s_l3Part_L1 t1 t5 s0 s64)
 s_l3Now:∀ (s0:bN) (t1:Int),LeO (F.s_l3Now s0 t1) (TN.s_l3Now s0 t1)
 s_l8Begins:∀ (s0:bO),LeO (F.s_l8Begins s0) (TN.s_l8Begins s0)
 s_l8Begins_L1:∀ (t12:Int) (t13:Bool) (s0:bO) (s48:bF),LeO (F.s_l8Begins_L1 t12 t13 s0 s48) (TN.s_l8Begins_L1 t12 t13 s0 s48)
 s_l8Atom:∀ (s0:bO),LeO (F.s_l8Atom s0) (TN.s_l8Atom s0)
 s_l9Es:∀ (t0:bv) (t1:Int) (t2:Int),LeO (F.s_l9Es t0 t1 t2) (TN.s_l9Es t0 t1 t2)
 s_l9Es_L1:∀ (t2:Int) (t7:Int) (s48:bv),LeO (F.s_l9Es_L1 t2 t7 s48) (TN.s_l9Es_L1 t2 t7 s48)
 s_l9Blocks:∀ (t0:bv) (t1:Int),LeO (F.s_l9Blocks t0 t1) (TN.s_l9Blocks t0 t1)
 s_l9Blocks_L1:∀ (t5:Int) (s32:bv),LeO (F.s_l9Blocks_L1 t5 s32) (TN.s_l9Blocks_L1 t5 s32)
 s_l3Piece:∀ (s0:bN) (t1:Int),LeO (F.s_l3Piece s0 t1) (TN.s_l3Piece s0 t1)
 s_l3Piece_L1:∀ (s0:bN) (s64:bC) (s80:bC),LeO (F.s_l3Piece_L1 s0 s64 s80) (TN.s_l3Piece_L1 s0 s64 s80)
 s_l3Piece_L2:∀ (t6:Int) (s0:bN) (s64:bC) (s80:bC),LeO (F.s_l3Piece_L2 t6 s0 s64 s80) (TN.s_l3Piece_L2 t6 s0 s64 s80)
 s_l3Atom:∀ (s0:bN) (t1:Int),LeO (F.s_l3Atom s0 t1) (TN.s_l3Atom s0 t1)
 s_l3Atom_L1:∀ (t5:Int) (s0:bN) (s64:bC),LeO (F.s_l3Atom_L1 t5 s0 s64) (TN.s_l3Atom_L1 t5 s0 s64)
 s_NfaOf:∀ (t0:bC),LeO (F.s_NfaOf t0) (TN.s_NfaOf t0)
 s_l3Set:∀ (s0:bN),LeO (F.s_l3Set s0) (TN.s_l3Set s0)
 s_l3Set_L1:∀ (s0:bN) (s32:bC) (s48:bC),LeO (F.s_l3Set_L1 s0 s32 s48) (TN.s_l3Set_L1 s0 s32 s48)
 s_l3Set_L2:∀ (t4:(List Bool)) (t5:Int) (s0:bN) (s32:bC) (s48:bC),LeO (F.s_l3Set_L2 t4 t5 s0 s32 s48) (TN.s_l3Set_L2 t4 t5 s0 s32 s48)
 s_l3Set_L3:∀ (t4:(List Bool)) (t5:Int) (t6:Int) (t7:Int) (s0:bN) (s32:bC) (s48:bC),LeO (F.s_l3Set_L3 t4 t5 t6 t7 s0 s32 s48) (TN.s_l3Set_L3 t4 t5 t6 t7 s0 s32 s48)
 s_l3Set_L4:∀ (t4:(List Bool)) (s0:bN) (s32:bC) (s48:bC),LeO (F.s_l3Set_L4 t4 s0 s32 s48) (TN.s_l3Set_L4 t4 s0 s32 s48)
 s_l3Set_L5:∀ (t4:(List Bool)) (t5:Int) (t6:Int) (t7:Int) (s0:bN) (s32:bC) (s48:bC),LeO (F.s_l3Set_L5 t4 t5 t6 t7 s0 s32 s48) (TN.s_l3Set_L5 t4 t5 t6 t7 s0 s32 s48)
 s_l3Set_L6:∀ (t4:(List Bool)) (t9:(List Int)) (t10:Int) (s0:bN) (s32:bC) (s48:bC),LeO (F.s_l3Set_L6 t4 t9 t10 s0 s32 s48) (TN.s_l3Set_L6 t4 t9 t10 s0 s32 s48)
 s_l3Set_L7:∀ (t4:(List Bool)) (t5:Int) (t7:Int) (t8:Int) (s0:bN) (s32:bC) (s48:bC),LeO (F.s_l3Set_L7 t4 t5 t7 t8 s0 s32 s48) (TN.s_l3Set_L7 t4 t5 t7 t8 s0 s32 s48)
 s_RexOk:∀ (t0:bC),LeO (F.s_RexOk t0) (TN.s_RexOk t0)
 s_l4Of:∀ (t0:(List bz)) (t1:bC),LeO (F.s_l4Of t0 t1) (TN.s_l4Of t0 t1)
 s_l4Of_L1:∀ (t0:(List bz)) (t6:Int) (s48:bC),LeO (F.s_l4Of_L1 t0 t6 s48) (TN.s_l4Of_L1 t0 t6 s48)
 s_l4Of_L2:∀ (t0:(List bz)),LeO (F.s_l4Of_L2 t0) (TN.s_l4Of_L2 t0)
 s_l4Put:∀ (t0:(List bz)) (t1:Int),LeO (F.s_l4Put t0 t1) (TN.s_l4Put t0 t1)
 s_l3Right:∀ (t0:bC),LeO (F.s_l3Right t0) (TN.s_l3Right t0)
 s_l3Right_L1:∀ (t3:Int) (s16:bC),LeO (F.s_l3Right_L1 t3 s16) (TN.s_l3Right_L1 t3 s16)
 s_l3Right_L2:∀ (t4:Int) (t23:Int) (t62:Bool) (s16:bC),LeO (F.s_l3Right_L2 t4 t23 t62 s16) (TN.s_l3Right_L2 t4 t23 t62 s16)
 s_l3Right_L3:∀ (t4:Int) (t82:Bool) (s16:bC),LeO (F.s_l3Right_L3 t4 t82 s16) (TN.s_l3Right_L3 t4 t82 s16)
 s_l4Or:∀ (t0:(List bz)) (t1:(List bC)),LeO (F.s_l4Or t0 t1) (TN.s_l4Or t0 t1)
 s_l4Or_L1:∀ (t0:(List bz)) (t1:(List bC)) (t5:(List Int)) (t6:Int),LeO (F.s_l4Or_L1 t0 t1 t5 t6) (TN.s_l4Or_L1 t0 t1 t5 t6)
 s_l4Or_L2:∀ (t0:(List bz)) (t5:(List Int)) (t8:Int),LeO (F.s_l4Or_L2 t0 t5 t8) (TN.s_l4Or_L2 t0 t5 t8)
 s_l3Up:∀ (t0:(List Int)),LeO (F.s_l3Up t0) (TN.s_l3Up t0)
 s_l3Up_L1:∀ (t0:(List Int)) (t3:Int),LeO (F.s_l3Up_L1 t0 t3) (TN.s_l3Up_L1 t0 t3)
def mT(F:FsBuild)(t0:Int)(t1:Int)(t2:Int):Option (Bool×Unit) :=
 if(decide (t0≥t1))=true then
  some ((decide (t0≤t2)),())
 else
  some (false,())
def lB(F:FsBuild)(t0:(List Int)):Option (bA×Int×Unit) :=
 (F.s_Parse t0).bind fun(r0:(List bD)×Int×Unit) =>
 if(decide (r0.2.1≥0))=true then
  some ((bA.mk [] [] [] []),(-1),())
 else
  (F.s_Compile r0.1).bind fun(r1:bA×Int×Unit) =>
  some (r1.1,r1.2.1,())
def l5(F:FsBuild)(t0:bA):Option (Bool×Unit) :=
 F.s_ProgOk_L1 0 t0
def l6(F:FsBuild)(t3:Int)(s16:bA):Option (Bool×Unit) :=
 if(decide (t3<(List.length s16.Vars:Int)))=true then
  if(0:Int)≤t3∧t3<(List.length s16.Vars:Int) then
   (F.s_l9Name (List.getD s16.Vars t3.toNat [])).bind fun(r0:Bool×Unit) =>
   if(!r0.1)=true then
    some (false,())
   else
    if(0:Int)≤t3∧t3<(List.length s16.Vars:Int) then
     (F.s_l7Within s16.Cells (List.getD s16.Vars t3.toNat [])).bind fun(r1:Bool×Unit) =>
     if r1.1=true then
      some (false,())
     else
      if(decide (t3>0))=true then
       if(0:Int)≤(w64 (t3-1))∧(w64 (t3-1))<(List.length s16.Vars:Int) then
        if(0:Int)≤t3∧t3<(List.length s16.Vars:Int) then
         if(!(ltS (List.getD s16.Vars (w64 (t3-1)).toNat []) (List.getD s16.Vars t3.toNat [])))=true then
          some (false,())
         else
          F.s_ProgOk_L1 (w64 (t3+1)) s16
        else none
       else none
      else
       F.s_ProgOk_L1 (w64 (t3+1)) s16
    else none
  else none
 else
  F.s_ProgOk_L2 0 s16
def l7(F:FsBuild)(t4:Int)(s16:bA):Option (Bool×Unit) :=
 if(decide (t4<(List.length s16.Cells:Int)))=true then
  if(0:Int)≤t4∧t4<(List.length s16.Cells:Int) then
   (F.s_l9Name (List.getD s16.Cells t4.toNat [])).bind fun(r0:Bool×Unit) =>
   if(!r0.1)=true then
    some (false,())
   else
    if(decide (t4>0))=true then
     if(0:Int)≤(w64 (t4-1))∧(w64 (t4-1))<(List.length s16.Cells:Int) then
      if(0:Int)≤t4∧t4<(List.length s16.Cells:Int) then
       if(!(ltS (List.getD s16.Cells (w64 (t4-1)).toNat []) (List.getD s16.Cells t4.toNat [])))=true then
        some (false,())
       else
        F.s_ProgOk_L2 (w64 (t4+1)) s16
      else none
     else none
    else
     F.s_ProgOk_L2 (w64 (t4+1)) s16
  else none
 else
  if(decide ((List.length s16.Vars:Int)≤8))=true then
   if(decide ((List.length s16.Cells:Int)≤8))=true then
    (F.s_OpsOk s16.Start (List.length s16.Vars:Int) (List.length s16.Cells:Int)).bind fun(r1:Bool×Unit) =>
    if r1.1=true then
     (F.s_OpsOk s16.Main (List.length s16.Vars:Int) (List.length s16.Cells:Int)).bind fun(r2:Bool×Unit) =>
     some (r2.1,())
    else
     some (false,())
   else
    some (false,())
  else
   some (false,())
def oW(F:FsBuild)(t0:(List Int)):Option (Bool×Unit) :=
 F.s_l9Line_L1 t0 0
def oX(F:FsBuild)(t0:(List Int))(t3:Int):Option (Bool×Unit) :=
 if(decide (t3<(List.length t0:Int)))=true then
  if(0:Int)≤t3∧t3<(List.length t0:Int) then
   if(decide ((List.getD t0 t3.toNat 0)=10))=true then
    some (false,())
   else
    F.s_l9Line_L1 t0 (w64 (t3+1))
  else none
 else
  some (true,())
def lY(F:FsBuild)(t0:(List Int)):Option ((List bD)×Int×Unit) :=
 (F.s_Tokens t0).bind fun(r0:(List bF)×Int×Unit) =>
 if(decide (r0.2.1≥0))=true then
  some ([],r0.2.1,())
 else
  F.s_Parse_L1 [] [] 0 r0.1 0 (-1) false co
def lZ(F:FsBuild)(t4:(List bD))(t8:(List bD))(t9:Int)(s368_0:(List bF))(s368_1:Int)(s368_2:Int)(s368_3:Bool)(s368_4:bv):Option ((List bD)×Int×Unit) :=
 if(decide (s368_2<0))=true then
  (F.s_l8Now (bO.mk s368_0 s368_1 s368_2 s368_3 s368_4)).bind fun(r0:bF×bO×Unit) =>
  if(!(decide (r0.1.Kind=0)))=true then
   (F.s_l8Rule r0.2.1).bind fun(r1:bD×bO×Unit) =>
   if List.length t8+1≤room then
    (F.s_Deep r1.1.Pat).bind fun(r2:Int×Unit) =>
    (F.s_Deep r1.1.Body).bind fun(r3:Int×Unit) =>
    (F.s_l1Max r2.1 r3.1).bind fun(r4:Int×Unit) =>
    (F.s_l1Max t9 r4.1).bind fun(r5:Int×Unit) =>
    F.s_Parse_L1 t4 (List.append t8 [r1.1]) r5.1 r1.2.1.list r1.2.1.at_ r1.2.1.bad r1.2.1.has r1.2.1.kept
   else none
  else
   if(decide (r0.2.1.bad≥0))=true then
    some (t4,r0.2.1.bad,())
   else
    if(decide (t9>16))=true then
     some (t4,0,())
    else
     some (t8,(-1),())
 else
  if(decide (s368_2≥0))=true then
   some (t4,s368_2,())
  else
   if(decide (t9>16))=true then
    some (t4,0,())
   else
    some (t8,(-1),())
def lH(F:FsBuild)(t0:(List bD)):Option (bA×Int×Unit) :=
 (F.s_Check t0).bind fun(r0:Int×Unit) =>
 if(!(decide (r0.1=0)))=true then
  some ((bA.mk [] [] [] []),r0.1,())
 else
  (F.s_Names t0).bind fun(r1:(List (List Int))×(List (List Int))×Unit) =>
  F.s_Compile_L1 t0 r1.1 r1.2.1 0 Bc r1.1 r1.2.1 [] r1.1 r1.2.1 []
def lI(F:FsBuild)(t0:(List bD))(t5:(List (List Int)))(t6:(List (List Int)))(t9:Int)(s32:bA)(s432_0:(List (List Int)))(s432_1:(List (List Int)))(s432_2:(List bw))(s496_0:(List (List Int)))(s496_1:(List (List Int)))(s496_2:(List bw)):Option (bA×Int×Unit) :=
 if(decide (t9<(List.length t0:Int)))=true then
  if(0:Int)≤t9∧t9<(List.length t0:Int) then
   if(decide (((List.getD t0 t9.toNat bZ).Kind)=1))=true then
    (F.s_l14Block s432_0 s432_1 s432_2 ((List.getD t0 t9.toNat bZ).Body)).bind fun(r0:((List (List Int))×((List (List Int))×((List bw)×Unit)))×Unit) =>
    F.s_Compile_L1 t0 t5 t6 (w64 (t9+1)) s32 r0.1.1 r0.1.2.1 r0.1.2.2.1 s496_0 s496_1 s496_2
   else
    if(decide (((List.getD t0 t9.toNat bZ).Kind)=2))=true then
     (F.s_l14Block s496_0 s496_1 s496_2 ((List.getD t0 t9.toNat bZ).Body)).bind fun(r1:((List (List Int))×((List (List Int))×((List bw)×Unit)))×Unit) =>
     F.s_Compile_L1 t0 t5 t6 (w64 (t9+1)) s32 s432_0 s432_1 s432_2 r1.1.1 r1.1.2.1 r1.1.2.2.1
    else
     (F.s_l14E s496_0 s496_1 s496_2 ((List.getD t0 t9.toNat bZ).Pat)).bind fun(r2:((List (List Int))×((List (List Int))×((List bw)×Unit)))×Unit) =>
     (F.s_l14Put r2.1.1 r2.1.2.1 r2.1.2.2.1 31 0 []).bind fun(r3:Int×((List (List Int))×((List (List Int))×((List bw)×Unit)))×Unit) =>
     (F.s_l14Block r3.2.1.1 r3.2.1.2.1 r3.2.1.2.2.1 ((List.getD t0 t9.toNat bZ).Body)).bind fun(r4:((List (List Int))×((List (List Int))×((List bw)×Unit)))×Unit) =>
     if(0:Int)≤r3.1∧r3.1<(List.length r4.1.2.2.1:Int) then
      let v0:(List bw):=(List.set r4.1.2.2.1 r3.1.toNat (bw.mk ((List.getD r4.1.2.2.1 r3.1.toNat dr).Code) (List.length r4.1.2.2.1:Int) ((List.getD r4.1.2.2.1 r3.1.toNat dr).S)))
      F.s_Compile_L1 t0 t5 t6 (w64 (t9+1)) s32 s432_0 s432_1 s432_2 r4.1.1 r4.1.2.1 v0
     else none
  else none
 else
  (F.s_l14Put s432_0 s432_1 s432_2 36 0 []).bind fun(r5:Int×((List (List Int))×((List (List Int))×((List bw)×Unit)))×Unit) =>
  (F.s_l14Put s496_0 s496_1 s496_2 36 0 []).bind fun(r6:Int×((List (List Int))×((List (List Int))×((List bw)×Unit)))×Unit) =>
  (F.s_ProgOk (bA.mk t5 t6 r5.2.1.2.2.1 r6.2.1.2.2.1)).bind fun(r7:Bool×Unit) =>
  if(!r7.1)=true then
   some ((bA.mk [] [] [] []),3,())
  else
   some ((bA.mk t5 t6 r5.2.1.2.2.1 r6.2.1.2.2.1),0,())
def oY(F:FsBuild)(t0:(List Int)):Option (Bool×Unit) :=
 F.s_l9Name_L1 t0 0
def oZ(F:FsBuild)(t0:(List Int))(t3:Int):Option (Bool×Unit) :=
 if(decide (t3<(List.length t0:Int)))=true then
  if(0:Int)≤t3∧t3<(List.length t0:Int) then
   (F.s_l7Letter (List.getD t0 t3.toNat 0)).bind fun(r0:Bool×Unit) =>
   if(!r0.1)=true then
    some (false,())
   else
    F.s_l9Name_L1 t0 (w64 (t3+1))
  else none
 else
  (F.s_l1In (List.length t0:Int) 1 8).bind fun(r1:Bool×Unit) =>
  if r1.1=true then
   (F.s_Keyword t0).bind fun(r2:Bool×Unit) =>
   some ((!r2.1),())
  else
   some (false,())
def nZ(F:FsBuild)(t0:(List (List Int)))(t1:(List Int)):Option (Bool×Unit) :=
 F.s_l7Within_L1 t0 t1 0
def n6(F:FsBuild)(t0:(List (List Int)))(t1:(List Int))(t5:Int):Option (Bool×Unit) :=
 if(decide (t5<(List.length t0:Int)))=true then
  if(0:Int)≤t5∧t5<(List.length t0:Int) then
   if(decide ((List.getD t0 t5.toNat [])=t1))=true then
    some (true,())
   else
    F.s_l7Within_L1 t0 t1 (w64 (t5+1))
  else none
 else
  some (false,())
def lW(F:FsBuild)(t0:(List bw))(t1:Int)(t2:Int):Option (Bool×Unit) :=
 (F.s_l1In (List.length t0:Int) 1 1500).bind fun(r0:Bool×Unit) =>
 if(!r0.1)=true then
  some (false,())
 else
  if(0:Int)≤(w64 ((List.length t0:Int)-1))∧(w64 ((List.length t0:Int)-1))<(List.length t0:Int) then
   if(!(decide (((List.getD t0 (w64 ((List.length t0:Int)-1)).toNat dr).Code)=36)))=true then
    some (false,())
   else
    F.s_OpsOk_L1 t0 t1 t2 (List.length t0:Int) 0
  else none
def lX(F:FsBuild)(t0:(List bw))(t1:Int)(t2:Int)(t7:Int)(t8:Int):Option (Bool×Unit) :=
 if(decide (t8<t7))=true then
  if(0:Int)≤t8∧t8<(List.length t0:Int) then
   (F.s_l13Op (List.getD t0 t8.toNat dr) t7 t1 t2).bind fun(r0:Bool×Unit) =>
   if(!r0.1)=true then
    some (false,())
   else
    F.s_OpsOk_L1 t0 t1 t2 t7 (w64 (t8+1))
  else none
 else
  some (true,())
def mc(F:FsBuild)(t0:(List Int)):Option ((List bF)×Int×Unit) :=
 if(decide ((List.length t0:Int)>2000))=true then
  some ([],0,())
 else
  F.s_Tokens_L1 t0 [] 0
def md(F:FsBuild)(t0:(List Int))(t4:(List bF))(t5:Int):Option ((List bF)×Int×Unit) :=
 if(decide (t5<(List.length t0:Int)))=true then
  if(0:Int)≤t5∧t5<(List.length t0:Int) then
   if(decide ((List.getD t0 t5.toNat 0)=32))=true then
    F.s_Tokens_L1 t0 t4 (w64 (t5+1))
   else
    if(0:Int)≤t5∧t5<(List.length t0:Int) then
     if(decide ((List.getD t0 t5.toNat 0)=10))=true then
      F.s_Tokens_L1 t0 t4 (w64 (t5+1))
     else
      if(0:Int)≤t5∧t5<(List.length t0:Int) then
       if(decide ((List.getD t0 t5.toNat 0)=35))=true then
        F.s_Tokens_L2 t0 t4 t5
       else
        (F.s_l7One t0 t5 t4).bind fun(r0:bF×Int×Bool×Unit) =>
        if(!r0.2.2.1)=true then
         some ([],t5,())
        else
         if List.length t4+1≤room then
          F.s_Tokens_L1 t0 (List.append t4 [r0.1]) r0.2.1
         else none
      else none
    else none
  else none
 else
  if List.length t4+1≤room then
   some ((List.append t4 [(bF.mk 0 [] 0 (List.length t0:Int))]),(-1),())
  else none
def me(F:FsBuild)(t0:(List Int))(t4:(List bF))(t5:Int):Option ((List bF)×Int×Unit) :=
 if(decide (t5<(List.length t0:Int)))=true then
  if(0:Int)≤t5∧t5<(List.length t0:Int) then
   if(!(decide ((List.getD t0 t5.toNat 0)=10)))=true then
    F.s_Tokens_L2 t0 t4 (w64 (t5+1))
   else
    F.s_Tokens_L1 t0 t4 t5
  else none
 else
  F.s_Tokens_L1 t0 t4 t5
def oA(F:FsBuild)(s0:bO):Option (bF×bO×Unit) :=
 if(0:Int)≤s0.at_∧s0.at_<(List.length s0.list:Int) then
  some ((List.getD s0.list s0.at_.toNat iy),s0,())
 else none
def oD(F:FsBuild)(s0:bO):Option (bD×bO×Unit) :=
 (F.s_l8Is s0 [66,69,71,73,78]).bind fun(r0:Bool×bO×Unit) =>
 if r0.1=true then
  (F.s_l8Next r0.2.1).bind fun(r1:bO×Unit) =>
  (F.s_l8Block r1.1).bind fun(r2:bv×bO×Unit) =>
  some ((bD.mk 1 co r2.1),r2.2.1,())
 else
  (F.s_l8Sign r0.2.1 [123]).bind fun(r3:Bool×bO×Unit) =>
  if r3.1=true then
   (F.s_l8Block r3.2.1).bind fun(r4:bv×bO×Unit) =>
   some ((bD.mk 2 co r4.1),r4.2.1,())
  else
   (F.s_l8E r3.2.1).bind fun(r5:bv×bO×Unit) =>
   (F.s_l8Sign r5.2.1 [123]).bind fun(r6:Bool×bO×Unit) =>
   if r6.1=true then
    (F.s_l8Block r6.2.1).bind fun(r7:bv×bO×Unit) =>
    some ((bD.mk 3 r5.1 r7.1),r7.2.1,())
   else
    (F.s_l8Kids 29 [(bv.mk 30 0 [] [])]).bind fun(r8:(Int×(Int×((List Int)×((List bv)×Unit))))×Unit) =>
    some ((bD.mk 3 r5.1 (bv.mk r8.1.1 r8.1.2.1 r8.1.2.2.1 r8.1.2.2.2.1)),r6.2.1,())
def lQ(F:FsBuild)(t0:bv):Option (Int×Unit) :=
 F.s_Deep_L1 0 0 t0
def lR(F:FsBuild)(t3:Int)(t4:Int)(s16:bv):Option (Int×Unit) :=
 if(decide (t4<(List.length s16.Kids:Int)))=true then
  if(0:Int)≤t4∧t4<(List.length s16.Kids:Int) then
   (F.s_Deep (List.getD s16.Kids t4.toNat co)).bind fun(r0:Int×Unit) =>
   (F.s_l1Max t3 r0.1).bind fun(r1:Int×Unit) =>
   F.s_Deep_L1 r1.1 (w64 (t4+1)) s16
  else none
 else
  some ((w64 (t3+1)),())
def mU(F:FsBuild)(t0:Int)(t1:Int):Option (Int×Unit) :=
 if(decide (t0>t1))=true then
  some (t0,())
 else
  some (t1,())
def lC(F:FsBuild)(t0:(List bD)):Option (Int×Unit) :=
 (F.s_Tidy t0).bind fun(r0:Bool×Unit) =>
 if(!r0.1)=true then
  some (1,())
 else
  F.s_Check_L1 t0 0
def lD(F:FsBuild)(t0:(List bD))(t3:Int):Option (Int×Unit) :=
 if(decide (t3<(List.length t0:Int)))=true then
  if(0:Int)≤t3∧t3<(List.length t0:Int) then
   if(decide (((List.getD t0 t3.toNat bZ).Kind)=1))=true then
    if(decide (t3>0))=true then
     some (2,())
    else
     if(0:Int)≤t3∧t3<(List.length t0:Int) then
      (F.s_l10Line ((List.getD t0 t3.toNat bZ).Body)).bind fun(r0:Bool×Unit) =>
      if r0.1=true then
       some (2,())
      else
       F.s_Check_L1 t0 (w64 (t3+1))
     else none
   else
    F.s_Check_L1 t0 (w64 (t3+1))
  else none
 else
  (F.s_Names t0).bind fun(r1:(List (List Int))×(List (List Int))×Unit) =>
  if(decide ((List.length r1.1:Int)>8))=true then
   some (3,())
  else
   if(decide ((List.length r1.2.1:Int)>8))=true then
    some (3,())
   else
    F.s_Check_L2 t0 r1.1 r1.2.1 0
def lE(F:FsBuild)(t0:(List bD))(t4:(List (List Int)))(t5:(List (List Int)))(t6:Int):Option (Int×Unit) :=
 if(decide (t6<(List.length t4:Int)))=true then
  if(0:Int)≤t6∧t6<(List.length t4:Int) then
   (F.s_l7Within t5 (List.getD t4 t6.toNat [])).bind fun(r0:Bool×Unit) =>
   if r0.1=true then
    some (4,())
   else
    F.s_Check_L2 t0 t4 t5 (w64 (t6+1))
  else none
 else
  F.s_Check_L3 t0 0
def lF(F:FsBuild)(t0:(List bD))(t7:Int):Option (Int×Unit) :=
 if(decide (t7<(List.length t0:Int)))=true then
  if(0:Int)≤t7∧t7<(List.length t0:Int) then
   (F.s_l10Args ((List.getD t0 t7.toNat bZ).Pat)).bind fun(r0:Bool×Unit) =>
   if(!r0.1)=true then
    some (5,())
   else
    if(0:Int)≤t7∧t7<(List.length t0:Int) then
     (F.s_l10Args ((List.getD t0 t7.toNat bZ).Body)).bind fun(r1:Bool×Unit) =>
     if(!r1.1)=true then
      some (5,())
     else
      F.s_Check_L3 t0 (w64 (t7+1))
    else none
  else none
 else
  F.s_Check_L4 t0 0
def lG(F:FsBuild)(t0:(List bD))(t8:Int):Option (Int×Unit) :=
 if(decide (t8<(List.length t0:Int)))=true then
  if(0:Int)≤t8∧t8<(List.length t0:Int) then
   (F.s_l10Rexes ((List.getD t0 t8.toNat bZ).Pat)).bind fun(r0:Bool×Unit) =>
   if(!r0.1)=true then
    some (6,())
   else
    if(0:Int)≤t8∧t8<(List.length t0:Int) then
     (F.s_l10Rexes ((List.getD t0 t8.toNat bZ).Body)).bind fun(r1:Bool×Unit) =>
     if(!r1.1)=true then
      some (6,())
     else
      F.s_Check_L4 t0 (w64 (t8+1))
    else none
  else none
 else
  some (0,())
def lT(F:FsBuild)(t0:(List bD)):Option ((List (List Int))×(List (List Int))×Unit) :=
 F.s_Names_L1 t0 [] [] 0
def lU(F:FsBuild)(t0:(List bD))(t4:(List (List Int)))(t5:(List (List Int)))(t6:Int):Option ((List (List Int))×(List (List Int))×Unit) :=
 if(decide (t6<(List.length t0:Int)))=true then
  if(0:Int)≤t6∧t6<(List.length t0:Int) then
   (F.s_l10Names ((List.getD t0 t6.toNat bZ).Pat) t4 t5).bind fun(r0:(List (List Int))×(List (List Int))×Unit) =>
   if(0:Int)≤t6∧t6<(List.length t0:Int) then
    (F.s_l10Names ((List.getD t0 t6.toNat bZ).Body) r0.1 r0.2.1).bind fun(r1:(List (List Int))×(List (List Int))×Unit) =>
    F.s_Names_L1 t0 r1.1 r1.2.1 (w64 (t6+1))
   else none
  else none
 else
  some (t4,t5,())
def mD(F:FsBuild)(s0_0:(List (List Int)))(s0_1:(List (List Int)))(s0_2:(List bw))(t1:bv):Option (((List (List Int))×((List (List Int))×((List bw)×Unit)))×Unit) :=
 F.s_l14Block_L1 0 s0_0 s0_1 s0_2 t1
def mE(F:FsBuild)(t4:Int)(s0_0:(List (List Int)))(s0_1:(List (List Int)))(s0_2:(List bw))(s48:bv):Option (((List (List Int))×((List (List Int))×((List bw)×Unit)))×Unit) :=
 if(decide (t4<(List.length s48.Kids:Int)))=true then
  if(0:Int)≤t4∧t4<(List.length s48.Kids:Int) then
   (F.s_l14Stmt s0_0 s0_1 s0_2 (List.getD s48.Kids t4.toNat co)).bind fun(r0:((List (List Int))×((List (List Int))×((List bw)×Unit)))×Unit) =>
   F.s_l14Block_L1 (w64 (t4+1)) r0.1.1 r0.1.2.1 r0.1.2.2.1 s48
  else none
 else
  some ((s0_0,(s0_1,(s0_2,()))),())
def mF(F:FsBuild)(s0_0:(List (List Int)))(s0_1:(List (List Int)))(s0_2:(List bw))(t1:bv):Option (((List (List Int))×((List (List Int))×((List bw)×Unit)))×Unit) :=
 if(decide (t1.Op=26))=true then
  F.s_l14E_L1 t1.Op (decide (t1.Op=26)) s0_0 s0_1 s0_2 t1
 else
  F.s_l14E_L1 t1.Op (decide (t1.Op=27)) s0_0 s0_1 s0_2 t1
def mG(F:FsBuild)(t6:Int)(t24:Bool)(s0_0:(List (List Int)))(s0_1:(List (List Int)))(s0_2:(List bw))(s48:bv):Option (((List (List Int))×((List (List Int))×((List bw)×Unit)))×Unit) :=
 if t24=true then
  (F.s_l14Set s0_0 s0_1 s0_2 s48).bind fun(r0:((List (List Int))×((List (List Int))×((List bw)×Unit)))×Unit) =>
  some ((r0.1.1,(r0.1.2.1,(r0.1.2.2.1,()))),())
 else
  if(decide (t6=24))=true then
   (F.s_l14And s0_0 s0_1 s0_2 s48).bind fun(r1:((List (List Int))×((List (List Int))×((List bw)×Unit)))×Unit) =>
   some ((r1.1.1,(r1.1.2.1,(r1.1.2.2.1,()))),())
  else
   if(decide (t6=25))=true then
    (F.s_l14Or s0_0 s0_1 s0_2 s48).bind fun(r2:((List (List Int))×((List (List Int))×((List bw)×Unit)))×Unit) =>
    some ((r2.1.1,(r2.1.2.1,(r2.1.2.2.1,()))),())
   else
    if(decide (t6=21))=true then
     if(0:Int)≤0∧(0:Int)<(List.length s48.Kids:Int) then
      (F.s_l14E s0_0 s0_1 s0_2 (List.getD s48.Kids 0 co)).bind fun(r3:((List (List Int))×((List (List Int))×((List bw)×Unit)))×Unit) =>
      if(0:Int)≤1∧(1:Int)<(List.length s48.Kids:Int) then
       (F.s_l14Put r3.1.1 r3.1.2.1 r3.1.2.2.1 24 0 ((List.getD s48.Kids 1 co).S)).bind fun(r4:Int×((List (List Int))×((List (List Int))×((List bw)×Unit)))×Unit) =>
       some ((r4.2.1.1,(r4.2.1.2.1,(r4.2.1.2.2.1,()))),())
      else none
     else none
    else
     F.s_l14E_L2 0 s0_0 s0_1 s0_2 s48
def mH(F:FsBuild)(t4:Int)(s0_0:(List (List Int)))(s0_1:(List (List Int)))(s0_2:(List bw))(s48:bv):Option (((List (List Int))×((List (List Int))×((List bw)×Unit)))×Unit) :=
 if(decide (t4<(List.length s48.Kids:Int)))=true then
  if(0:Int)≤t4∧t4<(List.length s48.Kids:Int) then
   (F.s_l14E s0_0 s0_1 s0_2 (List.getD s48.Kids t4.toNat co)).bind fun(r0:((List (List Int))×((List (List Int))×((List bw)×Unit)))×Unit) =>
   F.s_l14E_L2 (w64 (t4+1)) r0.1.1 r0.1.2.1 r0.1.2.2.1 s48
  else none
 else
  (F.s_l14Last s0_0 s0_1 s0_2 s48).bind fun(r1:((List (List Int))×((List (List Int))×((List bw)×Unit)))×Unit) =>
  some ((r1.1.1,(r1.1.2.1,(r1.1.2.2.1,()))),())
def mO(F:FsBuild)(s0_0:(List (List Int)))(s0_1:(List (List Int)))(s0_2:(List bw))(t1:Int)(t2:Int)(t3:(List Int)):Option (Int×((List (List Int))×((List (List Int))×((List bw)×Unit)))×Unit) :=
 if List.length s0_2+1≤room then
  some ((w64 ((List.length (List.append s0_2 [(bw.mk t1 t2 t3)]):Int)-1)),(s0_0,(s0_1,((List.append s0_2 [(bw.mk t1 t2 t3)]),()))),())
 else none
def nM(F:FsBuild)(t0:Int):Option (Bool×Unit) :=
 if(decide (t0≥97))=true then
  if(decide (t0≤122))=true then
   some (true,())
  else
   if(decide (t0≥65))=true then
    some ((decide (t0≤90)),())
   else
    some (false,())
 else
  if(decide (t0≥65))=true then
   some ((decide (t0≤90)),())
  else
   some (false,())
def lS(F:FsBuild)(t0:(List Int)):Option (Bool×Unit) :=
 (F.s_l7Within [[66,69,71,73,78],[112,114,105,110,116],[105,102],[101,108,115,101],[119,104,105,108,101],[110,101,120,116],[100,101,108,101,116,101],[78,82],[78,70]] t0).bind fun(r0:Bool×Unit) =>
 if r0.1=true then
  some (true,())
 else
  (F.s_l7Calls ).bind fun(r1:(List (List Int))×Unit) =>
  (F.s_l7Within r1.1 t0).bind fun(r2:Bool×Unit) =>
  some (r2.1,())
def mw(F:FsBuild)(t0:bw)(t1:Int)(t2:Int)(t3:Int):Option (Bool×Unit) :=
 if(decide (t0.Code=1))=true then
  (F.s_DecOk t0.N).bind fun(r0:Bool×Unit) =>
  if r0.1=true then
   some ((decide (t0.S=[])),())
  else
   some (false,())
 else
  if(decide (t0.Code=2))=true then
   some ((decide (t0.N=0)),())
  else
   if(decide (t0.Code=3))=true then
    F.s_l13Op_L1 t1 t2 t3 t0.Code (decide (t0.Code=3)) t0
   else
    if(decide (t0.Code=4))=true then
     F.s_l13Op_L1 t1 t2 t3 t0.Code (decide (t0.Code=4)) t0
    else
     F.s_l13Op_L1 t1 t2 t3 t0.Code (decide (t0.Code=5)) t0
def my(F:FsBuild)(t1:Int)(t2:Int)(t3:Int)(t12:Int)(t28:Bool)(s64:bw):Option (Bool×Unit) :=
 if t28=true then
  if(decide (s64.N≥0))=true then
   if(decide (s64.N<t2))=true then
    some ((decide (s64.S=[])),())
   else
    some (false,())
  else
   some (false,())
 else
  if(decide (t12=6))=true then
   F.s_l13Op_L2 t1 t3 t12 (decide (t12=6)) s64
  else
   if(decide (t12=7))=true then
    F.s_l13Op_L2 t1 t3 t12 (decide (t12=7)) s64
   else
    if(decide (t12=8))=true then
     F.s_l13Op_L2 t1 t3 t12 (decide (t12=8)) s64
    else
     F.s_l13Op_L2 t1 t3 t12 (decide (t12=35)) s64
def mz(F:FsBuild)(t1:Int)(t3:Int)(t12:Int)(t46:Bool)(s64:bw):Option (Bool×Unit) :=
 if t46=true then
  if(decide (s64.N≥0))=true then
   if(decide (s64.N<t3))=true then
    some ((decide (s64.S=[])),())
   else
    some (false,())
  else
   some (false,())
 else
  if(decide (t12=24))=true then
   F.s_l13Op_L3 t1 t12 (decide (t12=24)) s64
  else
   F.s_l13Op_L3 t1 t12 (decide (t12=25)) s64
def mA(F:FsBuild)(t1:Int)(t12:Int)(t65:Bool)(s64:bw):Option (Bool×Unit) :=
 if t65=true then
  (F.s_RexParse s64.S).bind fun(r0:bC×Bool×Unit) =>
  if r0.2.1=true then
   some ((decide (s64.N=0)),())
  else
   some (false,())
 else
  if(decide (t12=29))=true then
   (F.s_l1In s64.N 1 3).bind fun(r1:Bool×Unit) =>
   if r1.1=true then
    (F.s_l7Calls ).bind fun(r2:(List (List Int))×Unit) =>
    (F.s_l7Within r2.1 s64.S).bind fun(r3:Bool×Unit) =>
    some (r3.1,())
   else
    some (false,())
  else
   if(decide (t12=30))=true then
    F.s_l13Op_L4 t1 t12 (decide (t12=30)) s64
   else
    F.s_l13Op_L4 t1 t12 (decide (t12=31)) s64
def mB(F:FsBuild)(t1:Int)(t12:Int)(t91:Bool)(s64:bw):Option (Bool×Unit) :=
 if t91=true then
  (F.s_l1In s64.N 0 (w64 (t1-1))).bind fun(r0:Bool×Unit) =>
  if r0.1=true then
   some ((decide (s64.S=[])),())
  else
   some (false,())
 else
  if(decide (t12=33))=true then
   (F.s_l1In s64.N 0 1).bind fun(r1:Bool×Unit) =>
   if r1.1=true then
    some ((decide (s64.S=[])),())
   else
    some (false,())
  else
   (F.s_l1In s64.Code 1 36).bind fun(r2:Bool×Unit) =>
   if r2.1=true then
    if(decide (s64.N=0))=true then
     some ((decide (s64.S=[])),())
    else
     some (false,())
   else
    some (false,())
def nR(F:FsBuild)(t0:(List Int))(t1:Int)(t2:(List bF)):Option (bF×Int×Bool×Unit) :=
 if(0:Int)≤t1∧t1<(List.length t0:Int) then
  (F.s_l7Letter (List.getD t0 t1.toNat 0)).bind fun(r0:Bool×Unit) =>
  if r0.1=true then
   F.s_l7One_L1 t0 t1 t1 iy
  else
   (F.s_l2Digit (List.getD t0 t1.toNat 0)).bind fun(r1:Bool×Unit) =>
   if r1.1=true then
    (F.s_l7Number t0 t1).bind fun(r2:Int×Int×Bool×Unit) =>
    some ((bF.mk 2 [] r2.1 t1),r2.2.1,r2.2.2.1,())
   else
    if(decide ((List.getD t0 t1.toNat 0)=34))=true then
     (F.s_l7Text t0 t1).bind fun(r3:(List Int)×Int×Bool×Unit) =>
     some ((bF.mk 3 r3.1 0 t1),r3.2.1,r3.2.2.1,())
    else
     if(decide ((List.getD t0 t1.toNat 0)=47))=true then
      (F.s_l7After t2).bind fun(r4:Bool×Unit) =>
      if(!r4.1)=true then
       (F.s_l7Rex t0 t1).bind fun(r5:(List Int)×Int×Bool×Unit) =>
       some ((bF.mk 4 r5.1 0 t1),r5.2.1,r5.2.2.1,())
      else
       (F.s_l7Sign t0 t1).bind fun(r6:(List Int)×Unit) =>
       some ((bF.mk 5 r6.1 0 t1),(w64 (t1+(List.length r6.1:Int))),(!(decide (r6.1=[]))),())
     else
      (F.s_l7Sign t0 t1).bind fun(r7:(List Int)×Unit) =>
      some ((bF.mk 5 r7.1 0 t1),(w64 (t1+(List.length r7.1:Int))),(!(decide (r7.1=[]))),())
 else none
def nS(F:FsBuild)(t0:(List Int))(t1:Int)(t10:Int)(s96:bF):Option (bF×Int×Bool×Unit) :=
 if(decide (t10<(List.length t0:Int)))=true then
  if(0:Int)≤t10∧t10<(List.length t0:Int) then
   (F.s_l7Letter (List.getD t0 t10.toNat 0)).bind fun(r0:Bool×Unit) =>
   if r0.1=true then
    F.s_l7One_L1 t0 t1 (w64 (t10+1)) s96
   else
    if(0:Int)≤t1∧t1≤t10∧t10≤(List.length t0:Int) then
     some ((bF.mk 1 (List.take (t10.toNat-t1.toNat) (List.drop t1.toNat t0)) 0 t1),t10,(decide ((w64 (t10-t1))≤8)),())
    else none
  else none
 else
  if(0:Int)≤t1∧t1≤t10∧t10≤(List.length t0:Int) then
   some ((bF.mk 1 (List.take (t10.toNat-t1.toNat) (List.drop t1.toNat t0)) 0 t1),t10,(decide ((w64 (t10-t1))≤8)),())
  else none
def om(F:FsBuild)(s0:bO)(t1:(List Int)):Option (Bool×bO×Unit) :=
 (F.s_l8Now s0).bind fun(r0:bF×bO×Unit) =>
 if(decide (r0.2.1.bad<0))=true then
  if(decide (r0.1.Kind=1))=true then
   some ((decide (r0.1.Text=t1)),r0.2.1,())
  else
   some (false,r0.2.1,())
 else
  some (false,r0.2.1,())
def oz(F:FsBuild)(s0:bO):Option (bO×Unit) :=
 if(decide (s0.at_<(w64 ((List.length s0.list:Int)-1))))=true then
  some ((bO.mk s0.list (w64 (s0.at_+1)) s0.bad s0.has s0.kept),())
 else
  some (s0,())
def ob(F:FsBuild)(s0:bO):Option (bv×bO×Unit) :=
 (F.s_l8Take s0 [123]).bind fun(r0:bO×Unit) =>
 F.s_l8Block_L1 r0.1 0 0 [] [] 29 0 [] []
def oc(F:FsBuild)(s0:bO)(s32_0:Int)(s32_1:Int)(s32_2:(List Int))(s32_3:(List bv))(s48_0:Int)(s48_1:Int)(s48_2:(List Int))(s48_3:(List bv)):Option (bv×bO×Unit) :=
 if(decide (s0.bad<0))=true then
  (F.s_l8Sign s0 [125]).bind fun(r0:Bool×bO×Unit) =>
  if(!r0.1)=true then
   (F.s_l8Sign r0.2.1 [59]).bind fun(r1:Bool×bO×Unit) =>
   if r1.1=true then
    (F.s_l8Next r1.2.1).bind fun(r2:bO×Unit) =>
    F.s_l8Block_L1 r2.1 s32_0 s32_1 s32_2 s32_3 s48_0 s48_1 s48_2 s48_3
   else
    (F.s_l8Stmt r1.2.1).bind fun(r3:bv×bO×Unit) =>
    if List.length s48_3+1≤room then
     F.s_l8Block_L1 r3.2.1 s32_0 s32_1 s32_2 s32_3 s48_0 s48_1 s48_2 (List.append s48_3 [r3.1])
    else none
  else
   (F.s_l8Take r0.2.1 [125]).bind fun(r4:bO×Unit) =>
   some ((bv.mk s48_0 s48_1 s48_2 s48_3),r4.1,())
 else
  (F.s_l8Take s0 [125]).bind fun(r5:bO×Unit) =>
  some ((bv.mk s48_0 s48_1 s48_2 s48_3),r5.1,())
def oE(F:FsBuild)(s0:bO)(t1:(List Int)):Option (Bool×bO×Unit) :=
 (F.s_l8Now s0).bind fun(r0:bF×bO×Unit) =>
 if(decide (r0.2.1.bad<0))=true then
  if(decide (r0.1.Kind=5))=true then
   some ((decide (r0.1.Text=t1)),r0.2.1,())
  else
   some (false,r0.2.1,())
 else
  some (false,r0.2.1,())
def oh(F:FsBuild)(s0:bO):Option (bv×bO×Unit) :=
 (F.s_l8Now s0).bind fun(r0:bF×bO×Unit) =>
 if(decide (r0.2.1.bad<0))=true then
  if(decide (r0.1.Kind=1))=true then
   (F.s_Keyword r0.1.Text).bind fun(r1:Bool×Unit) =>
   if(!r1.1)=true then
    (F.s_l8Named r0.2.1).bind fun(r2:bv×bO×Unit) =>
    (F.s_l8Sign r2.2.1 [61]).bind fun(r3:Bool×bO×Unit) =>
    if r3.1=true then
     F.s_l8E_L1 26 r3.2.1 0 0 [] [] r2.1
    else
     (F.s_l8Sign r3.2.1 [43,61]).bind fun(r4:Bool×bO×Unit) =>
     if r4.1=true then
      F.s_l8E_L1 27 r4.2.1 0 0 [] [] r2.1
     else
      F.s_l8E_L1 0 r4.2.1 0 0 [] [] r2.1
   else
    (F.s_l8Level r0.2.1 0).bind fun(r5:bv×bO×Unit) =>
    some (r5.1,r5.2.1,())
  else
   (F.s_l8Level r0.2.1 0).bind fun(r6:bv×bO×Unit) =>
   some (r6.1,r6.2.1,())
 else
  (F.s_l8Level r0.2.1 0).bind fun(r7:bv×bO×Unit) =>
  some (r7.1,r7.2.1,())
def oi(F:FsBuild)(t5:Int)(s0:bO)(s32_0:Int)(s32_1:Int)(s32_2:(List Int))(s32_3:(List bv))(s64:bv):Option (bv×bO×Unit) :=
 if(decide (t5>0))=true then
  (F.s_l8Next s0).bind fun(r0:bO×Unit) =>
  (F.s_l8E r0.1).bind fun(r1:bv×bO×Unit) =>
  (F.s_l8Kids t5 [s64,r1.1]).bind fun(r2:(Int×(Int×((List Int)×((List bv)×Unit))))×Unit) =>
  some ((bv.mk r2.1.1 r2.1.2.1 r2.1.2.2.1 r2.1.2.2.2.1),r1.2.1,())
 else
  (F.s_l8Level (bO.mk s0.list s0.at_ s0.bad true s64) 0).bind fun(r3:bv×bO×Unit) =>
  some (r3.1,r3.2.1,())
def oo(F:FsBuild)(t0:Int)(t1:(List bv)):Option ((Int×(Int×((List Int)×((List bv)×Unit))))×Unit) :=
 if 0+List.length t1≤room then
  some ((t0,(0,([],((List.append [] t1),())))),())
 else none
def ma(F:FsBuild)(t0:(List bD)):Option (Bool×Unit) :=
 F.s_Tidy_L1 t0 0
def mb(F:FsBuild)(t0:(List bD))(t3:Int):Option (Bool×Unit) :=
 if(decide (t3<(List.length t0:Int)))=true then
  if(0:Int)≤t3∧t3<(List.length t0:Int) then
   if(decide ((((List.getD t0 t3.toNat bZ).Pat).Op)=0))=true then
    if(decide ((((List.getD t0 t3.toNat bZ).Pat).N)=0))=true then
     if(decide ((((List.getD t0 t3.toNat bZ).Pat).S)=[]))=true then
      (F.s_l1In ((List.getD t0 t3.toNat bZ).Kind) 1 2).bind fun(r0:Bool×Unit) =>
      if r0.1=true then
       if(decide ((List.length (((List.getD t0 t3.toNat bZ).Pat).Kids):Int)=0))=true then
        if(!(decide ((((List.getD t0 t3.toNat bZ).Body).Op)=29)))=true then
         some (false,())
        else
         (F.s_Deep ((List.getD t0 t3.toNat bZ).Body)).bind fun(r1:Int×Unit) =>
         if(decide (r1.1>16))=true then
          some (false,())
         else
          (F.s_l9Node ((List.getD t0 t3.toNat bZ).Body)).bind fun(r2:Bool×Unit) =>
          if(!r2.1)=true then
           some (false,())
          else
           F.s_Tidy_L1 t0 (w64 (t3+1))
       else
        if(decide (((List.getD t0 t3.toNat bZ).Kind)=3))=true then
         (F.s_l9IsE (((List.getD t0 t3.toNat bZ).Pat).Op)).bind fun(r3:Bool×Unit) =>
         if r3.1=true then
          (F.s_l9Node ((List.getD t0 t3.toNat bZ).Pat)).bind fun(r4:Bool×Unit) =>
          if r4.1=true then
           (F.s_Deep ((List.getD t0 t3.toNat bZ).Pat)).bind fun(r5:Int×Unit) =>
           if(!(decide (r5.1≤16)))=true then
            some (false,())
           else
            if(!(decide ((((List.getD t0 t3.toNat bZ).Body).Op)=29)))=true then
             some (false,())
            else
             (F.s_Deep ((List.getD t0 t3.toNat bZ).Body)).bind fun(r6:Int×Unit) =>
             if(decide (r6.1>16))=true then
              some (false,())
             else
              (F.s_l9Node ((List.getD t0 t3.toNat bZ).Body)).bind fun(r7:Bool×Unit) =>
              if(!r7.1)=true then
               some (false,())
              else
               F.s_Tidy_L1 t0 (w64 (t3+1))
          else
           some (false,())
         else
          some (false,())
        else
         some (false,())
      else
       if(decide (((List.getD t0 t3.toNat bZ).Kind)=3))=true then
        (F.s_l9IsE (((List.getD t0 t3.toNat bZ).Pat).Op)).bind fun(r8:Bool×Unit) =>
        if r8.1=true then
         (F.s_l9Node ((List.getD t0 t3.toNat bZ).Pat)).bind fun(r9:Bool×Unit) =>
         if r9.1=true then
          (F.s_Deep ((List.getD t0 t3.toNat bZ).Pat)).bind fun(r10:Int×Unit) =>
          if(!(decide (r10.1≤16)))=true then
           some (false,())
          else
           if(!(decide ((((List.getD t0 t3.toNat bZ).Body).Op)=29)))=true then
            some (false,())
           else
            (F.s_Deep ((List.getD t0 t3.toNat bZ).Body)).bind fun(r11:Int×Unit) =>
            if(decide (r11.1>16))=true then
             some (false,())
            else
             (F.s_l9Node ((List.getD t0 t3.toNat bZ).Body)).bind fun(r12:Bool×Unit) =>
             if(!r12.1)=true then
              some (false,())
             else
              F.s_Tidy_L1 t0 (w64 (t3+1))
         else
          some (false,())
        else
         some (false,())
       else
        some (false,())
     else
      (F.s_l1In ((List.getD t0 t3.toNat bZ).Kind) 1 2).bind fun(r13:Bool×Unit) =>
      if r13.1=true then
       if(decide (((List.getD t0 t3.toNat bZ).Kind)=3))=true then
        (F.s_l9IsE (((List.getD t0 t3.toNat bZ).Pat).Op)).bind fun(r14:Bool×Unit) =>
        if r14.1=true then
         (F.s_l9Node ((List.getD t0 t3.toNat bZ).Pat)).bind fun(r15:Bool×Unit) =>
         if r15.1=true then
          (F.s_Deep ((List.getD t0 t3.toNat bZ).Pat)).bind fun(r16:Int×Unit) =>
          if(!(decide (r16.1≤16)))=true then
           some (false,())
          else
           if(!(decide ((((List.getD t0 t3.toNat bZ).Body).Op)=29)))=true then
            some (false,())
           else
            (F.s_Deep ((List.getD t0 t3.toNat bZ).Body)).bind fun(r17:Int×Unit) =>
            if(decide (r17.1>16))=true then
             some (false,())
            else
             (F.s_l9Node ((List.getD t0 t3.toNat bZ).Body)).bind fun(r18:Bool×Unit) =>
             if(!r18.1)=true then
              some (false,())
             else
              F.s_Tidy_L1 t0 (w64 (t3+1))
         else
          some (false,())
        else
         some (false,())
       else
        some (false,())
      else
       if(decide (((List.getD t0 t3.toNat bZ).Kind)=3))=true then
        (F.s_l9IsE (((List.getD t0 t3.toNat bZ).Pat).Op)).bind fun(r19:Bool×Unit) =>
        if r19.1=true then
         (F.s_l9Node ((List.getD t0 t3.toNat bZ).Pat)).bind fun(r20:Bool×Unit) =>
         if r20.1=true then
          (F.s_Deep ((List.getD t0 t3.toNat bZ).Pat)).bind fun(r21:Int×Unit) =>
          if(!(decide (r21.1≤16)))=true then
           some (false,())
          else
           if(!(decide ((((List.getD t0 t3.toNat bZ).Body).Op)=29)))=true then
            some (false,())
           else
            (F.s_Deep ((List.getD t0 t3.toNat bZ).Body)).bind fun(r22:Int×Unit) =>
            if(decide (r22.1>16))=true then
             some (false,())
            else
             (F.s_l9Node ((List.getD t0 t3.toNat bZ).Body)).bind fun(r23:Bool×Unit) =>
             if(!r23.1)=true then
              some (false,())
             else
              F.s_Tidy_L1 t0 (w64 (t3+1))
         else
          some (false,())
        else
         some (false,())
       else
        some (false,())
    else
     (F.s_l1In ((List.getD t0 t3.toNat bZ).Kind) 1 2).bind fun(r24:Bool×Unit) =>
     if r24.1=true then
      if(decide (((List.getD t0 t3.toNat bZ).Kind)=3))=true then
       (F.s_l9IsE (((List.getD t0 t3.toNat bZ).Pat).Op)).bind fun(r25:Bool×Unit) =>
       if r25.1=true then
        (F.s_l9Node ((List.getD t0 t3.toNat bZ).Pat)).bind fun(r26:Bool×Unit) =>
        if r26.1=true then
         (F.s_Deep ((List.getD t0 t3.toNat bZ).Pat)).bind fun(r27:Int×Unit) =>
         if(!(decide (r27.1≤16)))=true then
          some (false,())
         else
          if(!(decide ((((List.getD t0 t3.toNat bZ).Body).Op)=29)))=true then
           some (false,())
          else
           (F.s_Deep ((List.getD t0 t3.toNat bZ).Body)).bind fun(r28:Int×Unit) =>
           if(decide (r28.1>16))=true then
            some (false,())
           else
            (F.s_l9Node ((List.getD t0 t3.toNat bZ).Body)).bind fun(r29:Bool×Unit) =>
            if(!r29.1)=true then
             some (false,())
            else
             F.s_Tidy_L1 t0 (w64 (t3+1))
        else
         some (false,())
       else
        some (false,())
      else
       some (false,())
     else
      if(decide (((List.getD t0 t3.toNat bZ).Kind)=3))=true then
       (F.s_l9IsE (((List.getD t0 t3.toNat bZ).Pat).Op)).bind fun(r30:Bool×Unit) =>
       if r30.1=true then
        (F.s_l9Node ((List.getD t0 t3.toNat bZ).Pat)).bind fun(r31:Bool×Unit) =>
        if r31.1=true then
         (F.s_Deep ((List.getD t0 t3.toNat bZ).Pat)).bind fun(r32:Int×Unit) =>
         if(!(decide (r32.1≤16)))=true then
          some (false,())
         else
          if(!(decide ((((List.getD t0 t3.toNat bZ).Body).Op)=29)))=true then
           some (false,())
          else
           (F.s_Deep ((List.getD t0 t3.toNat bZ).Body)).bind fun(r33:Int×Unit) =>
           if(decide (r33.1>16))=true then
            some (false,())
           else
            (F.s_l9Node ((List.getD t0 t3.toNat bZ).Body)).bind fun(r34:Bool×Unit) =>
            if(!r34.1)=true then
             some (false,())
            else
             F.s_Tidy_L1 t0 (w64 (t3+1))
        else
         some (false,())
       else
        some (false,())
      else
       some (false,())
   else
    (F.s_l1In ((List.getD t0 t3.toNat bZ).Kind) 1 2).bind fun(r35:Bool×Unit) =>
    if r35.1=true then
     if(decide (((List.getD t0 t3.toNat bZ).Kind)=3))=true then
      (F.s_l9IsE (((List.getD t0 t3.toNat bZ).Pat).Op)).bind fun(r36:Bool×Unit) =>
      if r36.1=true then
       (F.s_l9Node ((List.getD t0 t3.toNat bZ).Pat)).bind fun(r37:Bool×Unit) =>
       if r37.1=true then
        (F.s_Deep ((List.getD t0 t3.toNat bZ).Pat)).bind fun(r38:Int×Unit) =>
        if(!(decide (r38.1≤16)))=true then
         some (false,())
        else
         if(!(decide ((((List.getD t0 t3.toNat bZ).Body).Op)=29)))=true then
          some (false,())
         else
          (F.s_Deep ((List.getD t0 t3.toNat bZ).Body)).bind fun(r39:Int×Unit) =>
          if(decide (r39.1>16))=true then
           some (false,())
          else
           (F.s_l9Node ((List.getD t0 t3.toNat bZ).Body)).bind fun(r40:Bool×Unit) =>
           if(!r40.1)=true then
            some (false,())
           else
            F.s_Tidy_L1 t0 (w64 (t3+1))
       else
        some (false,())
      else
       some (false,())
     else
      some (false,())
    else
     if(decide (((List.getD t0 t3.toNat bZ).Kind)=3))=true then
      (F.s_l9IsE (((List.getD t0 t3.toNat bZ).Pat).Op)).bind fun(r41:Bool×Unit) =>
      if r41.1=true then
       (F.s_l9Node ((List.getD t0 t3.toNat bZ).Pat)).bind fun(r42:Bool×Unit) =>
       if r42.1=true then
        (F.s_Deep ((List.getD t0 t3.toNat bZ).Pat)).bind fun(r43:Int×Unit) =>
        if(!(decide (r43.1≤16)))=true then
         some (false,())
        else
         if(!(decide ((((List.getD t0 t3.toNat bZ).Body).Op)=29)))=true then
          some (false,())
         else
          (F.s_Deep ((List.getD t0 t3.toNat bZ).Body)).bind fun(r44:Int×Unit) =>
          if(decide (r44.1>16))=true then
           some (false,())
          else
           (F.s_l9Node ((List.getD t0 t3.toNat bZ).Body)).bind fun(r45:Bool×Unit) =>
           if(!r45.1)=true then
            some (false,())
           else
            F.s_Tidy_L1 t0 (w64 (t3+1))
       else
        some (false,())
      else
       some (false,())
     else
      some (false,())
  else none
 else
  some (true,())
def mi(F:FsBuild)(t0:bv):Option (Bool×Unit) :=
 if(decide (t0.Op=6))=true then
  some (true,())
 else
  if(decide (t0.Op=7))=true then
   some (true,())
  else
   if(decide (t0.Op=8))=true then
    some (true,())
   else
    if(decide (t0.Op=33))=true then
     some (true,())
    else
     if(decide (t0.Op=3))=true then
      some (true,())
     else
      F.s_l10Line_L1 0 t0
def mj(F:FsBuild)(t3:Int)(s16:bv):Option (Bool×Unit) :=
 if(decide (t3<(List.length s16.Kids:Int)))=true then
  if(decide (s16.Op=21))=true then
   if(decide (t3=1))=true then
    if(0:Int)≤t3∧t3<(List.length s16.Kids:Int) then
     if(decide (((List.getD s16.Kids t3.toNat co).Op)=3))=true then
      F.s_l10Line_L1 (w64 (t3+1)) s16
     else
      if(0:Int)≤t3∧t3<(List.length s16.Kids:Int) then
       (F.s_l10Line (List.getD s16.Kids t3.toNat co)).bind fun(r0:Bool×Unit) =>
       if r0.1=true then
        some (true,())
       else
        F.s_l10Line_L1 (w64 (t3+1)) s16
      else none
    else none
   else
    if(0:Int)≤t3∧t3<(List.length s16.Kids:Int) then
     (F.s_l10Line (List.getD s16.Kids t3.toNat co)).bind fun(r1:Bool×Unit) =>
     if r1.1=true then
      some (true,())
     else
      F.s_l10Line_L1 (w64 (t3+1)) s16
    else none
  else
   if(0:Int)≤t3∧t3<(List.length s16.Kids:Int) then
    (F.s_l10Line (List.getD s16.Kids t3.toNat co)).bind fun(r2:Bool×Unit) =>
    if r2.1=true then
     some (true,())
    else
     F.s_l10Line_L1 (w64 (t3+1)) s16
   else none
 else
  some (false,())
def mf(F:FsBuild)(t0:bv):Option (Bool×Unit) :=
 if(decide (t0.Op=28))=true then
  if(decide (t0.S=[105,110,100,101,120]))=true then
   if(!(decide ((List.length t0.Kids:Int)=2)))=true then
    some (false,())
   else
    F.s_l10Args_L1 (List.length t0.Kids:Int) t0
  else
   if(decide (t0.S=[115,117,98,115,116,114]))=true then
    if(!(decide ((List.length t0.Kids:Int)=2)))=true then
     if(!(decide ((List.length t0.Kids:Int)=3)))=true then
      some (false,())
     else
      F.s_l10Args_L1 (List.length t0.Kids:Int) t0
    else
     F.s_l10Args_L1 (List.length t0.Kids:Int) t0
   else
    if(!(decide ((List.length t0.Kids:Int)=1)))=true then
     some (false,())
    else
     F.s_l10Args_L1 (List.length t0.Kids:Int) t0
 else
  F.s_l10Args_L1 (List.length t0.Kids:Int) t0
def mg(F:FsBuild)(t3:Int)(s16:bv):Option (Bool×Unit) :=
 F.s_l10Args_L2 t3 0 s16
def mh(F:FsBuild)(t3:Int)(t4:Int)(s16:bv):Option (Bool×Unit) :=
 if(decide (t4<t3))=true then
  if(0:Int)≤t4∧t4<(List.length s16.Kids:Int) then
   (F.s_l10Args (List.getD s16.Kids t4.toNat co)).bind fun(r0:Bool×Unit) =>
   if(!r0.1)=true then
    some (false,())
   else
    F.s_l10Args_L2 t3 (w64 (t4+1)) s16
  else none
 else
  some (true,())
def mr(F:FsBuild)(t0:bv):Option (Bool×Unit) :=
 if(decide (t0.Op=3))=true then
  (F.s_RexParse t0.S).bind fun(r0:bC×Bool×Unit) =>
  some (r0.2.1,())
 else
  if(decide (t0.Op=21))=true then
   if(0:Int)≤1∧(1:Int)<(List.length t0.Kids:Int) then
    if(!(decide (((List.getD t0.Kids 1 co).Op)=3)))=true then
     some (false,())
    else
     F.s_l10Rexes_L1 0 t0
   else none
  else
   F.s_l10Rexes_L1 0 t0
def mt(F:FsBuild)(t5:Int)(s16:bv):Option (Bool×Unit) :=
 if(decide (t5<(List.length s16.Kids:Int)))=true then
  if(0:Int)≤t5∧t5<(List.length s16.Kids:Int) then
   (F.s_l10Rexes (List.getD s16.Kids t5.toNat co)).bind fun(r0:Bool×Unit) =>
   if(!r0.1)=true then
    some (false,())
   else
    F.s_l10Rexes_L1 (w64 (t5+1)) s16
  else none
 else
  some (true,())
def ml(F:FsBuild)(t0:bv)(t1:(List (List Int)))(t2:(List (List Int))):Option ((List (List Int))×(List (List Int))×Unit) :=
 if(decide (t0.Op=4))=true then
  (F.s_l10Put t1 t0.S).bind fun(r0:(List (List Int))×Unit) =>
  F.s_l10Names_L1 r0.1 t2 t0
 else
  if(decide (t0.Op=5))=true then
   if(decide (t0.Op=5))=true then
    (F.s_l10Put t2 t0.S).bind fun(r1:(List (List Int))×Unit) =>
    F.s_l10Names_L1 t1 r1.1 t0
   else
    F.s_l10Names_L1 t1 t2 t0
  else
   if(decide (t0.Op=34))=true then
    (F.s_l10Put t2 t0.S).bind fun(r2:(List (List Int))×Unit) =>
    F.s_l10Names_L1 t1 r2.1 t0
   else
    F.s_l10Names_L1 t1 t2 t0
def mm(F:FsBuild)(t1:(List (List Int)))(t2:(List (List Int)))(s48:bv):Option ((List (List Int))×(List (List Int))×Unit) :=
 F.s_l10Names_L2 t1 t2 0 s48
def mn(F:FsBuild)(t1:(List (List Int)))(t2:(List (List Int)))(t8:Int)(s48:bv):Option ((List (List Int))×(List (List Int))×Unit) :=
 if(decide (t8<(List.length s48.Kids:Int)))=true then
  if(0:Int)≤t8∧t8<(List.length s48.Kids:Int) then
   (F.s_l10Names (List.getD s48.Kids t8.toNat co) t1 t2).bind fun(r0:(List (List Int))×(List (List Int))×Unit) =>
   F.s_l10Names_L2 r0.1 r0.2.1 (w64 (t8+1)) s48
  else none
 else
  some (t1,t2,())
def mQ(F:FsBuild)(s0_0:(List (List Int)))(s0_1:(List (List Int)))(s0_2:(List bw))(t1:bv):Option (((List (List Int))×((List (List Int))×((List bw)×Unit)))×Unit) :=
 if(decide (t1.Op=29))=true then
  (F.s_l14Block s0_0 s0_1 s0_2 t1).bind fun(r0:((List (List Int))×((List (List Int))×((List bw)×Unit)))×Unit) =>
  some ((r0.1.1,(r0.1.2.1,(r0.1.2.2.1,()))),())
 else
  if(decide (t1.Op=30))=true then
   (F.s_l14Print s0_0 s0_1 s0_2 t1).bind fun(r1:((List (List Int))×((List (List Int))×((List bw)×Unit)))×Unit) =>
   some ((r1.1.1,(r1.1.2.1,(r1.1.2.2.1,()))),())
  else
   if(decide (t1.Op=31))=true then
    (F.s_l14If s0_0 s0_1 s0_2 t1).bind fun(r2:((List (List Int))×((List (List Int))×((List bw)×Unit)))×Unit) =>
    some ((r2.1.1,(r2.1.2.1,(r2.1.2.2.1,()))),())
   else
    if(decide (t1.Op=32))=true then
     (F.s_l14While s0_0 s0_1 s0_2 t1).bind fun(r3:((List (List Int))×((List (List Int))×((List bw)×Unit)))×Unit) =>
     some ((r3.1.1,(r3.1.2.1,(r3.1.2.2.1,()))),())
    else
     if(decide (t1.Op=33))=true then
      (F.s_l14Put s0_0 s0_1 s0_2 36 0 []).bind fun(r4:Int×((List (List Int))×((List (List Int))×((List bw)×Unit)))×Unit) =>
      some ((r4.2.1.1,(r4.2.1.2.1,(r4.2.1.2.2.1,()))),())
     else
      if(decide (t1.Op=34))=true then
       if(0:Int)≤0∧(0:Int)<(List.length t1.Kids:Int) then
        (F.s_l14E s0_0 s0_1 s0_2 (List.getD t1.Kids 0 co)).bind fun(r5:((List (List Int))×((List (List Int))×((List bw)×Unit)))×Unit) =>
        (F.s_l12Where r5.1.2.1 t1.S).bind fun(r6:Int×Unit) =>
        (F.s_l14Put r5.1.1 r5.1.2.1 r5.1.2.2.1 35 r6.1 []).bind fun(r7:Int×((List (List Int))×((List (List Int))×((List bw)×Unit)))×Unit) =>
        some ((r7.2.1.1,(r7.2.1.2.1,(r7.2.1.2.2.1,()))),())
       else none
      else
       if(0:Int)≤0∧(0:Int)<(List.length t1.Kids:Int) then
        (F.s_l14E s0_0 s0_1 s0_2 (List.getD t1.Kids 0 co)).bind fun(r8:((List (List Int))×((List (List Int))×((List bw)×Unit)))×Unit) =>
        (F.s_l14Put r8.1.1 r8.1.2.1 r8.1.2.2.1 32 0 []).bind fun(r9:Int×((List (List Int))×((List (List Int))×((List bw)×Unit)))×Unit) =>
        some ((r9.2.1.1,(r9.2.1.2.1,(r9.2.1.2.2.1,()))),())
       else none
def mP(F:FsBuild)(s0_0:(List (List Int)))(s0_1:(List (List Int)))(s0_2:(List bw))(t1:bv):Option (((List (List Int))×((List (List Int))×((List bw)×Unit)))×Unit) :=
 if(0:Int)≤0∧(0:Int)<(List.length t1.Kids:Int) then
  (F.s_l1Bit (decide (t1.Op=27))).bind fun(r0:Int×Unit) =>
  if(decide (((List.getD t1.Kids 0 co).Op)=4))=true then
   if(0:Int)≤1∧(1:Int)<(List.length t1.Kids:Int) then
    (F.s_l14E s0_0 s0_1 s0_2 (List.getD t1.Kids 1 co)).bind fun(r1:((List (List Int))×((List (List Int))×((List bw)×Unit)))×Unit) =>
    (F.s_l12Where r1.1.1 ((List.getD t1.Kids 0 co).S)).bind fun(r2:Int×Unit) =>
    (F.s_l14Put r1.1.1 r1.1.2.1 r1.1.2.2.1 (w64 (4+r0.1)) r2.1 []).bind fun(r3:Int×((List (List Int))×((List (List Int))×((List bw)×Unit)))×Unit) =>
    some ((r3.2.1.1,(r3.2.1.2.1,(r3.2.1.2.2.1,()))),())
   else none
  else
   if(0:Int)≤0∧(0:Int)<(List.length ((List.getD t1.Kids 0 co).Kids):Int) then
    (F.s_l14E s0_0 s0_1 s0_2 (List.getD ((List.getD t1.Kids 0 co).Kids) 0 co)).bind fun(r4:((List (List Int))×((List (List Int))×((List bw)×Unit)))×Unit) =>
    if(0:Int)≤1∧(1:Int)<(List.length t1.Kids:Int) then
     (F.s_l14E r4.1.1 r4.1.2.1 r4.1.2.2.1 (List.getD t1.Kids 1 co)).bind fun(r5:((List (List Int))×((List (List Int))×((List bw)×Unit)))×Unit) =>
     (F.s_l12Where r5.1.2.1 ((List.getD t1.Kids 0 co).S)).bind fun(r6:Int×Unit) =>
     (F.s_l14Put r5.1.1 r5.1.2.1 r5.1.2.2.1 (w64 (7+r0.1)) r6.1 []).bind fun(r7:Int×((List (List Int))×((List (List Int))×((List bw)×Unit)))×Unit) =>
     some ((r7.2.1.1,(r7.2.1.2.1,(r7.2.1.2.2.1,()))),())
    else none
   else none
 else none
def mC(F:FsBuild)(s0_0:(List (List Int)))(s0_1:(List (List Int)))(s0_2:(List bw))(t1:bv):Option (((List (List Int))×((List (List Int))×((List bw)×Unit)))×Unit) :=
 if(0:Int)≤0∧(0:Int)<(List.length t1.Kids:Int) then
  (F.s_l14E s0_0 s0_1 s0_2 (List.getD t1.Kids 0 co)).bind fun(r0:((List (List Int))×((List (List Int))×((List bw)×Unit)))×Unit) =>
  (F.s_l14Put r0.1.1 r0.1.2.1 r0.1.2.2.1 31 0 []).bind fun(r1:Int×((List (List Int))×((List (List Int))×((List bw)×Unit)))×Unit) =>
  if(0:Int)≤1∧(1:Int)<(List.length t1.Kids:Int) then
   (F.s_l14E r1.2.1.1 r1.2.1.2.1 r1.2.1.2.2.1 (List.getD t1.Kids 1 co)).bind fun(r2:((List (List Int))×((List (List Int))×((List bw)×Unit)))×Unit) =>
   (F.s_l14Put r2.1.1 r2.1.2.1 r2.1.2.2.1 28 0 []).bind fun(r3:Int×((List (List Int))×((List (List Int))×((List bw)×Unit)))×Unit) =>
   (F.s_l14Put r3.2.1.1 r3.2.1.2.1 r3.2.1.2.2.1 30 0 []).bind fun(r4:Int×((List (List Int))×((List (List Int))×((List bw)×Unit)))×Unit) =>
   if(0:Int)≤r1.1∧r1.1<(List.length r4.2.1.2.2.1:Int) then
    let v0:(List bw):=(List.set r4.2.1.2.2.1 r1.1.toNat (bw.mk ((List.getD r4.2.1.2.2.1 r1.1.toNat dr).Code) (List.length r4.2.1.2.2.1:Int) ((List.getD r4.2.1.2.2.1 r1.1.toNat dr).S)))
    (F.s_l14Put r4.2.1.1 r4.2.1.2.1 v0 1 0 []).bind fun(r5:Int×((List (List Int))×((List (List Int))×((List bw)×Unit)))×Unit) =>
    if(0:Int)≤r4.1∧r4.1<(List.length r5.2.1.2.2.1:Int) then
     let v1:(List bw):=(List.set r5.2.1.2.2.1 r4.1.toNat (bw.mk ((List.getD r5.2.1.2.2.1 r4.1.toNat dr).Code) (List.length r5.2.1.2.2.1:Int) ((List.getD r5.2.1.2.2.1 r4.1.toNat dr).S)))
     some ((r5.2.1.1,(r5.2.1.2.1,(v1,()))),())
    else none
   else none
  else none
 else none
def mK(F:FsBuild)(s0_0:(List (List Int)))(s0_1:(List (List Int)))(s0_2:(List bw))(t1:bv):Option (((List (List Int))×((List (List Int))×((List bw)×Unit)))×Unit) :=
 if(0:Int)≤0∧(0:Int)<(List.length t1.Kids:Int) then
  (F.s_l14E s0_0 s0_1 s0_2 (List.getD t1.Kids 0 co)).bind fun(r0:((List (List Int))×((List (List Int))×((List bw)×Unit)))×Unit) =>
  (F.s_l14Put r0.1.1 r0.1.2.1 r0.1.2.2.1 31 0 []).bind fun(r1:Int×((List (List Int))×((List (List Int))×((List bw)×Unit)))×Unit) =>
  (F.s_l14Put r1.2.1.1 r1.2.1.2.1 r1.2.1.2.2.1 1 1000000 []).bind fun(r2:Int×((List (List Int))×((List (List Int))×((List bw)×Unit)))×Unit) =>
  (F.s_l14Put r2.2.1.1 r2.2.1.2.1 r2.2.1.2.2.1 30 0 []).bind fun(r3:Int×((List (List Int))×((List (List Int))×((List bw)×Unit)))×Unit) =>
  if(0:Int)≤r1.1∧r1.1<(List.length r3.2.1.2.2.1:Int) then
   let v0:(List bw):=(List.set r3.2.1.2.2.1 r1.1.toNat (bw.mk ((List.getD r3.2.1.2.2.1 r1.1.toNat dr).Code) (List.length r3.2.1.2.2.1:Int) ((List.getD r3.2.1.2.2.1 r1.1.toNat dr).S)))
   if(0:Int)≤1∧(1:Int)<(List.length t1.Kids:Int) then
    (F.s_l14E r3.2.1.1 r3.2.1.2.1 v0 (List.getD t1.Kids 1 co)).bind fun(r4:((List (List Int))×((List (List Int))×((List bw)×Unit)))×Unit) =>
    (F.s_l14Put r4.1.1 r4.1.2.1 r4.1.2.2.1 28 0 []).bind fun(r5:Int×((List (List Int))×((List (List Int))×((List bw)×Unit)))×Unit) =>
    if(0:Int)≤r3.1∧r3.1<(List.length r5.2.1.2.2.1:Int) then
     let v1:(List bw):=(List.set r5.2.1.2.2.1 r3.1.toNat (bw.mk ((List.getD r5.2.1.2.2.1 r3.1.toNat dr).Code) (List.length r5.2.1.2.2.1:Int) ((List.getD r5.2.1.2.2.1 r3.1.toNat dr).S)))
     some ((r5.2.1.1,(r5.2.1.2.1,(v1,()))),())
    else none
   else none
  else none
 else none
def mJ(F:FsBuild)(s0_0:(List (List Int)))(s0_1:(List (List Int)))(s0_2:(List bw))(t1:bv):Option (((List (List Int))×((List (List Int))×((List bw)×Unit)))×Unit) :=
 if(decide (t1.Op=1))=true then
  (F.s_l14Put s0_0 s0_1 s0_2 1 t1.N []).bind fun(r0:Int×((List (List Int))×((List (List Int))×((List bw)×Unit)))×Unit) =>
  some ((r0.2.1.1,(r0.2.1.2.1,(r0.2.1.2.2.1,()))),())
 else
  if(decide (t1.Op=2))=true then
   (F.s_l14Put s0_0 s0_1 s0_2 2 0 t1.S).bind fun(r1:Int×((List (List Int))×((List (List Int))×((List bw)×Unit)))×Unit) =>
   some ((r1.2.1.1,(r1.2.1.2.1,(r1.2.1.2.2.1,()))),())
  else
   if(decide (t1.Op=3))=true then
    (F.s_l14Put s0_0 s0_1 s0_2 25 0 t1.S).bind fun(r2:Int×((List (List Int))×((List (List Int))×((List bw)×Unit)))×Unit) =>
    some ((r2.2.1.1,(r2.2.1.2.1,(r2.2.1.2.2.1,()))),())
   else
    if(decide (t1.Op=4))=true then
     (F.s_l12Where s0_0 t1.S).bind fun(r3:Int×Unit) =>
     (F.s_l14Put s0_0 s0_1 s0_2 3 r3.1 []).bind fun(r4:Int×((List (List Int))×((List (List Int))×((List bw)×Unit)))×Unit) =>
     some ((r4.2.1.1,(r4.2.1.2.1,(r4.2.1.2.2.1,()))),())
    else
     if(decide (t1.Op=5))=true then
      (F.s_l12Where s0_1 t1.S).bind fun(r5:Int×Unit) =>
      (F.s_l14Put s0_0 s0_1 s0_2 6 r5.1 []).bind fun(r6:Int×((List (List Int))×((List (List Int))×((List bw)×Unit)))×Unit) =>
      some ((r6.2.1.1,(r6.2.1.2.1,(r6.2.1.2.2.1,()))),())
     else
      if(decide (t1.Op=6))=true then
       (F.s_l14Put s0_0 s0_1 s0_2 9 0 []).bind fun(r7:Int×((List (List Int))×((List (List Int))×((List bw)×Unit)))×Unit) =>
       some ((r7.2.1.1,(r7.2.1.2.1,(r7.2.1.2.2.1,()))),())
      else
       if(decide (t1.Op=7))=true then
        (F.s_l14Put s0_0 s0_1 s0_2 10 0 []).bind fun(r8:Int×((List (List Int))×((List (List Int))×((List bw)×Unit)))×Unit) =>
        some ((r8.2.1.1,(r8.2.1.2.1,(r8.2.1.2.2.1,()))),())
       else
        if(decide (t1.Op=8))=true then
         (F.s_l14Put s0_0 s0_1 s0_2 11 0 []).bind fun(r9:Int×((List (List Int))×((List (List Int))×((List bw)×Unit)))×Unit) =>
         some ((r9.2.1.1,(r9.2.1.2.1,(r9.2.1.2.2.1,()))),())
        else
         if(decide (t1.Op=22))=true then
          (F.s_l14Put s0_0 s0_1 s0_2 26 0 []).bind fun(r10:Int×((List (List Int))×((List (List Int))×((List bw)×Unit)))×Unit) =>
          some ((r10.2.1.1,(r10.2.1.2.1,(r10.2.1.2.2.1,()))),())
         else
          if(decide (t1.Op=23))=true then
           (F.s_l14Put s0_0 s0_1 s0_2 27 0 []).bind fun(r11:Int×((List (List Int))×((List (List Int))×((List bw)×Unit)))×Unit) =>
           some ((r11.2.1.1,(r11.2.1.2.1,(r11.2.1.2.2.1,()))),())
          else
           if(decide (t1.Op=28))=true then
            (F.s_l14Put s0_0 s0_1 s0_2 29 (List.length t1.Kids:Int) t1.S).bind fun(r12:Int×((List (List Int))×((List (List Int))×((List bw)×Unit)))×Unit) =>
            some ((r12.2.1.1,(r12.2.1.2.1,(r12.2.1.2.2.1,()))),())
           else
            (F.s_l14Put s0_0 s0_1 s0_2 (w64 ((w64 (12+t1.Op))-9)) 0 []).bind fun(r13:Int×((List (List Int))×((List (List Int))×((List bw)×Unit)))×Unit) =>
            some ((r13.2.1.1,(r13.2.1.2.1,(r13.2.1.2.2.1,()))),())
def nL(F:FsBuild) :Option ((List (List Int))×Unit) :=
 some ([[108,101,110,103,116,104],[115,117,98,115,116,114],[105,110,100,101,120],[105,110,116],[117,112,112,101,114],[108,111,119,101,114]],())
def lP(F:FsBuild)(t0:Int):Option (Bool×Unit) :=
 (F.s_l1In t0 (-9000000000000) 9000000000000).bind fun(r0:Bool×Unit) =>
 some (r0.1,())
def l9(F:FsBuild)(t0:(List Int)):Option (bC×Bool×Unit) :=
 if(decide ((List.length t0:Int)>60))=true then
  some ((bC.mk 0 0 [] false []),false,())
 else
  (F.s_l3Pattern (bN.mk t0 0 false) 0).bind fun(r0:bC×bN×Unit) =>
  if r0.2.1.bad=true then
   some ((bC.mk 0 0 [] false []),false,())
  else
   if(!(decide (r0.2.1.at_=(List.length t0:Int))))=true then
    some ((bC.mk 0 0 [] false []),false,())
   else
    (F.s_l3Deep r0.1).bind fun(r1:Int×Unit) =>
    if(decide (r1.1>12))=true then
     some ((bC.mk 0 0 [] false []),false,())
    else
     some (r0.1,true,())
def mV(F:FsBuild)(t0:Int):Option (Bool×Unit) :=
 if(decide (t0≥48))=true then
  some ((decide (t0≤57)),())
 else
  some (false,())
def nN(F:FsBuild)(t0:(List Int))(t1:Int):Option (Int×Int×Bool×Unit) :=
 F.s_l7Number_L1 t0 t1 t1
def nO(F:FsBuild)(t0:(List Int))(t1:Int)(t7:Int):Option (Int×Int×Bool×Unit) :=
 if(decide (t7<(List.length t0:Int)))=true then
  if(0:Int)≤t7∧t7<(List.length t0:Int) then
   (F.s_l2Digit (List.getD t0 t7.toNat 0)).bind fun(r0:Bool×Unit) =>
   if r0.1=true then
    F.s_l7Number_L1 t0 t1 (w64 (t7+1))
   else
    if(decide ((w64 (t7+1))<(List.length t0:Int)))=true then
     if(0:Int)≤t7∧t7<(List.length t0:Int) then
      if(decide ((List.getD t0 t7.toNat 0)=46))=true then
       if(0:Int)≤(w64 (t7+1))∧(w64 (t7+1))<(List.length t0:Int) then
        (F.s_l2Digit (List.getD t0 (w64 (t7+1)).toNat 0)).bind fun(r1:Bool×Unit) =>
        if r1.1=true then
         F.s_l7Number_L2 t0 t1 (w64 (t7+1)) t7
        else
         F.s_l7Number_L3 t0 t1 t7
       else none
      else
       F.s_l7Number_L3 t0 t1 t7
     else none
    else
     F.s_l7Number_L3 t0 t1 t7
  else none
 else
  if(decide ((w64 (t7+1))<(List.length t0:Int)))=true then
   if(0:Int)≤t7∧t7<(List.length t0:Int) then
    if(decide ((List.getD t0 t7.toNat 0)=46))=true then
     if(0:Int)≤(w64 (t7+1))∧(w64 (t7+1))<(List.length t0:Int) then
      (F.s_l2Digit (List.getD t0 (w64 (t7+1)).toNat 0)).bind fun(r2:Bool×Unit) =>
      if r2.1=true then
       F.s_l7Number_L2 t0 t1 (w64 (t7+1)) t7
      else
       F.s_l7Number_L3 t0 t1 t7
     else none
    else
     F.s_l7Number_L3 t0 t1 t7
   else none
  else
   F.s_l7Number_L3 t0 t1 t7
def nP(F:FsBuild)(t0:(List Int))(t1:Int)(t7:Int)(t8:Int):Option (Int×Int×Bool×Unit) :=
 if(decide (t7<(List.length t0:Int)))=true then
  if(0:Int)≤t7∧t7<(List.length t0:Int) then
   (F.s_l2Digit (List.getD t0 t7.toNat 0)).bind fun(r0:Bool×Unit) =>
   if r0.1=true then
    F.s_l7Number_L2 t0 t1 (w64 (t7+1)) t8
   else
    if(decide ((w64 (t7-t8))>7))=true then
     some (0,t7,false,())
    else
     F.s_l7Number_L3 t0 t1 t7
  else none
 else
  if(decide ((w64 (t7-t8))>7))=true then
   some (0,t7,false,())
  else
   F.s_l7Number_L3 t0 t1 t7
def nQ(F:FsBuild)(t0:(List Int))(t1:Int)(t7:Int):Option (Int×Int×Bool×Unit) :=
 if(0:Int)≤t1∧t1≤t7∧t7≤(List.length t0:Int) then
  (F.s_DecFront (List.take (t7.toNat-t1.toNat) (List.drop t1.toNat t0))).bind fun(r0:Int×Int×Unit) =>
  some (r0.1,t7,(decide (r0.2.1=(w64 (t7-t1)))),())
 else none
def nX(F:FsBuild)(t0:(List Int))(t1:Int):Option ((List Int)×Int×Bool×Unit) :=
 F.s_l7Text_L1 t0 [] (w64 (t1+1))
def nY(F:FsBuild)(t0:(List Int))(t7:(List Int))(t8:Int):Option ((List Int)×Int×Bool×Unit) :=
 if(decide (t8<(List.length t0:Int)))=true then
  if(0:Int)≤t8∧t8<(List.length t0:Int) then
   if(decide ((List.getD t0 t8.toNat 0)=34))=true then
    some (t7,(w64 (t8+1)),true,())
   else
    if(decide ((List.getD t0 t8.toNat 0)=10))=true then
     some ([],0,false,())
    else
     if(decide ((List.getD t0 t8.toNat 0)=92))=true then
      if(decide ((w64 (t8+1))≥(List.length t0:Int)))=true then
       some ([],0,false,())
      else
       if(0:Int)≤(w64 (t8+1))∧(w64 (t8+1))<(List.length t0:Int) then
        if(decide ((List.getD t0 (w64 (t8+1)).toNat 0)=10))=true then
         some ([],0,false,())
        else
         if(0:Int)≤(w64 (t8+1))∧(w64 (t8+1))<(List.length t0:Int) then
          if List.length t7+1≤room then
           F.s_l7Text_L1 t0 (List.append t7 [(List.getD t0 (w64 (t8+1)).toNat 0)]) (w64 ((w64 (t8+1))+1))
          else none
         else none
       else none
     else
      if(0:Int)≤t8∧t8<(List.length t0:Int) then
       if List.length t7+1≤room then
        F.s_l7Text_L1 t0 (List.append t7 [(List.getD t0 t8.toNat 0)]) (w64 (t8+1))
       else none
      else none
  else none
 else
  some ([],0,false,())
def nK(F:FsBuild)(t0:(List bF)):Option (Bool×Unit) :=
 if(decide ((List.length t0:Int)=0))=true then
  some (false,())
 else
  if(0:Int)≤(w64 ((List.length t0:Int)-1))∧(w64 ((List.length t0:Int)-1))<(List.length t0:Int) then
   if(decide (((List.getD t0 (w64 ((List.length t0:Int)-1)).toNat iy).Kind)=5))=true then
    if(decide (((List.getD t0 (w64 ((List.length t0:Int)-1)).toNat iy).Text)=[41]))=true then
     some (true,())
    else
     if(decide (((List.getD t0 (w64 ((List.length t0:Int)-1)).toNat iy).Text)=[93]))=true then
      some (true,())
     else
      (F.s_l1In ((List.getD t0 (w64 ((List.length t0:Int)-1)).toNat iy).Kind) 1 4).bind fun(r0:Bool×Unit) =>
      some (r0.1,())
   else
    (F.s_l1In ((List.getD t0 (w64 ((List.length t0:Int)-1)).toNat iy).Kind) 1 4).bind fun(r1:Bool×Unit) =>
    some (r1.1,())
  else none
def nT(F:FsBuild)(t0:(List Int))(t1:Int):Option ((List Int)×Int×Bool×Unit) :=
 F.s_l7Rex_L1 t0 [] (w64 (t1+1))
def nU(F:FsBuild)(t0:(List Int))(t7:(List Int))(t8:Int):Option ((List Int)×Int×Bool×Unit) :=
 if(decide (t8<(List.length t0:Int)))=true then
  if(0:Int)≤t8∧t8<(List.length t0:Int) then
   if(decide ((List.getD t0 t8.toNat 0)=47))=true then
    some (t7,(w64 (t8+1)),true,())
   else
    if(decide ((List.getD t0 t8.toNat 0)=10))=true then
     some ([],0,false,())
    else
     if(decide ((List.getD t0 t8.toNat 0)=92))=true then
      if(decide ((w64 (t8+1))≥(List.length t0:Int)))=true then
       some ([],0,false,())
      else
       if(0:Int)≤(w64 (t8+1))∧(w64 (t8+1))<(List.length t0:Int) then
        if(decide ((List.getD t0 (w64 (t8+1)).toNat 0)=10))=true then
         some ([],0,false,())
        else
         if(0:Int)≤(w64 (t8+1))∧(w64 (t8+1))<(List.length t0:Int) then
          if(!(decide ((List.getD t0 (w64 (t8+1)).toNat 0)=47)))=true then
           if(0:Int)≤t8∧t8<(List.length t0:Int) then
            if List.length t7+1≤room then
             if(0:Int)≤(w64 (t8+1))∧(w64 (t8+1))<(List.length t0:Int) then
              if List.length (List.append t7 [(List.getD t0 t8.toNat 0)])+1≤room then
               F.s_l7Rex_L1 t0 (List.append (List.append t7 [(List.getD t0 t8.toNat 0)]) [(List.getD t0 (w64 (t8+1)).toNat 0)]) (w64 ((w64 (t8+1))+1))
              else none
             else none
            else none
           else none
          else
           if(0:Int)≤(w64 (t8+1))∧(w64 (t8+1))<(List.length t0:Int) then
            if List.length t7+1≤room then
             F.s_l7Rex_L1 t0 (List.append t7 [(List.getD t0 (w64 (t8+1)).toNat 0)]) (w64 ((w64 (t8+1))+1))
            else none
           else none
         else none
       else none
     else
      if(0:Int)≤t8∧t8<(List.length t0:Int) then
       if List.length t7+1≤room then
        F.s_l7Rex_L1 t0 (List.append t7 [(List.getD t0 t8.toNat 0)]) (w64 (t8+1))
       else none
      else none
  else none
 else
  some ([],0,false,())
def nV(F:FsBuild)(t0:(List Int))(t1:Int):Option ((List Int)×Unit) :=
 F.s_l7Sign_L1 t0 t1 [[61,61],[33,61],[60,61],[62,61],[38,38],[124,124],[43,61],[33,126],[40],[41],[123],[125],[91],[93],[44],[59],[61],[60],[62],[33],[126],[43],[45],[42],[47],[37],[36]] 0
def nW(F:FsBuild)(t0:(List Int))(t1:Int)(t5:(List (List Int)))(t6:Int):Option ((List Int)×Unit) :=
 if(decide (t6<(List.length t5:Int)))=true then
  if(0:Int)≤t6∧t6<(List.length t5:Int) then
   if(decide ((w64 (t1+(List.length (List.getD t5 t6.toNat []):Int)))≤(List.length t0:Int)))=true then
    if(0:Int)≤t1∧t1≤(w64 (t1+(List.length (List.getD t5 t6.toNat []):Int)))∧(w64 (t1+(List.length (List.getD t5 t6.toNat []):Int)))≤(List.length t0:Int) then
     if(0:Int)≤t6∧t6<(List.length t5:Int) then
      if(decide ((List.take ((w64 (t1+(List.length (List.getD t5 t6.toNat []):Int))).toNat-t1.toNat) (List.drop t1.toNat t0))=(List.getD t5 t6.toNat [])))=true then
       if(0:Int)≤t6∧t6<(List.length t5:Int) then
        some ((List.getD t5 t6.toNat []),())
       else none
      else
       F.s_l7Sign_L1 t0 t1 t5 (w64 (t6+1))
     else none
    else none
   else
    F.s_l7Sign_L1 t0 t1 t5 (w64 (t6+1))
  else none
 else
  some ([],())
def oI(F:FsBuild)(s0:bO)(t1:(List Int)):Option (bO×Unit) :=
 (F.s_l8Sign s0 t1).bind fun(r0:Bool×bO×Unit) =>
 if(!r0.1)=true then
  (F.s_l8Bad r0.2.1).bind fun(r1:bO×Unit) =>
  some (r1.1,())
 else
  (F.s_l8Next r0.2.1).bind fun(r2:bO×Unit) =>
  some (r2.1,())
def oH(F:FsBuild)(s0:bO):Option (bv×bO×Unit) :=
 (F.s_l8Is s0 [105,102]).bind fun(r0:Bool×bO×Unit) =>
 if r0.1=true then
  (F.s_l8While r0.2.1 31).bind fun(r1:bv×bO×Unit) =>
  some (r1.1,r1.2.1,())
 else
  (F.s_l8Is r0.2.1 [119,104,105,108,101]).bind fun(r2:Bool×bO×Unit) =>
  if r2.1=true then
   (F.s_l8While r2.2.1 32).bind fun(r3:bv×bO×Unit) =>
   some (r3.1,r3.2.1,())
  else
   (F.s_l8Sign r2.2.1 [123]).bind fun(r4:Bool×bO×Unit) =>
   if r4.1=true then
    (F.s_l8Block r4.2.1).bind fun(r5:bv×bO×Unit) =>
    some (r5.1,r5.2.1,())
   else
    (F.s_l8Simple r4.2.1).bind fun(r6:bv×bO×Unit) =>
    (F.s_l8Sign r6.2.1 [125]).bind fun(r7:Bool×bO×Unit) =>
    if(!r7.1)=true then
     (F.s_l8Take r7.2.1 [59]).bind fun(r8:bO×Unit) =>
     some (r6.1,r8.1,())
    else
     some (r6.1,r7.2.1,())
def oy(F:FsBuild)(s0:bO):Option (bv×bO×Unit) :=
 (F.s_l8Now s0).bind fun(r0:bF×bO×Unit) =>
 (F.s_l8Is r0.2.1 [78,82]).bind fun(r1:Bool×bO×Unit) =>
 if r1.1=true then
  (F.s_l8Next r1.2.1).bind fun(r2:bO×Unit) =>
  some ((bv.mk 7 0 [] []),r2.1,())
 else
  (F.s_l8Is r1.2.1 [78,70]).bind fun(r3:Bool×bO×Unit) =>
  if r3.1=true then
   (F.s_l8Next r3.2.1).bind fun(r4:bO×Unit) =>
   some ((bv.mk 8 0 [] []),r4.1,())
  else
   if(decide (r3.2.1.bad<0))=true then
    (F.s_l7Calls ).bind fun(r5:(List (List Int))×Unit) =>
    (F.s_l7Within r5.1 r0.1.Text).bind fun(r6:Bool×Unit) =>
    if r6.1=true then
     (F.s_l8Next r3.2.1).bind fun(r7:bO×Unit) =>
     (F.s_l8Take r7.1 [40]).bind fun(r8:bO×Unit) =>
     (F.s_l8Es r8.1 [41]).bind fun(r9:(List bv)×bO×Unit) =>
     (F.s_l8Take r9.2.1 [41]).bind fun(r10:bO×Unit) =>
     some ((bv.mk 28 0 r0.1.Text r9.1),r10.1,())
    else
     (F.s_l8Name r3.2.1).bind fun(r11:(List Int)×bO×Unit) =>
     (F.s_l8Sign r11.2.1 [91]).bind fun(r12:Bool×bO×Unit) =>
     if(!r12.1)=true then
      some ((bv.mk 4 0 r11.1 []),r12.2.1,())
     else
      (F.s_l8Next r12.2.1).bind fun(r13:bO×Unit) =>
      (F.s_l8E r13.1).bind fun(r14:bv×bO×Unit) =>
      (F.s_l8Take r14.2.1 [93]).bind fun(r15:bO×Unit) =>
      some ((bv.mk 5 0 r11.1 [r14.1]),r15.1,())
   else
    (F.s_l8Name r3.2.1).bind fun(r16:(List Int)×bO×Unit) =>
    (F.s_l8Sign r16.2.1 [91]).bind fun(r17:Bool×bO×Unit) =>
    if(!r17.1)=true then
     some ((bv.mk 4 0 r16.1 []),r17.2.1,())
    else
     (F.s_l8Next r17.2.1).bind fun(r18:bO×Unit) =>
     (F.s_l8E r18.1).bind fun(r19:bv×bO×Unit) =>
     (F.s_l8Take r19.2.1 [93]).bind fun(r20:bO×Unit) =>
     some ((bv.mk 5 0 r16.1 [r19.1]),r20.1,())
def ow(F:FsBuild)(s0:bO)(t1:Int):Option (bv×bO×Unit) :=
 if(decide (t1=3))=true then
  (F.s_l8Compare s0).bind fun(r0:bv×bO×Unit) =>
  some (r0.1,r0.2.1,())
 else
  if(decide (t1=4))=true then
   (F.s_l8Row s0).bind fun(r1:bv×bO×Unit) =>
   some (r1.1,r1.2.1,())
  else
   if(decide (t1=7))=true then
    (F.s_l8Unit s0).bind fun(r2:bv×bO×Unit) =>
    some (r2.1,r2.2.1,())
   else
    (F.s_l8Left s0 t1).bind fun(r3:bv×bO×Unit) =>
    some (r3.1,r3.2.1,())
def o0(F:FsBuild)(t0:bv):Option (Bool×Unit) :=
 (F.s_l9Kids t0).bind fun(r0:Bool×Unit) =>
 if(!r0.1)=true then
  some (false,())
 else
  (F.s_l1In t0.Op 1 35).bind fun(r1:Bool×Unit) =>
  if(!r1.1)=true then
   some (false,())
  else
   if(!(decide (t0.N=0)))=true then
    if(!(decide (t0.Op=1)))=true then
     some (false,())
    else
     if(decide (t0.Op=1))=true then
      if(decide (t0.S=[]))=true then
       (F.s_l1In t0.N 0 9000000000000).bind fun(r2:Bool×Unit) =>
       some (r2.1,())
      else
       some (false,())
     else
      if(decide (t0.Op=2))=true then
       (F.s_l9Line t0.S).bind fun(r3:Bool×Unit) =>
       some (r3.1,())
      else
       if(decide (t0.Op=3))=true then
        (F.s_l9Rex t0.S).bind fun(r4:Bool×Unit) =>
        some (r4.1,())
       else
        if(decide (t0.Op=4))=true then
         F.s_l9Node_L1 t0.Op (decide (t0.Op=4)) t0
        else
         if(decide (t0.Op=5))=true then
          F.s_l9Node_L1 t0.Op (decide (t0.Op=5)) t0
         else
          F.s_l9Node_L1 t0.Op (decide (t0.Op=34)) t0
   else
    if(decide (t0.Op=1))=true then
     if(decide (t0.S=[]))=true then
      (F.s_l1In t0.N 0 9000000000000).bind fun(r5:Bool×Unit) =>
      some (r5.1,())
     else
      some (false,())
    else
     if(decide (t0.Op=2))=true then
      (F.s_l9Line t0.S).bind fun(r6:Bool×Unit) =>
      some (r6.1,())
     else
      if(decide (t0.Op=3))=true then
       (F.s_l9Rex t0.S).bind fun(r7:Bool×Unit) =>
       some (r7.1,())
      else
       if(decide (t0.Op=4))=true then
        F.s_l9Node_L1 t0.Op (decide (t0.Op=4)) t0
       else
        if(decide (t0.Op=5))=true then
         F.s_l9Node_L1 t0.Op (decide (t0.Op=5)) t0
        else
         F.s_l9Node_L1 t0.Op (decide (t0.Op=34)) t0
def o3(F:FsBuild)(t23:Int)(t44:Bool)(s16:bv):Option (Bool×Unit) :=
 if t44=true then
  (F.s_l9Name s16.S).bind fun(r0:Bool×Unit) =>
  some (r0.1,())
 else
  if(decide (t23=28))=true then
   (F.s_l7Calls ).bind fun(r1:(List (List Int))×Unit) =>
   (F.s_l7Within r1.1 s16.S).bind fun(r2:Bool×Unit) =>
   some (r2.1,())
  else
   some ((decide (s16.S=[])),())
def oP(F:FsBuild)(t0:Int):Option (Bool×Unit) :=
 (F.s_l1In t0 1 28).bind fun(r0:Bool×Unit) =>
 some (r0.1,())
def mp(F:FsBuild)(t0:(List (List Int)))(t1:(List Int)):Option ((List (List Int))×Unit) :=
 (F.s_l7Within t0 t1).bind fun(r0:Bool×Unit) =>
 if r0.1=true then
  some (t0,())
 else
  F.s_l10Put_L1 t0 t1 0
def mq(F:FsBuild)(t0:(List (List Int)))(t1:(List Int))(t5:Int):Option ((List (List Int))×Unit) :=
 if(decide (t5<(List.length t0:Int)))=true then
  if(0:Int)≤t5∧t5<(List.length t0:Int) then
   if(ltS (List.getD t0 t5.toNat []) t1)=true then
    F.s_l10Put_L1 t0 t1 (w64 (t5+1))
   else
    if(0:Int)≤t5∧t5≤(List.length t0:Int) then
     if 0+List.length (List.take (t5.toNat-0) (List.drop 0 t0))≤room then
      if List.length (List.append [] (List.take (t5.toNat-0) (List.drop 0 t0)))+1≤room then
       if(0:Int)≤t5∧t5≤(List.length t0:Int) then
        if List.length (List.append (List.append [] (List.take (t5.toNat-0) (List.drop 0 t0))) [t1])+List.length (List.take ((List.length t0)-t5.toNat) (List.drop t5.toNat t0))≤room then
         some ((List.append (List.append (List.append [] (List.take (t5.toNat-0) (List.drop 0 t0))) [t1]) (List.take ((List.length t0)-t5.toNat) (List.drop t5.toNat t0))),())
        else none
       else none
      else none
     else none
    else none
  else none
 else
  if(0:Int)≤t5∧t5≤(List.length t0:Int) then
   if 0+List.length (List.take (t5.toNat-0) (List.drop 0 t0))≤room then
    if List.length (List.append [] (List.take (t5.toNat-0) (List.drop 0 t0)))+1≤room then
     if(0:Int)≤t5∧t5≤(List.length t0:Int) then
      if List.length (List.append (List.append [] (List.take (t5.toNat-0) (List.drop 0 t0))) [t1])+List.length (List.take ((List.length t0)-t5.toNat) (List.drop t5.toNat t0))≤room then
       some ((List.append (List.append (List.append [] (List.take (t5.toNat-0) (List.drop 0 t0))) [t1]) (List.take ((List.length t0)-t5.toNat) (List.drop t5.toNat t0))),())
      else none
     else none
    else none
   else none
  else none
def mL(F:FsBuild)(s0_0:(List (List Int)))(s0_1:(List (List Int)))(s0_2:(List bw))(t1:bv):Option (((List (List Int))×((List (List Int))×((List bw)×Unit)))×Unit) :=
 if(decide ((List.length t1.Kids:Int)=0))=true then
  (F.s_l14Put s0_0 s0_1 s0_2 1 0 []).bind fun(r0:Int×((List (List Int))×((List (List Int))×((List bw)×Unit)))×Unit) =>
  (F.s_l14Put r0.2.1.1 r0.2.1.2.1 r0.2.1.2.2.1 9 0 []).bind fun(r1:Int×((List (List Int))×((List (List Int))×((List bw)×Unit)))×Unit) =>
  (F.s_l14Put r1.2.1.1 r1.2.1.2.1 r1.2.1.2.2.1 33 0 []).bind fun(r2:Int×((List (List Int))×((List (List Int))×((List bw)×Unit)))×Unit) =>
  F.s_l14Print_L1 r2.2.1.1 r2.2.1.2.1 r2.2.1.2.2.1 t1
 else
  F.s_l14Print_L1 s0_0 s0_1 s0_2 t1
def mM(F:FsBuild)(s0_0:(List (List Int)))(s0_1:(List (List Int)))(s0_2:(List bw))(s48:bv):Option (((List (List Int))×((List (List Int))×((List bw)×Unit)))×Unit) :=
 F.s_l14Print_L2 0 s0_0 s0_1 s0_2 s48
def mN(F:FsBuild)(t4:Int)(s0_0:(List (List Int)))(s0_1:(List (List Int)))(s0_2:(List bw))(s48:bv):Option (((List (List Int))×((List (List Int))×((List bw)×Unit)))×Unit) :=
 if(decide (t4<(List.length s48.Kids:Int)))=true then
  if(0:Int)≤t4∧t4<(List.length s48.Kids:Int) then
   (F.s_l14E s0_0 s0_1 s0_2 (List.getD s48.Kids t4.toNat co)).bind fun(r0:((List (List Int))×((List (List Int))×((List bw)×Unit)))×Unit) =>
   (F.s_l1Bit (decide (t4>0))).bind fun(r1:Int×Unit) =>
   (F.s_l14Put r0.1.1 r0.1.2.1 r0.1.2.2.1 33 r1.1 []).bind fun(r2:Int×((List (List Int))×((List (List Int))×((List bw)×Unit)))×Unit) =>
   F.s_l14Print_L2 (w64 (t4+1)) r2.2.1.1 r2.2.1.2.1 r2.2.1.2.2.1 s48
  else none
 else
  (F.s_l14Put s0_0 s0_1 s0_2 34 0 []).bind fun(r3:Int×((List (List Int))×((List (List Int))×((List bw)×Unit)))×Unit) =>
  some ((r3.2.1.1,(r3.2.1.2.1,(r3.2.1.2.2.1,()))),())
def mI(F:FsBuild)(s0_0:(List (List Int)))(s0_1:(List (List Int)))(s0_2:(List bw))(t1:bv):Option (((List (List Int))×((List (List Int))×((List bw)×Unit)))×Unit) :=
 if(0:Int)≤0∧(0:Int)<(List.length t1.Kids:Int) then
  (F.s_l14E s0_0 s0_1 s0_2 (List.getD t1.Kids 0 co)).bind fun(r0:((List (List Int))×((List (List Int))×((List bw)×Unit)))×Unit) =>
  (F.s_l14Put r0.1.1 r0.1.2.1 r0.1.2.2.1 31 0 []).bind fun(r1:Int×((List (List Int))×((List (List Int))×((List bw)×Unit)))×Unit) =>
  if(0:Int)≤1∧(1:Int)<(List.length t1.Kids:Int) then
   (F.s_l14Block r1.2.1.1 r1.2.1.2.1 r1.2.1.2.2.1 (List.getD t1.Kids 1 co)).bind fun(r2:((List (List Int))×((List (List Int))×((List bw)×Unit)))×Unit) =>
   if(decide ((List.length t1.Kids:Int)=3))=true then
    (F.s_l14Put r2.1.1 r2.1.2.1 r2.1.2.2.1 30 0 []).bind fun(r3:Int×((List (List Int))×((List (List Int))×((List bw)×Unit)))×Unit) =>
    if(0:Int)≤r1.1∧r1.1<(List.length r3.2.1.2.2.1:Int) then
     let v0:(List bw):=(List.set r3.2.1.2.2.1 r1.1.toNat (bw.mk ((List.getD r3.2.1.2.2.1 r1.1.toNat dr).Code) (List.length r3.2.1.2.2.1:Int) ((List.getD r3.2.1.2.2.1 r1.1.toNat dr).S)))
     if(0:Int)≤2∧(2:Int)<(List.length t1.Kids:Int) then
      (F.s_l14Block r3.2.1.1 r3.2.1.2.1 v0 (List.getD t1.Kids 2 co)).bind fun(r4:((List (List Int))×((List (List Int))×((List bw)×Unit)))×Unit) =>
      if(0:Int)≤r3.1∧r3.1<(List.length r4.1.2.2.1:Int) then
       let v1:(List bw):=(List.set r4.1.2.2.1 r3.1.toNat (bw.mk ((List.getD r4.1.2.2.1 r3.1.toNat dr).Code) (List.length r4.1.2.2.1:Int) ((List.getD r4.1.2.2.1 r3.1.toNat dr).S)))
       some ((r4.1.1,(r4.1.2.1,(v1,()))),())
      else none
     else none
    else none
   else
    if(0:Int)≤r1.1∧r1.1<(List.length r2.1.2.2.1:Int) then
     let v2:(List bw):=(List.set r2.1.2.2.1 r1.1.toNat (bw.mk ((List.getD r2.1.2.2.1 r1.1.toNat dr).Code) (List.length r2.1.2.2.1:Int) ((List.getD r2.1.2.2.1 r1.1.toNat dr).S)))
     some ((r2.1.1,(r2.1.2.1,(v2,()))),())
    else none
  else none
 else none
def mR(F:FsBuild)(s0_0:(List (List Int)))(s0_1:(List (List Int)))(s0_2:(List bw))(t1:bv):Option (((List (List Int))×((List (List Int))×((List bw)×Unit)))×Unit) :=
 if(0:Int)≤0∧(0:Int)<(List.length t1.Kids:Int) then
  (F.s_l14E s0_0 s0_1 s0_2 (List.getD t1.Kids 0 co)).bind fun(r0:((List (List Int))×((List (List Int))×((List bw)×Unit)))×Unit) =>
  (F.s_l14Put r0.1.1 r0.1.2.1 r0.1.2.2.1 31 0 []).bind fun(r1:Int×((List (List Int))×((List (List Int))×((List bw)×Unit)))×Unit) =>
  if(0:Int)≤1∧(1:Int)<(List.length t1.Kids:Int) then
   (F.s_l14Block r1.2.1.1 r1.2.1.2.1 r1.2.1.2.2.1 (List.getD t1.Kids 1 co)).bind fun(r2:((List (List Int))×((List (List Int))×((List bw)×Unit)))×Unit) =>
   (F.s_l14Put r2.1.1 r2.1.2.1 r2.1.2.2.1 30 (List.length s0_2:Int) []).bind fun(r3:Int×((List (List Int))×((List (List Int))×((List bw)×Unit)))×Unit) =>
   if(0:Int)≤r1.1∧r1.1<(List.length r3.2.1.2.2.1:Int) then
    let v0:(List bw):=(List.set r3.2.1.2.2.1 r1.1.toNat (bw.mk ((List.getD r3.2.1.2.2.1 r1.1.toNat dr).Code) (List.length r3.2.1.2.2.1:Int) ((List.getD r3.2.1.2.2.1 r1.1.toNat dr).S)))
    some ((r3.2.1.1,(r3.2.1.2.1,(v0,()))),())
   else none
  else none
 else none
def mu(F:FsBuild)(t0:(List (List Int)))(t1:(List Int)):Option (Int×Unit) :=
 F.s_l12Where_L1 t0 t1 0
def mv(F:FsBuild)(t0:(List (List Int)))(t1:(List Int))(t5:Int):Option (Int×Unit) :=
 if(decide (t5<(List.length t0:Int)))=true then
  if(0:Int)≤t5∧t5<(List.length t0:Int) then
   if(decide ((List.getD t0 t5.toNat [])=t1))=true then
    some (t5,())
   else
    F.s_l12Where_L1 t0 t1 (w64 (t5+1))
  else none
 else
  some (0,())
def mS(F:FsBuild)(t0:Bool):Option (Int×Unit) :=
 if t0=true then
  some (1,())
 else
  some (0,())
def na(F:FsBuild)(s0:bN)(t1:Int):Option (bC×bN×Unit) :=
 (F.s_l3Part s0 t1).bind fun(r0:bC×bN×Unit) =>
 F.s_l3Pattern_L1 t1 [r0.1] r0.2.1 dh
def nb(F:FsBuild)(t1:Int)(t5:(List bC))(s0:bN)(s64:bC):Option (bC×bN×Unit) :=
 (F.s_l3Now s0 124).bind fun(r0:Bool×bN×Unit) =>
 if r0.1=true then
  (F.s_l3Part (bN.mk r0.2.1.s (w64 (r0.2.1.at_+1)) r0.2.1.bad) t1).bind fun(r1:bC×bN×Unit) =>
  if List.length t5+1≤room then
   F.s_l3Pattern_L1 t1 (List.append t5 [r1.1]) r1.2.1 s64
  else none
 else
  if(decide ((List.length t5:Int)=1))=true then
   if(0:Int)≤0∧(0:Int)<(List.length t5:Int) then
    some ((List.getD t5 0 dh),r0.2.1,())
   else none
  else
   some ((bC.mk 7 0 [] false t5),r0.2.1,())
def mY(F:FsBuild)(t0:bC):Option (Int×Unit) :=
 F.s_l3Deep_L1 0 0 t0
def mZ(F:FsBuild)(t3:Int)(t4:Int)(s16:bC):Option (Int×Unit) :=
 if(decide (t4<(List.length s16.Kids:Int)))=true then
  if(0:Int)≤t4∧t4<(List.length s16.Kids:Int) then
   (F.s_l3Deep (List.getD s16.Kids t4.toNat dh)).bind fun(r0:Int×Unit) =>
   (F.s_l1Max t3 r0.1).bind fun(r1:Int×Unit) =>
   F.s_l3Deep_L1 r1.1 (w64 (t4+1)) s16
  else none
 else
  some ((w64 (t3+1)),())
def lJ(F:FsBuild)(t0:(List Int)):Option (Int×Int×Unit) :=
 F.s_DecFront_L1 t0 0
def lK(F:FsBuild)(t0:(List Int))(t4:Int):Option (Int×Int×Unit) :=
 if(decide (t4<(List.length t0:Int)))=true then
  if(0:Int)≤t4∧t4<(List.length t0:Int) then
   if(decide ((List.getD t0 t4.toNat 0)=32))=true then
    F.s_DecFront_L1 t0 (w64 (t4+1))
   else
    if(decide (t4<(List.length t0:Int)))=true then
     if(0:Int)≤t4∧t4<(List.length t0:Int) then
      if(decide (t4<(List.length t0:Int)))=true then
       if(0:Int)≤t4∧t4<(List.length t0:Int) then
        if(decide ((List.getD t0 t4.toNat 0)=45))=true then
         F.s_DecFront_L2 t0 (w64 (t4+1)) (decide ((List.getD t0 t4.toNat 0)=45))
        else
         if(0:Int)≤t4∧t4<(List.length t0:Int) then
          if(decide ((List.getD t0 t4.toNat 0)=43))=true then
           F.s_DecFront_L2 t0 (w64 (t4+1)) (decide ((List.getD t0 t4.toNat 0)=45))
          else
           F.s_DecFront_L2 t0 t4 (decide ((List.getD t0 t4.toNat 0)=45))
         else none
       else none
      else
       F.s_DecFront_L2 t0 t4 (decide ((List.getD t0 t4.toNat 0)=45))
     else none
    else
     if(decide (t4<(List.length t0:Int)))=true then
      if(0:Int)≤t4∧t4<(List.length t0:Int) then
       if(decide ((List.getD t0 t4.toNat 0)=45))=true then
        F.s_DecFront_L2 t0 (w64 (t4+1)) false
       else
        if(0:Int)≤t4∧t4<(List.length t0:Int) then
         if(decide ((List.getD t0 t4.toNat 0)=43))=true then
          F.s_DecFront_L2 t0 (w64 (t4+1)) false
         else
          F.s_DecFront_L2 t0 t4 false
        else none
      else none
     else
      F.s_DecFront_L2 t0 t4 false
  else none
 else
  if(decide (t4<(List.length t0:Int)))=true then
   if(0:Int)≤t4∧t4<(List.length t0:Int) then
    if(decide (t4<(List.length t0:Int)))=true then
     if(0:Int)≤t4∧t4<(List.length t0:Int) then
      if(decide ((List.getD t0 t4.toNat 0)=45))=true then
       F.s_DecFront_L2 t0 (w64 (t4+1)) (decide ((List.getD t0 t4.toNat 0)=45))
      else
       if(0:Int)≤t4∧t4<(List.length t0:Int) then
        if(decide ((List.getD t0 t4.toNat 0)=43))=true then
         F.s_DecFront_L2 t0 (w64 (t4+1)) (decide ((List.getD t0 t4.toNat 0)=45))
        else
         F.s_DecFront_L2 t0 t4 (decide ((List.getD t0 t4.toNat 0)=45))
       else none
     else none
    else
     F.s_DecFront_L2 t0 t4 (decide ((List.getD t0 t4.toNat 0)=45))
   else none
  else
   if(decide (t4<(List.length t0:Int)))=true then
    if(0:Int)≤t4∧t4<(List.length t0:Int) then
     if(decide ((List.getD t0 t4.toNat 0)=45))=true then
      F.s_DecFront_L2 t0 (w64 (t4+1)) false
     else
      if(0:Int)≤t4∧t4<(List.length t0:Int) then
       if(decide ((List.getD t0 t4.toNat 0)=43))=true then
        F.s_DecFront_L2 t0 (w64 (t4+1)) false
       else
        F.s_DecFront_L2 t0 t4 false
      else none
    else none
   else
    F.s_DecFront_L2 t0 t4 false
def lL(F:FsBuild)(t0:(List Int))(t4:Int)(t5:Bool):Option (Int×Int×Unit) :=
 F.s_DecFront_L3 t0 t4 t5 0 0
def lM(F:FsBuild)(t0:(List Int))(t4:Int)(t5:Bool)(t6:Int)(t7:Int):Option (Int×Int×Unit) :=
 if(decide (t4<(List.length t0:Int)))=true then
  if(0:Int)≤t4∧t4<(List.length t0:Int) then
   (F.s_l2Digit (List.getD t0 t4.toNat 0)).bind fun(r0:Bool×Unit) =>
   if r0.1=true then
    if(decide (t6≤9000000000000))=true then
     if(0:Int)≤t4∧t4<(List.length t0:Int) then
      F.s_DecFront_L3 t0 (w64 (t4+1)) t5 (w64 ((w64 (10*t6))+(w64 ((w64 ((w64 (List.getD t0 t4.toNat 0))-48))*1000000)))) (w64 (t7+1))
     else none
    else
     F.s_DecFront_L3 t0 (w64 (t4+1)) t5 t6 (w64 (t7+1))
   else
    if(decide ((w64 (t4+1))<(List.length t0:Int)))=true then
     if(0:Int)≤t4∧t4<(List.length t0:Int) then
      if(decide ((List.getD t0 t4.toNat 0)=46))=true then
       if(0:Int)≤(w64 (t4+1))∧(w64 (t4+1))<(List.length t0:Int) then
        (F.s_l2Digit (List.getD t0 (w64 (t4+1)).toNat 0)).bind fun(r1:Bool×Unit) =>
        if r1.1=true then
         F.s_DecFront_L4 t0 (w64 (t4+1)) t5 t6 t7 100000
        else
         F.s_DecFront_L5 t4 t5 t6 t7
       else none
      else
       F.s_DecFront_L5 t4 t5 t6 t7
     else none
    else
     F.s_DecFront_L5 t4 t5 t6 t7
  else none
 else
  if(decide ((w64 (t4+1))<(List.length t0:Int)))=true then
   if(0:Int)≤t4∧t4<(List.length t0:Int) then
    if(decide ((List.getD t0 t4.toNat 0)=46))=true then
     if(0:Int)≤(w64 (t4+1))∧(w64 (t4+1))<(List.length t0:Int) then
      (F.s_l2Digit (List.getD t0 (w64 (t4+1)).toNat 0)).bind fun(r2:Bool×Unit) =>
      if r2.1=true then
       F.s_DecFront_L4 t0 (w64 (t4+1)) t5 t6 t7 100000
      else
       F.s_DecFront_L5 t4 t5 t6 t7
     else none
    else
     F.s_DecFront_L5 t4 t5 t6 t7
   else none
  else
   F.s_DecFront_L5 t4 t5 t6 t7
def lN(F:FsBuild)(t0:(List Int))(t4:Int)(t5:Bool)(t6:Int)(t7:Int)(t8:Int):Option (Int×Int×Unit) :=
 if(decide (t4<(List.length t0:Int)))=true then
  if(0:Int)≤t4∧t4<(List.length t0:Int) then
   (F.s_l2Digit (List.getD t0 t4.toNat 0)).bind fun(r0:Bool×Unit) =>
   if r0.1=true then
    if(0:Int)≤t4∧t4<(List.length t0:Int) then
     F.s_DecFront_L4 t0 (w64 (t4+1)) t5 (w64 (t6+(w64 ((w64 ((w64 (List.getD t0 t4.toNat 0))-48))*t8)))) (w64 (t7+1)) (w64 (Int.tdiv t8 10))
    else none
   else
    F.s_DecFront_L5 t4 t5 t6 t7
  else none
 else
  F.s_DecFront_L5 t4 t5 t6 t7
def lO(F:FsBuild)(t4:Int)(t5:Bool)(t6:Int)(t7:Int):Option (Int×Int×Unit) :=
 if(decide (t7=0))=true then
  some (0,0,())
 else
  if(decide (t6>9000000000000))=true then
   some (0,0,())
  else
   if t5=true then
    some ((w64 (0-t6)),t4,())
   else
    some (t6,t4,())
def n8(F:FsBuild)(s0:bO):Option (bO×Unit) :=
 if(decide (s0.bad<0))=true then
  (F.s_l8Now s0).bind fun(r0:bF×bO×Unit) =>
  some ((bO.mk r0.2.1.list r0.2.1.at_ r0.1.At r0.2.1.has r0.2.1.kept),())
 else
  some (s0,())
def oK(F:FsBuild)(s0:bO)(t1:Int):Option (bv×bO×Unit) :=
 (F.s_l8Next s0).bind fun(r0:bO×Unit) =>
 (F.s_l8Take r0.1 [40]).bind fun(r1:bO×Unit) =>
 (F.s_l8E r1.1).bind fun(r2:bv×bO×Unit) =>
 (F.s_l8Take r2.2.1 [41]).bind fun(r3:bO×Unit) =>
 (F.s_l8Block r3.1).bind fun(r4:bv×bO×Unit) =>
 (F.s_l8Kids t1 [r2.1,r4.1]).bind fun(r5:(Int×(Int×((List Int)×((List bv)×Unit))))×Unit) =>
 if(decide (t1=31))=true then
  (F.s_l8Is r4.2.1 [101,108,115,101]).bind fun(r6:Bool×bO×Unit) =>
  if r6.1=true then
   (F.s_l8Next r6.2.1).bind fun(r7:bO×Unit) =>
   (F.s_l8Block r7.1).bind fun(r8:bv×bO×Unit) =>
   if List.length r5.1.2.2.2.1+1≤room then
    some ((bv.mk r5.1.1 r5.1.2.1 r5.1.2.2.1 (List.append r5.1.2.2.2.1 [r8.1])),r8.2.1,())
   else none
  else
   some ((bv.mk r5.1.1 r5.1.2.1 r5.1.2.2.1 r5.1.2.2.2.1),r6.2.1,())
 else
  some ((bv.mk r5.1.1 r5.1.2.1 r5.1.2.2.1 r5.1.2.2.2.1),r4.2.1,())
def oF(F:FsBuild)(s0:bO):Option (bv×bO×Unit) :=
 (F.s_l8Is s0 [112,114,105,110,116]).bind fun(r0:Bool×bO×Unit) =>
 if r0.1=true then
  (F.s_l8Next r0.2.1).bind fun(r1:bO×Unit) =>
  F.s_l8Simple_L1 r1.1 0 0 [] [] 30 0 [] []
 else
  (F.s_l8Is r0.2.1 [110,101,120,116]).bind fun(r2:Bool×bO×Unit) =>
  if r2.1=true then
   (F.s_l8Next r2.2.1).bind fun(r3:bO×Unit) =>
   some ((bv.mk 33 0 [] []),r3.1,())
  else
   (F.s_l8Is r2.2.1 [100,101,108,101,116,101]).bind fun(r4:Bool×bO×Unit) =>
   if r4.1=true then
    (F.s_l8Next r4.2.1).bind fun(r5:bO×Unit) =>
    (F.s_l8Name r5.1).bind fun(r6:(List Int)×bO×Unit) =>
    (F.s_l8Take r6.2.1 [91]).bind fun(r7:bO×Unit) =>
    (F.s_l8E r7.1).bind fun(r8:bv×bO×Unit) =>
    (F.s_l8Take r8.2.1 [93]).bind fun(r9:bO×Unit) =>
    some ((bv.mk 34 0 r6.1 [r8.1]),r9.1,())
   else
    (F.s_l8E r4.2.1).bind fun(r10:bv×bO×Unit) =>
    (F.s_l8Kids 35 [r10.1]).bind fun(r11:(Int×(Int×((List Int)×((List bv)×Unit))))×Unit) =>
    some ((bv.mk r11.1.1 r11.1.2.1 r11.1.2.2.1 r11.1.2.2.2.1),r10.2.1,())
def oG(F:FsBuild)(s0:bO)(s32_0:Int)(s32_1:Int)(s32_2:(List Int))(s32_3:(List bv))(s48_0:Int)(s48_1:Int)(s48_2:(List Int))(s48_3:(List bv)):Option (bv×bO×Unit) :=
 if(decide (s0.bad<0))=true then
  (F.s_l8Sign s0 [59]).bind fun(r0:Bool×bO×Unit) =>
  if(!r0.1)=true then
   (F.s_l8Sign r0.2.1 [125]).bind fun(r1:Bool×bO×Unit) =>
   if(!r1.1)=true then
    if(decide ((List.length s48_3:Int)>0))=true then
     (F.s_l8Take r1.2.1 [44]).bind fun(r2:bO×Unit) =>
     (F.s_l8E r2.1).bind fun(r3:bv×bO×Unit) =>
     if List.length s48_3+1≤room then
      F.s_l8Simple_L1 r3.2.1 s32_0 s32_1 s32_2 s32_3 s48_0 s48_1 s48_2 (List.append s48_3 [r3.1])
     else none
    else
     (F.s_l8E r1.2.1).bind fun(r4:bv×bO×Unit) =>
     if List.length s48_3+1≤room then
      F.s_l8Simple_L1 r4.2.1 s32_0 s32_1 s32_2 s32_3 s48_0 s48_1 s48_2 (List.append s48_3 [r4.1])
     else none
   else
    some ((bv.mk s48_0 s48_1 s48_2 s48_3),r1.2.1,())
  else
   some ((bv.mk s48_0 s48_1 s48_2 s48_3),r0.2.1,())
 else
  some ((bv.mk s48_0 s48_1 s48_2 s48_3),s0,())
def oj(F:FsBuild)(s0:bO)(t1:(List Int)):Option ((List bv)×bO×Unit) :=
 F.s_l8Es_L1 t1 [] s0
def ol(F:FsBuild)(t1:(List Int))(t5:(List bv))(s0:bO):Option ((List bv)×bO×Unit) :=
 if(decide (s0.bad<0))=true then
  (F.s_l8Sign s0 t1).bind fun(r0:Bool×bO×Unit) =>
  if(!r0.1)=true then
   if(decide ((List.length t5:Int)>0))=true then
    (F.s_l8Take r0.2.1 [44]).bind fun(r1:bO×Unit) =>
    (F.s_l8E r1.1).bind fun(r2:bv×bO×Unit) =>
    if List.length t5+1≤room then
     F.s_l8Es_L1 t1 (List.append t5 [r2.1]) r2.2.1
    else none
   else
    (F.s_l8E r0.2.1).bind fun(r3:bv×bO×Unit) =>
    if List.length t5+1≤room then
     F.s_l8Es_L1 t1 (List.append t5 [r3.1]) r3.2.1
    else none
  else
   some (t5,r0.2.1,())
 else
  some (t5,s0,())
def ox(F:FsBuild)(s0:bO):Option ((List Int)×bO×Unit) :=
 (F.s_l8Now s0).bind fun(r0:bF×bO×Unit) =>
 if(decide (r0.2.1.bad≥0))=true then
  (F.s_l8Bad r0.2.1).bind fun(r1:bO×Unit) =>
  some ([],r1.1,())
 else
  if(!(decide (r0.1.Kind=1)))=true then
   (F.s_l8Bad r0.2.1).bind fun(r2:bO×Unit) =>
   some ([],r2.1,())
  else
   (F.s_Keyword r0.1.Text).bind fun(r3:Bool×Unit) =>
   if r3.1=true then
    (F.s_l8Bad r0.2.1).bind fun(r4:bO×Unit) =>
    some ([],r4.1,())
   else
    (F.s_l8Next r0.2.1).bind fun(r5:bO×Unit) =>
    some (r0.1.Text,r5.1,())
def od(F:FsBuild)(s0:bO):Option (bv×bO×Unit) :=
 (F.s_l8Level s0 4).bind fun(r0:bv×bO×Unit) =>
 F.s_l8Compare_L1 [[60],[60,61],[62],[62,61],[61,61],[33,61]] 0 r0.2.1 0 0 [] [] r0.1
def oe(F:FsBuild)(t3:(List (List Int)))(t5:Int)(s0:bO)(s32_0:Int)(s32_1:Int)(s32_2:(List Int))(s32_3:(List bv))(s64:bv):Option (bv×bO×Unit) :=
 if(decide (t5<(List.length t3:Int)))=true then
  if(0:Int)≤t5∧t5<(List.length t3:Int) then
   (F.s_l8Sign s0 (List.getD t3 t5.toNat [])).bind fun(r0:Bool×bO×Unit) =>
   if r0.1=true then
    (F.s_l8Next r0.2.1).bind fun(r1:bO×Unit) =>
    (F.s_l8Level r1.1 4).bind fun(r2:bv×bO×Unit) =>
    (F.s_l8Kids (w64 (15+t5)) [s64,r2.1]).bind fun(r3:(Int×(Int×((List Int)×((List bv)×Unit))))×Unit) =>
    some ((bv.mk r3.1.1 r3.1.2.1 r3.1.2.2.1 r3.1.2.2.2.1),r2.2.1,())
   else
    F.s_l8Compare_L1 t3 (w64 (t5+1)) r0.2.1 s32_0 s32_1 s32_2 s32_3 s64
  else none
 else
  some (s64,s0,())
def oB(F:FsBuild)(s0:bO):Option (bv×bO×Unit) :=
 (F.s_l8Level s0 5).bind fun(r0:bv×bO×Unit) =>
 F.s_l8Row_L1 r0.2.1 0 0 [] [] r0.1
def oC(F:FsBuild)(s0:bO)(s32_0:Int)(s32_1:Int)(s32_2:(List Int))(s32_3:(List bv))(s48:bv):Option (bv×bO×Unit) :=
 (F.s_l8Begins s0).bind fun(r0:Bool×bO×Unit) =>
 if r0.1=true then
  (F.s_l8Level r0.2.1 5).bind fun(r1:bv×bO×Unit) =>
  (F.s_l8Kids 14 [s48,r1.1]).bind fun(r2:(Int×(Int×((List Int)×((List bv)×Unit))))×Unit) =>
  F.s_l8Row_L1 r1.2.1 s32_0 s32_1 s32_2 s32_3 (bv.mk r2.1.1 r2.1.2.1 r2.1.2.2.1 r2.1.2.2.2.1)
 else
  some (s48,r0.2.1,())
def oJ(F:FsBuild)(s0:bO):Option (bv×bO×Unit) :=
 if s0.has=true then
  (F.s_l8Atom s0).bind fun(r0:bv×bO×Unit) =>
  some (r0.1,r0.2.1,())
 else
  (F.s_l8Sign s0 [33]).bind fun(r1:Bool×bO×Unit) =>
  if r1.1=true then
   (F.s_l8Next r1.2.1).bind fun(r2:bO×Unit) =>
   (F.s_l8Unit r2.1).bind fun(r3:bv×bO×Unit) =>
   (F.s_l8Kids 22 [r3.1]).bind fun(r4:(Int×(Int×((List Int)×((List bv)×Unit))))×Unit) =>
   some ((bv.mk r4.1.1 r4.1.2.1 r4.1.2.2.1 r4.1.2.2.2.1),r3.2.1,())
  else
   (F.s_l8Sign r1.2.1 [45]).bind fun(r5:Bool×bO×Unit) =>
   if r5.1=true then
    (F.s_l8Next r5.2.1).bind fun(r6:bO×Unit) =>
    (F.s_l8Unit r6.1).bind fun(r7:bv×bO×Unit) =>
    (F.s_l8Kids 23 [r7.1]).bind fun(r8:(Int×(Int×((List Int)×((List bv)×Unit))))×Unit) =>
    some ((bv.mk r8.1.1 r8.1.2.1 r8.1.2.2.1 r8.1.2.2.2.1),r7.2.1,())
   else
    (F.s_l8Atom r5.2.1).bind fun(r9:bv×bO×Unit) =>
    some (r9.1,r9.2.1,())
def oq(F:FsBuild)(s0:bO)(t1:Int):Option (bv×bO×Unit) :=
 (F.s_l8Level s0 (w64 (t1+1))).bind fun(r0:bv×bO×Unit) =>
 F.s_l8Left_L1 t1 [[[124,124]],[[38,38]],[[126],[33,126]],[],[],[[43],[45]],[[42],[47],[37]]] [[25],[24],[21,21],[],[],[9,10],[11,12,13]] r0.2.1 (bv.mk 0 0 [] []) r0.1
def ot(F:FsBuild)(t1:Int)(t5:(List (List (List Int))))(t6:(List (List Int)))(s0:bO)(s64:bv)(s112:bv):Option (bv×bO×Unit) :=
 if(decide (s0.bad<0))=true then
  F.s_l8Left_L2 t1 t5 t6 0 s0 s64 s112
 else
  some (s112,s0,())
def ou(F:FsBuild)(t1:Int)(t5:(List (List (List Int))))(t6:(List (List Int)))(t8:Int)(s0:bO)(s64:bv)(s112:bv):Option (bv×bO×Unit) :=
 if(0:Int)≤t1∧t1<(List.length t5:Int) then
  if(decide (t8<(List.length (List.getD t5 t1.toNat []):Int)))=true then
   if(0:Int)≤t1∧t1<(List.length t5:Int) then
    if(0:Int)≤t8∧t8<(List.length (List.getD t5 t1.toNat []):Int) then
     (F.s_l8Sign s0 (List.getD (List.getD t5 t1.toNat []) t8.toNat [])).bind fun(r0:Bool×bO×Unit) =>
     if(!r0.1)=true then
      F.s_l8Left_L2 t1 t5 t6 (w64 (t8+1)) r0.2.1 s64 s112
     else
      if(0:Int)≤t1∧t1<(List.length t5:Int) then
       if(decide (t8=(List.length (List.getD t5 t1.toNat []):Int)))=true then
        some (s112,r0.2.1,())
       else
        (F.s_l8Next r0.2.1).bind fun(r1:bO×Unit) =>
        (F.s_l8Level r1.1 (w64 (t1+1))).bind fun(r2:bv×bO×Unit) =>
        if(0:Int)≤t1∧t1<(List.length t6:Int) then
         if(0:Int)≤t8∧t8<(List.length (List.getD t6 t1.toNat []):Int) then
          (F.s_l8Kids (List.getD (List.getD t6 t1.toNat []) t8.toNat 0) [s112,r2.1]).bind fun(r3:(Int×(Int×((List Int)×((List bv)×Unit))))×Unit) =>
          F.s_l8Left_L3 t1 t5 t6 t8 r2.2.1 s64 (bv.mk r3.1.1 r3.1.2.1 r3.1.2.2.1 r3.1.2.2.2.1)
         else none
        else none
      else none
    else none
   else none
  else
   if(0:Int)≤t1∧t1<(List.length t5:Int) then
    if(decide (t8=(List.length (List.getD t5 t1.toNat []):Int)))=true then
     some (s112,s0,())
    else
     (F.s_l8Next s0).bind fun(r4:bO×Unit) =>
     (F.s_l8Level r4.1 (w64 (t1+1))).bind fun(r5:bv×bO×Unit) =>
     if(0:Int)≤t1∧t1<(List.length t6:Int) then
      if(0:Int)≤t8∧t8<(List.length (List.getD t6 t1.toNat []):Int) then
       (F.s_l8Kids (List.getD (List.getD t6 t1.toNat []) t8.toNat 0) [s112,r5.1]).bind fun(r6:(Int×(Int×((List Int)×((List bv)×Unit))))×Unit) =>
       F.s_l8Left_L3 t1 t5 t6 t8 r5.2.1 s64 (bv.mk r6.1.1 r6.1.2.1 r6.1.2.2.1 r6.1.2.2.2.1)
      else none
     else none
   else none
 else none
def ov(F:FsBuild)(t1:Int)(t5:(List (List (List Int))))(t6:(List (List Int)))(t8:Int)(s0:bO)(s64:bv)(s112:bv):Option (bv×bO×Unit) :=
 if(decide (t1=2))=true then
  if(decide (t8=1))=true then
   (F.s_l8Kids 22 [s112]).bind fun(r0:(Int×(Int×((List Int)×((List bv)×Unit))))×Unit) =>
   F.s_l8Left_L1 t1 t5 t6 s0 s64 (bv.mk r0.1.1 r0.1.2.1 r0.1.2.2.1 r0.1.2.2.2.1)
  else
   F.s_l8Left_L1 t1 t5 t6 s0 s64 s112
 else
  F.s_l8Left_L1 t1 t5 t6 s0 s64 s112
def oQ(F:FsBuild)(t0:bv):Option (Bool×Unit) :=
 if(decide (t0.Op=5))=true then
  F.s_l9Kids_L1 (List.length t0.Kids:Int) t0.Op (decide (t0.Op=5)) t0
 else
  if(decide (t0.Op=6))=true then
   F.s_l9Kids_L1 (List.length t0.Kids:Int) t0.Op (decide (t0.Op=6)) t0
  else
   if(decide (t0.Op=22))=true then
    F.s_l9Kids_L1 (List.length t0.Kids:Int) t0.Op (decide (t0.Op=22)) t0
   else
    if(decide (t0.Op=23))=true then
     F.s_l9Kids_L1 (List.length t0.Kids:Int) t0.Op (decide (t0.Op=23)) t0
    else
     if(decide (t0.Op=34))=true then
      F.s_l9Kids_L1 (List.length t0.Kids:Int) t0.Op (decide (t0.Op=34)) t0
     else
      F.s_l9Kids_L1 (List.length t0.Kids:Int) t0.Op (decide (t0.Op=35)) t0
def oR(F:FsBuild)(t3:Int)(t9:Int)(t10:Bool)(s16:bv):Option (Bool×Unit) :=
 if t10=true then
  if(decide (t3=1))=true then
   (F.s_l9Es s16 0 1).bind fun(r0:Bool×Unit) =>
   some (r0.1,())
  else
   some (false,())
 else
  if(decide (t9=9))=true then
   F.s_l9Kids_L2 t3 t9 (decide (t9=9)) s16
  else
   if(decide (t9=10))=true then
    F.s_l9Kids_L2 t3 t9 (decide (t9=10)) s16
   else
    if(decide (t9=11))=true then
     F.s_l9Kids_L2 t3 t9 (decide (t9=11)) s16
    else
     if(decide (t9=12))=true then
      F.s_l9Kids_L2 t3 t9 (decide (t9=12)) s16
     else
      if(decide (t9=13))=true then
       F.s_l9Kids_L2 t3 t9 (decide (t9=13)) s16
      else
       if(decide (t9=14))=true then
        F.s_l9Kids_L2 t3 t9 (decide (t9=14)) s16
       else
        if(decide (t9=15))=true then
         F.s_l9Kids_L2 t3 t9 (decide (t9=15)) s16
        else
         if(decide (t9=16))=true then
          F.s_l9Kids_L2 t3 t9 (decide (t9=16)) s16
         else
          if(decide (t9=17))=true then
           F.s_l9Kids_L2 t3 t9 (decide (t9=17)) s16
          else
           if(decide (t9=18))=true then
            F.s_l9Kids_L2 t3 t9 (decide (t9=18)) s16
           else
            if(decide (t9=19))=true then
             F.s_l9Kids_L2 t3 t9 (decide (t9=19)) s16
            else
             if(decide (t9=20))=true then
              F.s_l9Kids_L2 t3 t9 (decide (t9=20)) s16
             else
              if(decide (t9=21))=true then
               F.s_l9Kids_L2 t3 t9 (decide (t9=21)) s16
              else
               if(decide (t9=24))=true then
                F.s_l9Kids_L2 t3 t9 (decide (t9=24)) s16
               else
                F.s_l9Kids_L2 t3 t9 (decide (t9=25)) s16
def oS(F:FsBuild)(t3:Int)(t9:Int)(t23:Bool)(s16:bv):Option (Bool×Unit) :=
 if t23=true then
  if(decide (t3=2))=true then
   (F.s_l9Es s16 0 2).bind fun(r0:Bool×Unit) =>
   some (r0.1,())
  else
   some (false,())
 else
  if(decide (t9=26))=true then
   F.s_l9Kids_L3 t3 t9 (decide (t9=26)) s16
  else
   F.s_l9Kids_L3 t3 t9 (decide (t9=27)) s16
def oT(F:FsBuild)(t3:Int)(t9:Int)(t45:Bool)(s16:bv):Option (Bool×Unit) :=
 if t45=true then
  if(decide (t3=2))=true then
   if(0:Int)≤0∧(0:Int)<(List.length s16.Kids:Int) then
    if(decide (((List.getD s16.Kids 0 co).Op)=4))=true then
     (F.s_l9Es s16 0 2).bind fun(r0:Bool×Unit) =>
     some (r0.1,())
    else
     if(0:Int)≤0∧(0:Int)<(List.length s16.Kids:Int) then
      if(decide (((List.getD s16.Kids 0 co).Op)=5))=true then
       (F.s_l9Es s16 0 2).bind fun(r1:Bool×Unit) =>
       some (r1.1,())
      else
       some (false,())
     else none
   else none
  else
   some (false,())
 else
  if(decide (t9=28))=true then
   F.s_l9Kids_L4 t3 t9 (decide (t9=28)) s16
  else
   F.s_l9Kids_L4 t3 t9 (decide (t9=30)) s16
def oU(F:FsBuild)(t3:Int)(t9:Int)(t70:Bool)(s16:bv):Option (Bool×Unit) :=
 if t70=true then
  (F.s_l9Es s16 0 t3).bind fun(r0:Bool×Unit) =>
  some (r0.1,())
 else
  if(decide (t9=31))=true then
   (F.s_l1In t3 2 3).bind fun(r1:Bool×Unit) =>
   if r1.1=true then
    (F.s_l9Es s16 0 1).bind fun(r2:Bool×Unit) =>
    if r2.1=true then
     (F.s_l9Blocks s16 1).bind fun(r3:Bool×Unit) =>
     some (r3.1,())
    else
     some (false,())
   else
    some (false,())
  else
   if(decide (t9=32))=true then
    if(decide (t3=2))=true then
     (F.s_l9Es s16 0 1).bind fun(r4:Bool×Unit) =>
     if r4.1=true then
      (F.s_l9Blocks s16 1).bind fun(r5:Bool×Unit) =>
      some (r5.1,())
     else
      some (false,())
    else
     some (false,())
   else
    if(decide (t9=29))=true then
     F.s_l9Kids_L5 t3 0 s16
    else
     some ((decide (t3=0)),())
def oV(F:FsBuild)(t3:Int)(t4:Int)(s16:bv):Option (Bool×Unit) :=
 if(decide (t4<t3))=true then
  if(0:Int)≤t4∧t4<(List.length s16.Kids:Int) then
   (F.s_l1In ((List.getD s16.Kids t4.toNat co).Op) 29 35).bind fun(r0:Bool×Unit) =>
   if(!r0.1)=true then
    some (false,())
   else
    if(0:Int)≤t4∧t4<(List.length s16.Kids:Int) then
     (F.s_l9Node (List.getD s16.Kids t4.toNat co)).bind fun(r1:Bool×Unit) =>
     if(!r1.1)=true then
      some (false,())
     else
      F.s_l9Kids_L5 t3 (w64 (t4+1)) s16
    else none
  else none
 else
  some (true,())
def o4(F:FsBuild)(t0:(List Int)):Option (Bool×Unit) :=
 F.s_l9Rex_L1 t0 0
def o5(F:FsBuild)(t0:(List Int))(t3:Int):Option (Bool×Unit) :=
 if(decide (t3<(List.length t0:Int)))=true then
  if(0:Int)≤t3∧t3<(List.length t0:Int) then
   if(decide ((List.getD t0 t3.toNat 0)=92))=true then
    if(decide ((w64 (t3+1))=(List.length t0:Int)))=true then
     some (false,())
    else
     if(0:Int)≤(w64 (t3+1))∧(w64 (t3+1))<(List.length t0:Int) then
      if(decide ((List.getD t0 (w64 (t3+1)).toNat 0)=47))=true then
       some (false,())
      else
       F.s_l9Rex_L1 t0 (w64 ((w64 (t3+1))+1))
     else none
   else
    F.s_l9Rex_L1 t0 (w64 (t3+1))
  else none
 else
  (F.s_l9Line t0).bind fun(r0:Bool×Unit) =>
  some (r0.1,())
def m8(F:FsBuild)(s0:bN)(t1:Int):Option (bC×bN×Unit) :=
 F.s_l3Part_L1 t1 [] s0 dh
def m9(F:FsBuild)(t1:Int)(t5:(List bC))(s0:bN)(s64:bC):Option (bC×bN×Unit) :=
 if(!s0.bad)=true then
  if(decide (s0.at_<(List.length s0.s:Int)))=true then
   if(0:Int)≤s0.at_∧s0.at_<(List.length s0.s:Int) then
    if(!(decide ((List.getD s0.s s0.at_.toNat 0)=124)))=true then
     if(0:Int)≤s0.at_∧s0.at_<(List.length s0.s:Int) then
      if(!(decide ((List.getD s0.s s0.at_.toNat 0)=41)))=true then
       (F.s_l3Piece s0 t1).bind fun(r0:bC×bN×Unit) =>
       if List.length t5+1≤room then
        F.s_l3Part_L1 t1 (List.append t5 [r0.1]) r0.2.1 s64
       else none
      else
       if(decide ((List.length t5:Int)=0))=true then
        some ((bC.mk 11 0 [] false []),s0,())
       else
        if(decide ((List.length t5:Int)=1))=true then
         if(0:Int)≤0∧(0:Int)<(List.length t5:Int) then
          some ((List.getD t5 0 dh),s0,())
         else none
        else
         some ((bC.mk 6 0 [] false t5),s0,())
     else none
    else
     if(decide ((List.length t5:Int)=0))=true then
      some ((bC.mk 11 0 [] false []),s0,())
     else
      if(decide ((List.length t5:Int)=1))=true then
       if(0:Int)≤0∧(0:Int)<(List.length t5:Int) then
        some ((List.getD t5 0 dh),s0,())
       else none
      else
       some ((bC.mk 6 0 [] false t5),s0,())
   else none
  else
   if(decide ((List.length t5:Int)=0))=true then
    some ((bC.mk 11 0 [] false []),s0,())
   else
    if(decide ((List.length t5:Int)=1))=true then
     if(0:Int)≤0∧(0:Int)<(List.length t5:Int) then
      some ((List.getD t5 0 dh),s0,())
     else none
    else
     some ((bC.mk 6 0 [] false t5),s0,())
 else
  if(decide ((List.length t5:Int)=0))=true then
   some ((bC.mk 11 0 [] false []),s0,())
  else
   if(decide ((List.length t5:Int)=1))=true then
    if(0:Int)≤0∧(0:Int)<(List.length t5:Int) then
     some ((List.getD t5 0 dh),s0,())
    else none
   else
    some ((bC.mk 6 0 [] false t5),s0,())
def m0(F:FsBuild)(s0:bN)(t1:Int):Option (Bool×bN×Unit) :=
 if(!s0.bad)=true then
  if(decide (s0.at_<(List.length s0.s:Int)))=true then
   if(0:Int)≤s0.at_∧s0.at_<(List.length s0.s:Int) then
    some ((decide ((List.getD s0.s s0.at_.toNat 0)=t1)),s0,())
   else none
  else
   some (false,s0,())
 else
  some (false,s0,())
def n9(F:FsBuild)(s0:bO):Option (Bool×bO×Unit) :=
 (F.s_l8Now s0).bind fun(r0:bF×bO×Unit) =>
 if(decide (r0.2.1.bad≥0))=true then
  some (false,r0.2.1,())
 else
  if(decide (r0.1.Kind=2))=true then
   F.s_l8Begins_L1 r0.1.Kind (decide (r0.1.Kind=2)) r0.2.1 r0.1
  else
   if(decide (r0.1.Kind=3))=true then
    F.s_l8Begins_L1 r0.1.Kind (decide (r0.1.Kind=3)) r0.2.1 r0.1
   else
    F.s_l8Begins_L1 r0.1.Kind (decide (r0.1.Kind=4)) r0.2.1 r0.1
def oa(F:FsBuild)(t12:Int)(t13:Bool)(s0:bO)(s48:bF):Option (Bool×bO×Unit) :=
 if t13=true then
  some (true,s0,())
 else
  if(decide (t12=1))=true then
   (F.s_Keyword s48.Text).bind fun(r0:Bool×Unit) =>
   if(!r0.1)=true then
    some (true,s0,())
   else
    if(decide (s48.Text=[78,82]))=true then
     some (true,s0,())
    else
     if(decide (s48.Text=[78,70]))=true then
      some (true,s0,())
     else
      (F.s_l7Calls ).bind fun(r1:(List (List Int))×Unit) =>
      (F.s_l7Within r1.1 s48.Text).bind fun(r2:Bool×Unit) =>
      some (r2.1,s0,())
  else
   if(decide (s48.Kind=5))=true then
    if(decide (s48.Text=[36]))=true then
     some (true,s0,())
    else
     some ((decide (s48.Text=[40])),s0,())
   else
    some (false,s0,())
def n7(F:FsBuild)(s0:bO):Option (bv×bO×Unit) :=
 if s0.has=true then
  some (s0.kept,(bO.mk s0.list s0.at_ s0.bad false s0.kept),())
 else
  (F.s_l8Now s0).bind fun(r0:bF×bO×Unit) =>
  if(decide (r0.2.1.bad≥0))=true then
   some ((bv.mk 0 0 [] []),r0.2.1,())
  else
   if(decide (r0.1.Kind=2))=true then
    (F.s_l8Next r0.2.1).bind fun(r1:bO×Unit) =>
    some ((bv.mk 1 r0.1.N [] []),r1.1,())
   else
    if(decide (r0.1.Kind=3))=true then
     (F.s_l8Next r0.2.1).bind fun(r2:bO×Unit) =>
     some ((bv.mk 2 0 r0.1.Text []),r2.1,())
    else
     if(decide (r0.1.Kind=4))=true then
      (F.s_l8Next r0.2.1).bind fun(r3:bO×Unit) =>
      some ((bv.mk 3 0 r0.1.Text []),r3.1,())
     else
      if(decide (r0.1.Kind=1))=true then
       (F.s_l8Named r0.2.1).bind fun(r4:bv×bO×Unit) =>
       some (r4.1,r4.2.1,())
      else
       (F.s_l8Sign r0.2.1 [36]).bind fun(r5:Bool×bO×Unit) =>
       if r5.1=true then
        (F.s_l8Next r5.2.1).bind fun(r6:bO×Unit) =>
        (F.s_l8Atom r6.1).bind fun(r7:bv×bO×Unit) =>
        (F.s_l8Kids 6 [r7.1]).bind fun(r8:(Int×(Int×((List Int)×((List bv)×Unit))))×Unit) =>
        some ((bv.mk r8.1.1 r8.1.2.1 r8.1.2.2.1 r8.1.2.2.2.1),r7.2.1,())
       else
        (F.s_l8Take r5.2.1 [40]).bind fun(r9:bO×Unit) =>
        (F.s_l8E r9.1).bind fun(r10:bv×bO×Unit) =>
        (F.s_l8Take r10.2.1 [41]).bind fun(r11:bO×Unit) =>
        some (r10.1,r11.1,())
def oN(F:FsBuild)(t0:bv)(t1:Int)(t2:Int):Option (Bool×Unit) :=
 F.s_l9Es_L1 t2 t1 t0
def oO(F:FsBuild)(t2:Int)(t7:Int)(s48:bv):Option (Bool×Unit) :=
 if(decide (t7<t2))=true then
  if(0:Int)≤t7∧t7<(List.length s48.Kids:Int) then
   (F.s_l9IsE ((List.getD s48.Kids t7.toNat co).Op)).bind fun(r0:Bool×Unit) =>
   if(!r0.1)=true then
    some (false,())
   else
    if(0:Int)≤t7∧t7<(List.length s48.Kids:Int) then
     (F.s_l9Node (List.getD s48.Kids t7.toNat co)).bind fun(r1:Bool×Unit) =>
     if(!r1.1)=true then
      some (false,())
     else
      F.s_l9Es_L1 t2 (w64 (t7+1)) s48
    else none
  else none
 else
  some (true,())
def oL(F:FsBuild)(t0:bv)(t1:Int):Option (Bool×Unit) :=
 F.s_l9Blocks_L1 t1 t0
def oM(F:FsBuild)(t5:Int)(s32:bv):Option (Bool×Unit) :=
 if(decide (t5<(List.length s32.Kids:Int)))=true then
  if(0:Int)≤t5∧t5<(List.length s32.Kids:Int) then
   if(!(decide (((List.getD s32.Kids t5.toNat co).Op)=29)))=true then
    some (false,())
   else
    if(0:Int)≤t5∧t5<(List.length s32.Kids:Int) then
     (F.s_l9Node (List.getD s32.Kids t5.toNat co)).bind fun(r0:Bool×Unit) =>
     if(!r0.1)=true then
      some (false,())
     else
      F.s_l9Blocks_L1 (w64 (t5+1)) s32
    else none
  else none
 else
  some (true,())
def nf(F:FsBuild)(s0:bN)(t1:Int):Option (bC×bN×Unit) :=
 (F.s_l3Atom s0 t1).bind fun(r0:bC×bN×Unit) =>
 F.s_l3Piece_L1 r0.2.1 dh r0.1
def ng(F:FsBuild)(s0:bN)(s64:bC)(s80:bC):Option (bC×bN×Unit) :=
 if(!s0.bad)=true then
  (F.s_l3Now s0 42).bind fun(r0:Bool×bN×Unit) =>
  if r0.1=true then
   F.s_l3Piece_L2 8 r0.2.1 s64 s80
  else
   (F.s_l3Now r0.2.1 43).bind fun(r1:Bool×bN×Unit) =>
   if r1.1=true then
    F.s_l3Piece_L2 9 r1.2.1 s64 s80
   else
    (F.s_l3Now r1.2.1 63).bind fun(r2:Bool×bN×Unit) =>
    if r2.1=true then
     F.s_l3Piece_L2 10 r2.2.1 s64 s80
    else
     F.s_l3Piece_L2 0 r2.2.1 s64 s80
 else
  some (s80,s0,())
def nh(F:FsBuild)(t6:Int)(s0:bN)(s64:bC)(s80:bC):Option (bC×bN×Unit) :=
 if(decide (t6=0))=true then
  some (s80,s0,())
 else
  F.s_l3Piece_L1 (bN.mk s0.s (w64 (s0.at_+1)) s0.bad) s64 (bC.mk t6 0 [] false [s80])
def mW(F:FsBuild)(s0:bN)(t1:Int):Option (bC×bN×Unit) :=
 if s0.bad=true then
  some ((bC.mk 0 0 [] false []),(bN.mk s0.s s0.at_ true),())
 else
  if(decide (s0.at_≥(List.length s0.s:Int)))=true then
   some ((bC.mk 0 0 [] false []),(bN.mk s0.s s0.at_ true),())
  else
   if(decide (t1>40))=true then
    some ((bC.mk 0 0 [] false []),(bN.mk s0.s s0.at_ true),())
   else
    if(0:Int)≤s0.at_∧s0.at_<(List.length s0.s:Int) then
     if(decide ((List.getD s0.s s0.at_.toNat 0)=40))=true then
      (F.s_l3Pattern (bN.mk s0.s (w64 (s0.at_+1)) s0.bad) (w64 (t1+1))).bind fun(r0:bC×bN×Unit) =>
      (F.s_l3Now r0.2.1 41).bind fun(r1:Bool×bN×Unit) =>
      if(!r1.1)=true then
       some (r0.1,(bN.mk r1.2.1.s (w64 (r1.2.1.at_+1)) true),())
      else
       some (r0.1,(bN.mk r1.2.1.s (w64 (r1.2.1.at_+1)) r1.2.1.bad),())
     else
      if(decide ((List.getD s0.s s0.at_.toNat 0)=46))=true then
       some ((bC.mk 2 0 [] false []),(bN.mk s0.s (w64 (s0.at_+1)) s0.bad),())
      else
       if(decide ((List.getD s0.s s0.at_.toNat 0)=94))=true then
        some ((bC.mk 4 0 [] false []),(bN.mk s0.s (w64 (s0.at_+1)) s0.bad),())
       else
        if(decide ((List.getD s0.s s0.at_.toNat 0)=36))=true then
         some ((bC.mk 5 0 [] false []),(bN.mk s0.s (w64 (s0.at_+1)) s0.bad),())
        else
         if(decide ((List.getD s0.s s0.at_.toNat 0)=91))=true then
          (F.s_l3Set (bN.mk s0.s (w64 (s0.at_+1)) s0.bad)).bind fun(r2:bC×bN×Unit) =>
          some (r2.1,r2.2.1,())
         else
          if(decide ((List.getD s0.s s0.at_.toNat 0)=92))=true then
           if(decide ((w64 (s0.at_+1))≥(List.length s0.s:Int)))=true then
            some ((bC.mk 0 0 [] false []),(bN.mk s0.s (w64 (s0.at_+1)) true),())
           else
            if(0:Int)≤(w64 (s0.at_+1))∧(w64 (s0.at_+1))<(List.length s0.s:Int) then
             some ((bC.mk 1 (w64 (List.getD s0.s (w64 (s0.at_+1)).toNat 0)) [] false []),(bN.mk s0.s (w64 ((w64 (s0.at_+1))+1)) s0.bad),())
            else none
          else
           if(decide ((List.getD s0.s s0.at_.toNat 0)=42))=true then
            if(decide ((List.getD s0.s s0.at_.toNat 0)=42))=true then
             F.s_l3Atom_L1 (List.getD s0.s s0.at_.toNat 0) (bN.mk s0.s (w64 (s0.at_+1)) true) dh
            else
             F.s_l3Atom_L1 (List.getD s0.s s0.at_.toNat 0) (bN.mk s0.s (w64 (s0.at_+1)) s0.bad) dh
           else
            if(decide ((List.getD s0.s s0.at_.toNat 0)=43))=true then
             if(decide ((List.getD s0.s s0.at_.toNat 0)=43))=true then
              F.s_l3Atom_L1 (List.getD s0.s s0.at_.toNat 0) (bN.mk s0.s (w64 (s0.at_+1)) true) dh
             else
              F.s_l3Atom_L1 (List.getD s0.s s0.at_.toNat 0) (bN.mk s0.s (w64 (s0.at_+1)) s0.bad) dh
            else
             if(decide ((List.getD s0.s s0.at_.toNat 0)=63))=true then
              F.s_l3Atom_L1 (List.getD s0.s s0.at_.toNat 0) (bN.mk s0.s (w64 (s0.at_+1)) true) dh
             else
              F.s_l3Atom_L1 (List.getD s0.s s0.at_.toNat 0) (bN.mk s0.s (w64 (s0.at_+1)) s0.bad) dh
    else none
def mX(F:FsBuild)(t5:Int)(s0:bN)(s64:bC):Option (bC×bN×Unit) :=
 some ((bC.mk 1 (w64 t5) [] false []),s0,())
def lV(F:FsBuild)(t0:bC):Option ((List bz)×Unit) :=
 (F.s_RexOk t0).bind fun(r0:Bool×Unit) =>
 if(!r0.1)=true then
  some ([],())
 else
  (F.s_l4Of [] t0).bind fun(r1:(List bz)×Unit) =>
  (F.s_l4Put r1.1 8).bind fun(r2:(List bz)×Unit) =>
  some (r2.1,())
def nq(F:FsBuild)(s0:bN):Option (bC×bN×Unit) :=
 (F.s_l3Now s0 94).bind fun(r0:Bool×bN×Unit) =>
 if r0.1=true then
  F.s_l3Set_L1 (bN.mk r0.2.1.s (w64 (r0.2.1.at_+1)) r0.2.1.bad) dh (bC.mk 3 0 [] true [])
 else
  F.s_l3Set_L1 r0.2.1 dh (bC.mk 3 0 [] false [])
def nr(F:FsBuild)(s0:bN)(s32:bC)(s48:bC):Option (bC×bN×Unit) :=
 F.s_l3Set_L2 (List.replicate 256 false) 0 s0 s32 s48
def nu(F:FsBuild)(t4:(List Bool))(t5:Int)(s0:bN)(s32:bC)(s48:bC):Option (bC×bN×Unit) :=
 if(decide (s0.at_<(List.length s0.s:Int)))=true then
  if(0:Int)≤s0.at_∧s0.at_<(List.length s0.s:Int) then
   if(!(decide ((List.getD s0.s s0.at_.toNat 0)=93)))=true then
    if(0:Int)≤s0.at_∧s0.at_<(List.length s0.s:Int) then
     if(decide ((w64 ((w64 (s0.at_+1))+1))<(List.length s0.s:Int)))=true then
      if(0:Int)≤(w64 (s0.at_+1))∧(w64 (s0.at_+1))<(List.length s0.s:Int) then
       if(decide ((List.getD s0.s (w64 (s0.at_+1)).toNat 0)=45))=true then
        if(0:Int)≤(w64 ((w64 (s0.at_+1))+1))∧(w64 ((w64 (s0.at_+1))+1))<(List.length s0.s:Int) then
         if(!(decide ((List.getD s0.s (w64 ((w64 (s0.at_+1))+1)).toNat 0)=93)))=true then
          if(0:Int)≤(w64 ((w64 (s0.at_+1))+1))∧(w64 ((w64 (s0.at_+1))+1))<(List.length s0.s:Int) then
           F.s_l3Set_L3 t4 t5 (w64 (List.getD s0.s s0.at_.toNat 0)) (w64 (List.getD s0.s (w64 ((w64 (s0.at_+1))+1)).toNat 0)) (bN.mk s0.s (w64 ((w64 (s0.at_+1))+2)) s0.bad) s32 s48
          else none
         else
          F.s_l3Set_L3 t4 t5 (w64 (List.getD s0.s s0.at_.toNat 0)) (w64 (List.getD s0.s s0.at_.toNat 0)) (bN.mk s0.s (w64 (s0.at_+1)) s0.bad) s32 s48
        else none
       else
        F.s_l3Set_L3 t4 t5 (w64 (List.getD s0.s s0.at_.toNat 0)) (w64 (List.getD s0.s s0.at_.toNat 0)) (bN.mk s0.s (w64 (s0.at_+1)) s0.bad) s32 s48
      else none
     else
      F.s_l3Set_L3 t4 t5 (w64 (List.getD s0.s s0.at_.toNat 0)) (w64 (List.getD s0.s s0.at_.toNat 0)) (bN.mk s0.s (w64 (s0.at_+1)) s0.bad) s32 s48
    else none
   else
    if(decide (s0.at_≥(List.length s0.s:Int)))=true then
     F.s_l3Set_L4 t4 (bN.mk s0.s s0.at_ true) s32 s48
    else
     if(decide (t5=0))=true then
      F.s_l3Set_L4 t4 (bN.mk s0.s s0.at_ true) s32 s48
     else
      F.s_l3Set_L4 t4 s0 s32 s48
  else none
 else
  if(decide (s0.at_≥(List.length s0.s:Int)))=true then
   F.s_l3Set_L4 t4 (bN.mk s0.s s0.at_ true) s32 s48
  else
   if(decide (t5=0))=true then
    F.s_l3Set_L4 t4 (bN.mk s0.s s0.at_ true) s32 s48
   else
    F.s_l3Set_L4 t4 s0 s32 s48
def nw(F:FsBuild)(t4:(List Bool))(t5:Int)(t6:Int)(t7:Int)(s0:bN)(s32:bC)(s48:bC):Option (bC×bN×Unit) :=
 if(decide (t7<t6))=true then
  F.s_l3Set_L5 t4 t5 t6 t7 (bN.mk s0.s s0.at_ true) s32 s48
 else
  F.s_l3Set_L5 t4 t5 t6 t7 s0 s32 s48
def nx(F:FsBuild)(t4:(List Bool))(s0:bN)(s32:bC)(s48:bC):Option (bC×bN×Unit) :=
 F.s_l3Set_L6 t4 [] 0 (bN.mk s0.s (w64 (s0.at_+1)) s0.bad) s32 s48
def ny(F:FsBuild)(t4:(List Bool))(t5:Int)(t6:Int)(t7:Int)(s0:bN)(s32:bC)(s48:bC):Option (bC×bN×Unit) :=
 F.s_l3Set_L7 t4 t5 t7 t6 s0 s32 s48
def nz(F:FsBuild)(t4:(List Bool))(t9:(List Int))(t10:Int)(s0:bN)(s32:bC)(s48:bC):Option (bC×bN×Unit) :=
 if(decide (t10<256))=true then
  if(0:Int)≤t10∧t10<(List.length t4:Int) then
   if(List.getD t4 t10.toNat false)=true then
    if List.length t9+1≤room then
     F.s_l3Set_L6 t4 (List.append t9 [(w8 t10)]) (w64 (t10+1)) s0 s32 s48
    else none
   else
    F.s_l3Set_L6 t4 t9 (w64 (t10+1)) s0 s32 s48
  else none
 else
  some ((bC.mk s48.Op s48.C t9 s48.Not s48.Kids),s0,())
def nA(F:FsBuild)(t4:(List Bool))(t5:Int)(t7:Int)(t8:Int)(s0:bN)(s32:bC)(s48:bC):Option (bC×bN×Unit) :=
 if(decide (t8≤t7))=true then
  if(0:Int)≤t8∧t8<(List.length t4:Int) then
   F.s_l3Set_L7 (List.set t4 t8.toNat true) t5 t7 (w64 (t8+1)) s0 s32 s48
  else none
 else
  F.s_l3Set_L2 t4 (w64 (t5+1)) s0 s32 s48
def l8(F:FsBuild)(t0:bC):Option (Bool×Unit) :=
 (F.s_l3Deep t0).bind fun(r0:Int×Unit) =>
 if(decide (r0.1≤12))=true then
  (F.s_l3Right t0).bind fun(r1:Bool×Unit) =>
  some (r1.1,())
 else
  some (false,())
def nD(F:FsBuild)(t0:(List bz))(t1:bC):Option ((List bz)×Unit) :=
 if(decide (t1.Op=1))=true then
  if List.length t0+1≤room then
   some ((List.append t0 [(bz.mk 1 t1.C [] false 0 0)]),())
  else none
 else
  if(decide (t1.Op=2))=true then
   (F.s_l4Put t0 2).bind fun(r0:(List bz)×Unit) =>
   some (r0.1,())
  else
   if(decide (t1.Op=3))=true then
    if List.length t0+1≤room then
     some ((List.append t0 [(bz.mk 3 0 t1.Set t1.Not 0 0)]),())
    else none
   else
    if(decide (t1.Op=4))=true then
     (F.s_l4Put t0 4).bind fun(r1:(List bz)×Unit) =>
     some (r1.1,())
    else
     if(decide (t1.Op=5))=true then
      (F.s_l4Put t0 5).bind fun(r2:(List bz)×Unit) =>
      some (r2.1,())
     else
      if(decide (t1.Op=6))=true then
       F.s_l4Of_L1 t0 0 t1
      else
       if(decide (t1.Op=7))=true then
        (F.s_l4Or t0 t1.Kids).bind fun(r3:(List bz)×Unit) =>
        some (r3.1,())
       else
        if(decide (t1.Op=8))=true then
         (F.s_l4Put t0 7).bind fun(r4:(List bz)×Unit) =>
         if(0:Int)≤0∧(0:Int)<(List.length t1.Kids:Int) then
          (F.s_l4Of r4.1 (List.getD t1.Kids 0 dh)).bind fun(r5:(List bz)×Unit) =>
          if List.length r5.1+1≤room then
           if(0:Int)≤(List.length t0:Int)∧(List.length t0:Int)<(List.length (List.append r5.1 [(bz.mk 6 0 [] false (List.length t0:Int) 0)]):Int) then
            let v0:(List bz):=(List.set (List.append r5.1 [(bz.mk 6 0 [] false (List.length t0:Int) 0)]) (List.length t0:Int).toNat (bz.mk ((List.getD (List.append r5.1 [(bz.mk 6 0 [] false (List.length t0:Int) 0)]) (List.length t0:Int).toNat ci).Op) ((List.getD (List.append r5.1 [(bz.mk 6 0 [] false (List.length t0:Int) 0)]) (List.length t0:Int).toNat ci).C) ((List.getD (List.append r5.1 [(bz.mk 6 0 [] false (List.length t0:Int) 0)]) (List.length t0:Int).toNat ci).Set) ((List.getD (List.append r5.1 [(bz.mk 6 0 [] false (List.length t0:Int) 0)]) (List.length t0:Int).toNat ci).Not) (w64 ((List.length t0:Int)+1)) ((List.getD (List.append r5.1 [(bz.mk 6 0 [] false (List.length t0:Int) 0)]) (List.length t0:Int).toNat ci).B)))
            if(0:Int)≤(List.length t0:Int)∧(List.length t0:Int)<(List.length v0:Int) then
             let v1:(List bz):=(List.set v0 (List.length t0:Int).toNat (bz.mk ((List.getD v0 (List.length t0:Int).toNat ci).Op) ((List.getD v0 (List.length t0:Int).toNat ci).C) ((List.getD v0 (List.length t0:Int).toNat ci).Set) ((List.getD v0 (List.length t0:Int).toNat ci).Not) ((List.getD v0 (List.length t0:Int).toNat ci).A) (List.length v0:Int)))
             F.s_l4Of_L2 v1
            else none
           else none
          else none
         else none
        else
         if(decide (t1.Op=9))=true then
          if(0:Int)≤0∧(0:Int)<(List.length t1.Kids:Int) then
           (F.s_l4Of t0 (List.getD t1.Kids 0 dh)).bind fun(r6:(List bz)×Unit) =>
           if List.length r6.1+1≤room then
            F.s_l4Of_L2 (List.append r6.1 [(bz.mk 7 0 [] false (List.length t0:Int) (w64 ((List.length r6.1:Int)+1)))])
           else none
          else none
         else
          if(decide (t1.Op=10))=true then
           (F.s_l4Put t0 7).bind fun(r7:(List bz)×Unit) =>
           if(0:Int)≤0∧(0:Int)<(List.length t1.Kids:Int) then
            (F.s_l4Of r7.1 (List.getD t1.Kids 0 dh)).bind fun(r8:(List bz)×Unit) =>
            if(0:Int)≤(List.length t0:Int)∧(List.length t0:Int)<(List.length r8.1:Int) then
             let v2:(List bz):=(List.set r8.1 (List.length t0:Int).toNat (bz.mk ((List.getD r8.1 (List.length t0:Int).toNat ci).Op) ((List.getD r8.1 (List.length t0:Int).toNat ci).C) ((List.getD r8.1 (List.length t0:Int).toNat ci).Set) ((List.getD r8.1 (List.length t0:Int).toNat ci).Not) (w64 ((List.length t0:Int)+1)) ((List.getD r8.1 (List.length t0:Int).toNat ci).B)))
             if(0:Int)≤(List.length t0:Int)∧(List.length t0:Int)<(List.length v2:Int) then
              let v3:(List bz):=(List.set v2 (List.length t0:Int).toNat (bz.mk ((List.getD v2 (List.length t0:Int).toNat ci).Op) ((List.getD v2 (List.length t0:Int).toNat ci).C) ((List.getD v2 (List.length t0:Int).toNat ci).Set) ((List.getD v2 (List.length t0:Int).toNat ci).Not) ((List.getD v2 (List.length t0:Int).toNat ci).A) (List.length v2:Int)))
              F.s_l4Of_L2 v3
             else none
            else none
           else none
          else
           F.s_l4Of_L2 t0
def nE(F:FsBuild)(t0:(List bz))(t6:Int)(s48:bC):Option ((List bz)×Unit) :=
 if(decide (t6<(List.length s48.Kids:Int)))=true then
  if(0:Int)≤t6∧t6<(List.length s48.Kids:Int) then
   (F.s_l4Of t0 (List.getD s48.Kids t6.toNat dh)).bind fun(r0:(List bz)×Unit) =>
   F.s_l4Of_L1 r0.1 (w64 (t6+1)) s48
  else none
 else
  F.s_l4Of_L2 t0
def nF(F:FsBuild)(t0:(List bz)):Option ((List bz)×Unit) :=
 some (t0,())
def nJ(F:FsBuild)(t0:(List bz))(t1:Int):Option ((List bz)×Unit) :=
 if List.length t0+1≤room then
  some ((List.append t0 [(bz.mk t1 0 [] false 0 0)]),())
 else none
def ni(F:FsBuild)(t0:bC):Option (Bool×Unit) :=
 F.s_l3Right_L1 0 t0
def nj(F:FsBuild)(t3:Int)(s16:bC):Option (Bool×Unit) :=
 if(decide (t3<(List.length s16.Kids:Int)))=true then
  if(0:Int)≤t3∧t3<(List.length s16.Kids:Int) then
   (F.s_l3Right (List.getD s16.Kids t3.toNat dh)).bind fun(r0:Bool×Unit) =>
   if(!r0.1)=true then
    some (false,())
   else
    F.s_l3Right_L1 (w64 (t3+1)) s16
  else none
 else
  if(decide (s16.Op=1))=true then
   (F.s_l1In s16.C 0 255).bind fun(r1:Bool×Unit) =>
   if r1.1=true then
    if(decide (s16.Set=[]))=true then
     if(!s16.Not)=true then
      some ((decide ((List.length s16.Kids:Int)=0)),())
     else
      some (false,())
    else
     some (false,())
   else
    some (false,())
  else
   if(decide (s16.Op=3))=true then
    if(decide (s16.C=0))=true then
     if(!(decide (s16.Set=[])))=true then
      (F.s_l3Up s16.Set).bind fun(r2:Bool×Unit) =>
      if r2.1=true then
       some ((decide ((List.length s16.Kids:Int)=0)),())
      else
       some (false,())
     else
      some (false,())
    else
     some (false,())
   else
    if(decide (s16.Op=6))=true then
     F.s_l3Right_L2 (List.length s16.Kids:Int) s16.Op (decide (s16.Op=6)) s16
    else
     F.s_l3Right_L2 (List.length s16.Kids:Int) s16.Op (decide (s16.Op=7)) s16
def nk(F:FsBuild)(t4:Int)(t23:Int)(t62:Bool)(s16:bC):Option (Bool×Unit) :=
 if t62=true then
  if(decide (s16.C=0))=true then
   if(decide (s16.Set=[]))=true then
    if(!s16.Not)=true then
     some ((decide (t4≥2)),())
    else
     some (false,())
   else
    some (false,())
  else
   some (false,())
 else
  if(decide (t23=8))=true then
   F.s_l3Right_L3 t4 (decide (t23=8)) s16
  else
   if(decide (t23=9))=true then
    F.s_l3Right_L3 t4 (decide (t23=9)) s16
   else
    F.s_l3Right_L3 t4 (decide (t23=10)) s16
def nn(F:FsBuild)(t4:Int)(t82:Bool)(s16:bC):Option (Bool×Unit) :=
 if t82=true then
  if(decide (s16.C=0))=true then
   if(decide (s16.Set=[]))=true then
    if(!s16.Not)=true then
     some ((decide (t4=1)),())
    else
     some (false,())
   else
    some (false,())
  else
   some (false,())
 else
  (F.s_l1In s16.Op 2 11).bind fun(r0:Bool×Unit) =>
  if r0.1=true then
   if(decide (s16.C=0))=true then
    if(decide (s16.Set=[]))=true then
     if(!s16.Not)=true then
      some ((decide (t4=0)),())
     else
      some (false,())
    else
     some (false,())
   else
    some (false,())
  else
   some (false,())
def nG(F:FsBuild)(t0:(List bz))(t1:(List bC)):Option ((List bz)×Unit) :=
 F.s_l4Or_L1 t0 t1 [] 0
def nH(F:FsBuild)(t0:(List bz))(t1:(List bC))(t5:(List Int))(t6:Int):Option ((List bz)×Unit) :=
 if(decide (t6<(w64 ((List.length t1:Int)-1))))=true then
  (F.s_l4Put t0 7).bind fun(r0:(List bz)×Unit) =>
  if(0:Int)≤t6∧t6<(List.length t1:Int) then
   (F.s_l4Of r0.1 (List.getD t1 t6.toNat dh)).bind fun(r1:(List bz)×Unit) =>
   if List.length t5+1≤room then
    (F.s_l4Put r1.1 6).bind fun(r2:(List bz)×Unit) =>
    if(0:Int)≤(List.length t0:Int)∧(List.length t0:Int)<(List.length r2.1:Int) then
     let v0:(List bz):=(List.set r2.1 (List.length t0:Int).toNat (bz.mk ((List.getD r2.1 (List.length t0:Int).toNat ci).Op) ((List.getD r2.1 (List.length t0:Int).toNat ci).C) ((List.getD r2.1 (List.length t0:Int).toNat ci).Set) ((List.getD r2.1 (List.length t0:Int).toNat ci).Not) (w64 ((List.length t0:Int)+1)) ((List.getD r2.1 (List.length t0:Int).toNat ci).B)))
     if(0:Int)≤(List.length t0:Int)∧(List.length t0:Int)<(List.length v0:Int) then
      let v1:(List bz):=(List.set v0 (List.length t0:Int).toNat (bz.mk ((List.getD v0 (List.length t0:Int).toNat ci).Op) ((List.getD v0 (List.length t0:Int).toNat ci).C) ((List.getD v0 (List.length t0:Int).toNat ci).Set) ((List.getD v0 (List.length t0:Int).toNat ci).Not) ((List.getD v0 (List.length t0:Int).toNat ci).A) (List.length v0:Int)))
      F.s_l4Or_L1 v1 t1 (List.append t5 [(List.length r1.1:Int)]) (w64 (t6+1))
     else none
    else none
   else none
  else none
 else
  if(0:Int)≤(w64 ((List.length t1:Int)-1))∧(w64 ((List.length t1:Int)-1))<(List.length t1:Int) then
   (F.s_l4Of t0 (List.getD t1 (w64 ((List.length t1:Int)-1)).toNat dh)).bind fun(r3:(List bz)×Unit) =>
   F.s_l4Or_L2 r3.1 t5 0
  else none
def nI(F:FsBuild)(t0:(List bz))(t5:(List Int))(t8:Int):Option ((List bz)×Unit) :=
 if(decide (t8<(List.length t5:Int)))=true then
  if(0:Int)≤t8∧t8<(List.length t5:Int) then
   if(0:Int)≤(List.getD t5 t8.toNat 0)∧(List.getD t5 t8.toNat 0)<(List.length t0:Int) then
    let v2:(List bz):=(List.set t0 (List.getD t5 t8.toNat 0).toNat (bz.mk ((List.getD t0 (List.getD t5 t8.toNat 0).toNat ci).Op) ((List.getD t0 (List.getD t5 t8.toNat 0).toNat ci).C) ((List.getD t0 (List.getD t5 t8.toNat 0).toNat ci).Set) ((List.getD t0 (List.getD t5 t8.toNat 0).toNat ci).Not) (List.length t0:Int) ((List.getD t0 (List.getD t5 t8.toNat 0).toNat ci).B)))
    F.s_l4Or_L2 v2 t5 (w64 (t8+1))
   else none
  else none
 else
  some (t0,())
def nB(F:FsBuild)(t0:(List Int)):Option (Bool×Unit) :=
 F.s_l3Up_L1 t0 1
def nC(F:FsBuild)(t0:(List Int))(t3:Int):Option (Bool×Unit) :=
 if(decide (t3<(List.length t0:Int)))=true then
  if(0:Int)≤(w64 (t3-1))∧(w64 (t3-1))<(List.length t0:Int) then
   if(0:Int)≤t3∧t3<(List.length t0:Int) then
    if(decide ((List.getD t0 (w64 (t3-1)).toNat 0)≥(List.getD t0 t3.toNat 0)))=true then
     some (false,())
    else
     F.s_l3Up_L1 t0 (w64 (t3+1))
   else none
  else none
 else
  some (true,())
noncomputable def bQ:FsBuild:=⟨s_l1In,s_Build,s_ProgOk,s_ProgOk_L1,s_ProgOk_L2,s_l9Line,s_l9Line_L1,s_Parse,s_Parse_L1,s_Compile,s_Compile_L1,s_l9Name,s_l9Name_L1,s_l7Within,s_l7Within_L1,s_OpsOk,s_OpsOk_L1,s_Tokens,s_Tokens_L1,s_Tokens_L2,s_l8Now,s_l8Rule,s_Deep,s_Deep_L1,s_l1Max,s_Check,s_Check_L1,s_Check_L2,s_Check_L3,s_Check_L4,s_Names,s_Names_L1,s_l14Block,s_l14Block_L1,s_l14E,s_l14E_L1,s_l14E_L2,s_l14Put,s_l7Letter,s_Keyword,s_l13Op,s_l13Op_L1,s_l13Op_L2,s_l13Op_L3,s_l13Op_L4,s_l7One,s_l7One_L1,s_l8Is,s_l8Next,s_l8Block,s_l8Block_L1,s_l8Sign,s_l8E,s_l8E_L1,s_l8Kids,s_Tidy,s_Tidy_L1,s_l10Line,s_l10Line_L1,s_l10Args,s_l10Args_L1,s_l10Args_L2,s_l10Rexes,s_l10Rexes_L1,s_l10Names,s_l10Names_L1,s_l10Names_L2,s_l14Stmt,s_l14Set,s_l14And,s_l14Or,s_l14Last,s_l7Calls,s_DecOk,s_RexParse,s_l2Digit,s_l7Number,s_l7Number_L1,s_l7Number_L2,s_l7Number_L3,s_l7Text,s_l7Text_L1,s_l7After,s_l7Rex,s_l7Rex_L1,s_l7Sign,s_l7Sign_L1,s_l8Take,s_l8Stmt,s_l8Named,s_l8Level,s_l9Node,s_l9Node_L1,s_l9IsE,s_l10Put,s_l10Put_L1,s_l14Print,s_l14Print_L1,s_l14Print_L2,s_l14If,s_l14While,s_l12Where,s_l12Where_L1,s_l1Bit,s_l3Pattern,s_l3Pattern_L1,s_l3Deep,s_l3Deep_L1,s_DecFront,s_DecFront_L1,s_DecFront_L2,s_DecFront_L3,s_DecFront_L4,s_DecFront_L5,s_l8Bad,s_l8While,s_l8Simple,s_l8Simple_L1,s_l8Es,s_l8Es_L1,s_l8Name,s_l8Compare,s_l8Compare_L1,s_l8Row,s_l8Row_L1,s_l8Unit,s_l8Left,s_l8Left_L1,s_l8Left_L2,s_l8Left_L3,s_l9Kids,s_l9Kids_L1,s_l9Kids_L2,s_l9Kids_L3,s_l9Kids_L4,s_l9Kids_L5,s_l9Rex,s_l9Rex_L1,s_l3Part,s_l3Part_L1,s_l3Now,s_l8Begins,s_l8Begins_L1,s_l8Atom,s_l9Es,s_l9Es_L1,s_l9Blocks,s_l9Blocks_L1,s_l3Piece,s_l3Piece_L1,s_l3Piece_L2,s_l3Atom,s_l3Atom_L1,s_NfaOf,s_l3Set,s_l3Set_L1,s_l3Set_L2,s_l3Set_L3,s_l3Set_L4,s_l3Set_L5,s_l3Set_L6,s_l3Set_L7,s_RexOk,s_l4Of,s_l4Of_L1,s_l4Of_L2,s_l4Put,s_l3Right,s_l3Right_L1,s_l3Right_L2,s_l3Right_L3,s_l4Or,s_l4Or_L1,s_l4Or_L2,s_l3Up,s_l3Up_L1⟩
theorem FD{F:FsBuild}(H:LeFsBuild F):∀ (t0:Int) (t1:Int) (t2:Int),LeO (mT F t0 t1 t2) (s_l1In t0 t1 t2):=fun t0 t1 t2=>(show s_l1In t0 t1 t2=mT bQ t0 t1 t2 from leq (by kernel_rfl)).symm ▸ (show LeO (mT F t0 t1 t2) (mT bQ t0 t1 t2) from(li lr lr))
theorem Eb{F:FsBuild}(H:LeFsBuild F):∀ (t0:(List Int)),LeO (lB F t0) (s_Build t0):=fun t0=>(show s_Build t0=lB bQ t0 from leq (by kernel_rfl)).symm ▸ (show LeO (lB F t0) (lB bQ t0) from(lb (H.s_Parse _) fun _=>(li lr (lb (H.s_Compile _) fun _=>lr))))
theorem EC{F:FsBuild}(H:LeFsBuild F):∀ (t0:bA),LeO (l5 F t0) (s_ProgOk t0):=fun t0=>(show s_ProgOk t0=l5 bQ t0 from leq (by kernel_rfl)).symm ▸ (show LeO (l5 F t0) (l5 bQ t0) from(H.s_ProgOk_L1 _ _))
theorem ED{F:FsBuild}(H:LeFsBuild F):∀ (t3:Int) (s16:bA),LeO (l6 F t3 s16) (s_ProgOk_L1 t3 s16):=fun t3 s16=>(show s_ProgOk_L1 t3 s16=l6 bQ t3 s16 from leq (by kernel_rfl)).symm ▸ (show LeO (l6 F t3 s16) (l6 bQ t3 s16) from(li (li (lb (H.s_l9Name _) fun _=>(li lr (li (lb (H.s_l7Within _ _) fun _=>(li lr (li (li (li (li lr (H.s_ProgOk_L1 _ _)) lr) lr) (H.s_ProgOk_L1 _ _)))) lr))) lr) (H.s_ProgOk_L2 _ _)))
theorem EE{F:FsBuild}(H:LeFsBuild F):∀ (t4:Int) (s16:bA),LeO (l7 F t4 s16) (s_ProgOk_L2 t4 s16):=fun t4 s16=>(show s_ProgOk_L2 t4 s16=l7 bQ t4 s16 from leq (by kernel_rfl)).symm ▸ (show LeO (l7 F t4 s16) (l7 bQ t4 s16) from(li (li (lb (H.s_l9Name _) fun _=>(li lr (li (li (li (li lr (H.s_ProgOk_L2 _ _)) lr) lr) (H.s_ProgOk_L2 _ _)))) lr) (li (li (lb (H.s_OpsOk _ _ _) fun _=>(li (lb (H.s_OpsOk _ _ _) fun _=>lr) lr)) lr) lr)))
theorem Hq{F:FsBuild}(H:LeFsBuild F):∀ (t0:(List Int)),LeO (oW F t0) (s_l9Line t0):=fun t0=>(show s_l9Line t0=oW bQ t0 from leq (by kernel_rfl)).symm ▸ (show LeO (oW F t0) (oW bQ t0) from(H.s_l9Line_L1 _ _))
theorem Hr{F:FsBuild}(H:LeFsBuild F):∀ (t0:(List Int)) (t3:Int),LeO (oX F t0 t3) (s_l9Line_L1 t0 t3):=fun t0 t3=>(show s_l9Line_L1 t0 t3=oX bQ t0 t3 from leq (by kernel_rfl)).symm ▸ (show LeO (oX F t0 t3) (oX bQ t0 t3) from(li (li (li lr (H.s_l9Line_L1 _ _)) lr) lr))
theorem EA{F:FsBuild}(H:LeFsBuild F):∀ (t0:(List Int)),LeO (lY F t0) (s_Parse t0):=fun t0=>(show s_Parse t0=lY bQ t0 from leq (by kernel_rfl)).symm ▸ (show LeO (lY F t0) (lY bQ t0) from(lb (H.s_Tokens _) fun _=>(li lr (H.s_Parse_L1 _ _ _ _ _ _ _ _))))
theorem EB{F:FsBuild}(H:LeFsBuild F):∀ (t4:(List bD)) (t8:(List bD)) (t9:Int) (s368_0:(List bF)) (s368_1:Int) (s368_2:Int) (s368_3:Bool) (s368_4:bv),LeO (lZ F t4 t8 t9 s368_0 s368_1 s368_2 s368_3 s368_4) (s_Parse_L1 t4 t8 t9 s368_0 s368_1 s368_2 s368_3 s368_4):=fun t4 t8 t9 s368_0 s368_1 s368_2 s368_3 s368_4=>(show s_Parse_L1 t4 t8 t9 s368_0 s368_1 s368_2 s368_3 s368_4=lZ bQ t4 t8 t9 s368_0 s368_1 s368_2 s368_3 s368_4 from leq (by kernel_rfl)).symm ▸ (show LeO (lZ F t4 t8 t9 s368_0 s368_1 s368_2 s368_3 s368_4) (lZ bQ t4 t8 t9 s368_0 s368_1 s368_2 s368_3 s368_4) from(li (lb (H.s_l8Now _) fun _=>(li (lb (H.s_l8Rule _) fun _=>(li (lb (H.s_Deep _) fun _=>(lb (H.s_Deep _) fun _=>(lb (H.s_l1Max _ _) fun _=>(lb (H.s_l1Max _ _) fun _=>(H.s_Parse_L1 _ _ _ _ _ _ _ _))))) lr)) (li lr (li lr lr)))) (li lr (li lr lr))))
theorem Eh{F:FsBuild}(H:LeFsBuild F):∀ (t0:(List bD)),LeO (lH F t0) (s_Compile t0):=fun t0=>(show s_Compile t0=lH bQ t0 from leq (by kernel_rfl)).symm ▸ (show LeO (lH F t0) (lH bQ t0) from(lb (H.s_Check _) fun _=>(li lr (lb (H.s_Names _) fun _=>(H.s_Compile_L1 _ _ _ _ _ _ _ _ _ _ _)))))
theorem Ei{F:FsBuild}(H:LeFsBuild F):∀ (t0:(List bD)) (t5:(List (List Int))) (t6:(List (List Int))) (t9:Int) (s32:bA) (s432_0:(List (List Int))) (s432_1:(List (List Int))) (s432_2:(List bw)) (s496_0:(List (List Int))) (s496_1:(List (List Int))) (s496_2:(List bw)),LeO (lI F t0 t5 t6 t9 s32 s432_0 s432_1 s432_2 s496_0 s496_1 s496_2) (s_Compile_L1 t0 t5 t6 t9 s32 s432_0 s432_1 s432_2 s496_0 s496_1 s496_2):=fun t0 t5 t6 t9 s32 s432_0 s432_1 s432_2 s496_0 s496_1 s496_2=>(show s_Compile_L1 t0 t5 t6 t9 s32 s432_0 s432_1 s432_2 s496_0 s496_1 s496_2=lI bQ t0 t5 t6 t9 s32 s432_0 s432_1 s432_2 s496_0 s496_1 s496_2 from leq (by kernel_rfl)).symm ▸ (show LeO (lI F t0 t5 t6 t9 s32 s432_0 s432_1 s432_2 s496_0 s496_1 s496_2) (lI bQ t0 t5 t6 t9 s32 s432_0 s432_1 s432_2 s496_0 s496_1 s496_2) from(li (li (li (lb (H.s_l14Block _ _ _ _) fun _=>(H.s_Compile_L1 _ _ _ _ _ _ _ _ _ _ _)) (li (lb (H.s_l14Block _ _ _ _) fun _=>(H.s_Compile_L1 _ _ _ _ _ _ _ _ _ _ _)) (lb (H.s_l14E _ _ _ _) fun _=>(lb (H.s_l14Put _ _ _ _ _ _) fun _=>(lb (H.s_l14Block _ _ _ _) fun _=>(li (H.s_Compile_L1 _ _ _ _ _ _ _ _ _ _ _) lr)))))) lr) (lb (H.s_l14Put _ _ _ _ _ _) fun _=>(lb (H.s_l14Put _ _ _ _ _ _) fun _=>(lb (H.s_ProgOk _) fun _=>(li lr lr))))))
theorem Hs{F:FsBuild}(H:LeFsBuild F):∀ (t0:(List Int)),LeO (oY F t0) (s_l9Name t0):=fun t0=>(show s_l9Name t0=oY bQ t0 from leq (by kernel_rfl)).symm ▸ (show LeO (oY F t0) (oY bQ t0) from(H.s_l9Name_L1 _ _))
theorem Ht{F:FsBuild}(H:LeFsBuild F):∀ (t0:(List Int)) (t3:Int),LeO (oZ F t0 t3) (s_l9Name_L1 t0 t3):=fun t0 t3=>(show s_l9Name_L1 t0 t3=oZ bQ t0 t3 from leq (by kernel_rfl)).symm ▸ (show LeO (oZ F t0 t3) (oZ bQ t0 t3) from(li (li (lb (H.s_l7Letter _) fun _=>(li lr (H.s_l9Name_L1 _ _))) lr) (lb (H.s_l1In _ _ _) fun _=>(li (lb (H.s_Keyword _) fun _=>lr) lr))))
theorem GD{F:FsBuild}(H:LeFsBuild F):∀ (t0:(List (List Int))) (t1:(List Int)),LeO (nZ F t0 t1) (s_l7Within t0 t1):=fun t0 t1=>(show s_l7Within t0 t1=nZ bQ t0 t1 from leq (by kernel_rfl)).symm ▸ (show LeO (nZ F t0 t1) (nZ bQ t0 t1) from(H.s_l7Within_L1 _ _ _))
theorem GE{F:FsBuild}(H:LeFsBuild F):∀ (t0:(List (List Int))) (t1:(List Int)) (t5:Int),LeO (n6 F t0 t1 t5) (s_l7Within_L1 t0 t1 t5):=fun t0 t1 t5=>(show s_l7Within_L1 t0 t1 t5=n6 bQ t0 t1 t5 from leq (by kernel_rfl)).symm ▸ (show LeO (n6 F t0 t1 t5) (n6 bQ t0 t1 t5) from(li (li (li lr (H.s_l7Within_L1 _ _ _)) lr) lr))
theorem Ey{F:FsBuild}(H:LeFsBuild F):∀ (t0:(List bw)) (t1:Int) (t2:Int),LeO (lW F t0 t1 t2) (s_OpsOk t0 t1 t2):=fun t0 t1 t2=>(show s_OpsOk t0 t1 t2=lW bQ t0 t1 t2 from leq (by kernel_rfl)).symm ▸ (show LeO (lW F t0 t1 t2) (lW bQ t0 t1 t2) from(lb (H.s_l1In _ _ _) fun _=>(li lr (li (li lr (H.s_OpsOk_L1 _ _ _ _ _)) lr))))
theorem Ez{F:FsBuild}(H:LeFsBuild F):∀ (t0:(List bw)) (t1:Int) (t2:Int) (t7:Int) (t8:Int),LeO (lX F t0 t1 t2 t7 t8) (s_OpsOk_L1 t0 t1 t2 t7 t8):=fun t0 t1 t2 t7 t8=>(show s_OpsOk_L1 t0 t1 t2 t7 t8=lX bQ t0 t1 t2 t7 t8 from leq (by kernel_rfl)).symm ▸ (show LeO (lX F t0 t1 t2 t7 t8) (lX bQ t0 t1 t2 t7 t8) from(li (li (lb (H.s_l13Op _ _ _ _) fun _=>(li lr (H.s_OpsOk_L1 _ _ _ _ _))) lr) lr))
theorem EJ{F:FsBuild}(H:LeFsBuild F):∀ (t0:(List Int)),LeO (mc F t0) (s_Tokens t0):=fun t0=>(show s_Tokens t0=mc bQ t0 from leq (by kernel_rfl)).symm ▸ (show LeO (mc F t0) (mc bQ t0) from(li lr (H.s_Tokens_L1 _ _ _)))
theorem EK{F:FsBuild}(H:LeFsBuild F):∀ (t0:(List Int)) (t4:(List bF)) (t5:Int),LeO (md F t0 t4 t5) (s_Tokens_L1 t0 t4 t5):=fun t0 t4 t5=>(show s_Tokens_L1 t0 t4 t5=md bQ t0 t4 t5 from leq (by kernel_rfl)).symm ▸ (show LeO (md F t0 t4 t5) (md bQ t0 t4 t5) from(li (li (li (H.s_Tokens_L1 _ _ _) (li (li (H.s_Tokens_L1 _ _ _) (li (li (H.s_Tokens_L2 _ _ _) (lb (H.s_l7One _ _ _) fun _=>(li lr (li (H.s_Tokens_L1 _ _ _) lr)))) lr)) lr)) lr) (li lr lr)))
theorem EL{F:FsBuild}(H:LeFsBuild F):∀ (t0:(List Int)) (t4:(List bF)) (t5:Int),LeO (me F t0 t4 t5) (s_Tokens_L2 t0 t4 t5):=fun t0 t4 t5=>(show s_Tokens_L2 t0 t4 t5=me bQ t0 t4 t5 from leq (by kernel_rfl)).symm ▸ (show LeO (me F t0 t4 t5) (me bQ t0 t4 t5) from(li (li (li (H.s_Tokens_L2 _ _ _) (H.s_Tokens_L1 _ _ _)) lr) (H.s_Tokens_L1 _ _ _)))
theorem G4{F:FsBuild}(H:LeFsBuild F):∀ (s0:bO),LeO (oA F s0) (s_l8Now s0):=fun s0=>(show s_l8Now s0=oA bQ s0 from leq (by kernel_rfl)).symm ▸ (show LeO (oA F s0) (oA bQ s0) from(li lr lr))
theorem G7{F:FsBuild}(H:LeFsBuild F):∀ (s0:bO),LeO (oD F s0) (s_l8Rule s0):=fun s0=>(show s_l8Rule s0=oD bQ s0 from leq (by kernel_rfl)).symm ▸ (show LeO (oD F s0) (oD bQ s0) from(lb (H.s_l8Is _ _) fun _=>(li (lb (H.s_l8Next _) fun _=>(lb (H.s_l8Block _) fun _=>lr)) (lb (H.s_l8Sign _ _) fun _=>(li (lb (H.s_l8Block _) fun _=>lr) (lb (H.s_l8E _) fun _=>(lb (H.s_l8Sign _ _) fun _=>(li (lb (H.s_l8Block _) fun _=>lr) (lb (H.s_l8Kids _ _) fun _=>lr)))))))))
theorem Er{F:FsBuild}(H:LeFsBuild F):∀ (t0:bv),LeO (lQ F t0) (s_Deep t0):=fun t0=>(show s_Deep t0=lQ bQ t0 from leq (by kernel_rfl)).symm ▸ (show LeO (lQ F t0) (lQ bQ t0) from(H.s_Deep_L1 _ _ _))
theorem Es{F:FsBuild}(H:LeFsBuild F):∀ (t3:Int) (t4:Int) (s16:bv),LeO (lR F t3 t4 s16) (s_Deep_L1 t3 t4 s16):=fun t3 t4 s16=>(show s_Deep_L1 t3 t4 s16=lR bQ t3 t4 s16 from leq (by kernel_rfl)).symm ▸ (show LeO (lR F t3 t4 s16) (lR bQ t3 t4 s16) from(li (li (lb (H.s_Deep _) fun _=>(lb (H.s_l1Max _ _) fun _=>(H.s_Deep_L1 _ _ _))) lr) lr))
theorem FE{F:FsBuild}(H:LeFsBuild F):∀ (t0:Int) (t1:Int),LeO (mU F t0 t1) (s_l1Max t0 t1):=fun t0 t1=>(show s_l1Max t0 t1=mU bQ t0 t1 from leq (by kernel_rfl)).symm ▸ (show LeO (mU F t0 t1) (mU bQ t0 t1) from(li lr lr))
theorem Ec{F:FsBuild}(H:LeFsBuild F):∀ (t0:(List bD)),LeO (lC F t0) (s_Check t0):=fun t0=>(show s_Check t0=lC bQ t0 from leq (by kernel_rfl)).symm ▸ (show LeO (lC F t0) (lC bQ t0) from(lb (H.s_Tidy _) fun _=>(li lr (H.s_Check_L1 _ _))))
theorem Ed{F:FsBuild}(H:LeFsBuild F):∀ (t0:(List bD)) (t3:Int),LeO (lD F t0 t3) (s_Check_L1 t0 t3):=fun t0 t3=>(show s_Check_L1 t0 t3=lD bQ t0 t3 from leq (by kernel_rfl)).symm ▸ (show LeO (lD F t0 t3) (lD bQ t0 t3) from(li (li (li (li lr (li (lb (H.s_l10Line _) fun _=>(li lr (H.s_Check_L1 _ _))) lr)) (H.s_Check_L1 _ _)) lr) (lb (H.s_Names _) fun _=>(li lr (li lr (H.s_Check_L2 _ _ _ _))))))
theorem Ee{F:FsBuild}(H:LeFsBuild F):∀ (t0:(List bD)) (t4:(List (List Int))) (t5:(List (List Int))) (t6:Int),LeO (lE F t0 t4 t5 t6) (s_Check_L2 t0 t4 t5 t6):=fun t0 t4 t5 t6=>(show s_Check_L2 t0 t4 t5 t6=lE bQ t0 t4 t5 t6 from leq (by kernel_rfl)).symm ▸ (show LeO (lE F t0 t4 t5 t6) (lE bQ t0 t4 t5 t6) from(li (li (lb (H.s_l7Within _ _) fun _=>(li lr (H.s_Check_L2 _ _ _ _))) lr) (H.s_Check_L3 _ _)))
theorem Ef{F:FsBuild}(H:LeFsBuild F):∀ (t0:(List bD)) (t7:Int),LeO (lF F t0 t7) (s_Check_L3 t0 t7):=fun t0 t7=>(show s_Check_L3 t0 t7=lF bQ t0 t7 from leq (by kernel_rfl)).symm ▸ (show LeO (lF F t0 t7) (lF bQ t0 t7) from(li (li (lb (H.s_l10Args _) fun _=>(li lr (li (lb (H.s_l10Args _) fun _=>(li lr (H.s_Check_L3 _ _))) lr))) lr) (H.s_Check_L4 _ _)))
theorem Eg{F:FsBuild}(H:LeFsBuild F):∀ (t0:(List bD)) (t8:Int),LeO (lG F t0 t8) (s_Check_L4 t0 t8):=fun t0 t8=>(show s_Check_L4 t0 t8=lG bQ t0 t8 from leq (by kernel_rfl)).symm ▸ (show LeO (lG F t0 t8) (lG bQ t0 t8) from(li (li (lb (H.s_l10Rexes _) fun _=>(li lr (li (lb (H.s_l10Rexes _) fun _=>(li lr (H.s_Check_L4 _ _))) lr))) lr) lr))
theorem Ev{F:FsBuild}(H:LeFsBuild F):∀ (t0:(List bD)),LeO (lT F t0) (s_Names t0):=fun t0=>(show s_Names t0=lT bQ t0 from leq (by kernel_rfl)).symm ▸ (show LeO (lT F t0) (lT bQ t0) from(H.s_Names_L1 _ _ _ _))
theorem Ew{F:FsBuild}(H:LeFsBuild F):∀ (t0:(List bD)) (t4:(List (List Int))) (t5:(List (List Int))) (t6:Int),LeO (lU F t0 t4 t5 t6) (s_Names_L1 t0 t4 t5 t6):=fun t0 t4 t5 t6=>(show s_Names_L1 t0 t4 t5 t6=lU bQ t0 t4 t5 t6 from leq (by kernel_rfl)).symm ▸ (show LeO (lU F t0 t4 t5 t6) (lU bQ t0 t4 t5 t6) from(li (li (lb (H.s_l10Names _ _ _) fun _=>(li (lb (H.s_l10Names _ _ _) fun _=>(H.s_Names_L1 _ _ _ _)) lr)) lr) lr))
theorem E9{F:FsBuild}(H:LeFsBuild F):∀ (s0_0:(List (List Int))) (s0_1:(List (List Int))) (s0_2:(List bw)) (t1:bv),LeO (mD F s0_0 s0_1 s0_2 t1) (s_l14Block s0_0 s0_1 s0_2 t1):=fun s0_0 s0_1 s0_2 t1=>(show s_l14Block s0_0 s0_1 s0_2 t1=mD bQ s0_0 s0_1 s0_2 t1 from leq (by kernel_rfl)).symm ▸ (show LeO (mD F s0_0 s0_1 s0_2 t1) (mD bQ s0_0 s0_1 s0_2 t1) from(H.s_l14Block_L1 _ _ _ _ _))
theorem Fe{F:FsBuild}(H:LeFsBuild F):∀ (t4:Int) (s0_0:(List (List Int))) (s0_1:(List (List Int))) (s0_2:(List bw)) (s48:bv),LeO (mE F t4 s0_0 s0_1 s0_2 s48) (s_l14Block_L1 t4 s0_0 s0_1 s0_2 s48):=fun t4 s0_0 s0_1 s0_2 s48=>(show s_l14Block_L1 t4 s0_0 s0_1 s0_2 s48=mE bQ t4 s0_0 s0_1 s0_2 s48 from leq (by kernel_rfl)).symm ▸ (show LeO (mE F t4 s0_0 s0_1 s0_2 s48) (mE bQ t4 s0_0 s0_1 s0_2 s48) from(li (li (lb (H.s_l14Stmt _ _ _ _) fun _=>(H.s_l14Block_L1 _ _ _ _ _)) lr) lr))
theorem Fg{F:FsBuild}(H:LeFsBuild F):∀ (s0_0:(List (List Int))) (s0_1:(List (List Int))) (s0_2:(List bw)) (t1:bv),LeO (mF F s0_0 s0_1 s0_2 t1) (s_l14E s0_0 s0_1 s0_2 t1):=fun s0_0 s0_1 s0_2 t1=>(show s_l14E s0_0 s0_1 s0_2 t1=mF bQ s0_0 s0_1 s0_2 t1 from leq (by kernel_rfl)).symm ▸ (show LeO (mF F s0_0 s0_1 s0_2 t1) (mF bQ s0_0 s0_1 s0_2 t1) from(li (H.s_l14E_L1 _ _ _ _ _ _) (H.s_l14E_L1 _ _ _ _ _ _)))
theorem Fh{F:FsBuild}(H:LeFsBuild F):∀ (t6:Int) (t24:Bool) (s0_0:(List (List Int))) (s0_1:(List (List Int))) (s0_2:(List bw)) (s48:bv),LeO (mG F t6 t24 s0_0 s0_1 s0_2 s48) (s_l14E_L1 t6 t24 s0_0 s0_1 s0_2 s48):=fun t6 t24 s0_0 s0_1 s0_2 s48=>(show s_l14E_L1 t6 t24 s0_0 s0_1 s0_2 s48=mG bQ t6 t24 s0_0 s0_1 s0_2 s48 from leq (by kernel_rfl)).symm ▸ (show LeO (mG F t6 t24 s0_0 s0_1 s0_2 s48) (mG bQ t6 t24 s0_0 s0_1 s0_2 s48) from(li (lb (H.s_l14Set _ _ _ _) fun _=>lr) (li (lb (H.s_l14And _ _ _ _) fun _=>lr) (li (lb (H.s_l14Or _ _ _ _) fun _=>lr) (li (li (lb (H.s_l14E _ _ _ _) fun _=>(li (lb (H.s_l14Put _ _ _ _ _ _) fun _=>lr) lr)) lr) (H.s_l14E_L2 _ _ _ _ _))))))
theorem Fi{F:FsBuild}(H:LeFsBuild F):∀ (t4:Int) (s0_0:(List (List Int))) (s0_1:(List (List Int))) (s0_2:(List bw)) (s48:bv),LeO (mH F t4 s0_0 s0_1 s0_2 s48) (s_l14E_L2 t4 s0_0 s0_1 s0_2 s48):=fun t4 s0_0 s0_1 s0_2 s48=>(show s_l14E_L2 t4 s0_0 s0_1 s0_2 s48=mH bQ t4 s0_0 s0_1 s0_2 s48 from leq (by kernel_rfl)).symm ▸ (show LeO (mH F t4 s0_0 s0_1 s0_2 s48) (mH bQ t4 s0_0 s0_1 s0_2 s48) from(li (li (lb (H.s_l14E _ _ _ _) fun _=>(H.s_l14E_L2 _ _ _ _ _)) lr) (lb (H.s_l14Last _ _ _ _) fun _=>lr)))
theorem Fw{F:FsBuild}(H:LeFsBuild F):∀ (s0_0:(List (List Int))) (s0_1:(List (List Int))) (s0_2:(List bw)) (t1:Int) (t2:Int) (t3:(List Int)),LeO (mO F s0_0 s0_1 s0_2 t1 t2 t3) (s_l14Put s0_0 s0_1 s0_2 t1 t2 t3):=fun s0_0 s0_1 s0_2 t1 t2 t3=>(show s_l14Put s0_0 s0_1 s0_2 t1 t2 t3=mO bQ s0_0 s0_1 s0_2 t1 t2 t3 from leq (by kernel_rfl)).symm ▸ (show LeO (mO F s0_0 s0_1 s0_2 t1 t2 t3) (mO bQ s0_0 s0_1 s0_2 t1 t2 t3) from(li lr lr))
theorem Gq{F:FsBuild}(H:LeFsBuild F):∀ (t0:Int),LeO (nM F t0) (s_l7Letter t0):=fun t0=>(show s_l7Letter t0=nM bQ t0 from leq (by kernel_rfl)).symm ▸ (show LeO (nM F t0) (nM bQ t0) from(li (li lr (li lr lr)) (li lr lr)))
theorem Et{F:FsBuild}(H:LeFsBuild F):∀ (t0:(List Int)),LeO (lS F t0) (s_Keyword t0):=fun t0=>(show s_Keyword t0=lS bQ t0 from leq (by kernel_rfl)).symm ▸ (show LeO (lS F t0) (lS bQ t0) from(lb (H.s_l7Within _ _) fun _=>(li lr (lb (H.s_l7Calls ) fun _=>(lb (H.s_l7Within _ _) fun _=>lr)))))
theorem E3{F:FsBuild}(H:LeFsBuild F):∀ (t0:bw) (t1:Int) (t2:Int) (t3:Int),LeO (mw F t0 t1 t2 t3) (s_l13Op t0 t1 t2 t3):=fun t0 t1 t2 t3=>(show s_l13Op t0 t1 t2 t3=mw bQ t0 t1 t2 t3 from leq (by kernel_rfl)).symm ▸ (show LeO (mw F t0 t1 t2 t3) (mw bQ t0 t1 t2 t3) from(li (lb (H.s_DecOk _) fun _=>(li lr lr)) (li lr (li (H.s_l13Op_L1 _ _ _ _ _ _) (li (H.s_l13Op_L1 _ _ _ _ _ _) (H.s_l13Op_L1 _ _ _ _ _ _))))))
theorem E4{F:FsBuild}(H:LeFsBuild F):∀ (t1:Int) (t2:Int) (t3:Int) (t12:Int) (t28:Bool) (s64:bw),LeO (my F t1 t2 t3 t12 t28 s64) (s_l13Op_L1 t1 t2 t3 t12 t28 s64):=fun t1 t2 t3 t12 t28 s64=>(show s_l13Op_L1 t1 t2 t3 t12 t28 s64=my bQ t1 t2 t3 t12 t28 s64 from leq (by kernel_rfl)).symm ▸ (show LeO (my F t1 t2 t3 t12 t28 s64) (my bQ t1 t2 t3 t12 t28 s64) from(li (li (li lr lr) lr) (li (H.s_l13Op_L2 _ _ _ _ _) (li (H.s_l13Op_L2 _ _ _ _ _) (li (H.s_l13Op_L2 _ _ _ _ _) (H.s_l13Op_L2 _ _ _ _ _))))))
theorem E5{F:FsBuild}(H:LeFsBuild F):∀ (t1:Int) (t3:Int) (t12:Int) (t46:Bool) (s64:bw),LeO (mz F t1 t3 t12 t46 s64) (s_l13Op_L2 t1 t3 t12 t46 s64):=fun t1 t3 t12 t46 s64=>(show s_l13Op_L2 t1 t3 t12 t46 s64=mz bQ t1 t3 t12 t46 s64 from leq (by kernel_rfl)).symm ▸ (show LeO (mz F t1 t3 t12 t46 s64) (mz bQ t1 t3 t12 t46 s64) from(li (li (li lr lr) lr) (li (H.s_l13Op_L3 _ _ _ _) (H.s_l13Op_L3 _ _ _ _))))
theorem E6{F:FsBuild}(H:LeFsBuild F):∀ (t1:Int) (t12:Int) (t65:Bool) (s64:bw),LeO (mA F t1 t12 t65 s64) (s_l13Op_L3 t1 t12 t65 s64):=fun t1 t12 t65 s64=>(show s_l13Op_L3 t1 t12 t65 s64=mA bQ t1 t12 t65 s64 from leq (by kernel_rfl)).symm ▸ (show LeO (mA F t1 t12 t65 s64) (mA bQ t1 t12 t65 s64) from(li (lb (H.s_RexParse _) fun _=>(li lr lr)) (li (lb (H.s_l1In _ _ _) fun _=>(li (lb (H.s_l7Calls ) fun _=>(lb (H.s_l7Within _ _) fun _=>lr)) lr)) (li (H.s_l13Op_L4 _ _ _ _) (H.s_l13Op_L4 _ _ _ _)))))
theorem E7{F:FsBuild}(H:LeFsBuild F):∀ (t1:Int) (t12:Int) (t91:Bool) (s64:bw),LeO (mB F t1 t12 t91 s64) (s_l13Op_L4 t1 t12 t91 s64):=fun t1 t12 t91 s64=>(show s_l13Op_L4 t1 t12 t91 s64=mB bQ t1 t12 t91 s64 from leq (by kernel_rfl)).symm ▸ (show LeO (mB F t1 t12 t91 s64) (mB bQ t1 t12 t91 s64) from(li (lb (H.s_l1In _ _ _) fun _=>(li lr lr)) (li (lb (H.s_l1In _ _ _) fun _=>(li lr lr)) (lb (H.s_l1In _ _ _) fun _=>(li (li lr lr) lr)))))
theorem Gv{F:FsBuild}(H:LeFsBuild F):∀ (t0:(List Int)) (t1:Int) (t2:(List bF)),LeO (nR F t0 t1 t2) (s_l7One t0 t1 t2):=fun t0 t1 t2=>(show s_l7One t0 t1 t2=nR bQ t0 t1 t2 from leq (by kernel_rfl)).symm ▸ (show LeO (nR F t0 t1 t2) (nR bQ t0 t1 t2) from(li (lb (H.s_l7Letter _) fun _=>(li (H.s_l7One_L1 _ _ _ _) (lb (H.s_l2Digit _) fun _=>(li (lb (H.s_l7Number _ _) fun _=>lr) (li (lb (H.s_l7Text _ _) fun _=>lr) (li (lb (H.s_l7After _) fun _=>(li (lb (H.s_l7Rex _ _) fun _=>lr) (lb (H.s_l7Sign _ _) fun _=>lr))) (lb (H.s_l7Sign _ _) fun _=>lr))))))) lr))
theorem Gw{F:FsBuild}(H:LeFsBuild F):∀ (t0:(List Int)) (t1:Int) (t10:Int) (s96:bF),LeO (nS F t0 t1 t10 s96) (s_l7One_L1 t0 t1 t10 s96):=fun t0 t1 t10 s96=>(show s_l7One_L1 t0 t1 t10 s96=nS bQ t0 t1 t10 s96 from leq (by kernel_rfl)).symm ▸ (show LeO (nS F t0 t1 t10 s96) (nS bQ t0 t1 t10 s96) from(li (li (lb (H.s_l7Letter _) fun _=>(li (H.s_l7One_L1 _ _ _ _) (li lr lr))) lr) (li lr lr)))
theorem GR{F:FsBuild}(H:LeFsBuild F):∀ (s0:bO) (t1:(List Int)),LeO (om F s0 t1) (s_l8Is s0 t1):=fun s0 t1=>(show s_l8Is s0 t1=om bQ s0 t1 from leq (by kernel_rfl)).symm ▸ (show LeO (om F s0 t1) (om bQ s0 t1) from(lb (H.s_l8Now _) fun _=>(li (li lr lr) lr)))
theorem G0{F:FsBuild}(H:LeFsBuild F):∀ (s0:bO),LeO (oz F s0) (s_l8Next s0):=fun s0=>(show s_l8Next s0=oz bQ s0 from leq (by kernel_rfl)).symm ▸ (show LeO (oz F s0) (oz bQ s0) from(li lr lr))
theorem GJ{F:FsBuild}(H:LeFsBuild F):∀ (s0:bO),LeO (ob F s0) (s_l8Block s0):=fun s0=>(show s_l8Block s0=ob bQ s0 from leq (by kernel_rfl)).symm ▸ (show LeO (ob F s0) (ob bQ s0) from(lb (H.s_l8Take _ _) fun _=>(H.s_l8Block_L1 _ _ _ _ _ _ _ _ _)))
theorem GK{F:FsBuild}(H:LeFsBuild F):∀ (s0:bO) (s32_0:Int) (s32_1:Int) (s32_2:(List Int)) (s32_3:(List bv)) (s48_0:Int) (s48_1:Int) (s48_2:(List Int)) (s48_3:(List bv)),LeO (oc F s0 s32_0 s32_1 s32_2 s32_3 s48_0 s48_1 s48_2 s48_3) (s_l8Block_L1 s0 s32_0 s32_1 s32_2 s32_3 s48_0 s48_1 s48_2 s48_3):=fun s0 s32_0 s32_1 s32_2 s32_3 s48_0 s48_1 s48_2 s48_3=>(show s_l8Block_L1 s0 s32_0 s32_1 s32_2 s32_3 s48_0 s48_1 s48_2 s48_3=oc bQ s0 s32_0 s32_1 s32_2 s32_3 s48_0 s48_1 s48_2 s48_3 from leq (by kernel_rfl)).symm ▸ (show LeO (oc F s0 s32_0 s32_1 s32_2 s32_3 s48_0 s48_1 s48_2 s48_3) (oc bQ s0 s32_0 s32_1 s32_2 s32_3 s48_0 s48_1 s48_2 s48_3) from(li (lb (H.s_l8Sign _ _) fun _=>(li (lb (H.s_l8Sign _ _) fun _=>(li (lb (H.s_l8Next _) fun _=>(H.s_l8Block_L1 _ _ _ _ _ _ _ _ _)) (lb (H.s_l8Stmt _) fun _=>(li (H.s_l8Block_L1 _ _ _ _ _ _ _ _ _) lr)))) (lb (H.s_l8Take _ _) fun _=>lr))) (lb (H.s_l8Take _ _) fun _=>lr)))
theorem G8{F:FsBuild}(H:LeFsBuild F):∀ (s0:bO) (t1:(List Int)),LeO (oE F s0 t1) (s_l8Sign s0 t1):=fun s0 t1=>(show s_l8Sign s0 t1=oE bQ s0 t1 from leq (by kernel_rfl)).symm ▸ (show LeO (oE F s0 t1) (oE bQ s0 t1) from(lb (H.s_l8Now _) fun _=>(li (li lr lr) lr)))
theorem GN{F:FsBuild}(H:LeFsBuild F):∀ (s0:bO),LeO (oh F s0) (s_l8E s0):=fun s0=>(show s_l8E s0=oh bQ s0 from leq (by kernel_rfl)).symm ▸ (show LeO (oh F s0) (oh bQ s0) from(lb (H.s_l8Now _) fun _=>(li (li (lb (H.s_Keyword _) fun _=>(li (lb (H.s_l8Named _) fun _=>(lb (H.s_l8Sign _ _) fun _=>(li (H.s_l8E_L1 _ _ _ _ _ _ _) (lb (H.s_l8Sign _ _) fun _=>(li (H.s_l8E_L1 _ _ _ _ _ _ _) (H.s_l8E_L1 _ _ _ _ _ _ _)))))) (lb (H.s_l8Level _ _) fun _=>lr))) (lb (H.s_l8Level _ _) fun _=>lr)) (lb (H.s_l8Level _ _) fun _=>lr))))
theorem GO{F:FsBuild}(H:LeFsBuild F):∀ (t5:Int) (s0:bO) (s32_0:Int) (s32_1:Int) (s32_2:(List Int)) (s32_3:(List bv)) (s64:bv),LeO (oi F t5 s0 s32_0 s32_1 s32_2 s32_3 s64) (s_l8E_L1 t5 s0 s32_0 s32_1 s32_2 s32_3 s64):=fun t5 s0 s32_0 s32_1 s32_2 s32_3 s64=>(show s_l8E_L1 t5 s0 s32_0 s32_1 s32_2 s32_3 s64=oi bQ t5 s0 s32_0 s32_1 s32_2 s32_3 s64 from leq (by kernel_rfl)).symm ▸ (show LeO (oi F t5 s0 s32_0 s32_1 s32_2 s32_3 s64) (oi bQ t5 s0 s32_0 s32_1 s32_2 s32_3 s64) from(li (lb (H.s_l8Next _) fun _=>(lb (H.s_l8E _) fun _=>(lb (H.s_l8Kids _ _) fun _=>lr))) (lb (H.s_l8Level _ _) fun _=>lr)))
theorem GS{F:FsBuild}(H:LeFsBuild F):∀ (t0:Int) (t1:(List bv)),LeO (oo F t0 t1) (s_l8Kids t0 t1):=fun t0 t1=>(show s_l8Kids t0 t1=oo bQ t0 t1 from leq (by kernel_rfl)).symm ▸ (show LeO (oo F t0 t1) (oo bQ t0 t1) from(li lr lr))
theorem EH{F:FsBuild}(H:LeFsBuild F):∀ (t0:(List bD)),LeO (ma F t0) (s_Tidy t0):=fun t0=>(show s_Tidy t0=ma bQ t0 from leq (by kernel_rfl)).symm ▸ (show LeO (ma F t0) (ma bQ t0) from(H.s_Tidy_L1 _ _))
theorem EI{F:FsBuild}(H:LeFsBuild F):∀ (t0:(List bD)) (t3:Int),LeO (mb F t0 t3) (s_Tidy_L1 t0 t3):=fun t0 t3=>(show s_Tidy_L1 t0 t3=mb bQ t0 t3 from leq (by kernel_rfl)).symm ▸ (show LeO (mb F t0 t3) (mb bQ t0 t3) from(li (li (li (li (li (lb (H.s_l1In _ _ _) fun _=>(li (li (li lr (lb (H.s_Deep _) fun _=>(li lr (lb (H.s_l9Node _) fun _=>(li lr (H.s_Tidy_L1 _ _)))))) (li (lb (H.s_l9IsE _) fun _=>(li (lb (H.s_l9Node _) fun _=>(li (lb (H.s_Deep _) fun _=>(li lr (li lr (lb (H.s_Deep _) fun _=>(li lr (lb (H.s_l9Node _) fun _=>(li lr (H.s_Tidy_L1 _ _)))))))) lr)) lr)) lr)) (li (lb (H.s_l9IsE _) fun _=>(li (lb (H.s_l9Node _) fun _=>(li (lb (H.s_Deep _) fun _=>(li lr (li lr (lb (H.s_Deep _) fun _=>(li lr (lb (H.s_l9Node _) fun _=>(li lr (H.s_Tidy_L1 _ _)))))))) lr)) lr)) lr))) (lb (H.s_l1In _ _ _) fun _=>(li (li (lb (H.s_l9IsE _) fun _=>(li (lb (H.s_l9Node _) fun _=>(li (lb (H.s_Deep _) fun _=>(li lr (li lr (lb (H.s_Deep _) fun _=>(li lr (lb (H.s_l9Node _) fun _=>(li lr (H.s_Tidy_L1 _ _)))))))) lr)) lr)) lr) (li (lb (H.s_l9IsE _) fun _=>(li (lb (H.s_l9Node _) fun _=>(li (lb (H.s_Deep _) fun _=>(li lr (li lr (lb (H.s_Deep _) fun _=>(li lr (lb (H.s_l9Node _) fun _=>(li lr (H.s_Tidy_L1 _ _)))))))) lr)) lr)) lr)))) (lb (H.s_l1In _ _ _) fun _=>(li (li (lb (H.s_l9IsE _) fun _=>(li (lb (H.s_l9Node _) fun _=>(li (lb (H.s_Deep _) fun _=>(li lr (li lr (lb (H.s_Deep _) fun _=>(li lr (lb (H.s_l9Node _) fun _=>(li lr (H.s_Tidy_L1 _ _)))))))) lr)) lr)) lr) (li (lb (H.s_l9IsE _) fun _=>(li (lb (H.s_l9Node _) fun _=>(li (lb (H.s_Deep _) fun _=>(li lr (li lr (lb (H.s_Deep _) fun _=>(li lr (lb (H.s_l9Node _) fun _=>(li lr (H.s_Tidy_L1 _ _)))))))) lr)) lr)) lr)))) (lb (H.s_l1In _ _ _) fun _=>(li (li (lb (H.s_l9IsE _) fun _=>(li (lb (H.s_l9Node _) fun _=>(li (lb (H.s_Deep _) fun _=>(li lr (li lr (lb (H.s_Deep _) fun _=>(li lr (lb (H.s_l9Node _) fun _=>(li lr (H.s_Tidy_L1 _ _)))))))) lr)) lr)) lr) (li (lb (H.s_l9IsE _) fun _=>(li (lb (H.s_l9Node _) fun _=>(li (lb (H.s_Deep _) fun _=>(li lr (li lr (lb (H.s_Deep _) fun _=>(li lr (lb (H.s_l9Node _) fun _=>(li lr (H.s_Tidy_L1 _ _)))))))) lr)) lr)) lr)))) lr) lr))
theorem EP{F:FsBuild}(H:LeFsBuild F):∀ (t0:bv),LeO (mi F t0) (s_l10Line t0):=fun t0=>(show s_l10Line t0=mi bQ t0 from leq (by kernel_rfl)).symm ▸ (show LeO (mi F t0) (mi bQ t0) from(li lr (li lr (li lr (li lr (li lr (H.s_l10Line_L1 _ _)))))))
theorem EQ{F:FsBuild}(H:LeFsBuild F):∀ (t3:Int) (s16:bv),LeO (mj F t3 s16) (s_l10Line_L1 t3 s16):=fun t3 s16=>(show s_l10Line_L1 t3 s16=mj bQ t3 s16 from leq (by kernel_rfl)).symm ▸ (show LeO (mj F t3 s16) (mj bQ t3 s16) from(li (li (li (li (li (H.s_l10Line_L1 _ _) (li (lb (H.s_l10Line _) fun _=>(li lr (H.s_l10Line_L1 _ _))) lr)) lr) (li (lb (H.s_l10Line _) fun _=>(li lr (H.s_l10Line_L1 _ _))) lr)) (li (lb (H.s_l10Line _) fun _=>(li lr (H.s_l10Line_L1 _ _))) lr)) lr))
theorem EM{F:FsBuild}(H:LeFsBuild F):∀ (t0:bv),LeO (mf F t0) (s_l10Args t0):=fun t0=>(show s_l10Args t0=mf bQ t0 from leq (by kernel_rfl)).symm ▸ (show LeO (mf F t0) (mf bQ t0) from(li (li (li lr (H.s_l10Args_L1 _ _)) (li (li (li lr (H.s_l10Args_L1 _ _)) (H.s_l10Args_L1 _ _)) (li lr (H.s_l10Args_L1 _ _)))) (H.s_l10Args_L1 _ _)))
theorem EN{F:FsBuild}(H:LeFsBuild F):∀ (t3:Int) (s16:bv),LeO (mg F t3 s16) (s_l10Args_L1 t3 s16):=fun t3 s16=>(show s_l10Args_L1 t3 s16=mg bQ t3 s16 from leq (by kernel_rfl)).symm ▸ (show LeO (mg F t3 s16) (mg bQ t3 s16) from(H.s_l10Args_L2 _ _ _))
theorem EO{F:FsBuild}(H:LeFsBuild F):∀ (t3:Int) (t4:Int) (s16:bv),LeO (mh F t3 t4 s16) (s_l10Args_L2 t3 t4 s16):=fun t3 t4 s16=>(show s_l10Args_L2 t3 t4 s16=mh bQ t3 t4 s16 from leq (by kernel_rfl)).symm ▸ (show LeO (mh F t3 t4 s16) (mh bQ t3 t4 s16) from(li (li (lb (H.s_l10Args _) fun _=>(li lr (H.s_l10Args_L2 _ _ _))) lr) lr))
theorem EW{F:FsBuild}(H:LeFsBuild F):∀ (t0:bv),LeO (mr F t0) (s_l10Rexes t0):=fun t0=>(show s_l10Rexes t0=mr bQ t0 from leq (by kernel_rfl)).symm ▸ (show LeO (mr F t0) (mr bQ t0) from(li (lb (H.s_RexParse _) fun _=>lr) (li (li (li lr (H.s_l10Rexes_L1 _ _)) lr) (H.s_l10Rexes_L1 _ _))))
theorem EX{F:FsBuild}(H:LeFsBuild F):∀ (t5:Int) (s16:bv),LeO (mt F t5 s16) (s_l10Rexes_L1 t5 s16):=fun t5 s16=>(show s_l10Rexes_L1 t5 s16=mt bQ t5 s16 from leq (by kernel_rfl)).symm ▸ (show LeO (mt F t5 s16) (mt bQ t5 s16) from(li (li (lb (H.s_l10Rexes _) fun _=>(li lr (H.s_l10Rexes_L1 _ _))) lr) lr))
theorem ER{F:FsBuild}(H:LeFsBuild F):∀ (t0:bv) (t1:(List (List Int))) (t2:(List (List Int))),LeO (ml F t0 t1 t2) (s_l10Names t0 t1 t2):=fun t0 t1 t2=>(show s_l10Names t0 t1 t2=ml bQ t0 t1 t2 from leq (by kernel_rfl)).symm ▸ (show LeO (ml F t0 t1 t2) (ml bQ t0 t1 t2) from(li (lb (H.s_l10Put _ _) fun _=>(H.s_l10Names_L1 _ _ _)) (li (li (lb (H.s_l10Put _ _) fun _=>(H.s_l10Names_L1 _ _ _)) (H.s_l10Names_L1 _ _ _)) (li (lb (H.s_l10Put _ _) fun _=>(H.s_l10Names_L1 _ _ _)) (H.s_l10Names_L1 _ _ _)))))
theorem ES{F:FsBuild}(H:LeFsBuild F):∀ (t1:(List (List Int))) (t2:(List (List Int))) (s48:bv),LeO (mm F t1 t2 s48) (s_l10Names_L1 t1 t2 s48):=fun t1 t2 s48=>(show s_l10Names_L1 t1 t2 s48=mm bQ t1 t2 s48 from leq (by kernel_rfl)).symm ▸ (show LeO (mm F t1 t2 s48) (mm bQ t1 t2 s48) from(H.s_l10Names_L2 _ _ _ _))
theorem ET{F:FsBuild}(H:LeFsBuild F):∀ (t1:(List (List Int))) (t2:(List (List Int))) (t8:Int) (s48:bv),LeO (mn F t1 t2 t8 s48) (s_l10Names_L2 t1 t2 t8 s48):=fun t1 t2 t8 s48=>(show s_l10Names_L2 t1 t2 t8 s48=mn bQ t1 t2 t8 s48 from leq (by kernel_rfl)).symm ▸ (show LeO (mn F t1 t2 t8 s48) (mn bQ t1 t2 t8 s48) from(li (li (lb (H.s_l10Names _ _ _) fun _=>(H.s_l10Names_L2 _ _ _ _)) lr) lr))
theorem FA{F:FsBuild}(H:LeFsBuild F):∀ (s0_0:(List (List Int))) (s0_1:(List (List Int))) (s0_2:(List bw)) (t1:bv),LeO (mQ F s0_0 s0_1 s0_2 t1) (s_l14Stmt s0_0 s0_1 s0_2 t1):=fun s0_0 s0_1 s0_2 t1=>(show s_l14Stmt s0_0 s0_1 s0_2 t1=mQ bQ s0_0 s0_1 s0_2 t1 from leq (by kernel_rfl)).symm ▸ (show LeO (mQ F s0_0 s0_1 s0_2 t1) (mQ bQ s0_0 s0_1 s0_2 t1) from(li (lb (H.s_l14Block _ _ _ _) fun _=>lr) (li (lb (H.s_l14Print _ _ _ _) fun _=>lr) (li (lb (H.s_l14If _ _ _ _) fun _=>lr) (li (lb (H.s_l14While _ _ _ _) fun _=>lr) (li (lb (H.s_l14Put _ _ _ _ _ _) fun _=>lr) (li (li (lb (H.s_l14E _ _ _ _) fun _=>(lb (H.s_l12Where _ _) fun _=>(lb (H.s_l14Put _ _ _ _ _ _) fun _=>lr))) lr) (li (lb (H.s_l14E _ _ _ _) fun _=>(lb (H.s_l14Put _ _ _ _ _ _) fun _=>lr)) lr))))))))
theorem Fz{F:FsBuild}(H:LeFsBuild F):∀ (s0_0:(List (List Int))) (s0_1:(List (List Int))) (s0_2:(List bw)) (t1:bv),LeO (mP F s0_0 s0_1 s0_2 t1) (s_l14Set s0_0 s0_1 s0_2 t1):=fun s0_0 s0_1 s0_2 t1=>(show s_l14Set s0_0 s0_1 s0_2 t1=mP bQ s0_0 s0_1 s0_2 t1 from leq (by kernel_rfl)).symm ▸ (show LeO (mP F s0_0 s0_1 s0_2 t1) (mP bQ s0_0 s0_1 s0_2 t1) from(li (lb (H.s_l1Bit _) fun _=>(li (li (lb (H.s_l14E _ _ _ _) fun _=>(lb (H.s_l12Where _ _) fun _=>(lb (H.s_l14Put _ _ _ _ _ _) fun _=>lr))) lr) (li (lb (H.s_l14E _ _ _ _) fun _=>(li (lb (H.s_l14E _ _ _ _) fun _=>(lb (H.s_l12Where _ _) fun _=>(lb (H.s_l14Put _ _ _ _ _ _) fun _=>lr))) lr)) lr))) lr))
theorem E8{F:FsBuild}(H:LeFsBuild F):∀ (s0_0:(List (List Int))) (s0_1:(List (List Int))) (s0_2:(List bw)) (t1:bv),LeO (mC F s0_0 s0_1 s0_2 t1) (s_l14And s0_0 s0_1 s0_2 t1):=fun s0_0 s0_1 s0_2 t1=>(show s_l14And s0_0 s0_1 s0_2 t1=mC bQ s0_0 s0_1 s0_2 t1 from leq (by kernel_rfl)).symm ▸ (show LeO (mC F s0_0 s0_1 s0_2 t1) (mC bQ s0_0 s0_1 s0_2 t1) from(li (lb (H.s_l14E _ _ _ _) fun _=>(lb (H.s_l14Put _ _ _ _ _ _) fun _=>(li (lb (H.s_l14E _ _ _ _) fun _=>(lb (H.s_l14Put _ _ _ _ _ _) fun _=>(lb (H.s_l14Put _ _ _ _ _ _) fun _=>(li (lb (H.s_l14Put _ _ _ _ _ _) fun _=>(li lr lr)) lr)))) lr))) lr))
theorem Fm{F:FsBuild}(H:LeFsBuild F):∀ (s0_0:(List (List Int))) (s0_1:(List (List Int))) (s0_2:(List bw)) (t1:bv),LeO (mK F s0_0 s0_1 s0_2 t1) (s_l14Or s0_0 s0_1 s0_2 t1):=fun s0_0 s0_1 s0_2 t1=>(show s_l14Or s0_0 s0_1 s0_2 t1=mK bQ s0_0 s0_1 s0_2 t1 from leq (by kernel_rfl)).symm ▸ (show LeO (mK F s0_0 s0_1 s0_2 t1) (mK bQ s0_0 s0_1 s0_2 t1) from(li (lb (H.s_l14E _ _ _ _) fun _=>(lb (H.s_l14Put _ _ _ _ _ _) fun _=>(lb (H.s_l14Put _ _ _ _ _ _) fun _=>(lb (H.s_l14Put _ _ _ _ _ _) fun _=>(li (li (lb (H.s_l14E _ _ _ _) fun _=>(lb (H.s_l14Put _ _ _ _ _ _) fun _=>(li lr lr))) lr) lr))))) lr))
theorem Fl{F:FsBuild}(H:LeFsBuild F):∀ (s0_0:(List (List Int))) (s0_1:(List (List Int))) (s0_2:(List bw)) (t1:bv),LeO (mJ F s0_0 s0_1 s0_2 t1) (s_l14Last s0_0 s0_1 s0_2 t1):=fun s0_0 s0_1 s0_2 t1=>(show s_l14Last s0_0 s0_1 s0_2 t1=mJ bQ s0_0 s0_1 s0_2 t1 from leq (by kernel_rfl)).symm ▸ (show LeO (mJ F s0_0 s0_1 s0_2 t1) (mJ bQ s0_0 s0_1 s0_2 t1) from(li (lb (H.s_l14Put _ _ _ _ _ _) fun _=>lr) (li (lb (H.s_l14Put _ _ _ _ _ _) fun _=>lr) (li (lb (H.s_l14Put _ _ _ _ _ _) fun _=>lr) (li (lb (H.s_l12Where _ _) fun _=>(lb (H.s_l14Put _ _ _ _ _ _) fun _=>lr)) (li (lb (H.s_l12Where _ _) fun _=>(lb (H.s_l14Put _ _ _ _ _ _) fun _=>lr)) (li (lb (H.s_l14Put _ _ _ _ _ _) fun _=>lr) (li (lb (H.s_l14Put _ _ _ _ _ _) fun _=>lr) (li (lb (H.s_l14Put _ _ _ _ _ _) fun _=>lr) (li (lb (H.s_l14Put _ _ _ _ _ _) fun _=>lr) (li (lb (H.s_l14Put _ _ _ _ _ _) fun _=>lr) (li (lb (H.s_l14Put _ _ _ _ _ _) fun _=>lr) (lb (H.s_l14Put _ _ _ _ _ _) fun _=>lr)))))))))))))
theorem Gp{F:FsBuild}(H:LeFsBuild F):LeO (nL F ) (s_l7Calls ):=(show s_l7Calls  = nL bQ  from leq (by kernel_rfl)).symm ▸ (show LeO (nL F ) (nL bQ )from lr)
theorem Ep{F:FsBuild}(H:LeFsBuild F):∀ (t0:Int),LeO (lP F t0) (s_DecOk t0):=fun t0=>(show s_DecOk t0=lP bQ t0 from leq (by kernel_rfl)).symm ▸ (show LeO (lP F t0) (lP bQ t0) from(lb (H.s_l1In _ _ _) fun _=>lr))
theorem EG{F:FsBuild}(H:LeFsBuild F):∀ (t0:(List Int)),LeO (l9 F t0) (s_RexParse t0):=fun t0=>(show s_RexParse t0=l9 bQ t0 from leq (by kernel_rfl)).symm ▸ (show LeO (l9 F t0) (l9 bQ t0) from(li lr (lb (H.s_l3Pattern _ _) fun _=>(li lr (li lr (lb (H.s_l3Deep _) fun _=>(li lr lr)))))))
theorem FF{F:FsBuild}(H:LeFsBuild F):∀ (t0:Int),LeO (mV F t0) (s_l2Digit t0):=fun t0=>(show s_l2Digit t0=mV bQ t0 from leq (by kernel_rfl)).symm ▸ (show LeO (mV F t0) (mV bQ t0) from(li lr lr))
theorem Gr{F:FsBuild}(H:LeFsBuild F):∀ (t0:(List Int)) (t1:Int),LeO (nN F t0 t1) (s_l7Number t0 t1):=fun t0 t1=>(show s_l7Number t0 t1=nN bQ t0 t1 from leq (by kernel_rfl)).symm ▸ (show LeO (nN F t0 t1) (nN bQ t0 t1) from(H.s_l7Number_L1 _ _ _))
theorem Gs{F:FsBuild}(H:LeFsBuild F):∀ (t0:(List Int)) (t1:Int) (t7:Int),LeO (nO F t0 t1 t7) (s_l7Number_L1 t0 t1 t7):=fun t0 t1 t7=>(show s_l7Number_L1 t0 t1 t7=nO bQ t0 t1 t7 from leq (by kernel_rfl)).symm ▸ (show LeO (nO F t0 t1 t7) (nO bQ t0 t1 t7) from(li (li (lb (H.s_l2Digit _) fun _=>(li (H.s_l7Number_L1 _ _ _) (li (li (li (li (lb (H.s_l2Digit _) fun _=>(li (H.s_l7Number_L2 _ _ _ _) (H.s_l7Number_L3 _ _ _))) lr) (H.s_l7Number_L3 _ _ _)) lr) (H.s_l7Number_L3 _ _ _)))) lr) (li (li (li (li (lb (H.s_l2Digit _) fun _=>(li (H.s_l7Number_L2 _ _ _ _) (H.s_l7Number_L3 _ _ _))) lr) (H.s_l7Number_L3 _ _ _)) lr) (H.s_l7Number_L3 _ _ _))))
theorem Gt{F:FsBuild}(H:LeFsBuild F):∀ (t0:(List Int)) (t1:Int) (t7:Int) (t8:Int),LeO (nP F t0 t1 t7 t8) (s_l7Number_L2 t0 t1 t7 t8):=fun t0 t1 t7 t8=>(show s_l7Number_L2 t0 t1 t7 t8=nP bQ t0 t1 t7 t8 from leq (by kernel_rfl)).symm ▸ (show LeO (nP F t0 t1 t7 t8) (nP bQ t0 t1 t7 t8) from(li (li (lb (H.s_l2Digit _) fun _=>(li (H.s_l7Number_L2 _ _ _ _) (li lr (H.s_l7Number_L3 _ _ _)))) lr) (li lr (H.s_l7Number_L3 _ _ _))))
theorem Gu{F:FsBuild}(H:LeFsBuild F):∀ (t0:(List Int)) (t1:Int) (t7:Int),LeO (nQ F t0 t1 t7) (s_l7Number_L3 t0 t1 t7):=fun t0 t1 t7=>(show s_l7Number_L3 t0 t1 t7=nQ bQ t0 t1 t7 from leq (by kernel_rfl)).symm ▸ (show LeO (nQ F t0 t1 t7) (nQ bQ t0 t1 t7) from(li (lb (H.s_DecFront _) fun _=>lr) lr))
theorem GB{F:FsBuild}(H:LeFsBuild F):∀ (t0:(List Int)) (t1:Int),LeO (nX F t0 t1) (s_l7Text t0 t1):=fun t0 t1=>(show s_l7Text t0 t1=nX bQ t0 t1 from leq (by kernel_rfl)).symm ▸ (show LeO (nX F t0 t1) (nX bQ t0 t1) from(H.s_l7Text_L1 _ _ _))
theorem GC{F:FsBuild}(H:LeFsBuild F):∀ (t0:(List Int)) (t7:(List Int)) (t8:Int),LeO (nY F t0 t7 t8) (s_l7Text_L1 t0 t7 t8):=fun t0 t7 t8=>(show s_l7Text_L1 t0 t7 t8=nY bQ t0 t7 t8 from leq (by kernel_rfl)).symm ▸ (show LeO (nY F t0 t7 t8) (nY bQ t0 t7 t8) from(li (li (li lr (li lr (li (li lr (li (li lr (li (li (H.s_l7Text_L1 _ _ _) lr) lr)) lr)) (li (li (H.s_l7Text_L1 _ _ _) lr) lr)))) lr) lr))
theorem Gn{F:FsBuild}(H:LeFsBuild F):∀ (t0:(List bF)),LeO (nK F t0) (s_l7After t0):=fun t0=>(show s_l7After t0=nK bQ t0 from leq (by kernel_rfl)).symm ▸ (show LeO (nK F t0) (nK bQ t0) from(li lr (li (li (li lr (li lr (lb (H.s_l1In _ _ _) fun _=>lr))) (lb (H.s_l1In _ _ _) fun _=>lr)) lr)))
theorem Gx{F:FsBuild}(H:LeFsBuild F):∀ (t0:(List Int)) (t1:Int),LeO (nT F t0 t1) (s_l7Rex t0 t1):=fun t0 t1=>(show s_l7Rex t0 t1=nT bQ t0 t1 from leq (by kernel_rfl)).symm ▸ (show LeO (nT F t0 t1) (nT bQ t0 t1) from(H.s_l7Rex_L1 _ _ _))
theorem Gy{F:FsBuild}(H:LeFsBuild F):∀ (t0:(List Int)) (t7:(List Int)) (t8:Int),LeO (nU F t0 t7 t8) (s_l7Rex_L1 t0 t7 t8):=fun t0 t7 t8=>(show s_l7Rex_L1 t0 t7 t8=nU bQ t0 t7 t8 from leq (by kernel_rfl)).symm ▸ (show LeO (nU F t0 t7 t8) (nU bQ t0 t7 t8) from(li (li (li lr (li lr (li (li lr (li (li lr (li (li (li (li (li (li (H.s_l7Rex_L1 _ _ _) lr) lr) lr) lr) (li (li (H.s_l7Rex_L1 _ _ _) lr) lr)) lr)) lr)) (li (li (H.s_l7Rex_L1 _ _ _) lr) lr)))) lr) lr))
theorem Gz{F:FsBuild}(H:LeFsBuild F):∀ (t0:(List Int)) (t1:Int),LeO (nV F t0 t1) (s_l7Sign t0 t1):=fun t0 t1=>(show s_l7Sign t0 t1=nV bQ t0 t1 from leq (by kernel_rfl)).symm ▸ (show LeO (nV F t0 t1) (nV bQ t0 t1) from(H.s_l7Sign_L1 _ _ _ _))
theorem GA{F:FsBuild}(H:LeFsBuild F):∀ (t0:(List Int)) (t1:Int) (t5:(List (List Int))) (t6:Int),LeO (nW F t0 t1 t5 t6) (s_l7Sign_L1 t0 t1 t5 t6):=fun t0 t1 t5 t6=>(show s_l7Sign_L1 t0 t1 t5 t6=nW bQ t0 t1 t5 t6 from leq (by kernel_rfl)).symm ▸ (show LeO (nW F t0 t1 t5 t6) (nW bQ t0 t1 t5 t6) from(li (li (li (li (li (li (li lr lr) (H.s_l7Sign_L1 _ _ _ _)) lr) lr) (H.s_l7Sign_L1 _ _ _ _)) lr) lr))
theorem Hc{F:FsBuild}(H:LeFsBuild F):∀ (s0:bO) (t1:(List Int)),LeO (oI F s0 t1) (s_l8Take s0 t1):=fun s0 t1=>(show s_l8Take s0 t1=oI bQ s0 t1 from leq (by kernel_rfl)).symm ▸ (show LeO (oI F s0 t1) (oI bQ s0 t1) from(lb (H.s_l8Sign _ _) fun _=>(li (lb (H.s_l8Bad _) fun _=>lr) (lb (H.s_l8Next _) fun _=>lr))))
theorem Hb{F:FsBuild}(H:LeFsBuild F):∀ (s0:bO),LeO (oH F s0) (s_l8Stmt s0):=fun s0=>(show s_l8Stmt s0=oH bQ s0 from leq (by kernel_rfl)).symm ▸ (show LeO (oH F s0) (oH bQ s0) from(lb (H.s_l8Is _ _) fun _=>(li (lb (H.s_l8While _ _) fun _=>lr) (lb (H.s_l8Is _ _) fun _=>(li (lb (H.s_l8While _ _) fun _=>lr) (lb (H.s_l8Sign _ _) fun _=>(li (lb (H.s_l8Block _) fun _=>lr) (lb (H.s_l8Simple _) fun _=>(lb (H.s_l8Sign _ _) fun _=>(li (lb (H.s_l8Take _ _) fun _=>lr) lr))))))))))
theorem GZ{F:FsBuild}(H:LeFsBuild F):∀ (s0:bO),LeO (oy F s0) (s_l8Named s0):=fun s0=>(show s_l8Named s0=oy bQ s0 from leq (by kernel_rfl)).symm ▸ (show LeO (oy F s0) (oy bQ s0) from(lb (H.s_l8Now _) fun _=>(lb (H.s_l8Is _ _) fun _=>(li (lb (H.s_l8Next _) fun _=>lr) (lb (H.s_l8Is _ _) fun _=>(li (lb (H.s_l8Next _) fun _=>lr) (li (lb (H.s_l7Calls ) fun _=>(lb (H.s_l7Within _ _) fun _=>(li (lb (H.s_l8Next _) fun _=>(lb (H.s_l8Take _ _) fun _=>(lb (H.s_l8Es _ _) fun _=>(lb (H.s_l8Take _ _) fun _=>lr)))) (lb (H.s_l8Name _) fun _=>(lb (H.s_l8Sign _ _) fun _=>(li lr (lb (H.s_l8Next _) fun _=>(lb (H.s_l8E _) fun _=>(lb (H.s_l8Take _ _) fun _=>lr))))))))) (lb (H.s_l8Name _) fun _=>(lb (H.s_l8Sign _ _) fun _=>(li lr (lb (H.s_l8Next _) fun _=>(lb (H.s_l8E _) fun _=>(lb (H.s_l8Take _ _) fun _=>lr)))))))))))))
theorem GX{F:FsBuild}(H:LeFsBuild F):∀ (s0:bO) (t1:Int),LeO (ow F s0 t1) (s_l8Level s0 t1):=fun s0 t1=>(show s_l8Level s0 t1=ow bQ s0 t1 from leq (by kernel_rfl)).symm ▸ (show LeO (ow F s0 t1) (ow bQ s0 t1) from(li (lb (H.s_l8Compare _) fun _=>lr) (li (lb (H.s_l8Row _) fun _=>lr) (li (lb (H.s_l8Unit _) fun _=>lr) (lb (H.s_l8Left _ _) fun _=>lr)))))
theorem Hu{F:FsBuild}(H:LeFsBuild F):∀ (t0:bv),LeO (o0 F t0) (s_l9Node t0):=fun t0=>(show s_l9Node t0=o0 bQ t0 from leq (by kernel_rfl)).symm ▸ (show LeO (o0 F t0) (o0 bQ t0) from(lb (H.s_l9Kids _) fun _=>(li lr (lb (H.s_l1In _ _ _) fun _=>(li lr (li (li lr (li (li (lb (H.s_l1In _ _ _) fun _=>lr) lr) (li (lb (H.s_l9Line _) fun _=>lr) (li (lb (H.s_l9Rex _) fun _=>lr) (li (H.s_l9Node_L1 _ _ _) (li (H.s_l9Node_L1 _ _ _) (H.s_l9Node_L1 _ _ _))))))) (li (li (lb (H.s_l1In _ _ _) fun _=>lr) lr) (li (lb (H.s_l9Line _) fun _=>lr) (li (lb (H.s_l9Rex _) fun _=>lr) (li (H.s_l9Node_L1 _ _ _) (li (H.s_l9Node_L1 _ _ _) (H.s_l9Node_L1 _ _ _))))))))))))
theorem Hv{F:FsBuild}(H:LeFsBuild F):∀ (t23:Int) (t44:Bool) (s16:bv),LeO (o3 F t23 t44 s16) (s_l9Node_L1 t23 t44 s16):=fun t23 t44 s16=>(show s_l9Node_L1 t23 t44 s16=o3 bQ t23 t44 s16 from leq (by kernel_rfl)).symm ▸ (show LeO (o3 F t23 t44 s16) (o3 bQ t23 t44 s16) from(li (lb (H.s_l9Name _) fun _=>lr) (li (lb (H.s_l7Calls ) fun _=>(lb (H.s_l7Within _ _) fun _=>lr)) lr)))
theorem Hj{F:FsBuild}(H:LeFsBuild F):∀ (t0:Int),LeO (oP F t0) (s_l9IsE t0):=fun t0=>(show s_l9IsE t0=oP bQ t0 from leq (by kernel_rfl)).symm ▸ (show LeO (oP F t0) (oP bQ t0) from(lb (H.s_l1In _ _ _) fun _=>lr))
theorem EU{F:FsBuild}(H:LeFsBuild F):∀ (t0:(List (List Int))) (t1:(List Int)),LeO (mp F t0 t1) (s_l10Put t0 t1):=fun t0 t1=>(show s_l10Put t0 t1=mp bQ t0 t1 from leq (by kernel_rfl)).symm ▸ (show LeO (mp F t0 t1) (mp bQ t0 t1) from(lb (H.s_l7Within _ _) fun _=>(li lr (H.s_l10Put_L1 _ _ _))))
theorem EV{F:FsBuild}(H:LeFsBuild F):∀ (t0:(List (List Int))) (t1:(List Int)) (t5:Int),LeO (mq F t0 t1 t5) (s_l10Put_L1 t0 t1 t5):=fun t0 t1 t5=>(show s_l10Put_L1 t0 t1 t5=mq bQ t0 t1 t5 from leq (by kernel_rfl)).symm ▸ (show LeO (mq F t0 t1 t5) (mq bQ t0 t1 t5) from(li (li (li (H.s_l10Put_L1 _ _ _) (li (li (li (li (li lr lr) lr) lr) lr) lr)) lr) (li (li (li (li (li lr lr) lr) lr) lr) lr)))
theorem Fp{F:FsBuild}(H:LeFsBuild F):∀ (s0_0:(List (List Int))) (s0_1:(List (List Int))) (s0_2:(List bw)) (t1:bv),LeO (mL F s0_0 s0_1 s0_2 t1) (s_l14Print s0_0 s0_1 s0_2 t1):=fun s0_0 s0_1 s0_2 t1=>(show s_l14Print s0_0 s0_1 s0_2 t1=mL bQ s0_0 s0_1 s0_2 t1 from leq (by kernel_rfl)).symm ▸ (show LeO (mL F s0_0 s0_1 s0_2 t1) (mL bQ s0_0 s0_1 s0_2 t1) from(li (lb (H.s_l14Put _ _ _ _ _ _) fun _=>(lb (H.s_l14Put _ _ _ _ _ _) fun _=>(lb (H.s_l14Put _ _ _ _ _ _) fun _=>(H.s_l14Print_L1 _ _ _ _)))) (H.s_l14Print_L1 _ _ _ _)))
theorem Fq{F:FsBuild}(H:LeFsBuild F):∀ (s0_0:(List (List Int))) (s0_1:(List (List Int))) (s0_2:(List bw)) (s48:bv),LeO (mM F s0_0 s0_1 s0_2 s48) (s_l14Print_L1 s0_0 s0_1 s0_2 s48):=fun s0_0 s0_1 s0_2 s48=>(show s_l14Print_L1 s0_0 s0_1 s0_2 s48=mM bQ s0_0 s0_1 s0_2 s48 from leq (by kernel_rfl)).symm ▸ (show LeO (mM F s0_0 s0_1 s0_2 s48) (mM bQ s0_0 s0_1 s0_2 s48) from(H.s_l14Print_L2 _ _ _ _ _))
theorem Ft{F:FsBuild}(H:LeFsBuild F):∀ (t4:Int) (s0_0:(List (List Int))) (s0_1:(List (List Int))) (s0_2:(List bw)) (s48:bv),LeO (mN F t4 s0_0 s0_1 s0_2 s48) (s_l14Print_L2 t4 s0_0 s0_1 s0_2 s48):=fun t4 s0_0 s0_1 s0_2 s48=>(show s_l14Print_L2 t4 s0_0 s0_1 s0_2 s48=mN bQ t4 s0_0 s0_1 s0_2 s48 from leq (by kernel_rfl)).symm ▸ (show LeO (mN F t4 s0_0 s0_1 s0_2 s48) (mN bQ t4 s0_0 s0_1 s0_2 s48) from(li (li (lb (H.s_l14E _ _ _ _) fun _=>(lb (H.s_l1Bit _) fun _=>(lb (H.s_l14Put _ _ _ _ _ _) fun _=>(H.s_l14Print_L2 _ _ _ _ _)))) lr) (lb (H.s_l14Put _ _ _ _ _ _) fun _=>lr)))
theorem Fj{F:FsBuild}(H:LeFsBuild F):∀ (s0_0:(List (List Int))) (s0_1:(List (List Int))) (s0_2:(List bw)) (t1:bv),LeO (mI F s0_0 s0_1 s0_2 t1) (s_l14If s0_0 s0_1 s0_2 t1):=fun s0_0 s0_1 s0_2 t1=>(show s_l14If s0_0 s0_1 s0_2 t1=mI bQ s0_0 s0_1 s0_2 t1 from leq (by kernel_rfl)).symm ▸ (show LeO (mI F s0_0 s0_1 s0_2 t1) (mI bQ s0_0 s0_1 s0_2 t1) from(li (lb (H.s_l14E _ _ _ _) fun _=>(lb (H.s_l14Put _ _ _ _ _ _) fun _=>(li (lb (H.s_l14Block _ _ _ _) fun _=>(li (lb (H.s_l14Put _ _ _ _ _ _) fun _=>(li (li (lb (H.s_l14Block _ _ _ _) fun _=>(li lr lr)) lr) lr)) (li lr lr))) lr))) lr))
theorem FB{F:FsBuild}(H:LeFsBuild F):∀ (s0_0:(List (List Int))) (s0_1:(List (List Int))) (s0_2:(List bw)) (t1:bv),LeO (mR F s0_0 s0_1 s0_2 t1) (s_l14While s0_0 s0_1 s0_2 t1):=fun s0_0 s0_1 s0_2 t1=>(show s_l14While s0_0 s0_1 s0_2 t1=mR bQ s0_0 s0_1 s0_2 t1 from leq (by kernel_rfl)).symm ▸ (show LeO (mR F s0_0 s0_1 s0_2 t1) (mR bQ s0_0 s0_1 s0_2 t1) from(li (lb (H.s_l14E _ _ _ _) fun _=>(lb (H.s_l14Put _ _ _ _ _ _) fun _=>(li (lb (H.s_l14Block _ _ _ _) fun _=>(lb (H.s_l14Put _ _ _ _ _ _) fun _=>(li lr lr))) lr))) lr))
theorem EY{F:FsBuild}(H:LeFsBuild F):∀ (t0:(List (List Int))) (t1:(List Int)),LeO (mu F t0 t1) (s_l12Where t0 t1):=fun t0 t1=>(show s_l12Where t0 t1=mu bQ t0 t1 from leq (by kernel_rfl)).symm ▸ (show LeO (mu F t0 t1) (mu bQ t0 t1) from(H.s_l12Where_L1 _ _ _))
theorem EZ{F:FsBuild}(H:LeFsBuild F):∀ (t0:(List (List Int))) (t1:(List Int)) (t5:Int),LeO (mv F t0 t1 t5) (s_l12Where_L1 t0 t1 t5):=fun t0 t1 t5=>(show s_l12Where_L1 t0 t1 t5=mv bQ t0 t1 t5 from leq (by kernel_rfl)).symm ▸ (show LeO (mv F t0 t1 t5) (mv bQ t0 t1 t5) from(li (li (li lr (H.s_l12Where_L1 _ _ _)) lr) lr))
theorem FC{F:FsBuild}(H:LeFsBuild F):∀ (t0:Bool),LeO (mS F t0) (s_l1Bit t0):=fun t0=>(show s_l1Bit t0=mS bQ t0 from leq (by kernel_rfl)).symm ▸ (show LeO (mS F t0) (mS bQ t0) from(li lr lr))
theorem FN{F:FsBuild}(H:LeFsBuild F):∀ (s0:bN) (t1:Int),LeO (na F s0 t1) (s_l3Pattern s0 t1):=fun s0 t1=>(show s_l3Pattern s0 t1=na bQ s0 t1 from leq (by kernel_rfl)).symm ▸ (show LeO (na F s0 t1) (na bQ s0 t1) from(lb (H.s_l3Part _ _) fun _=>(H.s_l3Pattern_L1 _ _ _ _)))
theorem FO{F:FsBuild}(H:LeFsBuild F):∀ (t1:Int) (t5:(List bC)) (s0:bN) (s64:bC),LeO (nb F t1 t5 s0 s64) (s_l3Pattern_L1 t1 t5 s0 s64):=fun t1 t5 s0 s64=>(show s_l3Pattern_L1 t1 t5 s0 s64=nb bQ t1 t5 s0 s64 from leq (by kernel_rfl)).symm ▸ (show LeO (nb F t1 t5 s0 s64) (nb bQ t1 t5 s0 s64) from(lb (H.s_l3Now _ _) fun _=>(li (lb (H.s_l3Part _ _) fun _=>(li (H.s_l3Pattern_L1 _ _ _ _) lr)) (li (li lr lr) lr))))
theorem FI{F:FsBuild}(H:LeFsBuild F):∀ (t0:bC),LeO (mY F t0) (s_l3Deep t0):=fun t0=>(show s_l3Deep t0=mY bQ t0 from leq (by kernel_rfl)).symm ▸ (show LeO (mY F t0) (mY bQ t0) from(H.s_l3Deep_L1 _ _ _))
theorem FJ{F:FsBuild}(H:LeFsBuild F):∀ (t3:Int) (t4:Int) (s16:bC),LeO (mZ F t3 t4 s16) (s_l3Deep_L1 t3 t4 s16):=fun t3 t4 s16=>(show s_l3Deep_L1 t3 t4 s16=mZ bQ t3 t4 s16 from leq (by kernel_rfl)).symm ▸ (show LeO (mZ F t3 t4 s16) (mZ bQ t3 t4 s16) from(li (li (lb (H.s_l3Deep _) fun _=>(lb (H.s_l1Max _ _) fun _=>(H.s_l3Deep_L1 _ _ _))) lr) lr))
theorem Ej{F:FsBuild}(H:LeFsBuild F):∀ (t0:(List Int)),LeO (lJ F t0) (s_DecFront t0):=fun t0=>(show s_DecFront t0=lJ bQ t0 from leq (by kernel_rfl)).symm ▸ (show LeO (lJ F t0) (lJ bQ t0) from(H.s_DecFront_L1 _ _))
theorem Ek{F:FsBuild}(H:LeFsBuild F):∀ (t0:(List Int)) (t4:Int),LeO (lK F t0 t4) (s_DecFront_L1 t0 t4):=fun t0 t4=>(show s_DecFront_L1 t0 t4=lK bQ t0 t4 from leq (by kernel_rfl)).symm ▸ (show LeO (lK F t0 t4) (lK bQ t0 t4) from(li (li (li (H.s_DecFront_L1 _ _) (li (li (li (li (li (H.s_DecFront_L2 _ _ _) (li (li (H.s_DecFront_L2 _ _ _) (H.s_DecFront_L2 _ _ _)) lr)) lr) (H.s_DecFront_L2 _ _ _)) lr) (li (li (li (H.s_DecFront_L2 _ _ _) (li (li (H.s_DecFront_L2 _ _ _) (H.s_DecFront_L2 _ _ _)) lr)) lr) (H.s_DecFront_L2 _ _ _)))) lr) (li (li (li (li (li (H.s_DecFront_L2 _ _ _) (li (li (H.s_DecFront_L2 _ _ _) (H.s_DecFront_L2 _ _ _)) lr)) lr) (H.s_DecFront_L2 _ _ _)) lr) (li (li (li (H.s_DecFront_L2 _ _ _) (li (li (H.s_DecFront_L2 _ _ _) (H.s_DecFront_L2 _ _ _)) lr)) lr) (H.s_DecFront_L2 _ _ _)))))
theorem El{F:FsBuild}(H:LeFsBuild F):∀ (t0:(List Int)) (t4:Int) (t5:Bool),LeO (lL F t0 t4 t5) (s_DecFront_L2 t0 t4 t5):=fun t0 t4 t5=>(show s_DecFront_L2 t0 t4 t5=lL bQ t0 t4 t5 from leq (by kernel_rfl)).symm ▸ (show LeO (lL F t0 t4 t5) (lL bQ t0 t4 t5) from(H.s_DecFront_L3 _ _ _ _ _))
theorem Em{F:FsBuild}(H:LeFsBuild F):∀ (t0:(List Int)) (t4:Int) (t5:Bool) (t6:Int) (t7:Int),LeO (lM F t0 t4 t5 t6 t7) (s_DecFront_L3 t0 t4 t5 t6 t7):=fun t0 t4 t5 t6 t7=>(show s_DecFront_L3 t0 t4 t5 t6 t7=lM bQ t0 t4 t5 t6 t7 from leq (by kernel_rfl)).symm ▸ (show LeO (lM F t0 t4 t5 t6 t7) (lM bQ t0 t4 t5 t6 t7) from(li (li (lb (H.s_l2Digit _) fun _=>(li (li (li (H.s_DecFront_L3 _ _ _ _ _) lr) (H.s_DecFront_L3 _ _ _ _ _)) (li (li (li (li (lb (H.s_l2Digit _) fun _=>(li (H.s_DecFront_L4 _ _ _ _ _ _) (H.s_DecFront_L5 _ _ _ _))) lr) (H.s_DecFront_L5 _ _ _ _)) lr) (H.s_DecFront_L5 _ _ _ _)))) lr) (li (li (li (li (lb (H.s_l2Digit _) fun _=>(li (H.s_DecFront_L4 _ _ _ _ _ _) (H.s_DecFront_L5 _ _ _ _))) lr) (H.s_DecFront_L5 _ _ _ _)) lr) (H.s_DecFront_L5 _ _ _ _))))
theorem En{F:FsBuild}(H:LeFsBuild F):∀ (t0:(List Int)) (t4:Int) (t5:Bool) (t6:Int) (t7:Int) (t8:Int),LeO (lN F t0 t4 t5 t6 t7 t8) (s_DecFront_L4 t0 t4 t5 t6 t7 t8):=fun t0 t4 t5 t6 t7 t8=>(show s_DecFront_L4 t0 t4 t5 t6 t7 t8=lN bQ t0 t4 t5 t6 t7 t8 from leq (by kernel_rfl)).symm ▸ (show LeO (lN F t0 t4 t5 t6 t7 t8) (lN bQ t0 t4 t5 t6 t7 t8) from(li (li (lb (H.s_l2Digit _) fun _=>(li (li (H.s_DecFront_L4 _ _ _ _ _ _) lr) (H.s_DecFront_L5 _ _ _ _))) lr) (H.s_DecFront_L5 _ _ _ _)))
theorem Eo{F:FsBuild}(H:LeFsBuild F):∀ (t4:Int) (t5:Bool) (t6:Int) (t7:Int),LeO (lO F t4 t5 t6 t7) (s_DecFront_L5 t4 t5 t6 t7):=fun t4 t5 t6 t7=>(show s_DecFront_L5 t4 t5 t6 t7=lO bQ t4 t5 t6 t7 from leq (by kernel_rfl)).symm ▸ (show LeO (lO F t4 t5 t6 t7) (lO bQ t4 t5 t6 t7) from(li lr (li lr (li lr lr))))
theorem GG{F:FsBuild}(H:LeFsBuild F):∀ (s0:bO),LeO (n8 F s0) (s_l8Bad s0):=fun s0=>(show s_l8Bad s0=n8 bQ s0 from leq (by kernel_rfl)).symm ▸ (show LeO (n8 F s0) (n8 bQ s0) from(li (lb (H.s_l8Now _) fun _=>lr) lr))
theorem He{F:FsBuild}(H:LeFsBuild F):∀ (s0:bO) (t1:Int),LeO (oK F s0 t1) (s_l8While s0 t1):=fun s0 t1=>(show s_l8While s0 t1=oK bQ s0 t1 from leq (by kernel_rfl)).symm ▸ (show LeO (oK F s0 t1) (oK bQ s0 t1) from(lb (H.s_l8Next _) fun _=>(lb (H.s_l8Take _ _) fun _=>(lb (H.s_l8E _) fun _=>(lb (H.s_l8Take _ _) fun _=>(lb (H.s_l8Block _) fun _=>(lb (H.s_l8Kids _ _) fun _=>(li (lb (H.s_l8Is _ _) fun _=>(li (lb (H.s_l8Next _) fun _=>(lb (H.s_l8Block _) fun _=>(li lr lr))) lr)) lr))))))))
theorem G9{F:FsBuild}(H:LeFsBuild F):∀ (s0:bO),LeO (oF F s0) (s_l8Simple s0):=fun s0=>(show s_l8Simple s0=oF bQ s0 from leq (by kernel_rfl)).symm ▸ (show LeO (oF F s0) (oF bQ s0) from(lb (H.s_l8Is _ _) fun _=>(li (lb (H.s_l8Next _) fun _=>(H.s_l8Simple_L1 _ _ _ _ _ _ _ _ _)) (lb (H.s_l8Is _ _) fun _=>(li (lb (H.s_l8Next _) fun _=>lr) (lb (H.s_l8Is _ _) fun _=>(li (lb (H.s_l8Next _) fun _=>(lb (H.s_l8Name _) fun _=>(lb (H.s_l8Take _ _) fun _=>(lb (H.s_l8E _) fun _=>(lb (H.s_l8Take _ _) fun _=>lr))))) (lb (H.s_l8E _) fun _=>(lb (H.s_l8Kids _ _) fun _=>lr)))))))))
theorem Ha{F:FsBuild}(H:LeFsBuild F):∀ (s0:bO) (s32_0:Int) (s32_1:Int) (s32_2:(List Int)) (s32_3:(List bv)) (s48_0:Int) (s48_1:Int) (s48_2:(List Int)) (s48_3:(List bv)),LeO (oG F s0 s32_0 s32_1 s32_2 s32_3 s48_0 s48_1 s48_2 s48_3) (s_l8Simple_L1 s0 s32_0 s32_1 s32_2 s32_3 s48_0 s48_1 s48_2 s48_3):=fun s0 s32_0 s32_1 s32_2 s32_3 s48_0 s48_1 s48_2 s48_3=>(show s_l8Simple_L1 s0 s32_0 s32_1 s32_2 s32_3 s48_0 s48_1 s48_2 s48_3=oG bQ s0 s32_0 s32_1 s32_2 s32_3 s48_0 s48_1 s48_2 s48_3 from leq (by kernel_rfl)).symm ▸ (show LeO (oG F s0 s32_0 s32_1 s32_2 s32_3 s48_0 s48_1 s48_2 s48_3) (oG bQ s0 s32_0 s32_1 s32_2 s32_3 s48_0 s48_1 s48_2 s48_3) from(li (lb (H.s_l8Sign _ _) fun _=>(li (lb (H.s_l8Sign _ _) fun _=>(li (li (lb (H.s_l8Take _ _) fun _=>(lb (H.s_l8E _) fun _=>(li (H.s_l8Simple_L1 _ _ _ _ _ _ _ _ _) lr))) (lb (H.s_l8E _) fun _=>(li (H.s_l8Simple_L1 _ _ _ _ _ _ _ _ _) lr))) lr)) lr)) lr))
theorem GP{F:FsBuild}(H:LeFsBuild F):∀ (s0:bO) (t1:(List Int)),LeO (oj F s0 t1) (s_l8Es s0 t1):=fun s0 t1=>(show s_l8Es s0 t1=oj bQ s0 t1 from leq (by kernel_rfl)).symm ▸ (show LeO (oj F s0 t1) (oj bQ s0 t1) from(H.s_l8Es_L1 _ _ _))
theorem GQ{F:FsBuild}(H:LeFsBuild F):∀ (t1:(List Int)) (t5:(List bv)) (s0:bO),LeO (ol F t1 t5 s0) (s_l8Es_L1 t1 t5 s0):=fun t1 t5 s0=>(show s_l8Es_L1 t1 t5 s0=ol bQ t1 t5 s0 from leq (by kernel_rfl)).symm ▸ (show LeO (ol F t1 t5 s0) (ol bQ t1 t5 s0) from(li (lb (H.s_l8Sign _ _) fun _=>(li (li (lb (H.s_l8Take _ _) fun _=>(lb (H.s_l8E _) fun _=>(li (H.s_l8Es_L1 _ _ _) lr))) (lb (H.s_l8E _) fun _=>(li (H.s_l8Es_L1 _ _ _) lr))) lr)) lr))
theorem GY{F:FsBuild}(H:LeFsBuild F):∀ (s0:bO),LeO (ox F s0) (s_l8Name s0):=fun s0=>(show s_l8Name s0=ox bQ s0 from leq (by kernel_rfl)).symm ▸ (show LeO (ox F s0) (ox bQ s0) from(lb (H.s_l8Now _) fun _=>(li (lb (H.s_l8Bad _) fun _=>lr) (li (lb (H.s_l8Bad _) fun _=>lr) (lb (H.s_Keyword _) fun _=>(li (lb (H.s_l8Bad _) fun _=>lr) (lb (H.s_l8Next _) fun _=>lr)))))))
theorem GL{F:FsBuild}(H:LeFsBuild F):∀ (s0:bO),LeO (od F s0) (s_l8Compare s0):=fun s0=>(show s_l8Compare s0=od bQ s0 from leq (by kernel_rfl)).symm ▸ (show LeO (od F s0) (od bQ s0) from(lb (H.s_l8Level _ _) fun _=>(H.s_l8Compare_L1 _ _ _ _ _ _ _ _)))
theorem GM{F:FsBuild}(H:LeFsBuild F):∀ (t3:(List (List Int))) (t5:Int) (s0:bO) (s32_0:Int) (s32_1:Int) (s32_2:(List Int)) (s32_3:(List bv)) (s64:bv),LeO (oe F t3 t5 s0 s32_0 s32_1 s32_2 s32_3 s64) (s_l8Compare_L1 t3 t5 s0 s32_0 s32_1 s32_2 s32_3 s64):=fun t3 t5 s0 s32_0 s32_1 s32_2 s32_3 s64=>(show s_l8Compare_L1 t3 t5 s0 s32_0 s32_1 s32_2 s32_3 s64=oe bQ t3 t5 s0 s32_0 s32_1 s32_2 s32_3 s64 from leq (by kernel_rfl)).symm ▸ (show LeO (oe F t3 t5 s0 s32_0 s32_1 s32_2 s32_3 s64) (oe bQ t3 t5 s0 s32_0 s32_1 s32_2 s32_3 s64) from(li (li (lb (H.s_l8Sign _ _) fun _=>(li (lb (H.s_l8Next _) fun _=>(lb (H.s_l8Level _ _) fun _=>(lb (H.s_l8Kids _ _) fun _=>lr))) (H.s_l8Compare_L1 _ _ _ _ _ _ _ _))) lr) lr))
theorem G5{F:FsBuild}(H:LeFsBuild F):∀ (s0:bO),LeO (oB F s0) (s_l8Row s0):=fun s0=>(show s_l8Row s0=oB bQ s0 from leq (by kernel_rfl)).symm ▸ (show LeO (oB F s0) (oB bQ s0) from(lb (H.s_l8Level _ _) fun _=>(H.s_l8Row_L1 _ _ _ _ _ _)))
theorem G6{F:FsBuild}(H:LeFsBuild F):∀ (s0:bO) (s32_0:Int) (s32_1:Int) (s32_2:(List Int)) (s32_3:(List bv)) (s48:bv),LeO (oC F s0 s32_0 s32_1 s32_2 s32_3 s48) (s_l8Row_L1 s0 s32_0 s32_1 s32_2 s32_3 s48):=fun s0 s32_0 s32_1 s32_2 s32_3 s48=>(show s_l8Row_L1 s0 s32_0 s32_1 s32_2 s32_3 s48=oC bQ s0 s32_0 s32_1 s32_2 s32_3 s48 from leq (by kernel_rfl)).symm ▸ (show LeO (oC F s0 s32_0 s32_1 s32_2 s32_3 s48) (oC bQ s0 s32_0 s32_1 s32_2 s32_3 s48) from(lb (H.s_l8Begins _) fun _=>(li (lb (H.s_l8Level _ _) fun _=>(lb (H.s_l8Kids _ _) fun _=>(H.s_l8Row_L1 _ _ _ _ _ _))) lr)))
theorem Hd{F:FsBuild}(H:LeFsBuild F):∀ (s0:bO),LeO (oJ F s0) (s_l8Unit s0):=fun s0=>(show s_l8Unit s0=oJ bQ s0 from leq (by kernel_rfl)).symm ▸ (show LeO (oJ F s0) (oJ bQ s0) from(li (lb (H.s_l8Atom _) fun _=>lr) (lb (H.s_l8Sign _ _) fun _=>(li (lb (H.s_l8Next _) fun _=>(lb (H.s_l8Unit _) fun _=>(lb (H.s_l8Kids _ _) fun _=>lr))) (lb (H.s_l8Sign _ _) fun _=>(li (lb (H.s_l8Next _) fun _=>(lb (H.s_l8Unit _) fun _=>(lb (H.s_l8Kids _ _) fun _=>lr))) (lb (H.s_l8Atom _) fun _=>lr)))))))
theorem GT{F:FsBuild}(H:LeFsBuild F):∀ (s0:bO) (t1:Int),LeO (oq F s0 t1) (s_l8Left s0 t1):=fun s0 t1=>(show s_l8Left s0 t1=oq bQ s0 t1 from leq (by kernel_rfl)).symm ▸ (show LeO (oq F s0 t1) (oq bQ s0 t1) from(lb (H.s_l8Level _ _) fun _=>(H.s_l8Left_L1 _ _ _ _ _ _)))
theorem GU{F:FsBuild}(H:LeFsBuild F):∀ (t1:Int) (t5:(List (List (List Int)))) (t6:(List (List Int))) (s0:bO) (s64:bv) (s112:bv),LeO (ot F t1 t5 t6 s0 s64 s112) (s_l8Left_L1 t1 t5 t6 s0 s64 s112):=fun t1 t5 t6 s0 s64 s112=>(show s_l8Left_L1 t1 t5 t6 s0 s64 s112=ot bQ t1 t5 t6 s0 s64 s112 from leq (by kernel_rfl)).symm ▸ (show LeO (ot F t1 t5 t6 s0 s64 s112) (ot bQ t1 t5 t6 s0 s64 s112) from(li (H.s_l8Left_L2 _ _ _ _ _ _ _) lr))
theorem GV{F:FsBuild}(H:LeFsBuild F):∀ (t1:Int) (t5:(List (List (List Int)))) (t6:(List (List Int))) (t8:Int) (s0:bO) (s64:bv) (s112:bv),LeO (ou F t1 t5 t6 t8 s0 s64 s112) (s_l8Left_L2 t1 t5 t6 t8 s0 s64 s112):=fun t1 t5 t6 t8 s0 s64 s112=>(show s_l8Left_L2 t1 t5 t6 t8 s0 s64 s112=ou bQ t1 t5 t6 t8 s0 s64 s112 from leq (by kernel_rfl)).symm ▸ (show LeO (ou F t1 t5 t6 t8 s0 s64 s112) (ou bQ t1 t5 t6 t8 s0 s64 s112) from(li (li (li (li (lb (H.s_l8Sign _ _) fun _=>(li (H.s_l8Left_L2 _ _ _ _ _ _ _) (li (li lr (lb (H.s_l8Next _) fun _=>(lb (H.s_l8Level _ _) fun _=>(li (li (lb (H.s_l8Kids _ _) fun _=>(H.s_l8Left_L3 _ _ _ _ _ _ _)) lr) lr)))) lr))) lr) lr) (li (li lr (lb (H.s_l8Next _) fun _=>(lb (H.s_l8Level _ _) fun _=>(li (li (lb (H.s_l8Kids _ _) fun _=>(H.s_l8Left_L3 _ _ _ _ _ _ _)) lr) lr)))) lr)) lr))
theorem GW{F:FsBuild}(H:LeFsBuild F):∀ (t1:Int) (t5:(List (List (List Int)))) (t6:(List (List Int))) (t8:Int) (s0:bO) (s64:bv) (s112:bv),LeO (ov F t1 t5 t6 t8 s0 s64 s112) (s_l8Left_L3 t1 t5 t6 t8 s0 s64 s112):=fun t1 t5 t6 t8 s0 s64 s112=>(show s_l8Left_L3 t1 t5 t6 t8 s0 s64 s112=ov bQ t1 t5 t6 t8 s0 s64 s112 from leq (by kernel_rfl)).symm ▸ (show LeO (ov F t1 t5 t6 t8 s0 s64 s112) (ov bQ t1 t5 t6 t8 s0 s64 s112) from(li (li (lb (H.s_l8Kids _ _) fun _=>(H.s_l8Left_L1 _ _ _ _ _ _)) (H.s_l8Left_L1 _ _ _ _ _ _)) (H.s_l8Left_L1 _ _ _ _ _ _)))
theorem Hk{F:FsBuild}(H:LeFsBuild F):∀ (t0:bv),LeO (oQ F t0) (s_l9Kids t0):=fun t0=>(show s_l9Kids t0=oQ bQ t0 from leq (by kernel_rfl)).symm ▸ (show LeO (oQ F t0) (oQ bQ t0) from(li (H.s_l9Kids_L1 _ _ _ _) (li (H.s_l9Kids_L1 _ _ _ _) (li (H.s_l9Kids_L1 _ _ _ _) (li (H.s_l9Kids_L1 _ _ _ _) (li (H.s_l9Kids_L1 _ _ _ _) (H.s_l9Kids_L1 _ _ _ _)))))))
theorem Hl{F:FsBuild}(H:LeFsBuild F):∀ (t3:Int) (t9:Int) (t10:Bool) (s16:bv),LeO (oR F t3 t9 t10 s16) (s_l9Kids_L1 t3 t9 t10 s16):=fun t3 t9 t10 s16=>(show s_l9Kids_L1 t3 t9 t10 s16=oR bQ t3 t9 t10 s16 from leq (by kernel_rfl)).symm ▸ (show LeO (oR F t3 t9 t10 s16) (oR bQ t3 t9 t10 s16) from(li (li (lb (H.s_l9Es _ _ _) fun _=>lr) lr) (li (H.s_l9Kids_L2 _ _ _ _) (li (H.s_l9Kids_L2 _ _ _ _) (li (H.s_l9Kids_L2 _ _ _ _) (li (H.s_l9Kids_L2 _ _ _ _) (li (H.s_l9Kids_L2 _ _ _ _) (li (H.s_l9Kids_L2 _ _ _ _) (li (H.s_l9Kids_L2 _ _ _ _) (li (H.s_l9Kids_L2 _ _ _ _) (li (H.s_l9Kids_L2 _ _ _ _) (li (H.s_l9Kids_L2 _ _ _ _) (li (H.s_l9Kids_L2 _ _ _ _) (li (H.s_l9Kids_L2 _ _ _ _) (li (H.s_l9Kids_L2 _ _ _ _) (li (H.s_l9Kids_L2 _ _ _ _) (H.s_l9Kids_L2 _ _ _ _)))))))))))))))))
theorem Hm{F:FsBuild}(H:LeFsBuild F):∀ (t3:Int) (t9:Int) (t23:Bool) (s16:bv),LeO (oS F t3 t9 t23 s16) (s_l9Kids_L2 t3 t9 t23 s16):=fun t3 t9 t23 s16=>(show s_l9Kids_L2 t3 t9 t23 s16=oS bQ t3 t9 t23 s16 from leq (by kernel_rfl)).symm ▸ (show LeO (oS F t3 t9 t23 s16) (oS bQ t3 t9 t23 s16) from(li (li (lb (H.s_l9Es _ _ _) fun _=>lr) lr) (li (H.s_l9Kids_L3 _ _ _ _) (H.s_l9Kids_L3 _ _ _ _))))
theorem Hn{F:FsBuild}(H:LeFsBuild F):∀ (t3:Int) (t9:Int) (t45:Bool) (s16:bv),LeO (oT F t3 t9 t45 s16) (s_l9Kids_L3 t3 t9 t45 s16):=fun t3 t9 t45 s16=>(show s_l9Kids_L3 t3 t9 t45 s16=oT bQ t3 t9 t45 s16 from leq (by kernel_rfl)).symm ▸ (show LeO (oT F t3 t9 t45 s16) (oT bQ t3 t9 t45 s16) from(li (li (li (li (lb (H.s_l9Es _ _ _) fun _=>lr) (li (li (lb (H.s_l9Es _ _ _) fun _=>lr) lr) lr)) lr) lr) (li (H.s_l9Kids_L4 _ _ _ _) (H.s_l9Kids_L4 _ _ _ _))))
theorem Ho{F:FsBuild}(H:LeFsBuild F):∀ (t3:Int) (t9:Int) (t70:Bool) (s16:bv),LeO (oU F t3 t9 t70 s16) (s_l9Kids_L4 t3 t9 t70 s16):=fun t3 t9 t70 s16=>(show s_l9Kids_L4 t3 t9 t70 s16=oU bQ t3 t9 t70 s16 from leq (by kernel_rfl)).symm ▸ (show LeO (oU F t3 t9 t70 s16) (oU bQ t3 t9 t70 s16) from(li (lb (H.s_l9Es _ _ _) fun _=>lr) (li (lb (H.s_l1In _ _ _) fun _=>(li (lb (H.s_l9Es _ _ _) fun _=>(li (lb (H.s_l9Blocks _ _) fun _=>lr) lr)) lr)) (li (li (lb (H.s_l9Es _ _ _) fun _=>(li (lb (H.s_l9Blocks _ _) fun _=>lr) lr)) lr) (li (H.s_l9Kids_L5 _ _ _) lr)))))
theorem Hp{F:FsBuild}(H:LeFsBuild F):∀ (t3:Int) (t4:Int) (s16:bv),LeO (oV F t3 t4 s16) (s_l9Kids_L5 t3 t4 s16):=fun t3 t4 s16=>(show s_l9Kids_L5 t3 t4 s16=oV bQ t3 t4 s16 from leq (by kernel_rfl)).symm ▸ (show LeO (oV F t3 t4 s16) (oV bQ t3 t4 s16) from(li (li (lb (H.s_l1In _ _ _) fun _=>(li lr (li (lb (H.s_l9Node _) fun _=>(li lr (H.s_l9Kids_L5 _ _ _))) lr))) lr) lr))
theorem Hw{F:FsBuild}(H:LeFsBuild F):∀ (t0:(List Int)),LeO (o4 F t0) (s_l9Rex t0):=fun t0=>(show s_l9Rex t0=o4 bQ t0 from leq (by kernel_rfl)).symm ▸ (show LeO (o4 F t0) (o4 bQ t0) from(H.s_l9Rex_L1 _ _))
theorem Hx{F:FsBuild}(H:LeFsBuild F):∀ (t0:(List Int)) (t3:Int),LeO (o5 F t0 t3) (s_l9Rex_L1 t0 t3):=fun t0 t3=>(show s_l9Rex_L1 t0 t3=o5 bQ t0 t3 from leq (by kernel_rfl)).symm ▸ (show LeO (o5 F t0 t3) (o5 bQ t0 t3) from(li (li (li (li lr (li (li lr (H.s_l9Rex_L1 _ _)) lr)) (H.s_l9Rex_L1 _ _)) lr) (lb (H.s_l9Line _) fun _=>lr)))
theorem FL{F:FsBuild}(H:LeFsBuild F):∀ (s0:bN) (t1:Int),LeO (m8 F s0 t1) (s_l3Part s0 t1):=fun s0 t1=>(show s_l3Part s0 t1=m8 bQ s0 t1 from leq (by kernel_rfl)).symm ▸ (show LeO (m8 F s0 t1) (m8 bQ s0 t1) from(H.s_l3Part_L1 _ _ _ _))
theorem FM{F:FsBuild}(H:LeFsBuild F):∀ (t1:Int) (t5:(List bC)) (s0:bN) (s64:bC),LeO (m9 F t1 t5 s0 s64) (s_l3Part_L1 t1 t5 s0 s64):=fun t1 t5 s0 s64=>(show s_l3Part_L1 t1 t5 s0 s64=m9 bQ t1 t5 s0 s64 from leq (by kernel_rfl)).symm ▸ (show LeO (m9 F t1 t5 s0 s64) (m9 bQ t1 t5 s0 s64) from(li (li (li (li (li (li (lb (H.s_l3Piece _ _) fun _=>(li (H.s_l3Part_L1 _ _ _ _) lr)) (li lr (li (li lr lr) lr))) lr) (li lr (li (li lr lr) lr))) lr) (li lr (li (li lr lr) lr))) (li lr (li (li lr lr) lr))))
theorem FK{F:FsBuild}(H:LeFsBuild F):∀ (s0:bN) (t1:Int),LeO (m0 F s0 t1) (s_l3Now s0 t1):=fun s0 t1=>(show s_l3Now s0 t1=m0 bQ s0 t1 from leq (by kernel_rfl)).symm ▸ (show LeO (m0 F s0 t1) (m0 bQ s0 t1) from(li (li (li lr lr) lr) lr))
theorem GH{F:FsBuild}(H:LeFsBuild F):∀ (s0:bO),LeO (n9 F s0) (s_l8Begins s0):=fun s0=>(show s_l8Begins s0=n9 bQ s0 from leq (by kernel_rfl)).symm ▸ (show LeO (n9 F s0) (n9 bQ s0) from(lb (H.s_l8Now _) fun _=>(li lr (li (H.s_l8Begins_L1 _ _ _ _) (li (H.s_l8Begins_L1 _ _ _ _) (H.s_l8Begins_L1 _ _ _ _))))))
theorem GI{F:FsBuild}(H:LeFsBuild F):∀ (t12:Int) (t13:Bool) (s0:bO) (s48:bF),LeO (oa F t12 t13 s0 s48) (s_l8Begins_L1 t12 t13 s0 s48):=fun t12 t13 s0 s48=>(show s_l8Begins_L1 t12 t13 s0 s48=oa bQ t12 t13 s0 s48 from leq (by kernel_rfl)).symm ▸ (show LeO (oa F t12 t13 s0 s48) (oa bQ t12 t13 s0 s48) from(li lr (li (lb (H.s_Keyword _) fun _=>(li lr (li lr (li lr (lb (H.s_l7Calls ) fun _=>(lb (H.s_l7Within _ _) fun _=>lr)))))) (li (li lr lr) lr))))
theorem GF{F:FsBuild}(H:LeFsBuild F):∀ (s0:bO),LeO (n7 F s0) (s_l8Atom s0):=fun s0=>(show s_l8Atom s0=n7 bQ s0 from leq (by kernel_rfl)).symm ▸ (show LeO (n7 F s0) (n7 bQ s0) from(li lr (lb (H.s_l8Now _) fun _=>(li lr (li (lb (H.s_l8Next _) fun _=>lr) (li (lb (H.s_l8Next _) fun _=>lr) (li (lb (H.s_l8Next _) fun _=>lr) (li (lb (H.s_l8Named _) fun _=>lr) (lb (H.s_l8Sign _ _) fun _=>(li (lb (H.s_l8Next _) fun _=>(lb (H.s_l8Atom _) fun _=>(lb (H.s_l8Kids _ _) fun _=>lr))) (lb (H.s_l8Take _ _) fun _=>(lb (H.s_l8E _) fun _=>(lb (H.s_l8Take _ _) fun _=>lr)))))))))))))
theorem Hh{F:FsBuild}(H:LeFsBuild F):∀ (t0:bv) (t1:Int) (t2:Int),LeO (oN F t0 t1 t2) (s_l9Es t0 t1 t2):=fun t0 t1 t2=>(show s_l9Es t0 t1 t2=oN bQ t0 t1 t2 from leq (by kernel_rfl)).symm ▸ (show LeO (oN F t0 t1 t2) (oN bQ t0 t1 t2) from(H.s_l9Es_L1 _ _ _))
theorem Hi{F:FsBuild}(H:LeFsBuild F):∀ (t2:Int) (t7:Int) (s48:bv),LeO (oO F t2 t7 s48) (s_l9Es_L1 t2 t7 s48):=fun t2 t7 s48=>(show s_l9Es_L1 t2 t7 s48=oO bQ t2 t7 s48 from leq (by kernel_rfl)).symm ▸ (show LeO (oO F t2 t7 s48) (oO bQ t2 t7 s48) from(li (li (lb (H.s_l9IsE _) fun _=>(li lr (li (lb (H.s_l9Node _) fun _=>(li lr (H.s_l9Es_L1 _ _ _))) lr))) lr) lr))
theorem Hf{F:FsBuild}(H:LeFsBuild F):∀ (t0:bv) (t1:Int),LeO (oL F t0 t1) (s_l9Blocks t0 t1):=fun t0 t1=>(show s_l9Blocks t0 t1=oL bQ t0 t1 from leq (by kernel_rfl)).symm ▸ (show LeO (oL F t0 t1) (oL bQ t0 t1) from(H.s_l9Blocks_L1 _ _))
theorem Hg{F:FsBuild}(H:LeFsBuild F):∀ (t5:Int) (s32:bv),LeO (oM F t5 s32) (s_l9Blocks_L1 t5 s32):=fun t5 s32=>(show s_l9Blocks_L1 t5 s32=oM bQ t5 s32 from leq (by kernel_rfl)).symm ▸ (show LeO (oM F t5 s32) (oM bQ t5 s32) from(li (li (li lr (li (lb (H.s_l9Node _) fun _=>(li lr (H.s_l9Blocks_L1 _ _))) lr)) lr) lr))
theorem FP{F:FsBuild}(H:LeFsBuild F):∀ (s0:bN) (t1:Int),LeO (nf F s0 t1) (s_l3Piece s0 t1):=fun s0 t1=>(show s_l3Piece s0 t1=nf bQ s0 t1 from leq (by kernel_rfl)).symm ▸ (show LeO (nf F s0 t1) (nf bQ s0 t1) from(lb (H.s_l3Atom _ _) fun _=>(H.s_l3Piece_L1 _ _ _)))
theorem FQ{F:FsBuild}(H:LeFsBuild F):∀ (s0:bN) (s64:bC) (s80:bC),LeO (ng F s0 s64 s80) (s_l3Piece_L1 s0 s64 s80):=fun s0 s64 s80=>(show s_l3Piece_L1 s0 s64 s80=ng bQ s0 s64 s80 from leq (by kernel_rfl)).symm ▸ (show LeO (ng F s0 s64 s80) (ng bQ s0 s64 s80) from(li (lb (H.s_l3Now _ _) fun _=>(li (H.s_l3Piece_L2 _ _ _ _) (lb (H.s_l3Now _ _) fun _=>(li (H.s_l3Piece_L2 _ _ _ _) (lb (H.s_l3Now _ _) fun _=>(li (H.s_l3Piece_L2 _ _ _ _) (H.s_l3Piece_L2 _ _ _ _))))))) lr))
theorem FR{F:FsBuild}(H:LeFsBuild F):∀ (t6:Int) (s0:bN) (s64:bC) (s80:bC),LeO (nh F t6 s0 s64 s80) (s_l3Piece_L2 t6 s0 s64 s80):=fun t6 s0 s64 s80=>(show s_l3Piece_L2 t6 s0 s64 s80=nh bQ t6 s0 s64 s80 from leq (by kernel_rfl)).symm ▸ (show LeO (nh F t6 s0 s64 s80) (nh bQ t6 s0 s64 s80) from(li lr (H.s_l3Piece_L1 _ _ _)))
theorem FG{F:FsBuild}(H:LeFsBuild F):∀ (s0:bN) (t1:Int),LeO (mW F s0 t1) (s_l3Atom s0 t1):=fun s0 t1=>(show s_l3Atom s0 t1=mW bQ s0 t1 from leq (by kernel_rfl)).symm ▸ (show LeO (mW F s0 t1) (mW bQ s0 t1) from(li lr (li lr (li lr (li (li (lb (H.s_l3Pattern _ _) fun _=>(lb (H.s_l3Now _ _) fun _=>(li lr lr))) (li lr (li lr (li lr (li (lb (H.s_l3Set _) fun _=>lr) (li (li lr (li lr lr)) (li (li (H.s_l3Atom_L1 _ _ _) (H.s_l3Atom_L1 _ _ _)) (li (li (H.s_l3Atom_L1 _ _ _) (H.s_l3Atom_L1 _ _ _)) (li (H.s_l3Atom_L1 _ _ _) (H.s_l3Atom_L1 _ _ _)))))))))) lr)))))
theorem FH{F:FsBuild}(H:LeFsBuild F):∀ (t5:Int) (s0:bN) (s64:bC),LeO (mX F t5 s0 s64) (s_l3Atom_L1 t5 s0 s64):=fun t5 s0 s64=>(show s_l3Atom_L1 t5 s0 s64=mX bQ t5 s0 s64 from leq (by kernel_rfl)).symm ▸ (show LeO (mX F t5 s0 s64) (mX bQ t5 s0 s64)from lr)
theorem Ex{F:FsBuild}(H:LeFsBuild F):∀ (t0:bC),LeO (lV F t0) (s_NfaOf t0):=fun t0=>(show s_NfaOf t0=lV bQ t0 from leq (by kernel_rfl)).symm ▸ (show LeO (lV F t0) (lV bQ t0) from(lb (H.s_RexOk _) fun _=>(li lr (lb (H.s_l4Of _ _) fun _=>(lb (H.s_l4Put _ _) fun _=>lr)))))
theorem FY{F:FsBuild}(H:LeFsBuild F):∀ (s0:bN),LeO (nq F s0) (s_l3Set s0):=fun s0=>(show s_l3Set s0=nq bQ s0 from leq (by kernel_rfl)).symm ▸ (show LeO (nq F s0) (nq bQ s0) from(lb (H.s_l3Now _ _) fun _=>(li (H.s_l3Set_L1 _ _ _) (H.s_l3Set_L1 _ _ _))))
theorem FZ{F:FsBuild}(H:LeFsBuild F):∀ (s0:bN) (s32:bC) (s48:bC),LeO (nr F s0 s32 s48) (s_l3Set_L1 s0 s32 s48):=fun s0 s32 s48=>(show s_l3Set_L1 s0 s32 s48=nr bQ s0 s32 s48 from leq (by kernel_rfl)).symm ▸ (show LeO (nr F s0 s32 s48) (nr bQ s0 s32 s48) from(H.s_l3Set_L2 _ _ _ _ _))
theorem F5{F:FsBuild}(H:LeFsBuild F):∀ (t4:(List Bool)) (t5:Int) (s0:bN) (s32:bC) (s48:bC),LeO (nu F t4 t5 s0 s32 s48) (s_l3Set_L2 t4 t5 s0 s32 s48):=fun t4 t5 s0 s32 s48=>(show s_l3Set_L2 t4 t5 s0 s32 s48=nu bQ t4 t5 s0 s32 s48 from leq (by kernel_rfl)).symm ▸ (show LeO (nu F t4 t5 s0 s32 s48) (nu bQ t4 t5 s0 s32 s48) from(li (li (li (li (li (li (li (li (li (li (H.s_l3Set_L3 _ _ _ _ _ _ _) lr) (H.s_l3Set_L3 _ _ _ _ _ _ _)) lr) (H.s_l3Set_L3 _ _ _ _ _ _ _)) lr) (H.s_l3Set_L3 _ _ _ _ _ _ _)) lr) (li (H.s_l3Set_L4 _ _ _ _) (li (H.s_l3Set_L4 _ _ _ _) (H.s_l3Set_L4 _ _ _ _)))) lr) (li (H.s_l3Set_L4 _ _ _ _) (li (H.s_l3Set_L4 _ _ _ _) (H.s_l3Set_L4 _ _ _ _)))))
theorem F6{F:FsBuild}(H:LeFsBuild F):∀ (t4:(List Bool)) (t5:Int) (t6:Int) (t7:Int) (s0:bN) (s32:bC) (s48:bC),LeO (nw F t4 t5 t6 t7 s0 s32 s48) (s_l3Set_L3 t4 t5 t6 t7 s0 s32 s48):=fun t4 t5 t6 t7 s0 s32 s48=>(show s_l3Set_L3 t4 t5 t6 t7 s0 s32 s48=nw bQ t4 t5 t6 t7 s0 s32 s48 from leq (by kernel_rfl)).symm ▸ (show LeO (nw F t4 t5 t6 t7 s0 s32 s48) (nw bQ t4 t5 t6 t7 s0 s32 s48) from(li (H.s_l3Set_L5 _ _ _ _ _ _ _) (H.s_l3Set_L5 _ _ _ _ _ _ _)))
theorem F7{F:FsBuild}(H:LeFsBuild F):∀ (t4:(List Bool)) (s0:bN) (s32:bC) (s48:bC),LeO (nx F t4 s0 s32 s48) (s_l3Set_L4 t4 s0 s32 s48):=fun t4 s0 s32 s48=>(show s_l3Set_L4 t4 s0 s32 s48=nx bQ t4 s0 s32 s48 from leq (by kernel_rfl)).symm ▸ (show LeO (nx F t4 s0 s32 s48) (nx bQ t4 s0 s32 s48) from(H.s_l3Set_L6 _ _ _ _ _ _))
theorem F8{F:FsBuild}(H:LeFsBuild F):∀ (t4:(List Bool)) (t5:Int) (t6:Int) (t7:Int) (s0:bN) (s32:bC) (s48:bC),LeO (ny F t4 t5 t6 t7 s0 s32 s48) (s_l3Set_L5 t4 t5 t6 t7 s0 s32 s48):=fun t4 t5 t6 t7 s0 s32 s48=>(show s_l3Set_L5 t4 t5 t6 t7 s0 s32 s48=ny bQ t4 t5 t6 t7 s0 s32 s48 from leq (by kernel_rfl)).symm ▸ (show LeO (ny F t4 t5 t6 t7 s0 s32 s48) (ny bQ t4 t5 t6 t7 s0 s32 s48) from(H.s_l3Set_L7 _ _ _ _ _ _ _))
theorem F9{F:FsBuild}(H:LeFsBuild F):∀ (t4:(List Bool)) (t9:(List Int)) (t10:Int) (s0:bN) (s32:bC) (s48:bC),LeO (nz F t4 t9 t10 s0 s32 s48) (s_l3Set_L6 t4 t9 t10 s0 s32 s48):=fun t4 t9 t10 s0 s32 s48=>(show s_l3Set_L6 t4 t9 t10 s0 s32 s48=nz bQ t4 t9 t10 s0 s32 s48 from leq (by kernel_rfl)).symm ▸ (show LeO (nz F t4 t9 t10 s0 s32 s48) (nz bQ t4 t9 t10 s0 s32 s48) from(li (li (li (li (H.s_l3Set_L6 _ _ _ _ _ _) lr) (H.s_l3Set_L6 _ _ _ _ _ _)) lr) lr))
theorem Gd{F:FsBuild}(H:LeFsBuild F):∀ (t4:(List Bool)) (t5:Int) (t7:Int) (t8:Int) (s0:bN) (s32:bC) (s48:bC),LeO (nA F t4 t5 t7 t8 s0 s32 s48) (s_l3Set_L7 t4 t5 t7 t8 s0 s32 s48):=fun t4 t5 t7 t8 s0 s32 s48=>(show s_l3Set_L7 t4 t5 t7 t8 s0 s32 s48=nA bQ t4 t5 t7 t8 s0 s32 s48 from leq (by kernel_rfl)).symm ▸ (show LeO (nA F t4 t5 t7 t8 s0 s32 s48) (nA bQ t4 t5 t7 t8 s0 s32 s48) from(li (li (H.s_l3Set_L7 _ _ _ _ _ _ _) lr) (H.s_l3Set_L2 _ _ _ _ _)))
theorem EF{F:FsBuild}(H:LeFsBuild F):∀ (t0:bC),LeO (l8 F t0) (s_RexOk t0):=fun t0=>(show s_RexOk t0=l8 bQ t0 from leq (by kernel_rfl)).symm ▸ (show LeO (l8 F t0) (l8 bQ t0) from(lb (H.s_l3Deep _) fun _=>(li (lb (H.s_l3Right _) fun _=>lr) lr)))
theorem Gg{F:FsBuild}(H:LeFsBuild F):∀ (t0:(List bz)) (t1:bC),LeO (nD F t0 t1) (s_l4Of t0 t1):=fun t0 t1=>(show s_l4Of t0 t1=nD bQ t0 t1 from leq (by kernel_rfl)).symm ▸ (show LeO (nD F t0 t1) (nD bQ t0 t1) from(li (li lr lr) (li (lb (H.s_l4Put _ _) fun _=>lr) (li (li lr lr) (li (lb (H.s_l4Put _ _) fun _=>lr) (li (lb (H.s_l4Put _ _) fun _=>lr) (li (H.s_l4Of_L1 _ _ _) (li (lb (H.s_l4Or _ _) fun _=>lr) (li (lb (H.s_l4Put _ _) fun _=>(li (lb (H.s_l4Of _ _) fun _=>(li (li (li (H.s_l4Of_L2 _) lr) lr) lr)) lr)) (li (li (lb (H.s_l4Of _ _) fun _=>(li (H.s_l4Of_L2 _) lr)) lr) (li (lb (H.s_l4Put _ _) fun _=>(li (lb (H.s_l4Of _ _) fun _=>(li (li (H.s_l4Of_L2 _) lr) lr)) lr)) (H.s_l4Of_L2 _))))))))))))
theorem Gh{F:FsBuild}(H:LeFsBuild F):∀ (t0:(List bz)) (t6:Int) (s48:bC),LeO (nE F t0 t6 s48) (s_l4Of_L1 t0 t6 s48):=fun t0 t6 s48=>(show s_l4Of_L1 t0 t6 s48=nE bQ t0 t6 s48 from leq (by kernel_rfl)).symm ▸ (show LeO (nE F t0 t6 s48) (nE bQ t0 t6 s48) from(li (li (lb (H.s_l4Of _ _) fun _=>(H.s_l4Of_L1 _ _ _)) lr) (H.s_l4Of_L2 _)))
theorem Gi{F:FsBuild}(H:LeFsBuild F):∀ (t0:(List bz)),LeO (nF F t0) (s_l4Of_L2 t0):=fun t0=>(show s_l4Of_L2 t0=nF bQ t0 from leq (by kernel_rfl)).symm ▸ (show LeO (nF F t0) (nF bQ t0)from lr)
theorem Gm{F:FsBuild}(H:LeFsBuild F):∀ (t0:(List bz)) (t1:Int),LeO (nJ F t0 t1) (s_l4Put t0 t1):=fun t0 t1=>(show s_l4Put t0 t1=nJ bQ t0 t1 from leq (by kernel_rfl)).symm ▸ (show LeO (nJ F t0 t1) (nJ bQ t0 t1) from(li lr lr))
theorem FS{F:FsBuild}(H:LeFsBuild F):∀ (t0:bC),LeO (ni F t0) (s_l3Right t0):=fun t0=>(show s_l3Right t0=ni bQ t0 from leq (by kernel_rfl)).symm ▸ (show LeO (ni F t0) (ni bQ t0) from(H.s_l3Right_L1 _ _))
theorem FU{F:FsBuild}(H:LeFsBuild F):∀ (t3:Int) (s16:bC),LeO (nj F t3 s16) (s_l3Right_L1 t3 s16):=fun t3 s16=>(show s_l3Right_L1 t3 s16=nj bQ t3 s16 from leq (by kernel_rfl)).symm ▸ (show LeO (nj F t3 s16) (nj bQ t3 s16) from(li (li (lb (H.s_l3Right _) fun _=>(li lr (H.s_l3Right_L1 _ _))) lr) (li (lb (H.s_l1In _ _ _) fun _=>(li (li (li lr lr) lr) lr)) (li (li (li (lb (H.s_l3Up _) fun _=>(li lr lr)) lr) lr) (li (H.s_l3Right_L2 _ _ _ _) (H.s_l3Right_L2 _ _ _ _))))))
theorem FV{F:FsBuild}(H:LeFsBuild F):∀ (t4:Int) (t23:Int) (t62:Bool) (s16:bC),LeO (nk F t4 t23 t62 s16) (s_l3Right_L2 t4 t23 t62 s16):=fun t4 t23 t62 s16=>(show s_l3Right_L2 t4 t23 t62 s16=nk bQ t4 t23 t62 s16 from leq (by kernel_rfl)).symm ▸ (show LeO (nk F t4 t23 t62 s16) (nk bQ t4 t23 t62 s16) from(li (li (li (li lr lr) lr) lr) (li (H.s_l3Right_L3 _ _ _) (li (H.s_l3Right_L3 _ _ _) (H.s_l3Right_L3 _ _ _)))))
theorem FX{F:FsBuild}(H:LeFsBuild F):∀ (t4:Int) (t82:Bool) (s16:bC),LeO (nn F t4 t82 s16) (s_l3Right_L3 t4 t82 s16):=fun t4 t82 s16=>(show s_l3Right_L3 t4 t82 s16=nn bQ t4 t82 s16 from leq (by kernel_rfl)).symm ▸ (show LeO (nn F t4 t82 s16) (nn bQ t4 t82 s16) from(li (li (li (li lr lr) lr) lr) (lb (H.s_l1In _ _ _) fun _=>(li (li (li (li lr lr) lr) lr) lr))))
theorem Gj{F:FsBuild}(H:LeFsBuild F):∀ (t0:(List bz)) (t1:(List bC)),LeO (nG F t0 t1) (s_l4Or t0 t1):=fun t0 t1=>(show s_l4Or t0 t1=nG bQ t0 t1 from leq (by kernel_rfl)).symm ▸ (show LeO (nG F t0 t1) (nG bQ t0 t1) from(H.s_l4Or_L1 _ _ _ _))
theorem Gk{F:FsBuild}(H:LeFsBuild F):∀ (t0:(List bz)) (t1:(List bC)) (t5:(List Int)) (t6:Int),LeO (nH F t0 t1 t5 t6) (s_l4Or_L1 t0 t1 t5 t6):=fun t0 t1 t5 t6=>(show s_l4Or_L1 t0 t1 t5 t6=nH bQ t0 t1 t5 t6 from leq (by kernel_rfl)).symm ▸ (show LeO (nH F t0 t1 t5 t6) (nH bQ t0 t1 t5 t6) from(li (lb (H.s_l4Put _ _) fun _=>(li (lb (H.s_l4Of _ _) fun _=>(li (lb (H.s_l4Put _ _) fun _=>(li (li (H.s_l4Or_L1 _ _ _ _) lr) lr)) lr)) lr)) (li (lb (H.s_l4Of _ _) fun _=>(H.s_l4Or_L2 _ _ _)) lr)))
theorem Gl{F:FsBuild}(H:LeFsBuild F):∀ (t0:(List bz)) (t5:(List Int)) (t8:Int),LeO (nI F t0 t5 t8) (s_l4Or_L2 t0 t5 t8):=fun t0 t5 t8=>(show s_l4Or_L2 t0 t5 t8=nI bQ t0 t5 t8 from leq (by kernel_rfl)).symm ▸ (show LeO (nI F t0 t5 t8) (nI bQ t0 t5 t8) from(li (li (li (H.s_l4Or_L2 _ _ _) lr) lr) lr))
theorem Ge{F:FsBuild}(H:LeFsBuild F):∀ (t0:(List Int)),LeO (nB F t0) (s_l3Up t0):=fun t0=>(show s_l3Up t0=nB bQ t0 from leq (by kernel_rfl)).symm ▸ (show LeO (nB F t0) (nB bQ t0) from(H.s_l3Up_L1 _ _))
theorem Gf{F:FsBuild}(H:LeFsBuild F):∀ (t0:(List Int)) (t3:Int),LeO (nC F t0 t3) (s_l3Up_L1 t0 t3):=fun t0 t3=>(show s_l3Up_L1 t0 t3=nC bQ t0 t3 from leq (by kernel_rfl)).symm ▸ (show LeO (nC F t0 t3) (nC bQ t0 t3) from(li (li (li (li lr (H.s_l3Up_L1 _ _)) lr) lr) lr))
def kA(n:Nat):FsBuild:=Nat.rec ⟨fun _ _ _=>none,fun _=>none,fun _=>none,fun _ _=>none,fun _ _=>none,fun _=>none,fun _ _=>none,fun _=>none,fun _ _ _ _ _ _ _ _=>none,fun _=>none,fun _ _ _ _ _ _ _ _ _ _ _=>none,fun _=>none,fun _ _=>none,fun _ _=>none,fun _ _ _=>none,fun _ _ _=>none,fun _ _ _ _ _=>none,fun _=>none,fun _ _ _=>none,fun _ _ _=>none,fun _=>none,fun _=>none,fun _=>none,fun _ _ _=>none,fun _ _=>none,fun _=>none,fun _ _=>none,fun _ _ _ _=>none,fun _ _=>none,fun _ _=>none,fun _=>none,fun _ _ _ _=>none,fun _ _ _ _=>none,fun _ _ _ _ _=>none,fun _ _ _ _=>none,fun _ _ _ _ _ _=>none,fun _ _ _ _ _=>none,fun _ _ _ _ _ _=>none,fun _=>none,fun _=>none,fun _ _ _ _=>none,fun _ _ _ _ _ _=>none,fun _ _ _ _ _=>none,fun _ _ _ _=>none,fun _ _ _ _=>none,fun _ _ _=>none,fun _ _ _ _=>none,fun _ _=>none,fun _=>none,fun _=>none,fun _ _ _ _ _ _ _ _ _=>none,fun _ _=>none,fun _=>none,fun _ _ _ _ _ _ _=>none,fun _ _=>none,fun _=>none,fun _ _=>none,fun _=>none,fun _ _=>none,fun _=>none,fun _ _=>none,fun _ _ _=>none,fun _=>none,fun _ _=>none,fun _ _ _=>none,fun _ _ _=>none,fun _ _ _ _=>none,fun _ _ _ _=>none,fun _ _ _ _=>none,fun _ _ _ _=>none,fun _ _ _ _=>none,fun _ _ _ _=>none,none,fun _=>none,fun _=>none,fun _=>none,fun _ _=>none,fun _ _ _=>none,fun _ _ _ _=>none,fun _ _ _=>none,fun _ _=>none,fun _ _ _=>none,fun _=>none,fun _ _=>none,fun _ _ _=>none,fun _ _=>none,fun _ _ _ _=>none,fun _ _=>none,fun _=>none,fun _=>none,fun _ _=>none,fun _=>none,fun _ _ _=>none,fun _=>none,fun _ _=>none,fun _ _ _=>none,fun _ _ _ _=>none,fun _ _ _ _=>none,fun _ _ _ _ _=>none,fun _ _ _ _=>none,fun _ _ _ _=>none,fun _ _=>none,fun _ _ _=>none,fun _=>none,fun _ _=>none,fun _ _ _ _=>none,fun _=>none,fun _ _ _=>none,fun _=>none,fun _ _=>none,fun _ _ _=>none,fun _ _ _ _ _=>none,fun _ _ _ _ _ _=>none,fun _ _ _ _=>none,fun _=>none,fun _ _=>none,fun _=>none,fun _ _ _ _ _ _ _ _ _=>none,fun _ _=>none,fun _ _ _=>none,fun _=>none,fun _=>none,fun _ _ _ _ _ _ _ _=>none,fun _=>none,fun _ _ _ _ _ _=>none,fun _=>none,fun _ _=>none,fun _ _ _ _ _ _=>none,fun _ _ _ _ _ _ _=>none,fun _ _ _ _ _ _ _=>none,fun _=>none,fun _ _ _ _=>none,fun _ _ _ _=>none,fun _ _ _ _=>none,fun _ _ _ _=>none,fun _ _ _=>none,fun _=>none,fun _ _=>none,fun _ _=>none,fun _ _ _ _=>none,fun _ _=>none,fun _=>none,fun _ _ _ _=>none,fun _=>none,fun _ _ _=>none,fun _ _ _=>none,fun _ _=>none,fun _ _=>none,fun _ _=>none,fun _ _ _=>none,fun _ _ _ _=>none,fun _ _=>none,fun _ _ _=>none,fun _=>none,fun _=>none,fun _ _ _=>none,fun _ _ _ _ _=>none,fun _ _ _ _ _ _ _=>none,fun _ _ _ _=>none,fun _ _ _ _ _ _ _=>none,fun _ _ _ _ _ _=>none,fun _ _ _ _ _ _ _=>none,fun _=>none,fun _ _=>none,fun _ _ _=>none,fun _=>none,fun _ _=>none,fun _=>none,fun _ _=>none,fun _ _ _ _=>none,fun _ _ _=>none,fun _ _=>none,fun _ _ _ _=>none,fun _ _ _=>none,fun _=>none,fun _ _=>none⟩ (fun _ F=>⟨mT F,lB F,l5 F,l6 F,l7 F,oW F,oX F,lY F,lZ F,lH F,lI F,oY F,oZ F,nZ F,n6 F,lW F,lX F,mc F,md F,me F,oA F,oD F,lQ F,lR F,mU F,lC F,lD F,lE F,lF F,lG F,lT F,lU F,mD F,mE F,mF F,mG F,mH F,mO F,nM F,lS F,mw F,my F,mz F,mA F,mB F,nR F,nS F,om F,oz F,ob F,oc F,oE F,oh F,oi F,oo F,ma F,mb F,mi F,mj F,mf F,mg F,mh F,mr F,mt F,ml F,mm F,mn F,mQ F,mP F,mC F,mK F,mJ F,nL F,lP F,l9 F,mV F,nN F,nO F,nP F,nQ F,nX F,nY F,nK F,nT F,nU F,nV F,nW F,oI F,oH F,oy F,ow F,o0 F,o3 F,oP F,mp F,mq F,mL F,mM F,mN F,mI F,mR F,mu F,mv F,mS F,na F,nb F,mY F,mZ F,lJ F,lK F,lL F,lM F,lN F,lO F,n8 F,oK F,oF F,oG F,oj F,ol F,ox F,od F,oe F,oB F,oC F,oJ F,oq F,ot F,ou F,ov F,oQ F,oR F,oS F,oT F,oU F,oV F,o4 F,o5 F,m8 F,m9 F,m0 F,n9 F,oa F,n7 F,oN F,oO F,oL F,oM F,nf F,ng F,nh F,mW F,mX F,lV F,nq F,nr F,nu F,nw F,nx F,ny F,nz F,nA F,l8 F,nD F,nE F,nF F,nJ F,ni F,nj F,nk F,nn F,nG F,nH F,nI F,nB F,nC F⟩) n
theorem bT:∀ n,LeFsBuild (kA n)
 | 0=>⟨fun _ _ _=>ln,fun _=>ln,fun _=>ln,fun _ _=>ln,fun _ _=>ln,fun _=>ln,fun _ _=>ln,fun _=>ln,fun _ _ _ _ _ _ _ _=>ln,fun _=>ln,fun _ _ _ _ _ _ _ _ _ _ _=>ln,fun _=>ln,fun _ _=>ln,fun _ _=>ln,fun _ _ _=>ln,fun _ _ _=>ln,fun _ _ _ _ _=>ln,fun _=>ln,fun _ _ _=>ln,fun _ _ _=>ln,fun _=>ln,fun _=>ln,fun _=>ln,fun _ _ _=>ln,fun _ _=>ln,fun _=>ln,fun _ _=>ln,fun _ _ _ _=>ln,fun _ _=>ln,fun _ _=>ln,fun _=>ln,fun _ _ _ _=>ln,fun _ _ _ _=>ln,fun _ _ _ _ _=>ln,fun _ _ _ _=>ln,fun _ _ _ _ _ _=>ln,fun _ _ _ _ _=>ln,fun _ _ _ _ _ _=>ln,fun _=>ln,fun _=>ln,fun _ _ _ _=>ln,fun _ _ _ _ _ _=>ln,fun _ _ _ _ _=>ln,fun _ _ _ _=>ln,fun _ _ _ _=>ln,fun _ _ _=>ln,fun _ _ _ _=>ln,fun _ _=>ln,fun _=>ln,fun _=>ln,fun _ _ _ _ _ _ _ _ _=>ln,fun _ _=>ln,fun _=>ln,fun _ _ _ _ _ _ _=>ln,fun _ _=>ln,fun _=>ln,fun _ _=>ln,fun _=>ln,fun _ _=>ln,fun _=>ln,fun _ _=>ln,fun _ _ _=>ln,fun _=>ln,fun _ _=>ln,fun _ _ _=>ln,fun _ _ _=>ln,fun _ _ _ _=>ln,fun _ _ _ _=>ln,fun _ _ _ _=>ln,fun _ _ _ _=>ln,fun _ _ _ _=>ln,fun _ _ _ _=>ln,ln,fun _=>ln,fun _=>ln,fun _=>ln,fun _ _=>ln,fun _ _ _=>ln,fun _ _ _ _=>ln,fun _ _ _=>ln,fun _ _=>ln,fun _ _ _=>ln,fun _=>ln,fun _ _=>ln,fun _ _ _=>ln,fun _ _=>ln,fun _ _ _ _=>ln,fun _ _=>ln,fun _=>ln,fun _=>ln,fun _ _=>ln,fun _=>ln,fun _ _ _=>ln,fun _=>ln,fun _ _=>ln,fun _ _ _=>ln,fun _ _ _ _=>ln,fun _ _ _ _=>ln,fun _ _ _ _ _=>ln,fun _ _ _ _=>ln,fun _ _ _ _=>ln,fun _ _=>ln,fun _ _ _=>ln,fun _=>ln,fun _ _=>ln,fun _ _ _ _=>ln,fun _=>ln,fun _ _ _=>ln,fun _=>ln,fun _ _=>ln,fun _ _ _=>ln,fun _ _ _ _ _=>ln,fun _ _ _ _ _ _=>ln,fun _ _ _ _=>ln,fun _=>ln,fun _ _=>ln,fun _=>ln,fun _ _ _ _ _ _ _ _ _=>ln,fun _ _=>ln,fun _ _ _=>ln,fun _=>ln,fun _=>ln,fun _ _ _ _ _ _ _ _=>ln,fun _=>ln,fun _ _ _ _ _ _=>ln,fun _=>ln,fun _ _=>ln,fun _ _ _ _ _ _=>ln,fun _ _ _ _ _ _ _=>ln,fun _ _ _ _ _ _ _=>ln,fun _=>ln,fun _ _ _ _=>ln,fun _ _ _ _=>ln,fun _ _ _ _=>ln,fun _ _ _ _=>ln,fun _ _ _=>ln,fun _=>ln,fun _ _=>ln,fun _ _=>ln,fun _ _ _ _=>ln,fun _ _=>ln,fun _=>ln,fun _ _ _ _=>ln,fun _=>ln,fun _ _ _=>ln,fun _ _ _=>ln,fun _ _=>ln,fun _ _=>ln,fun _ _=>ln,fun _ _ _=>ln,fun _ _ _ _=>ln,fun _ _=>ln,fun _ _ _=>ln,fun _=>ln,fun _=>ln,fun _ _ _=>ln,fun _ _ _ _ _=>ln,fun _ _ _ _ _ _ _=>ln,fun _ _ _ _=>ln,fun _ _ _ _ _ _ _=>ln,fun _ _ _ _ _ _=>ln,fun _ _ _ _ _ _ _=>ln,fun _=>ln,fun _ _=>ln,fun _ _ _=>ln,fun _=>ln,fun _ _=>ln,fun _=>ln,fun _ _=>ln,fun _ _ _ _=>ln,fun _ _ _=>ln,fun _ _=>ln,fun _ _ _ _=>ln,fun _ _ _=>ln,fun _=>ln,fun _ _=>ln⟩
 | n+1=>⟨FD (bT n),Eb (bT n),EC (bT n),ED (bT n),EE (bT n),Hq (bT n),Hr (bT n),EA (bT n),EB (bT n),Eh (bT n),Ei (bT n),Hs (bT n),Ht (bT n),GD (bT n),GE (bT n),Ey (bT n),Ez (bT n),EJ (bT n),EK (bT n),EL (bT n),G4 (bT n),G7 (bT n),Er (bT n),Es (bT n),FE (bT n),Ec (bT n),Ed (bT n),Ee (bT n),Ef (bT n),Eg (bT n),Ev (bT n),Ew (bT n),E9 (bT n),Fe (bT n),Fg (bT n),Fh (bT n),Fi (bT n),Fw (bT n),Gq (bT n),Et (bT n),E3 (bT n),E4 (bT n),E5 (bT n),E6 (bT n),E7 (bT n),Gv (bT n),Gw (bT n),GR (bT n),G0 (bT n),GJ (bT n),GK (bT n),G8 (bT n),GN (bT n),GO (bT n),GS (bT n),EH (bT n),EI (bT n),EP (bT n),EQ (bT n),EM (bT n),EN (bT n),EO (bT n),EW (bT n),EX (bT n),ER (bT n),ES (bT n),ET (bT n),FA (bT n),Fz (bT n),E8 (bT n),Fm (bT n),Fl (bT n),Gp (bT n),Ep (bT n),EG (bT n),FF (bT n),Gr (bT n),Gs (bT n),Gt (bT n),Gu (bT n),GB (bT n),GC (bT n),Gn (bT n),Gx (bT n),Gy (bT n),Gz (bT n),GA (bT n),Hc (bT n),Hb (bT n),GZ (bT n),GX (bT n),Hu (bT n),Hv (bT n),Hj (bT n),EU (bT n),EV (bT n),Fp (bT n),Fq (bT n),Ft (bT n),Fj (bT n),FB (bT n),EY (bT n),EZ (bT n),FC (bT n),FN (bT n),FO (bT n),FI (bT n),FJ (bT n),Ej (bT n),Ek (bT n),El (bT n),Em (bT n),En (bT n),Eo (bT n),GG (bT n),He (bT n),G9 (bT n),Ha (bT n),GP (bT n),GQ (bT n),GY (bT n),GL (bT n),GM (bT n),G5 (bT n),G6 (bT n),Hd (bT n),GT (bT n),GU (bT n),GV (bT n),GW (bT n),Hk (bT n),Hl (bT n),Hm (bT n),Hn (bT n),Ho (bT n),Hp (bT n),Hw (bT n),Hx (bT n),FL (bT n),FM (bT n),FK (bT n),GH (bT n),GI (bT n),GF (bT n),Hh (bT n),Hi (bT n),Hf (bT n),Hg (bT n),FP (bT n),FQ (bT n),FR (bT n),FG (bT n),FH (bT n),Ex (bT n),FY (bT n),FZ (bT n),F5 (bT n),F6 (bT n),F7 (bT n),F8 (bT n),F9 (bT n),Gd (bT n),EF (bT n),Gg (bT n),Gh (bT n),Gi (bT n),Gm (bT n),FS (bT n),FU (bT n),FV (bT n),FX (bT n),Gj (bT n),Gk (bT n),Gl (bT n),Ge (bT n),Gf (bT n)⟩
end Go.Proofs.YtacknlgegbagfaaGreat.E.TN
