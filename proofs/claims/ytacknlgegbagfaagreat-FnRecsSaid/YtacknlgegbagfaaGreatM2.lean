/- What the pure statement needs (2). No condition. -/
import Derived.Test.YtacknlgegbagfaaGreatM1
import Derived.Test.YtacknlgegbagfaaGreatTRe1
import Derived.Test.YtacknlgegbagfaaGreatTRe2
import Derived.Test.YtacknlgegbagfaaGreatTRe3
namespace Go.Proofs.YtacknlgegbagfaaGreat.E.TR
open Go.Proofs.YtacknlgegbagfaaGreat.E
set_option linter.unusedVariables false
set_option maxRecDepth 100000
structure FsBuild where
 s_l1In:Int→Int→Int→Option (Bool×Unit)
 s_Build:(List Int)→Option (bA×Int×Unit)
 s_ProgOk:bA→Option (Bool×Unit)
 s_ProgOk_L1:Int→bA→Option (Bool×Unit)
 s_ProgOk_L2:Int→bA→Option (Bool×Unit)
 s_l9Line:(List Int)→Option (Bool×Unit)
 s_l9Line_L1:(List Int)→Int→Option (Bool×Unit)
 s_Parse:(List Int)→Option ((List bD)×Int×Unit)
 s_Parse_L1:(List bD)→(List bD)→Int→(List bF)→Int→Int→Bool→bv→Option ((List bD)×Int×Unit)
 s_Compile:(List bD)→Option (bA×Int×Unit)
 s_Compile_L1:(List bD)→(List (List Int))→(List (List Int))→Int→bA→(List (List Int))→(List (List Int))→(List bw)→(List (List Int))→(List (List Int))→(List bw)→Option (bA×Int×Unit)
 s_l9Name:(List Int)→Option (Bool×Unit)
 s_l9Name_L1:(List Int)→Int→Option (Bool×Unit)
 s_l7Within:(List (List Int))→(List Int)→Option (Bool×Unit)
 s_l7Within_L1:(List (List Int))→(List Int)→Int→Option (Bool×Unit)
 s_OpsOk:(List bw)→Int→Int→Option (Bool×Unit)
 s_OpsOk_L1:(List bw)→Int→Int→Int→Int→Option (Bool×Unit)
 s_Tokens:(List Int)→Option ((List bF)×Int×Unit)
 s_Tokens_L1:(List Int)→(List bF)→Int→Option ((List bF)×Int×Unit)
 s_Tokens_L2:(List Int)→(List bF)→Int→Option ((List bF)×Int×Unit)
 s_l8Now:bO→Option (bF×bO×Unit)
 s_l8Rule:bO→Option (bD×bO×Unit)
 s_Deep:bv→Option (Int×Unit)
 s_Deep_L1:Int→Int→bv→Option (Int×Unit)
 s_l1Max:Int→Int→Option (Int×Unit)
 s_Check:(List bD)→Option (Int×Unit)
 s_Check_L1:(List bD)→Int→Option (Int×Unit)
 s_Check_L2:(List bD)→(List (List Int))→(List (List Int))→Int→Option (Int×Unit)
 s_Check_L3:(List bD)→Int→Option (Int×Unit)
 s_Check_L4:(List bD)→Int→Option (Int×Unit)
 s_Names:(List bD)→Option ((List (List Int))×(List (List Int))×Unit)
 s_Names_L1:(List bD)→(List (List Int))→(List (List Int))→Int→Option ((List (List Int))×(List (List Int))×Unit)
 s_l14Block:(List (List Int))→(List (List Int))→(List bw)→bv→Option (((List (List Int))×((List (List Int))×((List bw)×Unit)))×Unit)
 s_l14Block_L1:Int→(List (List Int))→(List (List Int))→(List bw)→bv→Option (((List (List Int))×((List (List Int))×((List bw)×Unit)))×Unit)
 s_l14E:(List (List Int))→(List (List Int))→(List bw)→bv→Option (((List (List Int))×((List (List Int))×((List bw)×Unit)))×Unit)
 s_l14E_L1:Int→Bool→(List (List Int))→(List (List Int))→(List bw)→bv→Option (((List (List Int))×((List (List Int))×((List bw)×Unit)))×Unit)
 s_l14E_L2:Int→(List (List Int))→(List (List Int))→(List bw)→bv→Option (((List (List Int))×((List (List Int))×((List bw)×Unit)))×Unit)
 s_l14Put:(List (List Int))→(List (List Int))→(List bw)→Int→Int→(List Int)→Option (Int×((List (List Int))×((List (List Int))×((List bw)×Unit)))×Unit)
 s_l7Letter:Int→Option (Bool×Unit)
 s_Keyword:(List Int)→Option (Bool×Unit)
 s_l13Op:bw→Int→Int→Int→Option (Bool×Unit)
 s_l13Op_L1:Int→Int→Int→Int→Bool→bw→Option (Bool×Unit)
 s_l13Op_L2:Int→Int→Int→Bool→bw→Option (Bool×Unit)
 s_l13Op_L3:Int→Int→Bool→bw→Option (Bool×Unit)
 s_l13Op_L4:Int→Int→Bool→bw→Option (Bool×Unit)
 s_l7One:(List Int)→Int→(List bF)→Option (bF×Int×Bool×Unit)
 s_l7One_L1:(List Int)→Int→Int→bF→Option (bF×Int×Bool×Unit)
 s_l8Is:bO→(List Int)→Option (Bool×bO×Unit)
 s_l8Next:bO→Option (bO×Unit)
 s_l8Block:bO→Option (bv×bO×Unit)
 s_l8Block_L1:bO→Int→Int→(List Int)→(List bv)→Int→Int→(List Int)→(List bv)→Option (bv×bO×Unit)
 s_l8Sign:bO→(List Int)→Option (Bool×bO×Unit)
 s_l8E:bO→Option (bv×bO×Unit)
 s_l8E_L1:Int→bO→Int→Int→(List Int)→(List bv)→bv→Option (bv×bO×Unit)
 s_l8Kids:Int→(List bv)→Option ((Int×(Int×((List Int)×((List bv)×Unit))))×Unit)
 s_Tidy:(List bD)→Option (Bool×Unit)
 s_Tidy_L1:(List bD)→Int→Option (Bool×Unit)
 s_l10Line:bv→Option (Bool×Unit)
 s_l10Line_L1:Int→bv→Option (Bool×Unit)
 s_l10Args:bv→Option (Bool×Unit)
 s_l10Args_L1:Int→bv→Option (Bool×Unit)
 s_l10Args_L2:Int→Int→bv→Option (Bool×Unit)
 s_l10Rexes:bv→Option (Bool×Unit)
 s_l10Rexes_L1:Int→bv→Option (Bool×Unit)
 s_l10Names:bv→(List (List Int))→(List (List Int))→Option ((List (List Int))×(List (List Int))×Unit)
 s_l10Names_L1:(List (List Int))→(List (List Int))→bv→Option ((List (List Int))×(List (List Int))×Unit)
 s_l10Names_L2:(List (List Int))→(List (List Int))→Int→bv→Option ((List (List Int))×(List (List Int))×Unit)
 s_l14Stmt:(List (List Int))→(List (List Int))→(List bw)→bv→Option (((List (List Int))×((List (List Int))×((List bw)×Unit)))×Unit)
 s_l14Set:(List (List Int))→(List (List Int))→(List bw)→bv→Option (((List (List Int))×((List (List Int))×((List bw)×Unit)))×Unit)
 s_l14And:(List (List Int))→(List (List Int))→(List bw)→bv→Option (((List (List Int))×((List (List Int))×((List bw)×Unit)))×Unit)
 s_l14Or:(List (List Int))→(List (List Int))→(List bw)→bv→Option (((List (List Int))×((List (List Int))×((List bw)×Unit)))×Unit)
 s_l14Last:(List (List Int))→(List (List Int))→(List bw)→bv→Option (((List (List Int))×((List (List Int))×((List bw)×Unit)))×Unit)
 s_l7Calls:Option ((List (List Int))×Unit)
 s_DecOk:Int→Option (Bool×Unit)
 s_RexParse:(List Int)→Option (bC×Bool×Unit)
 s_l2Digit:Int→Option (Bool×Unit)
 s_l7Number:(List Int)→Int→Option (Int×Int×Bool×Unit)
 s_l7Number_L1:(List Int)→Int→Int→Option (Int×Int×Bool×Unit)
 s_l7Number_L2:(List Int)→Int→Int→Int→Option (Int×Int×Bool×Unit)
 s_l7Number_L3:(List Int)→Int→Int→Option (Int×Int×Bool×Unit)
 s_l7Text:(List Int)→Int→Option ((List Int)×Int×Bool×Unit)
 s_l7Text_L1:(List Int)→(List Int)→Int→Option ((List Int)×Int×Bool×Unit)
 s_l7After:(List bF)→Option (Bool×Unit)
 s_l7Rex:(List Int)→Int→Option ((List Int)×Int×Bool×Unit)
 s_l7Rex_L1:(List Int)→(List Int)→Int→Option ((List Int)×Int×Bool×Unit)
 s_l7Sign:(List Int)→Int→Option ((List Int)×Unit)
 s_l7Sign_L1:(List Int)→Int→(List (List Int))→Int→Option ((List Int)×Unit)
 s_l8Take:bO→(List Int)→Option (bO×Unit)
 s_l8Stmt:bO→Option (bv×bO×Unit)
 s_l8Named:bO→Option (bv×bO×Unit)
 s_l8Level:bO→Int→Option (bv×bO×Unit)
 s_l9Node:bv→Option (Bool×Unit)
 s_l9Node_L1:Int→Bool→bv→Option (Bool×Unit)
 s_l9IsE:Int→Option (Bool×Unit)
 s_l10Put:(List (List Int))→(List Int)→Option ((List (List Int))×Unit)
 s_l10Put_L1:(List (List Int))→(List Int)→Int→Option ((List (List Int))×Unit)
 s_l14Print:(List (List Int))→(List (List Int))→(List bw)→bv→Option (((List (List Int))×((List (List Int))×((List bw)×Unit)))×Unit)
 s_l14Print_L1:(List (List Int))→(List (List Int))→(List bw)→bv→Option (((List (List Int))×((List (List Int))×((List bw)×Unit)))×Unit)
 s_l14Print_L2:Int→(List (List Int))→(List (List Int))→(List bw)→bv→Option (((List (List Int))×((List (List Int))×((List bw)×Unit)))×Unit)
 s_l14If:(List (List Int))→(List (List Int))→(List bw)→bv→Option (((List (List Int))×((List (List Int))×((List bw)×Unit)))×Unit)
 s_l14While:(List (List Int))→(List (List Int))→(List bw)→bv→Option (((List (List Int))×((List (List Int))×((List bw)×Unit)))×Unit)
 s_l12Where:(List (List Int))→(List Int)→Option (Int×Unit)
 s_l12Where_L1:(List (List Int))→(List Int)→Int→Option (Int×Unit)
 s_l1Bit:Bool→Option (Int×Unit)
 s_l3Pattern:bN→Int→Option (bC×bN×Unit)
 s_l3Pattern_L1:Int→(List bC)→bN→bC→Option (bC×bN×Unit)
 s_l3Deep:bC→Option (Int×Unit)
 s_l3Deep_L1:Int→Int→bC→Option (Int×Unit)
 s_DecFront:(List Int)→Option (Int×Int×Unit)
 s_DecFront_L1:(List Int)→Int→Option (Int×Int×Unit)
 s_DecFront_L2:(List Int)→Int→Bool→Option (Int×Int×Unit)
 s_DecFront_L3:(List Int)→Int→Bool→Int→Int→Option (Int×Int×Unit)
 s_DecFront_L4:(List Int)→Int→Bool→Int→Int→Int→Option (Int×Int×Unit)
 s_DecFront_L5:Int→Bool→Int→Int→Option (Int×Int×Unit)
 s_l8Bad:bO→Option (bO×Unit)
 s_l8While:bO→Int→Option (bv×bO×Unit)
 s_l8Simple:bO→Option (bv×bO×Unit)
 s_l8Simple_L1:bO→Int→Int→(List Int)→(List bv)→Int→Int→(List Int)→(List bv)→Option (bv×bO×Unit)
 s_l8Es:bO→(List Int)→Option ((List bv)×bO×Unit)
 s_l8Es_L1:(List Int)→(List bv)→bO→Option ((List bv)×bO×Unit)
 s_l8Name:bO→Option ((List Int)×bO×Unit)
 s_l8Compare:bO→Option (bv×bO×Unit)
 s_l8Compare_L1:(List (List Int))→Int→bO→Int→Int→(List Int)→(List bv)→bv→Option (bv×bO×Unit)
 s_l8Row:bO→Option (bv×bO×Unit)
 s_l8Row_L1:bO→Int→Int→(List Int)→(List bv)→bv→Option (bv×bO×Unit)
 s_l8Unit:bO→Option (bv×bO×Unit)
 s_l8Left:bO→Int→Option (bv×bO×Unit)
 s_l8Left_L1:Int→(List (List (List Int)))→(List (List Int))→bO→bv→bv→Option (bv×bO×Unit)
 s_l8Left_L2:Int→(List (List (List Int)))→(List (List Int))→Int→bO→bv→bv→Option (bv×bO×Unit)
 s_l8Left_L3:Int→(List (List (List Int)))→(List (List Int))→Int→bO→bv→bv→Option (bv×bO×Unit)
 s_l9Kids:bv→Option (Bool×Unit)
 s_l9Kids_L1:Int→Int→Bool→bv→Option (Bool×Unit)
 s_l9Kids_L2:Int→Int→Bool→bv→Option (Bool×Unit)
 s_l9Kids_L3:Int→Int→Bool→bv→Option (Bool×Unit)
 s_l9Kids_L4:Int→Int→Bool→bv→Option (Bool×Unit)
 s_l9Kids_L5:Int→Int→bv→Option (Bool×Unit)
 s_l9Rex:(List Int)→Option (Bool×Unit)
 s_l9Rex_L1:(List Int)→Int→Option (Bool×Unit)
 s_l3Part:bN→Int→Option (bC×bN×Unit)
 s_l3Part_L1:Int→(List bC)→bN→bC→Option (bC×bN×Unit)
 s_l3Now:bN→Int→Option (Bool×bN×Unit)
 s_l8Begins:bO→Option (Bool×bO×Unit)
 s_l8Begins_L1:Int→Bool→bO→bF→Option (Bool×bO×Unit)
 s_l8Atom:bO→Option (bv×bO×Unit)
 s_l9Es:bv→Int→Int→Option (Bool×Unit)
 s_l9Es_L1:Int→Int→bv→Option (Bool×Unit)
 s_l9Blocks:bv→Int→Option (Bool×Unit)
 s_l9Blocks_L1:Int→bv→Option (Bool×Unit)
 s_l3Piece:bN→Int→Option (bC×bN×Unit)
 s_l3Piece_L1:bN→bC→bC→Option (bC×bN×Unit)
 s_l3Piece_L2:Int→bN→bC→bC→Option (bC×bN×Unit)
 s_l3Atom:bN→Int→Option (bC×bN×Unit)
 s_l3Atom_L1:Int→bN→bC→Option (bC×bN×Unit)
 s_NfaOf:bC→Option ((List bz)×Unit)
 s_l3Set:bN→Option (bC×bN×Unit)
 s_l3Set_L1:bN→bC→bC→Option (bC×bN×Unit)
 s_l3Set_L2:(List Bool)→Int→bN→bC→bC→Option (bC×bN×Unit)
 s_l3Set_L3:(List Bool)→Int→Int→Int→bN→bC→bC→Option (bC×bN×Unit)
 s_l3Set_L4:(List Bool)→bN→bC→bC→Option (bC×bN×Unit)
 s_l3Set_L5:(List Bool)→Int→Int→Int→bN→bC→bC→Option (bC×bN×Unit)
 s_l3Set_L6:(List Bool)→(List Int)→Int→bN→bC→bC→Option (bC×bN×Unit)
 s_l3Set_L7:(List Bool)→Int→Int→Int→bN→bC→bC→Option (bC×bN×Unit)
 s_RexOk:bC→Option (Bool×Unit)
 s_l4Of:(List bz)→bC→Option ((List bz)×Unit)
 s_l4Of_L1:(List bz)→Int→bC→Option ((List bz)×Unit)
 s_l4Of_L2:(List bz)→Option ((List bz)×Unit)
 s_l4Put:(List bz)→Int→Option ((List bz)×Unit)
 s_l3Right:bC→Option (Bool×Unit)
 s_l3Right_L1:Int→bC→Option (Bool×Unit)
 s_l3Right_L2:Int→Int→Bool→bC→Option (Bool×Unit)
 s_l3Right_L3:Int→Bool→bC→Option (Bool×Unit)
 s_l4Or:(List bz)→(List bC)→Option ((List bz)×Unit)
 s_l4Or_L1:(List bz)→(List bC)→(List Int)→Int→Option ((List bz)×Unit)
 s_l4Or_L2:(List bz)→(List Int)→Int→Option ((List bz)×Unit)
 s_l3Up:(List Int)→Option (Bool×Unit)
 s_l3Up_L1:(List Int)→Int→Option (Bool×Unit)
structure LeFsBuild (F:FsBuild):Prop where
 s_l1In:∀ (t0:Int) (t1:Int) (t2:Int),LeO (F.s_l1In t0 t1 t2) (TR.s_l1In t0 t1 t2)
 s_Build:∀ (t0:(List Int)),LeO (F.s_Build t0) (TR.s_Build t0)
 s_ProgOk:∀ (t0:bA),LeO (F.s_ProgOk t0) (TR.s_ProgOk t0)
 s_ProgOk_L1:∀ (t3:Int) (s16:bA),LeO (F.s_ProgOk_L1 t3 s16) (TR.s_ProgOk_L1 t3 s16)
 s_ProgOk_L2:∀ (t4:Int) (s16:bA),LeO (F.s_ProgOk_L2 t4 s16) (TR.s_ProgOk_L2 t4 s16)
 s_l9Line:∀ (t0:(List Int)),LeO (F.s_l9Line t0) (TR.s_l9Line t0)
 s_l9Line_L1:∀ (t0:(List Int)) (t3:Int),LeO (F.s_l9Line_L1 t0 t3) (TR.s_l9Line_L1 t0 t3)
 s_Parse:∀ (t0:(List Int)),LeO (F.s_Parse t0) (TR.s_Parse t0)
 s_Parse_L1:∀ (t4:(List bD)) (t8:(List bD)) (t9:Int) (s368_0:(List bF)) (s368_1:Int) (s368_2:Int) (s368_3:Bool) (s368_4:bv),LeO (F.s_Parse_L1 t4 t8 t9 s368_0 s368_1 s368_2 s368_3 s368_4) (TR.s_Parse_L1 t4 t8 t9 s368_0 s368_1 s368_2 s368_3 s368_4)
 s_Compile:∀ (t0:(List bD)),LeO (F.s_Compile t0) (TR.s_Compile t0)
 s_Compile_L1:∀ (t0:(List bD)) (t5:(List (List Int))) (t6:(List (List Int))) (t9:Int) (s32:bA) (s432_0:(List (List Int))) (s432_1:(List (List Int))) (s432_2:(List bw)) (s496_0:(List (List Int))) (s496_1:(List (List Int))) (s496_2:(List bw)),LeO (F.s_Compile_L1 t0 t5 t6 t9 s32 s432_0 s432_1 s432_2 s496_0 s496_1 s496_2) (TR.s_Compile_L1 t0 t5 t6 t9 s32 s432_0 s432_1 s432_2 s496_0 s496_1 s496_2)
 s_l9Name:∀ (t0:(List Int)),LeO (F.s_l9Name t0) (TR.s_l9Name t0)
 s_l9Name_L1:∀ (t0:(List Int)) (t3:Int),LeO (F.s_l9Name_L1 t0 t3) (TR.s_l9Name_L1 t0 t3)
 s_l7Within:∀ (t0:(List (List Int))) (t1:(List Int)),LeO (F.s_l7Within t0 t1) (TR.s_l7Within t0 t1)
 s_l7Within_L1:∀ (t0:(List (List Int))) (t1:(List Int)) (t5:Int),LeO (F.s_l7Within_L1 t0 t1 t5) (TR.s_l7Within_L1 t0 t1 t5)
 s_OpsOk:∀ (t0:(List bw)) (t1:Int) (t2:Int),LeO (F.s_OpsOk t0 t1 t2) (TR.s_OpsOk t0 t1 t2)
 s_OpsOk_L1:∀ (t0:(List bw)) (t1:Int) (t2:Int) (t7:Int) (t8:Int),LeO (F.s_OpsOk_L1 t0 t1 t2 t7 t8) (TR.s_OpsOk_L1 t0 t1 t2 t7 t8)
 s_Tokens:∀ (t0:(List Int)),LeO (F.s_Tokens t0) (TR.s_Tokens t0)
 s_Tokens_L1:∀ (t0:(List Int)) (t4:(List bF)) (t5:Int),LeO (F.s_Tokens_L1 t0 t4 t5) (TR.s_Tokens_L1 t0 t4 t5)
 s_Tokens_L2:∀ (t0:(List Int)) (t4:(List bF)) (t5:Int),LeO (F.s_Tokens_L2 t0 t4 t5) (TR.s_Tokens_L2 t0 t4 t5)
 s_l8Now:∀ (s0:bO),LeO (F.s_l8Now s0) (TR.s_l8Now s0)
 s_l8Rule:∀ (s0:bO),LeO (F.s_l8Rule s0) (TR.s_l8Rule s0)
 s_Deep:∀ (t0:bv),LeO (F.s_Deep t0) (TR.s_Deep t0)
 s_Deep_L1:∀ (t3:Int) (t4:Int) (s16:bv),LeO (F.s_Deep_L1 t3 t4 s16) (TR.s_Deep_L1 t3 t4 s16)
 s_l1Max:∀ (t0:Int) (t1:Int),LeO (F.s_l1Max t0 t1) (TR.s_l1Max t0 t1)
 s_Check:∀ (t0:(List bD)),LeO (F.s_Check t0) (TR.s_Check t0)
 s_Check_L1:∀ (t0:(List bD)) (t3:Int),LeO (F.s_Check_L1 t0 t3) (TR.s_Check_L1 t0 t3)
 s_Check_L2:∀ (t0:(List bD)) (t4:(List (List Int))) (t5:(List (List Int))) (t6:Int),LeO (F.s_Check_L2 t0 t4 t5 t6) (TR.s_Check_L2 t0 t4 t5 t6)
 s_Check_L3:∀ (t0:(List bD)) (t7:Int),LeO (F.s_Check_L3 t0 t7) (TR.s_Check_L3 t0 t7)
 s_Check_L4:∀ (t0:(List bD)) (t8:Int),LeO (F.s_Check_L4 t0 t8) (TR.s_Check_L4 t0 t8)
 s_Names:∀ (t0:(List bD)),LeO (F.s_Names t0) (TR.s_Names t0)
 s_Names_L1:∀ (t0:(List bD)) (t4:(List (List Int))) (t5:(List (List Int))) (t6:Int),LeO (F.s_Names_L1 t0 t4 t5 t6) (TR.s_Names_L1 t0 t4 t5 t6)
 s_l14Block:∀ (s0_0:(List (List Int))) (s0_1:(List (List Int))) (s0_2:(List bw)) (t1:bv),LeO (F.s_l14Block s0_0 s0_1 s0_2 t1) (TR.s_l14Block s0_0 s0_1 s0_2 t1)
 s_l14Block_L1:∀ (t4:Int) (s0_0:(List (List Int))) (s0_1:(List (List Int))) (s0_2:(List bw)) (s48:bv),LeO (F.s_l14Block_L1 t4 s0_0 s0_1 s0_2 s48) (TR.s_l14Block_L1 t4 s0_0 s0_1 s0_2 s48)
 s_l14E:∀ (s0_0:(List (List Int))) (s0_1:(List (List Int))) (s0_2:(List bw)) (t1:bv),LeO (F.s_l14E s0_0 s0_1 s0_2 t1) (TR.s_l14E s0_0 s0_1 s0_2 t1)
 s_l14E_L1:∀ (t6:Int) (t24:Bool) (s0_0:(List (List Int))) (s0_1:(List (List Int))) (s0_2:(List bw)) (s48:bv),LeO (F.s_l14E_L1 t6 t24 s0_0 s0_1 s0_2 s48) (TR.s_l14E_L1 t6 t24 s0_0 s0_1 s0_2 s48)
 s_l14E_L2:∀ (t4:Int) (s0_0:(List (List Int))) (s0_1:(List (List Int))) (s0_2:(List bw)) (s48:bv),LeO (F.s_l14E_L2 t4 s0_0 s0_1 s0_2 s48) (TR.s_l14E_L2 t4 s0_0 s0_1 s0_2 s48)
 s_l14Put:∀ (s0_0:(List (List Int))) (s0_1:(List (List Int))) (s0_2:(List bw)) (t1:Int) (t2:Int) (t3:(List Int)),LeO (F.s_l14Put s0_0 s0_1 s0_2 t1 t2 t3) (TR.s_l14Put s0_0 s0_1 s0_2 t1 t2 t3)
 s_l7Letter:∀ (t0:Int),LeO (F.s_l7Letter t0) (TR.s_l7Letter t0)
 s_Keyword:∀ (t0:(List Int)),LeO (F.s_Keyword t0) (TR.s_Keyword t0)
 s_l13Op:∀ (t0:bw) (t1:Int) (t2:Int) (t3:Int),LeO (F.s_l13Op t0 t1 t2 t3) (TR.s_l13Op t0 t1 t2 t3)
 s_l13Op_L1:∀ (t1:Int) (t2:Int) (t3:Int) (t12:Int) (t28:Bool) (s64:bw),LeO (F.s_l13Op_L1 t1 t2 t3 t12 t28 s64) (TR.s_l13Op_L1 t1 t2 t3 t12 t28 s64)
 s_l13Op_L2:∀ (t1:Int) (t3:Int) (t12:Int) (t46:Bool) (s64:bw),LeO (F.s_l13Op_L2 t1 t3 t12 t46 s64) (TR.s_l13Op_L2 t1 t3 t12 t46 s64)
 s_l13Op_L3:∀ (t1:Int) (t12:Int) (t65:Bool) (s64:bw),LeO (F.s_l13Op_L3 t1 t12 t65 s64) (TR.s_l13Op_L3 t1 t12 t65 s64)
 s_l13Op_L4:∀ (t1:Int) (t12:Int) (t91:Bool) (s64:bw),LeO (F.s_l13Op_L4 t1 t12 t91 s64) (TR.s_l13Op_L4 t1 t12 t91 s64)
 s_l7One:∀ (t0:(List Int)) (t1:Int) (t2:(List bF)),LeO (F.s_l7One t0 t1 t2) (TR.s_l7One t0 t1 t2)
 s_l7One_L1:∀ (t0:(List Int)) (t1:Int) (t10:Int) (s96:bF),LeO (F.s_l7One_L1 t0 t1 t10 s96) (TR.s_l7One_L1 t0 t1 t10 s96)
 s_l8Is:∀ (s0:bO) (t1:(List Int)),LeO (F.s_l8Is s0 t1) (TR.s_l8Is s0 t1)
 s_l8Next:∀ (s0:bO),LeO (F.s_l8Next s0) (TR.s_l8Next s0)
 s_l8Block:∀ (s0:bO),LeO (F.s_l8Block s0) (TR.s_l8Block s0)
 s_l8Block_L1:∀ (s0:bO) (s32_0:Int) (s32_1:Int) (s32_2:(List Int)) (s32_3:(List bv)) (s48_0:Int) (s48_1:Int) (s48_2:(List Int)) (s48_3:(List bv)),LeO (F.s_l8Block_L1 s0 s32_0 s32_1 s32_2 s32_3 s48_0 s48_1 s48_2 s48_3) (TR.s_l8Block_L1 s0 s32_0 s32_1 s32_2 s32_3 s48_0 s48_1 s48_2 s48_3)
 s_l8Sign:∀ (s0:bO) (t1:(List Int)),LeO (F.s_l8Sign s0 t1) (TR.s_l8Sign s0 t1)
 s_l8E:∀ (s0:bO),LeO (F.s_l8E s0) (TR.s_l8E s0)
 s_l8E_L1:∀ (t5:Int) (s0:bO) (s32_0:Int) (s32_1:Int) (s32_2:(List Int)) (s32_3:(List bv)) (s64:bv),LeO (F.s_l8E_L1 t5 s0 s32_0 s32_1 s32_2 s32_3 s64) (TR.s_l8E_L1 t5 s0 s32_0 s32_1 s32_2 s32_3 s64)
 s_l8Kids:∀ (t0:Int) (t1:(List bv)),LeO (F.s_l8Kids t0 t1) (TR.s_l8Kids t0 t1)
 s_Tidy:∀ (t0:(List bD)),LeO (F.s_Tidy t0) (TR.s_Tidy t0)
 s_Tidy_L1:∀ (t0:(List bD)) (t3:Int),LeO (F.s_Tidy_L1 t0 t3) (TR.s_Tidy_L1 t0 t3)
 s_l10Line:∀ (t0:bv),LeO (F.s_l10Line t0) (TR.s_l10Line t0)
 s_l10Line_L1:∀ (t3:Int) (s16:bv),LeO (F.s_l10Line_L1 t3 s16) (TR.s_l10Line_L1 t3 s16)
 s_l10Args:∀ (t0:bv),LeO (F.s_l10Args t0) (TR.s_l10Args t0)
 s_l10Args_L1:∀ (t3:Int) (s16:bv),LeO (F.s_l10Args_L1 t3 s16) (TR.s_l10Args_L1 t3 s16)
 s_l10Args_L2:∀ (t3:Int) (t4:Int) (s16:bv),LeO (F.s_l10Args_L2 t3 t4 s16) (TR.s_l10Args_L2 t3 t4 s16)
 s_l10Rexes:∀ (t0:bv),LeO (F.s_l10Rexes t0) (TR.s_l10Rexes t0)
 s_l10Rexes_L1:∀ (t5:Int) (s16:bv),LeO (F.s_l10Rexes_L1 t5 s16) (TR.s_l10Rexes_L1 t5 s16)
 s_l10Names:∀ (t0:bv) (t1:(List (List Int))) (t2:(List (List Int))),LeO (F.s_l10Names t0 t1 t2) (TR.s_l10Names t0 t1 t2)
 s_l10Names_L1:∀ (t1:(List (List Int))) (t2:(List (List Int))) (s48:bv),LeO (F.s_l10Names_L1 t1 t2 s48) (TR.s_l10Names_L1 t1 t2 s48)
 s_l10Names_L2:∀ (t1:(List (List Int))) (t2:(List (List Int))) (t8:Int) (s48:bv),LeO (F.s_l10Names_L2 t1 t2 t8 s48) (TR.s_l10Names_L2 t1 t2 t8 s48)
 s_l14Stmt:∀ (s0_0:(List (List Int))) (s0_1:(List (List Int))) (s0_2:(List bw)) (t1:bv),LeO (F.s_l14Stmt s0_0 s0_1 s0_2 t1) (TR.s_l14Stmt s0_0 s0_1 s0_2 t1)
 s_l14Set:∀ (s0_0:(List (List Int))) (s0_1:(List (List Int))) (s0_2:(List bw)) (t1:bv),LeO (F.s_l14Set s0_0 s0_1 s0_2 t1) (TR.s_l14Set s0_0 s0_1 s0_2 t1)
 s_l14And:∀ (s0_0:(List (List Int))) (s0_1:(List (List Int))) (s0_2:(List bw)) (t1:bv),LeO (F.s_l14And s0_0 s0_1 s0_2 t1) (TR.s_l14And s0_0 s0_1 s0_2 t1)
 s_l14Or:∀ (s0_0:(List (List Int))) (s0_1:(List (List Int))) (s0_2:(List bw)) (t1:bv),LeO (F.s_l14Or s0_0 s0_1 s0_2 t1) (TR.s_l14Or s0_0 s0_1 s0_2 t1)
 s_l14Last:∀ (s0_0:(List (List Int))) (s0_1:(List (List Int))) (s0_2:(List bw)) (t1:bv),LeO (F.s_l14Last s0_0 s0_1 s0_2 t1) (TR.s_l14Last s0_0 s0_1 s0_2 t1)
 s_l7Calls:LeO (F.s_l7Calls ) (TR.s_l7Calls )
 s_DecOk:∀ (t0:Int),LeO (F.s_DecOk t0) (TR.s_DecOk t0)
 s_RexParse:∀ (t0:(List Int)),LeO (F.s_RexParse t0) (TR.s_RexParse t0)
 s_l2Digit:∀ (t0:Int),LeO (F.s_l2Digit t0) (TR.s_l2Digit t0)
 s_l7Number:∀ (t0:(List Int)) (t1:Int),LeO (F.s_l7Number t0 t1) (TR.s_l7Number t0 t1)
 s_l7Number_L1:∀ (t0:(List Int)) (t1:Int) (t7:Int),LeO (F.s_l7Number_L1 t0 t1 t7) (TR.s_l7Number_L1 t0 t1 t7)
 s_l7Number_L2:∀ (t0:(List Int)) (t1:Int) (t7:Int) (t8:Int),LeO (F.s_l7Number_L2 t0 t1 t7 t8) (TR.s_l7Number_L2 t0 t1 t7 t8)
 s_l7Number_L3:∀ (t0:(List Int)) (t1:Int) (t7:Int),LeO (F.s_l7Number_L3 t0 t1 t7) (TR.s_l7Number_L3 t0 t1 t7)
 s_l7Text:∀ (t0:(List Int)) (t1:Int),LeO (F.s_l7Text t0 t1) (TR.s_l7Text t0 t1)
 s_l7Text_L1:∀ (t0:(List Int)) (t7:(List Int)) (t8:Int),LeO (F.s_l7Text_L1 t0 t7 t8) (TR.s_l7Text_L1 t0 t7 t8)
 s_l7After:∀ (t0:(List bF)),LeO (F.s_l7After t0) (TR.s_l7After t0)
 s_l7Rex:∀ (t0:(List Int)) (t1:Int),LeO (F.s_l7Rex t0 t1) (TR.s_l7Rex t0 t1)
 s_l7Rex_L1:∀ (t0:(List Int)) (t7:(List Int)) (t8:Int),LeO (F.s_l7Rex_L1 t0 t7 t8) (TR.s_l7Rex_L1 t0 t7 t8)
 s_l7Sign:∀ (t0:(List Int)) (t1:Int),LeO (F.s_l7Sign t0 t1) (TR.s_l7Sign t0 t1)
 s_l7Sign_L1:∀ (t0:(List Int)) (t1:Int) (t5:(List (List Int))) (t6:Int),LeO (F.s_l7Sign_L1 t0 t1 t5 t6) (TR.s_l7Sign_L1 t0 t1 t5 t6)
 s_l8Take:∀ (s0:bO) (t1:(List Int)),LeO (F.s_l8Take s0 t1) (TR.s_l8Take s0 t1)
 s_l8Stmt:∀ (s0:bO),LeO (F.s_l8Stmt s0) (TR.s_l8Stmt s0)
 s_l8Named:∀ (s0:bO),LeO (F.s_l8Named s0) (TR.s_l8Named s0)
 s_l8Level:∀ (s0:bO) (t1:Int),LeO (F.s_l8Level s0 t1) (TR.s_l8Level s0 t1)
 s_l9Node:∀ (t0:bv),LeO (F.s_l9Node t0) (TR.s_l9Node t0)
 s_l9Node_L1:∀ (t23:Int) (t44:Bool) (s16:bv),LeO (F.s_l9Node_L1 t23 t44 s16) (TR.s_l9Node_L1 t23 t44 s16)
 s_l9IsE:∀ (t0:Int),LeO (F.s_l9IsE t0) (TR.s_l9IsE t0)
 s_l10Put:∀ (t0:(List (List Int))) (t1:(List Int)),LeO (F.s_l10Put t0 t1) (TR.s_l10Put t0 t1)
 s_l10Put_L1:∀ (t0:(List (List Int))) (t1:(List Int)) (t5:Int),LeO (F.s_l10Put_L1 t0 t1 t5) (TR.s_l10Put_L1 t0 t1 t5)
 s_l14Print:∀ (s0_0:(List (List Int))) (s0_1:(List (List Int))) (s0_2:(List bw)) (t1:bv),LeO (F.s_l14Print s0_0 s0_1 s0_2 t1) (TR.s_l14Print s0_0 s0_1 s0_2 t1)
 s_l14Print_L1:∀ (s0_0:(List (List Int))) (s0_1:(List (List Int))) (s0_2:(List bw)) (s48:bv),LeO (F.s_l14Print_L1 s0_0 s0_1 s0_2 s48) (TR.s_l14Print_L1 s0_0 s0_1 s0_2 s48)
 s_l14Print_L2:∀ (t4:Int) (s0_0:(List (List Int))) (s0_1:(List (List Int))) (s0_2:(List bw)) (s48:bv),LeO (F.s_l14Print_L2 t4 s0_0 s0_1 s0_2 s48) (TR.s_l14Print_L2 t4 s0_0 s0_1 s0_2 s48)
 s_l14If:∀ (s0_0:(List (List Int))) (s0_1:(List (List Int))) (s0_2:(List bw)) (t1:bv),LeO (F.s_l14If s0_0 s0_1 s0_2 t1) (TR.s_l14If s0_0 s0_1 s0_2 t1)
 s_l14While:∀ (s0_0:(List (List Int))) (s0_1:(List (List Int))) (s0_2:(List bw)) (t1:bv),LeO (F.s_l14While s0_0 s0_1 s0_2 t1) (TR.s_l14While s0_0 s0_1 s0_2 t1)
 s_l12Where:∀ (t0:(List (List Int))) (t1:(List Int)),LeO (F.s_l12Where t0 t1) (TR.s_l12Where t0 t1)
 s_l12Where_L1:∀ (t0:(List (List Int))) (t1:(List Int)) (t5:Int),LeO (F.s_l12Where_L1 t0 t1 t5) (TR.s_l12Where_L1 t0 t1 t5)
 s_l1Bit:∀ (t0:Bool),LeO (F.s_l1Bit t0) (TR.s_l1Bit t0)
 s_l3Pattern:∀ (s0:bN) (t1:Int),LeO (F.s_l3Pattern s0 t1) (TR.s_l3Pattern s0 t1)
 s_l3Pattern_L1:∀ (t1:Int) (t5:(List bC)) (s0:bN) (s64:bC),LeO (F.s_l3Pattern_L1 t1 t5 s0 s64) (TR.s_l3Pattern_L1 t1 t5 s0 s64)
 s_l3Deep:∀ (t0:bC),LeO (F.s_l3Deep t0) (TR.s_l3Deep t0)
 s_l3Deep_L1:∀ (t3:Int) (t4:Int) (s16:bC),LeO (F.s_l3Deep_L1 t3 t4 s16) (TR.s_l3Deep_L1 t3 t4 s16)
 s_DecFront:∀ (t0:(List Int)),LeO (F.s_DecFront t0) (TR.s_DecFront t0)
 s_DecFront_L1:∀ (t0:(List Int)) (t4:Int),LeO (F.s_DecFront_L1 t0 t4) (TR.s_DecFront_L1 t0 t4)
 s_DecFront_L2:∀ (t0:(List Int)) (t4:Int) (t5:Bool),LeO (F.s_DecFront_L2 t0 t4 t5) (TR.s_DecFront_L2 t0 t4 t5)
 s_DecFront_L3:∀ (t0:(List Int)) (t4:Int) (t5:Bool) (t6:Int) (t7:Int),LeO (F.s_DecFront_L3 t0 t4 t5 t6 t7) (TR.s_DecFront_L3 t0 t4 t5 t6 t7)
 s_DecFront_L4:∀ (t0:(List Int)) (t4:Int) (t5:Bool) (t6:Int) (t7:Int) (t8:Int),LeO (F.s_DecFront_L4 t0 t4 t5 t6 t7 t8) (TR.s_DecFront_L4 t0 t4 t5 t6 t7 t8)
 s_DecFront_L5:∀ (t4:Int) (t5:Bool) (t6:Int) (t7:Int),LeO (F.s_DecFront_L5 t4 t5 t6 t7) (TR.s_DecFront_L5 t4 t5 t6 t7)
 s_l8Bad:∀ (s0:bO),LeO (F.s_l8Bad s0) (TR.s_l8Bad s0)
 s_l8While:∀ (s0:bO) (t1:Int),LeO (F.s_l8While s0 t1) (TR.s_l8While s0 t1)
 s_l8Simple:∀ (s0:bO),LeO (F.s_l8Simple s0) (TR.s_l8Simple s0)
 s_l8Simple_L1:∀ (s0:bO) (s32_0:Int) (s32_1:Int) (s32_2:(List Int)) (s32_3:(List bv)) (s48_0:Int) (s48_1:Int) (s48_2:(List Int)) (s48_3:(List bv)),LeO (F.s_l8Simple_L1 s0 s32_0 s32_1 s32_2 s32_3 s48_0 s48_1 s48_2 s48_3) (TR.s_l8Simple_L1 s0 s32_0 s32_1 s32_2 s32_3 s48_0 s48_1 s48_2 s48_3)
 s_l8Es:∀ (s0:bO) (t1:(List Int)),LeO (F.s_l8Es s0 t1) (TR.s_l8Es s0 t1)
 s_l8Es_L1:∀ (t1:(List Int)) (t5:(List bv)) (s0:bO),LeO (F.s_l8Es_L1 t1 t5 s0) (TR.s_l8Es_L1 t1 t5 s0)
 s_l8Name:∀ (s0:bO),LeO (F.s_l8Name s0) (TR.s_l8Name s0)
 s_l8Compare:∀ (s0:bO),LeO (F.s_l8Compare s0) (TR.s_l8Compare s0)
 s_l8Compare_L1:∀ (t3:(List (List Int))) (t5:Int) (s0:bO) (s32_0:Int) (s32_1:Int) (s32_2:(List Int)) (s32_3:(List bv)) (s64:bv),LeO (F.s_l8Compare_L1 t3 t5 s0 s32_0 s32_1 s32_2 s32_3 s64) (TR.s_l8Compare_L1 t3 t5 s0 s32_0 s32_1 s32_2 s32_3 s64)
 s_l8Row:∀ (s0:bO),LeO (F.s_l8Row s0) (TR.s_l8Row s0)
 s_l8Row_L1:∀ (s0:bO) (s32_0:Int) (s32_1:Int) (s32_2:(List Int)) (s32_3:(List bv)) (s48:bv),LeO (F.s_l8Row_L1 s0 s32_0 s32_1 s32_2 s32_3 s48) (TR.s_l8Row_L1 s0 s32_0 s32_1 s32_2 s32_3 s48)
 s_l8Unit:∀ (s0:bO),LeO (F.s_l8Unit s0) (TR.s_l8Unit s0)
 s_l8Left:∀ (s0:bO) (t1:Int),LeO (F.s_l8Left s0 t1) (TR.s_l8Left s0 t1)
 s_l8Left_L1:∀ (t1:Int) (t5:(List (List (List Int)))) (t6:(List (List Int))) (s0:bO) (s64:bv) (s112:bv),LeO (F.s_l8Left_L1 t1 t5 t6 s0 s64 s112) (TR.s_l8Left_L1 t1 t5 t6 s0 s64 s112)
 s_l8Left_L2:∀ (t1:Int) (t5:(List (List (List Int)))) (t6:(List (List Int))) (t8:Int) (s0:bO) (s64:bv) (s112:bv),LeO (F.s_l8Left_L2 t1 t5 t6 t8 s0 s64 s112) (TR.s_l8Left_L2 t1 t5 t6 t8 s0 s64 s112)
 s_l8Left_L3:∀ (t1:Int) (t5:(List (List (List Int)))) (t6:(List (List Int))) (t8:Int) (s0:bO) (s64:bv) (s112:bv),LeO (F.s_l8Left_L3 t1 t5 t6 t8 s0 s64 s112) (TR.s_l8Left_L3 t1 t5 t6 t8 s0 s64 s112)
 s_l9Kids:∀ (t0:bv),LeO (F.s_l9Kids t0) (TR.s_l9Kids t0)
 s_l9Kids_L1:∀ (t3:Int) (t9:Int) (t10:Bool) (s16:bv),LeO (F.s_l9Kids_L1 t3 t9 t10 s16) (TR.s_l9Kids_L1 t3 t9 t10 s16)
 s_l9Kids_L2:∀ (t3:Int) (t9:Int) (t23:Bool) (s16:bv),LeO (F.s_l9Kids_L2 t3 t9 t23 s16) (TR.s_l9Kids_L2 t3 t9 t23 s16)
 s_l9Kids_L3:∀ (t3:Int) (t9:Int) (t45:Bool) (s16:bv),LeO (F.s_l9Kids_L3 t3 t9 t45 s16) (TR.s_l9Kids_L3 t3 t9 t45 s16)
 s_l9Kids_L4:∀ (t3:Int) (t9:Int) (t70:Bool) (s16:bv),LeO (F.s_l9Kids_L4 t3 t9 t70 s16) (TR.s_l9Kids_L4 t3 t9 t70 s16)
 s_l9Kids_L5:∀ (t3:Int) (t4:Int) (s16:bv),LeO (F.s_l9Kids_L5 t3 t4 s16) (TR.s_l9Kids_L5 t3 t4 s16)
 s_l9Rex:∀ (t0:(List Int)),LeO (F.s_l9Rex t0) (TR.s_l9Rex t0)
 s_l9Rex_L1:∀ (t0:(List Int)) (t3:Int),LeO (F.s_l9Rex_L1 t0 t3) (TR.s_l9Rex_L1 t0 t3)
 s_l3Part:∀ (s0:bN) (t1:Int),LeO (F.s_l3Part s0 t1) (TR.s_l3Part s0 t1)
 s_l3Part_L1:∀ (t1:Int) (t5:(List bC)) (s0:bN) (s64:bC),LeO (F.s_l3Part_L1 t1 t5 s0 s64) (TR.s_l3Part_L1 t1 t5 s0 s64)
 s_l3Now:∀ (s0:bN) (t1:Int),LeO (F.s_l3Now s0 t1) (TR.s_l3Now s0 t1)
 s_l8Begins:∀ (s0:bO),LeO (F.s_l8Begins s0) (TR.s_l8Begins s0)
 s_l8Begins_L1:∀ (t12:Int) (t13:Bool) (s0:bO) (s48:bF),LeO (F.s_l8Begins_L1 t12 t13 s0 s48) (TR.s_l8Begins_L1 t12 t13 s0 s48)
 s_l8Atom:∀ (s0:bO),LeO (F.s_l8Atom s0) (TR.s_l8Atom s0)
 s_l9Es:∀ (t0:bv) (t1:Int) (t2:Int),LeO (F.s_l9Es t0 t1 t2) (TR.s_l9Es t0 t1 t2)
 s_l9Es_L1:∀ (t2:Int) (t7:Int) (s48:bv),LeO (F.s_l9Es_L1 t2 t7 s48) (TR.s_l9Es_L1 t2 t7 s48)
 s_l9Blocks:∀ (t0:bv) (t1:Int),LeO (F.s_l9Blocks t0 t1) (TR.s_l9Blocks t0 t1)
 s_l9Blocks_L1:∀ (t5:Int) (s32:bv),LeO (F.s_l9Blocks_L1 t5 s32) (TR.s_l9Blocks_L1 t5 s32)
 s_l3Piece:∀ (s0:bN) (t1:Int),LeO (F.s_l3Piece s0 t1) (TR.s_l3Piece s0 t1)
 s_l3Piece_L1:∀ (s0:bN) (s64:bC) (s80:bC),LeO (F.s_l3Piece_L1 s0 s64 s80) (TR.s_l3Piece_L1 s0 s64 s80)
 s_l3Piece_L2:∀ (t6:Int) (s0:bN) (s64:bC) (s80:bC),LeO (F.s_l3Piece_L2 t6 s0 s64 s80) (TR.s_l3Piece_L2 t6 s0 s64 s80)
 s_l3Atom:∀ (s0:bN) (t1:Int),LeO (F.s_l3Atom s0 t1) (TR.s_l3Atom s0 t1)
 s_l3Atom_L1:∀ (t5:Int) (s0:bN) (s64:bC),LeO (F.s_l3Atom_L1 t5 s0 s64) (TR.s_l3Atom_L1 t5 s0 s64)
 s_NfaOf:∀ (t0:bC),LeO (F.s_NfaOf t0) (TR.s_NfaOf t0)
 s_l3Set:∀ (s0:bN),LeO (F.s_l3Set s0) (TR.s_l3Set s0)
 s_l3Set_L1:∀ (s0:bN) (s32:bC) (s48:bC),LeO (F.s_l3Set_L1 s0 s32 s48) (TR.s_l3Set_L1 s0 s32 s48)
 s_l3Set_L2:∀ (t4:(List Bool)) (t5:Int) (s0:bN) (s32:bC) (s48:bC),LeO (F.s_l3Set_L2 t4 t5 s0 s32 s48) (TR.s_l3Set_L2 t4 t5 s0 s32 s48)
 s_l3Set_L3:∀ (t4:(List Bool)) (t5:Int) (t6:Int) (t7:Int) (s0:bN) (s32:bC) (s48:bC),LeO (F.s_l3Set_L3 t4 t5 t6 t7 s0 s32 s48) (TR.s_l3Set_L3 t4 t5 t6 t7 s0 s32 s48)
 s_l3Set_L4:∀ (t4:(List Bool)) (s0:bN) (s32:bC) (s48:bC),LeO (F.s_l3Set_L4 t4 s0 s32 s48) (TR.s_l3Set_L4 t4 s0 s32 s48)
 s_l3Set_L5:∀ (t4:(List Bool)) (t5:Int) (t6:Int) (t7:Int) (s0:bN) (s32:bC) (s48:bC),LeO (F.s_l3Set_L5 t4 t5 t6 t7 s0 s32 s48) (TR.s_l3Set_L5 t4 t5 t6 t7 s0 s32 s48)
 s_l3Set_L6:∀ (t4:(List Bool)) (t9:(List Int)) (t10:Int) (s0:bN) (s32:bC) (s48:bC),LeO (F.s_l3Set_L6 t4 t9 t10 s0 s32 s48) (TR.s_l3Set_L6 t4 t9 t10 s0 s32 s48)
 s_l3Set_L7:∀ (t4:(List Bool)) (t5:Int) (t7:Int) (t8:Int) (s0:bN) (s32:bC) (s48:bC),LeO (F.s_l3Set_L7 t4 t5 t7 t8 s0 s32 s48) (TR.s_l3Set_L7 t4 t5 t7 t8 s0 s32 s48)
 s_RexOk:∀ (t0:bC),LeO (F.s_RexOk t0) (TR.s_RexOk t0)
 s_l4Of:∀ (t0:(List bz)) (t1:bC),LeO (F.s_l4Of t0 t1) (TR.s_l4Of t0 t1)
 s_l4Of_L1:∀ (t0:(List bz)) (t6:Int) (s48:bC),LeO (F.s_l4Of_L1 t0 t6 s48) (TR.s_l4Of_L1 t0 t6 s48)
 s_l4Of_L2:∀ (t0:(List bz)),LeO (F.s_l4Of_L2 t0) (TR.s_l4Of_L2 t0)
 s_l4Put:∀ (t0:(List bz)) (t1:Int),LeO (F.s_l4Put t0 t1) (TR.s_l4Put t0 t1)
 s_l3Right:∀ (t0:bC),LeO (F.s_l3Right t0) (TR.s_l3Right t0)
 s_l3Right_L1:∀ (t3:Int) (s16:bC),LeO (F.s_l3Right_L1 t3 s16) (TR.s_l3Right_L1 t3 s16)
 s_l3Right_L2:∀ (t4:Int) (t23:Int) (t62:Bool) (s16:bC),LeO (F.s_l3Right_L2 t4 t23 t62 s16) (TR.s_l3Right_L2 t4 t23 t62 s16)
 s_l3Right_L3:∀ (t4:Int) (t82:Bool) (s16:bC),LeO (F.s_l3Right_L3 t4 t82 s16) (TR.s_l3Right_L3 t4 t82 s16)
 s_l4Or:∀ (t0:(List bz)) (t1:(List bC)),LeO (F.s_l4Or t0 t1) (TR.s_l4Or t0 t1)
 s_l4Or_L1:∀ (t0:(List bz)) (t1:(List bC)) (t5:(List Int)) (t6:Int),LeO (F.s_l4Or_L1 t0 t1 t5 t6) (TR.s_l4Or_L1 t0 t1 t5 t6)
 s_l4Or_L2:∀ (t0:(List bz)) (t5:(List Int)) (t8:Int),LeO (F.s_l4Or_L2 t0 t5 t8) (TR.s_l4Or_L2 t0 t5 t8)
 s_l3Up:∀ (t0:(List Int)),LeO (F.s_l3Up t0) (TR.s_l3Up t0)
 s_l3Up_L1:∀ (t0:(List Int)) (t3:Int),LeO (F.s_l3Up_L1 t0 t3) (TR.s_l3Up_L1 t0 t3)
def nC(F:FsBuild)(t0:Int)(t1:Int)(t2:Int):Option (Bool×Unit) :=
 if(decide (t0≥t1))=true then
  some ((decide (t0≤t2)),())
 else
  some (false,())
def l8(F:FsBuild)(t0:(List Int)):Option (bA×Int×Unit) :=
 (F.s_Parse t0).bind fun(r0:(List bD)×Int×Unit) =>
 if(decide (r0.2.1≥0))=true then
  some ((bA.mk [] [] [] []),(-1),())
 else
  (F.s_Compile r0.1).bind fun(r1:bA×Int×Unit) =>
  some (r1.1,r1.2.1,())
def mB(F:FsBuild)(t0:bA):Option (Bool×Unit) :=
 F.s_ProgOk_L1 0 t0
def mC(F:FsBuild)(t3:Int)(s16:bA):Option (Bool×Unit) :=
 if(decide (t3<(List.length s16.Vars:Int)))=true then
  if(0:Int)≤t3∧t3<(List.length s16.Vars:Int) then
   (F.s_l9Name (List.getD s16.Vars t3.toNat [])).bind fun(r0:Bool×Unit) =>
   if(!r0.1)=true then
    some (false,())
   else
    if(0:Int)≤t3∧t3<(List.length s16.Vars:Int) then
     (F.s_l7Within s16.Cells (List.getD s16.Vars t3.toNat [])).bind fun(r1:Bool×Unit) =>
     if r1.1=true then
      some (false,())
     else
      if(decide (t3>0))=true then
       if(0:Int)≤(w64 (t3-1))∧(w64 (t3-1))<(List.length s16.Vars:Int) then
        if(0:Int)≤t3∧t3<(List.length s16.Vars:Int) then
         if(!(ltS (List.getD s16.Vars (w64 (t3-1)).toNat []) (List.getD s16.Vars t3.toNat [])))=true then
          some (false,())
         else
          F.s_ProgOk_L1 (w64 (t3+1)) s16
        else none
       else none
      else
       F.s_ProgOk_L1 (w64 (t3+1)) s16
    else none
  else none
 else
  F.s_ProgOk_L2 0 s16
def mD(F:FsBuild)(t4:Int)(s16:bA):Option (Bool×Unit) :=
 if(decide (t4<(List.length s16.Cells:Int)))=true then
  if(0:Int)≤t4∧t4<(List.length s16.Cells:Int) then
   (F.s_l9Name (List.getD s16.Cells t4.toNat [])).bind fun(r0:Bool×Unit) =>
   if(!r0.1)=true then
    some (false,())
   else
    if(decide (t4>0))=true then
     if(0:Int)≤(w64 (t4-1))∧(w64 (t4-1))<(List.length s16.Cells:Int) then
      if(0:Int)≤t4∧t4<(List.length s16.Cells:Int) then
       if(!(ltS (List.getD s16.Cells (w64 (t4-1)).toNat []) (List.getD s16.Cells t4.toNat [])))=true then
        some (false,())
       else
        F.s_ProgOk_L2 (w64 (t4+1)) s16
      else none
     else none
    else
     F.s_ProgOk_L2 (w64 (t4+1)) s16
  else none
 else
  if(decide ((List.length s16.Vars:Int)≤8))=true then
   if(decide ((List.length s16.Cells:Int)≤8))=true then
    (F.s_OpsOk s16.Start (List.length s16.Vars:Int) (List.length s16.Cells:Int)).bind fun(r1:Bool×Unit) =>
    if r1.1=true then
     (F.s_OpsOk s16.Main (List.length s16.Vars:Int) (List.length s16.Cells:Int)).bind fun(r2:Bool×Unit) =>
     some (r2.1,())
    else
     some (false,())
   else
    some (false,())
  else
   some (false,())
def pv(F:FsBuild)(t0:(List Int)):Option (Bool×Unit) :=
 F.s_l9Line_L1 t0 0
def pw(F:FsBuild)(t0:(List Int))(t3:Int):Option (Bool×Unit) :=
 if(decide (t3<(List.length t0:Int)))=true then
  if(0:Int)≤t3∧t3<(List.length t0:Int) then
   if(decide ((List.getD t0 t3.toNat 0)=10))=true then
    some (false,())
   else
    F.s_l9Line_L1 t0 (w64 (t3+1))
  else none
 else
  some (true,())
def mz(F:FsBuild)(t0:(List Int)):Option ((List bD)×Int×Unit) :=
 (F.s_Tokens t0).bind fun(r0:(List bF)×Int×Unit) =>
 if(decide (r0.2.1≥0))=true then
  some ([],r0.2.1,())
 else
  F.s_Parse_L1 [] [] 0 r0.1 0 (-1) false ct
def mA(F:FsBuild)(t4:(List bD))(t8:(List bD))(t9:Int)(s368_0:(List bF))(s368_1:Int)(s368_2:Int)(s368_3:Bool)(s368_4:bv):Option ((List bD)×Int×Unit) :=
 if(decide (s368_2<0))=true then
  (F.s_l8Now (bO.mk s368_0 s368_1 s368_2 s368_3 s368_4)).bind fun(r0:bF×bO×Unit) =>
  if(!(decide (r0.1.Kind=0)))=true then
   (F.s_l8Rule r0.2.1).bind fun(r1:bD×bO×Unit) =>
   if List.length t8+1≤room then
    (F.s_Deep r1.1.Pat).bind fun(r2:Int×Unit) =>
    (F.s_Deep r1.1.Body).bind fun(r3:Int×Unit) =>
    (F.s_l1Max r2.1 r3.1).bind fun(r4:Int×Unit) =>
    (F.s_l1Max t9 r4.1).bind fun(r5:Int×Unit) =>
    F.s_Parse_L1 t4 (List.append t8 [r1.1]) r5.1 r1.2.1.list r1.2.1.at_ r1.2.1.bad r1.2.1.has r1.2.1.kept
   else none
  else
   if(decide (r0.2.1.bad≥0))=true then
    some (t4,r0.2.1.bad,())
   else
    if(decide (t9>16))=true then
     some (t4,0,())
    else
     some (t8,(-1),())
 else
  if(decide (s368_2≥0))=true then
   some (t4,s368_2,())
  else
   if(decide (t9>16))=true then
    some (t4,0,())
   else
    some (t8,(-1),())
def me(F:FsBuild)(t0:(List bD)):Option (bA×Int×Unit) :=
 (F.s_Check t0).bind fun(r0:Int×Unit) =>
 if(!(decide (r0.1=0)))=true then
  some ((bA.mk [] [] [] []),r0.1,())
 else
  (F.s_Names t0).bind fun(r1:(List (List Int))×(List (List Int))×Unit) =>
  F.s_Compile_L1 t0 r1.1 r1.2.1 0 B9 r1.1 r1.2.1 [] r1.1 r1.2.1 []
def mf(F:FsBuild)(t0:(List bD))(t5:(List (List Int)))(t6:(List (List Int)))(t9:Int)(s32:bA)(s432_0:(List (List Int)))(s432_1:(List (List Int)))(s432_2:(List bw))(s496_0:(List (List Int)))(s496_1:(List (List Int)))(s496_2:(List bw)):Option (bA×Int×Unit) :=
 if(decide (t9<(List.length t0:Int)))=true then
  if(0:Int)≤t9∧t9<(List.length t0:Int) then
   if(decide (((List.getD t0 t9.toNat b8).Kind)=1))=true then
    (F.s_l14Block s432_0 s432_1 s432_2 ((List.getD t0 t9.toNat b8).Body)).bind fun(r0:((List (List Int))×((List (List Int))×((List bw)×Unit)))×Unit) =>
    F.s_Compile_L1 t0 t5 t6 (w64 (t9+1)) s32 r0.1.1 r0.1.2.1 r0.1.2.2.1 s496_0 s496_1 s496_2
   else
    if(decide (((List.getD t0 t9.toNat b8).Kind)=2))=true then
     (F.s_l14Block s496_0 s496_1 s496_2 ((List.getD t0 t9.toNat b8).Body)).bind fun(r1:((List (List Int))×((List (List Int))×((List bw)×Unit)))×Unit) =>
     F.s_Compile_L1 t0 t5 t6 (w64 (t9+1)) s32 s432_0 s432_1 s432_2 r1.1.1 r1.1.2.1 r1.1.2.2.1
    else
     (F.s_l14E s496_0 s496_1 s496_2 ((List.getD t0 t9.toNat b8).Pat)).bind fun(r2:((List (List Int))×((List (List Int))×((List bw)×Unit)))×Unit) =>
     (F.s_l14Put r2.1.1 r2.1.2.1 r2.1.2.2.1 31 0 []).bind fun(r3:Int×((List (List Int))×((List (List Int))×((List bw)×Unit)))×Unit) =>
     (F.s_l14Block r3.2.1.1 r3.2.1.2.1 r3.2.1.2.2.1 ((List.getD t0 t9.toNat b8).Body)).bind fun(r4:((List (List Int))×((List (List Int))×((List bw)×Unit)))×Unit) =>
     if(0:Int)≤r3.1∧r3.1<(List.length r4.1.2.2.1:Int) then
      let v0:(List bw):=(List.set r4.1.2.2.1 r3.1.toNat (bw.mk ((List.getD r4.1.2.2.1 r3.1.toNat dI).Code) (List.length r4.1.2.2.1:Int) ((List.getD r4.1.2.2.1 r3.1.toNat dI).S)))
      F.s_Compile_L1 t0 t5 t6 (w64 (t9+1)) s32 s432_0 s432_1 s432_2 r4.1.1 r4.1.2.1 v0
     else none
  else none
 else
  (F.s_l14Put s432_0 s432_1 s432_2 36 0 []).bind fun(r5:Int×((List (List Int))×((List (List Int))×((List bw)×Unit)))×Unit) =>
  (F.s_l14Put s496_0 s496_1 s496_2 36 0 []).bind fun(r6:Int×((List (List Int))×((List (List Int))×((List bw)×Unit)))×Unit) =>
  (F.s_ProgOk (bA.mk t5 t6 r5.2.1.2.2.1 r6.2.1.2.2.1)).bind fun(r7:Bool×Unit) =>
  if(!r7.1)=true then
   some ((bA.mk [] [] [] []),3,())
  else
   some ((bA.mk t5 t6 r5.2.1.2.2.1 r6.2.1.2.2.1),0,())
def px(F:FsBuild)(t0:(List Int)):Option (Bool×Unit) :=
 F.s_l9Name_L1 t0 0
def py(F:FsBuild)(t0:(List Int))(t3:Int):Option (Bool×Unit) :=
 if(decide (t3<(List.length t0:Int)))=true then
  if(0:Int)≤t3∧t3<(List.length t0:Int) then
   (F.s_l7Letter (List.getD t0 t3.toNat 0)).bind fun(r0:Bool×Unit) =>
   if(!r0.1)=true then
    some (false,())
   else
    F.s_l9Name_L1 t0 (w64 (t3+1))
  else none
 else
  (F.s_l1In (List.length t0:Int) 1 8).bind fun(r1:Bool×Unit) =>
  if r1.1=true then
   (F.s_Keyword t0).bind fun(r2:Bool×Unit) =>
   some ((!r2.1),())
  else
   some (false,())
def oE(F:FsBuild)(t0:(List (List Int)))(t1:(List Int)):Option (Bool×Unit) :=
 F.s_l7Within_L1 t0 t1 0
def oF(F:FsBuild)(t0:(List (List Int)))(t1:(List Int))(t5:Int):Option (Bool×Unit) :=
 if(decide (t5<(List.length t0:Int)))=true then
  if(0:Int)≤t5∧t5<(List.length t0:Int) then
   if(decide ((List.getD t0 t5.toNat [])=t1))=true then
    some (true,())
   else
    F.s_l7Within_L1 t0 t1 (w64 (t5+1))
  else none
 else
  some (false,())
def mw(F:FsBuild)(t0:(List bw))(t1:Int)(t2:Int):Option (Bool×Unit) :=
 (F.s_l1In (List.length t0:Int) 1 1500).bind fun(r0:Bool×Unit) =>
 if(!r0.1)=true then
  some (false,())
 else
  if(0:Int)≤(w64 ((List.length t0:Int)-1))∧(w64 ((List.length t0:Int)-1))<(List.length t0:Int) then
   if(!(decide (((List.getD t0 (w64 ((List.length t0:Int)-1)).toNat dI).Code)=36)))=true then
    some (false,())
   else
    F.s_OpsOk_L1 t0 t1 t2 (List.length t0:Int) 0
  else none
def my(F:FsBuild)(t0:(List bw))(t1:Int)(t2:Int)(t7:Int)(t8:Int):Option (Bool×Unit) :=
 if(decide (t8<t7))=true then
  if(0:Int)≤t8∧t8<(List.length t0:Int) then
   (F.s_l13Op (List.getD t0 t8.toNat dI) t7 t1 t2).bind fun(r0:Bool×Unit) =>
   if(!r0.1)=true then
    some (false,())
   else
    F.s_OpsOk_L1 t0 t1 t2 t7 (w64 (t8+1))
  else none
 else
  some (true,())
def mI(F:FsBuild)(t0:(List Int)):Option ((List bF)×Int×Unit) :=
 if(decide ((List.length t0:Int)>2000))=true then
  some ([],0,())
 else
  F.s_Tokens_L1 t0 [] 0
def mJ(F:FsBuild)(t0:(List Int))(t4:(List bF))(t5:Int):Option ((List bF)×Int×Unit) :=
 if(decide (t5<(List.length t0:Int)))=true then
  if(0:Int)≤t5∧t5<(List.length t0:Int) then
   if(decide ((List.getD t0 t5.toNat 0)=32))=true then
    F.s_Tokens_L1 t0 t4 (w64 (t5+1))
   else
    if(0:Int)≤t5∧t5<(List.length t0:Int) then
     if(decide ((List.getD t0 t5.toNat 0)=10))=true then
      F.s_Tokens_L1 t0 t4 (w64 (t5+1))
     else
      if(0:Int)≤t5∧t5<(List.length t0:Int) then
       if(decide ((List.getD t0 t5.toNat 0)=35))=true then
        F.s_Tokens_L2 t0 t4 t5
       else
        (F.s_l7One t0 t5 t4).bind fun(r0:bF×Int×Bool×Unit) =>
        if(!r0.2.2.1)=true then
         some ([],t5,())
        else
         if List.length t4+1≤room then
          F.s_Tokens_L1 t0 (List.append t4 [r0.1]) r0.2.1
         else none
      else none
    else none
  else none
 else
  if List.length t4+1≤room then
   some ((List.append t4 [(bF.mk 0 [] 0 (List.length t0:Int))]),(-1),())
  else none
def mK(F:FsBuild)(t0:(List Int))(t4:(List bF))(t5:Int):Option ((List bF)×Int×Unit) :=
 if(decide (t5<(List.length t0:Int)))=true then
  if(0:Int)≤t5∧t5<(List.length t0:Int) then
   if(!(decide ((List.getD t0 t5.toNat 0)=10)))=true then
    F.s_Tokens_L2 t0 t4 (w64 (t5+1))
   else
    F.s_Tokens_L1 t0 t4 t5
  else none
 else
  F.s_Tokens_L1 t0 t4 t5
def o4(F:FsBuild)(s0:bO):Option (bF×bO×Unit) :=
 if(0:Int)≤s0.at_∧s0.at_<(List.length s0.list:Int) then
  some ((List.getD s0.list s0.at_.toNat iS),s0,())
 else none
def o7(F:FsBuild)(s0:bO):Option (bD×bO×Unit) :=
 (F.s_l8Is s0 [66,69,71,73,78]).bind fun(r0:Bool×bO×Unit) =>
 if r0.1=true then
  (F.s_l8Next r0.2.1).bind fun(r1:bO×Unit) =>
  (F.s_l8Block r1.1).bind fun(r2:bv×bO×Unit) =>
  some ((bD.mk 1 ct r2.1),r2.2.1,())
 else
  (F.s_l8Sign r0.2.1 [123]).bind fun(r3:Bool×bO×Unit) =>
  if r3.1=true then
   (F.s_l8Block r3.2.1).bind fun(r4:bv×bO×Unit) =>
   some ((bD.mk 2 ct r4.1),r4.2.1,())
  else
   (F.s_l8E r3.2.1).bind fun(r5:bv×bO×Unit) =>
   (F.s_l8Sign r5.2.1 [123]).bind fun(r6:Bool×bO×Unit) =>
   if r6.1=true then
    (F.s_l8Block r6.2.1).bind fun(r7:bv×bO×Unit) =>
    some ((bD.mk 3 r5.1 r7.1),r7.2.1,())
   else
    (F.s_l8Kids 29 [(bv.mk 30 0 [] [])]).bind fun(r8:(Int×(Int×((List Int)×((List bv)×Unit))))×Unit) =>
    some ((bD.mk 3 r5.1 (bv.mk r8.1.1 r8.1.2.1 r8.1.2.2.1 r8.1.2.2.2.1)),r6.2.1,())
def mp(F:FsBuild)(t0:bv):Option (Int×Unit) :=
 F.s_Deep_L1 0 0 t0
def mq(F:FsBuild)(t3:Int)(t4:Int)(s16:bv):Option (Int×Unit) :=
 if(decide (t4<(List.length s16.Kids:Int)))=true then
  if(0:Int)≤t4∧t4<(List.length s16.Kids:Int) then
   (F.s_Deep (List.getD s16.Kids t4.toNat ct)).bind fun(r0:Int×Unit) =>
   (F.s_l1Max t3 r0.1).bind fun(r1:Int×Unit) =>
   F.s_Deep_L1 r1.1 (w64 (t4+1)) s16
  else none
 else
  some ((w64 (t3+1)),())
def nD(F:FsBuild)(t0:Int)(t1:Int):Option (Int×Unit) :=
 if(decide (t0>t1))=true then
  some (t0,())
 else
  some (t1,())
def l9(F:FsBuild)(t0:(List bD)):Option (Int×Unit) :=
 (F.s_Tidy t0).bind fun(r0:Bool×Unit) =>
 if(!r0.1)=true then
  some (1,())
 else
  F.s_Check_L1 t0 0
def ma(F:FsBuild)(t0:(List bD))(t3:Int):Option (Int×Unit) :=
 if(decide (t3<(List.length t0:Int)))=true then
  if(0:Int)≤t3∧t3<(List.length t0:Int) then
   if(decide (((List.getD t0 t3.toNat b8).Kind)=1))=true then
    if(decide (t3>0))=true then
     some (2,())
    else
     if(0:Int)≤t3∧t3<(List.length t0:Int) then
      (F.s_l10Line ((List.getD t0 t3.toNat b8).Body)).bind fun(r0:Bool×Unit) =>
      if r0.1=true then
       some (2,())
      else
       F.s_Check_L1 t0 (w64 (t3+1))
     else none
   else
    F.s_Check_L1 t0 (w64 (t3+1))
  else none
 else
  (F.s_Names t0).bind fun(r1:(List (List Int))×(List (List Int))×Unit) =>
  if(decide ((List.length r1.1:Int)>8))=true then
   some (3,())
  else
   if(decide ((List.length r1.2.1:Int)>8))=true then
    some (3,())
   else
    F.s_Check_L2 t0 r1.1 r1.2.1 0
def mb(F:FsBuild)(t0:(List bD))(t4:(List (List Int)))(t5:(List (List Int)))(t6:Int):Option (Int×Unit) :=
 if(decide (t6<(List.length t4:Int)))=true then
  if(0:Int)≤t6∧t6<(List.length t4:Int) then
   (F.s_l7Within t5 (List.getD t4 t6.toNat [])).bind fun(r0:Bool×Unit) =>
   if r0.1=true then
    some (4,())
   else
    F.s_Check_L2 t0 t4 t5 (w64 (t6+1))
  else none
 else
  F.s_Check_L3 t0 0
def mc(F:FsBuild)(t0:(List bD))(t7:Int):Option (Int×Unit) :=
 if(decide (t7<(List.length t0:Int)))=true then
  if(0:Int)≤t7∧t7<(List.length t0:Int) then
   (F.s_l10Args ((List.getD t0 t7.toNat b8).Pat)).bind fun(r0:Bool×Unit) =>
   if(!r0.1)=true then
    some (5,())
   else
    if(0:Int)≤t7∧t7<(List.length t0:Int) then
     (F.s_l10Args ((List.getD t0 t7.toNat b8).Body)).bind fun(r1:Bool×Unit) =>
     if(!r1.1)=true then
      some (5,())
     else
      F.s_Check_L3 t0 (w64 (t7+1))
    else none
  else none
 else
  F.s_Check_L4 t0 0
def md(F:FsBuild)(t0:(List bD))(t8:Int):Option (Int×Unit) :=
 if(decide (t8<(List.length t0:Int)))=true then
  if(0:Int)≤t8∧t8<(List.length t0:Int) then
   (F.s_l10Rexes ((List.getD t0 t8.toNat b8).Pat)).bind fun(r0:Bool×Unit) =>
   if(!r0.1)=true then
    some (6,())
   else
    if(0:Int)≤t8∧t8<(List.length t0:Int) then
     (F.s_l10Rexes ((List.getD t0 t8.toNat b8).Body)).bind fun(r1:Bool×Unit) =>
     if(!r1.1)=true then
      some (6,())
     else
      F.s_Check_L4 t0 (w64 (t8+1))
    else none
  else none
 else
  some (0,())
def mt(F:FsBuild)(t0:(List bD)):Option ((List (List Int))×(List (List Int))×Unit) :=
 F.s_Names_L1 t0 [] [] 0
def mu(F:FsBuild)(t0:(List bD))(t4:(List (List Int)))(t5:(List (List Int)))(t6:Int):Option ((List (List Int))×(List (List Int))×Unit) :=
 if(decide (t6<(List.length t0:Int)))=true then
  if(0:Int)≤t6∧t6<(List.length t0:Int) then
   (F.s_l10Names ((List.getD t0 t6.toNat b8).Pat) t4 t5).bind fun(r0:(List (List Int))×(List (List Int))×Unit) =>
   if(0:Int)≤t6∧t6<(List.length t0:Int) then
    (F.s_l10Names ((List.getD t0 t6.toNat b8).Body) r0.1 r0.2.1).bind fun(r1:(List (List Int))×(List (List Int))×Unit) =>
    F.s_Names_L1 t0 r1.1 r1.2.1 (w64 (t6+1))
   else none
  else none
 else
  some (t4,t5,())
def nf(F:FsBuild)(s0_0:(List (List Int)))(s0_1:(List (List Int)))(s0_2:(List bw))(t1:bv):Option (((List (List Int))×((List (List Int))×((List bw)×Unit)))×Unit) :=
 F.s_l14Block_L1 0 s0_0 s0_1 s0_2 t1
def ng(F:FsBuild)(t4:Int)(s0_0:(List (List Int)))(s0_1:(List (List Int)))(s0_2:(List bw))(s48:bv):Option (((List (List Int))×((List (List Int))×((List bw)×Unit)))×Unit) :=
 if(decide (t4<(List.length s48.Kids:Int)))=true then
  if(0:Int)≤t4∧t4<(List.length s48.Kids:Int) then
   (F.s_l14Stmt s0_0 s0_1 s0_2 (List.getD s48.Kids t4.toNat ct)).bind fun(r0:((List (List Int))×((List (List Int))×((List bw)×Unit)))×Unit) =>
   F.s_l14Block_L1 (w64 (t4+1)) r0.1.1 r0.1.2.1 r0.1.2.2.1 s48
  else none
 else
  some ((s0_0,(s0_1,(s0_2,()))),())
def nh(F:FsBuild)(s0_0:(List (List Int)))(s0_1:(List (List Int)))(s0_2:(List bw))(t1:bv):Option (((List (List Int))×((List (List Int))×((List bw)×Unit)))×Unit) :=
 if(decide (t1.Op=26))=true then
  F.s_l14E_L1 t1.Op (decide (t1.Op=26)) s0_0 s0_1 s0_2 t1
 else
  F.s_l14E_L1 t1.Op (decide (t1.Op=27)) s0_0 s0_1 s0_2 t1
def ni(F:FsBuild)(t6:Int)(t24:Bool)(s0_0:(List (List Int)))(s0_1:(List (List Int)))(s0_2:(List bw))(s48:bv):Option (((List (List Int))×((List (List Int))×((List bw)×Unit)))×Unit) :=
 if t24=true then
  (F.s_l14Set s0_0 s0_1 s0_2 s48).bind fun(r0:((List (List Int))×((List (List Int))×((List bw)×Unit)))×Unit) =>
  some ((r0.1.1,(r0.1.2.1,(r0.1.2.2.1,()))),())
 else
  if(decide (t6=24))=true then
   (F.s_l14And s0_0 s0_1 s0_2 s48).bind fun(r1:((List (List Int))×((List (List Int))×((List bw)×Unit)))×Unit) =>
   some ((r1.1.1,(r1.1.2.1,(r1.1.2.2.1,()))),())
  else
   if(decide (t6=25))=true then
    (F.s_l14Or s0_0 s0_1 s0_2 s48).bind fun(r2:((List (List Int))×((List (List Int))×((List bw)×Unit)))×Unit) =>
    some ((r2.1.1,(r2.1.2.1,(r2.1.2.2.1,()))),())
   else
    if(decide (t6=21))=true then
     if(0:Int)≤0∧(0:Int)<(List.length s48.Kids:Int) then
      (F.s_l14E s0_0 s0_1 s0_2 (List.getD s48.Kids 0 ct)).bind fun(r3:((List (List Int))×((List (List Int))×((List bw)×Unit)))×Unit) =>
      if(0:Int)≤1∧(1:Int)<(List.length s48.Kids:Int) then
       (F.s_l14Put r3.1.1 r3.1.2.1 r3.1.2.2.1 24 0 ((List.getD s48.Kids 1 ct).S)).bind fun(r4:Int×((List (List Int))×((List (List Int))×((List bw)×Unit)))×Unit) =>
       some ((r4.2.1.1,(r4.2.1.2.1,(r4.2.1.2.2.1,()))),())
      else none
     else none
    else
     F.s_l14E_L2 0 s0_0 s0_1 s0_2 s48
def nj(F:FsBuild)(t4:Int)(s0_0:(List (List Int)))(s0_1:(List (List Int)))(s0_2:(List bw))(s48:bv):Option (((List (List Int))×((List (List Int))×((List bw)×Unit)))×Unit) :=
 if(decide (t4<(List.length s48.Kids:Int)))=true then
  if(0:Int)≤t4∧t4<(List.length s48.Kids:Int) then
   (F.s_l14E s0_0 s0_1 s0_2 (List.getD s48.Kids t4.toNat ct)).bind fun(r0:((List (List Int))×((List (List Int))×((List bw)×Unit)))×Unit) =>
   F.s_l14E_L2 (w64 (t4+1)) r0.1.1 r0.1.2.1 r0.1.2.2.1 s48
  else none
 else
  (F.s_l14Last s0_0 s0_1 s0_2 s48).bind fun(r1:((List (List Int))×((List (List Int))×((List bw)×Unit)))×Unit) =>
  some ((r1.1.1,(r1.1.2.1,(r1.1.2.2.1,()))),())
def nx(F:FsBuild)(s0_0:(List (List Int)))(s0_1:(List (List Int)))(s0_2:(List bw))(t1:Int)(t2:Int)(t3:(List Int)):Option (Int×((List (List Int))×((List (List Int))×((List bw)×Unit)))×Unit) :=
 if List.length s0_2+1≤room then
  some ((w64 ((List.length (List.append s0_2 [(bw.mk t1 t2 t3)]):Int)-1)),(s0_0,(s0_1,((List.append s0_2 [(bw.mk t1 t2 t3)]),()))),())
 else none
def oo(F:FsBuild)(t0:Int):Option (Bool×Unit) :=
 if(decide (t0≥97))=true then
  if(decide (t0≤122))=true then
   some (true,())
  else
   if(decide (t0≥65))=true then
    some ((decide (t0≤90)),())
   else
    some (false,())
 else
  if(decide (t0≥65))=true then
   some ((decide (t0≤90)),())
  else
   some (false,())
def mr(F:FsBuild)(t0:(List Int)):Option (Bool×Unit) :=
 (F.s_l7Within [[66,69,71,73,78],[112,114,105,110,116],[105,102],[101,108,115,101],[119,104,105,108,101],[110,101,120,116],[100,101,108,101,116,101],[78,82],[78,70]] t0).bind fun(r0:Bool×Unit) =>
 if r0.1=true then
  some (true,())
 else
  (F.s_l7Calls ).bind fun(r1:(List (List Int))×Unit) =>
  (F.s_l7Within r1.1 t0).bind fun(r2:Bool×Unit) =>
  some (r2.1,())
def mZ(F:FsBuild)(t0:bw)(t1:Int)(t2:Int)(t3:Int):Option (Bool×Unit) :=
 if(decide (t0.Code=1))=true then
  (F.s_DecOk t0.N).bind fun(r0:Bool×Unit) =>
  if r0.1=true then
   some ((decide (t0.S=[])),())
  else
   some (false,())
 else
  if(decide (t0.Code=2))=true then
   some ((decide (t0.N=0)),())
  else
   if(decide (t0.Code=3))=true then
    F.s_l13Op_L1 t1 t2 t3 t0.Code (decide (t0.Code=3)) t0
   else
    if(decide (t0.Code=4))=true then
     F.s_l13Op_L1 t1 t2 t3 t0.Code (decide (t0.Code=4)) t0
    else
     F.s_l13Op_L1 t1 t2 t3 t0.Code (decide (t0.Code=5)) t0
def m0(F:FsBuild)(t1:Int)(t2:Int)(t3:Int)(t12:Int)(t28:Bool)(s64:bw):Option (Bool×Unit) :=
 if t28=true then
  if(decide (s64.N≥0))=true then
   if(decide (s64.N<t2))=true then
    some ((decide (s64.S=[])),())
   else
    some (false,())
  else
   some (false,())
 else
  if(decide (t12=6))=true then
   F.s_l13Op_L2 t1 t3 t12 (decide (t12=6)) s64
  else
   if(decide (t12=7))=true then
    F.s_l13Op_L2 t1 t3 t12 (decide (t12=7)) s64
   else
    if(decide (t12=8))=true then
     F.s_l13Op_L2 t1 t3 t12 (decide (t12=8)) s64
    else
     F.s_l13Op_L2 t1 t3 t12 (decide (t12=35)) s64
def m8(F:FsBuild)(t1:Int)(t3:Int)(t12:Int)(t46:Bool)(s64:bw):Option (Bool×Unit) :=
 if t46=true then
  if(decide (s64.N≥0))=true then
   if(decide (s64.N<t3))=true then
    some ((decide (s64.S=[])),())
   else
    some (false,())
  else
   some (false,())
 else
  if(decide (t12=24))=true then
   F.s_l13Op_L3 t1 t12 (decide (t12=24)) s64
  else
   F.s_l13Op_L3 t1 t12 (decide (t12=25)) s64
def m9(F:FsBuild)(t1:Int)(t12:Int)(t65:Bool)(s64:bw):Option (Bool×Unit) :=
 if t65=true then
  (F.s_RexParse s64.S).bind fun(r0:bC×Bool×Unit) =>
  if r0.2.1=true then
   some ((decide (s64.N=0)),())
  else
   some (false,())
 else
  if(decide (t12=29))=true then
   (F.s_l1In s64.N 1 3).bind fun(r1:Bool×Unit) =>
   if r1.1=true then
    (F.s_l7Calls ).bind fun(r2:(List (List Int))×Unit) =>
    (F.s_l7Within r2.1 s64.S).bind fun(r3:Bool×Unit) =>
    some (r3.1,())
   else
    some (false,())
  else
   if(decide (t12=30))=true then
    F.s_l13Op_L4 t1 t12 (decide (t12=30)) s64
   else
    F.s_l13Op_L4 t1 t12 (decide (t12=31)) s64
def na(F:FsBuild)(t1:Int)(t12:Int)(t91:Bool)(s64:bw):Option (Bool×Unit) :=
 if t91=true then
  (F.s_l1In s64.N 0 (w64 (t1-1))).bind fun(r0:Bool×Unit) =>
  if r0.1=true then
   some ((decide (s64.S=[])),())
  else
   some (false,())
 else
  if(decide (t12=33))=true then
   (F.s_l1In s64.N 0 1).bind fun(r1:Bool×Unit) =>
   if r1.1=true then
    some ((decide (s64.S=[])),())
   else
    some (false,())
  else
   (F.s_l1In s64.Code 1 36).bind fun(r2:Bool×Unit) =>
   if r2.1=true then
    if(decide (s64.N=0))=true then
     some ((decide (s64.S=[])),())
    else
     some (false,())
   else
    some (false,())
def ow(F:FsBuild)(t0:(List Int))(t1:Int)(t2:(List bF)):Option (bF×Int×Bool×Unit) :=
 if(0:Int)≤t1∧t1<(List.length t0:Int) then
  (F.s_l7Letter (List.getD t0 t1.toNat 0)).bind fun(r0:Bool×Unit) =>
  if r0.1=true then
   F.s_l7One_L1 t0 t1 t1 iS
  else
   (F.s_l2Digit (List.getD t0 t1.toNat 0)).bind fun(r1:Bool×Unit) =>
   if r1.1=true then
    (F.s_l7Number t0 t1).bind fun(r2:Int×Int×Bool×Unit) =>
    some ((bF.mk 2 [] r2.1 t1),r2.2.1,r2.2.2.1,())
   else
    if(decide ((List.getD t0 t1.toNat 0)=34))=true then
     (F.s_l7Text t0 t1).bind fun(r3:(List Int)×Int×Bool×Unit) =>
     some ((bF.mk 3 r3.1 0 t1),r3.2.1,r3.2.2.1,())
    else
     if(decide ((List.getD t0 t1.toNat 0)=47))=true then
      (F.s_l7After t2).bind fun(r4:Bool×Unit) =>
      if(!r4.1)=true then
       (F.s_l7Rex t0 t1).bind fun(r5:(List Int)×Int×Bool×Unit) =>
       some ((bF.mk 4 r5.1 0 t1),r5.2.1,r5.2.2.1,())
      else
       (F.s_l7Sign t0 t1).bind fun(r6:(List Int)×Unit) =>
       some ((bF.mk 5 r6.1 0 t1),(w64 (t1+(List.length r6.1:Int))),(!(decide (r6.1=[]))),())
     else
      (F.s_l7Sign t0 t1).bind fun(r7:(List Int)×Unit) =>
      some ((bF.mk 5 r7.1 0 t1),(w64 (t1+(List.length r7.1:Int))),(!(decide (r7.1=[]))),())
 else none
def ox(F:FsBuild)(t0:(List Int))(t1:Int)(t10:Int)(s96:bF):Option (bF×Int×Bool×Unit) :=
 if(decide (t10<(List.length t0:Int)))=true then
  if(0:Int)≤t10∧t10<(List.length t0:Int) then
   (F.s_l7Letter (List.getD t0 t10.toNat 0)).bind fun(r0:Bool×Unit) =>
   if r0.1=true then
    F.s_l7One_L1 t0 t1 (w64 (t10+1)) s96
   else
    if(0:Int)≤t1∧t1≤t10∧t10≤(List.length t0:Int) then
     some ((bF.mk 1 (List.take (t10.toNat-t1.toNat) (List.drop t1.toNat t0)) 0 t1),t10,(decide ((w64 (t10-t1))≤8)),())
    else none
  else none
 else
  if(0:Int)≤t1∧t1≤t10∧t10≤(List.length t0:Int) then
   some ((bF.mk 1 (List.take (t10.toNat-t1.toNat) (List.drop t1.toNat t0)) 0 t1),t10,(decide ((w64 (t10-t1))≤8)),())
  else none
def oS(F:FsBuild)(s0:bO)(t1:(List Int)):Option (Bool×bO×Unit) :=
 (F.s_l8Now s0).bind fun(r0:bF×bO×Unit) =>
 if(decide (r0.2.1.bad<0))=true then
  if(decide (r0.1.Kind=1))=true then
   some ((decide (r0.1.Text=t1)),r0.2.1,())
  else
   some (false,r0.2.1,())
 else
  some (false,r0.2.1,())
def o3(F:FsBuild)(s0:bO):Option (bO×Unit) :=
 if(decide (s0.at_<(w64 ((List.length s0.list:Int)-1))))=true then
  some ((bO.mk s0.list (w64 (s0.at_+1)) s0.bad s0.has s0.kept),())
 else
  some (s0,())
def oK(F:FsBuild)(s0:bO):Option (bv×bO×Unit) :=
 (F.s_l8Take s0 [123]).bind fun(r0:bO×Unit) =>
 F.s_l8Block_L1 r0.1 0 0 [] [] 29 0 [] []
def oL(F:FsBuild)(s0:bO)(s32_0:Int)(s32_1:Int)(s32_2:(List Int))(s32_3:(List bv))(s48_0:Int)(s48_1:Int)(s48_2:(List Int))(s48_3:(List bv)):Option (bv×bO×Unit) :=
 if(decide (s0.bad<0))=true then
  (F.s_l8Sign s0 [125]).bind fun(r0:Bool×bO×Unit) =>
  if(!r0.1)=true then
   (F.s_l8Sign r0.2.1 [59]).bind fun(r1:Bool×bO×Unit) =>
   if r1.1=true then
    (F.s_l8Next r1.2.1).bind fun(r2:bO×Unit) =>
    F.s_l8Block_L1 r2.1 s32_0 s32_1 s32_2 s32_3 s48_0 s48_1 s48_2 s48_3
   else
    (F.s_l8Stmt r1.2.1).bind fun(r3:bv×bO×Unit) =>
    if List.length s48_3+1≤room then
     F.s_l8Block_L1 r3.2.1 s32_0 s32_1 s32_2 s32_3 s48_0 s48_1 s48_2 (List.append s48_3 [r3.1])
    else none
  else
   (F.s_l8Take r0.2.1 [125]).bind fun(r4:bO×Unit) =>
   some ((bv.mk s48_0 s48_1 s48_2 s48_3),r4.1,())
 else
  (F.s_l8Take s0 [125]).bind fun(r5:bO×Unit) =>
  some ((bv.mk s48_0 s48_1 s48_2 s48_3),r5.1,())
def o8(F:FsBuild)(s0:bO)(t1:(List Int)):Option (Bool×bO×Unit) :=
 (F.s_l8Now s0).bind fun(r0:bF×bO×Unit) =>
 if(decide (r0.2.1.bad<0))=true then
  if(decide (r0.1.Kind=5))=true then
   some ((decide (r0.1.Text=t1)),r0.2.1,())
  else
   some (false,r0.2.1,())
 else
  some (false,r0.2.1,())
def oO(F:FsBuild)(s0:bO):Option (bv×bO×Unit) :=
 (F.s_l8Now s0).bind fun(r0:bF×bO×Unit) =>
 if(decide (r0.2.1.bad<0))=true then
  if(decide (r0.1.Kind=1))=true then
   (F.s_Keyword r0.1.Text).bind fun(r1:Bool×Unit) =>
   if(!r1.1)=true then
    (F.s_l8Named r0.2.1).bind fun(r2:bv×bO×Unit) =>
    (F.s_l8Sign r2.2.1 [61]).bind fun(r3:Bool×bO×Unit) =>
    if r3.1=true then
     F.s_l8E_L1 26 r3.2.1 0 0 [] [] r2.1
    else
     (F.s_l8Sign r3.2.1 [43,61]).bind fun(r4:Bool×bO×Unit) =>
     if r4.1=true then
      F.s_l8E_L1 27 r4.2.1 0 0 [] [] r2.1
     else
      F.s_l8E_L1 0 r4.2.1 0 0 [] [] r2.1
   else
    (F.s_l8Level r0.2.1 0).bind fun(r5:bv×bO×Unit) =>
    some (r5.1,r5.2.1,())
  else
   (F.s_l8Level r0.2.1 0).bind fun(r6:bv×bO×Unit) =>
   some (r6.1,r6.2.1,())
 else
  (F.s_l8Level r0.2.1 0).bind fun(r7:bv×bO×Unit) =>
  some (r7.1,r7.2.1,())
def oP(F:FsBuild)(t5:Int)(s0:bO)(s32_0:Int)(s32_1:Int)(s32_2:(List Int))(s32_3:(List bv))(s64:bv):Option (bv×bO×Unit) :=
 if(decide (t5>0))=true then
  (F.s_l8Next s0).bind fun(r0:bO×Unit) =>
  (F.s_l8E r0.1).bind fun(r1:bv×bO×Unit) =>
  (F.s_l8Kids t5 [s64,r1.1]).bind fun(r2:(Int×(Int×((List Int)×((List bv)×Unit))))×Unit) =>
  some ((bv.mk r2.1.1 r2.1.2.1 r2.1.2.2.1 r2.1.2.2.2.1),r1.2.1,())
 else
  (F.s_l8Level (bO.mk s0.list s0.at_ s0.bad true s64) 0).bind fun(r3:bv×bO×Unit) =>
  some (r3.1,r3.2.1,())
def oT(F:FsBuild)(t0:Int)(t1:(List bv)):Option ((Int×(Int×((List Int)×((List bv)×Unit))))×Unit) :=
 if 0+List.length t1≤room then
  some ((t0,(0,([],((List.append [] t1),())))),())
 else none
def mG(F:FsBuild)(t0:(List bD)):Option (Bool×Unit) :=
 F.s_Tidy_L1 t0 0
def mH(F:FsBuild)(t0:(List bD))(t3:Int):Option (Bool×Unit) :=
 if(decide (t3<(List.length t0:Int)))=true then
  if(0:Int)≤t3∧t3<(List.length t0:Int) then
   if(decide ((((List.getD t0 t3.toNat b8).Pat).Op)=0))=true then
    if(decide ((((List.getD t0 t3.toNat b8).Pat).N)=0))=true then
     if(decide ((((List.getD t0 t3.toNat b8).Pat).S)=[]))=true then
      (F.s_l1In ((List.getD t0 t3.toNat b8).Kind) 1 2).bind fun(r0:Bool×Unit) =>
      if r0.1=true then
       if(decide ((List.length (((List.getD t0 t3.toNat b8).Pat).Kids):Int)=0))=true then
        if(!(decide ((((List.getD t0 t3.toNat b8).Body).Op)=29)))=true then
         some (false,())
        else
         (F.s_Deep ((List.getD t0 t3.toNat b8).Body)).bind fun(r1:Int×Unit) =>
         if(decide (r1.1>16))=true then
          some (false,())
         else
          (F.s_l9Node ((List.getD t0 t3.toNat b8).Body)).bind fun(r2:Bool×Unit) =>
          if(!r2.1)=true then
           some (false,())
          else
           F.s_Tidy_L1 t0 (w64 (t3+1))
       else
        if(decide (((List.getD t0 t3.toNat b8).Kind)=3))=true then
         (F.s_l9IsE (((List.getD t0 t3.toNat b8).Pat).Op)).bind fun(r3:Bool×Unit) =>
         if r3.1=true then
          (F.s_l9Node ((List.getD t0 t3.toNat b8).Pat)).bind fun(r4:Bool×Unit) =>
          if r4.1=true then
           (F.s_Deep ((List.getD t0 t3.toNat b8).Pat)).bind fun(r5:Int×Unit) =>
           if(!(decide (r5.1≤16)))=true then
            some (false,())
           else
            if(!(decide ((((List.getD t0 t3.toNat b8).Body).Op)=29)))=true then
             some (false,())
            else
             (F.s_Deep ((List.getD t0 t3.toNat b8).Body)).bind fun(r6:Int×Unit) =>
             if(decide (r6.1>16))=true then
              some (false,())
             else
              (F.s_l9Node ((List.getD t0 t3.toNat b8).Body)).bind fun(r7:Bool×Unit) =>
              if(!r7.1)=true then
               some (false,())
              else
               F.s_Tidy_L1 t0 (w64 (t3+1))
          else
           some (false,())
         else
          some (false,())
        else
         some (false,())
      else
       if(decide (((List.getD t0 t3.toNat b8).Kind)=3))=true then
        (F.s_l9IsE (((List.getD t0 t3.toNat b8).Pat).Op)).bind fun(r8:Bool×Unit) =>
        if r8.1=true then
         (F.s_l9Node ((List.getD t0 t3.toNat b8).Pat)).bind fun(r9:Bool×Unit) =>
         if r9.1=true then
          (F.s_Deep ((List.getD t0 t3.toNat b8).Pat)).bind fun(r10:Int×Unit) =>
          if(!(decide (r10.1≤16)))=true then
           some (false,())
          else
           if(!(decide ((((List.getD t0 t3.toNat b8).Body).Op)=29)))=true then
            some (false,())
           else
            (F.s_Deep ((List.getD t0 t3.toNat b8).Body)).bind fun(r11:Int×Unit) =>
            if(decide (r11.1>16))=true then
             some (false,())
            else
             (F.s_l9Node ((List.getD t0 t3.toNat b8).Body)).bind fun(r12:Bool×Unit) =>
             if(!r12.1)=true then
              some (false,())
             else
              F.s_Tidy_L1 t0 (w64 (t3+1))
         else
          some (false,())
        else
         some (false,())
       else
        some (false,())
     else
      (F.s_l1In ((List.getD t0 t3.toNat b8).Kind) 1 2).bind fun(r13:Bool×Unit) =>
      if r13.1=true then
       if(decide (((List.getD t0 t3.toNat b8).Kind)=3))=true then
        (F.s_l9IsE (((List.getD t0 t3.toNat b8).Pat).Op)).bind fun(r14:Bool×Unit) =>
        if r14.1=true then
         (F.s_l9Node ((List.getD t0 t3.toNat b8).Pat)).bind fun(r15:Bool×Unit) =>
         if r15.1=true then
          (F.s_Deep ((List.getD t0 t3.toNat b8).Pat)).bind fun(r16:Int×Unit) =>
          if(!(decide (r16.1≤16)))=true then
           some (false,())
          else
           if(!(decide ((((List.getD t0 t3.toNat b8).Body).Op)=29)))=true then
            some (false,())
           else
            (F.s_Deep ((List.getD t0 t3.toNat b8).Body)).bind fun(r17:Int×Unit) =>
            if(decide (r17.1>16))=true then
             some (false,())
            else
             (F.s_l9Node ((List.getD t0 t3.toNat b8).Body)).bind fun(r18:Bool×Unit) =>
             if(!r18.1)=true then
              some (false,())
             else
              F.s_Tidy_L1 t0 (w64 (t3+1))
         else
          some (false,())
        else
         some (false,())
       else
        some (false,())
      else
       if(decide (((List.getD t0 t3.toNat b8).Kind)=3))=true then
        (F.s_l9IsE (((List.getD t0 t3.toNat b8).Pat).Op)).bind fun(r19:Bool×Unit) =>
        if r19.1=true then
         (F.s_l9Node ((List.getD t0 t3.toNat b8).Pat)).bind fun(r20:Bool×Unit) =>
         if r20.1=true then
          (F.s_Deep ((List.getD t0 t3.toNat b8).Pat)).bind fun(r21:Int×Unit) =>
          if(!(decide (r21.1≤16)))=true then
           some (false,())
          else
           if(!(decide ((((List.getD t0 t3.toNat b8).Body).Op)=29)))=true then
            some (false,())
           else
            (F.s_Deep ((List.getD t0 t3.toNat b8).Body)).bind fun(r22:Int×Unit) =>
            if(decide (r22.1>16))=true then
             some (false,())
            else
             (F.s_l9Node ((List.getD t0 t3.toNat b8).Body)).bind fun(r23:Bool×Unit) =>
             if(!r23.1)=true then
              some (false,())
             else
              F.s_Tidy_L1 t0 (w64 (t3+1))
         else
          some (false,())
        else
         some (false,())
       else
        some (false,())
    else
     (F.s_l1In ((List.getD t0 t3.toNat b8).Kind) 1 2).bind fun(r24:Bool×Unit) =>
     if r24.1=true then
      if(decide (((List.getD t0 t3.toNat b8).Kind)=3))=true then
       (F.s_l9IsE (((List.getD t0 t3.toNat b8).Pat).Op)).bind fun(r25:Bool×Unit) =>
       if r25.1=true then
        (F.s_l9Node ((List.getD t0 t3.toNat b8).Pat)).bind fun(r26:Bool×Unit) =>
        if r26.1=true then
         (F.s_Deep ((List.getD t0 t3.toNat b8).Pat)).bind fun(r27:Int×Unit) =>
         if(!(decide (r27.1≤16)))=true then
          some (false,())
         else
          if(!(decide ((((List.getD t0 t3.toNat b8).Body).Op)=29)))=true then
           some (false,())
          else
           (F.s_Deep ((List.getD t0 t3.toNat b8).Body)).bind fun(r28:Int×Unit) =>
           if(decide (r28.1>16))=true then
            some (false,())
           else
            (F.s_l9Node ((List.getD t0 t3.toNat b8).Body)).bind fun(r29:Bool×Unit) =>
            if(!r29.1)=true then
             some (false,())
            else
             F.s_Tidy_L1 t0 (w64 (t3+1))
        else
         some (false,())
       else
        some (false,())
      else
       some (false,())
     else
      if(decide (((List.getD t0 t3.toNat b8).Kind)=3))=true then
       (F.s_l9IsE (((List.getD t0 t3.toNat b8).Pat).Op)).bind fun(r30:Bool×Unit) =>
       if r30.1=true then
        (F.s_l9Node ((List.getD t0 t3.toNat b8).Pat)).bind fun(r31:Bool×Unit) =>
        if r31.1=true then
         (F.s_Deep ((List.getD t0 t3.toNat b8).Pat)).bind fun(r32:Int×Unit) =>
         if(!(decide (r32.1≤16)))=true then
          some (false,())
         else
          if(!(decide ((((List.getD t0 t3.toNat b8).Body).Op)=29)))=true then
           some (false,())
          else
           (F.s_Deep ((List.getD t0 t3.toNat b8).Body)).bind fun(r33:Int×Unit) =>
           if(decide (r33.1>16))=true then
            some (false,())
           else
            (F.s_l9Node ((List.getD t0 t3.toNat b8).Body)).bind fun(r34:Bool×Unit) =>
            if(!r34.1)=true then
             some (false,())
            else
             F.s_Tidy_L1 t0 (w64 (t3+1))
        else
         some (false,())
       else
        some (false,())
      else
       some (false,())
   else
    (F.s_l1In ((List.getD t0 t3.toNat b8).Kind) 1 2).bind fun(r35:Bool×Unit) =>
    if r35.1=true then
     if(decide (((List.getD t0 t3.toNat b8).Kind)=3))=true then
      (F.s_l9IsE (((List.getD t0 t3.toNat b8).Pat).Op)).bind fun(r36:Bool×Unit) =>
      if r36.1=true then
       (F.s_l9Node ((List.getD t0 t3.toNat b8).Pat)).bind fun(r37:Bool×Unit) =>
       if r37.1=true then
        (F.s_Deep ((List.getD t0 t3.toNat b8).Pat)).bind fun(r38:Int×Unit) =>
        if(!(decide (r38.1≤16)))=true then
         some (false,())
        else
         if(!(decide ((((List.getD t0 t3.toNat b8).Body).Op)=29)))=true then
          some (false,())
         else
          (F.s_Deep ((List.getD t0 t3.toNat b8).Body)).bind fun(r39:Int×Unit) =>
          if(decide (r39.1>16))=true then
           some (false,())
          else
           (F.s_l9Node ((List.getD t0 t3.toNat b8).Body)).bind fun(r40:Bool×Unit) =>
           if(!r40.1)=true then
            some (false,())
           else
            F.s_Tidy_L1 t0 (w64 (t3+1))
       else
        some (false,())
      else
       some (false,())
     else
      some (false,())
    else
     if(decide (((List.getD t0 t3.toNat b8).Kind)=3))=true then
      (F.s_l9IsE (((List.getD t0 t3.toNat b8).Pat).Op)).bind fun(r41:Bool×Unit) =>
      if r41.1=true then
       (F.s_l9Node ((List.getD t0 t3.toNat b8).Pat)).bind fun(r42:Bool×Unit) =>
       if r42.1=true then
        (F.s_Deep ((List.getD t0 t3.toNat b8).Pat)).bind fun(r43:Int×Unit) =>
        if(!(decide (r43.1≤16)))=true then
         some (false,())
        else
         if(!(decide ((((List.getD t0 t3.toNat b8).Body).Op)=29)))=true then
          some (false,())
         else
          (F.s_Deep ((List.getD t0 t3.toNat b8).Body)).bind fun(r44:Int×Unit) =>
          if(decide (r44.1>16))=true then
           some (false,())
          else
           (F.s_l9Node ((List.getD t0 t3.toNat b8).Body)).bind fun(r45:Bool×Unit) =>
           if(!r45.1)=true then
            some (false,())
           else
            F.s_Tidy_L1 t0 (w64 (t3+1))
       else
        some (false,())
      else
       some (false,())
     else
      some (false,())
  else none
 else
  some (true,())
def mO(F:FsBuild)(t0:bv):Option (Bool×Unit) :=
 if(decide (t0.Op=6))=true then
  some (true,())
 else
  if(decide (t0.Op=7))=true then
   some (true,())
  else
   if(decide (t0.Op=8))=true then
    some (true,())
   else
    if(decide (t0.Op=33))=true then
     some (true,())
    else
     if(decide (t0.Op=3))=true then
      some (true,())
     else
      F.s_l10Line_L1 0 t0
def mP(F:FsBuild)(t3:Int)(s16:bv):Option (Bool×Unit) :=
 if(decide (t3<(List.length s16.Kids:Int)))=true then
  if(decide (s16.Op=21))=true then
   if(decide (t3=1))=true then
    if(0:Int)≤t3∧t3<(List.length s16.Kids:Int) then
     if(decide (((List.getD s16.Kids t3.toNat ct).Op)=3))=true then
      F.s_l10Line_L1 (w64 (t3+1)) s16
     else
      if(0:Int)≤t3∧t3<(List.length s16.Kids:Int) then
       (F.s_l10Line (List.getD s16.Kids t3.toNat ct)).bind fun(r0:Bool×Unit) =>
       if r0.1=true then
        some (true,())
       else
        F.s_l10Line_L1 (w64 (t3+1)) s16
      else none
    else none
   else
    if(0:Int)≤t3∧t3<(List.length s16.Kids:Int) then
     (F.s_l10Line (List.getD s16.Kids t3.toNat ct)).bind fun(r1:Bool×Unit) =>
     if r1.1=true then
      some (true,())
     else
      F.s_l10Line_L1 (w64 (t3+1)) s16
    else none
  else
   if(0:Int)≤t3∧t3<(List.length s16.Kids:Int) then
    (F.s_l10Line (List.getD s16.Kids t3.toNat ct)).bind fun(r2:Bool×Unit) =>
    if r2.1=true then
     some (true,())
    else
     F.s_l10Line_L1 (w64 (t3+1)) s16
   else none
 else
  some (false,())
def mL(F:FsBuild)(t0:bv):Option (Bool×Unit) :=
 if(decide (t0.Op=28))=true then
  if(decide (t0.S=[105,110,100,101,120]))=true then
   if(!(decide ((List.length t0.Kids:Int)=2)))=true then
    some (false,())
   else
    F.s_l10Args_L1 (List.length t0.Kids:Int) t0
  else
   if(decide (t0.S=[115,117,98,115,116,114]))=true then
    if(!(decide ((List.length t0.Kids:Int)=2)))=true then
     if(!(decide ((List.length t0.Kids:Int)=3)))=true then
      some (false,())
     else
      F.s_l10Args_L1 (List.length t0.Kids:Int) t0
    else
     F.s_l10Args_L1 (List.length t0.Kids:Int) t0
   else
    if(!(decide ((List.length t0.Kids:Int)=1)))=true then
     some (false,())
    else
     F.s_l10Args_L1 (List.length t0.Kids:Int) t0
 else
  F.s_l10Args_L1 (List.length t0.Kids:Int) t0
def mM(F:FsBuild)(t3:Int)(s16:bv):Option (Bool×Unit) :=
 F.s_l10Args_L2 t3 0 s16
def mN(F:FsBuild)(t3:Int)(t4:Int)(s16:bv):Option (Bool×Unit) :=
 if(decide (t4<t3))=true then
  if(0:Int)≤t4∧t4<(List.length s16.Kids:Int) then
   (F.s_l10Args (List.getD s16.Kids t4.toNat ct)).bind fun(r0:Bool×Unit) =>
   if(!r0.1)=true then
    some (false,())
   else
    F.s_l10Args_L2 t3 (w64 (t4+1)) s16
  else none
 else
  some (true,())
def mV(F:FsBuild)(t0:bv):Option (Bool×Unit) :=
 if(decide (t0.Op=3))=true then
  (F.s_RexParse t0.S).bind fun(r0:bC×Bool×Unit) =>
  some (r0.2.1,())
 else
  if(decide (t0.Op=21))=true then
   if(0:Int)≤1∧(1:Int)<(List.length t0.Kids:Int) then
    if(!(decide (((List.getD t0.Kids 1 ct).Op)=3)))=true then
     some (false,())
    else
     F.s_l10Rexes_L1 0 t0
   else none
  else
   F.s_l10Rexes_L1 0 t0
def mW(F:FsBuild)(t5:Int)(s16:bv):Option (Bool×Unit) :=
 if(decide (t5<(List.length s16.Kids:Int)))=true then
  if(0:Int)≤t5∧t5<(List.length s16.Kids:Int) then
   (F.s_l10Rexes (List.getD s16.Kids t5.toNat ct)).bind fun(r0:Bool×Unit) =>
   if(!r0.1)=true then
    some (false,())
   else
    F.s_l10Rexes_L1 (w64 (t5+1)) s16
  else none
 else
  some (true,())
def mQ(F:FsBuild)(t0:bv)(t1:(List (List Int)))(t2:(List (List Int))):Option ((List (List Int))×(List (List Int))×Unit) :=
 if(decide (t0.Op=4))=true then
  (F.s_l10Put t1 t0.S).bind fun(r0:(List (List Int))×Unit) =>
  F.s_l10Names_L1 r0.1 t2 t0
 else
  if(decide (t0.Op=5))=true then
   if(decide (t0.Op=5))=true then
    (F.s_l10Put t2 t0.S).bind fun(r1:(List (List Int))×Unit) =>
    F.s_l10Names_L1 t1 r1.1 t0
   else
    F.s_l10Names_L1 t1 t2 t0
  else
   if(decide (t0.Op=34))=true then
    (F.s_l10Put t2 t0.S).bind fun(r2:(List (List Int))×Unit) =>
    F.s_l10Names_L1 t1 r2.1 t0
   else
    F.s_l10Names_L1 t1 t2 t0
def mR(F:FsBuild)(t1:(List (List Int)))(t2:(List (List Int)))(s48:bv):Option ((List (List Int))×(List (List Int))×Unit) :=
 F.s_l10Names_L2 t1 t2 0 s48
def mS(F:FsBuild)(t1:(List (List Int)))(t2:(List (List Int)))(t8:Int)(s48:bv):Option ((List (List Int))×(List (List Int))×Unit) :=
 if(decide (t8<(List.length s48.Kids:Int)))=true then
  if(0:Int)≤t8∧t8<(List.length s48.Kids:Int) then
   (F.s_l10Names (List.getD s48.Kids t8.toNat ct) t1 t2).bind fun(r0:(List (List Int))×(List (List Int))×Unit) =>
   F.s_l10Names_L2 r0.1 r0.2.1 (w64 (t8+1)) s48
  else none
 else
  some (t1,t2,())
def nz(F:FsBuild)(s0_0:(List (List Int)))(s0_1:(List (List Int)))(s0_2:(List bw))(t1:bv):Option (((List (List Int))×((List (List Int))×((List bw)×Unit)))×Unit) :=
 if(decide (t1.Op=29))=true then
  (F.s_l14Block s0_0 s0_1 s0_2 t1).bind fun(r0:((List (List Int))×((List (List Int))×((List bw)×Unit)))×Unit) =>
  some ((r0.1.1,(r0.1.2.1,(r0.1.2.2.1,()))),())
 else
  if(decide (t1.Op=30))=true then
   (F.s_l14Print s0_0 s0_1 s0_2 t1).bind fun(r1:((List (List Int))×((List (List Int))×((List bw)×Unit)))×Unit) =>
   some ((r1.1.1,(r1.1.2.1,(r1.1.2.2.1,()))),())
  else
   if(decide (t1.Op=31))=true then
    (F.s_l14If s0_0 s0_1 s0_2 t1).bind fun(r2:((List (List Int))×((List (List Int))×((List bw)×Unit)))×Unit) =>
    some ((r2.1.1,(r2.1.2.1,(r2.1.2.2.1,()))),())
   else
    if(decide (t1.Op=32))=true then
     (F.s_l14While s0_0 s0_1 s0_2 t1).bind fun(r3:((List (List Int))×((List (List Int))×((List bw)×Unit)))×Unit) =>
     some ((r3.1.1,(r3.1.2.1,(r3.1.2.2.1,()))),())
    else
     if(decide (t1.Op=33))=true then
      (F.s_l14Put s0_0 s0_1 s0_2 36 0 []).bind fun(r4:Int×((List (List Int))×((List (List Int))×((List bw)×Unit)))×Unit) =>
      some ((r4.2.1.1,(r4.2.1.2.1,(r4.2.1.2.2.1,()))),())
     else
      if(decide (t1.Op=34))=true then
       if(0:Int)≤0∧(0:Int)<(List.length t1.Kids:Int) then
        (F.s_l14E s0_0 s0_1 s0_2 (List.getD t1.Kids 0 ct)).bind fun(r5:((List (List Int))×((List (List Int))×((List bw)×Unit)))×Unit) =>
        (F.s_l12Where r5.1.2.1 t1.S).bind fun(r6:Int×Unit) =>
        (F.s_l14Put r5.1.1 r5.1.2.1 r5.1.2.2.1 35 r6.1 []).bind fun(r7:Int×((List (List Int))×((List (List Int))×((List bw)×Unit)))×Unit) =>
        some ((r7.2.1.1,(r7.2.1.2.1,(r7.2.1.2.2.1,()))),())
       else none
      else
       if(0:Int)≤0∧(0:Int)<(List.length t1.Kids:Int) then
        (F.s_l14E s0_0 s0_1 s0_2 (List.getD t1.Kids 0 ct)).bind fun(r8:((List (List Int))×((List (List Int))×((List bw)×Unit)))×Unit) =>
        (F.s_l14Put r8.1.1 r8.1.2.1 r8.1.2.2.1 32 0 []).bind fun(r9:Int×((List (List Int))×((List (List Int))×((List bw)×Unit)))×Unit) =>
        some ((r9.2.1.1,(r9.2.1.2.1,(r9.2.1.2.2.1,()))),())
       else none
def ny(F:FsBuild)(s0_0:(List (List Int)))(s0_1:(List (List Int)))(s0_2:(List bw))(t1:bv):Option (((List (List Int))×((List (List Int))×((List bw)×Unit)))×Unit) :=
 if(0:Int)≤0∧(0:Int)<(List.length t1.Kids:Int) then
  (F.s_l1Bit (decide (t1.Op=27))).bind fun(r0:Int×Unit) =>
  if(decide (((List.getD t1.Kids 0 ct).Op)=4))=true then
   if(0:Int)≤1∧(1:Int)<(List.length t1.Kids:Int) then
    (F.s_l14E s0_0 s0_1 s0_2 (List.getD t1.Kids 1 ct)).bind fun(r1:((List (List Int))×((List (List Int))×((List bw)×Unit)))×Unit) =>
    (F.s_l12Where r1.1.1 ((List.getD t1.Kids 0 ct).S)).bind fun(r2:Int×Unit) =>
    (F.s_l14Put r1.1.1 r1.1.2.1 r1.1.2.2.1 (w64 (4+r0.1)) r2.1 []).bind fun(r3:Int×((List (List Int))×((List (List Int))×((List bw)×Unit)))×Unit) =>
    some ((r3.2.1.1,(r3.2.1.2.1,(r3.2.1.2.2.1,()))),())
   else none
  else
   if(0:Int)≤0∧(0:Int)<(List.length ((List.getD t1.Kids 0 ct).Kids):Int) then
    (F.s_l14E s0_0 s0_1 s0_2 (List.getD ((List.getD t1.Kids 0 ct).Kids) 0 ct)).bind fun(r4:((List (List Int))×((List (List Int))×((List bw)×Unit)))×Unit) =>
    if(0:Int)≤1∧(1:Int)<(List.length t1.Kids:Int) then
     (F.s_l14E r4.1.1 r4.1.2.1 r4.1.2.2.1 (List.getD t1.Kids 1 ct)).bind fun(r5:((List (List Int))×((List (List Int))×((List bw)×Unit)))×Unit) =>
     (F.s_l12Where r5.1.2.1 ((List.getD t1.Kids 0 ct).S)).bind fun(r6:Int×Unit) =>
     (F.s_l14Put r5.1.1 r5.1.2.1 r5.1.2.2.1 (w64 (7+r0.1)) r6.1 []).bind fun(r7:Int×((List (List Int))×((List (List Int))×((List bw)×Unit)))×Unit) =>
     some ((r7.2.1.1,(r7.2.1.2.1,(r7.2.1.2.2.1,()))),())
    else none
   else none
 else none
def nb(F:FsBuild)(s0_0:(List (List Int)))(s0_1:(List (List Int)))(s0_2:(List bw))(t1:bv):Option (((List (List Int))×((List (List Int))×((List bw)×Unit)))×Unit) :=
 if(0:Int)≤0∧(0:Int)<(List.length t1.Kids:Int) then
  (F.s_l14E s0_0 s0_1 s0_2 (List.getD t1.Kids 0 ct)).bind fun(r0:((List (List Int))×((List (List Int))×((List bw)×Unit)))×Unit) =>
  (F.s_l14Put r0.1.1 r0.1.2.1 r0.1.2.2.1 31 0 []).bind fun(r1:Int×((List (List Int))×((List (List Int))×((List bw)×Unit)))×Unit) =>
  if(0:Int)≤1∧(1:Int)<(List.length t1.Kids:Int) then
   (F.s_l14E r1.2.1.1 r1.2.1.2.1 r1.2.1.2.2.1 (List.getD t1.Kids 1 ct)).bind fun(r2:((List (List Int))×((List (List Int))×((List bw)×Unit)))×Unit) =>
   (F.s_l14Put r2.1.1 r2.1.2.1 r2.1.2.2.1 28 0 []).bind fun(r3:Int×((List (List Int))×((List (List Int))×((List bw)×Unit)))×Unit) =>
   (F.s_l14Put r3.2.1.1 r3.2.1.2.1 r3.2.1.2.2.1 30 0 []).bind fun(r4:Int×((List (List Int))×((List (List Int))×((List bw)×Unit)))×Unit) =>
   if(0:Int)≤r1.1∧r1.1<(List.length r4.2.1.2.2.1:Int) then
    let v0:(List bw):=(List.set r4.2.1.2.2.1 r1.1.toNat (bw.mk ((List.getD r4.2.1.2.2.1 r1.1.toNat dI).Code) (List.length r4.2.1.2.2.1:Int) ((List.getD r4.2.1.2.2.1 r1.1.toNat dI).S)))
    (F.s_l14Put r4.2.1.1 r4.2.1.2.1 v0 1 0 []).bind fun(r5:Int×((List (List Int))×((List (List Int))×((List bw)×Unit)))×Unit) =>
    if(0:Int)≤r4.1∧r4.1<(List.length r5.2.1.2.2.1:Int) then
     let v1:(List bw):=(List.set r5.2.1.2.2.1 r4.1.toNat (bw.mk ((List.getD r5.2.1.2.2.1 r4.1.toNat dI).Code) (List.length r5.2.1.2.2.1:Int) ((List.getD r5.2.1.2.2.1 r4.1.toNat dI).S)))
     some ((r5.2.1.1,(r5.2.1.2.1,(v1,()))),())
    else none
   else none
  else none
 else none
def nq(F:FsBuild)(s0_0:(List (List Int)))(s0_1:(List (List Int)))(s0_2:(List bw))(t1:bv):Option (((List (List Int))×((List (List Int))×((List bw)×Unit)))×Unit) :=
 if(0:Int)≤0∧(0:Int)<(List.length t1.Kids:Int) then
  (F.s_l14E s0_0 s0_1 s0_2 (List.getD t1.Kids 0 ct)).bind fun(r0:((List (List Int))×((List (List Int))×((List bw)×Unit)))×Unit) =>
  (F.s_l14Put r0.1.1 r0.1.2.1 r0.1.2.2.1 31 0 []).bind fun(r1:Int×((List (List Int))×((List (List Int))×((List bw)×Unit)))×Unit) =>
  (F.s_l14Put r1.2.1.1 r1.2.1.2.1 r1.2.1.2.2.1 1 1000000 []).bind fun(r2:Int×((List (List Int))×((List (List Int))×((List bw)×Unit)))×Unit) =>
  (F.s_l14Put r2.2.1.1 r2.2.1.2.1 r2.2.1.2.2.1 30 0 []).bind fun(r3:Int×((List (List Int))×((List (List Int))×((List bw)×Unit)))×Unit) =>
  if(0:Int)≤r1.1∧r1.1<(List.length r3.2.1.2.2.1:Int) then
   let v0:(List bw):=(List.set r3.2.1.2.2.1 r1.1.toNat (bw.mk ((List.getD r3.2.1.2.2.1 r1.1.toNat dI).Code) (List.length r3.2.1.2.2.1:Int) ((List.getD r3.2.1.2.2.1 r1.1.toNat dI).S)))
   if(0:Int)≤1∧(1:Int)<(List.length t1.Kids:Int) then
    (F.s_l14E r3.2.1.1 r3.2.1.2.1 v0 (List.getD t1.Kids 1 ct)).bind fun(r4:((List (List Int))×((List (List Int))×((List bw)×Unit)))×Unit) =>
    (F.s_l14Put r4.1.1 r4.1.2.1 r4.1.2.2.1 28 0 []).bind fun(r5:Int×((List (List Int))×((List (List Int))×((List bw)×Unit)))×Unit) =>
    if(0:Int)≤r3.1∧r3.1<(List.length r5.2.1.2.2.1:Int) then
     let v1:(List bw):=(List.set r5.2.1.2.2.1 r3.1.toNat (bw.mk ((List.getD r5.2.1.2.2.1 r3.1.toNat dI).Code) (List.length r5.2.1.2.2.1:Int) ((List.getD r5.2.1.2.2.1 r3.1.toNat dI).S)))
     some ((r5.2.1.1,(r5.2.1.2.1,(v1,()))),())
    else none
   else none
  else none
 else none
def nn(F:FsBuild)(s0_0:(List (List Int)))(s0_1:(List (List Int)))(s0_2:(List bw))(t1:bv):Option (((List (List Int))×((List (List Int))×((List bw)×Unit)))×Unit) :=
 if(decide (t1.Op=1))=true then
  (F.s_l14Put s0_0 s0_1 s0_2 1 t1.N []).bind fun(r0:Int×((List (List Int))×((List (List Int))×((List bw)×Unit)))×Unit) =>
  some ((r0.2.1.1,(r0.2.1.2.1,(r0.2.1.2.2.1,()))),())
 else
  if(decide (t1.Op=2))=true then
   (F.s_l14Put s0_0 s0_1 s0_2 2 0 t1.S).bind fun(r1:Int×((List (List Int))×((List (List Int))×((List bw)×Unit)))×Unit) =>
   some ((r1.2.1.1,(r1.2.1.2.1,(r1.2.1.2.2.1,()))),())
  else
   if(decide (t1.Op=3))=true then
    (F.s_l14Put s0_0 s0_1 s0_2 25 0 t1.S).bind fun(r2:Int×((List (List Int))×((List (List Int))×((List bw)×Unit)))×Unit) =>
    some ((r2.2.1.1,(r2.2.1.2.1,(r2.2.1.2.2.1,()))),())
   else
    if(decide (t1.Op=4))=true then
     (F.s_l12Where s0_0 t1.S).bind fun(r3:Int×Unit) =>
     (F.s_l14Put s0_0 s0_1 s0_2 3 r3.1 []).bind fun(r4:Int×((List (List Int))×((List (List Int))×((List bw)×Unit)))×Unit) =>
     some ((r4.2.1.1,(r4.2.1.2.1,(r4.2.1.2.2.1,()))),())
    else
     if(decide (t1.Op=5))=true then
      (F.s_l12Where s0_1 t1.S).bind fun(r5:Int×Unit) =>
      (F.s_l14Put s0_0 s0_1 s0_2 6 r5.1 []).bind fun(r6:Int×((List (List Int))×((List (List Int))×((List bw)×Unit)))×Unit) =>
      some ((r6.2.1.1,(r6.2.1.2.1,(r6.2.1.2.2.1,()))),())
     else
      if(decide (t1.Op=6))=true then
       (F.s_l14Put s0_0 s0_1 s0_2 9 0 []).bind fun(r7:Int×((List (List Int))×((List (List Int))×((List bw)×Unit)))×Unit) =>
       some ((r7.2.1.1,(r7.2.1.2.1,(r7.2.1.2.2.1,()))),())
      else
       if(decide (t1.Op=7))=true then
        (F.s_l14Put s0_0 s0_1 s0_2 10 0 []).bind fun(r8:Int×((List (List Int))×((List (List Int))×((List bw)×Unit)))×Unit) =>
        some ((r8.2.1.1,(r8.2.1.2.1,(r8.2.1.2.2.1,()))),())
       else
        if(decide (t1.Op=8))=true then
         (F.s_l14Put s0_0 s0_1 s0_2 11 0 []).bind fun(r9:Int×((List (List Int))×((List (List Int))×((List bw)×Unit)))×Unit) =>
         some ((r9.2.1.1,(r9.2.1.2.1,(r9.2.1.2.2.1,()))),())
        else
         if(decide (t1.Op=22))=true then
          (F.s_l14Put s0_0 s0_1 s0_2 26 0 []).bind fun(r10:Int×((List (List Int))×((List (List Int))×((List bw)×Unit)))×Unit) =>
          some ((r10.2.1.1,(r10.2.1.2.1,(r10.2.1.2.2.1,()))),())
         else
          if(decide (t1.Op=23))=true then
           (F.s_l14Put s0_0 s0_1 s0_2 27 0 []).bind fun(r11:Int×((List (List Int))×((List (List Int))×((List bw)×Unit)))×Unit) =>
           some ((r11.2.1.1,(r11.2.1.2.1,(r11.2.1.2.2.1,()))),())
          else
           if(decide (t1.Op=28))=true then
            (F.s_l14Put s0_0 s0_1 s0_2 29 (List.length t1.Kids:Int) t1.S).bind fun(r12:Int×((List (List Int))×((List (List Int))×((List bw)×Unit)))×Unit) =>
            some ((r12.2.1.1,(r12.2.1.2.1,(r12.2.1.2.2.1,()))),())
           else
            (F.s_l14Put s0_0 s0_1 s0_2 (w64 ((w64 (12+t1.Op))-9)) 0 []).bind fun(r13:Int×((List (List Int))×((List (List Int))×((List bw)×Unit)))×Unit) =>
            some ((r13.2.1.1,(r13.2.1.2.1,(r13.2.1.2.2.1,()))),())
def om(F:FsBuild) :Option ((List (List Int))×Unit) :=
 some ([[108,101,110,103,116,104],[115,117,98,115,116,114],[105,110,100,101,120],[105,110,116],[117,112,112,101,114],[108,111,119,101,114]],())
def mn(F:FsBuild)(t0:Int):Option (Bool×Unit) :=
 (F.s_l1In t0 (-9000000000000) 9000000000000).bind fun(r0:Bool×Unit) =>
 some (r0.1,())
def mF(F:FsBuild)(t0:(List Int)):Option (bC×Bool×Unit) :=
 if(decide ((List.length t0:Int)>60))=true then
  some ((bC.mk 0 0 [] false []),false,())
 else
  (F.s_l3Pattern (bN.mk t0 0 false) 0).bind fun(r0:bC×bN×Unit) =>
  if r0.2.1.bad=true then
   some ((bC.mk 0 0 [] false []),false,())
  else
   if(!(decide (r0.2.1.at_=(List.length t0:Int))))=true then
    some ((bC.mk 0 0 [] false []),false,())
   else
    (F.s_l3Deep r0.1).bind fun(r1:Int×Unit) =>
    if(decide (r1.1>12))=true then
     some ((bC.mk 0 0 [] false []),false,())
    else
     some (r0.1,true,())
def nE(F:FsBuild)(t0:Int):Option (Bool×Unit) :=
 if(decide (t0≥48))=true then
  some ((decide (t0≤57)),())
 else
  some (false,())
def oq(F:FsBuild)(t0:(List Int))(t1:Int):Option (Int×Int×Bool×Unit) :=
 F.s_l7Number_L1 t0 t1 t1
def ot(F:FsBuild)(t0:(List Int))(t1:Int)(t7:Int):Option (Int×Int×Bool×Unit) :=
 if(decide (t7<(List.length t0:Int)))=true then
  if(0:Int)≤t7∧t7<(List.length t0:Int) then
   (F.s_l2Digit (List.getD t0 t7.toNat 0)).bind fun(r0:Bool×Unit) =>
   if r0.1=true then
    F.s_l7Number_L1 t0 t1 (w64 (t7+1))
   else
    if(decide ((w64 (t7+1))<(List.length t0:Int)))=true then
     if(0:Int)≤t7∧t7<(List.length t0:Int) then
      if(decide ((List.getD t0 t7.toNat 0)=46))=true then
       if(0:Int)≤(w64 (t7+1))∧(w64 (t7+1))<(List.length t0:Int) then
        (F.s_l2Digit (List.getD t0 (w64 (t7+1)).toNat 0)).bind fun(r1:Bool×Unit) =>
        if r1.1=true then
         F.s_l7Number_L2 t0 t1 (w64 (t7+1)) t7
        else
         F.s_l7Number_L3 t0 t1 t7
       else none
      else
       F.s_l7Number_L3 t0 t1 t7
     else none
    else
     F.s_l7Number_L3 t0 t1 t7
  else none
 else
  if(decide ((w64 (t7+1))<(List.length t0:Int)))=true then
   if(0:Int)≤t7∧t7<(List.length t0:Int) then
    if(decide ((List.getD t0 t7.toNat 0)=46))=true then
     if(0:Int)≤(w64 (t7+1))∧(w64 (t7+1))<(List.length t0:Int) then
      (F.s_l2Digit (List.getD t0 (w64 (t7+1)).toNat 0)).bind fun(r2:Bool×Unit) =>
      if r2.1=true then
       F.s_l7Number_L2 t0 t1 (w64 (t7+1)) t7
      else
       F.s_l7Number_L3 t0 t1 t7
     else none
    else
     F.s_l7Number_L3 t0 t1 t7
   else none
  else
   F.s_l7Number_L3 t0 t1 t7
def ou(F:FsBuild)(t0:(List Int))(t1:Int)(t7:Int)(t8:Int):Option (Int×Int×Bool×Unit) :=
 if(decide (t7<(List.length t0:Int)))=true then
  if(0:Int)≤t7∧t7<(List.length t0:Int) then
   (F.s_l2Digit (List.getD t0 t7.toNat 0)).bind fun(r0:Bool×Unit) =>
   if r0.1=true then
    F.s_l7Number_L2 t0 t1 (w64 (t7+1)) t8
   else
    if(decide ((w64 (t7-t8))>7))=true then
     some (0,t7,false,())
    else
     F.s_l7Number_L3 t0 t1 t7
  else none
 else
  if(decide ((w64 (t7-t8))>7))=true then
   some (0,t7,false,())
  else
   F.s_l7Number_L3 t0 t1 t7
def ov(F:FsBuild)(t0:(List Int))(t1:Int)(t7:Int):Option (Int×Int×Bool×Unit) :=
 if(0:Int)≤t1∧t1≤t7∧t7≤(List.length t0:Int) then
  (F.s_DecFront (List.take (t7.toNat-t1.toNat) (List.drop t1.toNat t0))).bind fun(r0:Int×Int×Unit) =>
  some (r0.1,t7,(decide (r0.2.1=(w64 (t7-t1)))),())
 else none
def oC(F:FsBuild)(t0:(List Int))(t1:Int):Option ((List Int)×Int×Bool×Unit) :=
 F.s_l7Text_L1 t0 [] (w64 (t1+1))
def oD(F:FsBuild)(t0:(List Int))(t7:(List Int))(t8:Int):Option ((List Int)×Int×Bool×Unit) :=
 if(decide (t8<(List.length t0:Int)))=true then
  if(0:Int)≤t8∧t8<(List.length t0:Int) then
   if(decide ((List.getD t0 t8.toNat 0)=34))=true then
    some (t7,(w64 (t8+1)),true,())
   else
    if(decide ((List.getD t0 t8.toNat 0)=10))=true then
     some ([],0,false,())
    else
     if(decide ((List.getD t0 t8.toNat 0)=92))=true then
      if(decide ((w64 (t8+1))≥(List.length t0:Int)))=true then
       some ([],0,false,())
      else
       if(0:Int)≤(w64 (t8+1))∧(w64 (t8+1))<(List.length t0:Int) then
        if(decide ((List.getD t0 (w64 (t8+1)).toNat 0)=10))=true then
         some ([],0,false,())
        else
         if(0:Int)≤(w64 (t8+1))∧(w64 (t8+1))<(List.length t0:Int) then
          if List.length t7+1≤room then
           F.s_l7Text_L1 t0 (List.append t7 [(List.getD t0 (w64 (t8+1)).toNat 0)]) (w64 ((w64 (t8+1))+1))
          else none
         else none
       else none
     else
      if(0:Int)≤t8∧t8<(List.length t0:Int) then
       if List.length t7+1≤room then
        F.s_l7Text_L1 t0 (List.append t7 [(List.getD t0 t8.toNat 0)]) (w64 (t8+1))
       else none
      else none
  else none
 else
  some ([],0,false,())
def ol(F:FsBuild)(t0:(List bF)):Option (Bool×Unit) :=
 if(decide ((List.length t0:Int)=0))=true then
  some (false,())
 else
  if(0:Int)≤(w64 ((List.length t0:Int)-1))∧(w64 ((List.length t0:Int)-1))<(List.length t0:Int) then
   if(decide (((List.getD t0 (w64 ((List.length t0:Int)-1)).toNat iS).Kind)=5))=true then
    if(decide (((List.getD t0 (w64 ((List.length t0:Int)-1)).toNat iS).Text)=[41]))=true then
     some (true,())
    else
     if(decide (((List.getD t0 (w64 ((List.length t0:Int)-1)).toNat iS).Text)=[93]))=true then
      some (true,())
     else
      (F.s_l1In ((List.getD t0 (w64 ((List.length t0:Int)-1)).toNat iS).Kind) 1 4).bind fun(r0:Bool×Unit) =>
      some (r0.1,())
   else
    (F.s_l1In ((List.getD t0 (w64 ((List.length t0:Int)-1)).toNat iS).Kind) 1 4).bind fun(r1:Bool×Unit) =>
    some (r1.1,())
  else none
def oy(F:FsBuild)(t0:(List Int))(t1:Int):Option ((List Int)×Int×Bool×Unit) :=
 F.s_l7Rex_L1 t0 [] (w64 (t1+1))
def oz(F:FsBuild)(t0:(List Int))(t7:(List Int))(t8:Int):Option ((List Int)×Int×Bool×Unit) :=
 if(decide (t8<(List.length t0:Int)))=true then
  if(0:Int)≤t8∧t8<(List.length t0:Int) then
   if(decide ((List.getD t0 t8.toNat 0)=47))=true then
    some (t7,(w64 (t8+1)),true,())
   else
    if(decide ((List.getD t0 t8.toNat 0)=10))=true then
     some ([],0,false,())
    else
     if(decide ((List.getD t0 t8.toNat 0)=92))=true then
      if(decide ((w64 (t8+1))≥(List.length t0:Int)))=true then
       some ([],0,false,())
      else
       if(0:Int)≤(w64 (t8+1))∧(w64 (t8+1))<(List.length t0:Int) then
        if(decide ((List.getD t0 (w64 (t8+1)).toNat 0)=10))=true then
         some ([],0,false,())
        else
         if(0:Int)≤(w64 (t8+1))∧(w64 (t8+1))<(List.length t0:Int) then
          if(!(decide ((List.getD t0 (w64 (t8+1)).toNat 0)=47)))=true then
           if(0:Int)≤t8∧t8<(List.length t0:Int) then
            if List.length t7+1≤room then
             if(0:Int)≤(w64 (t8+1))∧(w64 (t8+1))<(List.length t0:Int) then
              if List.length (List.append t7 [(List.getD t0 t8.toNat 0)])+1≤room then
               F.s_l7Rex_L1 t0 (List.append (List.append t7 [(List.getD t0 t8.toNat 0)]) [(List.getD t0 (w64 (t8+1)).toNat 0)]) (w64 ((w64 (t8+1))+1))
              else none
             else none
            else none
           else none
          else
           if(0:Int)≤(w64 (t8+1))∧(w64 (t8+1))<(List.length t0:Int) then
            if List.length t7+1≤room then
             F.s_l7Rex_L1 t0 (List.append t7 [(List.getD t0 (w64 (t8+1)).toNat 0)]) (w64 ((w64 (t8+1))+1))
            else none
           else none
         else none
       else none
     else
      if(0:Int)≤t8∧t8<(List.length t0:Int) then
       if List.length t7+1≤room then
        F.s_l7Rex_L1 t0 (List.append t7 [(List.getD t0 t8.toNat 0)]) (w64 (t8+1))
       else none
      else none
  else none
 else
  some ([],0,false,())
def oA(F:FsBuild)(t0:(List Int))(t1:Int):Option ((List Int)×Unit) :=
 F.s_l7Sign_L1 t0 t1 [[61,61],[33,61],[60,61],[62,61],[38,38],[124,124],[43,61],[33,126],[40],[41],[123],[125],[91],[93],[44],[59],[61],[60],[62],[33],[126],[43],[45],[42],[47],[37],[36]] 0
def oB(F:FsBuild)(t0:(List Int))(t1:Int)(t5:(List (List Int)))(t6:Int):Option ((List Int)×Unit) :=
 if(decide (t6<(List.length t5:Int)))=true then
  if(0:Int)≤t6∧t6<(List.length t5:Int) then
   if(decide ((w64 (t1+(List.length (List.getD t5 t6.toNat []):Int)))≤(List.length t0:Int)))=true then
    if(0:Int)≤t1∧t1≤(w64 (t1+(List.length (List.getD t5 t6.toNat []):Int)))∧(w64 (t1+(List.length (List.getD t5 t6.toNat []):Int)))≤(List.length t0:Int) then
     if(0:Int)≤t6∧t6<(List.length t5:Int) then
      if(decide ((List.take ((w64 (t1+(List.length (List.getD t5 t6.toNat []):Int))).toNat-t1.toNat) (List.drop t1.toNat t0))=(List.getD t5 t6.toNat [])))=true then
       if(0:Int)≤t6∧t6<(List.length t5:Int) then
        some ((List.getD t5 t6.toNat []),())
       else none
      else
       F.s_l7Sign_L1 t0 t1 t5 (w64 (t6+1))
     else none
    else none
   else
    F.s_l7Sign_L1 t0 t1 t5 (w64 (t6+1))
  else none
 else
  some ([],())
def pd(F:FsBuild)(s0:bO)(t1:(List Int)):Option (bO×Unit) :=
 (F.s_l8Sign s0 t1).bind fun(r0:Bool×bO×Unit) =>
 if(!r0.1)=true then
  (F.s_l8Bad r0.2.1).bind fun(r1:bO×Unit) =>
  some (r1.1,())
 else
  (F.s_l8Next r0.2.1).bind fun(r2:bO×Unit) =>
  some (r2.1,())
def pc(F:FsBuild)(s0:bO):Option (bv×bO×Unit) :=
 (F.s_l8Is s0 [105,102]).bind fun(r0:Bool×bO×Unit) =>
 if r0.1=true then
  (F.s_l8While r0.2.1 31).bind fun(r1:bv×bO×Unit) =>
  some (r1.1,r1.2.1,())
 else
  (F.s_l8Is r0.2.1 [119,104,105,108,101]).bind fun(r2:Bool×bO×Unit) =>
  if r2.1=true then
   (F.s_l8While r2.2.1 32).bind fun(r3:bv×bO×Unit) =>
   some (r3.1,r3.2.1,())
  else
   (F.s_l8Sign r2.2.1 [123]).bind fun(r4:Bool×bO×Unit) =>
   if r4.1=true then
    (F.s_l8Block r4.2.1).bind fun(r5:bv×bO×Unit) =>
    some (r5.1,r5.2.1,())
   else
    (F.s_l8Simple r4.2.1).bind fun(r6:bv×bO×Unit) =>
    (F.s_l8Sign r6.2.1 [125]).bind fun(r7:Bool×bO×Unit) =>
    if(!r7.1)=true then
     (F.s_l8Take r7.2.1 [59]).bind fun(r8:bO×Unit) =>
     some (r6.1,r8.1,())
    else
     some (r6.1,r7.2.1,())
def o0(F:FsBuild)(s0:bO):Option (bv×bO×Unit) :=
 (F.s_l8Now s0).bind fun(r0:bF×bO×Unit) =>
 (F.s_l8Is r0.2.1 [78,82]).bind fun(r1:Bool×bO×Unit) =>
 if r1.1=true then
  (F.s_l8Next r1.2.1).bind fun(r2:bO×Unit) =>
  some ((bv.mk 7 0 [] []),r2.1,())
 else
  (F.s_l8Is r1.2.1 [78,70]).bind fun(r3:Bool×bO×Unit) =>
  if r3.1=true then
   (F.s_l8Next r3.2.1).bind fun(r4:bO×Unit) =>
   some ((bv.mk 8 0 [] []),r4.1,())
  else
   if(decide (r3.2.1.bad<0))=true then
    (F.s_l7Calls ).bind fun(r5:(List (List Int))×Unit) =>
    (F.s_l7Within r5.1 r0.1.Text).bind fun(r6:Bool×Unit) =>
    if r6.1=true then
     (F.s_l8Next r3.2.1).bind fun(r7:bO×Unit) =>
     (F.s_l8Take r7.1 [40]).bind fun(r8:bO×Unit) =>
     (F.s_l8Es r8.1 [41]).bind fun(r9:(List bv)×bO×Unit) =>
     (F.s_l8Take r9.2.1 [41]).bind fun(r10:bO×Unit) =>
     some ((bv.mk 28 0 r0.1.Text r9.1),r10.1,())
    else
     (F.s_l8Name r3.2.1).bind fun(r11:(List Int)×bO×Unit) =>
     (F.s_l8Sign r11.2.1 [91]).bind fun(r12:Bool×bO×Unit) =>
     if(!r12.1)=true then
      some ((bv.mk 4 0 r11.1 []),r12.2.1,())
     else
      (F.s_l8Next r12.2.1).bind fun(r13:bO×Unit) =>
      (F.s_l8E r13.1).bind fun(r14:bv×bO×Unit) =>
      (F.s_l8Take r14.2.1 [93]).bind fun(r15:bO×Unit) =>
      some ((bv.mk 5 0 r11.1 [r14.1]),r15.1,())
   else
    (F.s_l8Name r3.2.1).bind fun(r16:(List Int)×bO×Unit) =>
    (F.s_l8Sign r16.2.1 [91]).bind fun(r17:Bool×bO×Unit) =>
    if(!r17.1)=true then
     some ((bv.mk 4 0 r16.1 []),r17.2.1,())
    else
     (F.s_l8Next r17.2.1).bind fun(r18:bO×Unit) =>
     (F.s_l8E r18.1).bind fun(r19:bv×bO×Unit) =>
     (F.s_l8Take r19.2.1 [93]).bind fun(r20:bO×Unit) =>
     some ((bv.mk 5 0 r16.1 [r19.1]),r20.1,())
def oY(F:FsBuild)(s0:bO)(t1:Int):Option (bv×bO×Unit) :=
 if(decide (t1=3))=true then
  (F.s_l8Compare s0).bind fun(r0:bv×bO×Unit) =>
  some (r0.1,r0.2.1,())
 else
  if(decide (t1=4))=true then
   (F.s_l8Row s0).bind fun(r1:bv×bO×Unit) =>
   some (r1.1,r1.2.1,())
  else
   if(decide (t1=7))=true then
    (F.s_l8Unit s0).bind fun(r2:bv×bO×Unit) =>
    some (r2.1,r2.2.1,())
   else
    (F.s_l8Left s0 t1).bind fun(r3:bv×bO×Unit) =>
    some (r3.1,r3.2.1,())
def pz(F:FsBuild)(t0:bv):Option (Bool×Unit) :=
 (F.s_l9Kids t0).bind fun(r0:Bool×Unit) =>
 if(!r0.1)=true then
  some (false,())
 else
  (F.s_l1In t0.Op 1 35).bind fun(r1:Bool×Unit) =>
  if(!r1.1)=true then
   some (false,())
  else
   if(!(decide (t0.N=0)))=true then
    if(!(decide (t0.Op=1)))=true then
     some (false,())
    else
     if(decide (t0.Op=1))=true then
      if(decide (t0.S=[]))=true then
       (F.s_l1In t0.N 0 9000000000000).bind fun(r2:Bool×Unit) =>
       some (r2.1,())
      else
       some (false,())
     else
      if(decide (t0.Op=2))=true then
       (F.s_l9Line t0.S).bind fun(r3:Bool×Unit) =>
       some (r3.1,())
      else
       if(decide (t0.Op=3))=true then
        (F.s_l9Rex t0.S).bind fun(r4:Bool×Unit) =>
        some (r4.1,())
       else
        if(decide (t0.Op=4))=true then
         F.s_l9Node_L1 t0.Op (decide (t0.Op=4)) t0
        else
         if(decide (t0.Op=5))=true then
          F.s_l9Node_L1 t0.Op (decide (t0.Op=5)) t0
         else
          F.s_l9Node_L1 t0.Op (decide (t0.Op=34)) t0
   else
    if(decide (t0.Op=1))=true then
     if(decide (t0.S=[]))=true then
      (F.s_l1In t0.N 0 9000000000000).bind fun(r5:Bool×Unit) =>
      some (r5.1,())
     else
      some (false,())
    else
     if(decide (t0.Op=2))=true then
      (F.s_l9Line t0.S).bind fun(r6:Bool×Unit) =>
      some (r6.1,())
     else
      if(decide (t0.Op=3))=true then
       (F.s_l9Rex t0.S).bind fun(r7:Bool×Unit) =>
       some (r7.1,())
      else
       if(decide (t0.Op=4))=true then
        F.s_l9Node_L1 t0.Op (decide (t0.Op=4)) t0
       else
        if(decide (t0.Op=5))=true then
         F.s_l9Node_L1 t0.Op (decide (t0.Op=5)) t0
        else
         F.s_l9Node_L1 t0.Op (decide (t0.Op=34)) t0
def pA(F:FsBuild)(t23:Int)(t44:Bool)(s16:bv):Option (Bool×Unit) :=
 if t44=true then
  (F.s_l9Name s16.S).bind fun(r0:Bool×Unit) =>
  some (r0.1,())
 else
  if(decide (t23=28))=true then
   (F.s_l7Calls ).bind fun(r1:(List (List Int))×Unit) =>
   (F.s_l7Within r1.1 s16.S).bind fun(r2:Bool×Unit) =>
   some (r2.1,())
  else
   some ((decide (s16.S=[])),())
def pl(F:FsBuild)(t0:Int):Option (Bool×Unit) :=
 (F.s_l1In t0 1 28).bind fun(r0:Bool×Unit) =>
 some (r0.1,())
def mT(F:FsBuild)(t0:(List (List Int)))(t1:(List Int)):Option ((List (List Int))×Unit) :=
 (F.s_l7Within t0 t1).bind fun(r0:Bool×Unit) =>
 if r0.1=true then
  some (t0,())
 else
  F.s_l10Put_L1 t0 t1 0
def mU(F:FsBuild)(t0:(List (List Int)))(t1:(List Int))(t5:Int):Option ((List (List Int))×Unit) :=
 if(decide (t5<(List.length t0:Int)))=true then
  if(0:Int)≤t5∧t5<(List.length t0:Int) then
   if(ltS (List.getD t0 t5.toNat []) t1)=true then
    F.s_l10Put_L1 t0 t1 (w64 (t5+1))
   else
    if(0:Int)≤t5∧t5≤(List.length t0:Int) then
     if 0+List.length (List.take (t5.toNat-0) (List.drop 0 t0))≤room then
      if List.length (List.append [] (List.take (t5.toNat-0) (List.drop 0 t0)))+1≤room then
       if(0:Int)≤t5∧t5≤(List.length t0:Int) then
        if List.length (List.append (List.append [] (List.take (t5.toNat-0) (List.drop 0 t0))) [t1])+List.length (List.take ((List.length t0)-t5.toNat) (List.drop t5.toNat t0))≤room then
         some ((List.append (List.append (List.append [] (List.take (t5.toNat-0) (List.drop 0 t0))) [t1]) (List.take ((List.length t0)-t5.toNat) (List.drop t5.toNat t0))),())
        else none
       else none
      else none
     else none
    else none
  else none
 else
  if(0:Int)≤t5∧t5≤(List.length t0:Int) then
   if 0+List.length (List.take (t5.toNat-0) (List.drop 0 t0))≤room then
    if List.length (List.append [] (List.take (t5.toNat-0) (List.drop 0 t0)))+1≤room then
     if(0:Int)≤t5∧t5≤(List.length t0:Int) then
      if List.length (List.append (List.append [] (List.take (t5.toNat-0) (List.drop 0 t0))) [t1])+List.length (List.take ((List.length t0)-t5.toNat) (List.drop t5.toNat t0))≤room then
       some ((List.append (List.append (List.append [] (List.take (t5.toNat-0) (List.drop 0 t0))) [t1]) (List.take ((List.length t0)-t5.toNat) (List.drop t5.toNat t0))),())
      else none
     else none
    else none
   else none
  else none
def nr(F:FsBuild)(s0_0:(List (List Int)))(s0_1:(List (List Int)))(s0_2:(List bw))(t1:bv):Option (((List (List Int))×((List (List Int))×((List bw)×Unit)))×Unit) :=
 if(decide ((List.length t1.Kids:Int)=0))=true then
  (F.s_l14Put s0_0 s0_1 s0_2 1 0 []).bind fun(r0:Int×((List (List Int))×((List (List Int))×((List bw)×Unit)))×Unit) =>
  (F.s_l14Put r0.2.1.1 r0.2.1.2.1 r0.2.1.2.2.1 9 0 []).bind fun(r1:Int×((List (List Int))×((List (List Int))×((List bw)×Unit)))×Unit) =>
  (F.s_l14Put r1.2.1.1 r1.2.1.2.1 r1.2.1.2.2.1 33 0 []).bind fun(r2:Int×((List (List Int))×((List (List Int))×((List bw)×Unit)))×Unit) =>
  F.s_l14Print_L1 r2.2.1.1 r2.2.1.2.1 r2.2.1.2.2.1 t1
 else
  F.s_l14Print_L1 s0_0 s0_1 s0_2 t1
def nu(F:FsBuild)(s0_0:(List (List Int)))(s0_1:(List (List Int)))(s0_2:(List bw))(s48:bv):Option (((List (List Int))×((List (List Int))×((List bw)×Unit)))×Unit) :=
 F.s_l14Print_L2 0 s0_0 s0_1 s0_2 s48
def nw(F:FsBuild)(t4:Int)(s0_0:(List (List Int)))(s0_1:(List (List Int)))(s0_2:(List bw))(s48:bv):Option (((List (List Int))×((List (List Int))×((List bw)×Unit)))×Unit) :=
 if(decide (t4<(List.length s48.Kids:Int)))=true then
  if(0:Int)≤t4∧t4<(List.length s48.Kids:Int) then
   (F.s_l14E s0_0 s0_1 s0_2 (List.getD s48.Kids t4.toNat ct)).bind fun(r0:((List (List Int))×((List (List Int))×((List bw)×Unit)))×Unit) =>
   (F.s_l1Bit (decide (t4>0))).bind fun(r1:Int×Unit) =>
   (F.s_l14Put r0.1.1 r0.1.2.1 r0.1.2.2.1 33 r1.1 []).bind fun(r2:Int×((List (List Int))×((List (List Int))×((List bw)×Unit)))×Unit) =>
   F.s_l14Print_L2 (w64 (t4+1)) r2.2.1.1 r2.2.1.2.1 r2.2.1.2.2.1 s48
  else none
 else
  (F.s_l14Put s0_0 s0_1 s0_2 34 0 []).bind fun(r3:Int×((List (List Int))×((List (List Int))×((List bw)×Unit)))×Unit) =>
  some ((r3.2.1.1,(r3.2.1.2.1,(r3.2.1.2.2.1,()))),())
def nk(F:FsBuild)(s0_0:(List (List Int)))(s0_1:(List (List Int)))(s0_2:(List bw))(t1:bv):Option (((List (List Int))×((List (List Int))×((List bw)×Unit)))×Unit) :=
 if(0:Int)≤0∧(0:Int)<(List.length t1.Kids:Int) then
  (F.s_l14E s0_0 s0_1 s0_2 (List.getD t1.Kids 0 ct)).bind fun(r0:((List (List Int))×((List (List Int))×((List bw)×Unit)))×Unit) =>
  (F.s_l14Put r0.1.1 r0.1.2.1 r0.1.2.2.1 31 0 []).bind fun(r1:Int×((List (List Int))×((List (List Int))×((List bw)×Unit)))×Unit) =>
  if(0:Int)≤1∧(1:Int)<(List.length t1.Kids:Int) then
   (F.s_l14Block r1.2.1.1 r1.2.1.2.1 r1.2.1.2.2.1 (List.getD t1.Kids 1 ct)).bind fun(r2:((List (List Int))×((List (List Int))×((List bw)×Unit)))×Unit) =>
   if(decide ((List.length t1.Kids:Int)=3))=true then
    (F.s_l14Put r2.1.1 r2.1.2.1 r2.1.2.2.1 30 0 []).bind fun(r3:Int×((List (List Int))×((List (List Int))×((List bw)×Unit)))×Unit) =>
    if(0:Int)≤r1.1∧r1.1<(List.length r3.2.1.2.2.1:Int) then
     let v0:(List bw):=(List.set r3.2.1.2.2.1 r1.1.toNat (bw.mk ((List.getD r3.2.1.2.2.1 r1.1.toNat dI).Code) (List.length r3.2.1.2.2.1:Int) ((List.getD r3.2.1.2.2.1 r1.1.toNat dI).S)))
     if(0:Int)≤2∧(2:Int)<(List.length t1.Kids:Int) then
      (F.s_l14Block r3.2.1.1 r3.2.1.2.1 v0 (List.getD t1.Kids 2 ct)).bind fun(r4:((List (List Int))×((List (List Int))×((List bw)×Unit)))×Unit) =>
      if(0:Int)≤r3.1∧r3.1<(List.length r4.1.2.2.1:Int) then
       let v1:(List bw):=(List.set r4.1.2.2.1 r3.1.toNat (bw.mk ((List.getD r4.1.2.2.1 r3.1.toNat dI).Code) (List.length r4.1.2.2.1:Int) ((List.getD r4.1.2.2.1 r3.1.toNat dI).S)))
       some ((r4.1.1,(r4.1.2.1,(v1,()))),())
      else none
     else none
    else none
   else
    if(0:Int)≤r1.1∧r1.1<(List.length r2.1.2.2.1:Int) then
     let v2:(List bw):=(List.set r2.1.2.2.1 r1.1.toNat (bw.mk ((List.getD r2.1.2.2.1 r1.1.toNat dI).Code) (List.length r2.1.2.2.1:Int) ((List.getD r2.1.2.2.1 r1.1.toNat dI).S)))
     some ((r2.1.1,(r2.1.2.1,(v2,()))),())
    else none
  else none
 else none
def nA(F:FsBuild)(s0_0:(List (List Int)))(s0_1:(List (List Int)))(s0_2:(List bw))(t1:bv):Option (((List (List Int))×((List (List Int))×((List bw)×Unit)))×Unit) :=
 if(0:Int)≤0∧(0:Int)<(List.length t1.Kids:Int) then
  (F.s_l14E s0_0 s0_1 s0_2 (List.getD t1.Kids 0 ct)).bind fun(r0:((List (List Int))×((List (List Int))×((List bw)×Unit)))×Unit) =>
  (F.s_l14Put r0.1.1 r0.1.2.1 r0.1.2.2.1 31 0 []).bind fun(r1:Int×((List (List Int))×((List (List Int))×((List bw)×Unit)))×Unit) =>
  if(0:Int)≤1∧(1:Int)<(List.length t1.Kids:Int) then
   (F.s_l14Block r1.2.1.1 r1.2.1.2.1 r1.2.1.2.2.1 (List.getD t1.Kids 1 ct)).bind fun(r2:((List (List Int))×((List (List Int))×((List bw)×Unit)))×Unit) =>
   (F.s_l14Put r2.1.1 r2.1.2.1 r2.1.2.2.1 30 (List.length s0_2:Int) []).bind fun(r3:Int×((List (List Int))×((List (List Int))×((List bw)×Unit)))×Unit) =>
   if(0:Int)≤r1.1∧r1.1<(List.length r3.2.1.2.2.1:Int) then
    let v0:(List bw):=(List.set r3.2.1.2.2.1 r1.1.toNat (bw.mk ((List.getD r3.2.1.2.2.1 r1.1.toNat dI).Code) (List.length r3.2.1.2.2.1:Int) ((List.getD r3.2.1.2.2.1 r1.1.toNat dI).S)))
    some ((r3.2.1.1,(r3.2.1.2.1,(v0,()))),())
   else none
  else none
 else none
def mX(F:FsBuild)(t0:(List (List Int)))(t1:(List Int)):Option (Int×Unit) :=
 F.s_l12Where_L1 t0 t1 0
def mY(F:FsBuild)(t0:(List (List Int)))(t1:(List Int))(t5:Int):Option (Int×Unit) :=
 if(decide (t5<(List.length t0:Int)))=true then
  if(0:Int)≤t5∧t5<(List.length t0:Int) then
   if(decide ((List.getD t0 t5.toNat [])=t1))=true then
    some (t5,())
   else
    F.s_l12Where_L1 t0 t1 (w64 (t5+1))
  else none
 else
  some (0,())
def nB(F:FsBuild)(t0:Bool):Option (Int×Unit) :=
 if t0=true then
  some (1,())
 else
  some (0,())
def nM(F:FsBuild)(s0:bN)(t1:Int):Option (bC×bN×Unit) :=
 (F.s_l3Part s0 t1).bind fun(r0:bC×bN×Unit) =>
 F.s_l3Pattern_L1 t1 [r0.1] r0.2.1 du
def nN(F:FsBuild)(t1:Int)(t5:(List bC))(s0:bN)(s64:bC):Option (bC×bN×Unit) :=
 (F.s_l3Now s0 124).bind fun(r0:Bool×bN×Unit) =>
 if r0.1=true then
  (F.s_l3Part (bN.mk r0.2.1.s (w64 (r0.2.1.at_+1)) r0.2.1.bad) t1).bind fun(r1:bC×bN×Unit) =>
  if List.length t5+1≤room then
   F.s_l3Pattern_L1 t1 (List.append t5 [r1.1]) r1.2.1 s64
  else none
 else
  if(decide ((List.length t5:Int)=1))=true then
   if(0:Int)≤0∧(0:Int)<(List.length t5:Int) then
    some ((List.getD t5 0 du),r0.2.1,())
   else none
  else
   some ((bC.mk 7 0 [] false t5),r0.2.1,())
def nH(F:FsBuild)(t0:bC):Option (Int×Unit) :=
 F.s_l3Deep_L1 0 0 t0
def nI(F:FsBuild)(t3:Int)(t4:Int)(s16:bC):Option (Int×Unit) :=
 if(decide (t4<(List.length s16.Kids:Int)))=true then
  if(0:Int)≤t4∧t4<(List.length s16.Kids:Int) then
   (F.s_l3Deep (List.getD s16.Kids t4.toNat du)).bind fun(r0:Int×Unit) =>
   (F.s_l1Max t3 r0.1).bind fun(r1:Int×Unit) =>
   F.s_l3Deep_L1 r1.1 (w64 (t4+1)) s16
  else none
 else
  some ((w64 (t3+1)),())
def mg(F:FsBuild)(t0:(List Int)):Option (Int×Int×Unit) :=
 F.s_DecFront_L1 t0 0
def mh(F:FsBuild)(t0:(List Int))(t4:Int):Option (Int×Int×Unit) :=
 if(decide (t4<(List.length t0:Int)))=true then
  if(0:Int)≤t4∧t4<(List.length t0:Int) then
   if(decide ((List.getD t0 t4.toNat 0)=32))=true then
    F.s_DecFront_L1 t0 (w64 (t4+1))
   else
    if(decide (t4<(List.length t0:Int)))=true then
     if(0:Int)≤t4∧t4<(List.length t0:Int) then
      if(decide (t4<(List.length t0:Int)))=true then
       if(0:Int)≤t4∧t4<(List.length t0:Int) then
        if(decide ((List.getD t0 t4.toNat 0)=45))=true then
         F.s_DecFront_L2 t0 (w64 (t4+1)) (decide ((List.getD t0 t4.toNat 0)=45))
        else
         if(0:Int)≤t4∧t4<(List.length t0:Int) then
          if(decide ((List.getD t0 t4.toNat 0)=43))=true then
           F.s_DecFront_L2 t0 (w64 (t4+1)) (decide ((List.getD t0 t4.toNat 0)=45))
          else
           F.s_DecFront_L2 t0 t4 (decide ((List.getD t0 t4.toNat 0)=45))
         else none
       else none
      else
       F.s_DecFront_L2 t0 t4 (decide ((List.getD t0 t4.toNat 0)=45))
     else none
    else
     if(decide (t4<(List.length t0:Int)))=true then
      if(0:Int)≤t4∧t4<(List.length t0:Int) then
       if(decide ((List.getD t0 t4.toNat 0)=45))=true then
        F.s_DecFront_L2 t0 (w64 (t4+1)) false
       else
        if(0:Int)≤t4∧t4<(List.length t0:Int) then
         if(decide ((List.getD t0 t4.toNat 0)=43))=true then
          F.s_DecFront_L2 t0 (w64 (t4+1)) false
         else
          F.s_DecFront_L2 t0 t4 false
        else none
      else none
     else
      F.s_DecFront_L2 t0 t4 false
  else none
 else
  if(decide (t4<(List.length t0:Int)))=true then
   if(0:Int)≤t4∧t4<(List.length t0:Int) then
    if(decide (t4<(List.length t0:Int)))=true then
     if(0:Int)≤t4∧t4<(List.length t0:Int) then
      if(decide ((List.getD t0 t4.toNat 0)=45))=true then
       F.s_DecFront_L2 t0 (w64 (t4+1)) (decide ((List.getD t0 t4.toNat 0)=45))
      else
       if(0:Int)≤t4∧t4<(List.length t0:Int) then
        if(decide ((List.getD t0 t4.toNat 0)=43))=true then
         F.s_DecFront_L2 t0 (w64 (t4+1)) (decide ((List.getD t0 t4.toNat 0)=45))
        else
         F.s_DecFront_L2 t0 t4 (decide ((List.getD t0 t4.toNat 0)=45))
       else none
     else none
    else
     F.s_DecFront_L2 t0 t4 (decide ((List.getD t0 t4.toNat 0)=45))
   else none
  else
   if(decide (t4<(List.length t0:Int)))=true then
    if(0:Int)≤t4∧t4<(List.length t0:Int) then
     if(decide ((List.getD t0 t4.toNat 0)=45))=true then
      F.s_DecFront_L2 t0 (w64 (t4+1)) false
     else
      if(0:Int)≤t4∧t4<(List.length t0:Int) then
       if(decide ((List.getD t0 t4.toNat 0)=43))=true then
        F.s_DecFront_L2 t0 (w64 (t4+1)) false
       else
        F.s_DecFront_L2 t0 t4 false
      else none
    else none
   else
    F.s_DecFront_L2 t0 t4 false
def mi(F:FsBuild)(t0:(List Int))(t4:Int)(t5:Bool):Option (Int×Int×Unit) :=
 F.s_DecFront_L3 t0 t4 t5 0 0
def mj(F:FsBuild)(t0:(List Int))(t4:Int)(t5:Bool)(t6:Int)(t7:Int):Option (Int×Int×Unit) :=
 if(decide (t4<(List.length t0:Int)))=true then
  if(0:Int)≤t4∧t4<(List.length t0:Int) then
   (F.s_l2Digit (List.getD t0 t4.toNat 0)).bind fun(r0:Bool×Unit) =>
   if r0.1=true then
    if(decide (t6≤9000000000000))=true then
     if(0:Int)≤t4∧t4<(List.length t0:Int) then
      F.s_DecFront_L3 t0 (w64 (t4+1)) t5 (w64 ((w64 (10*t6))+(w64 ((w64 ((w64 (List.getD t0 t4.toNat 0))-48))*1000000)))) (w64 (t7+1))
     else none
    else
     F.s_DecFront_L3 t0 (w64 (t4+1)) t5 t6 (w64 (t7+1))
   else
    if(decide ((w64 (t4+1))<(List.length t0:Int)))=true then
     if(0:Int)≤t4∧t4<(List.length t0:Int) then
      if(decide ((List.getD t0 t4.toNat 0)=46))=true then
       if(0:Int)≤(w64 (t4+1))∧(w64 (t4+1))<(List.length t0:Int) then
        (F.s_l2Digit (List.getD t0 (w64 (t4+1)).toNat 0)).bind fun(r1:Bool×Unit) =>
        if r1.1=true then
         F.s_DecFront_L4 t0 (w64 (t4+1)) t5 t6 t7 100000
        else
         F.s_DecFront_L5 t4 t5 t6 t7
       else none
      else
       F.s_DecFront_L5 t4 t5 t6 t7
     else none
    else
     F.s_DecFront_L5 t4 t5 t6 t7
  else none
 else
  if(decide ((w64 (t4+1))<(List.length t0:Int)))=true then
   if(0:Int)≤t4∧t4<(List.length t0:Int) then
    if(decide ((List.getD t0 t4.toNat 0)=46))=true then
     if(0:Int)≤(w64 (t4+1))∧(w64 (t4+1))<(List.length t0:Int) then
      (F.s_l2Digit (List.getD t0 (w64 (t4+1)).toNat 0)).bind fun(r2:Bool×Unit) =>
      if r2.1=true then
       F.s_DecFront_L4 t0 (w64 (t4+1)) t5 t6 t7 100000
      else
       F.s_DecFront_L5 t4 t5 t6 t7
     else none
    else
     F.s_DecFront_L5 t4 t5 t6 t7
   else none
  else
   F.s_DecFront_L5 t4 t5 t6 t7
def ml(F:FsBuild)(t0:(List Int))(t4:Int)(t5:Bool)(t6:Int)(t7:Int)(t8:Int):Option (Int×Int×Unit) :=
 if(decide (t4<(List.length t0:Int)))=true then
  if(0:Int)≤t4∧t4<(List.length t0:Int) then
   (F.s_l2Digit (List.getD t0 t4.toNat 0)).bind fun(r0:Bool×Unit) =>
   if r0.1=true then
    if(0:Int)≤t4∧t4<(List.length t0:Int) then
     F.s_DecFront_L4 t0 (w64 (t4+1)) t5 (w64 (t6+(w64 ((w64 ((w64 (List.getD t0 t4.toNat 0))-48))*t8)))) (w64 (t7+1)) (w64 (Int.tdiv t8 10))
    else none
   else
    F.s_DecFront_L5 t4 t5 t6 t7
  else none
 else
  F.s_DecFront_L5 t4 t5 t6 t7
def mm(F:FsBuild)(t4:Int)(t5:Bool)(t6:Int)(t7:Int):Option (Int×Int×Unit) :=
 if(decide (t7=0))=true then
  some (0,0,())
 else
  if(decide (t6>9000000000000))=true then
   some (0,0,())
  else
   if t5=true then
    some ((w64 (0-t6)),t4,())
   else
    some (t6,t4,())
def oH(F:FsBuild)(s0:bO):Option (bO×Unit) :=
 if(decide (s0.bad<0))=true then
  (F.s_l8Now s0).bind fun(r0:bF×bO×Unit) =>
  some ((bO.mk r0.2.1.list r0.2.1.at_ r0.1.At r0.2.1.has r0.2.1.kept),())
 else
  some (s0,())
def pf(F:FsBuild)(s0:bO)(t1:Int):Option (bv×bO×Unit) :=
 (F.s_l8Next s0).bind fun(r0:bO×Unit) =>
 (F.s_l8Take r0.1 [40]).bind fun(r1:bO×Unit) =>
 (F.s_l8E r1.1).bind fun(r2:bv×bO×Unit) =>
 (F.s_l8Take r2.2.1 [41]).bind fun(r3:bO×Unit) =>
 (F.s_l8Block r3.1).bind fun(r4:bv×bO×Unit) =>
 (F.s_l8Kids t1 [r2.1,r4.1]).bind fun(r5:(Int×(Int×((List Int)×((List bv)×Unit))))×Unit) =>
 if(decide (t1=31))=true then
  (F.s_l8Is r4.2.1 [101,108,115,101]).bind fun(r6:Bool×bO×Unit) =>
  if r6.1=true then
   (F.s_l8Next r6.2.1).bind fun(r7:bO×Unit) =>
   (F.s_l8Block r7.1).bind fun(r8:bv×bO×Unit) =>
   if List.length r5.1.2.2.2.1+1≤room then
    some ((bv.mk r5.1.1 r5.1.2.1 r5.1.2.2.1 (List.append r5.1.2.2.2.1 [r8.1])),r8.2.1,())
   else none
  else
   some ((bv.mk r5.1.1 r5.1.2.1 r5.1.2.2.1 r5.1.2.2.2.1),r6.2.1,())
 else
  some ((bv.mk r5.1.1 r5.1.2.1 r5.1.2.2.1 r5.1.2.2.2.1),r4.2.1,())
def o9(F:FsBuild)(s0:bO):Option (bv×bO×Unit) :=
 (F.s_l8Is s0 [112,114,105,110,116]).bind fun(r0:Bool×bO×Unit) =>
 if r0.1=true then
  (F.s_l8Next r0.2.1).bind fun(r1:bO×Unit) =>
  F.s_l8Simple_L1 r1.1 0 0 [] [] 30 0 [] []
 else
  (F.s_l8Is r0.2.1 [110,101,120,116]).bind fun(r2:Bool×bO×Unit) =>
  if r2.1=true then
   (F.s_l8Next r2.2.1).bind fun(r3:bO×Unit) =>
   some ((bv.mk 33 0 [] []),r3.1,())
  else
   (F.s_l8Is r2.2.1 [100,101,108,101,116,101]).bind fun(r4:Bool×bO×Unit) =>
   if r4.1=true then
    (F.s_l8Next r4.2.1).bind fun(r5:bO×Unit) =>
    (F.s_l8Name r5.1).bind fun(r6:(List Int)×bO×Unit) =>
    (F.s_l8Take r6.2.1 [91]).bind fun(r7:bO×Unit) =>
    (F.s_l8E r7.1).bind fun(r8:bv×bO×Unit) =>
    (F.s_l8Take r8.2.1 [93]).bind fun(r9:bO×Unit) =>
    some ((bv.mk 34 0 r6.1 [r8.1]),r9.1,())
   else
    (F.s_l8E r4.2.1).bind fun(r10:bv×bO×Unit) =>
    (F.s_l8Kids 35 [r10.1]).bind fun(r11:(Int×(Int×((List Int)×((List bv)×Unit))))×Unit) =>
    some ((bv.mk r11.1.1 r11.1.2.1 r11.1.2.2.1 r11.1.2.2.2.1),r10.2.1,())
def pb(F:FsBuild)(s0:bO)(s32_0:Int)(s32_1:Int)(s32_2:(List Int))(s32_3:(List bv))(s48_0:Int)(s48_1:Int)(s48_2:(List Int))(s48_3:(List bv)):Option (bv×bO×Unit) :=
 if(decide (s0.bad<0))=true then
  (F.s_l8Sign s0 [59]).bind fun(r0:Bool×bO×Unit) =>
  if(!r0.1)=true then
   (F.s_l8Sign r0.2.1 [125]).bind fun(r1:Bool×bO×Unit) =>
   if(!r1.1)=true then
    if(decide ((List.length s48_3:Int)>0))=true then
     (F.s_l8Take r1.2.1 [44]).bind fun(r2:bO×Unit) =>
     (F.s_l8E r2.1).bind fun(r3:bv×bO×Unit) =>
     if List.length s48_3+1≤room then
      F.s_l8Simple_L1 r3.2.1 s32_0 s32_1 s32_2 s32_3 s48_0 s48_1 s48_2 (List.append s48_3 [r3.1])
     else none
    else
     (F.s_l8E r1.2.1).bind fun(r4:bv×bO×Unit) =>
     if List.length s48_3+1≤room then
      F.s_l8Simple_L1 r4.2.1 s32_0 s32_1 s32_2 s32_3 s48_0 s48_1 s48_2 (List.append s48_3 [r4.1])
     else none
   else
    some ((bv.mk s48_0 s48_1 s48_2 s48_3),r1.2.1,())
  else
   some ((bv.mk s48_0 s48_1 s48_2 s48_3),r0.2.1,())
 else
  some ((bv.mk s48_0 s48_1 s48_2 s48_3),s0,())
def oQ(F:FsBuild)(s0:bO)(t1:(List Int)):Option ((List bv)×bO×Unit) :=
 F.s_l8Es_L1 t1 [] s0
def oR(F:FsBuild)(t1:(List Int))(t5:(List bv))(s0:bO):Option ((List bv)×bO×Unit) :=
 if(decide (s0.bad<0))=true then
  (F.s_l8Sign s0 t1).bind fun(r0:Bool×bO×Unit) =>
  if(!r0.1)=true then
   if(decide ((List.length t5:Int)>0))=true then
    (F.s_l8Take r0.2.1 [44]).bind fun(r1:bO×Unit) =>
    (F.s_l8E r1.1).bind fun(r2:bv×bO×Unit) =>
    if List.length t5+1≤room then
     F.s_l8Es_L1 t1 (List.append t5 [r2.1]) r2.2.1
    else none
   else
    (F.s_l8E r0.2.1).bind fun(r3:bv×bO×Unit) =>
    if List.length t5+1≤room then
     F.s_l8Es_L1 t1 (List.append t5 [r3.1]) r3.2.1
    else none
  else
   some (t5,r0.2.1,())
 else
  some (t5,s0,())
def oZ(F:FsBuild)(s0:bO):Option ((List Int)×bO×Unit) :=
 (F.s_l8Now s0).bind fun(r0:bF×bO×Unit) =>
 if(decide (r0.2.1.bad≥0))=true then
  (F.s_l8Bad r0.2.1).bind fun(r1:bO×Unit) =>
  some ([],r1.1,())
 else
  if(!(decide (r0.1.Kind=1)))=true then
   (F.s_l8Bad r0.2.1).bind fun(r2:bO×Unit) =>
   some ([],r2.1,())
  else
   (F.s_Keyword r0.1.Text).bind fun(r3:Bool×Unit) =>
   if r3.1=true then
    (F.s_l8Bad r0.2.1).bind fun(r4:bO×Unit) =>
    some ([],r4.1,())
   else
    (F.s_l8Next r0.2.1).bind fun(r5:bO×Unit) =>
    some (r0.1.Text,r5.1,())
def oM(F:FsBuild)(s0:bO):Option (bv×bO×Unit) :=
 (F.s_l8Level s0 4).bind fun(r0:bv×bO×Unit) =>
 F.s_l8Compare_L1 [[60],[60,61],[62],[62,61],[61,61],[33,61]] 0 r0.2.1 0 0 [] [] r0.1
def oN(F:FsBuild)(t3:(List (List Int)))(t5:Int)(s0:bO)(s32_0:Int)(s32_1:Int)(s32_2:(List Int))(s32_3:(List bv))(s64:bv):Option (bv×bO×Unit) :=
 if(decide (t5<(List.length t3:Int)))=true then
  if(0:Int)≤t5∧t5<(List.length t3:Int) then
   (F.s_l8Sign s0 (List.getD t3 t5.toNat [])).bind fun(r0:Bool×bO×Unit) =>
   if r0.1=true then
    (F.s_l8Next r0.2.1).bind fun(r1:bO×Unit) =>
    (F.s_l8Level r1.1 4).bind fun(r2:bv×bO×Unit) =>
    (F.s_l8Kids (w64 (15+t5)) [s64,r2.1]).bind fun(r3:(Int×(Int×((List Int)×((List bv)×Unit))))×Unit) =>
    some ((bv.mk r3.1.1 r3.1.2.1 r3.1.2.2.1 r3.1.2.2.2.1),r2.2.1,())
   else
    F.s_l8Compare_L1 t3 (w64 (t5+1)) r0.2.1 s32_0 s32_1 s32_2 s32_3 s64
  else none
 else
  some (s64,s0,())
def o5(F:FsBuild)(s0:bO):Option (bv×bO×Unit) :=
 (F.s_l8Level s0 5).bind fun(r0:bv×bO×Unit) =>
 F.s_l8Row_L1 r0.2.1 0 0 [] [] r0.1
def o6(F:FsBuild)(s0:bO)(s32_0:Int)(s32_1:Int)(s32_2:(List Int))(s32_3:(List bv))(s48:bv):Option (bv×bO×Unit) :=
 (F.s_l8Begins s0).bind fun(r0:Bool×bO×Unit) =>
 if r0.1=true then
  (F.s_l8Level r0.2.1 5).bind fun(r1:bv×bO×Unit) =>
  (F.s_l8Kids 14 [s48,r1.1]).bind fun(r2:(Int×(Int×((List Int)×((List bv)×Unit))))×Unit) =>
  F.s_l8Row_L1 r1.2.1 s32_0 s32_1 s32_2 s32_3 (bv.mk r2.1.1 r2.1.2.1 r2.1.2.2.1 r2.1.2.2.2.1)
 else
  some (s48,r0.2.1,())
def pe(F:FsBuild)(s0:bO):Option (bv×bO×Unit) :=
 if s0.has=true then
  (F.s_l8Atom s0).bind fun(r0:bv×bO×Unit) =>
  some (r0.1,r0.2.1,())
 else
  (F.s_l8Sign s0 [33]).bind fun(r1:Bool×bO×Unit) =>
  if r1.1=true then
   (F.s_l8Next r1.2.1).bind fun(r2:bO×Unit) =>
   (F.s_l8Unit r2.1).bind fun(r3:bv×bO×Unit) =>
   (F.s_l8Kids 22 [r3.1]).bind fun(r4:(Int×(Int×((List Int)×((List bv)×Unit))))×Unit) =>
   some ((bv.mk r4.1.1 r4.1.2.1 r4.1.2.2.1 r4.1.2.2.2.1),r3.2.1,())
  else
   (F.s_l8Sign r1.2.1 [45]).bind fun(r5:Bool×bO×Unit) =>
   if r5.1=true then
    (F.s_l8Next r5.2.1).bind fun(r6:bO×Unit) =>
    (F.s_l8Unit r6.1).bind fun(r7:bv×bO×Unit) =>
    (F.s_l8Kids 23 [r7.1]).bind fun(r8:(Int×(Int×((List Int)×((List bv)×Unit))))×Unit) =>
    some ((bv.mk r8.1.1 r8.1.2.1 r8.1.2.2.1 r8.1.2.2.2.1),r7.2.1,())
   else
    (F.s_l8Atom r5.2.1).bind fun(r9:bv×bO×Unit) =>
    some (r9.1,r9.2.1,())
def oU(F:FsBuild)(s0:bO)(t1:Int):Option (bv×bO×Unit) :=
 (F.s_l8Level s0 (w64 (t1+1))).bind fun(r0:bv×bO×Unit) =>
 F.s_l8Left_L1 t1 [[[124,124]],[[38,38]],[[126],[33,126]],[],[],[[43],[45]],[[42],[47],[37]]] [[25],[24],[21,21],[],[],[9,10],[11,12,13]] r0.2.1 (bv.mk 0 0 [] []) r0.1
def oV(F:FsBuild)(t1:Int)(t5:(List (List (List Int))))(t6:(List (List Int)))(s0:bO)(s64:bv)(s112:bv):Option (bv×bO×Unit) :=
 if(decide (s0.bad<0))=true then
  F.s_l8Left_L2 t1 t5 t6 0 s0 s64 s112
 else
  some (s112,s0,())
def oW(F:FsBuild)(t1:Int)(t5:(List (List (List Int))))(t6:(List (List Int)))(t8:Int)(s0:bO)(s64:bv)(s112:bv):Option (bv×bO×Unit) :=
 if(0:Int)≤t1∧t1<(List.length t5:Int) then
  if(decide (t8<(List.length (List.getD t5 t1.toNat []):Int)))=true then
   if(0:Int)≤t1∧t1<(List.length t5:Int) then
    if(0:Int)≤t8∧t8<(List.length (List.getD t5 t1.toNat []):Int) then
     (F.s_l8Sign s0 (List.getD (List.getD t5 t1.toNat []) t8.toNat [])).bind fun(r0:Bool×bO×Unit) =>
     if(!r0.1)=true then
      F.s_l8Left_L2 t1 t5 t6 (w64 (t8+1)) r0.2.1 s64 s112
     else
      if(0:Int)≤t1∧t1<(List.length t5:Int) then
       if(decide (t8=(List.length (List.getD t5 t1.toNat []):Int)))=true then
        some (s112,r0.2.1,())
       else
        (F.s_l8Next r0.2.1).bind fun(r1:bO×Unit) =>
        (F.s_l8Level r1.1 (w64 (t1+1))).bind fun(r2:bv×bO×Unit) =>
        if(0:Int)≤t1∧t1<(List.length t6:Int) then
         if(0:Int)≤t8∧t8<(List.length (List.getD t6 t1.toNat []):Int) then
          (F.s_l8Kids (List.getD (List.getD t6 t1.toNat []) t8.toNat 0) [s112,r2.1]).bind fun(r3:(Int×(Int×((List Int)×((List bv)×Unit))))×Unit) =>
          F.s_l8Left_L3 t1 t5 t6 t8 r2.2.1 s64 (bv.mk r3.1.1 r3.1.2.1 r3.1.2.2.1 r3.1.2.2.2.1)
         else none
        else none
      else none
    else none
   else none
  else
   if(0:Int)≤t1∧t1<(List.length t5:Int) then
    if(decide (t8=(List.length (List.getD t5 t1.toNat []):Int)))=true then
     some (s112,s0,())
    else
     (F.s_l8Next s0).bind fun(r4:bO×Unit) =>
     (F.s_l8Level r4.1 (w64 (t1+1))).bind fun(r5:bv×bO×Unit) =>
     if(0:Int)≤t1∧t1<(List.length t6:Int) then
      if(0:Int)≤t8∧t8<(List.length (List.getD t6 t1.toNat []):Int) then
       (F.s_l8Kids (List.getD (List.getD t6 t1.toNat []) t8.toNat 0) [s112,r5.1]).bind fun(r6:(Int×(Int×((List Int)×((List bv)×Unit))))×Unit) =>
       F.s_l8Left_L3 t1 t5 t6 t8 r5.2.1 s64 (bv.mk r6.1.1 r6.1.2.1 r6.1.2.2.1 r6.1.2.2.2.1)
      else none
     else none
   else none
 else none
def oX(F:FsBuild)(t1:Int)(t5:(List (List (List Int))))(t6:(List (List Int)))(t8:Int)(s0:bO)(s64:bv)(s112:bv):Option (bv×bO×Unit) :=
 if(decide (t1=2))=true then
  if(decide (t8=1))=true then
   (F.s_l8Kids 22 [s112]).bind fun(r0:(Int×(Int×((List Int)×((List bv)×Unit))))×Unit) =>
   F.s_l8Left_L1 t1 t5 t6 s0 s64 (bv.mk r0.1.1 r0.1.2.1 r0.1.2.2.1 r0.1.2.2.2.1)
  else
   F.s_l8Left_L1 t1 t5 t6 s0 s64 s112
 else
  F.s_l8Left_L1 t1 t5 t6 s0 s64 s112
def pn(F:FsBuild)(t0:bv):Option (Bool×Unit) :=
 if(decide (t0.Op=5))=true then
  F.s_l9Kids_L1 (List.length t0.Kids:Int) t0.Op (decide (t0.Op=5)) t0
 else
  if(decide (t0.Op=6))=true then
   F.s_l9Kids_L1 (List.length t0.Kids:Int) t0.Op (decide (t0.Op=6)) t0
  else
   if(decide (t0.Op=22))=true then
    F.s_l9Kids_L1 (List.length t0.Kids:Int) t0.Op (decide (t0.Op=22)) t0
   else
    if(decide (t0.Op=23))=true then
     F.s_l9Kids_L1 (List.length t0.Kids:Int) t0.Op (decide (t0.Op=23)) t0
    else
     if(decide (t0.Op=34))=true then
      F.s_l9Kids_L1 (List.length t0.Kids:Int) t0.Op (decide (t0.Op=34)) t0
     else
      F.s_l9Kids_L1 (List.length t0.Kids:Int) t0.Op (decide (t0.Op=35)) t0
def po(F:FsBuild)(t3:Int)(t9:Int)(t10:Bool)(s16:bv):Option (Bool×Unit) :=
 if t10=true then
  if(decide (t3=1))=true then
   (F.s_l9Es s16 0 1).bind fun(r0:Bool×Unit) =>
   some (r0.1,())
  else
   some (false,())
 else
  if(decide (t9=9))=true then
   F.s_l9Kids_L2 t3 t9 (decide (t9=9)) s16
  else
   if(decide (t9=10))=true then
    F.s_l9Kids_L2 t3 t9 (decide (t9=10)) s16
   else
    if(decide (t9=11))=true then
     F.s_l9Kids_L2 t3 t9 (decide (t9=11)) s16
    else
     if(decide (t9=12))=true then
      F.s_l9Kids_L2 t3 t9 (decide (t9=12)) s16
     else
      if(decide (t9=13))=true then
       F.s_l9Kids_L2 t3 t9 (decide (t9=13)) s16
      else
       if(decide (t9=14))=true then
        F.s_l9Kids_L2 t3 t9 (decide (t9=14)) s16
       else
        if(decide (t9=15))=true then
         F.s_l9Kids_L2 t3 t9 (decide (t9=15)) s16
        else
         if(decide (t9=16))=true then
          F.s_l9Kids_L2 t3 t9 (decide (t9=16)) s16
         else
          if(decide (t9=17))=true then
           F.s_l9Kids_L2 t3 t9 (decide (t9=17)) s16
          else
           if(decide (t9=18))=true then
            F.s_l9Kids_L2 t3 t9 (decide (t9=18)) s16
           else
            if(decide (t9=19))=true then
             F.s_l9Kids_L2 t3 t9 (decide (t9=19)) s16
            else
             if(decide (t9=20))=true then
              F.s_l9Kids_L2 t3 t9 (decide (t9=20)) s16
             else
              if(decide (t9=21))=true then
               F.s_l9Kids_L2 t3 t9 (decide (t9=21)) s16
              else
               if(decide (t9=24))=true then
                F.s_l9Kids_L2 t3 t9 (decide (t9=24)) s16
               else
                F.s_l9Kids_L2 t3 t9 (decide (t9=25)) s16
def pp(F:FsBuild)(t3:Int)(t9:Int)(t23:Bool)(s16:bv):Option (Bool×Unit) :=
 if t23=true then
  if(decide (t3=2))=true then
   (F.s_l9Es s16 0 2).bind fun(r0:Bool×Unit) =>
   some (r0.1,())
  else
   some (false,())
 else
  if(decide (t9=26))=true then
   F.s_l9Kids_L3 t3 t9 (decide (t9=26)) s16
  else
   F.s_l9Kids_L3 t3 t9 (decide (t9=27)) s16
def pq(F:FsBuild)(t3:Int)(t9:Int)(t45:Bool)(s16:bv):Option (Bool×Unit) :=
 if t45=true then
  if(decide (t3=2))=true then
   if(0:Int)≤0∧(0:Int)<(List.length s16.Kids:Int) then
    if(decide (((List.getD s16.Kids 0 ct).Op)=4))=true then
     (F.s_l9Es s16 0 2).bind fun(r0:Bool×Unit) =>
     some (r0.1,())
    else
     if(0:Int)≤0∧(0:Int)<(List.length s16.Kids:Int) then
      if(decide (((List.getD s16.Kids 0 ct).Op)=5))=true then
       (F.s_l9Es s16 0 2).bind fun(r1:Bool×Unit) =>
       some (r1.1,())
      else
       some (false,())
     else none
   else none
  else
   some (false,())
 else
  if(decide (t9=28))=true then
   F.s_l9Kids_L4 t3 t9 (decide (t9=28)) s16
  else
   F.s_l9Kids_L4 t3 t9 (decide (t9=30)) s16
def pt(F:FsBuild)(t3:Int)(t9:Int)(t70:Bool)(s16:bv):Option (Bool×Unit) :=
 if t70=true then
  (F.s_l9Es s16 0 t3).bind fun(r0:Bool×Unit) =>
  some (r0.1,())
 else
  if(decide (t9=31))=true then
   (F.s_l1In t3 2 3).bind fun(r1:Bool×Unit) =>
   if r1.1=true then
    (F.s_l9Es s16 0 1).bind fun(r2:Bool×Unit) =>
    if r2.1=true then
     (F.s_l9Blocks s16 1).bind fun(r3:Bool×Unit) =>
     some (r3.1,())
    else
     some (false,())
   else
    some (false,())
  else
   if(decide (t9=32))=true then
    if(decide (t3=2))=true then
     (F.s_l9Es s16 0 1).bind fun(r4:Bool×Unit) =>
     if r4.1=true then
      (F.s_l9Blocks s16 1).bind fun(r5:Bool×Unit) =>
      some (r5.1,())
     else
      some (false,())
    else
     some (false,())
   else
    if(decide (t9=29))=true then
     F.s_l9Kids_L5 t3 0 s16
    else
     some ((decide (t3=0)),())
def pu(F:FsBuild)(t3:Int)(t4:Int)(s16:bv):Option (Bool×Unit) :=
 if(decide (t4<t3))=true then
  if(0:Int)≤t4∧t4<(List.length s16.Kids:Int) then
   (F.s_l1In ((List.getD s16.Kids t4.toNat ct).Op) 29 35).bind fun(r0:Bool×Unit) =>
   if(!r0.1)=true then
    some (false,())
   else
    if(0:Int)≤t4∧t4<(List.length s16.Kids:Int) then
     (F.s_l9Node (List.getD s16.Kids t4.toNat ct)).bind fun(r1:Bool×Unit) =>
     if(!r1.1)=true then
      some (false,())
     else
      F.s_l9Kids_L5 t3 (w64 (t4+1)) s16
    else none
  else none
 else
  some (true,())
def pC(F:FsBuild)(t0:(List Int)):Option (Bool×Unit) :=
 F.s_l9Rex_L1 t0 0
def pD(F:FsBuild)(t0:(List Int))(t3:Int):Option (Bool×Unit) :=
 if(decide (t3<(List.length t0:Int)))=true then
  if(0:Int)≤t3∧t3<(List.length t0:Int) then
   if(decide ((List.getD t0 t3.toNat 0)=92))=true then
    if(decide ((w64 (t3+1))=(List.length t0:Int)))=true then
     some (false,())
    else
     if(0:Int)≤(w64 (t3+1))∧(w64 (t3+1))<(List.length t0:Int) then
      if(decide ((List.getD t0 (w64 (t3+1)).toNat 0)=47))=true then
       some (false,())
      else
       F.s_l9Rex_L1 t0 (w64 ((w64 (t3+1))+1))
     else none
   else
    F.s_l9Rex_L1 t0 (w64 (t3+1))
  else none
 else
  (F.s_l9Line t0).bind fun(r0:Bool×Unit) =>
  some (r0.1,())
def nK(F:FsBuild)(s0:bN)(t1:Int):Option (bC×bN×Unit) :=
 F.s_l3Part_L1 t1 [] s0 du
def nL(F:FsBuild)(t1:Int)(t5:(List bC))(s0:bN)(s64:bC):Option (bC×bN×Unit) :=
 if(!s0.bad)=true then
  if(decide (s0.at_<(List.length s0.s:Int)))=true then
   if(0:Int)≤s0.at_∧s0.at_<(List.length s0.s:Int) then
    if(!(decide ((List.getD s0.s s0.at_.toNat 0)=124)))=true then
     if(0:Int)≤s0.at_∧s0.at_<(List.length s0.s:Int) then
      if(!(decide ((List.getD s0.s s0.at_.toNat 0)=41)))=true then
       (F.s_l3Piece s0 t1).bind fun(r0:bC×bN×Unit) =>
       if List.length t5+1≤room then
        F.s_l3Part_L1 t1 (List.append t5 [r0.1]) r0.2.1 s64
       else none
      else
       if(decide ((List.length t5:Int)=0))=true then
        some ((bC.mk 11 0 [] false []),s0,())
       else
        if(decide ((List.length t5:Int)=1))=true then
         if(0:Int)≤0∧(0:Int)<(List.length t5:Int) then
          some ((List.getD t5 0 du),s0,())
         else none
        else
         some ((bC.mk 6 0 [] false t5),s0,())
     else none
    else
     if(decide ((List.length t5:Int)=0))=true then
      some ((bC.mk 11 0 [] false []),s0,())
     else
      if(decide ((List.length t5:Int)=1))=true then
       if(0:Int)≤0∧(0:Int)<(List.length t5:Int) then
        some ((List.getD t5 0 du),s0,())
       else none
      else
       some ((bC.mk 6 0 [] false t5),s0,())
   else none
  else
   if(decide ((List.length t5:Int)=0))=true then
    some ((bC.mk 11 0 [] false []),s0,())
   else
    if(decide ((List.length t5:Int)=1))=true then
     if(0:Int)≤0∧(0:Int)<(List.length t5:Int) then
      some ((List.getD t5 0 du),s0,())
     else none
    else
     some ((bC.mk 6 0 [] false t5),s0,())
 else
  if(decide ((List.length t5:Int)=0))=true then
   some ((bC.mk 11 0 [] false []),s0,())
  else
   if(decide ((List.length t5:Int)=1))=true then
    if(0:Int)≤0∧(0:Int)<(List.length t5:Int) then
     some ((List.getD t5 0 du),s0,())
    else none
   else
    some ((bC.mk 6 0 [] false t5),s0,())
def nJ(F:FsBuild)(s0:bN)(t1:Int):Option (Bool×bN×Unit) :=
 if(!s0.bad)=true then
  if(decide (s0.at_<(List.length s0.s:Int)))=true then
   if(0:Int)≤s0.at_∧s0.at_<(List.length s0.s:Int) then
    some ((decide ((List.getD s0.s s0.at_.toNat 0)=t1)),s0,())
   else none
  else
   some (false,s0,())
 else
  some (false,s0,())
def oI(F:FsBuild)(s0:bO):Option (Bool×bO×Unit) :=
 (F.s_l8Now s0).bind fun(r0:bF×bO×Unit) =>
 if(decide (r0.2.1.bad≥0))=true then
  some (false,r0.2.1,())
 else
  if(decide (r0.1.Kind=2))=true then
   F.s_l8Begins_L1 r0.1.Kind (decide (r0.1.Kind=2)) r0.2.1 r0.1
  else
   if(decide (r0.1.Kind=3))=true then
    F.s_l8Begins_L1 r0.1.Kind (decide (r0.1.Kind=3)) r0.2.1 r0.1
   else
    F.s_l8Begins_L1 r0.1.Kind (decide (r0.1.Kind=4)) r0.2.1 r0.1
def oJ(F:FsBuild)(t12:Int)(t13:Bool)(s0:bO)(s48:bF):Option (Bool×bO×Unit) :=
 if t13=true then
  some (true,s0,())
 else
  if(decide (t12=1))=true then
   (F.s_Keyword s48.Text).bind fun(r0:Bool×Unit) =>
   if(!r0.1)=true then
    some (true,s0,())
   else
    if(decide (s48.Text=[78,82]))=true then
     some (true,s0,())
    else
     if(decide (s48.Text=[78,70]))=true then
      some (true,s0,())
     else
      (F.s_l7Calls ).bind fun(r1:(List (List Int))×Unit) =>
      (F.s_l7Within r1.1 s48.Text).bind fun(r2:Bool×Unit) =>
      some (r2.1,s0,())
  else
   if(decide (s48.Kind=5))=true then
    if(decide (s48.Text=[36]))=true then
     some (true,s0,())
    else
     some ((decide (s48.Text=[40])),s0,())
   else
    some (false,s0,())
def oG(F:FsBuild)(s0:bO):Option (bv×bO×Unit) :=
 if s0.has=true then
  some (s0.kept,(bO.mk s0.list s0.at_ s0.bad false s0.kept),())
 else
  (F.s_l8Now s0).bind fun(r0:bF×bO×Unit) =>
  if(decide (r0.2.1.bad≥0))=true then
   some ((bv.mk 0 0 [] []),r0.2.1,())
  else
   if(decide (r0.1.Kind=2))=true then
    (F.s_l8Next r0.2.1).bind fun(r1:bO×Unit) =>
    some ((bv.mk 1 r0.1.N [] []),r1.1,())
   else
    if(decide (r0.1.Kind=3))=true then
     (F.s_l8Next r0.2.1).bind fun(r2:bO×Unit) =>
     some ((bv.mk 2 0 r0.1.Text []),r2.1,())
    else
     if(decide (r0.1.Kind=4))=true then
      (F.s_l8Next r0.2.1).bind fun(r3:bO×Unit) =>
      some ((bv.mk 3 0 r0.1.Text []),r3.1,())
     else
      if(decide (r0.1.Kind=1))=true then
       (F.s_l8Named r0.2.1).bind fun(r4:bv×bO×Unit) =>
       some (r4.1,r4.2.1,())
      else
       (F.s_l8Sign r0.2.1 [36]).bind fun(r5:Bool×bO×Unit) =>
       if r5.1=true then
        (F.s_l8Next r5.2.1).bind fun(r6:bO×Unit) =>
        (F.s_l8Atom r6.1).bind fun(r7:bv×bO×Unit) =>
        (F.s_l8Kids 6 [r7.1]).bind fun(r8:(Int×(Int×((List Int)×((List bv)×Unit))))×Unit) =>
        some ((bv.mk r8.1.1 r8.1.2.1 r8.1.2.2.1 r8.1.2.2.2.1),r7.2.1,())
       else
        (F.s_l8Take r5.2.1 [40]).bind fun(r9:bO×Unit) =>
        (F.s_l8E r9.1).bind fun(r10:bv×bO×Unit) =>
        (F.s_l8Take r10.2.1 [41]).bind fun(r11:bO×Unit) =>
        some (r10.1,r11.1,())
def pi(F:FsBuild)(t0:bv)(t1:Int)(t2:Int):Option (Bool×Unit) :=
 F.s_l9Es_L1 t2 t1 t0
def pj(F:FsBuild)(t2:Int)(t7:Int)(s48:bv):Option (Bool×Unit) :=
 if(decide (t7<t2))=true then
  if(0:Int)≤t7∧t7<(List.length s48.Kids:Int) then
   (F.s_l9IsE ((List.getD s48.Kids t7.toNat ct).Op)).bind fun(r0:Bool×Unit) =>
   if(!r0.1)=true then
    some (false,())
   else
    if(0:Int)≤t7∧t7<(List.length s48.Kids:Int) then
     (F.s_l9Node (List.getD s48.Kids t7.toNat ct)).bind fun(r1:Bool×Unit) =>
     if(!r1.1)=true then
      some (false,())
     else
      F.s_l9Es_L1 t2 (w64 (t7+1)) s48
    else none
  else none
 else
  some (true,())
def pg(F:FsBuild)(t0:bv)(t1:Int):Option (Bool×Unit) :=
 F.s_l9Blocks_L1 t1 t0
def ph(F:FsBuild)(t5:Int)(s32:bv):Option (Bool×Unit) :=
 if(decide (t5<(List.length s32.Kids:Int)))=true then
  if(0:Int)≤t5∧t5<(List.length s32.Kids:Int) then
   if(!(decide (((List.getD s32.Kids t5.toNat ct).Op)=29)))=true then
    some (false,())
   else
    if(0:Int)≤t5∧t5<(List.length s32.Kids:Int) then
     (F.s_l9Node (List.getD s32.Kids t5.toNat ct)).bind fun(r0:Bool×Unit) =>
     if(!r0.1)=true then
      some (false,())
     else
      F.s_l9Blocks_L1 (w64 (t5+1)) s32
    else none
  else none
 else
  some (true,())
def nO(F:FsBuild)(s0:bN)(t1:Int):Option (bC×bN×Unit) :=
 (F.s_l3Atom s0 t1).bind fun(r0:bC×bN×Unit) =>
 F.s_l3Piece_L1 r0.2.1 du r0.1
def nP(F:FsBuild)(s0:bN)(s64:bC)(s80:bC):Option (bC×bN×Unit) :=
 if(!s0.bad)=true then
  (F.s_l3Now s0 42).bind fun(r0:Bool×bN×Unit) =>
  if r0.1=true then
   F.s_l3Piece_L2 8 r0.2.1 s64 s80
  else
   (F.s_l3Now r0.2.1 43).bind fun(r1:Bool×bN×Unit) =>
   if r1.1=true then
    F.s_l3Piece_L2 9 r1.2.1 s64 s80
   else
    (F.s_l3Now r1.2.1 63).bind fun(r2:Bool×bN×Unit) =>
    if r2.1=true then
     F.s_l3Piece_L2 10 r2.2.1 s64 s80
    else
     F.s_l3Piece_L2 0 r2.2.1 s64 s80
 else
  some (s80,s0,())
def nQ(F:FsBuild)(t6:Int)(s0:bN)(s64:bC)(s80:bC):Option (bC×bN×Unit) :=
 if(decide (t6=0))=true then
  some (s80,s0,())
 else
  F.s_l3Piece_L1 (bN.mk s0.s (w64 (s0.at_+1)) s0.bad) s64 (bC.mk t6 0 [] false [s80])
def nF(F:FsBuild)(s0:bN)(t1:Int):Option (bC×bN×Unit) :=
 if s0.bad=true then
  some ((bC.mk 0 0 [] false []),(bN.mk s0.s s0.at_ true),())
 else
  if(decide (s0.at_≥(List.length s0.s:Int)))=true then
   some ((bC.mk 0 0 [] false []),(bN.mk s0.s s0.at_ true),())
  else
   if(decide (t1>40))=true then
    some ((bC.mk 0 0 [] false []),(bN.mk s0.s s0.at_ true),())
   else
    if(0:Int)≤s0.at_∧s0.at_<(List.length s0.s:Int) then
     if(decide ((List.getD s0.s s0.at_.toNat 0)=40))=true then
      (F.s_l3Pattern (bN.mk s0.s (w64 (s0.at_+1)) s0.bad) (w64 (t1+1))).bind fun(r0:bC×bN×Unit) =>
      (F.s_l3Now r0.2.1 41).bind fun(r1:Bool×bN×Unit) =>
      if(!r1.1)=true then
       some (r0.1,(bN.mk r1.2.1.s (w64 (r1.2.1.at_+1)) true),())
      else
       some (r0.1,(bN.mk r1.2.1.s (w64 (r1.2.1.at_+1)) r1.2.1.bad),())
     else
      if(decide ((List.getD s0.s s0.at_.toNat 0)=46))=true then
       some ((bC.mk 2 0 [] false []),(bN.mk s0.s (w64 (s0.at_+1)) s0.bad),())
      else
       if(decide ((List.getD s0.s s0.at_.toNat 0)=94))=true then
        some ((bC.mk 4 0 [] false []),(bN.mk s0.s (w64 (s0.at_+1)) s0.bad),())
       else
        if(decide ((List.getD s0.s s0.at_.toNat 0)=36))=true then
         some ((bC.mk 5 0 [] false []),(bN.mk s0.s (w64 (s0.at_+1)) s0.bad),())
        else
         if(decide ((List.getD s0.s s0.at_.toNat 0)=91))=true then
          (F.s_l3Set (bN.mk s0.s (w64 (s0.at_+1)) s0.bad)).bind fun(r2:bC×bN×Unit) =>
          some (r2.1,r2.2.1,())
         else
          if(decide ((List.getD s0.s s0.at_.toNat 0)=92))=true then
           if(decide ((w64 (s0.at_+1))≥(List.length s0.s:Int)))=true then
            some ((bC.mk 0 0 [] false []),(bN.mk s0.s (w64 (s0.at_+1)) true),())
           else
            if(0:Int)≤(w64 (s0.at_+1))∧(w64 (s0.at_+1))<(List.length s0.s:Int) then
             some ((bC.mk 1 (w64 (List.getD s0.s (w64 (s0.at_+1)).toNat 0)) [] false []),(bN.mk s0.s (w64 ((w64 (s0.at_+1))+1)) s0.bad),())
            else none
          else
           if(decide ((List.getD s0.s s0.at_.toNat 0)=42))=true then
            if(decide ((List.getD s0.s s0.at_.toNat 0)=42))=true then
             F.s_l3Atom_L1 (List.getD s0.s s0.at_.toNat 0) (bN.mk s0.s (w64 (s0.at_+1)) true) du
            else
             F.s_l3Atom_L1 (List.getD s0.s s0.at_.toNat 0) (bN.mk s0.s (w64 (s0.at_+1)) s0.bad) du
           else
            if(decide ((List.getD s0.s s0.at_.toNat 0)=43))=true then
             if(decide ((List.getD s0.s s0.at_.toNat 0)=43))=true then
              F.s_l3Atom_L1 (List.getD s0.s s0.at_.toNat 0) (bN.mk s0.s (w64 (s0.at_+1)) true) du
             else
              F.s_l3Atom_L1 (List.getD s0.s s0.at_.toNat 0) (bN.mk s0.s (w64 (s0.at_+1)) s0.bad) du
            else
             if(decide ((List.getD s0.s s0.at_.toNat 0)=63))=true then
              F.s_l3Atom_L1 (List.getD s0.s s0.at_.toNat 0) (bN.mk s0.s (w64 (s0.at_+1)) true) du
             else
              F.s_l3Atom_L1 (List.getD s0.s s0.at_.toNat 0) (bN.mk s0.s (w64 (s0.at_+1)) s0.bad) du
    else none
def nG(F:FsBuild)(t5:Int)(s0:bN)(s64:bC):Option (bC×bN×Unit) :=
 some ((bC.mk 1 (w64 t5) [] false []),s0,())
def mv(F:FsBuild)(t0:bC):Option ((List bz)×Unit) :=
 (F.s_RexOk t0).bind fun(r0:Bool×Unit) =>
 if(!r0.1)=true then
  some ([],())
 else
  (F.s_l4Of [] t0).bind fun(r1:(List bz)×Unit) =>
  (F.s_l4Put r1.1 8).bind fun(r2:(List bz)×Unit) =>
  some (r2.1,())
def nV(F:FsBuild)(s0:bN):Option (bC×bN×Unit) :=
 (F.s_l3Now s0 94).bind fun(r0:Bool×bN×Unit) =>
 if r0.1=true then
  F.s_l3Set_L1 (bN.mk r0.2.1.s (w64 (r0.2.1.at_+1)) r0.2.1.bad) du (bC.mk 3 0 [] true [])
 else
  F.s_l3Set_L1 r0.2.1 du (bC.mk 3 0 [] false [])
def nW(F:FsBuild)(s0:bN)(s32:bC)(s48:bC):Option (bC×bN×Unit) :=
 F.s_l3Set_L2 (List.replicate 256 false) 0 s0 s32 s48
def nX(F:FsBuild)(t4:(List Bool))(t5:Int)(s0:bN)(s32:bC)(s48:bC):Option (bC×bN×Unit) :=
 if(decide (s0.at_<(List.length s0.s:Int)))=true then
  if(0:Int)≤s0.at_∧s0.at_<(List.length s0.s:Int) then
   if(!(decide ((List.getD s0.s s0.at_.toNat 0)=93)))=true then
    if(0:Int)≤s0.at_∧s0.at_<(List.length s0.s:Int) then
     if(decide ((w64 ((w64 (s0.at_+1))+1))<(List.length s0.s:Int)))=true then
      if(0:Int)≤(w64 (s0.at_+1))∧(w64 (s0.at_+1))<(List.length s0.s:Int) then
       if(decide ((List.getD s0.s (w64 (s0.at_+1)).toNat 0)=45))=true then
        if(0:Int)≤(w64 ((w64 (s0.at_+1))+1))∧(w64 ((w64 (s0.at_+1))+1))<(List.length s0.s:Int) then
         if(!(decide ((List.getD s0.s (w64 ((w64 (s0.at_+1))+1)).toNat 0)=93)))=true then
          if(0:Int)≤(w64 ((w64 (s0.at_+1))+1))∧(w64 ((w64 (s0.at_+1))+1))<(List.length s0.s:Int) then
           F.s_l3Set_L3 t4 t5 (w64 (List.getD s0.s s0.at_.toNat 0)) (w64 (List.getD s0.s (w64 ((w64 (s0.at_+1))+1)).toNat 0)) (bN.mk s0.s (w64 ((w64 (s0.at_+1))+2)) s0.bad) s32 s48
          else none
         else
          F.s_l3Set_L3 t4 t5 (w64 (List.getD s0.s s0.at_.toNat 0)) (w64 (List.getD s0.s s0.at_.toNat 0)) (bN.mk s0.s (w64 (s0.at_+1)) s0.bad) s32 s48
        else none
       else
        F.s_l3Set_L3 t4 t5 (w64 (List.getD s0.s s0.at_.toNat 0)) (w64 (List.getD s0.s s0.at_.toNat 0)) (bN.mk s0.s (w64 (s0.at_+1)) s0.bad) s32 s48
      else none
     else
      F.s_l3Set_L3 t4 t5 (w64 (List.getD s0.s s0.at_.toNat 0)) (w64 (List.getD s0.s s0.at_.toNat 0)) (bN.mk s0.s (w64 (s0.at_+1)) s0.bad) s32 s48
    else none
   else
    if(decide (s0.at_≥(List.length s0.s:Int)))=true then
     F.s_l3Set_L4 t4 (bN.mk s0.s s0.at_ true) s32 s48
    else
     if(decide (t5=0))=true then
      F.s_l3Set_L4 t4 (bN.mk s0.s s0.at_ true) s32 s48
     else
      F.s_l3Set_L4 t4 s0 s32 s48
  else none
 else
  if(decide (s0.at_≥(List.length s0.s:Int)))=true then
   F.s_l3Set_L4 t4 (bN.mk s0.s s0.at_ true) s32 s48
  else
   if(decide (t5=0))=true then
    F.s_l3Set_L4 t4 (bN.mk s0.s s0.at_ true) s32 s48
   else
    F.s_l3Set_L4 t4 s0 s32 s48
def nY(F:FsBuild)(t4:(List Bool))(t5:Int)(t6:Int)(t7:Int)(s0:bN)(s32:bC)(s48:bC):Option (bC×bN×Unit) :=
 if(decide (t7<t6))=true then
  F.s_l3Set_L5 t4 t5 t6 t7 (bN.mk s0.s s0.at_ true) s32 s48
 else
  F.s_l3Set_L5 t4 t5 t6 t7 s0 s32 s48
def nZ(F:FsBuild)(t4:(List Bool))(s0:bN)(s32:bC)(s48:bC):Option (bC×bN×Unit) :=
 F.s_l3Set_L6 t4 [] 0 (bN.mk s0.s (w64 (s0.at_+1)) s0.bad) s32 s48
def n6(F:FsBuild)(t4:(List Bool))(t5:Int)(t6:Int)(t7:Int)(s0:bN)(s32:bC)(s48:bC):Option (bC×bN×Unit) :=
 F.s_l3Set_L7 t4 t5 t7 t6 s0 s32 s48
def n7(F:FsBuild)(t4:(List Bool))(t9:(List Int))(t10:Int)(s0:bN)(s32:bC)(s48:bC):Option (bC×bN×Unit) :=
 if(decide (t10<256))=true then
  if(0:Int)≤t10∧t10<(List.length t4:Int) then
   if(List.getD t4 t10.toNat false)=true then
    if List.length t9+1≤room then
     F.s_l3Set_L6 t4 (List.append t9 [(w8 t10)]) (w64 (t10+1)) s0 s32 s48
    else none
   else
    F.s_l3Set_L6 t4 t9 (w64 (t10+1)) s0 s32 s48
  else none
 else
  some ((bC.mk s48.Op s48.C t9 s48.Not s48.Kids),s0,())
def n8(F:FsBuild)(t4:(List Bool))(t5:Int)(t7:Int)(t8:Int)(s0:bN)(s32:bC)(s48:bC):Option (bC×bN×Unit) :=
 if(decide (t8≤t7))=true then
  if(0:Int)≤t8∧t8<(List.length t4:Int) then
   F.s_l3Set_L7 (List.set t4 t8.toNat true) t5 t7 (w64 (t8+1)) s0 s32 s48
  else none
 else
  F.s_l3Set_L2 t4 (w64 (t5+1)) s0 s32 s48
def mE(F:FsBuild)(t0:bC):Option (Bool×Unit) :=
 (F.s_l3Deep t0).bind fun(r0:Int×Unit) =>
 if(decide (r0.1≤12))=true then
  (F.s_l3Right t0).bind fun(r1:Bool×Unit) =>
  some (r1.1,())
 else
  some (false,())
def ob(F:FsBuild)(t0:(List bz))(t1:bC):Option ((List bz)×Unit) :=
 if(decide (t1.Op=1))=true then
  if List.length t0+1≤room then
   some ((List.append t0 [(bz.mk 1 t1.C [] false 0 0)]),())
  else none
 else
  if(decide (t1.Op=2))=true then
   (F.s_l4Put t0 2).bind fun(r0:(List bz)×Unit) =>
   some (r0.1,())
  else
   if(decide (t1.Op=3))=true then
    if List.length t0+1≤room then
     some ((List.append t0 [(bz.mk 3 0 t1.Set t1.Not 0 0)]),())
    else none
   else
    if(decide (t1.Op=4))=true then
     (F.s_l4Put t0 4).bind fun(r1:(List bz)×Unit) =>
     some (r1.1,())
    else
     if(decide (t1.Op=5))=true then
      (F.s_l4Put t0 5).bind fun(r2:(List bz)×Unit) =>
      some (r2.1,())
     else
      if(decide (t1.Op=6))=true then
       F.s_l4Of_L1 t0 0 t1
      else
       if(decide (t1.Op=7))=true then
        (F.s_l4Or t0 t1.Kids).bind fun(r3:(List bz)×Unit) =>
        some (r3.1,())
       else
        if(decide (t1.Op=8))=true then
         (F.s_l4Put t0 7).bind fun(r4:(List bz)×Unit) =>
         if(0:Int)≤0∧(0:Int)<(List.length t1.Kids:Int) then
          (F.s_l4Of r4.1 (List.getD t1.Kids 0 du)).bind fun(r5:(List bz)×Unit) =>
          if List.length r5.1+1≤room then
           if(0:Int)≤(List.length t0:Int)∧(List.length t0:Int)<(List.length (List.append r5.1 [(bz.mk 6 0 [] false (List.length t0:Int) 0)]):Int) then
            let v0:(List bz):=(List.set (List.append r5.1 [(bz.mk 6 0 [] false (List.length t0:Int) 0)]) (List.length t0:Int).toNat (bz.mk ((List.getD (List.append r5.1 [(bz.mk 6 0 [] false (List.length t0:Int) 0)]) (List.length t0:Int).toNat cl).Op) ((List.getD (List.append r5.1 [(bz.mk 6 0 [] false (List.length t0:Int) 0)]) (List.length t0:Int).toNat cl).C) ((List.getD (List.append r5.1 [(bz.mk 6 0 [] false (List.length t0:Int) 0)]) (List.length t0:Int).toNat cl).Set) ((List.getD (List.append r5.1 [(bz.mk 6 0 [] false (List.length t0:Int) 0)]) (List.length t0:Int).toNat cl).Not) (w64 ((List.length t0:Int)+1)) ((List.getD (List.append r5.1 [(bz.mk 6 0 [] false (List.length t0:Int) 0)]) (List.length t0:Int).toNat cl).B)))
            if(0:Int)≤(List.length t0:Int)∧(List.length t0:Int)<(List.length v0:Int) then
             let v1:(List bz):=(List.set v0 (List.length t0:Int).toNat (bz.mk ((List.getD v0 (List.length t0:Int).toNat cl).Op) ((List.getD v0 (List.length t0:Int).toNat cl).C) ((List.getD v0 (List.length t0:Int).toNat cl).Set) ((List.getD v0 (List.length t0:Int).toNat cl).Not) ((List.getD v0 (List.length t0:Int).toNat cl).A) (List.length v0:Int)))
             F.s_l4Of_L2 v1
            else none
           else none
          else none
         else none
        else
         if(decide (t1.Op=9))=true then
          if(0:Int)≤0∧(0:Int)<(List.length t1.Kids:Int) then
           (F.s_l4Of t0 (List.getD t1.Kids 0 du)).bind fun(r6:(List bz)×Unit) =>
           if List.length r6.1+1≤room then
            F.s_l4Of_L2 (List.append r6.1 [(bz.mk 7 0 [] false (List.length t0:Int) (w64 ((List.length r6.1:Int)+1)))])
           else none
          else none
         else
          if(decide (t1.Op=10))=true then
           (F.s_l4Put t0 7).bind fun(r7:(List bz)×Unit) =>
           if(0:Int)≤0∧(0:Int)<(List.length t1.Kids:Int) then
            (F.s_l4Of r7.1 (List.getD t1.Kids 0 du)).bind fun(r8:(List bz)×Unit) =>
            if(0:Int)≤(List.length t0:Int)∧(List.length t0:Int)<(List.length r8.1:Int) then
             let v2:(List bz):=(List.set r8.1 (List.length t0:Int).toNat (bz.mk ((List.getD r8.1 (List.length t0:Int).toNat cl).Op) ((List.getD r8.1 (List.length t0:Int).toNat cl).C) ((List.getD r8.1 (List.length t0:Int).toNat cl).Set) ((List.getD r8.1 (List.length t0:Int).toNat cl).Not) (w64 ((List.length t0:Int)+1)) ((List.getD r8.1 (List.length t0:Int).toNat cl).B)))
             if(0:Int)≤(List.length t0:Int)∧(List.length t0:Int)<(List.length v2:Int) then
              let v3:(List bz):=(List.set v2 (List.length t0:Int).toNat (bz.mk ((List.getD v2 (List.length t0:Int).toNat cl).Op) ((List.getD v2 (List.length t0:Int).toNat cl).C) ((List.getD v2 (List.length t0:Int).toNat cl).Set) ((List.getD v2 (List.length t0:Int).toNat cl).Not) ((List.getD v2 (List.length t0:Int).toNat cl).A) (List.length v2:Int)))
              F.s_l4Of_L2 v3
             else none
            else none
           else none
          else
           F.s_l4Of_L2 t0
def oc(F:FsBuild)(t0:(List bz))(t6:Int)(s48:bC):Option ((List bz)×Unit) :=
 if(decide (t6<(List.length s48.Kids:Int)))=true then
  if(0:Int)≤t6∧t6<(List.length s48.Kids:Int) then
   (F.s_l4Of t0 (List.getD s48.Kids t6.toNat du)).bind fun(r0:(List bz)×Unit) =>
   F.s_l4Of_L1 r0.1 (w64 (t6+1)) s48
  else none
 else
  F.s_l4Of_L2 t0
def od(F:FsBuild)(t0:(List bz)):Option ((List bz)×Unit) :=
 some (t0,())
def oj(F:FsBuild)(t0:(List bz))(t1:Int):Option ((List bz)×Unit) :=
 if List.length t0+1≤room then
  some ((List.append t0 [(bz.mk t1 0 [] false 0 0)]),())
 else none
def nR(F:FsBuild)(t0:bC):Option (Bool×Unit) :=
 F.s_l3Right_L1 0 t0
def nS(F:FsBuild)(t3:Int)(s16:bC):Option (Bool×Unit) :=
 if(decide (t3<(List.length s16.Kids:Int)))=true then
  if(0:Int)≤t3∧t3<(List.length s16.Kids:Int) then
   (F.s_l3Right (List.getD s16.Kids t3.toNat du)).bind fun(r0:Bool×Unit) =>
   if(!r0.1)=true then
    some (false,())
   else
    F.s_l3Right_L1 (w64 (t3+1)) s16
  else none
 else
  if(decide (s16.Op=1))=true then
   (F.s_l1In s16.C 0 255).bind fun(r1:Bool×Unit) =>
   if r1.1=true then
    if(decide (s16.Set=[]))=true then
     if(!s16.Not)=true then
      some ((decide ((List.length s16.Kids:Int)=0)),())
     else
      some (false,())
    else
     some (false,())
   else
    some (false,())
  else
   if(decide (s16.Op=3))=true then
    if(decide (s16.C=0))=true then
     if(!(decide (s16.Set=[])))=true then
      (F.s_l3Up s16.Set).bind fun(r2:Bool×Unit) =>
      if r2.1=true then
       some ((decide ((List.length s16.Kids:Int)=0)),())
      else
       some (false,())
     else
      some (false,())
    else
     some (false,())
   else
    if(decide (s16.Op=6))=true then
     F.s_l3Right_L2 (List.length s16.Kids:Int) s16.Op (decide (s16.Op=6)) s16
    else
     F.s_l3Right_L2 (List.length s16.Kids:Int) s16.Op (decide (s16.Op=7)) s16
def nT(F:FsBuild)(t4:Int)(t23:Int)(t62:Bool)(s16:bC):Option (Bool×Unit) :=
 if t62=true then
  if(decide (s16.C=0))=true then
   if(decide (s16.Set=[]))=true then
    if(!s16.Not)=true then
     some ((decide (t4≥2)),())
    else
     some (false,())
   else
    some (false,())
  else
   some (false,())
 else
  if(decide (t23=8))=true then
   F.s_l3Right_L3 t4 (decide (t23=8)) s16
  else
   if(decide (t23=9))=true then
    F.s_l3Right_L3 t4 (decide (t23=9)) s16
   else
    F.s_l3Right_L3 t4 (decide (t23=10)) s16
def nU(F:FsBuild)(t4:Int)(t82:Bool)(s16:bC):Option (Bool×Unit) :=
 if t82=true then
  if(decide (s16.C=0))=true then
   if(decide (s16.Set=[]))=true then
    if(!s16.Not)=true then
     some ((decide (t4=1)),())
    else
     some (false,())
   else
    some (false,())
  else
   some (false,())
 else
  (F.s_l1In s16.Op 2 11).bind fun(r0:Bool×Unit) =>
  if r0.1=true then
   if(decide (s16.C=0))=true then
    if(decide (s16.Set=[]))=true then
     if(!s16.Not)=true then
      some ((decide (t4=0)),())
     else
      some (false,())
    else
     some (false,())
   else
    some (false,())
  else
   some (false,())
def oe(F:FsBuild)(t0:(List bz))(t1:(List bC)):Option ((List bz)×Unit) :=
 F.s_l4Or_L1 t0 t1 [] 0
def oh(F:FsBuild)(t0:(List bz))(t1:(List bC))(t5:(List Int))(t6:Int):Option ((List bz)×Unit) :=
 if(decide (t6<(w64 ((List.length t1:Int)-1))))=true then
  (F.s_l4Put t0 7).bind fun(r0:(List bz)×Unit) =>
  if(0:Int)≤t6∧t6<(List.length t1:Int) then
   (F.s_l4Of r0.1 (List.getD t1 t6.toNat du)).bind fun(r1:(List bz)×Unit) =>
   if List.length t5+1≤room then
    (F.s_l4Put r1.1 6).bind fun(r2:(List bz)×Unit) =>
    if(0:Int)≤(List.length t0:Int)∧(List.length t0:Int)<(List.length r2.1:Int) then
     let v0:(List bz):=(List.set r2.1 (List.length t0:Int).toNat (bz.mk ((List.getD r2.1 (List.length t0:Int).toNat cl).Op) ((List.getD r2.1 (List.length t0:Int).toNat cl).C) ((List.getD r2.1 (List.length t0:Int).toNat cl).Set) ((List.getD r2.1 (List.length t0:Int).toNat cl).Not) (w64 ((List.length t0:Int)+1)) ((List.getD r2.1 (List.length t0:Int).toNat cl).B)))
     if(0:Int)≤(List.length t0:Int)∧(List.length t0:Int)<(List.length v0:Int) then
      let v1:(List bz):=(List.set v0 (List.length t0:Int).toNat (bz.mk ((List.getD v0 (List.length t0:Int).toNat cl).Op) ((List.getD v0 (List.length t0:Int).toNat cl).C) ((List.getD v0 (List.length t0:Int).toNat cl).Set) ((List.getD v0 (List.length t0:Int).toNat cl).Not) ((List.getD v0 (List.length t0:Int).toNat cl).A) (List.length v0:Int)))
      F.s_l4Or_L1 v1 t1 (List.append t5 [(List.length r1.1:Int)]) (w64 (t6+1))
     else none
    else none
   else none
  else none
 else
  if(0:Int)≤(w64 ((List.length t1:Int)-1))∧(w64 ((List.length t1:Int)-1))<(List.length t1:Int) then
   (F.s_l4Of t0 (List.getD t1 (w64 ((List.length t1:Int)-1)).toNat du)).bind fun(r3:(List bz)×Unit) =>
   F.s_l4Or_L2 r3.1 t5 0
  else none
def oi(F:FsBuild)(t0:(List bz))(t5:(List Int))(t8:Int):Option ((List bz)×Unit) :=
 if(decide (t8<(List.length t5:Int)))=true then
  if(0:Int)≤t8∧t8<(List.length t5:Int) then
   if(0:Int)≤(List.getD t5 t8.toNat 0)∧(List.getD t5 t8.toNat 0)<(List.length t0:Int) then
    let v2:(List bz):=(List.set t0 (List.getD t5 t8.toNat 0).toNat (bz.mk ((List.getD t0 (List.getD t5 t8.toNat 0).toNat cl).Op) ((List.getD t0 (List.getD t5 t8.toNat 0).toNat cl).C) ((List.getD t0 (List.getD t5 t8.toNat 0).toNat cl).Set) ((List.getD t0 (List.getD t5 t8.toNat 0).toNat cl).Not) (List.length t0:Int) ((List.getD t0 (List.getD t5 t8.toNat 0).toNat cl).B)))
    F.s_l4Or_L2 v2 t5 (w64 (t8+1))
   else none
  else none
 else
  some (t0,())
def n9(F:FsBuild)(t0:(List Int)):Option (Bool×Unit) :=
 F.s_l3Up_L1 t0 1
def oa(F:FsBuild)(t0:(List Int))(t3:Int):Option (Bool×Unit) :=
 if(decide (t3<(List.length t0:Int)))=true then
  if(0:Int)≤(w64 (t3-1))∧(w64 (t3-1))<(List.length t0:Int) then
   if(0:Int)≤t3∧t3<(List.length t0:Int) then
    if(decide ((List.getD t0 (w64 (t3-1)).toNat 0)≥(List.getD t0 t3.toNat 0)))=true then
     some (false,())
    else
     F.s_l3Up_L1 t0 (w64 (t3+1))
   else none
  else none
 else
  some (true,())
noncomputable def bQ:FsBuild:=⟨s_l1In,s_Build,s_ProgOk,s_ProgOk_L1,s_ProgOk_L2,s_l9Line,s_l9Line_L1,s_Parse,s_Parse_L1,s_Compile,s_Compile_L1,s_l9Name,s_l9Name_L1,s_l7Within,s_l7Within_L1,s_OpsOk,s_OpsOk_L1,s_Tokens,s_Tokens_L1,s_Tokens_L2,s_l8Now,s_l8Rule,s_Deep,s_Deep_L1,s_l1Max,s_Check,s_Check_L1,s_Check_L2,s_Check_L3,s_Check_L4,s_Names,s_Names_L1,s_l14Block,s_l14Block_L1,s_l14E,s_l14E_L1,s_l14E_L2,s_l14Put,s_l7Letter,s_Keyword,s_l13Op,s_l13Op_L1,s_l13Op_L2,s_l13Op_L3,s_l13Op_L4,s_l7One,s_l7One_L1,s_l8Is,s_l8Next,s_l8Block,s_l8Block_L1,s_l8Sign,s_l8E,s_l8E_L1,s_l8Kids,s_Tidy,s_Tidy_L1,s_l10Line,s_l10Line_L1,s_l10Args,s_l10Args_L1,s_l10Args_L2,s_l10Rexes,s_l10Rexes_L1,s_l10Names,s_l10Names_L1,s_l10Names_L2,s_l14Stmt,s_l14Set,s_l14And,s_l14Or,s_l14Last,s_l7Calls,s_DecOk,s_RexParse,s_l2Digit,s_l7Number,s_l7Number_L1,s_l7Number_L2,s_l7Number_L3,s_l7Text,s_l7Text_L1,s_l7After,s_l7Rex,s_l7Rex_L1,s_l7Sign,s_l7Sign_L1,s_l8Take,s_l8Stmt,s_l8Named,s_l8Level,s_l9Node,s_l9Node_L1,s_l9IsE,s_l10Put,s_l10Put_L1,s_l14Print,s_l14Print_L1,s_l14Print_L2,s_l14If,s_l14While,s_l12Where,s_l12Where_L1,s_l1Bit,s_l3Pattern,s_l3Pattern_L1,s_l3Deep,s_l3Deep_L1,s_DecFront,s_DecFront_L1,s_DecFront_L2,s_DecFront_L3,s_DecFront_L4,s_DecFront_L5,s_l8Bad,s_l8While,s_l8Simple,s_l8Simple_L1,s_l8Es,s_l8Es_L1,s_l8Name,s_l8Compare,s_l8Compare_L1,s_l8Row,s_l8Row_L1,s_l8Unit,s_l8Left,s_l8Left_L1,s_l8Left_L2,s_l8Left_L3,s_l9Kids,s_l9Kids_L1,s_l9Kids_L2,s_l9Kids_L3,s_l9Kids_L4,s_l9Kids_L5,s_l9Rex,s_l9Rex_L1,s_l3Part,s_l3Part_L1,s_l3Now,s_l8Begins,s_l8Begins_L1,s_l8Atom,s_l9Es,s_l9Es_L1,s_l9Blocks,s_l9Blocks_L1,s_l3Piece,s_l3Piece_L1,s_l3Piece_L2,s_l3Atom,s_l3Atom_L1,s_NfaOf,s_l3Set,s_l3Set_L1,s_l3Set_L2,s_l3Set_L3,s_l3Set_L4,s_l3Set_L5,s_l3Set_L6,s_l3Set_L7,s_RexOk,s_l4Of,s_l4Of_L1,s_l4Of_L2,s_l4Put,s_l3Right,s_l3Right_L1,s_l3Right_L2,s_l3Right_L3,s_l4Or,s_l4Or_L1,s_l4Or_L2,s_l3Up,s_l3Up_L1⟩
theorem Gz{F:FsBuild}(H:LeFsBuild F):∀ (t0:Int) (t1:Int) (t2:Int),LeO (nC F t0 t1 t2) (s_l1In t0 t1 t2):=fun t0 t1 t2=>(show s_l1In t0 t1 t2=nC bQ t0 t1 t2 from leq (by kernel_rfl)).symm ▸ (show LeO (nC F t0 t1 t2) (nC bQ t0 t1 t2) from(li lr lr))
theorem EY{F:FsBuild}(H:LeFsBuild F):∀ (t0:(List Int)),LeO (l8 F t0) (s_Build t0):=fun t0=>(show s_Build t0=l8 bQ t0 from leq (by kernel_rfl)).symm ▸ (show LeO (l8 F t0) (l8 bQ t0) from(lb (H.s_Parse _) fun _=>(li lr (lb (H.s_Compile _) fun _=>lr))))
theorem FE{F:FsBuild}(H:LeFsBuild F):∀ (t0:bA),LeO (mB F t0) (s_ProgOk t0):=fun t0=>(show s_ProgOk t0=mB bQ t0 from leq (by kernel_rfl)).symm ▸ (show LeO (mB F t0) (mB bQ t0) from(H.s_ProgOk_L1 _ _))
theorem FF{F:FsBuild}(H:LeFsBuild F):∀ (t3:Int) (s16:bA),LeO (mC F t3 s16) (s_ProgOk_L1 t3 s16):=fun t3 s16=>(show s_ProgOk_L1 t3 s16=mC bQ t3 s16 from leq (by kernel_rfl)).symm ▸ (show LeO (mC F t3 s16) (mC bQ t3 s16) from(li (li (lb (H.s_l9Name _) fun _=>(li lr (li (lb (H.s_l7Within _ _) fun _=>(li lr (li (li (li (li lr (H.s_ProgOk_L1 _ _)) lr) lr) (H.s_ProgOk_L1 _ _)))) lr))) lr) (H.s_ProgOk_L2 _ _)))
theorem FG{F:FsBuild}(H:LeFsBuild F):∀ (t4:Int) (s16:bA),LeO (mD F t4 s16) (s_ProgOk_L2 t4 s16):=fun t4 s16=>(show s_ProgOk_L2 t4 s16=mD bQ t4 s16 from leq (by kernel_rfl)).symm ▸ (show LeO (mD F t4 s16) (mD bQ t4 s16) from(li (li (lb (H.s_l9Name _) fun _=>(li lr (li (li (li (li lr (H.s_ProgOk_L2 _ _)) lr) lr) (H.s_ProgOk_L2 _ _)))) lr) (li (li (lb (H.s_OpsOk _ _ _) fun _=>(li (lb (H.s_OpsOk _ _ _) fun _=>lr) lr)) lr) lr)))
theorem Ib{F:FsBuild}(H:LeFsBuild F):∀ (t0:(List Int)),LeO (pv F t0) (s_l9Line t0):=fun t0=>(show s_l9Line t0=pv bQ t0 from leq (by kernel_rfl)).symm ▸ (show LeO (pv F t0) (pv bQ t0) from(H.s_l9Line_L1 _ _))
theorem Ic{F:FsBuild}(H:LeFsBuild F):∀ (t0:(List Int)) (t3:Int),LeO (pw F t0 t3) (s_l9Line_L1 t0 t3):=fun t0 t3=>(show s_l9Line_L1 t0 t3=pw bQ t0 t3 from leq (by kernel_rfl)).symm ▸ (show LeO (pw F t0 t3) (pw bQ t0 t3) from(li (li (li lr (H.s_l9Line_L1 _ _)) lr) lr))
theorem FC{F:FsBuild}(H:LeFsBuild F):∀ (t0:(List Int)),LeO (mz F t0) (s_Parse t0):=fun t0=>(show s_Parse t0=mz bQ t0 from leq (by kernel_rfl)).symm ▸ (show LeO (mz F t0) (mz bQ t0) from(lb (H.s_Tokens _) fun _=>(li lr (H.s_Parse_L1 _ _ _ _ _ _ _ _))))
theorem FD{F:FsBuild}(H:LeFsBuild F):∀ (t4:(List bD)) (t8:(List bD)) (t9:Int) (s368_0:(List bF)) (s368_1:Int) (s368_2:Int) (s368_3:Bool) (s368_4:bv),LeO (mA F t4 t8 t9 s368_0 s368_1 s368_2 s368_3 s368_4) (s_Parse_L1 t4 t8 t9 s368_0 s368_1 s368_2 s368_3 s368_4):=fun t4 t8 t9 s368_0 s368_1 s368_2 s368_3 s368_4=>(show s_Parse_L1 t4 t8 t9 s368_0 s368_1 s368_2 s368_3 s368_4=mA bQ t4 t8 t9 s368_0 s368_1 s368_2 s368_3 s368_4 from leq (by kernel_rfl)).symm ▸ (show LeO (mA F t4 t8 t9 s368_0 s368_1 s368_2 s368_3 s368_4) (mA bQ t4 t8 t9 s368_0 s368_1 s368_2 s368_3 s368_4) from(li (lb (H.s_l8Now _) fun _=>(li (lb (H.s_l8Rule _) fun _=>(li (lb (H.s_Deep _) fun _=>(lb (H.s_Deep _) fun _=>(lb (H.s_l1Max _ _) fun _=>(lb (H.s_l1Max _ _) fun _=>(H.s_Parse_L1 _ _ _ _ _ _ _ _))))) lr)) (li lr (li lr lr)))) (li lr (li lr lr))))
theorem E7{F:FsBuild}(H:LeFsBuild F):∀ (t0:(List bD)),LeO (me F t0) (s_Compile t0):=fun t0=>(show s_Compile t0=me bQ t0 from leq (by kernel_rfl)).symm ▸ (show LeO (me F t0) (me bQ t0) from(lb (H.s_Check _) fun _=>(li lr (lb (H.s_Names _) fun _=>(H.s_Compile_L1 _ _ _ _ _ _ _ _ _ _ _)))))
theorem E8{F:FsBuild}(H:LeFsBuild F):∀ (t0:(List bD)) (t5:(List (List Int))) (t6:(List (List Int))) (t9:Int) (s32:bA) (s432_0:(List (List Int))) (s432_1:(List (List Int))) (s432_2:(List bw)) (s496_0:(List (List Int))) (s496_1:(List (List Int))) (s496_2:(List bw)),LeO (mf F t0 t5 t6 t9 s32 s432_0 s432_1 s432_2 s496_0 s496_1 s496_2) (s_Compile_L1 t0 t5 t6 t9 s32 s432_0 s432_1 s432_2 s496_0 s496_1 s496_2):=fun t0 t5 t6 t9 s32 s432_0 s432_1 s432_2 s496_0 s496_1 s496_2=>(show s_Compile_L1 t0 t5 t6 t9 s32 s432_0 s432_1 s432_2 s496_0 s496_1 s496_2=mf bQ t0 t5 t6 t9 s32 s432_0 s432_1 s432_2 s496_0 s496_1 s496_2 from leq (by kernel_rfl)).symm ▸ (show LeO (mf F t0 t5 t6 t9 s32 s432_0 s432_1 s432_2 s496_0 s496_1 s496_2) (mf bQ t0 t5 t6 t9 s32 s432_0 s432_1 s432_2 s496_0 s496_1 s496_2) from(li (li (li (lb (H.s_l14Block _ _ _ _) fun _=>(H.s_Compile_L1 _ _ _ _ _ _ _ _ _ _ _)) (li (lb (H.s_l14Block _ _ _ _) fun _=>(H.s_Compile_L1 _ _ _ _ _ _ _ _ _ _ _)) (lb (H.s_l14E _ _ _ _) fun _=>(lb (H.s_l14Put _ _ _ _ _ _) fun _=>(lb (H.s_l14Block _ _ _ _) fun _=>(li (H.s_Compile_L1 _ _ _ _ _ _ _ _ _ _ _) lr)))))) lr) (lb (H.s_l14Put _ _ _ _ _ _) fun _=>(lb (H.s_l14Put _ _ _ _ _ _) fun _=>(lb (H.s_ProgOk _) fun _=>(li lr lr))))))
theorem Id{F:FsBuild}(H:LeFsBuild F):∀ (t0:(List Int)),LeO (px F t0) (s_l9Name t0):=fun t0=>(show s_l9Name t0=px bQ t0 from leq (by kernel_rfl)).symm ▸ (show LeO (px F t0) (px bQ t0) from(H.s_l9Name_L1 _ _))
theorem Ie{F:FsBuild}(H:LeFsBuild F):∀ (t0:(List Int)) (t3:Int),LeO (py F t0 t3) (s_l9Name_L1 t0 t3):=fun t0 t3=>(show s_l9Name_L1 t0 t3=py bQ t0 t3 from leq (by kernel_rfl)).symm ▸ (show LeO (py F t0 t3) (py bQ t0 t3) from(li (li (lb (H.s_l7Letter _) fun _=>(li lr (H.s_l9Name_L1 _ _))) lr) (lb (H.s_l1In _ _ _) fun _=>(li (lb (H.s_Keyword _) fun _=>lr) lr))))
theorem Hr{F:FsBuild}(H:LeFsBuild F):∀ (t0:(List (List Int))) (t1:(List Int)),LeO (oE F t0 t1) (s_l7Within t0 t1):=fun t0 t1=>(show s_l7Within t0 t1=oE bQ t0 t1 from leq (by kernel_rfl)).symm ▸ (show LeO (oE F t0 t1) (oE bQ t0 t1) from(H.s_l7Within_L1 _ _ _))
theorem Hs{F:FsBuild}(H:LeFsBuild F):∀ (t0:(List (List Int))) (t1:(List Int)) (t5:Int),LeO (oF F t0 t1 t5) (s_l7Within_L1 t0 t1 t5):=fun t0 t1 t5=>(show s_l7Within_L1 t0 t1 t5=oF bQ t0 t1 t5 from leq (by kernel_rfl)).symm ▸ (show LeO (oF F t0 t1 t5) (oF bQ t0 t1 t5) from(li (li (li lr (H.s_l7Within_L1 _ _ _)) lr) lr))
theorem FA{F:FsBuild}(H:LeFsBuild F):∀ (t0:(List bw)) (t1:Int) (t2:Int),LeO (mw F t0 t1 t2) (s_OpsOk t0 t1 t2):=fun t0 t1 t2=>(show s_OpsOk t0 t1 t2=mw bQ t0 t1 t2 from leq (by kernel_rfl)).symm ▸ (show LeO (mw F t0 t1 t2) (mw bQ t0 t1 t2) from(lb (H.s_l1In _ _ _) fun _=>(li lr (li (li lr (H.s_OpsOk_L1 _ _ _ _ _)) lr))))
theorem FB{F:FsBuild}(H:LeFsBuild F):∀ (t0:(List bw)) (t1:Int) (t2:Int) (t7:Int) (t8:Int),LeO (my F t0 t1 t2 t7 t8) (s_OpsOk_L1 t0 t1 t2 t7 t8):=fun t0 t1 t2 t7 t8=>(show s_OpsOk_L1 t0 t1 t2 t7 t8=my bQ t0 t1 t2 t7 t8 from leq (by kernel_rfl)).symm ▸ (show LeO (my F t0 t1 t2 t7 t8) (my bQ t0 t1 t2 t7 t8) from(li (li (lb (H.s_l13Op _ _ _ _) fun _=>(li lr (H.s_OpsOk_L1 _ _ _ _ _))) lr) lr))
theorem FL{F:FsBuild}(H:LeFsBuild F):∀ (t0:(List Int)),LeO (mI F t0) (s_Tokens t0):=fun t0=>(show s_Tokens t0=mI bQ t0 from leq (by kernel_rfl)).symm ▸ (show LeO (mI F t0) (mI bQ t0) from(li lr (H.s_Tokens_L1 _ _ _)))
theorem FM{F:FsBuild}(H:LeFsBuild F):∀ (t0:(List Int)) (t4:(List bF)) (t5:Int),LeO (mJ F t0 t4 t5) (s_Tokens_L1 t0 t4 t5):=fun t0 t4 t5=>(show s_Tokens_L1 t0 t4 t5=mJ bQ t0 t4 t5 from leq (by kernel_rfl)).symm ▸ (show LeO (mJ F t0 t4 t5) (mJ bQ t0 t4 t5) from(li (li (li (H.s_Tokens_L1 _ _ _) (li (li (H.s_Tokens_L1 _ _ _) (li (li (H.s_Tokens_L2 _ _ _) (lb (H.s_l7One _ _ _) fun _=>(li lr (li (H.s_Tokens_L1 _ _ _) lr)))) lr)) lr)) lr) (li lr lr)))
theorem FN{F:FsBuild}(H:LeFsBuild F):∀ (t0:(List Int)) (t4:(List bF)) (t5:Int),LeO (mK F t0 t4 t5) (s_Tokens_L2 t0 t4 t5):=fun t0 t4 t5=>(show s_Tokens_L2 t0 t4 t5=mK bQ t0 t4 t5 from leq (by kernel_rfl)).symm ▸ (show LeO (mK F t0 t4 t5) (mK bQ t0 t4 t5) from(li (li (li (H.s_Tokens_L2 _ _ _) (H.s_Tokens_L1 _ _ _)) lr) (H.s_Tokens_L1 _ _ _)))
theorem HP{F:FsBuild}(H:LeFsBuild F):∀ (s0:bO),LeO (o4 F s0) (s_l8Now s0):=fun s0=>(show s_l8Now s0=o4 bQ s0 from leq (by kernel_rfl)).symm ▸ (show LeO (o4 F s0) (o4 bQ s0) from(li lr lr))
theorem HS{F:FsBuild}(H:LeFsBuild F):∀ (s0:bO),LeO (o7 F s0) (s_l8Rule s0):=fun s0=>(show s_l8Rule s0=o7 bQ s0 from leq (by kernel_rfl)).symm ▸ (show LeO (o7 F s0) (o7 bQ s0) from(lb (H.s_l8Is _ _) fun _=>(li (lb (H.s_l8Next _) fun _=>(lb (H.s_l8Block _) fun _=>lr)) (lb (H.s_l8Sign _ _) fun _=>(li (lb (H.s_l8Block _) fun _=>lr) (lb (H.s_l8E _) fun _=>(lb (H.s_l8Sign _ _) fun _=>(li (lb (H.s_l8Block _) fun _=>lr) (lb (H.s_l8Kids _ _) fun _=>lr)))))))))
theorem Fm{F:FsBuild}(H:LeFsBuild F):∀ (t0:bv),LeO (mp F t0) (s_Deep t0):=fun t0=>(show s_Deep t0=mp bQ t0 from leq (by kernel_rfl)).symm ▸ (show LeO (mp F t0) (mp bQ t0) from(H.s_Deep_L1 _ _ _))
theorem Fp{F:FsBuild}(H:LeFsBuild F):∀ (t3:Int) (t4:Int) (s16:bv),LeO (mq F t3 t4 s16) (s_Deep_L1 t3 t4 s16):=fun t3 t4 s16=>(show s_Deep_L1 t3 t4 s16=mq bQ t3 t4 s16 from leq (by kernel_rfl)).symm ▸ (show LeO (mq F t3 t4 s16) (mq bQ t3 t4 s16) from(li (li (lb (H.s_Deep _) fun _=>(lb (H.s_l1Max _ _) fun _=>(H.s_Deep_L1 _ _ _))) lr) lr))
theorem GA{F:FsBuild}(H:LeFsBuild F):∀ (t0:Int) (t1:Int),LeO (nD F t0 t1) (s_l1Max t0 t1):=fun t0 t1=>(show s_l1Max t0 t1=nD bQ t0 t1 from leq (by kernel_rfl)).symm ▸ (show LeO (nD F t0 t1) (nD bQ t0 t1) from(li lr lr))
theorem EZ{F:FsBuild}(H:LeFsBuild F):∀ (t0:(List bD)),LeO (l9 F t0) (s_Check t0):=fun t0=>(show s_Check t0=l9 bQ t0 from leq (by kernel_rfl)).symm ▸ (show LeO (l9 F t0) (l9 bQ t0) from(lb (H.s_Tidy _) fun _=>(li lr (H.s_Check_L1 _ _))))
theorem E3{F:FsBuild}(H:LeFsBuild F):∀ (t0:(List bD)) (t3:Int),LeO (ma F t0 t3) (s_Check_L1 t0 t3):=fun t0 t3=>(show s_Check_L1 t0 t3=ma bQ t0 t3 from leq (by kernel_rfl)).symm ▸ (show LeO (ma F t0 t3) (ma bQ t0 t3) from(li (li (li (li lr (li (lb (H.s_l10Line _) fun _=>(li lr (H.s_Check_L1 _ _))) lr)) (H.s_Check_L1 _ _)) lr) (lb (H.s_Names _) fun _=>(li lr (li lr (H.s_Check_L2 _ _ _ _))))))
theorem E4{F:FsBuild}(H:LeFsBuild F):∀ (t0:(List bD)) (t4:(List (List Int))) (t5:(List (List Int))) (t6:Int),LeO (mb F t0 t4 t5 t6) (s_Check_L2 t0 t4 t5 t6):=fun t0 t4 t5 t6=>(show s_Check_L2 t0 t4 t5 t6=mb bQ t0 t4 t5 t6 from leq (by kernel_rfl)).symm ▸ (show LeO (mb F t0 t4 t5 t6) (mb bQ t0 t4 t5 t6) from(li (li (lb (H.s_l7Within _ _) fun _=>(li lr (H.s_Check_L2 _ _ _ _))) lr) (H.s_Check_L3 _ _)))
theorem E5{F:FsBuild}(H:LeFsBuild F):∀ (t0:(List bD)) (t7:Int),LeO (mc F t0 t7) (s_Check_L3 t0 t7):=fun t0 t7=>(show s_Check_L3 t0 t7=mc bQ t0 t7 from leq (by kernel_rfl)).symm ▸ (show LeO (mc F t0 t7) (mc bQ t0 t7) from(li (li (lb (H.s_l10Args _) fun _=>(li lr (li (lb (H.s_l10Args _) fun _=>(li lr (H.s_Check_L3 _ _))) lr))) lr) (H.s_Check_L4 _ _)))
theorem E6{F:FsBuild}(H:LeFsBuild F):∀ (t0:(List bD)) (t8:Int),LeO (md F t0 t8) (s_Check_L4 t0 t8):=fun t0 t8=>(show s_Check_L4 t0 t8=md bQ t0 t8 from leq (by kernel_rfl)).symm ▸ (show LeO (md F t0 t8) (md bQ t0 t8) from(li (li (lb (H.s_l10Rexes _) fun _=>(li lr (li (lb (H.s_l10Rexes _) fun _=>(li lr (H.s_Check_L4 _ _))) lr))) lr) lr))
theorem Ft{F:FsBuild}(H:LeFsBuild F):∀ (t0:(List bD)),LeO (mt F t0) (s_Names t0):=fun t0=>(show s_Names t0=mt bQ t0 from leq (by kernel_rfl)).symm ▸ (show LeO (mt F t0) (mt bQ t0) from(H.s_Names_L1 _ _ _ _))
theorem Fw{F:FsBuild}(H:LeFsBuild F):∀ (t0:(List bD)) (t4:(List (List Int))) (t5:(List (List Int))) (t6:Int),LeO (mu F t0 t4 t5 t6) (s_Names_L1 t0 t4 t5 t6):=fun t0 t4 t5 t6=>(show s_Names_L1 t0 t4 t5 t6=mu bQ t0 t4 t5 t6 from leq (by kernel_rfl)).symm ▸ (show LeO (mu F t0 t4 t5 t6) (mu bQ t0 t4 t5 t6) from(li (li (lb (H.s_l10Names _ _ _) fun _=>(li (lb (H.s_l10Names _ _ _) fun _=>(H.s_Names_L1 _ _ _ _)) lr)) lr) lr))
theorem Gi{F:FsBuild}(H:LeFsBuild F):∀ (s0_0:(List (List Int))) (s0_1:(List (List Int))) (s0_2:(List bw)) (t1:bv),LeO (nf F s0_0 s0_1 s0_2 t1) (s_l14Block s0_0 s0_1 s0_2 t1):=fun s0_0 s0_1 s0_2 t1=>(show s_l14Block s0_0 s0_1 s0_2 t1=nf bQ s0_0 s0_1 s0_2 t1 from leq (by kernel_rfl)).symm ▸ (show LeO (nf F s0_0 s0_1 s0_2 t1) (nf bQ s0_0 s0_1 s0_2 t1) from(H.s_l14Block_L1 _ _ _ _ _))
theorem Gj{F:FsBuild}(H:LeFsBuild F):∀ (t4:Int) (s0_0:(List (List Int))) (s0_1:(List (List Int))) (s0_2:(List bw)) (s48:bv),LeO (ng F t4 s0_0 s0_1 s0_2 s48) (s_l14Block_L1 t4 s0_0 s0_1 s0_2 s48):=fun t4 s0_0 s0_1 s0_2 s48=>(show s_l14Block_L1 t4 s0_0 s0_1 s0_2 s48=ng bQ t4 s0_0 s0_1 s0_2 s48 from leq (by kernel_rfl)).symm ▸ (show LeO (ng F t4 s0_0 s0_1 s0_2 s48) (ng bQ t4 s0_0 s0_1 s0_2 s48) from(li (li (lb (H.s_l14Stmt _ _ _ _) fun _=>(H.s_l14Block_L1 _ _ _ _ _)) lr) lr))
theorem Gk{F:FsBuild}(H:LeFsBuild F):∀ (s0_0:(List (List Int))) (s0_1:(List (List Int))) (s0_2:(List bw)) (t1:bv),LeO (nh F s0_0 s0_1 s0_2 t1) (s_l14E s0_0 s0_1 s0_2 t1):=fun s0_0 s0_1 s0_2 t1=>(show s_l14E s0_0 s0_1 s0_2 t1=nh bQ s0_0 s0_1 s0_2 t1 from leq (by kernel_rfl)).symm ▸ (show LeO (nh F s0_0 s0_1 s0_2 t1) (nh bQ s0_0 s0_1 s0_2 t1) from(li (H.s_l14E_L1 _ _ _ _ _ _) (H.s_l14E_L1 _ _ _ _ _ _)))
theorem Gl{F:FsBuild}(H:LeFsBuild F):∀ (t6:Int) (t24:Bool) (s0_0:(List (List Int))) (s0_1:(List (List Int))) (s0_2:(List bw)) (s48:bv),LeO (ni F t6 t24 s0_0 s0_1 s0_2 s48) (s_l14E_L1 t6 t24 s0_0 s0_1 s0_2 s48):=fun t6 t24 s0_0 s0_1 s0_2 s48=>(show s_l14E_L1 t6 t24 s0_0 s0_1 s0_2 s48=ni bQ t6 t24 s0_0 s0_1 s0_2 s48 from leq (by kernel_rfl)).symm ▸ (show LeO (ni F t6 t24 s0_0 s0_1 s0_2 s48) (ni bQ t6 t24 s0_0 s0_1 s0_2 s48) from(li (lb (H.s_l14Set _ _ _ _) fun _=>lr) (li (lb (H.s_l14And _ _ _ _) fun _=>lr) (li (lb (H.s_l14Or _ _ _ _) fun _=>lr) (li (li (lb (H.s_l14E _ _ _ _) fun _=>(li (lb (H.s_l14Put _ _ _ _ _ _) fun _=>lr) lr)) lr) (H.s_l14E_L2 _ _ _ _ _))))))
theorem Gm{F:FsBuild}(H:LeFsBuild F):∀ (t4:Int) (s0_0:(List (List Int))) (s0_1:(List (List Int))) (s0_2:(List bw)) (s48:bv),LeO (nj F t4 s0_0 s0_1 s0_2 s48) (s_l14E_L2 t4 s0_0 s0_1 s0_2 s48):=fun t4 s0_0 s0_1 s0_2 s48=>(show s_l14E_L2 t4 s0_0 s0_1 s0_2 s48=nj bQ t4 s0_0 s0_1 s0_2 s48 from leq (by kernel_rfl)).symm ▸ (show LeO (nj F t4 s0_0 s0_1 s0_2 s48) (nj bQ t4 s0_0 s0_1 s0_2 s48) from(li (li (lb (H.s_l14E _ _ _ _) fun _=>(H.s_l14E_L2 _ _ _ _ _)) lr) (lb (H.s_l14Last _ _ _ _) fun _=>lr)))
theorem Gu{F:FsBuild}(H:LeFsBuild F):∀ (s0_0:(List (List Int))) (s0_1:(List (List Int))) (s0_2:(List bw)) (t1:Int) (t2:Int) (t3:(List Int)),LeO (nx F s0_0 s0_1 s0_2 t1 t2 t3) (s_l14Put s0_0 s0_1 s0_2 t1 t2 t3):=fun s0_0 s0_1 s0_2 t1 t2 t3=>(show s_l14Put s0_0 s0_1 s0_2 t1 t2 t3=nx bQ s0_0 s0_1 s0_2 t1 t2 t3 from leq (by kernel_rfl)).symm ▸ (show LeO (nx F s0_0 s0_1 s0_2 t1 t2 t3) (nx bQ s0_0 s0_1 s0_2 t1 t2 t3) from(li lr lr))
theorem He{F:FsBuild}(H:LeFsBuild F):∀ (t0:Int),LeO (oo F t0) (s_l7Letter t0):=fun t0=>(show s_l7Letter t0=oo bQ t0 from leq (by kernel_rfl)).symm ▸ (show LeO (oo F t0) (oo bQ t0) from(li (li lr (li lr lr)) (li lr lr)))
theorem Fq{F:FsBuild}(H:LeFsBuild F):∀ (t0:(List Int)),LeO (mr F t0) (s_Keyword t0):=fun t0=>(show s_Keyword t0=mr bQ t0 from leq (by kernel_rfl)).symm ▸ (show LeO (mr F t0) (mr bQ t0) from(lb (H.s_l7Within _ _) fun _=>(li lr (lb (H.s_l7Calls ) fun _=>(lb (H.s_l7Within _ _) fun _=>lr)))))
theorem F9{F:FsBuild}(H:LeFsBuild F):∀ (t0:bw) (t1:Int) (t2:Int) (t3:Int),LeO (mZ F t0 t1 t2 t3) (s_l13Op t0 t1 t2 t3):=fun t0 t1 t2 t3=>(show s_l13Op t0 t1 t2 t3=mZ bQ t0 t1 t2 t3 from leq (by kernel_rfl)).symm ▸ (show LeO (mZ F t0 t1 t2 t3) (mZ bQ t0 t1 t2 t3) from(li (lb (H.s_DecOk _) fun _=>(li lr lr)) (li lr (li (H.s_l13Op_L1 _ _ _ _ _ _) (li (H.s_l13Op_L1 _ _ _ _ _ _) (H.s_l13Op_L1 _ _ _ _ _ _))))))
theorem Gd{F:FsBuild}(H:LeFsBuild F):∀ (t1:Int) (t2:Int) (t3:Int) (t12:Int) (t28:Bool) (s64:bw),LeO (m0 F t1 t2 t3 t12 t28 s64) (s_l13Op_L1 t1 t2 t3 t12 t28 s64):=fun t1 t2 t3 t12 t28 s64=>(show s_l13Op_L1 t1 t2 t3 t12 t28 s64=m0 bQ t1 t2 t3 t12 t28 s64 from leq (by kernel_rfl)).symm ▸ (show LeO (m0 F t1 t2 t3 t12 t28 s64) (m0 bQ t1 t2 t3 t12 t28 s64) from(li (li (li lr lr) lr) (li (H.s_l13Op_L2 _ _ _ _ _) (li (H.s_l13Op_L2 _ _ _ _ _) (li (H.s_l13Op_L2 _ _ _ _ _) (H.s_l13Op_L2 _ _ _ _ _))))))
theorem Ge{F:FsBuild}(H:LeFsBuild F):∀ (t1:Int) (t3:Int) (t12:Int) (t46:Bool) (s64:bw),LeO (m8 F t1 t3 t12 t46 s64) (s_l13Op_L2 t1 t3 t12 t46 s64):=fun t1 t3 t12 t46 s64=>(show s_l13Op_L2 t1 t3 t12 t46 s64=m8 bQ t1 t3 t12 t46 s64 from leq (by kernel_rfl)).symm ▸ (show LeO (m8 F t1 t3 t12 t46 s64) (m8 bQ t1 t3 t12 t46 s64) from(li (li (li lr lr) lr) (li (H.s_l13Op_L3 _ _ _ _) (H.s_l13Op_L3 _ _ _ _))))
theorem Gf{F:FsBuild}(H:LeFsBuild F):∀ (t1:Int) (t12:Int) (t65:Bool) (s64:bw),LeO (m9 F t1 t12 t65 s64) (s_l13Op_L3 t1 t12 t65 s64):=fun t1 t12 t65 s64=>(show s_l13Op_L3 t1 t12 t65 s64=m9 bQ t1 t12 t65 s64 from leq (by kernel_rfl)).symm ▸ (show LeO (m9 F t1 t12 t65 s64) (m9 bQ t1 t12 t65 s64) from(li (lb (H.s_RexParse _) fun _=>(li lr lr)) (li (lb (H.s_l1In _ _ _) fun _=>(li (lb (H.s_l7Calls ) fun _=>(lb (H.s_l7Within _ _) fun _=>lr)) lr)) (li (H.s_l13Op_L4 _ _ _ _) (H.s_l13Op_L4 _ _ _ _)))))
theorem Gg{F:FsBuild}(H:LeFsBuild F):∀ (t1:Int) (t12:Int) (t91:Bool) (s64:bw),LeO (na F t1 t12 t91 s64) (s_l13Op_L4 t1 t12 t91 s64):=fun t1 t12 t91 s64=>(show s_l13Op_L4 t1 t12 t91 s64=na bQ t1 t12 t91 s64 from leq (by kernel_rfl)).symm ▸ (show LeO (na F t1 t12 t91 s64) (na bQ t1 t12 t91 s64) from(li (lb (H.s_l1In _ _ _) fun _=>(li lr lr)) (li (lb (H.s_l1In _ _ _) fun _=>(li lr lr)) (lb (H.s_l1In _ _ _) fun _=>(li (li lr lr) lr)))))
theorem Hj{F:FsBuild}(H:LeFsBuild F):∀ (t0:(List Int)) (t1:Int) (t2:(List bF)),LeO (ow F t0 t1 t2) (s_l7One t0 t1 t2):=fun t0 t1 t2=>(show s_l7One t0 t1 t2=ow bQ t0 t1 t2 from leq (by kernel_rfl)).symm ▸ (show LeO (ow F t0 t1 t2) (ow bQ t0 t1 t2) from(li (lb (H.s_l7Letter _) fun _=>(li (H.s_l7One_L1 _ _ _ _) (lb (H.s_l2Digit _) fun _=>(li (lb (H.s_l7Number _ _) fun _=>lr) (li (lb (H.s_l7Text _ _) fun _=>lr) (li (lb (H.s_l7After _) fun _=>(li (lb (H.s_l7Rex _ _) fun _=>lr) (lb (H.s_l7Sign _ _) fun _=>lr))) (lb (H.s_l7Sign _ _) fun _=>lr))))))) lr))
theorem Hk{F:FsBuild}(H:LeFsBuild F):∀ (t0:(List Int)) (t1:Int) (t10:Int) (s96:bF),LeO (ox F t0 t1 t10 s96) (s_l7One_L1 t0 t1 t10 s96):=fun t0 t1 t10 s96=>(show s_l7One_L1 t0 t1 t10 s96=ox bQ t0 t1 t10 s96 from leq (by kernel_rfl)).symm ▸ (show LeO (ox F t0 t1 t10 s96) (ox bQ t0 t1 t10 s96) from(li (li (lb (H.s_l7Letter _) fun _=>(li (H.s_l7One_L1 _ _ _ _) (li lr lr))) lr) (li lr lr)))
theorem HF{F:FsBuild}(H:LeFsBuild F):∀ (s0:bO) (t1:(List Int)),LeO (oS F s0 t1) (s_l8Is s0 t1):=fun s0 t1=>(show s_l8Is s0 t1=oS bQ s0 t1 from leq (by kernel_rfl)).symm ▸ (show LeO (oS F s0 t1) (oS bQ s0 t1) from(lb (H.s_l8Now _) fun _=>(li (li lr lr) lr)))
theorem HO{F:FsBuild}(H:LeFsBuild F):∀ (s0:bO),LeO (o3 F s0) (s_l8Next s0):=fun s0=>(show s_l8Next s0=o3 bQ s0 from leq (by kernel_rfl)).symm ▸ (show LeO (o3 F s0) (o3 bQ s0) from(li lr lr))
theorem Hx{F:FsBuild}(H:LeFsBuild F):∀ (s0:bO),LeO (oK F s0) (s_l8Block s0):=fun s0=>(show s_l8Block s0=oK bQ s0 from leq (by kernel_rfl)).symm ▸ (show LeO (oK F s0) (oK bQ s0) from(lb (H.s_l8Take _ _) fun _=>(H.s_l8Block_L1 _ _ _ _ _ _ _ _ _)))
theorem Hy{F:FsBuild}(H:LeFsBuild F):∀ (s0:bO) (s32_0:Int) (s32_1:Int) (s32_2:(List Int)) (s32_3:(List bv)) (s48_0:Int) (s48_1:Int) (s48_2:(List Int)) (s48_3:(List bv)),LeO (oL F s0 s32_0 s32_1 s32_2 s32_3 s48_0 s48_1 s48_2 s48_3) (s_l8Block_L1 s0 s32_0 s32_1 s32_2 s32_3 s48_0 s48_1 s48_2 s48_3):=fun s0 s32_0 s32_1 s32_2 s32_3 s48_0 s48_1 s48_2 s48_3=>(show s_l8Block_L1 s0 s32_0 s32_1 s32_2 s32_3 s48_0 s48_1 s48_2 s48_3=oL bQ s0 s32_0 s32_1 s32_2 s32_3 s48_0 s48_1 s48_2 s48_3 from leq (by kernel_rfl)).symm ▸ (show LeO (oL F s0 s32_0 s32_1 s32_2 s32_3 s48_0 s48_1 s48_2 s48_3) (oL bQ s0 s32_0 s32_1 s32_2 s32_3 s48_0 s48_1 s48_2 s48_3) from(li (lb (H.s_l8Sign _ _) fun _=>(li (lb (H.s_l8Sign _ _) fun _=>(li (lb (H.s_l8Next _) fun _=>(H.s_l8Block_L1 _ _ _ _ _ _ _ _ _)) (lb (H.s_l8Stmt _) fun _=>(li (H.s_l8Block_L1 _ _ _ _ _ _ _ _ _) lr)))) (lb (H.s_l8Take _ _) fun _=>lr))) (lb (H.s_l8Take _ _) fun _=>lr)))
theorem HT{F:FsBuild}(H:LeFsBuild F):∀ (s0:bO) (t1:(List Int)),LeO (o8 F s0 t1) (s_l8Sign s0 t1):=fun s0 t1=>(show s_l8Sign s0 t1=o8 bQ s0 t1 from leq (by kernel_rfl)).symm ▸ (show LeO (o8 F s0 t1) (o8 bQ s0 t1) from(lb (H.s_l8Now _) fun _=>(li (li lr lr) lr)))
theorem HB{F:FsBuild}(H:LeFsBuild F):∀ (s0:bO),LeO (oO F s0) (s_l8E s0):=fun s0=>(show s_l8E s0=oO bQ s0 from leq (by kernel_rfl)).symm ▸ (show LeO (oO F s0) (oO bQ s0) from(lb (H.s_l8Now _) fun _=>(li (li (lb (H.s_Keyword _) fun _=>(li (lb (H.s_l8Named _) fun _=>(lb (H.s_l8Sign _ _) fun _=>(li (H.s_l8E_L1 _ _ _ _ _ _ _) (lb (H.s_l8Sign _ _) fun _=>(li (H.s_l8E_L1 _ _ _ _ _ _ _) (H.s_l8E_L1 _ _ _ _ _ _ _)))))) (lb (H.s_l8Level _ _) fun _=>lr))) (lb (H.s_l8Level _ _) fun _=>lr)) (lb (H.s_l8Level _ _) fun _=>lr))))
theorem HC{F:FsBuild}(H:LeFsBuild F):∀ (t5:Int) (s0:bO) (s32_0:Int) (s32_1:Int) (s32_2:(List Int)) (s32_3:(List bv)) (s64:bv),LeO (oP F t5 s0 s32_0 s32_1 s32_2 s32_3 s64) (s_l8E_L1 t5 s0 s32_0 s32_1 s32_2 s32_3 s64):=fun t5 s0 s32_0 s32_1 s32_2 s32_3 s64=>(show s_l8E_L1 t5 s0 s32_0 s32_1 s32_2 s32_3 s64=oP bQ t5 s0 s32_0 s32_1 s32_2 s32_3 s64 from leq (by kernel_rfl)).symm ▸ (show LeO (oP F t5 s0 s32_0 s32_1 s32_2 s32_3 s64) (oP bQ t5 s0 s32_0 s32_1 s32_2 s32_3 s64) from(li (lb (H.s_l8Next _) fun _=>(lb (H.s_l8E _) fun _=>(lb (H.s_l8Kids _ _) fun _=>lr))) (lb (H.s_l8Level _ _) fun _=>lr)))
theorem HG{F:FsBuild}(H:LeFsBuild F):∀ (t0:Int) (t1:(List bv)),LeO (oT F t0 t1) (s_l8Kids t0 t1):=fun t0 t1=>(show s_l8Kids t0 t1=oT bQ t0 t1 from leq (by kernel_rfl)).symm ▸ (show LeO (oT F t0 t1) (oT bQ t0 t1) from(li lr lr))
theorem FJ{F:FsBuild}(H:LeFsBuild F):∀ (t0:(List bD)),LeO (mG F t0) (s_Tidy t0):=fun t0=>(show s_Tidy t0=mG bQ t0 from leq (by kernel_rfl)).symm ▸ (show LeO (mG F t0) (mG bQ t0) from(H.s_Tidy_L1 _ _))
theorem FK{F:FsBuild}(H:LeFsBuild F):∀ (t0:(List bD)) (t3:Int),LeO (mH F t0 t3) (s_Tidy_L1 t0 t3):=fun t0 t3=>(show s_Tidy_L1 t0 t3=mH bQ t0 t3 from leq (by kernel_rfl)).symm ▸ (show LeO (mH F t0 t3) (mH bQ t0 t3) from(li (li (li (li (li (lb (H.s_l1In _ _ _) fun _=>(li (li (li lr (lb (H.s_Deep _) fun _=>(li lr (lb (H.s_l9Node _) fun _=>(li lr (H.s_Tidy_L1 _ _)))))) (li (lb (H.s_l9IsE _) fun _=>(li (lb (H.s_l9Node _) fun _=>(li (lb (H.s_Deep _) fun _=>(li lr (li lr (lb (H.s_Deep _) fun _=>(li lr (lb (H.s_l9Node _) fun _=>(li lr (H.s_Tidy_L1 _ _)))))))) lr)) lr)) lr)) (li (lb (H.s_l9IsE _) fun _=>(li (lb (H.s_l9Node _) fun _=>(li (lb (H.s_Deep _) fun _=>(li lr (li lr (lb (H.s_Deep _) fun _=>(li lr (lb (H.s_l9Node _) fun _=>(li lr (H.s_Tidy_L1 _ _)))))))) lr)) lr)) lr))) (lb (H.s_l1In _ _ _) fun _=>(li (li (lb (H.s_l9IsE _) fun _=>(li (lb (H.s_l9Node _) fun _=>(li (lb (H.s_Deep _) fun _=>(li lr (li lr (lb (H.s_Deep _) fun _=>(li lr (lb (H.s_l9Node _) fun _=>(li lr (H.s_Tidy_L1 _ _)))))))) lr)) lr)) lr) (li (lb (H.s_l9IsE _) fun _=>(li (lb (H.s_l9Node _) fun _=>(li (lb (H.s_Deep _) fun _=>(li lr (li lr (lb (H.s_Deep _) fun _=>(li lr (lb (H.s_l9Node _) fun _=>(li lr (H.s_Tidy_L1 _ _)))))))) lr)) lr)) lr)))) (lb (H.s_l1In _ _ _) fun _=>(li (li (lb (H.s_l9IsE _) fun _=>(li (lb (H.s_l9Node _) fun _=>(li (lb (H.s_Deep _) fun _=>(li lr (li lr (lb (H.s_Deep _) fun _=>(li lr (lb (H.s_l9Node _) fun _=>(li lr (H.s_Tidy_L1 _ _)))))))) lr)) lr)) lr) (li (lb (H.s_l9IsE _) fun _=>(li (lb (H.s_l9Node _) fun _=>(li (lb (H.s_Deep _) fun _=>(li lr (li lr (lb (H.s_Deep _) fun _=>(li lr (lb (H.s_l9Node _) fun _=>(li lr (H.s_Tidy_L1 _ _)))))))) lr)) lr)) lr)))) (lb (H.s_l1In _ _ _) fun _=>(li (li (lb (H.s_l9IsE _) fun _=>(li (lb (H.s_l9Node _) fun _=>(li (lb (H.s_Deep _) fun _=>(li lr (li lr (lb (H.s_Deep _) fun _=>(li lr (lb (H.s_l9Node _) fun _=>(li lr (H.s_Tidy_L1 _ _)))))))) lr)) lr)) lr) (li (lb (H.s_l9IsE _) fun _=>(li (lb (H.s_l9Node _) fun _=>(li (lb (H.s_Deep _) fun _=>(li lr (li lr (lb (H.s_Deep _) fun _=>(li lr (lb (H.s_l9Node _) fun _=>(li lr (H.s_Tidy_L1 _ _)))))))) lr)) lr)) lr)))) lr) lr))
theorem FR{F:FsBuild}(H:LeFsBuild F):∀ (t0:bv),LeO (mO F t0) (s_l10Line t0):=fun t0=>(show s_l10Line t0=mO bQ t0 from leq (by kernel_rfl)).symm ▸ (show LeO (mO F t0) (mO bQ t0) from(li lr (li lr (li lr (li lr (li lr (H.s_l10Line_L1 _ _)))))))
theorem FS{F:FsBuild}(H:LeFsBuild F):∀ (t3:Int) (s16:bv),LeO (mP F t3 s16) (s_l10Line_L1 t3 s16):=fun t3 s16=>(show s_l10Line_L1 t3 s16=mP bQ t3 s16 from leq (by kernel_rfl)).symm ▸ (show LeO (mP F t3 s16) (mP bQ t3 s16) from(li (li (li (li (li (H.s_l10Line_L1 _ _) (li (lb (H.s_l10Line _) fun _=>(li lr (H.s_l10Line_L1 _ _))) lr)) lr) (li (lb (H.s_l10Line _) fun _=>(li lr (H.s_l10Line_L1 _ _))) lr)) (li (lb (H.s_l10Line _) fun _=>(li lr (H.s_l10Line_L1 _ _))) lr)) lr))
theorem FO{F:FsBuild}(H:LeFsBuild F):∀ (t0:bv),LeO (mL F t0) (s_l10Args t0):=fun t0=>(show s_l10Args t0=mL bQ t0 from leq (by kernel_rfl)).symm ▸ (show LeO (mL F t0) (mL bQ t0) from(li (li (li lr (H.s_l10Args_L1 _ _)) (li (li (li lr (H.s_l10Args_L1 _ _)) (H.s_l10Args_L1 _ _)) (li lr (H.s_l10Args_L1 _ _)))) (H.s_l10Args_L1 _ _)))
theorem FP{F:FsBuild}(H:LeFsBuild F):∀ (t3:Int) (s16:bv),LeO (mM F t3 s16) (s_l10Args_L1 t3 s16):=fun t3 s16=>(show s_l10Args_L1 t3 s16=mM bQ t3 s16 from leq (by kernel_rfl)).symm ▸ (show LeO (mM F t3 s16) (mM bQ t3 s16) from(H.s_l10Args_L2 _ _ _))
theorem FQ{F:FsBuild}(H:LeFsBuild F):∀ (t3:Int) (t4:Int) (s16:bv),LeO (mN F t3 t4 s16) (s_l10Args_L2 t3 t4 s16):=fun t3 t4 s16=>(show s_l10Args_L2 t3 t4 s16=mN bQ t3 t4 s16 from leq (by kernel_rfl)).symm ▸ (show LeO (mN F t3 t4 s16) (mN bQ t3 t4 s16) from(li (li (lb (H.s_l10Args _) fun _=>(li lr (H.s_l10Args_L2 _ _ _))) lr) lr))
theorem F5{F:FsBuild}(H:LeFsBuild F):∀ (t0:bv),LeO (mV F t0) (s_l10Rexes t0):=fun t0=>(show s_l10Rexes t0=mV bQ t0 from leq (by kernel_rfl)).symm ▸ (show LeO (mV F t0) (mV bQ t0) from(li (lb (H.s_RexParse _) fun _=>lr) (li (li (li lr (H.s_l10Rexes_L1 _ _)) lr) (H.s_l10Rexes_L1 _ _))))
theorem F6{F:FsBuild}(H:LeFsBuild F):∀ (t5:Int) (s16:bv),LeO (mW F t5 s16) (s_l10Rexes_L1 t5 s16):=fun t5 s16=>(show s_l10Rexes_L1 t5 s16=mW bQ t5 s16 from leq (by kernel_rfl)).symm ▸ (show LeO (mW F t5 s16) (mW bQ t5 s16) from(li (li (lb (H.s_l10Rexes _) fun _=>(li lr (H.s_l10Rexes_L1 _ _))) lr) lr))
theorem FU{F:FsBuild}(H:LeFsBuild F):∀ (t0:bv) (t1:(List (List Int))) (t2:(List (List Int))),LeO (mQ F t0 t1 t2) (s_l10Names t0 t1 t2):=fun t0 t1 t2=>(show s_l10Names t0 t1 t2=mQ bQ t0 t1 t2 from leq (by kernel_rfl)).symm ▸ (show LeO (mQ F t0 t1 t2) (mQ bQ t0 t1 t2) from(li (lb (H.s_l10Put _ _) fun _=>(H.s_l10Names_L1 _ _ _)) (li (li (lb (H.s_l10Put _ _) fun _=>(H.s_l10Names_L1 _ _ _)) (H.s_l10Names_L1 _ _ _)) (li (lb (H.s_l10Put _ _) fun _=>(H.s_l10Names_L1 _ _ _)) (H.s_l10Names_L1 _ _ _)))))
theorem FV{F:FsBuild}(H:LeFsBuild F):∀ (t1:(List (List Int))) (t2:(List (List Int))) (s48:bv),LeO (mR F t1 t2 s48) (s_l10Names_L1 t1 t2 s48):=fun t1 t2 s48=>(show s_l10Names_L1 t1 t2 s48=mR bQ t1 t2 s48 from leq (by kernel_rfl)).symm ▸ (show LeO (mR F t1 t2 s48) (mR bQ t1 t2 s48) from(H.s_l10Names_L2 _ _ _ _))
theorem FX{F:FsBuild}(H:LeFsBuild F):∀ (t1:(List (List Int))) (t2:(List (List Int))) (t8:Int) (s48:bv),LeO (mS F t1 t2 t8 s48) (s_l10Names_L2 t1 t2 t8 s48):=fun t1 t2 t8 s48=>(show s_l10Names_L2 t1 t2 t8 s48=mS bQ t1 t2 t8 s48 from leq (by kernel_rfl)).symm ▸ (show LeO (mS F t1 t2 t8 s48) (mS bQ t1 t2 t8 s48) from(li (li (lb (H.s_l10Names _ _ _) fun _=>(H.s_l10Names_L2 _ _ _ _)) lr) lr))
theorem Gw{F:FsBuild}(H:LeFsBuild F):∀ (s0_0:(List (List Int))) (s0_1:(List (List Int))) (s0_2:(List bw)) (t1:bv),LeO (nz F s0_0 s0_1 s0_2 t1) (s_l14Stmt s0_0 s0_1 s0_2 t1):=fun s0_0 s0_1 s0_2 t1=>(show s_l14Stmt s0_0 s0_1 s0_2 t1=nz bQ s0_0 s0_1 s0_2 t1 from leq (by kernel_rfl)).symm ▸ (show LeO (nz F s0_0 s0_1 s0_2 t1) (nz bQ s0_0 s0_1 s0_2 t1) from(li (lb (H.s_l14Block _ _ _ _) fun _=>lr) (li (lb (H.s_l14Print _ _ _ _) fun _=>lr) (li (lb (H.s_l14If _ _ _ _) fun _=>lr) (li (lb (H.s_l14While _ _ _ _) fun _=>lr) (li (lb (H.s_l14Put _ _ _ _ _ _) fun _=>lr) (li (li (lb (H.s_l14E _ _ _ _) fun _=>(lb (H.s_l12Where _ _) fun _=>(lb (H.s_l14Put _ _ _ _ _ _) fun _=>lr))) lr) (li (lb (H.s_l14E _ _ _ _) fun _=>(lb (H.s_l14Put _ _ _ _ _ _) fun _=>lr)) lr))))))))
theorem Gv{F:FsBuild}(H:LeFsBuild F):∀ (s0_0:(List (List Int))) (s0_1:(List (List Int))) (s0_2:(List bw)) (t1:bv),LeO (ny F s0_0 s0_1 s0_2 t1) (s_l14Set s0_0 s0_1 s0_2 t1):=fun s0_0 s0_1 s0_2 t1=>(show s_l14Set s0_0 s0_1 s0_2 t1=ny bQ s0_0 s0_1 s0_2 t1 from leq (by kernel_rfl)).symm ▸ (show LeO (ny F s0_0 s0_1 s0_2 t1) (ny bQ s0_0 s0_1 s0_2 t1) from(li (lb (H.s_l1Bit _) fun _=>(li (li (lb (H.s_l14E _ _ _ _) fun _=>(lb (H.s_l12Where _ _) fun _=>(lb (H.s_l14Put _ _ _ _ _ _) fun _=>lr))) lr) (li (lb (H.s_l14E _ _ _ _) fun _=>(li (lb (H.s_l14E _ _ _ _) fun _=>(lb (H.s_l12Where _ _) fun _=>(lb (H.s_l14Put _ _ _ _ _ _) fun _=>lr))) lr)) lr))) lr))
theorem Gh{F:FsBuild}(H:LeFsBuild F):∀ (s0_0:(List (List Int))) (s0_1:(List (List Int))) (s0_2:(List bw)) (t1:bv),LeO (nb F s0_0 s0_1 s0_2 t1) (s_l14And s0_0 s0_1 s0_2 t1):=fun s0_0 s0_1 s0_2 t1=>(show s_l14And s0_0 s0_1 s0_2 t1=nb bQ s0_0 s0_1 s0_2 t1 from leq (by kernel_rfl)).symm ▸ (show LeO (nb F s0_0 s0_1 s0_2 t1) (nb bQ s0_0 s0_1 s0_2 t1) from(li (lb (H.s_l14E _ _ _ _) fun _=>(lb (H.s_l14Put _ _ _ _ _ _) fun _=>(li (lb (H.s_l14E _ _ _ _) fun _=>(lb (H.s_l14Put _ _ _ _ _ _) fun _=>(lb (H.s_l14Put _ _ _ _ _ _) fun _=>(li (lb (H.s_l14Put _ _ _ _ _ _) fun _=>(li lr lr)) lr)))) lr))) lr))
theorem Gq{F:FsBuild}(H:LeFsBuild F):∀ (s0_0:(List (List Int))) (s0_1:(List (List Int))) (s0_2:(List bw)) (t1:bv),LeO (nq F s0_0 s0_1 s0_2 t1) (s_l14Or s0_0 s0_1 s0_2 t1):=fun s0_0 s0_1 s0_2 t1=>(show s_l14Or s0_0 s0_1 s0_2 t1=nq bQ s0_0 s0_1 s0_2 t1 from leq (by kernel_rfl)).symm ▸ (show LeO (nq F s0_0 s0_1 s0_2 t1) (nq bQ s0_0 s0_1 s0_2 t1) from(li (lb (H.s_l14E _ _ _ _) fun _=>(lb (H.s_l14Put _ _ _ _ _ _) fun _=>(lb (H.s_l14Put _ _ _ _ _ _) fun _=>(lb (H.s_l14Put _ _ _ _ _ _) fun _=>(li (li (lb (H.s_l14E _ _ _ _) fun _=>(lb (H.s_l14Put _ _ _ _ _ _) fun _=>(li lr lr))) lr) lr))))) lr))
theorem Gp{F:FsBuild}(H:LeFsBuild F):∀ (s0_0:(List (List Int))) (s0_1:(List (List Int))) (s0_2:(List bw)) (t1:bv),LeO (nn F s0_0 s0_1 s0_2 t1) (s_l14Last s0_0 s0_1 s0_2 t1):=fun s0_0 s0_1 s0_2 t1=>(show s_l14Last s0_0 s0_1 s0_2 t1=nn bQ s0_0 s0_1 s0_2 t1 from leq (by kernel_rfl)).symm ▸ (show LeO (nn F s0_0 s0_1 s0_2 t1) (nn bQ s0_0 s0_1 s0_2 t1) from(li (lb (H.s_l14Put _ _ _ _ _ _) fun _=>lr) (li (lb (H.s_l14Put _ _ _ _ _ _) fun _=>lr) (li (lb (H.s_l14Put _ _ _ _ _ _) fun _=>lr) (li (lb (H.s_l12Where _ _) fun _=>(lb (H.s_l14Put _ _ _ _ _ _) fun _=>lr)) (li (lb (H.s_l12Where _ _) fun _=>(lb (H.s_l14Put _ _ _ _ _ _) fun _=>lr)) (li (lb (H.s_l14Put _ _ _ _ _ _) fun _=>lr) (li (lb (H.s_l14Put _ _ _ _ _ _) fun _=>lr) (li (lb (H.s_l14Put _ _ _ _ _ _) fun _=>lr) (li (lb (H.s_l14Put _ _ _ _ _ _) fun _=>lr) (li (lb (H.s_l14Put _ _ _ _ _ _) fun _=>lr) (li (lb (H.s_l14Put _ _ _ _ _ _) fun _=>lr) (lb (H.s_l14Put _ _ _ _ _ _) fun _=>lr)))))))))))))
theorem Hd{F:FsBuild}(H:LeFsBuild F):LeO (om F ) (s_l7Calls ):=(show s_l7Calls  = om bQ  from leq (by kernel_rfl)).symm ▸ (show LeO (om F ) (om bQ )from lr)
theorem Fl{F:FsBuild}(H:LeFsBuild F):∀ (t0:Int),LeO (mn F t0) (s_DecOk t0):=fun t0=>(show s_DecOk t0=mn bQ t0 from leq (by kernel_rfl)).symm ▸ (show LeO (mn F t0) (mn bQ t0) from(lb (H.s_l1In _ _ _) fun _=>lr))
theorem FI{F:FsBuild}(H:LeFsBuild F):∀ (t0:(List Int)),LeO (mF F t0) (s_RexParse t0):=fun t0=>(show s_RexParse t0=mF bQ t0 from leq (by kernel_rfl)).symm ▸ (show LeO (mF F t0) (mF bQ t0) from(li lr (lb (H.s_l3Pattern _ _) fun _=>(li lr (li lr (lb (H.s_l3Deep _) fun _=>(li lr lr)))))))
theorem GB{F:FsBuild}(H:LeFsBuild F):∀ (t0:Int),LeO (nE F t0) (s_l2Digit t0):=fun t0=>(show s_l2Digit t0=nE bQ t0 from leq (by kernel_rfl)).symm ▸ (show LeO (nE F t0) (nE bQ t0) from(li lr lr))
theorem Hf{F:FsBuild}(H:LeFsBuild F):∀ (t0:(List Int)) (t1:Int),LeO (oq F t0 t1) (s_l7Number t0 t1):=fun t0 t1=>(show s_l7Number t0 t1=oq bQ t0 t1 from leq (by kernel_rfl)).symm ▸ (show LeO (oq F t0 t1) (oq bQ t0 t1) from(H.s_l7Number_L1 _ _ _))
theorem Hg{F:FsBuild}(H:LeFsBuild F):∀ (t0:(List Int)) (t1:Int) (t7:Int),LeO (ot F t0 t1 t7) (s_l7Number_L1 t0 t1 t7):=fun t0 t1 t7=>(show s_l7Number_L1 t0 t1 t7=ot bQ t0 t1 t7 from leq (by kernel_rfl)).symm ▸ (show LeO (ot F t0 t1 t7) (ot bQ t0 t1 t7) from(li (li (lb (H.s_l2Digit _) fun _=>(li (H.s_l7Number_L1 _ _ _) (li (li (li (li (lb (H.s_l2Digit _) fun _=>(li (H.s_l7Number_L2 _ _ _ _) (H.s_l7Number_L3 _ _ _))) lr) (H.s_l7Number_L3 _ _ _)) lr) (H.s_l7Number_L3 _ _ _)))) lr) (li (li (li (li (lb (H.s_l2Digit _) fun _=>(li (H.s_l7Number_L2 _ _ _ _) (H.s_l7Number_L3 _ _ _))) lr) (H.s_l7Number_L3 _ _ _)) lr) (H.s_l7Number_L3 _ _ _))))
theorem Hh{F:FsBuild}(H:LeFsBuild F):∀ (t0:(List Int)) (t1:Int) (t7:Int) (t8:Int),LeO (ou F t0 t1 t7 t8) (s_l7Number_L2 t0 t1 t7 t8):=fun t0 t1 t7 t8=>(show s_l7Number_L2 t0 t1 t7 t8=ou bQ t0 t1 t7 t8 from leq (by kernel_rfl)).symm ▸ (show LeO (ou F t0 t1 t7 t8) (ou bQ t0 t1 t7 t8) from(li (li (lb (H.s_l2Digit _) fun _=>(li (H.s_l7Number_L2 _ _ _ _) (li lr (H.s_l7Number_L3 _ _ _)))) lr) (li lr (H.s_l7Number_L3 _ _ _))))
theorem Hi{F:FsBuild}(H:LeFsBuild F):∀ (t0:(List Int)) (t1:Int) (t7:Int),LeO (ov F t0 t1 t7) (s_l7Number_L3 t0 t1 t7):=fun t0 t1 t7=>(show s_l7Number_L3 t0 t1 t7=ov bQ t0 t1 t7 from leq (by kernel_rfl)).symm ▸ (show LeO (ov F t0 t1 t7) (ov bQ t0 t1 t7) from(li (lb (H.s_DecFront _) fun _=>lr) lr))
theorem Hp{F:FsBuild}(H:LeFsBuild F):∀ (t0:(List Int)) (t1:Int),LeO (oC F t0 t1) (s_l7Text t0 t1):=fun t0 t1=>(show s_l7Text t0 t1=oC bQ t0 t1 from leq (by kernel_rfl)).symm ▸ (show LeO (oC F t0 t1) (oC bQ t0 t1) from(H.s_l7Text_L1 _ _ _))
theorem Hq{F:FsBuild}(H:LeFsBuild F):∀ (t0:(List Int)) (t7:(List Int)) (t8:Int),LeO (oD F t0 t7 t8) (s_l7Text_L1 t0 t7 t8):=fun t0 t7 t8=>(show s_l7Text_L1 t0 t7 t8=oD bQ t0 t7 t8 from leq (by kernel_rfl)).symm ▸ (show LeO (oD F t0 t7 t8) (oD bQ t0 t7 t8) from(li (li (li lr (li lr (li (li lr (li (li lr (li (li (H.s_l7Text_L1 _ _ _) lr) lr)) lr)) (li (li (H.s_l7Text_L1 _ _ _) lr) lr)))) lr) lr))
theorem Hc{F:FsBuild}(H:LeFsBuild F):∀ (t0:(List bF)),LeO (ol F t0) (s_l7After t0):=fun t0=>(show s_l7After t0=ol bQ t0 from leq (by kernel_rfl)).symm ▸ (show LeO (ol F t0) (ol bQ t0) from(li lr (li (li (li lr (li lr (lb (H.s_l1In _ _ _) fun _=>lr))) (lb (H.s_l1In _ _ _) fun _=>lr)) lr)))
theorem Hl{F:FsBuild}(H:LeFsBuild F):∀ (t0:(List Int)) (t1:Int),LeO (oy F t0 t1) (s_l7Rex t0 t1):=fun t0 t1=>(show s_l7Rex t0 t1=oy bQ t0 t1 from leq (by kernel_rfl)).symm ▸ (show LeO (oy F t0 t1) (oy bQ t0 t1) from(H.s_l7Rex_L1 _ _ _))
theorem Hm{F:FsBuild}(H:LeFsBuild F):∀ (t0:(List Int)) (t7:(List Int)) (t8:Int),LeO (oz F t0 t7 t8) (s_l7Rex_L1 t0 t7 t8):=fun t0 t7 t8=>(show s_l7Rex_L1 t0 t7 t8=oz bQ t0 t7 t8 from leq (by kernel_rfl)).symm ▸ (show LeO (oz F t0 t7 t8) (oz bQ t0 t7 t8) from(li (li (li lr (li lr (li (li lr (li (li lr (li (li (li (li (li (li (H.s_l7Rex_L1 _ _ _) lr) lr) lr) lr) (li (li (H.s_l7Rex_L1 _ _ _) lr) lr)) lr)) lr)) (li (li (H.s_l7Rex_L1 _ _ _) lr) lr)))) lr) lr))
theorem Hn{F:FsBuild}(H:LeFsBuild F):∀ (t0:(List Int)) (t1:Int),LeO (oA F t0 t1) (s_l7Sign t0 t1):=fun t0 t1=>(show s_l7Sign t0 t1=oA bQ t0 t1 from leq (by kernel_rfl)).symm ▸ (show LeO (oA F t0 t1) (oA bQ t0 t1) from(H.s_l7Sign_L1 _ _ _ _))
theorem Ho{F:FsBuild}(H:LeFsBuild F):∀ (t0:(List Int)) (t1:Int) (t5:(List (List Int))) (t6:Int),LeO (oB F t0 t1 t5 t6) (s_l7Sign_L1 t0 t1 t5 t6):=fun t0 t1 t5 t6=>(show s_l7Sign_L1 t0 t1 t5 t6=oB bQ t0 t1 t5 t6 from leq (by kernel_rfl)).symm ▸ (show LeO (oB F t0 t1 t5 t6) (oB bQ t0 t1 t5 t6) from(li (li (li (li (li (li (li lr lr) (H.s_l7Sign_L1 _ _ _ _)) lr) lr) (H.s_l7Sign_L1 _ _ _ _)) lr) lr))
theorem HX{F:FsBuild}(H:LeFsBuild F):∀ (s0:bO) (t1:(List Int)),LeO (pd F s0 t1) (s_l8Take s0 t1):=fun s0 t1=>(show s_l8Take s0 t1=pd bQ s0 t1 from leq (by kernel_rfl)).symm ▸ (show LeO (pd F s0 t1) (pd bQ s0 t1) from(lb (H.s_l8Sign _ _) fun _=>(li (lb (H.s_l8Bad _) fun _=>lr) (lb (H.s_l8Next _) fun _=>lr))))
theorem HW{F:FsBuild}(H:LeFsBuild F):∀ (s0:bO),LeO (pc F s0) (s_l8Stmt s0):=fun s0=>(show s_l8Stmt s0=pc bQ s0 from leq (by kernel_rfl)).symm ▸ (show LeO (pc F s0) (pc bQ s0) from(lb (H.s_l8Is _ _) fun _=>(li (lb (H.s_l8While _ _) fun _=>lr) (lb (H.s_l8Is _ _) fun _=>(li (lb (H.s_l8While _ _) fun _=>lr) (lb (H.s_l8Sign _ _) fun _=>(li (lb (H.s_l8Block _) fun _=>lr) (lb (H.s_l8Simple _) fun _=>(lb (H.s_l8Sign _ _) fun _=>(li (lb (H.s_l8Take _ _) fun _=>lr) lr))))))))))
theorem HN{F:FsBuild}(H:LeFsBuild F):∀ (s0:bO),LeO (o0 F s0) (s_l8Named s0):=fun s0=>(show s_l8Named s0=o0 bQ s0 from leq (by kernel_rfl)).symm ▸ (show LeO (o0 F s0) (o0 bQ s0) from(lb (H.s_l8Now _) fun _=>(lb (H.s_l8Is _ _) fun _=>(li (lb (H.s_l8Next _) fun _=>lr) (lb (H.s_l8Is _ _) fun _=>(li (lb (H.s_l8Next _) fun _=>lr) (li (lb (H.s_l7Calls ) fun _=>(lb (H.s_l7Within _ _) fun _=>(li (lb (H.s_l8Next _) fun _=>(lb (H.s_l8Take _ _) fun _=>(lb (H.s_l8Es _ _) fun _=>(lb (H.s_l8Take _ _) fun _=>lr)))) (lb (H.s_l8Name _) fun _=>(lb (H.s_l8Sign _ _) fun _=>(li lr (lb (H.s_l8Next _) fun _=>(lb (H.s_l8E _) fun _=>(lb (H.s_l8Take _ _) fun _=>lr))))))))) (lb (H.s_l8Name _) fun _=>(lb (H.s_l8Sign _ _) fun _=>(li lr (lb (H.s_l8Next _) fun _=>(lb (H.s_l8E _) fun _=>(lb (H.s_l8Take _ _) fun _=>lr)))))))))))))
theorem HL{F:FsBuild}(H:LeFsBuild F):∀ (s0:bO) (t1:Int),LeO (oY F s0 t1) (s_l8Level s0 t1):=fun s0 t1=>(show s_l8Level s0 t1=oY bQ s0 t1 from leq (by kernel_rfl)).symm ▸ (show LeO (oY F s0 t1) (oY bQ s0 t1) from(li (lb (H.s_l8Compare _) fun _=>lr) (li (lb (H.s_l8Row _) fun _=>lr) (li (lb (H.s_l8Unit _) fun _=>lr) (lb (H.s_l8Left _ _) fun _=>lr)))))
theorem Ig{F:FsBuild}(H:LeFsBuild F):∀ (t0:bv),LeO (pz F t0) (s_l9Node t0):=fun t0=>(show s_l9Node t0=pz bQ t0 from leq (by kernel_rfl)).symm ▸ (show LeO (pz F t0) (pz bQ t0) from(lb (H.s_l9Kids _) fun _=>(li lr (lb (H.s_l1In _ _ _) fun _=>(li lr (li (li lr (li (li (lb (H.s_l1In _ _ _) fun _=>lr) lr) (li (lb (H.s_l9Line _) fun _=>lr) (li (lb (H.s_l9Rex _) fun _=>lr) (li (H.s_l9Node_L1 _ _ _) (li (H.s_l9Node_L1 _ _ _) (H.s_l9Node_L1 _ _ _))))))) (li (li (lb (H.s_l1In _ _ _) fun _=>lr) lr) (li (lb (H.s_l9Line _) fun _=>lr) (li (lb (H.s_l9Rex _) fun _=>lr) (li (H.s_l9Node_L1 _ _ _) (li (H.s_l9Node_L1 _ _ _) (H.s_l9Node_L1 _ _ _))))))))))))
theorem Ih{F:FsBuild}(H:LeFsBuild F):∀ (t23:Int) (t44:Bool) (s16:bv),LeO (pA F t23 t44 s16) (s_l9Node_L1 t23 t44 s16):=fun t23 t44 s16=>(show s_l9Node_L1 t23 t44 s16=pA bQ t23 t44 s16 from leq (by kernel_rfl)).symm ▸ (show LeO (pA F t23 t44 s16) (pA bQ t23 t44 s16) from(li (lb (H.s_l9Name _) fun _=>lr) (li (lb (H.s_l7Calls ) fun _=>(lb (H.s_l7Within _ _) fun _=>lr)) lr)))
theorem H4{F:FsBuild}(H:LeFsBuild F):∀ (t0:Int),LeO (pl F t0) (s_l9IsE t0):=fun t0=>(show s_l9IsE t0=pl bQ t0 from leq (by kernel_rfl)).symm ▸ (show LeO (pl F t0) (pl bQ t0) from(lb (H.s_l1In _ _ _) fun _=>lr))
theorem FY{F:FsBuild}(H:LeFsBuild F):∀ (t0:(List (List Int))) (t1:(List Int)),LeO (mT F t0 t1) (s_l10Put t0 t1):=fun t0 t1=>(show s_l10Put t0 t1=mT bQ t0 t1 from leq (by kernel_rfl)).symm ▸ (show LeO (mT F t0 t1) (mT bQ t0 t1) from(lb (H.s_l7Within _ _) fun _=>(li lr (H.s_l10Put_L1 _ _ _))))
theorem FZ{F:FsBuild}(H:LeFsBuild F):∀ (t0:(List (List Int))) (t1:(List Int)) (t5:Int),LeO (mU F t0 t1 t5) (s_l10Put_L1 t0 t1 t5):=fun t0 t1 t5=>(show s_l10Put_L1 t0 t1 t5=mU bQ t0 t1 t5 from leq (by kernel_rfl)).symm ▸ (show LeO (mU F t0 t1 t5) (mU bQ t0 t1 t5) from(li (li (li (H.s_l10Put_L1 _ _ _) (li (li (li (li (li lr lr) lr) lr) lr) lr)) lr) (li (li (li (li (li lr lr) lr) lr) lr) lr)))
theorem Gr{F:FsBuild}(H:LeFsBuild F):∀ (s0_0:(List (List Int))) (s0_1:(List (List Int))) (s0_2:(List bw)) (t1:bv),LeO (nr F s0_0 s0_1 s0_2 t1) (s_l14Print s0_0 s0_1 s0_2 t1):=fun s0_0 s0_1 s0_2 t1=>(show s_l14Print s0_0 s0_1 s0_2 t1=nr bQ s0_0 s0_1 s0_2 t1 from leq (by kernel_rfl)).symm ▸ (show LeO (nr F s0_0 s0_1 s0_2 t1) (nr bQ s0_0 s0_1 s0_2 t1) from(li (lb (H.s_l14Put _ _ _ _ _ _) fun _=>(lb (H.s_l14Put _ _ _ _ _ _) fun _=>(lb (H.s_l14Put _ _ _ _ _ _) fun _=>(H.s_l14Print_L1 _ _ _ _)))) (H.s_l14Print_L1 _ _ _ _)))
theorem Gs{F:FsBuild}(H:LeFsBuild F):∀ (s0_0:(List (List Int))) (s0_1:(List (List Int))) (s0_2:(List bw)) (s48:bv),LeO (nu F s0_0 s0_1 s0_2 s48) (s_l14Print_L1 s0_0 s0_1 s0_2 s48):=fun s0_0 s0_1 s0_2 s48=>(show s_l14Print_L1 s0_0 s0_1 s0_2 s48=nu bQ s0_0 s0_1 s0_2 s48 from leq (by kernel_rfl)).symm ▸ (show LeO (nu F s0_0 s0_1 s0_2 s48) (nu bQ s0_0 s0_1 s0_2 s48) from(H.s_l14Print_L2 _ _ _ _ _))
theorem Gt{F:FsBuild}(H:LeFsBuild F):∀ (t4:Int) (s0_0:(List (List Int))) (s0_1:(List (List Int))) (s0_2:(List bw)) (s48:bv),LeO (nw F t4 s0_0 s0_1 s0_2 s48) (s_l14Print_L2 t4 s0_0 s0_1 s0_2 s48):=fun t4 s0_0 s0_1 s0_2 s48=>(show s_l14Print_L2 t4 s0_0 s0_1 s0_2 s48=nw bQ t4 s0_0 s0_1 s0_2 s48 from leq (by kernel_rfl)).symm ▸ (show LeO (nw F t4 s0_0 s0_1 s0_2 s48) (nw bQ t4 s0_0 s0_1 s0_2 s48) from(li (li (lb (H.s_l14E _ _ _ _) fun _=>(lb (H.s_l1Bit _) fun _=>(lb (H.s_l14Put _ _ _ _ _ _) fun _=>(H.s_l14Print_L2 _ _ _ _ _)))) lr) (lb (H.s_l14Put _ _ _ _ _ _) fun _=>lr)))
theorem Gn{F:FsBuild}(H:LeFsBuild F):∀ (s0_0:(List (List Int))) (s0_1:(List (List Int))) (s0_2:(List bw)) (t1:bv),LeO (nk F s0_0 s0_1 s0_2 t1) (s_l14If s0_0 s0_1 s0_2 t1):=fun s0_0 s0_1 s0_2 t1=>(show s_l14If s0_0 s0_1 s0_2 t1=nk bQ s0_0 s0_1 s0_2 t1 from leq (by kernel_rfl)).symm ▸ (show LeO (nk F s0_0 s0_1 s0_2 t1) (nk bQ s0_0 s0_1 s0_2 t1) from(li (lb (H.s_l14E _ _ _ _) fun _=>(lb (H.s_l14Put _ _ _ _ _ _) fun _=>(li (lb (H.s_l14Block _ _ _ _) fun _=>(li (lb (H.s_l14Put _ _ _ _ _ _) fun _=>(li (li (lb (H.s_l14Block _ _ _ _) fun _=>(li lr lr)) lr) lr)) (li lr lr))) lr))) lr))
theorem Gx{F:FsBuild}(H:LeFsBuild F):∀ (s0_0:(List (List Int))) (s0_1:(List (List Int))) (s0_2:(List bw)) (t1:bv),LeO (nA F s0_0 s0_1 s0_2 t1) (s_l14While s0_0 s0_1 s0_2 t1):=fun s0_0 s0_1 s0_2 t1=>(show s_l14While s0_0 s0_1 s0_2 t1=nA bQ s0_0 s0_1 s0_2 t1 from leq (by kernel_rfl)).symm ▸ (show LeO (nA F s0_0 s0_1 s0_2 t1) (nA bQ s0_0 s0_1 s0_2 t1) from(li (lb (H.s_l14E _ _ _ _) fun _=>(lb (H.s_l14Put _ _ _ _ _ _) fun _=>(li (lb (H.s_l14Block _ _ _ _) fun _=>(lb (H.s_l14Put _ _ _ _ _ _) fun _=>(li lr lr))) lr))) lr))
theorem F7{F:FsBuild}(H:LeFsBuild F):∀ (t0:(List (List Int))) (t1:(List Int)),LeO (mX F t0 t1) (s_l12Where t0 t1):=fun t0 t1=>(show s_l12Where t0 t1=mX bQ t0 t1 from leq (by kernel_rfl)).symm ▸ (show LeO (mX F t0 t1) (mX bQ t0 t1) from(H.s_l12Where_L1 _ _ _))
theorem F8{F:FsBuild}(H:LeFsBuild F):∀ (t0:(List (List Int))) (t1:(List Int)) (t5:Int),LeO (mY F t0 t1 t5) (s_l12Where_L1 t0 t1 t5):=fun t0 t1 t5=>(show s_l12Where_L1 t0 t1 t5=mY bQ t0 t1 t5 from leq (by kernel_rfl)).symm ▸ (show LeO (mY F t0 t1 t5) (mY bQ t0 t1 t5) from(li (li (li lr (H.s_l12Where_L1 _ _ _)) lr) lr))
theorem Gy{F:FsBuild}(H:LeFsBuild F):∀ (t0:Bool),LeO (nB F t0) (s_l1Bit t0):=fun t0=>(show s_l1Bit t0=nB bQ t0 from leq (by kernel_rfl)).symm ▸ (show LeO (nB F t0) (nB bQ t0) from(li lr lr))
theorem GJ{F:FsBuild}(H:LeFsBuild F):∀ (s0:bN) (t1:Int),LeO (nM F s0 t1) (s_l3Pattern s0 t1):=fun s0 t1=>(show s_l3Pattern s0 t1=nM bQ s0 t1 from leq (by kernel_rfl)).symm ▸ (show LeO (nM F s0 t1) (nM bQ s0 t1) from(lb (H.s_l3Part _ _) fun _=>(H.s_l3Pattern_L1 _ _ _ _)))
theorem GK{F:FsBuild}(H:LeFsBuild F):∀ (t1:Int) (t5:(List bC)) (s0:bN) (s64:bC),LeO (nN F t1 t5 s0 s64) (s_l3Pattern_L1 t1 t5 s0 s64):=fun t1 t5 s0 s64=>(show s_l3Pattern_L1 t1 t5 s0 s64=nN bQ t1 t5 s0 s64 from leq (by kernel_rfl)).symm ▸ (show LeO (nN F t1 t5 s0 s64) (nN bQ t1 t5 s0 s64) from(lb (H.s_l3Now _ _) fun _=>(li (lb (H.s_l3Part _ _) fun _=>(li (H.s_l3Pattern_L1 _ _ _ _) lr)) (li (li lr lr) lr))))
theorem GE{F:FsBuild}(H:LeFsBuild F):∀ (t0:bC),LeO (nH F t0) (s_l3Deep t0):=fun t0=>(show s_l3Deep t0=nH bQ t0 from leq (by kernel_rfl)).symm ▸ (show LeO (nH F t0) (nH bQ t0) from(H.s_l3Deep_L1 _ _ _))
theorem GF{F:FsBuild}(H:LeFsBuild F):∀ (t3:Int) (t4:Int) (s16:bC),LeO (nI F t3 t4 s16) (s_l3Deep_L1 t3 t4 s16):=fun t3 t4 s16=>(show s_l3Deep_L1 t3 t4 s16=nI bQ t3 t4 s16 from leq (by kernel_rfl)).symm ▸ (show LeO (nI F t3 t4 s16) (nI bQ t3 t4 s16) from(li (li (lb (H.s_l3Deep _) fun _=>(lb (H.s_l1Max _ _) fun _=>(H.s_l3Deep_L1 _ _ _))) lr) lr))
theorem E9{F:FsBuild}(H:LeFsBuild F):∀ (t0:(List Int)),LeO (mg F t0) (s_DecFront t0):=fun t0=>(show s_DecFront t0=mg bQ t0 from leq (by kernel_rfl)).symm ▸ (show LeO (mg F t0) (mg bQ t0) from(H.s_DecFront_L1 _ _))
theorem Fe{F:FsBuild}(H:LeFsBuild F):∀ (t0:(List Int)) (t4:Int),LeO (mh F t0 t4) (s_DecFront_L1 t0 t4):=fun t0 t4=>(show s_DecFront_L1 t0 t4=mh bQ t0 t4 from leq (by kernel_rfl)).symm ▸ (show LeO (mh F t0 t4) (mh bQ t0 t4) from(li (li (li (H.s_DecFront_L1 _ _) (li (li (li (li (li (H.s_DecFront_L2 _ _ _) (li (li (H.s_DecFront_L2 _ _ _) (H.s_DecFront_L2 _ _ _)) lr)) lr) (H.s_DecFront_L2 _ _ _)) lr) (li (li (li (H.s_DecFront_L2 _ _ _) (li (li (H.s_DecFront_L2 _ _ _) (H.s_DecFront_L2 _ _ _)) lr)) lr) (H.s_DecFront_L2 _ _ _)))) lr) (li (li (li (li (li (H.s_DecFront_L2 _ _ _) (li (li (H.s_DecFront_L2 _ _ _) (H.s_DecFront_L2 _ _ _)) lr)) lr) (H.s_DecFront_L2 _ _ _)) lr) (li (li (li (H.s_DecFront_L2 _ _ _) (li (li (H.s_DecFront_L2 _ _ _) (H.s_DecFront_L2 _ _ _)) lr)) lr) (H.s_DecFront_L2 _ _ _)))))
theorem Fg{F:FsBuild}(H:LeFsBuild F):∀ (t0:(List Int)) (t4:Int) (t5:Bool),LeO (mi F t0 t4 t5) (s_DecFront_L2 t0 t4 t5):=fun t0 t4 t5=>(show s_DecFront_L2 t0 t4 t5=mi bQ t0 t4 t5 from leq (by kernel_rfl)).symm ▸ (show LeO (mi F t0 t4 t5) (mi bQ t0 t4 t5) from(H.s_DecFront_L3 _ _ _ _ _))
theorem Fh{F:FsBuild}(H:LeFsBuild F):∀ (t0:(List Int)) (t4:Int) (t5:Bool) (t6:Int) (t7:Int),LeO (mj F t0 t4 t5 t6 t7) (s_DecFront_L3 t0 t4 t5 t6 t7):=fun t0 t4 t5 t6 t7=>(show s_DecFront_L3 t0 t4 t5 t6 t7=mj bQ t0 t4 t5 t6 t7 from leq (by kernel_rfl)).symm ▸ (show LeO (mj F t0 t4 t5 t6 t7) (mj bQ t0 t4 t5 t6 t7) from(li (li (lb (H.s_l2Digit _) fun _=>(li (li (li (H.s_DecFront_L3 _ _ _ _ _) lr) (H.s_DecFront_L3 _ _ _ _ _)) (li (li (li (li (lb (H.s_l2Digit _) fun _=>(li (H.s_DecFront_L4 _ _ _ _ _ _) (H.s_DecFront_L5 _ _ _ _))) lr) (H.s_DecFront_L5 _ _ _ _)) lr) (H.s_DecFront_L5 _ _ _ _)))) lr) (li (li (li (li (lb (H.s_l2Digit _) fun _=>(li (H.s_DecFront_L4 _ _ _ _ _ _) (H.s_DecFront_L5 _ _ _ _))) lr) (H.s_DecFront_L5 _ _ _ _)) lr) (H.s_DecFront_L5 _ _ _ _))))
theorem Fi{F:FsBuild}(H:LeFsBuild F):∀ (t0:(List Int)) (t4:Int) (t5:Bool) (t6:Int) (t7:Int) (t8:Int),LeO (ml F t0 t4 t5 t6 t7 t8) (s_DecFront_L4 t0 t4 t5 t6 t7 t8):=fun t0 t4 t5 t6 t7 t8=>(show s_DecFront_L4 t0 t4 t5 t6 t7 t8=ml bQ t0 t4 t5 t6 t7 t8 from leq (by kernel_rfl)).symm ▸ (show LeO (ml F t0 t4 t5 t6 t7 t8) (ml bQ t0 t4 t5 t6 t7 t8) from(li (li (lb (H.s_l2Digit _) fun _=>(li (li (H.s_DecFront_L4 _ _ _ _ _ _) lr) (H.s_DecFront_L5 _ _ _ _))) lr) (H.s_DecFront_L5 _ _ _ _)))
theorem Fj{F:FsBuild}(H:LeFsBuild F):∀ (t4:Int) (t5:Bool) (t6:Int) (t7:Int),LeO (mm F t4 t5 t6 t7) (s_DecFront_L5 t4 t5 t6 t7):=fun t4 t5 t6 t7=>(show s_DecFront_L5 t4 t5 t6 t7=mm bQ t4 t5 t6 t7 from leq (by kernel_rfl)).symm ▸ (show LeO (mm F t4 t5 t6 t7) (mm bQ t4 t5 t6 t7) from(li lr (li lr (li lr lr))))
theorem Hu{F:FsBuild}(H:LeFsBuild F):∀ (s0:bO),LeO (oH F s0) (s_l8Bad s0):=fun s0=>(show s_l8Bad s0=oH bQ s0 from leq (by kernel_rfl)).symm ▸ (show LeO (oH F s0) (oH bQ s0) from(li (lb (H.s_l8Now _) fun _=>lr) lr))
theorem HZ{F:FsBuild}(H:LeFsBuild F):∀ (s0:bO) (t1:Int),LeO (pf F s0 t1) (s_l8While s0 t1):=fun s0 t1=>(show s_l8While s0 t1=pf bQ s0 t1 from leq (by kernel_rfl)).symm ▸ (show LeO (pf F s0 t1) (pf bQ s0 t1) from(lb (H.s_l8Next _) fun _=>(lb (H.s_l8Take _ _) fun _=>(lb (H.s_l8E _) fun _=>(lb (H.s_l8Take _ _) fun _=>(lb (H.s_l8Block _) fun _=>(lb (H.s_l8Kids _ _) fun _=>(li (lb (H.s_l8Is _ _) fun _=>(li (lb (H.s_l8Next _) fun _=>(lb (H.s_l8Block _) fun _=>(li lr lr))) lr)) lr))))))))
theorem HU{F:FsBuild}(H:LeFsBuild F):∀ (s0:bO),LeO (o9 F s0) (s_l8Simple s0):=fun s0=>(show s_l8Simple s0=o9 bQ s0 from leq (by kernel_rfl)).symm ▸ (show LeO (o9 F s0) (o9 bQ s0) from(lb (H.s_l8Is _ _) fun _=>(li (lb (H.s_l8Next _) fun _=>(H.s_l8Simple_L1 _ _ _ _ _ _ _ _ _)) (lb (H.s_l8Is _ _) fun _=>(li (lb (H.s_l8Next _) fun _=>lr) (lb (H.s_l8Is _ _) fun _=>(li (lb (H.s_l8Next _) fun _=>(lb (H.s_l8Name _) fun _=>(lb (H.s_l8Take _ _) fun _=>(lb (H.s_l8E _) fun _=>(lb (H.s_l8Take _ _) fun _=>lr))))) (lb (H.s_l8E _) fun _=>(lb (H.s_l8Kids _ _) fun _=>lr)))))))))
theorem HV{F:FsBuild}(H:LeFsBuild F):∀ (s0:bO) (s32_0:Int) (s32_1:Int) (s32_2:(List Int)) (s32_3:(List bv)) (s48_0:Int) (s48_1:Int) (s48_2:(List Int)) (s48_3:(List bv)),LeO (pb F s0 s32_0 s32_1 s32_2 s32_3 s48_0 s48_1 s48_2 s48_3) (s_l8Simple_L1 s0 s32_0 s32_1 s32_2 s32_3 s48_0 s48_1 s48_2 s48_3):=fun s0 s32_0 s32_1 s32_2 s32_3 s48_0 s48_1 s48_2 s48_3=>(show s_l8Simple_L1 s0 s32_0 s32_1 s32_2 s32_3 s48_0 s48_1 s48_2 s48_3=pb bQ s0 s32_0 s32_1 s32_2 s32_3 s48_0 s48_1 s48_2 s48_3 from leq (by kernel_rfl)).symm ▸ (show LeO (pb F s0 s32_0 s32_1 s32_2 s32_3 s48_0 s48_1 s48_2 s48_3) (pb bQ s0 s32_0 s32_1 s32_2 s32_3 s48_0 s48_1 s48_2 s48_3) from(li (lb (H.s_l8Sign _ _) fun _=>(li (lb (H.s_l8Sign _ _) fun _=>(li (li (lb (H.s_l8Take _ _) fun _=>(lb (H.s_l8E _) fun _=>(li (H.s_l8Simple_L1 _ _ _ _ _ _ _ _ _) lr))) (lb (H.s_l8E _) fun _=>(li (H.s_l8Simple_L1 _ _ _ _ _ _ _ _ _) lr))) lr)) lr)) lr))
theorem HD{F:FsBuild}(H:LeFsBuild F):∀ (s0:bO) (t1:(List Int)),LeO (oQ F s0 t1) (s_l8Es s0 t1):=fun s0 t1=>(show s_l8Es s0 t1=oQ bQ s0 t1 from leq (by kernel_rfl)).symm ▸ (show LeO (oQ F s0 t1) (oQ bQ s0 t1) from(H.s_l8Es_L1 _ _ _))
theorem HE{F:FsBuild}(H:LeFsBuild F):∀ (t1:(List Int)) (t5:(List bv)) (s0:bO),LeO (oR F t1 t5 s0) (s_l8Es_L1 t1 t5 s0):=fun t1 t5 s0=>(show s_l8Es_L1 t1 t5 s0=oR bQ t1 t5 s0 from leq (by kernel_rfl)).symm ▸ (show LeO (oR F t1 t5 s0) (oR bQ t1 t5 s0) from(li (lb (H.s_l8Sign _ _) fun _=>(li (li (lb (H.s_l8Take _ _) fun _=>(lb (H.s_l8E _) fun _=>(li (H.s_l8Es_L1 _ _ _) lr))) (lb (H.s_l8E _) fun _=>(li (H.s_l8Es_L1 _ _ _) lr))) lr)) lr))
theorem HM{F:FsBuild}(H:LeFsBuild F):∀ (s0:bO),LeO (oZ F s0) (s_l8Name s0):=fun s0=>(show s_l8Name s0=oZ bQ s0 from leq (by kernel_rfl)).symm ▸ (show LeO (oZ F s0) (oZ bQ s0) from(lb (H.s_l8Now _) fun _=>(li (lb (H.s_l8Bad _) fun _=>lr) (li (lb (H.s_l8Bad _) fun _=>lr) (lb (H.s_Keyword _) fun _=>(li (lb (H.s_l8Bad _) fun _=>lr) (lb (H.s_l8Next _) fun _=>lr)))))))
theorem Hz{F:FsBuild}(H:LeFsBuild F):∀ (s0:bO),LeO (oM F s0) (s_l8Compare s0):=fun s0=>(show s_l8Compare s0=oM bQ s0 from leq (by kernel_rfl)).symm ▸ (show LeO (oM F s0) (oM bQ s0) from(lb (H.s_l8Level _ _) fun _=>(H.s_l8Compare_L1 _ _ _ _ _ _ _ _)))
theorem HA{F:FsBuild}(H:LeFsBuild F):∀ (t3:(List (List Int))) (t5:Int) (s0:bO) (s32_0:Int) (s32_1:Int) (s32_2:(List Int)) (s32_3:(List bv)) (s64:bv),LeO (oN F t3 t5 s0 s32_0 s32_1 s32_2 s32_3 s64) (s_l8Compare_L1 t3 t5 s0 s32_0 s32_1 s32_2 s32_3 s64):=fun t3 t5 s0 s32_0 s32_1 s32_2 s32_3 s64=>(show s_l8Compare_L1 t3 t5 s0 s32_0 s32_1 s32_2 s32_3 s64=oN bQ t3 t5 s0 s32_0 s32_1 s32_2 s32_3 s64 from leq (by kernel_rfl)).symm ▸ (show LeO (oN F t3 t5 s0 s32_0 s32_1 s32_2 s32_3 s64) (oN bQ t3 t5 s0 s32_0 s32_1 s32_2 s32_3 s64) from(li (li (lb (H.s_l8Sign _ _) fun _=>(li (lb (H.s_l8Next _) fun _=>(lb (H.s_l8Level _ _) fun _=>(lb (H.s_l8Kids _ _) fun _=>lr))) (H.s_l8Compare_L1 _ _ _ _ _ _ _ _))) lr) lr))
theorem HQ{F:FsBuild}(H:LeFsBuild F):∀ (s0:bO),LeO (o5 F s0) (s_l8Row s0):=fun s0=>(show s_l8Row s0=o5 bQ s0 from leq (by kernel_rfl)).symm ▸ (show LeO (o5 F s0) (o5 bQ s0) from(lb (H.s_l8Level _ _) fun _=>(H.s_l8Row_L1 _ _ _ _ _ _)))
theorem HR{F:FsBuild}(H:LeFsBuild F):∀ (s0:bO) (s32_0:Int) (s32_1:Int) (s32_2:(List Int)) (s32_3:(List bv)) (s48:bv),LeO (o6 F s0 s32_0 s32_1 s32_2 s32_3 s48) (s_l8Row_L1 s0 s32_0 s32_1 s32_2 s32_3 s48):=fun s0 s32_0 s32_1 s32_2 s32_3 s48=>(show s_l8Row_L1 s0 s32_0 s32_1 s32_2 s32_3 s48=o6 bQ s0 s32_0 s32_1 s32_2 s32_3 s48 from leq (by kernel_rfl)).symm ▸ (show LeO (o6 F s0 s32_0 s32_1 s32_2 s32_3 s48) (o6 bQ s0 s32_0 s32_1 s32_2 s32_3 s48) from(lb (H.s_l8Begins _) fun _=>(li (lb (H.s_l8Level _ _) fun _=>(lb (H.s_l8Kids _ _) fun _=>(H.s_l8Row_L1 _ _ _ _ _ _))) lr)))
theorem HY{F:FsBuild}(H:LeFsBuild F):∀ (s0:bO),LeO (pe F s0) (s_l8Unit s0):=fun s0=>(show s_l8Unit s0=pe bQ s0 from leq (by kernel_rfl)).symm ▸ (show LeO (pe F s0) (pe bQ s0) from(li (lb (H.s_l8Atom _) fun _=>lr) (lb (H.s_l8Sign _ _) fun _=>(li (lb (H.s_l8Next _) fun _=>(lb (H.s_l8Unit _) fun _=>(lb (H.s_l8Kids _ _) fun _=>lr))) (lb (H.s_l8Sign _ _) fun _=>(li (lb (H.s_l8Next _) fun _=>(lb (H.s_l8Unit _) fun _=>(lb (H.s_l8Kids _ _) fun _=>lr))) (lb (H.s_l8Atom _) fun _=>lr)))))))
theorem HH{F:FsBuild}(H:LeFsBuild F):∀ (s0:bO) (t1:Int),LeO (oU F s0 t1) (s_l8Left s0 t1):=fun s0 t1=>(show s_l8Left s0 t1=oU bQ s0 t1 from leq (by kernel_rfl)).symm ▸ (show LeO (oU F s0 t1) (oU bQ s0 t1) from(lb (H.s_l8Level _ _) fun _=>(H.s_l8Left_L1 _ _ _ _ _ _)))
theorem HI{F:FsBuild}(H:LeFsBuild F):∀ (t1:Int) (t5:(List (List (List Int)))) (t6:(List (List Int))) (s0:bO) (s64:bv) (s112:bv),LeO (oV F t1 t5 t6 s0 s64 s112) (s_l8Left_L1 t1 t5 t6 s0 s64 s112):=fun t1 t5 t6 s0 s64 s112=>(show s_l8Left_L1 t1 t5 t6 s0 s64 s112=oV bQ t1 t5 t6 s0 s64 s112 from leq (by kernel_rfl)).symm ▸ (show LeO (oV F t1 t5 t6 s0 s64 s112) (oV bQ t1 t5 t6 s0 s64 s112) from(li (H.s_l8Left_L2 _ _ _ _ _ _ _) lr))
theorem HJ{F:FsBuild}(H:LeFsBuild F):∀ (t1:Int) (t5:(List (List (List Int)))) (t6:(List (List Int))) (t8:Int) (s0:bO) (s64:bv) (s112:bv),LeO (oW F t1 t5 t6 t8 s0 s64 s112) (s_l8Left_L2 t1 t5 t6 t8 s0 s64 s112):=fun t1 t5 t6 t8 s0 s64 s112=>(show s_l8Left_L2 t1 t5 t6 t8 s0 s64 s112=oW bQ t1 t5 t6 t8 s0 s64 s112 from leq (by kernel_rfl)).symm ▸ (show LeO (oW F t1 t5 t6 t8 s0 s64 s112) (oW bQ t1 t5 t6 t8 s0 s64 s112) from(li (li (li (li (lb (H.s_l8Sign _ _) fun _=>(li (H.s_l8Left_L2 _ _ _ _ _ _ _) (li (li lr (lb (H.s_l8Next _) fun _=>(lb (H.s_l8Level _ _) fun _=>(li (li (lb (H.s_l8Kids _ _) fun _=>(H.s_l8Left_L3 _ _ _ _ _ _ _)) lr) lr)))) lr))) lr) lr) (li (li lr (lb (H.s_l8Next _) fun _=>(lb (H.s_l8Level _ _) fun _=>(li (li (lb (H.s_l8Kids _ _) fun _=>(H.s_l8Left_L3 _ _ _ _ _ _ _)) lr) lr)))) lr)) lr))
theorem HK{F:FsBuild}(H:LeFsBuild F):∀ (t1:Int) (t5:(List (List (List Int)))) (t6:(List (List Int))) (t8:Int) (s0:bO) (s64:bv) (s112:bv),LeO (oX F t1 t5 t6 t8 s0 s64 s112) (s_l8Left_L3 t1 t5 t6 t8 s0 s64 s112):=fun t1 t5 t6 t8 s0 s64 s112=>(show s_l8Left_L3 t1 t5 t6 t8 s0 s64 s112=oX bQ t1 t5 t6 t8 s0 s64 s112 from leq (by kernel_rfl)).symm ▸ (show LeO (oX F t1 t5 t6 t8 s0 s64 s112) (oX bQ t1 t5 t6 t8 s0 s64 s112) from(li (li (lb (H.s_l8Kids _ _) fun _=>(H.s_l8Left_L1 _ _ _ _ _ _)) (H.s_l8Left_L1 _ _ _ _ _ _)) (H.s_l8Left_L1 _ _ _ _ _ _)))
theorem H5{F:FsBuild}(H:LeFsBuild F):∀ (t0:bv),LeO (pn F t0) (s_l9Kids t0):=fun t0=>(show s_l9Kids t0=pn bQ t0 from leq (by kernel_rfl)).symm ▸ (show LeO (pn F t0) (pn bQ t0) from(li (H.s_l9Kids_L1 _ _ _ _) (li (H.s_l9Kids_L1 _ _ _ _) (li (H.s_l9Kids_L1 _ _ _ _) (li (H.s_l9Kids_L1 _ _ _ _) (li (H.s_l9Kids_L1 _ _ _ _) (H.s_l9Kids_L1 _ _ _ _)))))))
theorem H6{F:FsBuild}(H:LeFsBuild F):∀ (t3:Int) (t9:Int) (t10:Bool) (s16:bv),LeO (po F t3 t9 t10 s16) (s_l9Kids_L1 t3 t9 t10 s16):=fun t3 t9 t10 s16=>(show s_l9Kids_L1 t3 t9 t10 s16=po bQ t3 t9 t10 s16 from leq (by kernel_rfl)).symm ▸ (show LeO (po F t3 t9 t10 s16) (po bQ t3 t9 t10 s16) from(li (li (lb (H.s_l9Es _ _ _) fun _=>lr) lr) (li (H.s_l9Kids_L2 _ _ _ _) (li (H.s_l9Kids_L2 _ _ _ _) (li (H.s_l9Kids_L2 _ _ _ _) (li (H.s_l9Kids_L2 _ _ _ _) (li (H.s_l9Kids_L2 _ _ _ _) (li (H.s_l9Kids_L2 _ _ _ _) (li (H.s_l9Kids_L2 _ _ _ _) (li (H.s_l9Kids_L2 _ _ _ _) (li (H.s_l9Kids_L2 _ _ _ _) (li (H.s_l9Kids_L2 _ _ _ _) (li (H.s_l9Kids_L2 _ _ _ _) (li (H.s_l9Kids_L2 _ _ _ _) (li (H.s_l9Kids_L2 _ _ _ _) (li (H.s_l9Kids_L2 _ _ _ _) (H.s_l9Kids_L2 _ _ _ _)))))))))))))))))
theorem H7{F:FsBuild}(H:LeFsBuild F):∀ (t3:Int) (t9:Int) (t23:Bool) (s16:bv),LeO (pp F t3 t9 t23 s16) (s_l9Kids_L2 t3 t9 t23 s16):=fun t3 t9 t23 s16=>(show s_l9Kids_L2 t3 t9 t23 s16=pp bQ t3 t9 t23 s16 from leq (by kernel_rfl)).symm ▸ (show LeO (pp F t3 t9 t23 s16) (pp bQ t3 t9 t23 s16) from(li (li (lb (H.s_l9Es _ _ _) fun _=>lr) lr) (li (H.s_l9Kids_L3 _ _ _ _) (H.s_l9Kids_L3 _ _ _ _))))
theorem H8{F:FsBuild}(H:LeFsBuild F):∀ (t3:Int) (t9:Int) (t45:Bool) (s16:bv),LeO (pq F t3 t9 t45 s16) (s_l9Kids_L3 t3 t9 t45 s16):=fun t3 t9 t45 s16=>(show s_l9Kids_L3 t3 t9 t45 s16=pq bQ t3 t9 t45 s16 from leq (by kernel_rfl)).symm ▸ (show LeO (pq F t3 t9 t45 s16) (pq bQ t3 t9 t45 s16) from(li (li (li (li (lb (H.s_l9Es _ _ _) fun _=>lr) (li (li (lb (H.s_l9Es _ _ _) fun _=>lr) lr) lr)) lr) lr) (li (H.s_l9Kids_L4 _ _ _ _) (H.s_l9Kids_L4 _ _ _ _))))
theorem H9{F:FsBuild}(H:LeFsBuild F):∀ (t3:Int) (t9:Int) (t70:Bool) (s16:bv),LeO (pt F t3 t9 t70 s16) (s_l9Kids_L4 t3 t9 t70 s16):=fun t3 t9 t70 s16=>(show s_l9Kids_L4 t3 t9 t70 s16=pt bQ t3 t9 t70 s16 from leq (by kernel_rfl)).symm ▸ (show LeO (pt F t3 t9 t70 s16) (pt bQ t3 t9 t70 s16) from(li (lb (H.s_l9Es _ _ _) fun _=>lr) (li (lb (H.s_l1In _ _ _) fun _=>(li (lb (H.s_l9Es _ _ _) fun _=>(li (lb (H.s_l9Blocks _ _) fun _=>lr) lr)) lr)) (li (li (lb (H.s_l9Es _ _ _) fun _=>(li (lb (H.s_l9Blocks _ _) fun _=>lr) lr)) lr) (li (H.s_l9Kids_L5 _ _ _) lr)))))
theorem Ia{F:FsBuild}(H:LeFsBuild F):∀ (t3:Int) (t4:Int) (s16:bv),LeO (pu F t3 t4 s16) (s_l9Kids_L5 t3 t4 s16):=fun t3 t4 s16=>(show s_l9Kids_L5 t3 t4 s16=pu bQ t3 t4 s16 from leq (by kernel_rfl)).symm ▸ (show LeO (pu F t3 t4 s16) (pu bQ t3 t4 s16) from(li (li (lb (H.s_l1In _ _ _) fun _=>(li lr (li (lb (H.s_l9Node _) fun _=>(li lr (H.s_l9Kids_L5 _ _ _))) lr))) lr) lr))
theorem Ii{F:FsBuild}(H:LeFsBuild F):∀ (t0:(List Int)),LeO (pC F t0) (s_l9Rex t0):=fun t0=>(show s_l9Rex t0=pC bQ t0 from leq (by kernel_rfl)).symm ▸ (show LeO (pC F t0) (pC bQ t0) from(H.s_l9Rex_L1 _ _))
theorem Ij{F:FsBuild}(H:LeFsBuild F):∀ (t0:(List Int)) (t3:Int),LeO (pD F t0 t3) (s_l9Rex_L1 t0 t3):=fun t0 t3=>(show s_l9Rex_L1 t0 t3=pD bQ t0 t3 from leq (by kernel_rfl)).symm ▸ (show LeO (pD F t0 t3) (pD bQ t0 t3) from(li (li (li (li lr (li (li lr (H.s_l9Rex_L1 _ _)) lr)) (H.s_l9Rex_L1 _ _)) lr) (lb (H.s_l9Line _) fun _=>lr)))
theorem GH{F:FsBuild}(H:LeFsBuild F):∀ (s0:bN) (t1:Int),LeO (nK F s0 t1) (s_l3Part s0 t1):=fun s0 t1=>(show s_l3Part s0 t1=nK bQ s0 t1 from leq (by kernel_rfl)).symm ▸ (show LeO (nK F s0 t1) (nK bQ s0 t1) from(H.s_l3Part_L1 _ _ _ _))
theorem GI{F:FsBuild}(H:LeFsBuild F):∀ (t1:Int) (t5:(List bC)) (s0:bN) (s64:bC),LeO (nL F t1 t5 s0 s64) (s_l3Part_L1 t1 t5 s0 s64):=fun t1 t5 s0 s64=>(show s_l3Part_L1 t1 t5 s0 s64=nL bQ t1 t5 s0 s64 from leq (by kernel_rfl)).symm ▸ (show LeO (nL F t1 t5 s0 s64) (nL bQ t1 t5 s0 s64) from(li (li (li (li (li (li (lb (H.s_l3Piece _ _) fun _=>(li (H.s_l3Part_L1 _ _ _ _) lr)) (li lr (li (li lr lr) lr))) lr) (li lr (li (li lr lr) lr))) lr) (li lr (li (li lr lr) lr))) (li lr (li (li lr lr) lr))))
theorem GG{F:FsBuild}(H:LeFsBuild F):∀ (s0:bN) (t1:Int),LeO (nJ F s0 t1) (s_l3Now s0 t1):=fun s0 t1=>(show s_l3Now s0 t1=nJ bQ s0 t1 from leq (by kernel_rfl)).symm ▸ (show LeO (nJ F s0 t1) (nJ bQ s0 t1) from(li (li (li lr lr) lr) lr))
theorem Hv{F:FsBuild}(H:LeFsBuild F):∀ (s0:bO),LeO (oI F s0) (s_l8Begins s0):=fun s0=>(show s_l8Begins s0=oI bQ s0 from leq (by kernel_rfl)).symm ▸ (show LeO (oI F s0) (oI bQ s0) from(lb (H.s_l8Now _) fun _=>(li lr (li (H.s_l8Begins_L1 _ _ _ _) (li (H.s_l8Begins_L1 _ _ _ _) (H.s_l8Begins_L1 _ _ _ _))))))
theorem Hw{F:FsBuild}(H:LeFsBuild F):∀ (t12:Int) (t13:Bool) (s0:bO) (s48:bF),LeO (oJ F t12 t13 s0 s48) (s_l8Begins_L1 t12 t13 s0 s48):=fun t12 t13 s0 s48=>(show s_l8Begins_L1 t12 t13 s0 s48=oJ bQ t12 t13 s0 s48 from leq (by kernel_rfl)).symm ▸ (show LeO (oJ F t12 t13 s0 s48) (oJ bQ t12 t13 s0 s48) from(li lr (li (lb (H.s_Keyword _) fun _=>(li lr (li lr (li lr (lb (H.s_l7Calls ) fun _=>(lb (H.s_l7Within _ _) fun _=>lr)))))) (li (li lr lr) lr))))
theorem Ht{F:FsBuild}(H:LeFsBuild F):∀ (s0:bO),LeO (oG F s0) (s_l8Atom s0):=fun s0=>(show s_l8Atom s0=oG bQ s0 from leq (by kernel_rfl)).symm ▸ (show LeO (oG F s0) (oG bQ s0) from(li lr (lb (H.s_l8Now _) fun _=>(li lr (li (lb (H.s_l8Next _) fun _=>lr) (li (lb (H.s_l8Next _) fun _=>lr) (li (lb (H.s_l8Next _) fun _=>lr) (li (lb (H.s_l8Named _) fun _=>lr) (lb (H.s_l8Sign _ _) fun _=>(li (lb (H.s_l8Next _) fun _=>(lb (H.s_l8Atom _) fun _=>(lb (H.s_l8Kids _ _) fun _=>lr))) (lb (H.s_l8Take _ _) fun _=>(lb (H.s_l8E _) fun _=>(lb (H.s_l8Take _ _) fun _=>lr)))))))))))))
theorem H2{F:FsBuild}(H:LeFsBuild F):∀ (t0:bv) (t1:Int) (t2:Int),LeO (pi F t0 t1 t2) (s_l9Es t0 t1 t2):=fun t0 t1 t2=>(show s_l9Es t0 t1 t2=pi bQ t0 t1 t2 from leq (by kernel_rfl)).symm ▸ (show LeO (pi F t0 t1 t2) (pi bQ t0 t1 t2) from(H.s_l9Es_L1 _ _ _))
theorem H3{F:FsBuild}(H:LeFsBuild F):∀ (t2:Int) (t7:Int) (s48:bv),LeO (pj F t2 t7 s48) (s_l9Es_L1 t2 t7 s48):=fun t2 t7 s48=>(show s_l9Es_L1 t2 t7 s48=pj bQ t2 t7 s48 from leq (by kernel_rfl)).symm ▸ (show LeO (pj F t2 t7 s48) (pj bQ t2 t7 s48) from(li (li (lb (H.s_l9IsE _) fun _=>(li lr (li (lb (H.s_l9Node _) fun _=>(li lr (H.s_l9Es_L1 _ _ _))) lr))) lr) lr))
theorem H0{F:FsBuild}(H:LeFsBuild F):∀ (t0:bv) (t1:Int),LeO (pg F t0 t1) (s_l9Blocks t0 t1):=fun t0 t1=>(show s_l9Blocks t0 t1=pg bQ t0 t1 from leq (by kernel_rfl)).symm ▸ (show LeO (pg F t0 t1) (pg bQ t0 t1) from(H.s_l9Blocks_L1 _ _))
theorem H1{F:FsBuild}(H:LeFsBuild F):∀ (t5:Int) (s32:bv),LeO (ph F t5 s32) (s_l9Blocks_L1 t5 s32):=fun t5 s32=>(show s_l9Blocks_L1 t5 s32=ph bQ t5 s32 from leq (by kernel_rfl)).symm ▸ (show LeO (ph F t5 s32) (ph bQ t5 s32) from(li (li (li lr (li (lb (H.s_l9Node _) fun _=>(li lr (H.s_l9Blocks_L1 _ _))) lr)) lr) lr))
theorem GL{F:FsBuild}(H:LeFsBuild F):∀ (s0:bN) (t1:Int),LeO (nO F s0 t1) (s_l3Piece s0 t1):=fun s0 t1=>(show s_l3Piece s0 t1=nO bQ s0 t1 from leq (by kernel_rfl)).symm ▸ (show LeO (nO F s0 t1) (nO bQ s0 t1) from(lb (H.s_l3Atom _ _) fun _=>(H.s_l3Piece_L1 _ _ _)))
theorem GM{F:FsBuild}(H:LeFsBuild F):∀ (s0:bN) (s64:bC) (s80:bC),LeO (nP F s0 s64 s80) (s_l3Piece_L1 s0 s64 s80):=fun s0 s64 s80=>(show s_l3Piece_L1 s0 s64 s80=nP bQ s0 s64 s80 from leq (by kernel_rfl)).symm ▸ (show LeO (nP F s0 s64 s80) (nP bQ s0 s64 s80) from(li (lb (H.s_l3Now _ _) fun _=>(li (H.s_l3Piece_L2 _ _ _ _) (lb (H.s_l3Now _ _) fun _=>(li (H.s_l3Piece_L2 _ _ _ _) (lb (H.s_l3Now _ _) fun _=>(li (H.s_l3Piece_L2 _ _ _ _) (H.s_l3Piece_L2 _ _ _ _))))))) lr))
theorem GN{F:FsBuild}(H:LeFsBuild F):∀ (t6:Int) (s0:bN) (s64:bC) (s80:bC),LeO (nQ F t6 s0 s64 s80) (s_l3Piece_L2 t6 s0 s64 s80):=fun t6 s0 s64 s80=>(show s_l3Piece_L2 t6 s0 s64 s80=nQ bQ t6 s0 s64 s80 from leq (by kernel_rfl)).symm ▸ (show LeO (nQ F t6 s0 s64 s80) (nQ bQ t6 s0 s64 s80) from(li lr (H.s_l3Piece_L1 _ _ _)))
theorem GC{F:FsBuild}(H:LeFsBuild F):∀ (s0:bN) (t1:Int),LeO (nF F s0 t1) (s_l3Atom s0 t1):=fun s0 t1=>(show s_l3Atom s0 t1=nF bQ s0 t1 from leq (by kernel_rfl)).symm ▸ (show LeO (nF F s0 t1) (nF bQ s0 t1) from(li lr (li lr (li lr (li (li (lb (H.s_l3Pattern _ _) fun _=>(lb (H.s_l3Now _ _) fun _=>(li lr lr))) (li lr (li lr (li lr (li (lb (H.s_l3Set _) fun _=>lr) (li (li lr (li lr lr)) (li (li (H.s_l3Atom_L1 _ _ _) (H.s_l3Atom_L1 _ _ _)) (li (li (H.s_l3Atom_L1 _ _ _) (H.s_l3Atom_L1 _ _ _)) (li (H.s_l3Atom_L1 _ _ _) (H.s_l3Atom_L1 _ _ _)))))))))) lr)))))
theorem GD{F:FsBuild}(H:LeFsBuild F):∀ (t5:Int) (s0:bN) (s64:bC),LeO (nG F t5 s0 s64) (s_l3Atom_L1 t5 s0 s64):=fun t5 s0 s64=>(show s_l3Atom_L1 t5 s0 s64=nG bQ t5 s0 s64 from leq (by kernel_rfl)).symm ▸ (show LeO (nG F t5 s0 s64) (nG bQ t5 s0 s64)from lr)
theorem Fz{F:FsBuild}(H:LeFsBuild F):∀ (t0:bC),LeO (mv F t0) (s_NfaOf t0):=fun t0=>(show s_NfaOf t0=mv bQ t0 from leq (by kernel_rfl)).symm ▸ (show LeO (mv F t0) (mv bQ t0) from(lb (H.s_RexOk _) fun _=>(li lr (lb (H.s_l4Of _ _) fun _=>(lb (H.s_l4Put _ _) fun _=>lr)))))
theorem GS{F:FsBuild}(H:LeFsBuild F):∀ (s0:bN),LeO (nV F s0) (s_l3Set s0):=fun s0=>(show s_l3Set s0=nV bQ s0 from leq (by kernel_rfl)).symm ▸ (show LeO (nV F s0) (nV bQ s0) from(lb (H.s_l3Now _ _) fun _=>(li (H.s_l3Set_L1 _ _ _) (H.s_l3Set_L1 _ _ _))))
theorem GT{F:FsBuild}(H:LeFsBuild F):∀ (s0:bN) (s32:bC) (s48:bC),LeO (nW F s0 s32 s48) (s_l3Set_L1 s0 s32 s48):=fun s0 s32 s48=>(show s_l3Set_L1 s0 s32 s48=nW bQ s0 s32 s48 from leq (by kernel_rfl)).symm ▸ (show LeO (nW F s0 s32 s48) (nW bQ s0 s32 s48) from(H.s_l3Set_L2 _ _ _ _ _))
theorem GU{F:FsBuild}(H:LeFsBuild F):∀ (t4:(List Bool)) (t5:Int) (s0:bN) (s32:bC) (s48:bC),LeO (nX F t4 t5 s0 s32 s48) (s_l3Set_L2 t4 t5 s0 s32 s48):=fun t4 t5 s0 s32 s48=>(show s_l3Set_L2 t4 t5 s0 s32 s48=nX bQ t4 t5 s0 s32 s48 from leq (by kernel_rfl)).symm ▸ (show LeO (nX F t4 t5 s0 s32 s48) (nX bQ t4 t5 s0 s32 s48) from(li (li (li (li (li (li (li (li (li (li (H.s_l3Set_L3 _ _ _ _ _ _ _) lr) (H.s_l3Set_L3 _ _ _ _ _ _ _)) lr) (H.s_l3Set_L3 _ _ _ _ _ _ _)) lr) (H.s_l3Set_L3 _ _ _ _ _ _ _)) lr) (li (H.s_l3Set_L4 _ _ _ _) (li (H.s_l3Set_L4 _ _ _ _) (H.s_l3Set_L4 _ _ _ _)))) lr) (li (H.s_l3Set_L4 _ _ _ _) (li (H.s_l3Set_L4 _ _ _ _) (H.s_l3Set_L4 _ _ _ _)))))
theorem GV{F:FsBuild}(H:LeFsBuild F):∀ (t4:(List Bool)) (t5:Int) (t6:Int) (t7:Int) (s0:bN) (s32:bC) (s48:bC),LeO (nY F t4 t5 t6 t7 s0 s32 s48) (s_l3Set_L3 t4 t5 t6 t7 s0 s32 s48):=fun t4 t5 t6 t7 s0 s32 s48=>(show s_l3Set_L3 t4 t5 t6 t7 s0 s32 s48=nY bQ t4 t5 t6 t7 s0 s32 s48 from leq (by kernel_rfl)).symm ▸ (show LeO (nY F t4 t5 t6 t7 s0 s32 s48) (nY bQ t4 t5 t6 t7 s0 s32 s48) from(li (H.s_l3Set_L5 _ _ _ _ _ _ _) (H.s_l3Set_L5 _ _ _ _ _ _ _)))
theorem GW{F:FsBuild}(H:LeFsBuild F):∀ (t4:(List Bool)) (s0:bN) (s32:bC) (s48:bC),LeO (nZ F t4 s0 s32 s48) (s_l3Set_L4 t4 s0 s32 s48):=fun t4 s0 s32 s48=>(show s_l3Set_L4 t4 s0 s32 s48=nZ bQ t4 s0 s32 s48 from leq (by kernel_rfl)).symm ▸ (show LeO (nZ F t4 s0 s32 s48) (nZ bQ t4 s0 s32 s48) from(H.s_l3Set_L6 _ _ _ _ _ _))
theorem GX{F:FsBuild}(H:LeFsBuild F):∀ (t4:(List Bool)) (t5:Int) (t6:Int) (t7:Int) (s0:bN) (s32:bC) (s48:bC),LeO (n6 F t4 t5 t6 t7 s0 s32 s48) (s_l3Set_L5 t4 t5 t6 t7 s0 s32 s48):=fun t4 t5 t6 t7 s0 s32 s48=>(show s_l3Set_L5 t4 t5 t6 t7 s0 s32 s48=n6 bQ t4 t5 t6 t7 s0 s32 s48 from leq (by kernel_rfl)).symm ▸ (show LeO (n6 F t4 t5 t6 t7 s0 s32 s48) (n6 bQ t4 t5 t6 t7 s0 s32 s48) from(H.s_l3Set_L7 _ _ _ _ _ _ _))
theorem GY{F:FsBuild}(H:LeFsBuild F):∀ (t4:(List Bool)) (t9:(List Int)) (t10:Int) (s0:bN) (s32:bC) (s48:bC),LeO (n7 F t4 t9 t10 s0 s32 s48) (s_l3Set_L6 t4 t9 t10 s0 s32 s48):=fun t4 t9 t10 s0 s32 s48=>(show s_l3Set_L6 t4 t9 t10 s0 s32 s48=n7 bQ t4 t9 t10 s0 s32 s48 from leq (by kernel_rfl)).symm ▸ (show LeO (n7 F t4 t9 t10 s0 s32 s48) (n7 bQ t4 t9 t10 s0 s32 s48) from(li (li (li (li (H.s_l3Set_L6 _ _ _ _ _ _) lr) (H.s_l3Set_L6 _ _ _ _ _ _)) lr) lr))
theorem GZ{F:FsBuild}(H:LeFsBuild F):∀ (t4:(List Bool)) (t5:Int) (t7:Int) (t8:Int) (s0:bN) (s32:bC) (s48:bC),LeO (n8 F t4 t5 t7 t8 s0 s32 s48) (s_l3Set_L7 t4 t5 t7 t8 s0 s32 s48):=fun t4 t5 t7 t8 s0 s32 s48=>(show s_l3Set_L7 t4 t5 t7 t8 s0 s32 s48=n8 bQ t4 t5 t7 t8 s0 s32 s48 from leq (by kernel_rfl)).symm ▸ (show LeO (n8 F t4 t5 t7 t8 s0 s32 s48) (n8 bQ t4 t5 t7 t8 s0 s32 s48) from(li (li (H.s_l3Set_L7 _ _ _ _ _ _ _) lr) (H.s_l3Set_L2 _ _ _ _ _)))
theorem FH{F:FsBuild}(H:LeFsBuild F):∀ (t0:bC),LeO (mE F t0) (s_RexOk t0):=fun t0=>(show s_RexOk t0=mE bQ t0 from leq (by kernel_rfl)).symm ▸ (show LeO (mE F t0) (mE bQ t0) from(lb (H.s_l3Deep _) fun _=>(li (lb (H.s_l3Right _) fun _=>lr) lr)))
theorem G5{F:FsBuild}(H:LeFsBuild F):∀ (t0:(List bz)) (t1:bC),LeO (ob F t0 t1) (s_l4Of t0 t1):=fun t0 t1=>(show s_l4Of t0 t1=ob bQ t0 t1 from leq (by kernel_rfl)).symm ▸ (show LeO (ob F t0 t1) (ob bQ t0 t1) from(li (li lr lr) (li (lb (H.s_l4Put _ _) fun _=>lr) (li (li lr lr) (li (lb (H.s_l4Put _ _) fun _=>lr) (li (lb (H.s_l4Put _ _) fun _=>lr) (li (H.s_l4Of_L1 _ _ _) (li (lb (H.s_l4Or _ _) fun _=>lr) (li (lb (H.s_l4Put _ _) fun _=>(li (lb (H.s_l4Of _ _) fun _=>(li (li (li (H.s_l4Of_L2 _) lr) lr) lr)) lr)) (li (li (lb (H.s_l4Of _ _) fun _=>(li (H.s_l4Of_L2 _) lr)) lr) (li (lb (H.s_l4Put _ _) fun _=>(li (lb (H.s_l4Of _ _) fun _=>(li (li (H.s_l4Of_L2 _) lr) lr)) lr)) (H.s_l4Of_L2 _))))))))))))
theorem G6{F:FsBuild}(H:LeFsBuild F):∀ (t0:(List bz)) (t6:Int) (s48:bC),LeO (oc F t0 t6 s48) (s_l4Of_L1 t0 t6 s48):=fun t0 t6 s48=>(show s_l4Of_L1 t0 t6 s48=oc bQ t0 t6 s48 from leq (by kernel_rfl)).symm ▸ (show LeO (oc F t0 t6 s48) (oc bQ t0 t6 s48) from(li (li (lb (H.s_l4Of _ _) fun _=>(H.s_l4Of_L1 _ _ _)) lr) (H.s_l4Of_L2 _)))
theorem G7{F:FsBuild}(H:LeFsBuild F):∀ (t0:(List bz)),LeO (od F t0) (s_l4Of_L2 t0):=fun t0=>(show s_l4Of_L2 t0=od bQ t0 from leq (by kernel_rfl)).symm ▸ (show LeO (od F t0) (od bQ t0)from lr)
theorem Hb{F:FsBuild}(H:LeFsBuild F):∀ (t0:(List bz)) (t1:Int),LeO (oj F t0 t1) (s_l4Put t0 t1):=fun t0 t1=>(show s_l4Put t0 t1=oj bQ t0 t1 from leq (by kernel_rfl)).symm ▸ (show LeO (oj F t0 t1) (oj bQ t0 t1) from(li lr lr))
theorem GO{F:FsBuild}(H:LeFsBuild F):∀ (t0:bC),LeO (nR F t0) (s_l3Right t0):=fun t0=>(show s_l3Right t0=nR bQ t0 from leq (by kernel_rfl)).symm ▸ (show LeO (nR F t0) (nR bQ t0) from(H.s_l3Right_L1 _ _))
theorem GP{F:FsBuild}(H:LeFsBuild F):∀ (t3:Int) (s16:bC),LeO (nS F t3 s16) (s_l3Right_L1 t3 s16):=fun t3 s16=>(show s_l3Right_L1 t3 s16=nS bQ t3 s16 from leq (by kernel_rfl)).symm ▸ (show LeO (nS F t3 s16) (nS bQ t3 s16) from(li (li (lb (H.s_l3Right _) fun _=>(li lr (H.s_l3Right_L1 _ _))) lr) (li (lb (H.s_l1In _ _ _) fun _=>(li (li (li lr lr) lr) lr)) (li (li (li (lb (H.s_l3Up _) fun _=>(li lr lr)) lr) lr) (li (H.s_l3Right_L2 _ _ _ _) (H.s_l3Right_L2 _ _ _ _))))))
theorem GQ{F:FsBuild}(H:LeFsBuild F):∀ (t4:Int) (t23:Int) (t62:Bool) (s16:bC),LeO (nT F t4 t23 t62 s16) (s_l3Right_L2 t4 t23 t62 s16):=fun t4 t23 t62 s16=>(show s_l3Right_L2 t4 t23 t62 s16=nT bQ t4 t23 t62 s16 from leq (by kernel_rfl)).symm ▸ (show LeO (nT F t4 t23 t62 s16) (nT bQ t4 t23 t62 s16) from(li (li (li (li lr lr) lr) lr) (li (H.s_l3Right_L3 _ _ _) (li (H.s_l3Right_L3 _ _ _) (H.s_l3Right_L3 _ _ _)))))
theorem GR{F:FsBuild}(H:LeFsBuild F):∀ (t4:Int) (t82:Bool) (s16:bC),LeO (nU F t4 t82 s16) (s_l3Right_L3 t4 t82 s16):=fun t4 t82 s16=>(show s_l3Right_L3 t4 t82 s16=nU bQ t4 t82 s16 from leq (by kernel_rfl)).symm ▸ (show LeO (nU F t4 t82 s16) (nU bQ t4 t82 s16) from(li (li (li (li lr lr) lr) lr) (lb (H.s_l1In _ _ _) fun _=>(li (li (li (li lr lr) lr) lr) lr))))
theorem G8{F:FsBuild}(H:LeFsBuild F):∀ (t0:(List bz)) (t1:(List bC)),LeO (oe F t0 t1) (s_l4Or t0 t1):=fun t0 t1=>(show s_l4Or t0 t1=oe bQ t0 t1 from leq (by kernel_rfl)).symm ▸ (show LeO (oe F t0 t1) (oe bQ t0 t1) from(H.s_l4Or_L1 _ _ _ _))
theorem G9{F:FsBuild}(H:LeFsBuild F):∀ (t0:(List bz)) (t1:(List bC)) (t5:(List Int)) (t6:Int),LeO (oh F t0 t1 t5 t6) (s_l4Or_L1 t0 t1 t5 t6):=fun t0 t1 t5 t6=>(show s_l4Or_L1 t0 t1 t5 t6=oh bQ t0 t1 t5 t6 from leq (by kernel_rfl)).symm ▸ (show LeO (oh F t0 t1 t5 t6) (oh bQ t0 t1 t5 t6) from(li (lb (H.s_l4Put _ _) fun _=>(li (lb (H.s_l4Of _ _) fun _=>(li (lb (H.s_l4Put _ _) fun _=>(li (li (H.s_l4Or_L1 _ _ _ _) lr) lr)) lr)) lr)) (li (lb (H.s_l4Of _ _) fun _=>(H.s_l4Or_L2 _ _ _)) lr)))
theorem Ha{F:FsBuild}(H:LeFsBuild F):∀ (t0:(List bz)) (t5:(List Int)) (t8:Int),LeO (oi F t0 t5 t8) (s_l4Or_L2 t0 t5 t8):=fun t0 t5 t8=>(show s_l4Or_L2 t0 t5 t8=oi bQ t0 t5 t8 from leq (by kernel_rfl)).symm ▸ (show LeO (oi F t0 t5 t8) (oi bQ t0 t5 t8) from(li (li (li (H.s_l4Or_L2 _ _ _) lr) lr) lr))
theorem G0{F:FsBuild}(H:LeFsBuild F):∀ (t0:(List Int)),LeO (n9 F t0) (s_l3Up t0):=fun t0=>(show s_l3Up t0=n9 bQ t0 from leq (by kernel_rfl)).symm ▸ (show LeO (n9 F t0) (n9 bQ t0) from(H.s_l3Up_L1 _ _))
theorem G4{F:FsBuild}(H:LeFsBuild F):∀ (t0:(List Int)) (t3:Int),LeO (oa F t0 t3) (s_l3Up_L1 t0 t3):=fun t0 t3=>(show s_l3Up_L1 t0 t3=oa bQ t0 t3 from leq (by kernel_rfl)).symm ▸ (show LeO (oa F t0 t3) (oa bQ t0 t3) from(li (li (li (li lr (H.s_l3Up_L1 _ _)) lr) lr) lr))
def kZ(n:Nat):FsBuild:=Nat.rec ⟨fun _ _ _=>none,fun _=>none,fun _=>none,fun _ _=>none,fun _ _=>none,fun _=>none,fun _ _=>none,fun _=>none,fun _ _ _ _ _ _ _ _=>none,fun _=>none,fun _ _ _ _ _ _ _ _ _ _ _=>none,fun _=>none,fun _ _=>none,fun _ _=>none,fun _ _ _=>none,fun _ _ _=>none,fun _ _ _ _ _=>none,fun _=>none,fun _ _ _=>none,fun _ _ _=>none,fun _=>none,fun _=>none,fun _=>none,fun _ _ _=>none,fun _ _=>none,fun _=>none,fun _ _=>none,fun _ _ _ _=>none,fun _ _=>none,fun _ _=>none,fun _=>none,fun _ _ _ _=>none,fun _ _ _ _=>none,fun _ _ _ _ _=>none,fun _ _ _ _=>none,fun _ _ _ _ _ _=>none,fun _ _ _ _ _=>none,fun _ _ _ _ _ _=>none,fun _=>none,fun _=>none,fun _ _ _ _=>none,fun _ _ _ _ _ _=>none,fun _ _ _ _ _=>none,fun _ _ _ _=>none,fun _ _ _ _=>none,fun _ _ _=>none,fun _ _ _ _=>none,fun _ _=>none,fun _=>none,fun _=>none,fun _ _ _ _ _ _ _ _ _=>none,fun _ _=>none,fun _=>none,fun _ _ _ _ _ _ _=>none,fun _ _=>none,fun _=>none,fun _ _=>none,fun _=>none,fun _ _=>none,fun _=>none,fun _ _=>none,fun _ _ _=>none,fun _=>none,fun _ _=>none,fun _ _ _=>none,fun _ _ _=>none,fun _ _ _ _=>none,fun _ _ _ _=>none,fun _ _ _ _=>none,fun _ _ _ _=>none,fun _ _ _ _=>none,fun _ _ _ _=>none,none,fun _=>none,fun _=>none,fun _=>none,fun _ _=>none,fun _ _ _=>none,fun _ _ _ _=>none,fun _ _ _=>none,fun _ _=>none,fun _ _ _=>none,fun _=>none,fun _ _=>none,fun _ _ _=>none,fun _ _=>none,fun _ _ _ _=>none,fun _ _=>none,fun _=>none,fun _=>none,fun _ _=>none,fun _=>none,fun _ _ _=>none,fun _=>none,fun _ _=>none,fun _ _ _=>none,fun _ _ _ _=>none,fun _ _ _ _=>none,fun _ _ _ _ _=>none,fun _ _ _ _=>none,fun _ _ _ _=>none,fun _ _=>none,fun _ _ _=>none,fun _=>none,fun _ _=>none,fun _ _ _ _=>none,fun _=>none,fun _ _ _=>none,fun _=>none,fun _ _=>none,fun _ _ _=>none,fun _ _ _ _ _=>none,fun _ _ _ _ _ _=>none,fun _ _ _ _=>none,fun _=>none,fun _ _=>none,fun _=>none,fun _ _ _ _ _ _ _ _ _=>none,fun _ _=>none,fun _ _ _=>none,fun _=>none,fun _=>none,fun _ _ _ _ _ _ _ _=>none,fun _=>none,fun _ _ _ _ _ _=>none,fun _=>none,fun _ _=>none,fun _ _ _ _ _ _=>none,fun _ _ _ _ _ _ _=>none,fun _ _ _ _ _ _ _=>none,fun _=>none,fun _ _ _ _=>none,fun _ _ _ _=>none,fun _ _ _ _=>none,fun _ _ _ _=>none,fun _ _ _=>none,fun _=>none,fun _ _=>none,fun _ _=>none,fun _ _ _ _=>none,fun _ _=>none,fun _=>none,fun _ _ _ _=>none,fun _=>none,fun _ _ _=>none,fun _ _ _=>none,fun _ _=>none,fun _ _=>none,fun _ _=>none,fun _ _ _=>none,fun _ _ _ _=>none,fun _ _=>none,fun _ _ _=>none,fun _=>none,fun _=>none,fun _ _ _=>none,fun _ _ _ _ _=>none,fun _ _ _ _ _ _ _=>none,fun _ _ _ _=>none,fun _ _ _ _ _ _ _=>none,fun _ _ _ _ _ _=>none,fun _ _ _ _ _ _ _=>none,fun _=>none,fun _ _=>none,fun _ _ _=>none,fun _=>none,fun _ _=>none,fun _=>none,fun _ _=>none,fun _ _ _ _=>none,fun _ _ _=>none,fun _ _=>none,fun _ _ _ _=>none,fun _ _ _=>none,fun _=>none,fun _ _=>none⟩ (fun _ F=>⟨nC F,l8 F,mB F,mC F,mD F,pv F,pw F,mz F,mA F,me F,mf F,px F,py F,oE F,oF F,mw F,my F,mI F,mJ F,mK F,o4 F,o7 F,mp F,mq F,nD F,l9 F,ma F,mb F,mc F,md F,mt F,mu F,nf F,ng F,nh F,ni F,nj F,nx F,oo F,mr F,mZ F,m0 F,m8 F,m9 F,na F,ow F,ox F,oS F,o3 F,oK F,oL F,o8 F,oO F,oP F,oT F,mG F,mH F,mO F,mP F,mL F,mM F,mN F,mV F,mW F,mQ F,mR F,mS F,nz F,ny F,nb F,nq F,nn F,om F,mn F,mF F,nE F,oq F,ot F,ou F,ov F,oC F,oD F,ol F,oy F,oz F,oA F,oB F,pd F,pc F,o0 F,oY F,pz F,pA F,pl F,mT F,mU F,nr F,nu F,nw F,nk F,nA F,mX F,mY F,nB F,nM F,nN F,nH F,nI F,mg F,mh F,mi F,mj F,ml F,mm F,oH F,pf F,o9 F,pb F,oQ F,oR F,oZ F,oM F,oN F,o5 F,o6 F,pe F,oU F,oV F,oW F,oX F,pn F,po F,pp F,pq F,pt F,pu F,pC F,pD F,nK F,nL F,nJ F,oI F,oJ F,oG F,pi F,pj F,pg F,ph F,nO F,nP F,nQ F,nF F,nG F,mv F,nV F,nW F,nX F,nY F,nZ F,n6 F,n7 F,n8 F,mE F,ob F,oc F,od F,oj F,nR F,nS F,nT F,nU F,oe F,oh F,oi F,n9 F,oa F⟩) n
theorem bT:∀ n,LeFsBuild (kZ n)
 | 0=>⟨fun _ _ _=>ln,fun _=>ln,fun _=>ln,fun _ _=>ln,fun _ _=>ln,fun _=>ln,fun _ _=>ln,fun _=>ln,fun _ _ _ _ _ _ _ _=>ln,fun _=>ln,fun _ _ _ _ _ _ _ _ _ _ _=>ln,fun _=>ln,fun _ _=>ln,fun _ _=>ln,fun _ _ _=>ln,fun _ _ _=>ln,fun _ _ _ _ _=>ln,fun _=>ln,fun _ _ _=>ln,fun _ _ _=>ln,fun _=>ln,fun _=>ln,fun _=>ln,fun _ _ _=>ln,fun _ _=>ln,fun _=>ln,fun _ _=>ln,fun _ _ _ _=>ln,fun _ _=>ln,fun _ _=>ln,fun _=>ln,fun _ _ _ _=>ln,fun _ _ _ _=>ln,fun _ _ _ _ _=>ln,fun _ _ _ _=>ln,fun _ _ _ _ _ _=>ln,fun _ _ _ _ _=>ln,fun _ _ _ _ _ _=>ln,fun _=>ln,fun _=>ln,fun _ _ _ _=>ln,fun _ _ _ _ _ _=>ln,fun _ _ _ _ _=>ln,fun _ _ _ _=>ln,fun _ _ _ _=>ln,fun _ _ _=>ln,fun _ _ _ _=>ln,fun _ _=>ln,fun _=>ln,fun _=>ln,fun _ _ _ _ _ _ _ _ _=>ln,fun _ _=>ln,fun _=>ln,fun _ _ _ _ _ _ _=>ln,fun _ _=>ln,fun _=>ln,fun _ _=>ln,fun _=>ln,fun _ _=>ln,fun _=>ln,fun _ _=>ln,fun _ _ _=>ln,fun _=>ln,fun _ _=>ln,fun _ _ _=>ln,fun _ _ _=>ln,fun _ _ _ _=>ln,fun _ _ _ _=>ln,fun _ _ _ _=>ln,fun _ _ _ _=>ln,fun _ _ _ _=>ln,fun _ _ _ _=>ln,ln,fun _=>ln,fun _=>ln,fun _=>ln,fun _ _=>ln,fun _ _ _=>ln,fun _ _ _ _=>ln,fun _ _ _=>ln,fun _ _=>ln,fun _ _ _=>ln,fun _=>ln,fun _ _=>ln,fun _ _ _=>ln,fun _ _=>ln,fun _ _ _ _=>ln,fun _ _=>ln,fun _=>ln,fun _=>ln,fun _ _=>ln,fun _=>ln,fun _ _ _=>ln,fun _=>ln,fun _ _=>ln,fun _ _ _=>ln,fun _ _ _ _=>ln,fun _ _ _ _=>ln,fun _ _ _ _ _=>ln,fun _ _ _ _=>ln,fun _ _ _ _=>ln,fun _ _=>ln,fun _ _ _=>ln,fun _=>ln,fun _ _=>ln,fun _ _ _ _=>ln,fun _=>ln,fun _ _ _=>ln,fun _=>ln,fun _ _=>ln,fun _ _ _=>ln,fun _ _ _ _ _=>ln,fun _ _ _ _ _ _=>ln,fun _ _ _ _=>ln,fun _=>ln,fun _ _=>ln,fun _=>ln,fun _ _ _ _ _ _ _ _ _=>ln,fun _ _=>ln,fun _ _ _=>ln,fun _=>ln,fun _=>ln,fun _ _ _ _ _ _ _ _=>ln,fun _=>ln,fun _ _ _ _ _ _=>ln,fun _=>ln,fun _ _=>ln,fun _ _ _ _ _ _=>ln,fun _ _ _ _ _ _ _=>ln,fun _ _ _ _ _ _ _=>ln,fun _=>ln,fun _ _ _ _=>ln,fun _ _ _ _=>ln,fun _ _ _ _=>ln,fun _ _ _ _=>ln,fun _ _ _=>ln,fun _=>ln,fun _ _=>ln,fun _ _=>ln,fun _ _ _ _=>ln,fun _ _=>ln,fun _=>ln,fun _ _ _ _=>ln,fun _=>ln,fun _ _ _=>ln,fun _ _ _=>ln,fun _ _=>ln,fun _ _=>ln,fun _ _=>ln,fun _ _ _=>ln,fun _ _ _ _=>ln,fun _ _=>ln,fun _ _ _=>ln,fun _=>ln,fun _=>ln,fun _ _ _=>ln,fun _ _ _ _ _=>ln,fun _ _ _ _ _ _ _=>ln,fun _ _ _ _=>ln,fun _ _ _ _ _ _ _=>ln,fun _ _ _ _ _ _=>ln,fun _ _ _ _ _ _ _=>ln,fun _=>ln,fun _ _=>ln,fun _ _ _=>ln,fun _=>ln,fun _ _=>ln,fun _=>ln,fun _ _=>ln,fun _ _ _ _=>ln,fun _ _ _=>ln,fun _ _=>ln,fun _ _ _ _=>ln,fun _ _ _=>ln,fun _=>ln,fun _ _=>ln⟩
 | n+1=>⟨Gz (bT n),EY (bT n),FE (bT n),FF (bT n),FG (bT n),Ib (bT n),Ic (bT n),FC (bT n),FD (bT n),E7 (bT n),E8 (bT n),Id (bT n),Ie (bT n),Hr (bT n),Hs (bT n),FA (bT n),FB (bT n),FL (bT n),FM (bT n),FN (bT n),HP (bT n),HS (bT n),Fm (bT n),Fp (bT n),GA (bT n),EZ (bT n),E3 (bT n),E4 (bT n),E5 (bT n),E6 (bT n),Ft (bT n),Fw (bT n),Gi (bT n),Gj (bT n),Gk (bT n),Gl (bT n),Gm (bT n),Gu (bT n),He (bT n),Fq (bT n),F9 (bT n),Gd (bT n),Ge (bT n),Gf (bT n),Gg (bT n),Hj (bT n),Hk (bT n),HF (bT n),HO (bT n),Hx (bT n),Hy (bT n),HT (bT n),HB (bT n),HC (bT n),HG (bT n),FJ (bT n),FK (bT n),FR (bT n),FS (bT n),FO (bT n),FP (bT n),FQ (bT n),F5 (bT n),F6 (bT n),FU (bT n),FV (bT n),FX (bT n),Gw (bT n),Gv (bT n),Gh (bT n),Gq (bT n),Gp (bT n),Hd (bT n),Fl (bT n),FI (bT n),GB (bT n),Hf (bT n),Hg (bT n),Hh (bT n),Hi (bT n),Hp (bT n),Hq (bT n),Hc (bT n),Hl (bT n),Hm (bT n),Hn (bT n),Ho (bT n),HX (bT n),HW (bT n),HN (bT n),HL (bT n),Ig (bT n),Ih (bT n),H4 (bT n),FY (bT n),FZ (bT n),Gr (bT n),Gs (bT n),Gt (bT n),Gn (bT n),Gx (bT n),F7 (bT n),F8 (bT n),Gy (bT n),GJ (bT n),GK (bT n),GE (bT n),GF (bT n),E9 (bT n),Fe (bT n),Fg (bT n),Fh (bT n),Fi (bT n),Fj (bT n),Hu (bT n),HZ (bT n),HU (bT n),HV (bT n),HD (bT n),HE (bT n),HM (bT n),Hz (bT n),HA (bT n),HQ (bT n),HR (bT n),HY (bT n),HH (bT n),HI (bT n),HJ (bT n),HK (bT n),H5 (bT n),H6 (bT n),H7 (bT n),H8 (bT n),H9 (bT n),Ia (bT n),Ii (bT n),Ij (bT n),GH (bT n),GI (bT n),GG (bT n),Hv (bT n),Hw (bT n),Ht (bT n),H2 (bT n),H3 (bT n),H0 (bT n),H1 (bT n),GL (bT n),GM (bT n),GN (bT n),GC (bT n),GD (bT n),Fz (bT n),GS (bT n),GT (bT n),GU (bT n),GV (bT n),GW (bT n),GX (bT n),GY (bT n),GZ (bT n),FH (bT n),G5 (bT n),G6 (bT n),G7 (bT n),Hb (bT n),GO (bT n),GP (bT n),GQ (bT n),GR (bT n),G8 (bT n),G9 (bT n),Ha (bT n),G0 (bT n),G4 (bT n)⟩
end Go.Proofs.YtacknlgegbagfaaGreat.E.TR
