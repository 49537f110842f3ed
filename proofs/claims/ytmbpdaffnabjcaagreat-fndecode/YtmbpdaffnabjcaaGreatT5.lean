/- The functions run in the evaluator as their plain functions say. No condition. -/
import Derived.Test.YtmbpdaffnabjcaaGreatS
set_option linter.unusedVariables false
set_option linter.unusedSimpArgs false
set_option linter.unusedSectionVars false
/- Proofs: printed by gen.py. -/
namespace Go.Ev.G
open Go.Ev Go.Proofs
set_option linter.unusedVariables false
def L_sl04Turn : List (Nat × LSpec (denRs (S_sl04Turn.res ++ outM S_sl04Turn.ps))) := []
def N_sl04Turn : List (Nat × Sig) := []
theorem t_sl04Turn : ∀ k x, runF tt (alook N_sl04Turn) k Tryz.f379 S_sl04Turn.ps S_sl04Turn.res (alook L_sl04Turn) x = S_sl04Turn.F k x := by intro k x; kernel_rfl
def L_sLeafHash : List (Nat × LSpec (denRs (S_sLeafHash.res ++ outM S_sLeafHash.ps))) := []
def N_sLeafHash : List (Nat × Sig) := [(305, S_sSha)]
theorem t_sLeafHash : ∀ k x, runF tt (alook N_sLeafHash) k Tryz.f382 S_sLeafHash.ps S_sLeafHash.res (alook L_sLeafHash) x = S_sLeafHash.F k x := by intro k x; kernel_rfl
def L_sl01Num : List (Nat × LSpec (denRs (S_sl01Num.res ++ outM S_sl01Num.ps))) := []
def N_sl01Num : List (Nat × Sig) := [(271, S_sl01In)]
theorem t_sl01Num : ∀ k x, runF tt (alook N_sl01Num) k Tryz.f301 S_sl01Num.ps S_sl01Num.res (alook L_sl01Num) x = S_sl01Num.F k x := by intro k x; kernel_rfl
def L_sPutVar_0 : LSpec (denRs (S_sPutVar.res ++ outM S_sPutVar.ps)) := .mk [(1, .sh i64), (6, .own u8 true)] [(1, .sh i64), (6, .own u8 true)] [] fun k x => sPutVar_l0 k x.1 x.2
def L_sPutVar : List (Nat × LSpec (denRs (S_sPutVar.res ++ outM S_sPutVar.ps))) := [(0, L_sPutVar_0)]
def N_sPutVar : List (Nat × Sig) := [(199, S_sl01Copy), (301, S_sl01Num)]
theorem r_sPutVar_0 : ∀ k, runL tt (alook N_sPutVar) k Tryz.f374 S_sPutVar.ps S_sPutVar.res (alook L_sPutVar) 0 L_sPutVar_0 := by intro k x; kernel_rfl
theorem t_sPutVar : ∀ k x, runF tt (alook N_sPutVar) k Tryz.f374 S_sPutVar.ps S_sPutVar.res (alook L_sPutVar) x = S_sPutVar.F k x := by intro k x; kernel_rfl
def L_sTreeRoot : List (Nat × LSpec (denRs (S_sTreeRoot.res ++ outM S_sTreeRoot.ps))) := []
def N_sTreeRoot : List (Nat × Sig) := [(305, S_sSha), (373, S_sSplitAt), (382, S_sLeafHash), (383, S_sNodeHash)]
theorem t_sTreeRoot : ∀ k x, runF tt (alook ((370, S_sTreeRoot) :: N_sTreeRoot)) k Tryz.f370 S_sTreeRoot.ps S_sTreeRoot.res (alook L_sTreeRoot) x = S_sTreeRoot.F (k + 1) x := by intro k x; kernel_rfl
def L_irounds : List (Nat × LSpec (denRs (S_irounds.res ++ outM S_irounds.ps))) := []
def N_irounds : List (Nat × Sig) := []
theorem t_irounds : ∀ k x, runF tt (alook N_irounds) k Tryz.f327 S_irounds.ps S_irounds.res (alook L_irounds) x = S_irounds.F k x := by intro k x; kernel_rfl
def L_sBitsHas : List (Nat × LSpec (denRs (S_sBitsHas.res ++ outM S_sBitsHas.ps))) := []
def N_sBitsHas : List (Nat × Sig) := []
theorem t_sBitsHas : ∀ k x, runF tt (alook N_sBitsHas) k Tryz.f361 S_sBitsHas.ps S_sBitsHas.res (alook L_sBitsHas) x = S_sBitsHas.F k x := by intro k x; kernel_rfl
def L_sPathLen : List (Nat × LSpec (denRs (S_sPathLen.res ++ outM S_sPathLen.ps))) := []
def N_sPathLen : List (Nat × Sig) := [(372, S_sl08In), (373, S_sSplitAt)]
theorem t_sPathLen : ∀ k x, runF tt (alook ((344, S_sPathLen) :: N_sPathLen)) k Tryz.f344 S_sPathLen.ps S_sPathLen.res (alook L_sPathLen) x = S_sPathLen.F (k + 1) x := by intro k x; kernel_rfl
def L_sBitsOk : List (Nat × LSpec (denRs (S_sBitsOk.res ++ outM S_sBitsOk.ps))) := []
def N_sBitsOk : List (Nat × Sig) := [(208, S_sBitsSize), (299, S_sl02Signers), (307, S_sBitsList)]
theorem t_sBitsOk : ∀ k x, runF tt (alook N_sBitsOk) k Tryz.f306 S_sBitsOk.ps S_sBitsOk.res (alook L_sBitsOk) x = S_sBitsOk.F k x := by intro k x; kernel_rfl
def L_sSameBytes : List (Nat × LSpec (denRs (S_sSameBytes.res ++ outM S_sSameBytes.ps))) := []
def N_sSameBytes : List (Nat × Sig) := []
theorem t_sSameBytes : ∀ k x, runF tt (alook N_sSameBytes) k Tryz.f309 S_sSameBytes.ps S_sSameBytes.res (alook L_sSameBytes) x = S_sSameBytes.F k x := by intro k x; kernel_rfl
def L_sHeadOk : List (Nat × LSpec (denRs (S_sHeadOk.res ++ outM S_sHeadOk.ps))) := []
def N_sHeadOk : List (Nat × Sig) := [(271, S_sl01In), (297, S_sLimitsOk), (301, S_sl01Num), (302, S_sl07Hash), (303, S_sQcOk), (304, S_sl13Fits)]
theorem t_sHeadOk : ∀ k x, runF tt (alook N_sHeadOk) k Tryz.f202 S_sHeadOk.ps S_sHeadOk.res (alook L_sHeadOk) x = S_sHeadOk.F k x := by intro k x; kernel_rfl
def L_sVoteOk : List (Nat × LSpec (denRs (S_sVoteOk.res ++ outM S_sVoteOk.ps))) := []
def N_sVoteOk : List (Nat × Sig) := [(271, S_sl01In), (297, S_sLimitsOk), (301, S_sl01Num), (302, S_sl07Hash)]
theorem t_sVoteOk : ∀ k x, runF tt (alook N_sVoteOk) k Tryz.f347 S_sVoteOk.ps S_sVoteOk.res (alook L_sVoteOk) x = S_sVoteOk.F k x := by intro k x; kernel_rfl
def L_sl16Incl : List (Nat × LSpec (denRs (S_sl16Incl.res ++ outM S_sl16Incl.ps))) := []
def N_sl16Incl : List (Nat × Sig) := [(199, S_sl01Copy), (369, S_sl06Copy)]
theorem t_sl16Incl : ∀ k x, runF tt (alook N_sl16Incl) k Tryz.f343 S_sl16Incl.ps S_sl16Incl.res (alook L_sl16Incl) x = S_sl16Incl.F k x := by intro k x; kernel_rfl
def L_sl01Pick : List (Nat × LSpec (denRs (S_sl01Pick.res ++ outM S_sl01Pick.ps))) := []
def N_sl01Pick : List (Nat × Sig) := [(90, S_sl01Below)]
theorem t_sl01Pick : ∀ k x, runF tt (alook N_sl01Pick) k Tryz.f229 S_sl01Pick.ps S_sl01Pick.res (alook L_sl01Pick) x = S_sl01Pick.F k x := by intro k x; kernel_rfl
def L_sBitsNew : List (Nat × LSpec (denRs (S_sBitsNew.res ++ outM S_sBitsNew.ps))) := []
def N_sBitsNew : List (Nat × Sig) := [(208, S_sBitsSize), (299, S_sl02Signers)]
theorem t_sBitsNew : ∀ k x, runF tt (alook N_sBitsNew) k Tryz.f200 S_sBitsNew.ps S_sBitsNew.res (alook L_sBitsNew) x = S_sBitsNew.F k x := by intro k x; kernel_rfl
def L_sl12Draw_0 : LSpec (denRs (S_sl12Draw.res ++ outM S_sl12Draw.ps)) := .mk [(0, .pbox (.sh tl01Cur)), (4, .pbox (.pair (.sh i64) (.pair (.sh i64) (.pair (.own u8 false) (.pair (.own u8 false) (.pair (.own bs false) .unit)))))), (5, .pbox (.pair (.sh i64) (.pair (.sh i64) (.pair (.own u8 true) (.pair (.own u8 false) (.pair (.own bs false) .unit)))))), (6, .sh i64)] [(0, .pbox (.sh tl01Cur)), (4, .pbox (.pair (.sh i64) (.pair (.sh i64) (.pair (.own u8 false) (.pair (.own u8 false) (.pair (.own bs false) .unit)))))), (5, .pbox (.pair (.sh i64) (.pair (.sh i64) (.pair (.own u8 true) (.pair (.own u8 false) (.pair (.own bs false) .unit))))))] [] fun k x => sl12Draw_l0 k x.1 x.2.1 x.2.2.1 x.2.2.2
def L_sl12Draw : List (Nat × LSpec (denRs (S_sl12Draw.res ++ outM S_sl12Draw.ps))) := [(0, L_sl12Draw_0)]
def N_sl12Draw : List (Nat × Sig) := [(91, S_sl11Hash), (321, S_sl01AnyNum), (334, S_sl02Draw), (335, S_sBitsCount)]
theorem r_sl12Draw_0 : ∀ k, runL tt (alook N_sl12Draw) k Tryz.f250 S_sl12Draw.ps S_sl12Draw.res (alook L_sl12Draw) 0 L_sl12Draw_0 := by intro k x; kernel_rfl
theorem t_sl12Draw : ∀ k x, runF tt (alook N_sl12Draw) k Tryz.f250 S_sl12Draw.ps S_sl12Draw.res (alook L_sl12Draw) x = S_sl12Draw.F k x := by intro k x; kernel_rfl
def L_sl14Txs_0 : LSpec (denRs (S_sl14Txs.res ++ outM S_sl14Txs.ps)) := .mk [(0, .pbox (.sh tl01Cur)), (3, .pbox (.sh tLimits)), (5, .own bs true), (6, .sh i64)] [(0, .pbox (.sh tl01Cur)), (5, .own bs true)] [] fun k x => sl14Txs_l0 k x.1 x.2.1 x.2.2.1 x.2.2.2
def L_sl14Txs : List (Nat × LSpec (denRs (S_sl14Txs.res ++ outM S_sl14Txs.ps))) := [(0, L_sl14Txs_0)]
def N_sl14Txs : List (Nat × Sig) := [(90, S_sl01Below), (184, S_sl01Bytes)]
theorem r_sl14Txs_0 : ∀ k, runL tt (alook N_sl14Txs) k Tryz.f339 S_sl14Txs.ps S_sl14Txs.res (alook L_sl14Txs) 0 L_sl14Txs_0 := by intro k x; kernel_rfl
theorem t_sl14Txs : ∀ k x, runF tt (alook N_sl14Txs) k Tryz.f339 S_sl14Txs.ps S_sl14Txs.res (alook L_sl14Txs) x = S_sl14Txs.F k x := by intro k x; kernel_rfl
def L_icopyList_0 : LSpec (denRs (S_icopyList.res ++ outM S_icopyList.ps)) := .mk [(3, .own bs true), (7, .sh (.slice bs)), (8, .sh i64), (9, .sh i64)] [(3, .own bs true)] [] fun k x => icopyList_l0 k x.1 x.2.1 x.2.2.1 x.2.2.2
def L_icopyList : List (Nat × LSpec (denRs (S_icopyList.res ++ outM S_icopyList.ps))) := [(0, L_icopyList_0)]
def N_icopyList : List (Nat × Sig) := [(108, S_icopyBytes)]
theorem r_icopyList_0 : ∀ k, runL tt (alook N_icopyList) k Tryz.f320 S_icopyList.ps S_icopyList.res (alook L_icopyList) 0 L_icopyList_0 := by intro k x; kernel_rfl
theorem t_icopyList : ∀ k x, runF tt (alook N_icopyList) k Tryz.f320 S_icopyList.ps S_icopyList.res (alook L_icopyList) x = S_icopyList.F k x := by intro k x; kernel_rfl
def L_iBitsCount_0 : LSpec (denRs (S_iBitsCount.res ++ outM S_iBitsCount.ps)) := .mk [(3, .sh i64), (6, .sh bs), (7, .sh i64), (8, .sh i64)] [(3, .sh i64)] [] fun k x => iBitsCount_l0 k x.1 x.2.1 x.2.2.1 x.2.2.2
def L_iBitsCount : List (Nat × LSpec (denRs (S_iBitsCount.res ++ outM S_iBitsCount.ps))) := [(0, L_iBitsCount_0)]
def N_iBitsCount : List (Nat × Sig) := [(324, S_math_bits_OnesCount8)]
theorem r_iBitsCount_0 : ∀ k, runL tt (alook N_iBitsCount) k Tryz.f236 S_iBitsCount.ps S_iBitsCount.res (alook L_iBitsCount) 0 L_iBitsCount_0 := by intro k x; kernel_rfl
theorem t_iBitsCount : ∀ k x, runF tt (alook N_iBitsCount) k Tryz.f236 S_iBitsCount.ps S_iBitsCount.res (alook L_iBitsCount) x = S_iBitsCount.F k x := by intro k x; kernel_rfl
def L_iHead_matches : List (Nat × LSpec (denRs (S_iHead_matches.res ++ outM S_iHead_matches.ps))) := []
def N_iHead_matches : List (Nat × Sig) := [(65, S_iSameBytes)]
theorem t_iHead_matches : ∀ k x, runF tt (alook N_iHead_matches) k Tryz.f228 S_iHead_matches.ps S_iHead_matches.res (alook L_iHead_matches) x = S_iHead_matches.F k x := by intro k x; kernel_rfl
def L_iwriter_qc_0 : LSpec (denRs (S_iwriter_qc.res ++ outM S_iwriter_qc.ps)) := .mk [(0, .pbox (.pair (.own u8 false) .unit)), (23, .sh (.slice bs)), (24, .sh i64), (25, .sh i64)] [(0, .pbox (.pair (.own u8 false) .unit))] [] fun k x => iwriter_qc_l0 k x.1 x.2.1 x.2.2.1 x.2.2.2
def L_iwriter_qc : List (Nat × LSpec (denRs (S_iwriter_qc.res ++ outM S_iwriter_qc.ps))) := [(0, L_iwriter_qc_0)]
def N_iwriter_qc : List (Nat × Sig) := [(118, S_iwriter_num), (119, S_iwriter_raw)]
theorem r_iwriter_qc_0 : ∀ k, runL tt (alook N_iwriter_qc) k Tryz.f123 S_iwriter_qc.ps S_iwriter_qc.res (alook L_iwriter_qc) 0 L_iwriter_qc_0 := by intro k x; kernel_rfl
theorem t_iwriter_qc : ∀ k x, runF tt (alook N_iwriter_qc) k Tryz.f123 S_iwriter_qc.ps S_iwriter_qc.res (alook L_iwriter_qc) x = S_iwriter_qc.F k x := by intro k x; kernel_rfl
def L_sPutTc_0 : LSpec (denRs (S_sPutTc.res ++ outM S_sPutTc.ps)) := .mk [(8, .own u8 false), (24, .sh (.slice tEntry)), (25, .sh i64), (26, .sh i64)] [(8, .own u8 false)] [] fun k x => sPutTc_l0 k x.1 x.2.1 x.2.2.1 x.2.2.2
def L_sPutTc : List (Nat × LSpec (denRs (S_sPutTc.res ++ outM S_sPutTc.ps))) := [(0, L_sPutTc_0)]
def N_sPutTc : List (Nat × Sig) := [(348, S_sl11Num), (351, S_sTcOk)]
theorem r_sPutTc_0 : ∀ k, runL tt (alook N_sPutTc) k Tryz.f283 S_sPutTc.ps S_sPutTc.res (alook L_sPutTc) 0 L_sPutTc_0 := by intro k x; kernel_rfl
theorem t_sPutTc : ∀ k x, runF tt (alook N_sPutTc) k Tryz.f283 S_sPutTc.ps S_sPutTc.res (alook L_sPutTc) x = S_sPutTc.F k x := by intro k x; kernel_rfl
def L_sTcSame_0 : LSpec (denRs (S_sTcSame.res ++ outM S_sTcSame.ps)) := .mkR [(3, .pbox (.sh tTc)), (23, .sh (.slice tEntry)), (24, .sh i64), (25, .sh i64)] [] [] fun k x => sTcSame_l0 k x.1 x.2.1 x.2.2.1 x.2.2.2
def L_sTcSame : List (Nat × LSpec (denRs (S_sTcSame.res ++ outM S_sTcSame.ps))) := [(0, L_sTcSame_0)]
def N_sTcSame : List (Nat × Sig) := [(309, S_sSameBytes)]
theorem r_sTcSame_0 : ∀ k, runL tt (alook N_sTcSame) k Tryz.f276 S_sTcSame.ps S_sTcSame.res (alook L_sTcSame) 0 L_sTcSame_0 := by intro k x; kernel_rfl
theorem t_sTcSame : ∀ k x, runF tt (alook N_sTcSame) k Tryz.f276 S_sTcSame.ps S_sTcSame.res (alook L_sTcSame) x = S_sTcSame.F k x := by intro k x; kernel_rfl
def L_sl15Draw_0 : LSpec (denRs (S_sl15Draw.res ++ outM S_sl15Draw.ps)) := .mk [(0, .pbox (.sh tl01Cur)), (3, .pbox (.sh tLimits)), (4, .pbox (.pair (.sh i64) (.pair (.own tEntry false) .unit))), (5, .pbox (.pair (.sh i64) (.pair (.own tEntry false) .unit))), (6, .sh i64)] [(0, .pbox (.sh tl01Cur)), (4, .pbox (.pair (.sh i64) (.pair (.own tEntry false) .unit))), (5, .pbox (.pair (.sh i64) (.pair (.own tEntry false) .unit)))] [] fun k x => sl15Draw_l0 k x.1 x.2.1 x.2.2.1 x.2.2.2.1 x.2.2.2.2
def L_sl15Draw : List (Nat × LSpec (denRs (S_sl15Draw.res ++ outM S_sl15Draw.ps))) := [(0, L_sl15Draw_0)]
def N_sl15Draw : List (Nat × Sig) := [(90, S_sl01Below), (91, S_sl11Hash), (156, S_sl01Once)]
theorem r_sl15Draw_0 : ∀ k, runL tt (alook N_sl15Draw) k Tryz.f256 S_sl15Draw.ps S_sl15Draw.res (alook L_sl15Draw) 0 L_sl15Draw_0 := by intro k x; kernel_rfl
theorem t_sl15Draw : ∀ k x, runF tt (alook N_sl15Draw) k Tryz.f256 S_sl15Draw.ps S_sl15Draw.res (alook L_sl15Draw) x = S_sl15Draw.F k x := by intro k x; kernel_rfl
def L_sMsgOk : List (Nat × LSpec (denRs (S_sMsgOk.res ++ outM S_sMsgOk.ps))) := []
def N_sMsgOk : List (Nat × Sig) := [(166, S_sl17Kind), (167, S_sMsgSame), (168, S_sl17Only), (169, S_sl17Put)]
theorem t_sMsgOk : ∀ k x, runF tt (alook N_sMsgOk) k Tryz.f67 S_sMsgOk.ps S_sMsgOk.res (alook L_sMsgOk) x = S_sMsgOk.F k x := by intro k x; kernel_rfl
def L_iPathLen : List (Nat × LSpec (denRs (S_iPathLen.res ++ outM S_iPathLen.ps))) := []
def N_iPathLen : List (Nat × Sig) := [(213, S_iwithin), (329, S_iSplitAt)]
theorem t_iPathLen : ∀ k x, runF tt (alook ((244, S_iPathLen) :: N_iPathLen)) k Tryz.f244 S_iPathLen.ps S_iPathLen.res (alook L_iPathLen) x = S_iPathLen.F (k + 1) x := by intro k x; kernel_rfl
def L_iGetBits : List (Nat × LSpec (denRs (S_iGetBits.res ++ outM S_iGetBits.ps))) := []
def N_iGetBits : List (Nat × Sig) := [(210, S_iBitsOk), (213, S_iwithin), (226, S_iBitsSize), (325, S_iGetRaw)]
theorem t_iGetBits : ∀ k x, runF tt (alook N_iGetBits) k Tryz.f237 S_iGetBits.ps S_iGetBits.res (alook L_iGetBits) x = S_iGetBits.F k x := by intro k x; kernel_rfl
def L_iTcOk_0 : LSpec (denRs (S_iTcOk.res ++ outM S_iTcOk.ps)) := .mkR [(2, .pbox (.sh tLimits)), (3, .pbox (.sh tTc)), (8, .sh (.slice tEntry)), (9, .sh i64), (10, .sh i64)] [(2, .pbox (.sh tLimits)), (3, .pbox (.sh tTc))] [] fun k x => iTcOk_l0 k x.1 x.2.1 x.2.2.1 x.2.2.2.1 x.2.2.2.2
def L_iTcOk : List (Nat × LSpec (denRs (S_iTcOk.res ++ outM S_iTcOk.ps))) := [(0, L_iTcOk_0)]
def N_iTcOk : List (Nat × Sig) := [(149, S_iLimitsOk), (150, S_iisNum), (213, S_iwithin), (227, S_iareHashes)]
theorem r_iTcOk_0 : ∀ k, runL tt (alook N_iTcOk) k Tryz.f135 S_iTcOk.ps S_iTcOk.res (alook L_iTcOk) 0 L_iTcOk_0 := by intro k x; kernel_rfl
theorem t_iTcOk : ∀ k x, runF tt (alook N_iTcOk) k Tryz.f135 S_iTcOk.ps S_iTcOk.res (alook L_iTcOk) x = S_iTcOk.F k x := by intro k x; kernel_rfl
def L_iPutIncl_0 : LSpec (denRs (S_iPutIncl.res ++ outM S_iPutIncl.ps)) := .mk [(8, .pbox (.pair (.own u8 false) .unit)), (42, .sh (.slice bs)), (43, .sh i64), (44, .sh i64)] [(8, .pbox (.pair (.own u8 false) .unit))] [] fun k x => iPutIncl_l0 k x.1 x.2.1 x.2.2.1 x.2.2.2
def L_iPutIncl : List (Nat × LSpec (denRs (S_iPutIncl.res ++ outM S_iPutIncl.ps))) := [(0, L_iPutIncl_0)]
def N_iPutIncl : List (Nat × Sig) := [(108, S_icopyBytes), (118, S_iwriter_num), (119, S_iwriter_raw), (132, S_iPutText), (141, S_iInclOk)]
theorem r_iPutIncl_0 : ∀ k, runL tt (alook N_iPutIncl) k Tryz.f47 S_iPutIncl.ps S_iPutIncl.res (alook L_iPutIncl) 0 L_iPutIncl_0 := by intro k x; kernel_rfl
theorem t_iPutIncl : ∀ k x, runF tt (alook N_iPutIncl) k Tryz.f47 S_iPutIncl.ps S_iPutIncl.res (alook L_iPutIncl) x = S_iPutIncl.F k x := by intro k x; kernel_rfl
def L_iget_implQc : List (Nat × LSpec (denRs (S_iget_implQc.res ++ outM S_iget_implQc.ps))) := []
def N_iget_implQc : List (Nat × Sig) := [(125, S_ireadQc), (149, S_iLimitsOk)]
theorem t_iget_implQc : ∀ k x, runF tt (alook N_iget_implQc) k Tryz.f124 S_iget_implQc.ps S_iget_implQc.res (alook L_iget_implQc) x = S_iget_implQc.F k x := by intro k x; kernel_rfl
def L_iGetBlock : List (Nat × LSpec (denRs (S_iGetBlock.res ++ outM S_iGetBlock.ps))) := []
def N_iGetBlock : List (Nat × Sig) := [(133, S_iget_implBlock)]
theorem t_iGetBlock : ∀ k x, runF tt (alook N_iGetBlock) k Tryz.f39 S_iGetBlock.ps S_iGetBlock.res (alook L_iGetBlock) x = S_iGetBlock.F k x := by intro k x; kernel_rfl
def L_iGetTc : List (Nat × LSpec (denRs (S_iGetTc.res ++ outM S_iGetTc.ps))) := []
def N_iGetTc : List (Nat × Sig) := [(136, S_iget_implTc)]
theorem t_iGetTc : ∀ k x, runF tt (alook N_iGetTc) k Tryz.f42 S_iGetTc.ps S_iGetTc.res (alook L_iGetTc) x = S_iGetTc.F k x := by intro k x; kernel_rfl
def L_iget_implProof : List (Nat × LSpec (denRs (S_iget_implProof.res ++ outM S_iget_implProof.ps))) := []
def N_iget_implProof : List (Nat × Sig) := [(140, S_ireadProof), (149, S_iLimitsOk)]
theorem t_iget_implProof : ∀ k x, runF tt (alook N_iget_implProof) k Tryz.f139 S_iget_implProof.ps S_iget_implProof.res (alook L_iget_implProof) x = S_iget_implProof.F k x := by intro k x; kernel_rfl
def L_iGetIncl : List (Nat × LSpec (denRs (S_iGetIncl.res ++ outM S_iGetIncl.ps))) := []
def N_iGetIncl : List (Nat × Sig) := [(142, S_iget_implIncl)]
theorem t_iGetIncl : ∀ k x, runF tt (alook N_iGetIncl) k Tryz.f48 S_iGetIncl.ps S_iGetIncl.res (alook L_iGetIncl) x = S_iGetIncl.F k x := by intro k x; kernel_rfl
def L_iDecode : List (Nat × LSpec (denRs (S_iDecode.res ++ outM S_iDecode.ps))) := []
def N_iDecode : List (Nat × Sig) := [(30, S_iGetVote), (33, S_iGetQc), (36, S_iGetHead), (39, S_iGetBlock), (42, S_iGetTc), (45, S_iGetProof), (48, S_iGetIncl), (61, S_iKindName), (149, S_iLimitsOk)]
theorem t_iDecode : ∀ k x, runF tt (alook N_iDecode) k Tryz.f59 S_iDecode.ps S_iDecode.res (alook L_iDecode) x = S_iDecode.F k x := by intro k x; kernel_rfl
end Go.Ev.G
