/- The functions run in the evaluator as their plain functions say. No condition. -/
import Derived.Test.YthmoekhkjgikpaaGreatS
set_option linter.unusedVariables false
set_option linter.unusedSimpArgs false
set_option linter.unusedSectionVars false
/- Proofs: printed by gen.py. -/
namespace Go.Ev.G
open Go.Ev Go.Proofs
set_option linter.unusedVariables false
def L_icopyBytes : List (Nat × LSpec (denRs (S_icopyBytes.res ++ outM S_icopyBytes.ps))) := []
def N_icopyBytes : List (Nat × Sig) := []
theorem t_icopyBytes : ∀ k x, runF tt (alook N_icopyBytes) k Tryz.f38 S_icopyBytes.ps S_icopyBytes.res (alook L_icopyBytes) x = S_icopyBytes.F k x := by intro k x; kernel_rfl
def L_iTurnRight : List (Nat × LSpec (denRs (S_iTurnRight.res ++ outM S_iTurnRight.ps))) := []
def N_iTurnRight : List (Nat × Sig) := [(67, S_iwithin), (159, S_iisWord)]
theorem t_iTurnRight : ∀ k x, runF tt (alook N_iTurnRight) k Tryz.f161 S_iTurnRight.ps S_iTurnRight.res (alook L_iTurnRight) x = S_iTurnRight.F k x := by intro k x; kernel_rfl
def L_iSplitAt_0 : LSpec (denRs (S_iSplitAt.res ++ outM S_iSplitAt.ps)) := .mk [(0, .sh i64), (3, .sh i64)] [(3, .sh i64)] [] fun k x => iSplitAt_l0 k x.1 x.2
def L_iSplitAt : List (Nat × LSpec (denRs (S_iSplitAt.res ++ outM S_iSplitAt.ps))) := [(0, L_iSplitAt_0)]
def N_iSplitAt : List (Nat × Sig) := []
theorem r_iSplitAt_0 : ∀ k, runL tt (alook N_iSplitAt) k Tryz.f172 S_iSplitAt.ps S_iSplitAt.res (alook L_iSplitAt) 0 L_iSplitAt_0 := by intro k x; kernel_rfl
theorem t_iSplitAt : ∀ k x, runF tt (alook N_iSplitAt) k Tryz.f172 S_iSplitAt.ps S_iSplitAt.res (alook L_iSplitAt) x = S_iSplitAt.F k x := by intro k x; kernel_rfl
def L_iisNum : List (Nat × LSpec (denRs (S_iisNum.res ++ outM S_iisNum.ps))) := []
def N_iisNum : List (Nat × Sig) := [(67, S_iwithin)]
theorem t_iisNum : ∀ k x, runF tt (alook N_iisNum) k Tryz.f87 S_iisNum.ps S_iisNum.res (alook L_iisNum) x = S_iisNum.F k x := by intro k x; kernel_rfl
def L_iPutVar_0 : LSpec (denRs (S_iPutVar.res ++ outM S_iPutVar.ps)) := .mk [(1, .sh i64), (6, .own u8 true)] [(1, .sh i64), (6, .own u8 true)] [] fun k x => iPutVar_l0 k x.1 x.2
def L_iPutVar : List (Nat × LSpec (denRs (S_iPutVar.res ++ outM S_iPutVar.ps))) := [(0, L_iPutVar_0)]
def N_iPutVar : List (Nat × Sig) := [(38, S_icopyBytes), (87, S_iisNum)]
theorem r_iPutVar_0 : ∀ k, runL tt (alook N_iPutVar) k Tryz.f179 S_iPutVar.ps S_iPutVar.res (alook L_iPutVar) 0 L_iPutVar_0 := by intro k x; kernel_rfl
theorem t_iPutVar : ∀ k x, runF tt (alook N_iPutVar) k Tryz.f179 S_iPutVar.ps S_iPutVar.res (alook L_iPutVar) x = S_iPutVar.F k x := by intro k x; kernel_rfl
def L_sSha_0 : LSpec (denRs (S_sSha.res ++ outM S_sSha.ps)) := .mk [(3, .own i64 false), (4, .own u8 true), (5, .sh i64)] [(3, .own i64 false)] [] fun k x => sSha_l0 k x.1 x.2.1 x.2.2
def L_sSha_2 : LSpec (denRs (S_sSha.res ++ outM S_sSha.ps)) := .mk [(6, .own u8 true), (26, .own i64 false), (27, .sh i64), (28, .sh i64)] [(6, .own u8 true)] [] fun k x => sSha_l2 k x.1 x.2.1 x.2.2.1 x.2.2.2
def L_sSha : List (Nat × LSpec (denRs (S_sSha.res ++ outM S_sSha.ps))) := [(0, L_sSha_0), (2, L_sSha_2)]
def N_sSha : List (Nat × Sig) := [(146, S_sShaInit), (147, S_sShaPad), (148, S_sShaBlock)]
theorem r_sSha_0 : ∀ k, runL tt (alook N_sSha) k Tryz.f101 S_sSha.ps S_sSha.res (alook L_sSha) 0 L_sSha_0 := by intro k x; kernel_rfl
theorem r_sSha_2 : ∀ k, runL tt (alook N_sSha) k Tryz.f101 S_sSha.ps S_sSha.res (alook L_sSha) 2 L_sSha_2 := by intro k x; kernel_rfl
theorem t_sSha : ∀ k x, runF tt (alook N_sSha) k Tryz.f101 S_sSha.ps S_sSha.res (alook L_sSha) x = S_sSha.F k x := by intro k x; kernel_rfl
def L_iIncl_copied : List (Nat × LSpec (denRs (S_iIncl_copied.res ++ outM S_iIncl_copied.ps))) := []
def N_iIncl_copied : List (Nat × Sig) := [(38, S_icopyBytes), (141, S_icopyList)]
theorem t_iIncl_copied : ∀ k x, runF tt (alook N_iIncl_copied) k Tryz.f170 S_iIncl_copied.ps S_iIncl_copied.res (alook L_iIncl_copied) x = S_iIncl_copied.F k x := by intro k x; kernel_rfl
def L_iQc_copied : List (Nat × LSpec (denRs (S_iQc_copied.res ++ outM S_iQc_copied.ps))) := []
def N_iQc_copied : List (Nat × Sig) := [(38, S_icopyBytes), (141, S_icopyList)]
theorem t_iQc_copied : ∀ k x, runF tt (alook N_iQc_copied) k Tryz.f85 S_iQc_copied.ps S_iQc_copied.res (alook L_iQc_copied) x = S_iQc_copied.F k x := by intro k x; kernel_rfl
def L_iBlock_copied : List (Nat × LSpec (denRs (S_iBlock_copied.res ++ outM S_iBlock_copied.ps))) := []
def N_iBlock_copied : List (Nat × Sig) := [(42, S_iHead_copied), (141, S_icopyList)]
theorem t_iBlock_copied : ∀ k x, runF tt (alook N_iBlock_copied) k Tryz.f168 S_iBlock_copied.ps S_iBlock_copied.res (alook L_iBlock_copied) x = S_iBlock_copied.F k x := by intro k x; kernel_rfl
def L_iPathLen : List (Nat × LSpec (denRs (S_iPathLen.res ++ outM S_iPathLen.ps))) := []
def N_iPathLen : List (Nat × Sig) := [(67, S_iwithin), (172, S_iSplitAt)]
theorem t_iPathLen : ∀ k x, runF tt (alook ((139, S_iPathLen) :: N_iPathLen)) k Tryz.f139 S_iPathLen.ps S_iPathLen.res (alook L_iPathLen) x = S_iPathLen.F (k + 1) x := by intro k x; kernel_rfl
def L_iBitsSize : List (Nat × LSpec (denRs (S_iBitsSize.res ++ outM S_iBitsSize.ps))) := []
def N_iBitsSize : List (Nat × Sig) := []
theorem t_iBitsSize : ∀ k x, runF tt (alook N_iBitsSize) k Tryz.f86 S_iBitsSize.ps S_iBitsSize.res (alook L_iBitsSize) x = S_iBitsSize.F k x := by intro k x; kernel_rfl
def L_iBitsList_0 : LSpec (denRs (S_iBitsList.res ++ outM S_iBitsList.ps)) := .mk [(0, .sh bs), (3, .own i64 true), (8, .sh i64), (9, .sh i64)] [(3, .own i64 true)] [] fun k x => iBitsList_l0 k x.1 x.2.1 x.2.2.1 x.2.2.2
def L_iBitsList : List (Nat × LSpec (denRs (S_iBitsList.res ++ outM S_iBitsList.ps))) := [(0, L_iBitsList_0)]
def N_iBitsList : List (Nat × Sig) := [(107, S_iBitsHas)]
theorem r_iBitsList_0 : ∀ k, runL tt (alook N_iBitsList) k Tryz.f62 S_iBitsList.ps S_iBitsList.res (alook L_iBitsList) 0 L_iBitsList_0 := by intro k x; kernel_rfl
theorem t_iBitsList : ∀ k x, runF tt (alook N_iBitsList) k Tryz.f62 S_iBitsList.ps S_iBitsList.res (alook L_iBitsList) x = S_iBitsList.F k x := by intro k x; kernel_rfl
def L_iQcOk : List (Nat × LSpec (denRs (S_iQcOk.res ++ outM S_iQcOk.ps))) := []
def N_iQcOk : List (Nat × Sig) := [(59, S_iLimitsOk), (61, S_iBitsOk), (87, S_iisNum), (88, S_iareHashes), (110, S_iBitsCount)]
theorem t_iQcOk : ∀ k x, runF tt (alook N_iQcOk) k Tryz.f64 S_iQcOk.ps S_iQcOk.res (alook L_iQcOk) x = S_iQcOk.F k x := by intro k x; kernel_rfl
def L_iGetFix_0 : LSpec (denRs (S_iGetFix.res ++ outM S_iGetFix.ps)) := .mk [(10, .sh i64), (11, .sh i64), (12, .sh i64), (26, .own u8 false), (27, .sh i64), (28, .sh i64)] [(10, .sh i64), (11, .sh i64), (12, .sh i64)] [] fun k x => iGetFix_l0 k x.1 x.2.1 x.2.2.1 x.2.2.2.1 x.2.2.2.2.1 x.2.2.2.2.2
def L_iGetFix : List (Nat × LSpec (denRs (S_iGetFix.res ++ outM S_iGetFix.ps))) := [(0, L_iGetFix_0)]
def N_iGetFix : List (Nat × Sig) := [(67, S_iwithin), (180, S_iGetRaw)]
theorem r_iGetFix_0 : ∀ k, runL tt (alook N_iGetFix) k Tryz.f162 S_iGetFix.ps S_iGetFix.res (alook L_iGetFix) 0 L_iGetFix_0 := by intro k x; kernel_rfl
theorem t_iGetFix : ∀ k x, runF tt (alook N_iGetFix) k Tryz.f162 S_iGetFix.ps S_iGetFix.res (alook L_iGetFix) x = S_iGetFix.F k x := by intro k x; kernel_rfl
def L_sl11Num : List (Nat × LSpec (denRs (S_sl11Num.res ++ outM S_sl11Num.ps))) := []
def N_sl11Num : List (Nat × Sig) := [(174, S_sPutVar)]
theorem t_sl11Num : ∀ k x, runF tt (alook N_sl11Num) k Tryz.f144 S_sl11Num.ps S_sl11Num.res (alook L_sl11Num) x = S_sl11Num.F k x := by intro k x; kernel_rfl
def L_sl02Signers : List (Nat × LSpec (denRs (S_sl02Signers.res ++ outM S_sl02Signers.ps))) := []
def N_sl02Signers : List (Nat × Sig) := [(96, S_sl01In)]
theorem t_sl02Signers : ∀ k x, runF tt (alook N_sl02Signers) k Tryz.f92 S_sl02Signers.ps S_sl02Signers.res (alook L_sl02Signers) x = S_sl02Signers.F k x := by intro k x; kernel_rfl
def L_sBitsList_0 : LSpec (denRs (S_sBitsList.res ++ outM S_sBitsList.ps)) := .mk [(0, .sh bs), (3, .own i64 true), (4, .sh i64)] [(3, .own i64 true)] [] fun k x => sBitsList_l0 k x.1 x.2.1 x.2.2
def L_sBitsList : List (Nat × LSpec (denRs (S_sBitsList.res ++ outM S_sBitsList.ps))) := [(0, L_sBitsList_0)]
def N_sBitsList : List (Nat × Sig) := [(149, S_sBitsHas)]
theorem r_sBitsList_0 : ∀ k, runL tt (alook N_sBitsList) k Tryz.f103 S_sBitsList.ps S_sBitsList.res (alook L_sBitsList) 0 L_sBitsList_0 := by intro k x; kernel_rfl
theorem t_sBitsList : ∀ k x, runF tt (alook N_sBitsList) k Tryz.f103 S_sBitsList.ps S_sBitsList.res (alook L_sBitsList) x = S_sBitsList.F k x := by intro k x; kernel_rfl
def L_iwriter_head : List (Nat × LSpec (denRs (S_iwriter_head.res ++ outM S_iwriter_head.ps))) := []
def N_iwriter_head : List (Nat × Sig) := [(156, S_iwriter_num), (157, S_iwriter_raw), (158, S_iwriter_qc)]
theorem t_iwriter_head : ∀ k x, runF tt (alook N_iwriter_head) k Tryz.f111 S_iwriter_head.ps S_iwriter_head.res (alook L_iwriter_head) x = S_iwriter_head.F k x := by intro k x; kernel_rfl
def L_iLinks : List (Nat × LSpec (denRs (S_iLinks.res ++ outM S_iLinks.ps))) := []
def N_iLinks : List (Nat × Sig) := [(25, S_iHeadHash), (40, S_iHeadOk), (43, S_iSameBytes)]
theorem t_iLinks : ∀ k x, runF tt (alook N_iLinks) k Tryz.f41 S_iLinks.ps S_iLinks.res (alook L_iLinks) x = S_iLinks.F k x := by intro k x; kernel_rfl
def L_iTotalOf_0 : LSpec (denRs (S_iTotalOf.res ++ outM S_iTotalOf.ps)) := .mk [(1, .pbox (.sh tTable)), (3, .sh i64), (7, .sh (.slice tPush)), (8, .sh i64), (9, .sh i64)] [(3, .sh i64)] [] fun k x => iTotalOf_l0 k x.1 x.2.1 x.2.2.1 x.2.2.2.1 x.2.2.2.2
def L_iTotalOf : List (Nat × LSpec (denRs (S_iTotalOf.res ++ outM S_iTotalOf.ps))) := [(0, L_iTotalOf_0)]
def N_iTotalOf : List (Nat × Sig) := [(60, S_iTableOk)]
theorem r_iTotalOf_0 : ∀ k, runL tt (alook N_iTotalOf) k Tryz.f134 S_iTotalOf.ps S_iTotalOf.res (alook L_iTotalOf) 0 L_iTotalOf_0 := by intro k x; kernel_rfl
theorem t_iTotalOf : ∀ k x, runF tt (alook N_iTotalOf) k Tryz.f134 S_iTotalOf.ps S_iTotalOf.res (alook L_iTotalOf) x = S_iTotalOf.F k x := by intro k x; kernel_rfl
def L_iOfBlock : List (Nat × LSpec (denRs (S_iOfBlock.res ++ outM S_iOfBlock.ps))) := []
def N_iOfBlock : List (Nat × Sig) := [(168, S_iBlock_copied)]
theorem t_iOfBlock : ∀ k x, runF tt (alook N_iOfBlock) k Tryz.f130 S_iOfBlock.ps S_iOfBlock.res (alook L_iOfBlock) x = S_iOfBlock.F k x := by intro k x; kernel_rfl
def L_iInclSame : List (Nat × LSpec (denRs (S_iInclSame.res ++ outM S_iInclSame.ps))) := []
def N_iInclSame : List (Nat × Sig) := [(43, S_iSameBytes), (90, S_iTreeSame)]
theorem t_iInclSame : ∀ k x, runF tt (alook N_iInclSame) k Tryz.f126 S_iInclSame.ps S_iInclSame.res (alook L_iInclSame) x = S_iInclSame.F k x := by intro k x; kernel_rfl
def L_iBlockSame : List (Nat × LSpec (denRs (S_iBlockSame.res ++ outM S_iBlockSame.ps))) := []
def N_iBlockSame : List (Nat × Sig) := [(13, S_iHeadSame), (90, S_iTreeSame)]
theorem t_iBlockSame : ∀ k x, runF tt (alook N_iBlockSame) k Tryz.f123 S_iBlockSame.ps S_iBlockSame.res (alook L_iBlockSame) x = S_iBlockSame.F k x := by intro k x; kernel_rfl
def L_iProofOk : List (Nat × LSpec (denRs (S_iProofOk.res ++ outM S_iProofOk.ps))) := []
def N_iProofOk : List (Nat × Sig) := [(64, S_iQcOk), (67, S_iwithin), (68, S_iareHeads), (69, S_iProof_closes)]
theorem t_iProofOk : ∀ k x, runF tt (alook N_iProofOk) k Tryz.f27 S_iProofOk.ps S_iProofOk.res (alook L_iProofOk) x = S_iProofOk.F k x := by intro k x; kernel_rfl
def L_iPutBlock_0 : LSpec (denRs (S_iPutBlock.res ++ outM S_iPutBlock.ps)) := .mk [(8, .pbox (.pair (.own u8 false) .unit)), (29, .sh (.slice bs)), (30, .sh i64), (31, .sh i64)] [(8, .pbox (.pair (.own u8 false) .unit))] [] fun k x => iPutBlock_l0 k x.1 x.2.1 x.2.2.1 x.2.2.2
def L_iPutBlock : List (Nat × LSpec (denRs (S_iPutBlock.res ++ outM S_iPutBlock.ps))) := [(0, L_iPutBlock_0)]
def N_iPutBlock : List (Nat × Sig) := [(38, S_icopyBytes), (111, S_iwriter_head), (156, S_iwriter_num), (165, S_iBlockOk), (166, S_iPutText)]
theorem r_iPutBlock_0 : ∀ k, runL tt (alook N_iPutBlock) k Tryz.f118 S_iPutBlock.ps S_iPutBlock.res (alook L_iPutBlock) 0 L_iPutBlock_0 := by intro k x; kernel_rfl
theorem t_iPutBlock : ∀ k x, runF tt (alook N_iPutBlock) k Tryz.f118 S_iPutBlock.ps S_iPutBlock.res (alook L_iPutBlock) x = S_iPutBlock.F k x := by intro k x; kernel_rfl
def L_sTableOk_0 : LSpec (denRs (S_sTableOk.res ++ outM S_sTableOk.ps)) := .mkR [(1, .pbox (.sh tTable)), (6, .sh (.slice tPush)), (7, .sh i64), (8, .sh i64)] [(1, .pbox (.sh tTable))] [] fun k x => sTableOk_l0 k x.1 x.2.1 x.2.2.1 x.2.2.2
def L_sTableOk : List (Nat × LSpec (denRs (S_sTableOk.res ++ outM S_sTableOk.ps))) := [(0, L_sTableOk_0)]
def N_sTableOk : List (Nat × Sig) := [(92, S_sl02Signers), (96, S_sl01In)]
theorem r_sTableOk_0 : ∀ k, runL tt (alook N_sTableOk) k Tryz.f94 S_sTableOk.ps S_sTableOk.res (alook L_sTableOk) 0 L_sTableOk_0 := by intro k x; kernel_rfl
theorem t_sTableOk : ∀ k x, runF tt (alook N_sTableOk) k Tryz.f94 S_sTableOk.ps S_sTableOk.res (alook L_sTableOk) x = S_sTableOk.F k x := by intro k x; kernel_rfl
def L_iPathRoot : List (Nat × LSpec (denRs (S_iPathRoot.res ++ outM S_iPathRoot.ps))) := []
def N_iPathRoot : List (Nat × Sig) := [(67, S_iwithin), (88, S_iareHashes), (139, S_iPathLen), (140, S_ipathRoot)]
theorem t_iPathRoot : ∀ k x, runF tt (alook N_iPathRoot) k Tryz.f83 S_iPathRoot.ps S_iPathRoot.res (alook L_iPathRoot) x = S_iPathRoot.F k x := by intro k x; kernel_rfl
def L_iProofCode_0 : LSpec (denRs (S_iProofCode.res ++ outM S_iProofCode.ps)) := .mkR [(3, .pbox (.sh tLimits)), (4, .pbox (.sh tTable)), (5, .pbox (.sh tProof)), (80, .sh (.slice tHead)), (81, .sh i64), (82, .sh i64)] [(3, .pbox (.sh tLimits)), (4, .pbox (.sh tTable)), (5, .pbox (.sh tProof))] [] fun k x => iProofCode_l0 k x.1 x.2.1 x.2.2.1 x.2.2.2.1 x.2.2.2.2.1 x.2.2.2.2.2
def L_iProofCode : List (Nat × LSpec (denRs (S_iProofCode.res ++ outM S_iProofCode.ps))) := [(0, L_iProofCode_0)]
def N_iProofCode : List (Nat × Sig) := [(22, S_ibelongs), (25, S_iHeadHash), (27, S_iProofOk), (32, S_iQcCode), (43, S_iSameBytes), (138, S_iChainCode)]
theorem r_iProofCode_0 : ∀ k, runL tt (alook N_iProofCode) k Tryz.f81 S_iProofCode.ps S_iProofCode.res (alook L_iProofCode) 0 L_iProofCode_0 := by intro k x; kernel_rfl
theorem t_iProofCode : ∀ k x, runF tt (alook N_iProofCode) k Tryz.f81 S_iProofCode.ps S_iProofCode.res (alook L_iProofCode) x = S_iProofCode.F k x := by intro k x; kernel_rfl
def L_sLinks : List (Nat × LSpec (denRs (S_sLinks.res ++ outM S_sLinks.ps))) := []
def N_sLinks : List (Nat × Sig) := [(52, S_sHeadOk), (54, S_sHeadHash), (105, S_sSameBytes)]
theorem t_sLinks : ∀ k x, runF tt (alook N_sLinks) k Tryz.f56 S_sLinks.ps S_sLinks.res (alook L_sLinks) x = S_sLinks.F k x := by intro k x; kernel_rfl
def L_iLightOk_0 : LSpec (denRs (S_iLightOk.res ++ outM S_iLightOk.ps)) := .mkR [(1, .pbox (.sh tLight)), (6, .sh (.slice tHead)), (7, .sh i64), (8, .sh i64)] [(1, .pbox (.sh tLight))] [] fun k x => iLightOk_l0 k x.1 x.2.1 x.2.2.1 x.2.2.2
def L_iLightOk : List (Nat × LSpec (denRs (S_iLightOk.res ++ outM S_iLightOk.ps))) := [(0, L_iLightOk_0)]
def N_iLightOk : List (Nat × Sig) := [(22, S_ibelongs), (40, S_iHeadOk), (71, S_iPushOk)]
theorem r_iLightOk_0 : ∀ k, runL tt (alook N_iLightOk) k Tryz.f29 S_iLightOk.ps S_iLightOk.res (alook L_iLightOk) 0 L_iLightOk_0 := by intro k x; kernel_rfl
theorem t_iLightOk : ∀ k x, runF tt (alook N_iLightOk) k Tryz.f29 S_iLightOk.ps S_iLightOk.res (alook L_iLightOk) x = S_iLightOk.F k x := by intro k x; kernel_rfl
def L_igoodOr : List (Nat × LSpec (denRs (S_igoodOr.res ++ outM S_igoodOr.ps))) := []
def N_igoodOr : List (Nat × Sig) := []
theorem t_igoodOr : ∀ k x, runF tt (alook N_igoodOr) k Tryz.f31 S_igoodOr.ps S_igoodOr.res (alook L_igoodOr) x = S_igoodOr.F k x := by intro k x; kernel_rfl
def L_sl30Full : List (Nat × LSpec (denRs (S_sl30Full.res ++ outM S_sl30Full.ps))) := []
def N_sl30Full : List (Nat × Sig) := [(57, S_sPutFix), (58, S_sBitsSize)]
theorem t_sl30Full : ∀ k x, runF tt (alook N_sl30Full) k Tryz.f21 S_sl30Full.ps S_sl30Full.res (alook L_sl30Full) x = S_sl30Full.F k x := by intro k x; kernel_rfl
def L_sFirstHead : List (Nat × LSpec (denRs (S_sFirstHead.res ++ outM S_sFirstHead.ps))) := []
def N_sFirstHead : List (Nat × Sig) := [(49, S_sl01Copy), (50, S_sBitsNew), (51, S_sl23Goes), (52, S_sHeadOk)]
theorem t_sFirstHead : ∀ k x, runF tt (alook N_sFirstHead) k Tryz.f17 S_sFirstHead.ps S_sFirstHead.res (alook L_sFirstHead) x = S_sFirstHead.F k x := by intro k x; kernel_rfl
def L_iNextHead : List (Nat × LSpec (denRs (S_iNextHead.res ++ outM S_iNextHead.ps))) := []
def N_iNextHead : List (Nat × Sig) := [(24, S_iBuildQc), (25, S_iHeadHash), (38, S_icopyBytes), (41, S_iLinks), (42, S_iHead_copied)]
theorem t_iNextHead : ∀ k x, runF tt (alook N_iNextHead) k Tryz.f12 S_iNextHead.ps S_iNextHead.res (alook L_iNextHead) x = S_iNextHead.F k x := by intro k x; kernel_rfl
def L_sMakeFull : List (Nat × LSpec (denRs (S_sMakeFull.res ++ outM S_sMakeFull.ps))) := []
def N_sMakeFull : List (Nat × Sig) := [(21, S_sl30Full)]
theorem t_sMakeFull : ∀ k x, runF tt (alook N_sMakeFull) k Tryz.f5 S_sMakeFull.ps S_sMakeFull.res (alook L_sMakeFull) x = S_sMakeFull.F k x := by intro k x; kernel_rfl
def L_sMakeChain_0 : LSpec (denRs (S_sMakeChain.res ++ outM S_sMakeChain.ps)) := .mk [(1, .sh i64), (4, .pbox (.sh tLimits)), (5, .pbox (.pair (.own tPush false) .unit)), (7, .pbox (.sh tl01Cur)), (8, .pbox (.sh tLimits)), (9, .pbox (.sh tTable)), (12, .own tHead true)] [(4, .pbox (.sh tLimits)), (5, .pbox (.pair (.own tPush false) .unit)), (8, .pbox (.sh tLimits)), (9, .pbox (.sh tTable)), (12, .own tHead true)] [] fun k x => sMakeChain_l0 k x.1 x.2.1 x.2.2.1 x.2.2.2.1 x.2.2.2.2.1 x.2.2.2.2.2.1 x.2.2.2.2.2.2
def L_sMakeChain : List (Nat × LSpec (denRs (S_sMakeChain.res ++ outM S_sMakeChain.ps))) := [(0, L_sMakeChain_0)]
def N_sMakeChain : List (Nat × Sig) := [(15, S_sl01New), (16, S_sl23Pair), (17, S_sFirstHead), (18, S_sl01Below), (19, S_sl11Hash), (20, S_sNextHead), (21, S_sl30Full)]
theorem r_sMakeChain_0 : ∀ k, runL tt (alook N_sMakeChain) k Tryz.f4 S_sMakeChain.ps S_sMakeChain.res (alook L_sMakeChain) 0 L_sMakeChain_0 := by intro k x; kernel_rfl
theorem t_sMakeChain : ∀ k x, runF tt (alook N_sMakeChain) k Tryz.f4 S_sMakeChain.ps S_sMakeChain.res (alook L_sMakeChain) x = S_sMakeChain.F k x := by intro k x; kernel_rfl
end Go.Ev.G
