/- The functions run in the evaluator as their plain functions say. No condition. -/
import Derived.Test.YthmoekhkjgikpaaGreatS
set_option linter.unusedVariables false
set_option linter.unusedSimpArgs false
set_option linter.unusedSectionVars false
/- Proofs: printed by gen.py. -/
namespace Go.Ev.G
open Go.Ev Go.Proofs
set_option linter.unusedVariables false
def L_iisWord : List (Nat × LSpec (denRs (S_iisWord.res ++ outM S_iisWord.ps))) := []
def N_iisWord : List (Nat × Sig) := [(67, S_iwithin)]
theorem t_iisWord : ∀ k x, runF tt (alook N_iisWord) k Tryz.f159 S_iisWord.ps S_iisWord.res (alook L_iisWord) x = S_iisWord.F k x := by intro k x; kernel_rfl
def L_irounds : List (Nat × LSpec (denRs (S_irounds.res ++ outM S_irounds.ps))) := []
def N_irounds : List (Nat × Sig) := []
theorem t_irounds : ∀ k x, runF tt (alook N_irounds) k Tryz.f160 S_irounds.ps S_irounds.res (alook L_irounds) x = S_irounds.F k x := by intro k x; kernel_rfl
def L_iTreeRoot : List (Nat × LSpec (denRs (S_iTreeRoot.res ++ outM S_iTreeRoot.ps))) := []
def N_iTreeRoot : List (Nat × Sig) := [(66, S_iSha), (84, S_iLeafHash), (172, S_iSplitAt), (173, S_iNodeHash)]
theorem t_iTreeRoot : ∀ k x, runF tt (alook ((182, S_iTreeRoot) :: N_iTreeRoot)) k Tryz.f182 S_iTreeRoot.ps S_iTreeRoot.res (alook L_iTreeRoot) x = S_iTreeRoot.F (k + 1) x := by intro k x; kernel_rfl
def L_sShaPad_0 : LSpec (denRs (S_sShaPad.res ++ outM S_sShaPad.ps)) := .mk [(0, .sh bs), (3, .own u8 true)] [(0, .sh bs), (3, .own u8 true)] [] fun k x => sShaPad_l0 k x.1 x.2
def L_sShaPad_2 : LSpec (denRs (S_sShaPad.res ++ outM S_sShaPad.ps)) := .mk [(3, .own u8 true), (4, .sh i64), (5, .sh i64)] [(3, .own u8 true)] [] fun k x => sShaPad_l2 k x.1 x.2.1 x.2.2
def L_sShaPad : List (Nat × LSpec (denRs (S_sShaPad.res ++ outM S_sShaPad.ps))) := [(0, L_sShaPad_0), (2, L_sShaPad_2)]
def N_sShaPad : List (Nat × Sig) := [(49, S_sl01Copy)]
theorem r_sShaPad_0 : ∀ k, runL tt (alook N_sShaPad) k Tryz.f147 S_sShaPad.ps S_sShaPad.res (alook L_sShaPad) 0 L_sShaPad_0 := by intro k x; kernel_rfl
theorem r_sShaPad_2 : ∀ k, runL tt (alook N_sShaPad) k Tryz.f147 S_sShaPad.ps S_sShaPad.res (alook L_sShaPad) 2 L_sShaPad_2 := by intro k x; kernel_rfl
theorem t_sShaPad : ∀ k x, runF tt (alook N_sShaPad) k Tryz.f147 S_sShaPad.ps S_sShaPad.res (alook L_sShaPad) x = S_sShaPad.F k x := by intro k x; kernel_rfl
def L_inumbers_0 : LSpec (denRs (S_inumbers.res ++ outM S_inumbers.ps)) := .mkR [(5, .opt u8), (12, .sh is), (13, .sh i64), (14, .sh i64)] [(5, .opt u8)] [] fun k x => inumbers_l0 k x.1 x.2.1 x.2.2.1 x.2.2.2
def L_inumbers : List (Nat × LSpec (denRs (S_inumbers.res ++ outM S_inumbers.ps))) := [(0, L_inumbers_0)]
def N_inumbers : List (Nat × Sig) := [(179, S_iPutVar)]
theorem r_inumbers_0 : ∀ k, runL tt (alook N_inumbers) k Tryz.f152 S_inumbers.ps S_inumbers.res (alook L_inumbers) 0 L_inumbers_0 := by intro k x; kernel_rfl
theorem t_inumbers : ∀ k x, runF tt (alook N_inumbers) k Tryz.f152 S_inumbers.ps S_inumbers.res (alook L_inumbers) x = S_inumbers.F k x := by intro k x; kernel_rfl
def L_iLimitsOk : List (Nat × LSpec (denRs (S_iLimitsOk.res ++ outM S_iLimitsOk.ps))) := []
def N_iLimitsOk : List (Nat × Sig) := [(67, S_iwithin)]
theorem t_iLimitsOk : ∀ k x, runF tt (alook N_iLimitsOk) k Tryz.f59 S_iLimitsOk.ps S_iLimitsOk.res (alook L_iLimitsOk) x = S_iLimitsOk.F k x := by intro k x; kernel_rfl
def L_iPutText : List (Nat × LSpec (denRs (S_iPutText.res ++ outM S_iPutText.ps))) := []
def N_iPutText : List (Nat × Sig) := [(179, S_iPutVar)]
theorem t_iPutText : ∀ k x, runF tt (alook N_iPutText) k Tryz.f166 S_iPutText.ps S_iPutText.res (alook L_iPutText) x = S_iPutText.F k x := by intro k x; kernel_rfl
def L_iBitsOk_0 : LSpec (denRs (S_iBitsOk.res ++ outM S_iBitsOk.ps)) := .mkR [(1, .sh i64), (18, .own i64 true), (19, .sh i64), (20, .sh i64)] [] [] fun k x => iBitsOk_l0 k x.1 x.2.1 x.2.2.1 x.2.2.2
def L_iBitsOk : List (Nat × LSpec (denRs (S_iBitsOk.res ++ outM S_iBitsOk.ps))) := [(0, L_iBitsOk_0)]
def N_iBitsOk : List (Nat × Sig) := [(62, S_iBitsList), (67, S_iwithin), (86, S_iBitsSize)]
theorem r_iBitsOk_0 : ∀ k, runL tt (alook N_iBitsOk) k Tryz.f61 S_iBitsOk.ps S_iBitsOk.res (alook L_iBitsOk) 0 L_iBitsOk_0 := by intro k x; kernel_rfl
theorem t_iBitsOk : ∀ k x, runF tt (alook N_iBitsOk) k Tryz.f61 S_iBitsOk.ps S_iBitsOk.res (alook L_iBitsOk) x = S_iBitsOk.F k x := by intro k x; kernel_rfl
def L_iSameBytes : List (Nat × LSpec (denRs (S_iSameBytes.res ++ outM S_iSameBytes.ps))) := []
def N_iSameBytes : List (Nat × Sig) := []
theorem t_iSameBytes : ∀ k x, runF tt (alook N_iSameBytes) k Tryz.f43 S_iSameBytes.ps S_iSameBytes.res (alook L_iSameBytes) x = S_iSameBytes.F k x := by intro k x; kernel_rfl
def L_iBlockOk_0 : LSpec (denRs (S_iBlockOk.res ++ outM S_iBlockOk.ps)) := .mkR [(2, .pbox (.sh tLimits)), (3, .pbox (.sh tBlock)), (8, .sh (.slice bs)), (9, .sh i64), (10, .sh i64)] [(2, .pbox (.sh tLimits)), (3, .pbox (.sh tBlock))] [] fun k x => iBlockOk_l0 k x.1 x.2.1 x.2.2.1 x.2.2.2.1 x.2.2.2.2
def L_iBlockOk : List (Nat × LSpec (denRs (S_iBlockOk.res ++ outM S_iBlockOk.ps))) := [(0, L_iBlockOk_0)]
def N_iBlockOk : List (Nat × Sig) := [(40, S_iHeadOk), (43, S_iSameBytes), (182, S_iTreeRoot)]
theorem r_iBlockOk_0 : ∀ k, runL tt (alook N_iBlockOk) k Tryz.f165 S_iBlockOk.ps S_iBlockOk.res (alook L_iBlockOk) 0 L_iBlockOk_0 := by intro k x; kernel_rfl
theorem t_iBlockOk : ∀ k x, runF tt (alook N_iBlockOk) k Tryz.f165 S_iBlockOk.ps S_iBlockOk.res (alook L_iBlockOk) x = S_iBlockOk.F k x := by intro k x; kernel_rfl
def L_sMac_0 : LSpec (denRs (S_sMac.res ++ outM S_sMac.ps)) := .mk [(1, .sh bs), (5, .own u8 true), (6, .own u8 true), (12, .own u8 true), (13, .sh i64), (14, .sh i64)] [(1, .sh bs), (5, .own u8 true), (6, .own u8 true)] [] fun k x => sMac_l0 k x.1 x.2.1 x.2.2.1 x.2.2.2.1 x.2.2.2.2.1 x.2.2.2.2.2
def L_sMac : List (Nat × LSpec (denRs (S_sMac.res ++ outM S_sMac.ps))) := [(0, L_sMac_0)]
def N_sMac : List (Nat × Sig) := [(101, S_sSha), (178, S_sMacKey)]
theorem r_sMac_0 : ∀ k, runL tt (alook N_sMac) k Tryz.f151 S_sMac.ps S_sMac.res (alook L_sMac) 0 L_sMac_0 := by intro k x; kernel_rfl
theorem t_sMac : ∀ k x, runF tt (alook N_sMac) k Tryz.f151 S_sMac.ps S_sMac.res (alook L_sMac) x = S_sMac.F k x := by intro k x; kernel_rfl
def L_sQcOk : List (Nat × LSpec (denRs (S_sQcOk.res ++ outM S_sQcOk.ps))) := []
def N_sQcOk : List (Nat × Sig) := [(93, S_sLimitsOk), (95, S_sl01Num), (97, S_sl07Hash), (102, S_sBitsOk), (142, S_sBitsCount), (143, S_sl08Hashes)]
theorem t_sQcOk : ∀ k x, runF tt (alook N_sQcOk) k Tryz.f98 S_sQcOk.ps S_sQcOk.res (alook L_sQcOk) x = S_sQcOk.F k x := by intro k x; kernel_rfl
def L_iHeadHash : List (Nat × LSpec (denRs (S_iHeadHash.res ++ outM S_iHeadHash.ps))) := []
def N_iHeadHash : List (Nat × Sig) := [(65, S_iPutHead), (66, S_iSha)]
theorem t_iHeadHash : ∀ k x, runF tt (alook N_iHeadHash) k Tryz.f25 S_iHeadHash.ps S_iHeadHash.res (alook L_iHeadHash) x = S_iHeadHash.F k x := by intro k x; kernel_rfl
def L_ientrySame : List (Nat × LSpec (denRs (S_ientrySame.res ++ outM S_ientrySame.ps))) := []
def N_ientrySame : List (Nat × Sig) := [(43, S_iSameBytes)]
theorem t_ientrySame : ∀ k x, runF tt (alook N_ientrySame) k Tryz.f136 S_ientrySame.ps S_ientrySame.res (alook L_ientrySame) x = S_ientrySame.F k x := by intro k x; kernel_rfl
def L_iSignLeave : List (Nat × LSpec (denRs (S_iSignLeave.res ++ outM S_iSignLeave.ps))) := []
def N_iSignLeave : List (Nat × Sig) := [(60, S_iTableOk), (67, S_iwithin), (109, S_iMac), (171, S_iLeaveBytes)]
theorem t_iSignLeave : ∀ k x, runF tt (alook N_iSignLeave) k Tryz.f135 S_iSignLeave.ps S_iSignLeave.res (alook L_iSignLeave) x = S_iSignLeave.F k x := by intro k x; kernel_rfl
def L_iOfHead : List (Nat × LSpec (denRs (S_iOfHead.res ++ outM S_iOfHead.ps))) := []
def N_iOfHead : List (Nat × Sig) := [(42, S_iHead_copied)]
theorem t_iOfHead : ∀ k x, runF tt (alook N_iOfHead) k Tryz.f129 S_iOfHead.ps S_iOfHead.res (alook L_iOfHead) x = S_iOfHead.F k x := by intro k x; kernel_rfl
def L_iQcSame : List (Nat × LSpec (denRs (S_iQcSame.res ++ outM S_iQcSame.ps))) := []
def N_iQcSame : List (Nat × Sig) := [(43, S_iSameBytes), (90, S_iTreeSame)]
theorem t_iQcSame : ∀ k x, runF tt (alook N_iQcSame) k Tryz.f44 S_iQcSame.ps S_iQcSame.res (alook L_iQcSame) x = S_iQcSame.F k x := by intro k x; kernel_rfl
def L_iVoteSame : List (Nat × LSpec (denRs (S_iVoteSame.res ++ outM S_iVoteSame.ps))) := []
def N_iVoteSame : List (Nat × Sig) := [(43, S_iSameBytes)]
theorem t_iVoteSame : ∀ k x, runF tt (alook N_iVoteSame) k Tryz.f122 S_iVoteSame.ps S_iVoteSame.res (alook L_iVoteSame) x = S_iVoteSame.F k x := by intro k x; kernel_rfl
def L_iTcOk_0 : LSpec (denRs (S_iTcOk.res ++ outM S_iTcOk.ps)) := .mkR [(2, .pbox (.sh tLimits)), (3, .pbox (.sh tTc)), (8, .sh (.slice tEntry)), (9, .sh i64), (10, .sh i64)] [(2, .pbox (.sh tLimits)), (3, .pbox (.sh tTc))] [] fun k x => iTcOk_l0 k x.1 x.2.1 x.2.2.1 x.2.2.2.1 x.2.2.2.2
def L_iTcOk : List (Nat × LSpec (denRs (S_iTcOk.res ++ outM S_iTcOk.ps))) := [(0, L_iTcOk_0)]
def N_iTcOk : List (Nat × Sig) := [(59, S_iLimitsOk), (67, S_iwithin), (87, S_iisNum), (88, S_iareHashes)]
theorem r_iTcOk_0 : ∀ k, runL tt (alook N_iTcOk) k Tryz.f78 S_iTcOk.ps S_iTcOk.res (alook L_iTcOk) 0 L_iTcOk_0 := by intro k x; kernel_rfl
theorem t_iTcOk : ∀ k x, runF tt (alook N_iTcOk) k Tryz.f78 S_iTcOk.ps S_iTcOk.res (alook L_iTcOk) x = S_iTcOk.F k x := by intro k x; kernel_rfl
def L_sPutHead : List (Nat × LSpec (denRs (S_sPutHead.res ++ outM S_sPutHead.ps))) := []
def N_sPutHead : List (Nat × Sig) := [(52, S_sHeadOk), (144, S_sl11Num), (145, S_sPutQc)]
theorem t_sPutHead : ∀ k x, runF tt (alook N_sPutHead) k Tryz.f100 S_sPutHead.ps S_sPutHead.res (alook L_sPutHead) x = S_sPutHead.F k x := by intro k x; kernel_rfl
def L_sl01Pick : List (Nat × LSpec (denRs (S_sl01Pick.res ++ outM S_sl01Pick.ps))) := []
def N_sl01Pick : List (Nat × Sig) := [(18, S_sl01Below)]
theorem t_sl01Pick : ∀ k x, runF tt (alook N_sl01Pick) k Tryz.f91 S_sl01Pick.ps S_sl01Pick.res (alook L_sl01Pick) x = S_sl01Pick.F k x := by intro k x; kernel_rfl
def L_iQcVotes_0 : LSpec (denRs (S_iQcVotes.res ++ outM S_iQcVotes.ps)) := .mk [(1, .pbox (.sh tQc)), (3, .own tVote true), (16, .own i64 true), (17, .sh i64), (18, .sh i64)] [(3, .own tVote true)] [] fun k x => iQcVotes_l0 k x.1 x.2.1 x.2.2.1 x.2.2.2.1 x.2.2.2.2
def L_iQcVotes : List (Nat × LSpec (denRs (S_iQcVotes.res ++ outM S_iQcVotes.ps))) := [(0, L_iQcVotes_0)]
def N_iQcVotes : List (Nat × Sig) := [(38, S_icopyBytes), (62, S_iBitsList), (110, S_iBitsCount)]
theorem r_iQcVotes_0 : ∀ k, runL tt (alook N_iQcVotes) k Tryz.f75 S_iQcVotes.ps S_iQcVotes.res (alook L_iQcVotes) 0 L_iQcVotes_0 := by intro k x; kernel_rfl
theorem t_iQcVotes : ∀ k x, runF tt (alook N_iQcVotes) k Tryz.f75 S_iQcVotes.ps S_iQcVotes.res (alook L_iQcVotes) x = S_iQcVotes.F k x := by intro k x; kernel_rfl
def L_iOfProof : List (Nat × LSpec (denRs (S_iOfProof.res ++ outM S_iOfProof.ps))) := []
def N_iOfProof : List (Nat × Sig) := [(37, S_iProof_copied)]
theorem t_iOfProof : ∀ k x, runF tt (alook N_iOfProof) k Tryz.f9 S_iOfProof.ps S_iOfProof.res (alook L_iOfProof) x = S_iOfProof.F k x := by intro k x; kernel_rfl
def L_iMsg_put : List (Nat × LSpec (denRs (S_iMsg_put.res ++ outM S_iMsg_put.ps))) := []
def N_iMsg_put : List (Nat × Sig) := [(65, S_iPutHead), (116, S_iPutVote), (117, S_iPutQc), (118, S_iPutBlock), (119, S_iPutTc), (120, S_iPutProof), (121, S_iPutIncl)]
theorem t_iMsg_put : ∀ k x, runF tt (alook N_iMsg_put) k Tryz.f72 S_iMsg_put.ps S_iMsg_put.res (alook L_iMsg_put) x = S_iMsg_put.F k x := by intro k x; kernel_rfl
def L_sBuildQc_0 : LSpec (denRs (S_sBuildQc.res ++ outM S_sBuildQc.ps)) := .mk [(2, .sh i64), (3, .sh i64), (4, .sh bs), (6, .pbox (.sh tLimits)), (7, .pbox (.sh tTable)), (12, .pbox (.pair (.sh i64) (.pair (.sh i64) (.pair (.own u8 false) (.pair (.own u8 false) (.pair (.own bs false) .unit)))))), (14, .pbox (.pair (.sh i64) (.pair (.sh i64) (.pair (.own u8 true) (.pair (.own u8 true) (.pair (.own bs false) .unit)))))), (39, .own i64 true), (40, .sh i64), (41, .sh i64)] [(6, .pbox (.sh tLimits)), (12, .pbox (.pair (.sh i64) (.pair (.sh i64) (.pair (.own u8 false) (.pair (.own u8 false) (.pair (.own bs false) .unit)))))), (14, .pbox (.pair (.sh i64) (.pair (.sh i64) (.pair (.own u8 true) (.pair (.own u8 true) (.pair (.own bs false) .unit))))))] [] fun k x => sBuildQc_l0 k x.1 x.2.1 x.2.2.1 x.2.2.2.1 x.2.2.2.2.1 x.2.2.2.2.2.1 x.2.2.2.2.2.2.1 x.2.2.2.2.2.2.2.1 x.2.2.2.2.2.2.2.2.1 x.2.2.2.2.2.2.2.2.2
def L_sBuildQc : List (Nat × LSpec (denRs (S_sBuildQc.res ++ outM S_sBuildQc.ps))) := [(0, L_sBuildQc_0)]
def N_sBuildQc : List (Nat × Sig) := [(49, S_sl01Copy), (51, S_sl23Goes), (98, S_sQcOk), (102, S_sBitsOk), (103, S_sBitsList), (104, S_sSignVote)]
theorem r_sBuildQc_0 : ∀ k, runL tt (alook N_sBuildQc) k Tryz.f55 S_sBuildQc.ps S_sBuildQc.res (alook L_sBuildQc) 0 L_sBuildQc_0 := by intro k x; kernel_rfl
theorem t_sBuildQc : ∀ k x, runF tt (alook N_sBuildQc) k Tryz.f55 S_sBuildQc.ps S_sBuildQc.res (alook L_sBuildQc) x = S_sBuildQc.F k x := by intro k x; kernel_rfl
def L_iBuildQc_0 : LSpec (denRs (S_iBuildQc.res ++ outM S_iBuildQc.ps)) := .mk [(2, .sh i64), (3, .sh i64), (4, .sh bs), (6, .pbox (.sh tLimits)), (7, .pbox (.sh tTable)), (12, .pbox (.pair (.sh i64) (.pair (.sh i64) (.pair (.own u8 false) (.pair (.own u8 false) (.pair (.own bs false) .unit)))))), (14, .pbox (.pair (.sh i64) (.pair (.sh i64) (.pair (.own u8 true) (.pair (.own u8 true) (.pair (.own bs false) .unit)))))), (39, .own i64 true), (40, .sh i64), (41, .sh i64)] [(6, .pbox (.sh tLimits)), (12, .pbox (.pair (.sh i64) (.pair (.sh i64) (.pair (.own u8 false) (.pair (.own u8 false) (.pair (.own bs false) .unit)))))), (14, .pbox (.pair (.sh i64) (.pair (.sh i64) (.pair (.own u8 true) (.pair (.own u8 true) (.pair (.own bs false) .unit))))))] [] fun k x => iBuildQc_l0 k x.1 x.2.1 x.2.2.1 x.2.2.2.1 x.2.2.2.2.1 x.2.2.2.2.2.1 x.2.2.2.2.2.2.1 x.2.2.2.2.2.2.2.1 x.2.2.2.2.2.2.2.2.1 x.2.2.2.2.2.2.2.2.2
def L_iBuildQc : List (Nat × LSpec (denRs (S_iBuildQc.res ++ outM S_iBuildQc.ps))) := [(0, L_iBuildQc_0)]
def N_iBuildQc : List (Nat × Sig) := [(22, S_ibelongs), (38, S_icopyBytes), (61, S_iBitsOk), (62, S_iBitsList), (63, S_iSignVote), (64, S_iQcOk)]
theorem r_iBuildQc_0 : ∀ k, runL tt (alook N_iBuildQc) k Tryz.f24 S_iBuildQc.ps S_iBuildQc.res (alook L_iBuildQc) 0 L_iBuildQc_0 := by intro k x; kernel_rfl
theorem t_iBuildQc : ∀ k x, runF tt (alook N_iBuildQc) k Tryz.f24 S_iBuildQc.ps S_iBuildQc.res (alook L_iBuildQc) x = S_iBuildQc.F k x := by intro k x; kernel_rfl
def L_iLightNew : List (Nat × LSpec (denRs (S_iLightNew.res ++ outM S_iLightNew.ps))) := []
def N_iLightNew : List (Nat × Sig) := [(22, S_ibelongs), (23, S_iTable_copied)]
theorem t_iLightNew : ∀ k x, runF tt (alook N_iLightNew) k Tryz.f6 S_iLightNew.ps S_iLightNew.res (alook L_iLightNew) x = S_iLightNew.F k x := by intro k x; kernel_rfl
end Go.Ev.G
