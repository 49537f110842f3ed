/- The functions run in the evaluator as their plain functions say. No condition. -/
import Derived.Test.YtmbpdaffnabjcaaGreatS
set_option linter.unusedVariables false
set_option linter.unusedSimpArgs false
set_option linter.unusedSectionVars false
/- Proofs: printed by gen.py. -/
namespace Go.Ev.G
open Go.Ev Go.Proofs
set_option linter.unusedVariables false
def L_sl04Turn : List (Nat × LSpec (denRs (S_sl04Turn.res ++ outM S_sl04Turn.ps))) := []
def N_sl04Turn : List (Nat × Sig) := []
theorem t_sl04Turn : ∀ k x, runF tt (alook N_sl04Turn) k Tryz.f379 S_sl04Turn.ps S_sl04Turn.res (alook L_sl04Turn) x = S_sl04Turn.F k x := by intro k x; kernel_rfl
def L_sLeafHash : List (Nat × LSpec (denRs (S_sLeafHash.res ++ outM S_sLeafHash.ps))) := []
def N_sLeafHash : List (Nat × Sig) := [(305, S_sSha)]
theorem t_sLeafHash : ∀ k x, runF tt (alook N_sLeafHash) k Tryz.f382 S_sLeafHash.ps S_sLeafHash.res (alook L_sLeafHash) x = S_sLeafHash.F k x := by intro k x; kernel_rfl
def L_sl03Turn : List (Nat × LSpec (denRs (S_sl03Turn.res ++ outM S_sl03Turn.ps))) := []
def N_sl03Turn : List (Nat × Sig) := []
theorem t_sl03Turn : ∀ k x, runF tt (alook N_sl03Turn) k Tryz.f377 S_sl03Turn.ps S_sl03Turn.res (alook L_sl03Turn) x = S_sl03Turn.F k x := by intro k x; kernel_rfl
def L_sl03Sum : List (Nat × LSpec (denRs (S_sl03Sum.res ++ outM S_sl03Sum.ps))) := []
def N_sl03Sum : List (Nat × Sig) := [(271, S_sl01In)]
theorem t_sl03Sum : ∀ k x, runF tt (alook N_sl03Sum) k Tryz.f376 S_sl03Sum.ps S_sl03Sum.res (alook L_sl03Sum) x = S_sl03Sum.F k x := by intro k x; kernel_rfl
def L_sl16Fits : List (Nat × LSpec (denRs (S_sl16Fits.res ++ outM S_sl16Fits.ps))) := []
def N_sl16Fits : List (Nat × Sig) := []
theorem t_sl16Fits : ∀ k x, runF tt (alook N_sl16Fits) k Tryz.f375 S_sl16Fits.ps S_sl16Fits.res (alook L_sl16Fits) x = S_sl16Fits.F k x := by intro k x; kernel_rfl
def L_sl08In : List (Nat × LSpec (denRs (S_sl08In.res ++ outM S_sl08In.ps))) := []
def N_sl08In : List (Nat × Sig) := [(271, S_sl01In)]
theorem t_sl08In : ∀ k x, runF tt (alook N_sl08In) k Tryz.f372 S_sl08In.ps S_sl08In.res (alook L_sl08In) x = S_sl08In.F k x := by intro k x; kernel_rfl
def L_sl13Copy : List (Nat × LSpec (denRs (S_sl13Copy.res ++ outM S_sl13Copy.ps))) := []
def N_sl13Copy : List (Nat × Sig) := [(199, S_sl01Copy), (333, S_sl12Copy)]
theorem t_sl13Copy : ∀ k x, runF tt (alook N_sl13Copy) k Tryz.f336 S_sl13Copy.ps S_sl13Copy.res (alook L_sl13Copy) x = S_sl13Copy.F k x := by intro k x; kernel_rfl
def L_isteps_0 : LSpec (denRs (S_isteps.res ++ outM S_isteps.ps)) := .mk [(0, .sh i64), (4, .sh i64)] [(0, .sh i64)] [] fun k x => isteps_l0 k x.1 x.2
def L_isteps : List (Nat × LSpec (denRs (S_isteps.res ++ outM S_isteps.ps))) := [(0, L_isteps_0)]
def N_isteps : List (Nat × Sig) := []
theorem r_isteps_0 : ∀ k, runL tt (alook N_isteps) k Tryz.f368 S_isteps.ps S_isteps.res (alook L_isteps) 0 L_isteps_0 := by intro k x; kernel_rfl
theorem t_isteps : ∀ k x, runF tt (alook N_isteps) k Tryz.f368 S_isteps.ps S_isteps.res (alook L_isteps) x = S_isteps.F k x := by intro k x; kernel_rfl
def L_iLeaveBytes : List (Nat × LSpec (denRs (S_iLeaveBytes.res ++ outM S_iLeaveBytes.ps))) := []
def N_iLeaveBytes : List (Nat × Sig) := [(364, S_inumbers)]
theorem t_iLeaveBytes : ∀ k x, runF tt (alook N_iLeaveBytes) k Tryz.f367 S_iLeaveBytes.ps S_iLeaveBytes.res (alook L_iLeaveBytes) x = S_iLeaveBytes.F k x := by intro k x; kernel_rfl
def L_iisWord : List (Nat × LSpec (denRs (S_iisWord.res ++ outM S_iisWord.ps))) := []
def N_iisWord : List (Nat × Sig) := [(213, S_iwithin)]
theorem t_iisWord : ∀ k x, runF tt (alook N_iisWord) k Tryz.f326 S_iisWord.ps S_iisWord.res (alook L_iisWord) x = S_iisWord.F k x := by intro k x; kernel_rfl
def L_irounds : List (Nat × LSpec (denRs (S_irounds.res ++ outM S_irounds.ps))) := []
def N_irounds : List (Nat × Sig) := []
theorem t_irounds : ∀ k x, runF tt (alook N_irounds) k Tryz.f327 S_irounds.ps S_irounds.res (alook L_irounds) x = S_irounds.F k x := by intro k x; kernel_rfl
def L_sMac_0 : LSpec (denRs (S_sMac.res ++ outM S_sMac.ps)) := .mk [(1, .sh bs), (5, .own u8 true), (6, .own u8 true), (12, .own u8 true), (13, .sh i64), (14, .sh i64)] [(1, .sh bs), (5, .own u8 true), (6, .own u8 true)] [] fun k x => sMac_l0 k x.1 x.2.1 x.2.2.1 x.2.2.2.1 x.2.2.2.2.1 x.2.2.2.2.2
def L_sMac : List (Nat × LSpec (denRs (S_sMac.res ++ outM S_sMac.ps))) := [(0, L_sMac_0)]
def N_sMac : List (Nat × Sig) := [(305, S_sSha), (381, S_sMacKey)]
theorem r_sMac_0 : ∀ k, runL tt (alook N_sMac) k Tryz.f363 S_sMac.ps S_sMac.res (alook L_sMac) 0 L_sMac_0 := by intro k x; kernel_rfl
theorem t_sMac : ∀ k x, runF tt (alook N_sMac) k Tryz.f363 S_sMac.ps S_sMac.res (alook L_sMac) x = S_sMac.F k x := by intro k x; kernel_rfl
def L_weqEntry : List (Nat × LSpec (denRs (S_weqEntry.res ++ outM S_weqEntry.ps))) := []
def N_weqEntry : List (Nat × Sig) := [(76, S_weqByteS)]
theorem t_weqEntry : ∀ k x, runF tt (alook N_weqEntry) k Tryz.f355 S_weqEntry.ps S_weqEntry.res (alook L_weqEntry) x = S_weqEntry.F k x := by intro k x; kernel_rfl
def L_wtoByteS_0 : LSpec (denRs (S_wtoByteS.res ++ outM S_wtoByteS.ps)) := .mk [(0, .sh bs), (3, .own u8 true), (4, .sh i64)] [(3, .own u8 true)] [] fun k x => wtoByteS_l0 k x.1 x.2.1 x.2.2
def L_wtoByteS : List (Nat × LSpec (denRs (S_wtoByteS.res ++ outM S_wtoByteS.ps))) := [(0, L_wtoByteS_0)]
def N_wtoByteS : List (Nat × Sig) := []
theorem r_wtoByteS_0 : ∀ k, runL tt (alook N_wtoByteS) k Tryz.f286 S_wtoByteS.ps S_wtoByteS.res (alook L_wtoByteS) 0 L_wtoByteS_0 := by intro k x; kernel_rfl
theorem t_wtoByteS : ∀ k x, runF tt (alook N_wtoByteS) k Tryz.f286 S_wtoByteS.ps S_wtoByteS.res (alook L_wtoByteS) x = S_wtoByteS.F k x := by intro k x; kernel_rfl
def L_sInclOk : List (Nat × LSpec (denRs (S_sInclOk.res ++ outM S_sInclOk.ps))) := []
def N_sInclOk : List (Nat × Sig) := [(271, S_sl01In), (297, S_sLimitsOk), (301, S_sl01Num), (344, S_sPathLen), (357, S_sl08Hashes)]
theorem t_sInclOk : ∀ k x, runF tt (alook N_sInclOk) k Tryz.f353 S_sInclOk.ps S_sInclOk.res (alook L_sInclOk) x = S_sInclOk.F k x := by intro k x; kernel_rfl
def L_sHeadOk : List (Nat × LSpec (denRs (S_sHeadOk.res ++ outM S_sHeadOk.ps))) := []
def N_sHeadOk : List (Nat × Sig) := [(271, S_sl01In), (297, S_sLimitsOk), (301, S_sl01Num), (302, S_sl07Hash), (303, S_sQcOk), (304, S_sl13Fits)]
theorem t_sHeadOk : ∀ k x, runF tt (alook N_sHeadOk) k Tryz.f202 S_sHeadOk.ps S_sHeadOk.res (alook L_sHeadOk) x = S_sHeadOk.F k x := by intro k x; kernel_rfl
def L_sTreeSame_0 : LSpec (denRs (S_sTreeSame.res ++ outM S_sTreeSame.ps)) := .mkR [(0, .sh (.slice bs)), (1, .sh (.slice bs)), (12, .sh i64), (13, .sh i64)] [] [] fun k x => sTreeSame_l0 k x.1 x.2.1 x.2.2.1 x.2.2.2
def L_sTreeSame : List (Nat × LSpec (denRs (S_sTreeSame.res ++ outM S_sTreeSame.ps))) := [(0, L_sTreeSame_0)]
def N_sTreeSame : List (Nat × Sig) := [(309, S_sSameBytes)]
theorem r_sTreeSame_0 : ∀ k, runL tt (alook N_sTreeSame) k Tryz.f346 S_sTreeSame.ps S_sTreeSame.res (alook L_sTreeSame) 0 L_sTreeSame_0 := by intro k x; kernel_rfl
theorem t_sTreeSame : ∀ k x, runF tt (alook N_sTreeSame) k Tryz.f346 S_sTreeSame.ps S_sTreeSame.res (alook L_sTreeSame) x = S_sTreeSame.F k x := by intro k x; kernel_rfl
def L_sl01AnyNum : List (Nat × LSpec (denRs (S_sl01AnyNum.res ++ outM S_sl01AnyNum.ps))) := []
def N_sl01AnyNum : List (Nat × Sig) := [(90, S_sl01Below), (229, S_sl01Pick)]
theorem t_sl01AnyNum : ∀ k x, runF tt (alook N_sl01AnyNum) k Tryz.f321 S_sl01AnyNum.ps S_sl01AnyNum.res (alook L_sl01AnyNum) x = S_sl01AnyNum.F k x := by intro k x; kernel_rfl
def L_sl12Draw_0 : LSpec (denRs (S_sl12Draw.res ++ outM S_sl12Draw.ps)) := .mk [(0, .pbox (.sh tl01Cur)), (4, .pbox (.pair (.sh i64) (.pair (.sh i64) (.pair (.own u8 false) (.pair (.own u8 false) (.pair (.own bs false) .unit)))))), (5, .pbox (.pair (.sh i64) (.pair (.sh i64) (.pair (.own u8 true) (.pair (.own u8 false) (.pair (.own bs false) .unit)))))), (6, .sh i64)] [(0, .pbox (.sh tl01Cur)), (4, .pbox (.pair (.sh i64) (.pair (.sh i64) (.pair (.own u8 false) (.pair (.own u8 false) (.pair (.own bs false) .unit)))))), (5, .pbox (.pair (.sh i64) (.pair (.sh i64) (.pair (.own u8 true) (.pair (.own u8 false) (.pair (.own bs false) .unit))))))] [] fun k x => sl12Draw_l0 k x.1 x.2.1 x.2.2.1 x.2.2.2
def L_sl12Draw : List (Nat × LSpec (denRs (S_sl12Draw.res ++ outM S_sl12Draw.ps))) := [(0, L_sl12Draw_0)]
def N_sl12Draw : List (Nat × Sig) := [(91, S_sl11Hash), (321, S_sl01AnyNum), (334, S_sl02Draw), (335, S_sBitsCount)]
theorem r_sl12Draw_0 : ∀ k, runL tt (alook N_sl12Draw) k Tryz.f250 S_sl12Draw.ps S_sl12Draw.res (alook L_sl12Draw) 0 L_sl12Draw_0 := by intro k x; kernel_rfl
theorem t_sl12Draw : ∀ k x, runF tt (alook N_sl12Draw) k Tryz.f250 S_sl12Draw.ps S_sl12Draw.res (alook L_sl12Draw) x = S_sl12Draw.F k x := by intro k x; kernel_rfl
def L_sl14Copy : List (Nat × LSpec (denRs (S_sl14Copy.res ++ outM S_sl14Copy.ps))) := []
def N_sl14Copy : List (Nat × Sig) := [(336, S_sl13Copy), (369, S_sl06Copy)]
theorem t_sl14Copy : ∀ k x, runF tt (alook N_sl14Copy) k Tryz.f337 S_sl14Copy.ps S_sl14Copy.res (alook L_sl14Copy) x = S_sl14Copy.F k x := by intro k x; kernel_rfl
def L_iCrcMore_0 : LSpec (denRs (S_iCrcMore.res ++ outM S_iCrcMore.ps)) := .mk [(0, .sh i64), (12, .sh bs), (13, .sh i64), (14, .sh i64)] [(0, .sh i64)] [] fun k x => iCrcMore_l0 k x.1 x.2.1 x.2.2.1 x.2.2.2
def L_iCrcMore : List (Nat × LSpec (denRs (S_iCrcMore.res ++ outM S_iCrcMore.ps))) := [(0, L_iCrcMore_0)]
def N_iCrcMore : List (Nat × Sig) := [(326, S_iisWord), (368, S_isteps)]
theorem r_iCrcMore_0 : ∀ k, runL tt (alook N_iCrcMore) k Tryz.f332 S_iCrcMore.ps S_iCrcMore.res (alook L_iCrcMore) 0 L_iCrcMore_0 := by intro k x; kernel_rfl
theorem t_iCrcMore : ∀ k x, runF tt (alook N_iCrcMore) k Tryz.f332 S_iCrcMore.ps S_iCrcMore.res (alook L_iCrcMore) x = S_iCrcMore.F k x := by intro k x; kernel_rfl
def L_iLimitsOk : List (Nat × LSpec (denRs (S_iLimitsOk.res ++ outM S_iLimitsOk.ps))) := []
def N_iLimitsOk : List (Nat × Sig) := [(213, S_iwithin)]
theorem t_iLimitsOk : ∀ k x, runF tt (alook N_iLimitsOk) k Tryz.f149 S_iLimitsOk.ps S_iLimitsOk.res (alook L_iLimitsOk) x = S_iLimitsOk.F k x := by intro k x; kernel_rfl
def L_iBitsList_0 : LSpec (denRs (S_iBitsList.res ++ outM S_iBitsList.ps)) := .mk [(0, .sh bs), (3, .own i64 true), (8, .sh i64), (9, .sh i64)] [(3, .own i64 true)] [] fun k x => iBitsList_l0 k x.1 x.2.1 x.2.2.1 x.2.2.2
def L_iBitsList : List (Nat × LSpec (denRs (S_iBitsList.res ++ outM S_iBitsList.ps))) := [(0, L_iBitsList_0)]
def N_iBitsList : List (Nat × Sig) := [(311, S_iBitsHas)]
theorem r_iBitsList_0 : ∀ k, runL tt (alook N_iBitsList) k Tryz.f211 S_iBitsList.ps S_iBitsList.res (alook L_iBitsList) 0 L_iBitsList_0 := by intro k x; kernel_rfl
theorem t_iBitsList : ∀ k x, runF tt (alook N_iBitsList) k Tryz.f211 S_iBitsList.ps S_iBitsList.res (alook L_iBitsList) x = S_iBitsList.F k x := by intro k x; kernel_rfl
def L_iSameBytes : List (Nat × LSpec (denRs (S_iSameBytes.res ++ outM S_iSameBytes.ps))) := []
def N_iSameBytes : List (Nat × Sig) := []
theorem t_iSameBytes : ∀ k x, runF tt (alook N_iSameBytes) k Tryz.f65 S_iSameBytes.ps S_iSameBytes.res (alook L_iSameBytes) x = S_iSameBytes.F k x := by intro k x; kernel_rfl
def L_iHead_matches : List (Nat × LSpec (denRs (S_iHead_matches.res ++ outM S_iHead_matches.ps))) := []
def N_iHead_matches : List (Nat × Sig) := [(65, S_iSameBytes)]
theorem t_iHead_matches : ∀ k x, runF tt (alook N_iHead_matches) k Tryz.f228 S_iHead_matches.ps S_iHead_matches.res (alook L_iHead_matches) x = S_iHead_matches.F k x := by intro k x; kernel_rfl
def L_iwriter_qc_0 : LSpec (denRs (S_iwriter_qc.res ++ outM S_iwriter_qc.ps)) := .mk [(0, .pbox (.pair (.own u8 false) .unit)), (23, .sh (.slice bs)), (24, .sh i64), (25, .sh i64)] [(0, .pbox (.pair (.own u8 false) .unit))] [] fun k x => iwriter_qc_l0 k x.1 x.2.1 x.2.2.1 x.2.2.2
def L_iwriter_qc : List (Nat × LSpec (denRs (S_iwriter_qc.res ++ outM S_iwriter_qc.ps))) := [(0, L_iwriter_qc_0)]
def N_iwriter_qc : List (Nat × Sig) := [(118, S_iwriter_num), (119, S_iwriter_raw)]
theorem r_iwriter_qc_0 : ∀ k, runL tt (alook N_iwriter_qc) k Tryz.f123 S_iwriter_qc.ps S_iwriter_qc.res (alook L_iwriter_qc) 0 L_iwriter_qc_0 := by intro k x; kernel_rfl
theorem t_iwriter_qc : ∀ k x, runF tt (alook N_iwriter_qc) k Tryz.f123 S_iwriter_qc.ps S_iwriter_qc.res (alook L_iwriter_qc) x = S_iwriter_qc.F k x := by intro k x; kernel_rfl
def L_iSignLeave : List (Nat × LSpec (denRs (S_iSignLeave.res ++ outM S_iSignLeave.ps))) := []
def N_iSignLeave : List (Nat × Sig) := [(209, S_iTableOk), (213, S_iwithin), (313, S_iMac), (367, S_iLeaveBytes)]
theorem t_iSignLeave : ∀ k x, runF tt (alook N_iSignLeave) k Tryz.f316 S_iSignLeave.ps S_iSignLeave.res (alook L_iSignLeave) x = S_iSignLeave.F k x := by intro k x; kernel_rfl
def L_sSignVote : List (Nat × LSpec (denRs (S_sSignVote.res ++ outM S_sSignVote.ps))) := []
def N_sSignVote : List (Nat × Sig) := [(199, S_sl01Copy), (271, S_sl01In), (300, S_sTableOk), (362, S_sVoteBytes), (363, S_sMac)]
theorem t_sSignVote : ∀ k x, runF tt (alook N_sSignVote) k Tryz.f308 S_sSignVote.ps S_sSignVote.res (alook L_sSignVote) x = S_sSignVote.F k x := by intro k x; kernel_rfl
def L_weqByteSS_0 : LSpec (denRs (S_weqByteSS.res ++ outM S_weqByteSS.ps)) := .mkR [(0, .sh (.slice bs)), (1, .sh (.slice bs)), (5, .sh i64)] [] [] fun k x => weqByteSS_l0 k x.1 x.2.1 x.2.2
def L_weqByteSS : List (Nat × LSpec (denRs (S_weqByteSS.res ++ outM S_weqByteSS.ps))) := [(0, L_weqByteSS_0)]
def N_weqByteSS : List (Nat × Sig) := [(76, S_weqByteS)]
theorem r_weqByteSS_0 : ∀ k, runL tt (alook N_weqByteSS) k Tryz.f290 S_weqByteSS.ps S_weqByteSS.res (alook L_weqByteSS) 0 L_weqByteSS_0 := by intro k x; kernel_rfl
theorem t_weqByteSS : ∀ k x, runF tt (alook N_weqByteSS) k Tryz.f290 S_weqByteSS.ps S_weqByteSS.res (alook L_weqByteSS) x = S_weqByteSS.F k x := by intro k x; kernel_rfl
def L_wtoHead : List (Nat × LSpec (denRs (S_wtoHead.res ++ outM S_wtoHead.ps))) := []
def N_wtoHead : List (Nat × Sig) := [(171, S_wtoQc), (286, S_wtoByteS)]
theorem t_wtoHead : ∀ k x, runF tt (alook N_wtoHead) k Tryz.f172 S_wtoHead.ps S_wtoHead.res (alook L_wtoHead) x = S_wtoHead.F k x := by intro k x; kernel_rfl
def L_sPutProof_0 : LSpec (denRs (S_sPutProof.res ++ outM S_sPutProof.ps)) := .mk [(3, .pbox (.sh tLimits)), (5, .pbox (.sh tProof)), (8, .own u8 false), (21, .sh (.slice tHead)), (22, .sh i64), (23, .sh i64)] [(3, .pbox (.sh tLimits)), (5, .pbox (.sh tProof)), (8, .own u8 false)] [] fun k x => sPutProof_l0 k x.1 x.2.1 x.2.2.1 x.2.2.2.1 x.2.2.2.2.1 x.2.2.2.2.2
def L_sPutProof : List (Nat × LSpec (denRs (S_sPutProof.res ++ outM S_sPutProof.ps))) := [(0, L_sPutProof_0)]
def N_sPutProof : List (Nat × Sig) := [(280, S_sPutQc), (281, S_sPutHead), (348, S_sl11Num), (352, S_sProofOk)]
theorem r_sPutProof_0 : ∀ k, runL tt (alook N_sPutProof) k Tryz.f284 S_sPutProof.ps S_sPutProof.res (alook L_sPutProof) 0 L_sPutProof_0 := by intro k x; kernel_rfl
theorem t_sPutProof : ∀ k x, runF tt (alook N_sPutProof) k Tryz.f284 S_sPutProof.ps S_sPutProof.res (alook L_sPutProof) x = S_sPutProof.F k x := by intro k x; kernel_rfl
def L_sTcSame_0 : LSpec (denRs (S_sTcSame.res ++ outM S_sTcSame.ps)) := .mkR [(3, .pbox (.sh tTc)), (23, .sh (.slice tEntry)), (24, .sh i64), (25, .sh i64)] [] [] fun k x => sTcSame_l0 k x.1 x.2.1 x.2.2.1 x.2.2.2
def L_sTcSame : List (Nat × LSpec (denRs (S_sTcSame.res ++ outM S_sTcSame.ps))) := [(0, L_sTcSame_0)]
def N_sTcSame : List (Nat × Sig) := [(309, S_sSameBytes)]
theorem r_sTcSame_0 : ∀ k, runL tt (alook N_sTcSame) k Tryz.f276 S_sTcSame.ps S_sTcSame.res (alook L_sTcSame) 0 L_sTcSame_0 := by intro k x; kernel_rfl
theorem t_sTcSame : ∀ k x, runF tt (alook N_sTcSame) k Tryz.f276 S_sTcSame.ps S_sTcSame.res (alook L_sTcSame) x = S_sTcSame.F k x := by intro k x; kernel_rfl
def L_iOfBlock : List (Nat × LSpec (denRs (S_iOfBlock.res ++ outM S_iOfBlock.ps))) := []
def N_iOfBlock : List (Nat × Sig) := [(294, S_iBlock_copied)]
theorem t_iOfBlock : ∀ k x, runF tt (alook N_iOfBlock) k Tryz.f264 S_iOfBlock.ps S_iOfBlock.res (alook L_iOfBlock) x = S_iOfBlock.F k x := by intro k x; kernel_rfl
def L_iOfVote : List (Nat × LSpec (denRs (S_iOfVote.res ++ outM S_iOfVote.ps))) := []
def N_iOfVote : List (Nat × Sig) := [(108, S_icopyBytes)]
theorem t_iOfVote : ∀ k x, runF tt (alook N_iOfVote) k Tryz.f261 S_iOfVote.ps S_iOfVote.res (alook L_iOfVote) x = S_iOfVote.F k x := by intro k x; kernel_rfl
def L_sl14Draw : List (Nat × LSpec (denRs (S_sl14Draw.res ++ outM S_sl14Draw.ps))) := []
def N_sl14Draw : List (Nat × Sig) := [(252, S_sl13Draw), (338, S_sBlockOf), (339, S_sl14Txs)]
theorem t_sl14Draw : ∀ k x, runF tt (alook N_sl14Draw) k Tryz.f254 S_sl14Draw.ps S_sl14Draw.res (alook L_sl14Draw) x = S_sl14Draw.F k x := by intro k x; kernel_rfl
def L_iGetFix_0 : LSpec (denRs (S_iGetFix.res ++ outM S_iGetFix.ps)) := .mk [(10, .sh i64), (11, .sh i64), (12, .sh i64), (26, .own u8 false), (27, .sh i64), (28, .sh i64)] [(10, .sh i64), (11, .sh i64), (12, .sh i64)] [] fun k x => iGetFix_l0 k x.1 x.2.1 x.2.2.1 x.2.2.2.1 x.2.2.2.2.1 x.2.2.2.2.2
def L_iGetFix : List (Nat × LSpec (denRs (S_iGetFix.res ++ outM S_iGetFix.ps))) := [(0, L_iGetFix_0)]
def N_iGetFix : List (Nat × Sig) := [(213, S_iwithin), (325, S_iGetRaw)]
theorem r_iGetFix_0 : ∀ k, runL tt (alook N_iGetFix) k Tryz.f246 S_iGetFix.ps S_iGetFix.res (alook L_iGetFix) 0 L_iGetFix_0 := by intro k x; kernel_rfl
theorem t_iGetFix : ∀ k x, runF tt (alook N_iGetFix) k Tryz.f246 S_iGetFix.ps S_iGetFix.res (alook L_iGetFix) x = S_iGetFix.F k x := by intro k x; kernel_rfl
def L_sl17Put : List (Nat × LSpec (denRs (S_sl17Put.res ++ outM S_sl17Put.ps))) := []
def N_sl17Put : List (Nat × Sig) := [(279, S_sPutVote), (280, S_sPutQc), (281, S_sPutHead), (282, S_sPutBlock), (283, S_sPutTc), (284, S_sPutProof), (285, S_sPutIncl)]
theorem t_sl17Put : ∀ k x, runF tt (alook N_sl17Put) k Tryz.f169 S_sl17Put.ps S_sl17Put.res (alook L_sl17Put) x = S_sl17Put.F k x := by intro k x; kernel_rfl
def L_sl18Some : List (Nat × LSpec (denRs (S_sl18Some.res ++ outM S_sl18Some.ps))) := []
def N_sl18Some : List (Nat × Sig) := [(75, S_sEncode), (155, S_sl17Draw), (156, S_sl01Once), (184, S_sl01Bytes), (194, S_sFrame), (230, S_sOfVote), (231, S_sl11Draw)]
theorem t_sl18Some : ∀ k x, runF tt (alook N_sl18Some) k Tryz.f245 S_sl18Some.ps S_sl18Some.res (alook L_sl18Some) x = S_sl18Some.F k x := by intro k x; kernel_rfl
def L_iProof_closes : List (Nat × LSpec (denRs (S_iProof_closes.res ++ outM S_iProof_closes.ps))) := []
def N_iProof_closes : List (Nat × Sig) := []
theorem t_iProof_closes : ∀ k x, runF tt (alook N_iProof_closes) k Tryz.f215 S_iProof_closes.ps S_iProof_closes.res (alook L_iProof_closes) x = S_iProof_closes.F k x := by intro k x; kernel_rfl
def L_iSignVote : List (Nat × LSpec (denRs (S_iSignVote.res ++ outM S_iSignVote.ps))) := []
def N_iSignVote : List (Nat × Sig) := [(108, S_icopyBytes), (209, S_iTableOk), (213, S_iwithin), (312, S_iVoteBytes), (313, S_iMac)]
theorem t_iSignVote : ∀ k x, runF tt (alook N_iSignVote) k Tryz.f212 S_iSignVote.ps S_iSignVote.res (alook L_iSignVote) x = S_iSignVote.F k x := by intro k x; kernel_rfl
def L_ientrySame : List (Nat × LSpec (denRs (S_ientrySame.res ++ outM S_ientrySame.ps))) := []
def N_ientrySame : List (Nat × Sig) := [(65, S_iSameBytes)]
theorem t_ientrySame : ∀ k x, runF tt (alook N_ientrySame) k Tryz.f138 S_ientrySame.ps S_ientrySame.res (alook L_ientrySame) x = S_ientrySame.F k x := by intro k x; kernel_rfl
def L_sLinks : List (Nat × LSpec (denRs (S_sLinks.res ++ outM S_sLinks.ps))) := []
def N_sLinks : List (Nat × Sig) := [(202, S_sHeadOk), (204, S_sHeadHash), (309, S_sSameBytes)]
theorem t_sLinks : ∀ k x, runF tt (alook N_sLinks) k Tryz.f206 S_sLinks.ps S_sLinks.res (alook L_sLinks) x = S_sLinks.F k x := by intro k x; kernel_rfl
def L_iProof_copied : List (Nat × LSpec (denRs (S_iProof_copied.res ++ outM S_iProof_copied.ps))) := []
def N_iProof_copied : List (Nat × Sig) := [(97, S_icopyHeads), (225, S_iQc_copied)]
theorem t_iProof_copied : ∀ k x, runF tt (alook N_iProof_copied) k Tryz.f107 S_iProof_copied.ps S_iProof_copied.res (alook L_iProof_copied) x = S_iProof_copied.F k x := by intro k x; kernel_rfl
def L_iMsg_copied : List (Nat × LSpec (denRs (S_iMsg_copied.res ++ outM S_iMsg_copied.ps))) := []
def N_iMsg_copied : List (Nat × Sig) := [(107, S_iProof_copied), (112, S_iHead_copied), (225, S_iQc_copied), (261, S_iOfVote), (294, S_iBlock_copied), (295, S_iTc_copied), (296, S_iIncl_copied)]
theorem t_iMsg_copied : ∀ k x, runF tt (alook N_iMsg_copied) k Tryz.f193 S_iMsg_copied.ps S_iMsg_copied.res (alook L_iMsg_copied) x = S_iMsg_copied.F k x := by intro k x; kernel_rfl
def L_weqBlock : List (Nat × LSpec (denRs (S_weqBlock.res ++ outM S_weqBlock.ps))) := []
def N_weqBlock : List (Nat × Sig) := [(179, S_weqHead), (290, S_weqByteSS)]
theorem t_weqBlock : ∀ k x, runF tt (alook N_weqBlock) k Tryz.f180 S_weqBlock.ps S_weqBlock.res (alook L_weqBlock) x = S_weqBlock.F k x := by intro k x; kernel_rfl
def L_wtoBlock : List (Nat × LSpec (denRs (S_wtoBlock.res ++ outM S_wtoBlock.ps))) := []
def N_wtoBlock : List (Nat × Sig) := [(172, S_wtoHead), (287, S_wtoByteSS)]
theorem t_wtoBlock : ∀ k x, runF tt (alook N_wtoBlock) k Tryz.f173 S_wtoBlock.ps S_wtoBlock.res (alook L_wtoBlock) x = S_wtoBlock.F k x := by intro k x; kernel_rfl
def L_wszTc : List (Nat × LSpec (denRs (S_wszTc.res ++ outM S_wszTc.ps))) := []
def N_wszTc : List (Nat × Sig) := [(269, S_wszEntryS)]
theorem t_wszTc : ∀ k x, runF tt (alook N_wszTc) k Tryz.f163 S_wszTc.ps S_wszTc.res (alook L_wszTc) x = S_wszTc.F k x := by intro k x; kernel_rfl
def L_iMsg_alone : List (Nat × LSpec (denRs (S_iMsg_alone.res ++ outM S_iMsg_alone.ps))) := []
def N_iMsg_alone : List (Nat × Sig) := [(20, S_iOfProof), (261, S_iOfVote), (262, S_iOfQc), (263, S_iOfHead), (264, S_iOfBlock), (265, S_iOfTc), (266, S_iOfIncl)]
theorem t_iMsg_alone : ∀ k x, runF tt (alook N_iMsg_alone) k Tryz.f158 S_iMsg_alone.ps S_iMsg_alone.res (alook L_iMsg_alone) x = S_iMsg_alone.F k x := by intro k x; kernel_rfl
def L_iPutProof_0 : LSpec (denRs (S_iPutProof.res ++ outM S_iPutProof.ps)) := .mk [(5, .pbox (.sh tProof)), (8, .pbox (.pair (.own u8 false) .unit)), (25, .sh (.slice tHead)), (26, .sh i64), (27, .sh i64)] [(5, .pbox (.sh tProof)), (8, .pbox (.pair (.own u8 false) .unit))] [] fun k x => iPutProof_l0 k x.1 x.2.1 x.2.2.1 x.2.2.2.1 x.2.2.2.2
def L_iPutProof : List (Nat × LSpec (denRs (S_iPutProof.res ++ outM S_iPutProof.ps))) := [(0, L_iPutProof_0)]
def N_iPutProof : List (Nat × Sig) := [(98, S_iProofOk), (108, S_icopyBytes), (118, S_iwriter_num), (123, S_iwriter_qc), (127, S_iwriter_head)]
theorem r_iPutProof_0 : ∀ k, runL tt (alook N_iPutProof) k Tryz.f44 S_iPutProof.ps S_iPutProof.res (alook L_iPutProof) 0 L_iPutProof_0 := by intro k x; kernel_rfl
theorem t_iPutProof : ∀ k x, runF tt (alook N_iPutProof) k Tryz.f44 S_iPutProof.ps S_iPutProof.res (alook L_iPutProof) x = S_iPutProof.F k x := by intro k x; kernel_rfl
def L_ireadQc_0 : LSpec (denRs (S_ireadQc.res ++ outM S_ireadQc.ps)) := .mk [(1, .pbox (.sh tl01Cur)), (4, .pbox (.pair (.sh i64) (.pair (.sh i64) (.pair (.own u8 false) (.pair (.own u8 false) (.pair (.own bs false) .unit)))))), (5, .pbox (.pair (.sh i64) (.pair (.sh i64) (.pair (.own u8 false) (.pair (.own u8 false) (.pair (.own bs false) .unit)))))), (43, .sh i64), (44, .sh i64)] [(1, .pbox (.sh tl01Cur)), (4, .pbox (.pair (.sh i64) (.pair (.sh i64) (.pair (.own u8 false) (.pair (.own u8 false) (.pair (.own bs false) .unit)))))), (5, .pbox (.pair (.sh i64) (.pair (.sh i64) (.pair (.own u8 false) (.pair (.own u8 false) (.pair (.own bs false) .unit))))))] [] fun k x => ireadQc_l0 k x.1 x.2.1 x.2.2.1 x.2.2.2.1 x.2.2.2.2
def L_ireadQc : List (Nat × LSpec (denRs (S_ireadQc.res ++ outM S_ireadQc.ps))) := [(0, L_ireadQc_0)]
def N_ireadQc : List (Nat × Sig) := [(233, S_ireader_num), (234, S_ireader_hash), (236, S_iBitsCount), (237, S_iGetBits)]
theorem r_ireadQc_0 : ∀ k, runL tt (alook N_ireadQc) k Tryz.f125 S_ireadQc.ps S_ireadQc.res (alook L_ireadQc) 0 L_ireadQc_0 := by intro k x; kernel_rfl
theorem t_ireadQc : ∀ k x, runF tt (alook N_ireadQc) k Tryz.f125 S_ireadQc.ps S_ireadQc.res (alook L_ireadQc) x = S_ireadQc.F k x := by intro k x; kernel_rfl
def L_iGetProof : List (Nat × LSpec (denRs (S_iGetProof.res ++ outM S_iGetProof.ps))) := []
def N_iGetProof : List (Nat × Sig) := [(139, S_iget_implProof)]
theorem t_iGetProof : ∀ k x, runF tt (alook N_iGetProof) k Tryz.f45 S_iGetProof.ps S_iGetProof.res (alook L_iGetProof) x = S_iGetProof.F k x := by intro k x; kernel_rfl
def L_iget_implIncl : List (Nat × LSpec (denRs (S_iget_implIncl.res ++ outM S_iget_implIncl.ps))) := []
def N_iget_implIncl : List (Nat × Sig) := [(143, S_ireadIncl), (149, S_iLimitsOk)]
theorem t_iget_implIncl : ∀ k x, runF tt (alook N_iget_implIncl) k Tryz.f142 S_iget_implIncl.ps S_iget_implIncl.res (alook L_iget_implIncl) x = S_iget_implIncl.F k x := by intro k x; kernel_rfl
def L_iscan_0 : LSpec (denRs (S_iscan.res ++ outM S_iscan.ps)) := .mkR [(1, .sh bs), (2, .sh .bool), (3, .sh i64), (4, .pbox (.sh tLimits)), (11, .own tEvent true), (12, .sh i64)] [(2, .sh .bool), (3, .sh i64), (11, .own tEvent true), (12, .sh i64)] [] fun k x => iscan_l0 k x.1 x.2.1 x.2.2.1 x.2.2.2.1 x.2.2.2.2.1 x.2.2.2.2.2
def L_iscan : List (Nat × LSpec (denRs (S_iscan.res ++ outM S_iscan.ps))) := [(0, L_iscan_0)]
def N_iscan : List (Nat × Sig) := [(59, S_iDecode), (148, S_iFrameAt), (248, S_iFrameData)]
theorem r_iscan_0 : ∀ k, runL tt (alook N_iscan) k Tryz.f152 S_iscan.ps S_iscan.res (alook L_iscan) 0 L_iscan_0 := by intro k x; kernel_rfl
theorem t_iscan : ∀ k x, runF tt (alook N_iscan) k Tryz.f152 S_iscan.ps S_iscan.res (alook L_iscan) x = S_iscan.F k x := by intro k x; kernel_rfl
def L_igoodOr : List (Nat × LSpec (denRs (S_igoodOr.res ++ outM S_igoodOr.ps))) := []
def N_igoodOr : List (Nat × Sig) := []
theorem t_igoodOr : ∀ k x, runF tt (alook N_igoodOr) k Tryz.f101 S_igoodOr.ps S_igoodOr.res (alook L_igoodOr) x = S_igoodOr.F k x := by intro k x; kernel_rfl
def L_sl30Full : List (Nat × LSpec (denRs (S_sl30Full.res ++ outM S_sl30Full.ps))) := []
def N_sl30Full : List (Nat × Sig) := [(207, S_sPutFix), (208, S_sBitsSize)]
theorem t_sl30Full : ∀ k x, runF tt (alook N_sl30Full) k Tryz.f93 S_sl30Full.ps S_sl30Full.res (alook L_sl30Full) x = S_sl30Full.F k x := by intro k x; kernel_rfl
def L_sFirstHead : List (Nat × LSpec (denRs (S_sFirstHead.res ++ outM S_sFirstHead.ps))) := []
def N_sFirstHead : List (Nat × Sig) := [(199, S_sl01Copy), (200, S_sBitsNew), (201, S_sl23Goes), (202, S_sHeadOk)]
theorem t_sFirstHead : ∀ k x, runF tt (alook N_sFirstHead) k Tryz.f89 S_sFirstHead.ps S_sFirstHead.res (alook L_sFirstHead) x = S_sFirstHead.F k x := by intro k x; kernel_rfl
def L_weqMsg : List (Nat × LSpec (denRs (S_weqMsg.res ++ outM S_weqMsg.ps))) := []
def N_weqMsg : List (Nat × Sig) := [(177, S_weqVote), (178, S_weqQc), (179, S_weqHead), (180, S_weqBlock), (181, S_weqTc), (182, S_weqProof), (183, S_weqIncl)]
theorem t_weqMsg : ∀ k x, runF tt (alook N_weqMsg) k Tryz.f70 S_weqMsg.ps S_weqMsg.res (alook L_weqMsg) x = S_weqMsg.F k x := by intro k x; kernel_rfl
def L_sFrames_0 : LSpec (denRs (S_sFrames.res ++ outM S_sFrames.ps)) := .mkR [(2, .pbox (.sh tLimits)), (6, .own u8 true), (14, .sh (.slice tMsg)), (15, .sh i64), (16, .sh i64)] [(6, .own u8 true)] [] fun k x => sFrames_l0 k x.1 x.2.1 x.2.2.1 x.2.2.2.1 x.2.2.2.2
def L_sFrames : List (Nat × LSpec (denRs (S_sFrames.res ++ outM S_sFrames.ps))) := [(0, L_sFrames_0)]
def N_sFrames : List (Nat × Sig) := [(75, S_sEncode), (194, S_sFrame)]
theorem r_sFrames_0 : ∀ k, runL tt (alook N_sFrames) k Tryz.f83 S_sFrames.ps S_sFrames.res (alook L_sFrames) 0 L_sFrames_0 := by intro k x; kernel_rfl
theorem t_sFrames : ∀ k x, runF tt (alook N_sFrames) k Tryz.f83 S_sFrames.ps S_sFrames.res (alook L_sFrames) x = S_sFrames.F k x := by intro k x; kernel_rfl
def L_iMsgs_0 : LSpec (denRs (S_iMsgs.res ++ outM S_iMsgs.ps)) := .mk [(3, .own tMsg true), (7, .sh (.slice tEvent)), (8, .sh i64), (9, .sh i64)] [(3, .own tMsg true)] [] fun k x => iMsgs_l0 k x.1 x.2.1 x.2.2.1 x.2.2.2
def L_iMsgs : List (Nat × LSpec (denRs (S_iMsgs.res ++ outM S_iMsgs.ps))) := [(0, L_iMsgs_0)]
def N_iMsgs : List (Nat × Sig) := [(193, S_iMsg_copied)]
theorem r_iMsgs_0 : ∀ k, runL tt (alook N_iMsgs) k Tryz.f80 S_iMsgs.ps S_iMsgs.res (alook L_iMsgs) 0 L_iMsgs_0 := by intro k x; kernel_rfl
theorem t_iMsgs : ∀ k x, runF tt (alook N_iMsgs) k Tryz.f80 S_iMsgs.ps S_iMsgs.res (alook L_iMsgs) x = S_iMsgs.F k x := by intro k x; kernel_rfl
def L_sMakeMsgs_0 : LSpec (denRs (S_sMakeMsgs.res ++ outM S_sMakeMsgs.ps)) := .mk [(3, .pbox (.sh tLimits)), (5, .pbox (.sh tl01Cur)), (6, .own tMsg true), (7, .sh i64)] [(6, .own tMsg true)] [] fun k x => sMakeMsgs_l0 k x.1 x.2.1 x.2.2.1 x.2.2.2
def L_sMakeMsgs : List (Nat × LSpec (denRs (S_sMakeMsgs.res ++ outM S_sMakeMsgs.ps))) := [(0, L_sMakeMsgs_0)]
def N_sMakeMsgs : List (Nat × Sig) := [(87, S_sl01New), (90, S_sl01Below), (116, S_sl31Right)]
theorem r_sMakeMsgs_0 : ∀ k, runL tt (alook N_sMakeMsgs) k Tryz.f73 S_sMakeMsgs.ps S_sMakeMsgs.res (alook L_sMakeMsgs) 0 L_sMakeMsgs_0 := by intro k x; kernel_rfl
theorem t_sMakeMsgs : ∀ k x, runF tt (alook N_sMakeMsgs) k Tryz.f73 S_sMakeMsgs.ps S_sMakeMsgs.res (alook L_sMakeMsgs) x = S_sMakeMsgs.F k x := by intro k x; kernel_rfl
def L_iParse : List (Nat × LSpec (denRs (S_iParse.res ++ outM S_iParse.ps))) := []
def N_iParse : List (Nat × Sig) := [(149, S_iLimitsOk), (152, S_iscan)]
theorem t_iParse : ∀ k x, runF tt (alook N_iParse) k Tryz.f56 S_iParse.ps S_iParse.res (alook L_iParse) x = S_iParse.F k x := by intro k x; kernel_rfl
def L_sMakeStream : List (Nat × LSpec (denRs (S_sMakeStream.res ++ outM S_sMakeStream.ps))) := []
def N_sMakeStream : List (Nat × Sig) := [(87, S_sl01New), (144, S_sl18Stream)]
theorem t_sMakeStream : ∀ k x, runF tt (alook N_sMakeStream) k Tryz.f51 S_sMakeStream.ps S_sMakeStream.res (alook L_sMakeStream) x = S_sMakeStream.F k x := by intro k x; kernel_rfl
def L_iLightSame : List (Nat × LSpec (denRs (S_iLightSame.res ++ outM S_iLightSame.ps))) := []
def N_iLightSame : List (Nat × Sig) := [(65, S_iSameBytes), (113, S_iTableSame), (114, S_iheadsSame)]
theorem t_iLightSame : ∀ k x, runF tt (alook N_iLightSame) k Tryz.f25 S_iLightSame.ps S_iLightSame.res (alook L_iLightSame) x = S_iLightSame.F k x := by intro k x; kernel_rfl
def L_iBuildProof : List (Nat × LSpec (denRs (S_iBuildProof.res ++ outM S_iBuildProof.ps))) := []
def N_iBuildProof : List (Nat × Sig) := [(37, S_iHeadHash), (96, S_iBuildQc), (97, S_icopyHeads), (98, S_iProofOk)]
theorem t_iBuildProof : ∀ k x, runF tt (alook N_iBuildProof) k Tryz.f18 S_iBuildProof.ps S_iBuildProof.res (alook L_iBuildProof) x = S_iBuildProof.F k x := by intro k x; kernel_rfl
def L_wFnGarbage_0 : LSpec (denRs (S_wFnGarbage.res ++ outM S_wFnGarbage.ps)) := .mk [(0, .sh bs), (3, .pbox (.sh tLimits)), (4, .own u8 true), (18, .sh i64), (19, .sh i64)] [(0, .sh bs), (3, .pbox (.sh tLimits)), (4, .own u8 true)] [] fun k x => wFnGarbage_l0 k x.1 x.2.1 x.2.2.1 x.2.2.2.1 x.2.2.2.2
def L_wFnGarbage : List (Nat × LSpec (denRs (S_wFnGarbage.res ++ outM S_wFnGarbage.ps))) := [(0, L_wFnGarbage_0)]
def N_wFnGarbage : List (Nat × Sig) := [(26, S_sMakeLimits), (55, S_iEventsSame), (56, S_iParse), (72, S_sMakeBytes), (73, S_sMakeMsgs), (74, S_iFrames)]
theorem r_wFnGarbage_0 : ∀ k, runL tt (alook N_wFnGarbage) k Tryz.f10 S_wFnGarbage.ps S_wFnGarbage.res (alook L_wFnGarbage) 0 L_wFnGarbage_0 := by intro k x; kernel_rfl
theorem t_wFnGarbage : ∀ k x, runF tt (alook N_wFnGarbage) k Tryz.f10 S_wFnGarbage.ps S_wFnGarbage.res (alook L_wFnGarbage) x = S_wFnGarbage.F k x := by intro k x; kernel_rfl
end Go.Ev.G
