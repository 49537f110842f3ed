/- The functions run in the evaluator as their plain functions say. No condition. -/
import Derived.Test.YtmbpdaffnabjcaaGreatS
set_option linter.unusedVariables false
set_option linter.unusedSimpArgs false
set_option linter.unusedSectionVars false
/- Proofs: printed by gen.py. -/
namespace Go.Ev.G
open Go.Ev Go.Proofs
set_option linter.unusedVariables false
def L_sl01Copy : List (Nat × LSpec (denRs (S_sl01Copy.res ++ outM S_sl01Copy.ps))) := []
def N_sl01Copy : List (Nat × Sig) := []
theorem t_sl01Copy : ∀ k x, runF tt (alook N_sl01Copy) k Tryz.f199 S_sl01Copy.ps S_sl01Copy.res (alook L_sl01Copy) x = S_sl01Copy.F k x := by intro k x; kernel_rfl
def L_sl04K : List (Nat × LSpec (denRs (S_sl04K.res ++ outM S_sl04K.ps))) := []
def N_sl04K : List (Nat × Sig) := []
theorem t_sl04K : ∀ k x, runF tt (alook N_sl04K) k Tryz.f380 S_sl04K.ps S_sl04K.res (alook L_sl04K) x = S_sl04K.F k x := by intro k x; kernel_rfl
def L_sl01Num : List (Nat × LSpec (denRs (S_sl01Num.res ++ outM S_sl01Num.ps))) := []
def N_sl01Num : List (Nat × Sig) := [(271, S_sl01In)]
theorem t_sl01Num : ∀ k x, runF tt (alook N_sl01Num) k Tryz.f301 S_sl01Num.ps S_sl01Num.res (alook L_sl01Num) x = S_sl01Num.F k x := by intro k x; kernel_rfl
def L_sl06Copy_0 : LSpec (denRs (S_sl06Copy.res ++ outM S_sl06Copy.ps)) := .mk [(3, .own bs true), (7, .sh (.slice bs)), (8, .sh i64), (9, .sh i64)] [(3, .own bs true)] [] fun k x => sl06Copy_l0 k x.1 x.2.1 x.2.2.1 x.2.2.2
def L_sl06Copy : List (Nat × LSpec (denRs (S_sl06Copy.res ++ outM S_sl06Copy.ps))) := [(0, L_sl06Copy_0)]
def N_sl06Copy : List (Nat × Sig) := [(199, S_sl01Copy)]
theorem r_sl06Copy_0 : ∀ k, runL tt (alook N_sl06Copy) k Tryz.f369 S_sl06Copy.ps S_sl06Copy.res (alook L_sl06Copy) 0 L_sl06Copy_0 := by intro k x; kernel_rfl
theorem t_sl06Copy : ∀ k x, runF tt (alook N_sl06Copy) k Tryz.f369 S_sl06Copy.ps S_sl06Copy.res (alook L_sl06Copy) x = S_sl06Copy.F k x := by intro k x; kernel_rfl
def L_iisNum : List (Nat × LSpec (denRs (S_iisNum.res ++ outM S_iisNum.ps))) := []
def N_iisNum : List (Nat × Sig) := [(213, S_iwithin)]
theorem t_iisNum : ∀ k x, runF tt (alook N_iisNum) k Tryz.f150 S_iisNum.ps S_iisNum.res (alook L_iisNum) x = S_iisNum.F k x := by intro k x; kernel_rfl
def L_iPutVar_0 : LSpec (denRs (S_iPutVar.res ++ outM S_iPutVar.ps)) := .mk [(1, .sh i64), (6, .own u8 true)] [(1, .sh i64), (6, .own u8 true)] [] fun k x => iPutVar_l0 k x.1 x.2
def L_iPutVar : List (Nat × LSpec (denRs (S_iPutVar.res ++ outM S_iPutVar.ps))) := [(0, L_iPutVar_0)]
def N_iPutVar : List (Nat × Sig) := [(108, S_icopyBytes), (150, S_iisNum)]
theorem r_iPutVar_0 : ∀ k, runL tt (alook N_iPutVar) k Tryz.f232 S_iPutVar.ps S_iPutVar.res (alook L_iPutVar) 0 L_iPutVar_0 := by intro k x; kernel_rfl
theorem t_iPutVar : ∀ k x, runF tt (alook N_iPutVar) k Tryz.f232 S_iPutVar.ps S_iPutVar.res (alook L_iPutVar) x = S_iPutVar.F k x := by intro k x; kernel_rfl
def L_iTurnRight : List (Nat × LSpec (denRs (S_iTurnRight.res ++ outM S_iTurnRight.ps))) := []
def N_iTurnRight : List (Nat × Sig) := [(213, S_iwithin), (326, S_iisWord)]
theorem t_iTurnRight : ∀ k x, runF tt (alook N_iTurnRight) k Tryz.f328 S_iTurnRight.ps S_iTurnRight.res (alook L_iTurnRight) x = S_iTurnRight.F k x := by intro k x; kernel_rfl
def L_iSha_0 : LSpec (denRs (S_iSha.res ++ outM S_iSha.ps)) := .mk [(3, .own i64 false), (4, .own u8 true), (5, .sh i64)] [(3, .own i64 false)] [] fun k x => iSha_l0 k x.1 x.2.1 x.2.2
def L_iSha_2 : LSpec (denRs (S_iSha.res ++ outM S_iSha.ps)) := .mk [(6, .own u8 true), (26, .own i64 false), (27, .sh i64), (28, .sh i64)] [(6, .own u8 true)] [] fun k x => iSha_l2 k x.1 x.2.1 x.2.2.1 x.2.2.2
def L_iSha : List (Nat × LSpec (denRs (S_iSha.res ++ outM S_iSha.ps))) := [(0, L_iSha_0), (2, L_iSha_2)]
def N_iSha : List (Nat × Sig) := [(239, S_iShaInit), (240, S_iShaPad), (241, S_iShaBlock)]
theorem r_iSha_0 : ∀ k, runL tt (alook N_iSha) k Tryz.f130 S_iSha.ps S_iSha.res (alook L_iSha) 0 L_iSha_0 := by intro k x; kernel_rfl
theorem r_iSha_2 : ∀ k, runL tt (alook N_iSha) k Tryz.f130 S_iSha.ps S_iSha.res (alook L_iSha) 2 L_iSha_2 := by intro k x; kernel_rfl
theorem t_iSha : ∀ k x, runF tt (alook N_iSha) k Tryz.f130 S_iSha.ps S_iSha.res (alook L_iSha) x = S_iSha.F k x := by intro k x; kernel_rfl
def L_weqByteS_0 : LSpec (denRs (S_weqByteS.res ++ outM S_weqByteS.ps)) := .mkR [(0, .sh bs), (1, .sh bs), (5, .sh i64)] [] [] fun k x => weqByteS_l0 k x.1 x.2.1 x.2.2
def L_weqByteS : List (Nat × LSpec (denRs (S_weqByteS.res ++ outM S_weqByteS.ps))) := [(0, L_weqByteS_0)]
def N_weqByteS : List (Nat × Sig) := []
theorem r_weqByteS_0 : ∀ k, runL tt (alook N_weqByteS) k Tryz.f76 S_weqByteS.ps S_weqByteS.res (alook L_weqByteS) 0 L_weqByteS_0 := by intro k x; kernel_rfl
theorem t_weqByteS : ∀ k x, runF tt (alook N_weqByteS) k Tryz.f76 S_weqByteS.ps S_weqByteS.res (alook L_weqByteS) x = S_weqByteS.F k x := by intro k x; kernel_rfl
def L_sl02Signers : List (Nat × LSpec (denRs (S_sl02Signers.res ++ outM S_sl02Signers.ps))) := []
def N_sl02Signers : List (Nat × Sig) := [(271, S_sl01In)]
theorem t_sl02Signers : ∀ k x, runF tt (alook N_sl02Signers) k Tryz.f299 S_sl02Signers.ps S_sl02Signers.res (alook L_sl02Signers) x = S_sl02Signers.F k x := by intro k x; kernel_rfl
def L_sPathLen : List (Nat × LSpec (denRs (S_sPathLen.res ++ outM S_sPathLen.ps))) := []
def N_sPathLen : List (Nat × Sig) := [(372, S_sl08In), (373, S_sSplitAt)]
theorem t_sPathLen : ∀ k x, runF tt (alook ((344, S_sPathLen) :: N_sPathLen)) k Tryz.f344 S_sPathLen.ps S_sPathLen.res (alook L_sPathLen) x = S_sPathLen.F (k + 1) x := by intro k x; kernel_rfl
def L_sBitsCount : List (Nat × LSpec (denRs (S_sBitsCount.res ++ outM S_sBitsCount.ps))) := []
def N_sBitsCount : List (Nat × Sig) := [(307, S_sBitsList)]
theorem t_sBitsCount : ∀ k x, runF tt (alook N_sBitsCount) k Tryz.f335 S_sBitsCount.ps S_sBitsCount.res (alook L_sBitsCount) x = S_sBitsCount.F k x := by intro k x; kernel_rfl
def L_sSameBytes : List (Nat × LSpec (denRs (S_sSameBytes.res ++ outM S_sSameBytes.ps))) := []
def N_sSameBytes : List (Nat × Sig) := []
theorem t_sSameBytes : ∀ k x, runF tt (alook N_sSameBytes) k Tryz.f309 S_sSameBytes.ps S_sSameBytes.res (alook L_sSameBytes) x = S_sSameBytes.F k x := by intro k x; kernel_rfl
def L_sl13Fits : List (Nat × LSpec (denRs (S_sl13Fits.res ++ outM S_sl13Fits.ps))) := []
def N_sl13Fits : List (Nat × Sig) := [(309, S_sSameBytes)]
theorem t_sl13Fits : ∀ k x, runF tt (alook N_sl13Fits) k Tryz.f304 S_sl13Fits.ps S_sl13Fits.res (alook L_sl13Fits) x = S_sl13Fits.F k x := by intro k x; kernel_rfl
def L_sPutText : List (Nat × LSpec (denRs (S_sPutText.res ++ outM S_sPutText.ps))) := []
def N_sPutText : List (Nat × Sig) := [(374, S_sPutVar)]
theorem t_sPutText : ∀ k x, runF tt (alook N_sPutText) k Tryz.f350 S_sPutText.ps S_sPutText.res (alook L_sPutText) x = S_sPutText.F k x := by intro k x; kernel_rfl
def L_sVoteOk : List (Nat × LSpec (denRs (S_sVoteOk.res ++ outM S_sVoteOk.ps))) := []
def N_sVoteOk : List (Nat × Sig) := [(271, S_sl01In), (297, S_sLimitsOk), (301, S_sl01Num), (302, S_sl07Hash)]
theorem t_sVoteOk : ∀ k x, runF tt (alook N_sVoteOk) k Tryz.f347 S_sVoteOk.ps S_sVoteOk.res (alook L_sVoteOk) x = S_sVoteOk.F k x := by intro k x; kernel_rfl
def L_wszEntry : List (Nat × LSpec (denRs (S_wszEntry.res ++ outM S_wszEntry.ps))) := []
def N_wszEntry : List (Nat × Sig) := [(267, S_wszByteS)]
theorem t_wszEntry : ∀ k x, runF tt (alook N_wszEntry) k Tryz.f345 S_wszEntry.ps S_wszEntry.res (alook L_wszEntry) x = S_wszEntry.F k x := by intro k x; kernel_rfl
def L_sl01Below : List (Nat × LSpec (denRs (S_sl01Below.res ++ outM S_sl01Below.ps))) := []
def N_sl01Below : List (Nat × Sig) := [(203, S_sl01Byte)]
theorem t_sl01Below : ∀ k x, runF tt (alook N_sl01Below) k Tryz.f90 S_sl01Below.ps S_sl01Below.res (alook L_sl01Below) x = S_sl01Below.F k x := by intro k x; kernel_rfl
def L_sl02Draw_0 : LSpec (denRs (S_sl02Draw.res ++ outM S_sl02Draw.ps)) := .mk [(0, .pbox (.sh tl01Cur)), (1, .sh i64), (5, .own u8 false), (6, .sh i64)] [(0, .pbox (.sh tl01Cur)), (5, .own u8 false)] [] fun k x => sl02Draw_l0 k x.1 x.2.1 x.2.2.1 x.2.2.2
def L_sl02Draw : List (Nat × LSpec (denRs (S_sl02Draw.res ++ outM S_sl02Draw.ps))) := [(0, L_sl02Draw_0)]
def N_sl02Draw : List (Nat × Sig) := [(156, S_sl01Once), (200, S_sBitsNew)]
theorem r_sl02Draw_0 : ∀ k, runL tt (alook N_sl02Draw) k Tryz.f334 S_sl02Draw.ps S_sl02Draw.res (alook L_sl02Draw) 0 L_sl02Draw_0 := by intro k x; kernel_rfl
theorem t_sl02Draw : ∀ k x, runF tt (alook N_sl02Draw) k Tryz.f334 S_sl02Draw.ps S_sl02Draw.res (alook L_sl02Draw) x = S_sl02Draw.F k x := by intro k x; kernel_rfl
def L_sl14Txs_0 : LSpec (denRs (S_sl14Txs.res ++ outM S_sl14Txs.ps)) := .mk [(0, .pbox (.sh tl01Cur)), (3, .pbox (.sh tLimits)), (5, .own bs true), (6, .sh i64)] [(0, .pbox (.sh tl01Cur)), (5, .own bs true)] [] fun k x => sl14Txs_l0 k x.1 x.2.1 x.2.2.1 x.2.2.2
def L_sl14Txs : List (Nat × LSpec (denRs (S_sl14Txs.res ++ outM S_sl14Txs.ps))) := [(0, L_sl14Txs_0)]
def N_sl14Txs : List (Nat × Sig) := [(90, S_sl01Below), (184, S_sl01Bytes)]
theorem r_sl14Txs_0 : ∀ k, runL tt (alook N_sl14Txs) k Tryz.f339 S_sl14Txs.ps S_sl14Txs.res (alook L_sl14Txs) 0 L_sl14Txs_0 := by intro k x; kernel_rfl
theorem t_sl14Txs : ∀ k x, runF tt (alook N_sl14Txs) k Tryz.f339 S_sl14Txs.ps S_sl14Txs.res (alook L_sl14Txs) x = S_sl14Txs.F k x := by intro k x; kernel_rfl
def L_iSplitAt_0 : LSpec (denRs (S_iSplitAt.res ++ outM S_iSplitAt.ps)) := .mk [(0, .sh i64), (3, .sh i64)] [(3, .sh i64)] [] fun k x => iSplitAt_l0 k x.1 x.2
def L_iSplitAt : List (Nat × LSpec (denRs (S_iSplitAt.res ++ outM S_iSplitAt.ps))) := [(0, L_iSplitAt_0)]
def N_iSplitAt : List (Nat × Sig) := []
theorem r_iSplitAt_0 : ∀ k, runL tt (alook N_iSplitAt) k Tryz.f329 S_iSplitAt.ps S_iSplitAt.res (alook L_iSplitAt) 0 L_iSplitAt_0 := by intro k x; kernel_rfl
theorem t_iSplitAt : ∀ k x, runF tt (alook N_iSplitAt) k Tryz.f329 S_iSplitAt.ps S_iSplitAt.res (alook L_iSplitAt) x = S_iSplitAt.F k x := by intro k x; kernel_rfl
def L_iBitsSize : List (Nat × LSpec (denRs (S_iBitsSize.res ++ outM S_iBitsSize.ps))) := []
def N_iBitsSize : List (Nat × Sig) := []
theorem t_iBitsSize : ∀ k x, runF tt (alook N_iBitsSize) k Tryz.f226 S_iBitsSize.ps S_iBitsSize.res (alook L_iBitsSize) x = S_iBitsSize.F k x := by intro k x; kernel_rfl
def L_iBitsHas : List (Nat × LSpec (denRs (S_iBitsHas.res ++ outM S_iBitsHas.ps))) := []
def N_iBitsHas : List (Nat × Sig) := [(213, S_iwithin)]
theorem t_iBitsHas : ∀ k x, runF tt (alook N_iBitsHas) k Tryz.f311 S_iBitsHas.ps S_iBitsHas.res (alook L_iBitsHas) x = S_iBitsHas.F k x := by intro k x; kernel_rfl
def L_iBitsCount_0 : LSpec (denRs (S_iBitsCount.res ++ outM S_iBitsCount.ps)) := .mk [(3, .sh i64), (6, .sh bs), (7, .sh i64), (8, .sh i64)] [(3, .sh i64)] [] fun k x => iBitsCount_l0 k x.1 x.2.1 x.2.2.1 x.2.2.2
def L_iBitsCount : List (Nat × LSpec (denRs (S_iBitsCount.res ++ outM S_iBitsCount.ps))) := [(0, L_iBitsCount_0)]
def N_iBitsCount : List (Nat × Sig) := [(324, S_math_bits_OnesCount8)]
theorem r_iBitsCount_0 : ∀ k, runL tt (alook N_iBitsCount) k Tryz.f236 S_iBitsCount.ps S_iBitsCount.res (alook L_iBitsCount) 0 L_iBitsCount_0 := by intro k x; kernel_rfl
theorem t_iBitsCount : ∀ k x, runF tt (alook N_iBitsCount) k Tryz.f236 S_iBitsCount.ps S_iBitsCount.res (alook L_iBitsCount) x = S_iBitsCount.F k x := by intro k x; kernel_rfl
def L_iHeadOk : List (Nat × LSpec (denRs (S_iHeadOk.res ++ outM S_iHeadOk.ps))) := []
def N_iHeadOk : List (Nat × Sig) := [(122, S_iQcOk), (150, S_iisNum), (213, S_iwithin), (227, S_iareHashes), (228, S_iHead_matches)]
theorem t_iHeadOk : ∀ k x, runF tt (alook N_iHeadOk) k Tryz.f110 S_iHeadOk.ps S_iHeadOk.res (alook L_iHeadOk) x = S_iHeadOk.F k x := by intro k x; kernel_rfl
def L_iLinks : List (Nat × LSpec (denRs (S_iLinks.res ++ outM S_iLinks.ps))) := []
def N_iLinks : List (Nat × Sig) := [(37, S_iHeadHash), (65, S_iSameBytes), (110, S_iHeadOk)]
theorem t_iLinks : ∀ k x, runF tt (alook N_iLinks) k Tryz.f111 S_iLinks.ps S_iLinks.res (alook L_iLinks) x = S_iLinks.F k x := by intro k x; kernel_rfl
def L_iTotalOf_0 : LSpec (denRs (S_iTotalOf.res ++ outM S_iTotalOf.ps)) := .mk [(1, .pbox (.sh tTable)), (3, .sh i64), (7, .sh (.slice tPush)), (8, .sh i64), (9, .sh i64)] [(3, .sh i64)] [] fun k x => iTotalOf_l0 k x.1 x.2.1 x.2.2.1 x.2.2.2.1 x.2.2.2.2
def L_iTotalOf : List (Nat × LSpec (denRs (S_iTotalOf.res ++ outM S_iTotalOf.ps))) := [(0, L_iTotalOf_0)]
def N_iTotalOf : List (Nat × Sig) := [(209, S_iTableOk)]
theorem r_iTotalOf_0 : ∀ k, runL tt (alook N_iTotalOf) k Tryz.f315 S_iTotalOf.ps S_iTotalOf.res (alook L_iTotalOf) 0 L_iTotalOf_0 := by intro k x; kernel_rfl
theorem t_iTotalOf : ∀ k x, runF tt (alook N_iTotalOf) k Tryz.f315 S_iTotalOf.ps S_iTotalOf.res (alook L_iTotalOf) x = S_iTotalOf.F k x := by intro k x; kernel_rfl
def L_sTableOk_0 : LSpec (denRs (S_sTableOk.res ++ outM S_sTableOk.ps)) := .mkR [(1, .pbox (.sh tTable)), (6, .sh (.slice tPush)), (7, .sh i64), (8, .sh i64)] [(1, .pbox (.sh tTable))] [] fun k x => sTableOk_l0 k x.1 x.2.1 x.2.2.1 x.2.2.2
def L_sTableOk : List (Nat × LSpec (denRs (S_sTableOk.res ++ outM S_sTableOk.ps))) := [(0, L_sTableOk_0)]
def N_sTableOk : List (Nat × Sig) := [(271, S_sl01In), (299, S_sl02Signers)]
theorem r_sTableOk_0 : ∀ k, runL tt (alook N_sTableOk) k Tryz.f300 S_sTableOk.ps S_sTableOk.res (alook L_sTableOk) 0 L_sTableOk_0 := by intro k x; kernel_rfl
theorem t_sTableOk : ∀ k x, runF tt (alook N_sTableOk) k Tryz.f300 S_sTableOk.ps S_sTableOk.res (alook L_sTableOk) x = S_sTableOk.F k x := by intro k x; kernel_rfl
def L_weqHeadS_0 : LSpec (denRs (S_weqHeadS.res ++ outM S_weqHeadS.ps)) := .mkR [(0, .sh (.slice tHead)), (1, .sh (.slice tHead)), (5, .sh i64)] [] [] fun k x => weqHeadS_l0 k x.1 x.2.1 x.2.2
def L_weqHeadS : List (Nat × LSpec (denRs (S_weqHeadS.res ++ outM S_weqHeadS.ps))) := [(0, L_weqHeadS_0)]
def N_weqHeadS : List (Nat × Sig) := [(179, S_weqHead)]
theorem r_weqHeadS_0 : ∀ k, runL tt (alook N_weqHeadS) k Tryz.f292 S_weqHeadS.ps S_weqHeadS.res (alook L_weqHeadS) 0 L_weqHeadS_0 := by intro k x; kernel_rfl
theorem t_weqHeadS : ∀ k x, runF tt (alook N_weqHeadS) k Tryz.f292 S_weqHeadS.ps S_weqHeadS.res (alook L_weqHeadS) x = S_weqHeadS.F k x := by intro k x; kernel_rfl
def L_wtoEntryS_0 : LSpec (denRs (S_wtoEntryS.res ++ outM S_wtoEntryS.ps)) := .mk [(0, .sh (.slice tEntry)), (3, .own tEntry true), (4, .sh i64)] [(3, .own tEntry true)] [] fun k x => wtoEntryS_l0 k x.1 x.2.1 x.2.2
def L_wtoEntryS : List (Nat × LSpec (denRs (S_wtoEntryS.res ++ outM S_wtoEntryS.ps))) := [(0, L_wtoEntryS_0)]
def N_wtoEntryS : List (Nat × Sig) := [(354, S_wtoEntry)]
theorem r_wtoEntryS_0 : ∀ k, runL tt (alook N_wtoEntryS) k Tryz.f288 S_wtoEntryS.ps S_wtoEntryS.res (alook L_wtoEntryS) 0 L_wtoEntryS_0 := by intro k x; kernel_rfl
theorem t_wtoEntryS : ∀ k x, runF tt (alook N_wtoEntryS) k Tryz.f288 S_wtoEntryS.ps S_wtoEntryS.res (alook L_wtoEntryS) x = S_wtoEntryS.F k x := by intro k x; kernel_rfl
def L_sInclSame : List (Nat × LSpec (denRs (S_sInclSame.res ++ outM S_sInclSame.ps))) := []
def N_sInclSame : List (Nat × Sig) := [(309, S_sSameBytes), (346, S_sTreeSame)]
theorem t_sInclSame : ∀ k x, runF tt (alook N_sInclSame) k Tryz.f278 S_sInclSame.ps S_sInclSame.res (alook L_sInclSame) x = S_sInclSame.F k x := by intro k x; kernel_rfl
def L_sVoteSame : List (Nat × LSpec (denRs (S_sVoteSame.res ++ outM S_sVoteSame.ps))) := []
def N_sVoteSame : List (Nat × Sig) := [(309, S_sSameBytes)]
theorem t_sVoteSame : ∀ k x, runF tt (alook N_sVoteSame) k Tryz.f272 S_sVoteSame.ps S_sVoteSame.res (alook L_sVoteSame) x = S_sVoteSame.F k x := by intro k x; kernel_rfl
def L_wszHeadS_0 : LSpec (denRs (S_wszHeadS.res ++ outM S_wszHeadS.ps)) := .mkR [(0, .sh (.slice tHead)), (1, .sh i64), (5, .sh i64)] [(1, .sh i64)] [] fun k x => wszHeadS_l0 k x.1 x.2.1 x.2.2
def L_wszHeadS : List (Nat × LSpec (denRs (S_wszHeadS.res ++ outM S_wszHeadS.ps))) := [(0, L_wszHeadS_0)]
def N_wszHeadS : List (Nat × Sig) := [(161, S_wszHead)]
theorem r_wszHeadS_0 : ∀ k, runL tt (alook N_wszHeadS) k Tryz.f270 S_wszHeadS.ps S_wszHeadS.res (alook L_wszHeadS) 0 L_wszHeadS_0 := by intro k x; kernel_rfl
theorem t_wszHeadS : ∀ k x, runF tt (alook N_wszHeadS) k Tryz.f270 S_wszHeadS.ps S_wszHeadS.res (alook L_wszHeadS) x = S_wszHeadS.F k x := by intro k x; kernel_rfl
def L_sOfIncl : List (Nat × LSpec (denRs (S_sOfIncl.res ++ outM S_sOfIncl.ps))) := []
def N_sOfIncl : List (Nat × Sig) := [(343, S_sl16Incl)]
theorem t_sOfIncl : ∀ k x, runF tt (alook N_sOfIncl) k Tryz.f259 S_sOfIncl.ps S_sOfIncl.res (alook L_sOfIncl) x = S_sOfIncl.F k x := by intro k x; kernel_rfl
def L_sOfTc : List (Nat × LSpec (denRs (S_sOfTc.res ++ outM S_sOfTc.ps))) := []
def N_sOfTc : List (Nat × Sig) := [(340, S_sl15Copy)]
theorem t_sOfTc : ∀ k x, runF tt (alook N_sOfTc) k Tryz.f255 S_sOfTc.ps S_sOfTc.res (alook L_sOfTc) x = S_sOfTc.F k x := by intro k x; kernel_rfl
def L_sOfQc : List (Nat × LSpec (denRs (S_sOfQc.res ++ outM S_sOfQc.ps))) := []
def N_sOfQc : List (Nat × Sig) := [(333, S_sl12Copy)]
theorem t_sOfQc : ∀ k x, runF tt (alook N_sOfQc) k Tryz.f249 S_sOfQc.ps S_sOfQc.res (alook L_sOfQc) x = S_sOfQc.F k x := by intro k x; kernel_rfl
def L_iFrameData : List (Nat × LSpec (denRs (S_iFrameData.res ++ outM S_iFrameData.ps))) := []
def N_iFrameData : List (Nat × Sig) := [(108, S_icopyBytes), (148, S_iFrameAt)]
theorem t_iFrameData : ∀ k x, runF tt (alook N_iFrameData) k Tryz.f248 S_iFrameData.ps S_iFrameData.res (alook L_iFrameData) x = S_iFrameData.F k x := by intro k x; kernel_rfl
def L_sl17Kind : List (Nat × LSpec (denRs (S_sl17Kind.res ++ outM S_sl17Kind.ps))) := []
def N_sl17Kind : List (Nat × Sig) := [(271, S_sl01In)]
theorem t_sl17Kind : ∀ k x, runF tt (alook N_sl17Kind) k Tryz.f166 S_sl17Kind.ps S_sl17Kind.res (alook L_sl17Kind) x = S_sl17Kind.F k x := by intro k x; kernel_rfl
def L_sMsgSame : List (Nat × LSpec (denRs (S_sMsgSame.res ++ outM S_sMsgSame.ps))) := []
def N_sMsgSame : List (Nat × Sig) := [(272, S_sVoteSame), (273, S_sQcSame), (274, S_sHeadSame), (275, S_sBlockSame), (276, S_sTcSame), (277, S_sProofSame), (278, S_sInclSame)]
theorem t_sMsgSame : ∀ k x, runF tt (alook N_sMsgSame) k Tryz.f167 S_sMsgSame.ps S_sMsgSame.res (alook L_sMsgSame) x = S_sMsgSame.F k x := by intro k x; kernel_rfl
def L_ireader_text : List (Nat × LSpec (denRs (S_ireader_text.res ++ outM S_ireader_text.ps))) := []
def N_ireader_text : List (Nat × Sig) := [(331, S_iGetText)]
theorem t_ireader_text : ∀ k x, runF tt (alook N_ireader_text) k Tryz.f243 S_ireader_text.ps S_ireader_text.res (alook L_ireader_text) x = S_ireader_text.F k x := by intro k x; kernel_rfl
def L_iLeafHash : List (Nat × LSpec (denRs (S_iLeafHash.res ++ outM S_iLeafHash.ps))) := []
def N_iLeafHash : List (Nat × Sig) := [(130, S_iSha)]
theorem t_iLeafHash : ∀ k x, runF tt (alook N_iLeafHash) k Tryz.f224 S_iLeafHash.ps S_iLeafHash.res (alook L_iLeafHash) x = S_iLeafHash.F k x := by intro k x; kernel_rfl
def L_ireader_num : List (Nat × LSpec (denRs (S_ireader_num.res ++ outM S_ireader_num.ps))) := []
def N_ireader_num : List (Nat × Sig) := [(322, S_iGetVar)]
theorem t_ireader_num : ∀ k x, runF tt (alook N_ireader_num) k Tryz.f233 S_ireader_num.ps S_ireader_num.res (alook L_ireader_num) x = S_ireader_num.F k x := by intro k x; kernel_rfl
def L_iPathRoot : List (Nat × LSpec (denRs (S_iPathRoot.res ++ outM S_iPathRoot.ps))) := []
def N_iPathRoot : List (Nat × Sig) := [(213, S_iwithin), (227, S_iareHashes), (244, S_iPathLen), (319, S_ipathRoot)]
theorem t_iPathRoot : ∀ k x, runF tt (alook N_iPathRoot) k Tryz.f223 S_iPathRoot.ps S_iPathRoot.res (alook L_iPathRoot) x = S_iPathRoot.F k x := by intro k x; kernel_rfl
def L_iQcCode_0 : LSpec (denRs (S_iQcCode.res ++ outM S_iQcCode.ps)) := .mkR [(4, .pbox (.sh tTable)), (5, .pbox (.sh tQc)), (20, .own tVote false), (21, .sh i64), (22, .sh i64)] [(4, .pbox (.sh tTable)), (5, .pbox (.sh tQc))] [] fun k x => iQcCode_l0 k x.1 x.2.1 x.2.2.1 x.2.2.2.1 x.2.2.2.2
def L_iQcCode : List (Nat × LSpec (denRs (S_iQcCode.res ++ outM S_iQcCode.ps))) := [(0, L_iQcCode_0)]
def N_iQcCode : List (Nat × Sig) := [(94, S_ibelongs), (122, S_iQcOk), (216, S_iQcVotes), (217, S_iVoteGood), (218, S_iIsQuorum)]
theorem r_iQcCode_0 : ∀ k, runL tt (alook N_iQcCode) k Tryz.f102 S_iQcCode.ps S_iQcCode.res (alook L_iQcCode) 0 L_iQcCode_0 := by intro k x; kernel_rfl
theorem t_iQcCode : ∀ k x, runF tt (alook N_iQcCode) k Tryz.f102 S_iQcCode.ps S_iQcCode.res (alook L_iQcCode) x = S_iQcCode.F k x := by intro k x; kernel_rfl
def L_sBuildQc_0 : LSpec (denRs (S_sBuildQc.res ++ outM S_sBuildQc.ps)) := .mk [(2, .sh i64), (3, .sh i64), (4, .sh bs), (6, .pbox (.sh tLimits)), (7, .pbox (.sh tTable)), (12, .pbox (.pair (.sh i64) (.pair (.sh i64) (.pair (.own u8 false) (.pair (.own u8 false) (.pair (.own bs false) .unit)))))), (14, .pbox (.pair (.sh i64) (.pair (.sh i64) (.pair (.own u8 true) (.pair (.own u8 true) (.pair (.own bs false) .unit)))))), (39, .own i64 true), (40, .sh i64), (41, .sh i64)] [(6, .pbox (.sh tLimits)), (12, .pbox (.pair (.sh i64) (.pair (.sh i64) (.pair (.own u8 false) (.pair (.own u8 false) (.pair (.own bs false) .unit)))))), (14, .pbox (.pair (.sh i64) (.pair (.sh i64) (.pair (.own u8 true) (.pair (.own u8 true) (.pair (.own bs false) .unit))))))] [] fun k x => sBuildQc_l0 k x.1 x.2.1 x.2.2.1 x.2.2.2.1 x.2.2.2.2.1 x.2.2.2.2.2.1 x.2.2.2.2.2.2.1 x.2.2.2.2.2.2.2.1 x.2.2.2.2.2.2.2.2.1 x.2.2.2.2.2.2.2.2.2
def L_sBuildQc : List (Nat × LSpec (denRs (S_sBuildQc.res ++ outM S_sBuildQc.ps))) := [(0, L_sBuildQc_0)]
def N_sBuildQc : List (Nat × Sig) := [(199, S_sl01Copy), (201, S_sl23Goes), (303, S_sQcOk), (306, S_sBitsOk), (307, S_sBitsList), (308, S_sSignVote)]
theorem r_sBuildQc_0 : ∀ k, runL tt (alook N_sBuildQc) k Tryz.f205 S_sBuildQc.ps S_sBuildQc.res (alook L_sBuildQc) 0 L_sBuildQc_0 := by intro k x; kernel_rfl
theorem t_sBuildQc : ∀ k x, runF tt (alook N_sBuildQc) k Tryz.f205 S_sBuildQc.ps S_sBuildQc.res (alook L_sBuildQc) x = S_sBuildQc.F k x := by intro k x; kernel_rfl
def L_iOfProof : List (Nat × LSpec (denRs (S_iOfProof.res ++ outM S_iOfProof.ps))) := []
def N_iOfProof : List (Nat × Sig) := [(107, S_iProof_copied)]
theorem t_iOfProof : ∀ k x, runF tt (alook N_iOfProof) k Tryz.f20 S_iOfProof.ps S_iOfProof.res (alook L_iOfProof) x = S_iOfProof.F k x := by intro k x; kernel_rfl
def L_iPutQc : List (Nat × LSpec (denRs (S_iPutQc.res ++ outM S_iPutQc.ps))) := []
def N_iPutQc : List (Nat × Sig) := [(108, S_icopyBytes), (122, S_iQcOk), (123, S_iwriter_qc)]
theorem t_iPutQc : ∀ k x, runF tt (alook N_iPutQc) k Tryz.f32 S_iPutQc.ps S_iPutQc.res (alook L_iPutQc) x = S_iPutQc.F k x := by intro k x; kernel_rfl
def L_iPutBlock_0 : LSpec (denRs (S_iPutBlock.res ++ outM S_iPutBlock.ps)) := .mk [(8, .pbox (.pair (.own u8 false) .unit)), (29, .sh (.slice bs)), (30, .sh i64), (31, .sh i64)] [(8, .pbox (.pair (.own u8 false) .unit))] [] fun k x => iPutBlock_l0 k x.1 x.2.1 x.2.2.1 x.2.2.2
def L_iPutBlock : List (Nat × LSpec (denRs (S_iPutBlock.res ++ outM S_iPutBlock.ps))) := [(0, L_iPutBlock_0)]
def N_iPutBlock : List (Nat × Sig) := [(108, S_icopyBytes), (118, S_iwriter_num), (127, S_iwriter_head), (131, S_iBlockOk), (132, S_iPutText)]
theorem r_iPutBlock_0 : ∀ k, runL tt (alook N_iPutBlock) k Tryz.f38 S_iPutBlock.ps S_iPutBlock.res (alook L_iPutBlock) 0 L_iPutBlock_0 := by intro k x; kernel_rfl
theorem t_iPutBlock : ∀ k x, runF tt (alook N_iPutBlock) k Tryz.f38 S_iPutBlock.ps S_iPutBlock.res (alook L_iPutBlock) x = S_iPutBlock.F k x := by intro k x; kernel_rfl
def L_iKindName : List (Nat × LSpec (denRs (S_iKindName.res ++ outM S_iKindName.ps))) := []
def N_iKindName : List (Nat × Sig) := [(154, S_inameAt)]
theorem t_iKindName : ∀ k x, runF tt (alook N_iKindName) k Tryz.f61 S_iKindName.ps S_iKindName.res (alook L_iKindName) x = S_iKindName.F k x := by intro k x; kernel_rfl
def L_iGetVote : List (Nat × LSpec (denRs (S_iGetVote.res ++ outM S_iGetVote.ps))) := []
def N_iGetVote : List (Nat × Sig) := [(120, S_iget_implVote)]
theorem t_iGetVote : ∀ k x, runF tt (alook N_iGetVote) k Tryz.f30 S_iGetVote.ps S_iGetVote.res (alook L_iGetVote) x = S_iGetVote.F k x := by intro k x; kernel_rfl
def L_iget_implQc : List (Nat × LSpec (denRs (S_iget_implQc.res ++ outM S_iget_implQc.ps))) := []
def N_iget_implQc : List (Nat × Sig) := [(125, S_ireadQc), (149, S_iLimitsOk)]
theorem t_iget_implQc : ∀ k x, runF tt (alook N_iget_implQc) k Tryz.f124 S_iget_implQc.ps S_iget_implQc.res (alook L_iget_implQc) x = S_iget_implQc.F k x := by intro k x; kernel_rfl
def L_iGetBlock : List (Nat × LSpec (denRs (S_iGetBlock.res ++ outM S_iGetBlock.ps))) := []
def N_iGetBlock : List (Nat × Sig) := [(133, S_iget_implBlock)]
theorem t_iGetBlock : ∀ k x, runF tt (alook N_iGetBlock) k Tryz.f39 S_iGetBlock.ps S_iGetBlock.res (alook L_iGetBlock) x = S_iGetBlock.F k x := by intro k x; kernel_rfl
def L_iget_implTc : List (Nat × LSpec (denRs (S_iget_implTc.res ++ outM S_iget_implTc.ps))) := []
def N_iget_implTc : List (Nat × Sig) := [(137, S_ireadTc), (149, S_iLimitsOk)]
theorem t_iget_implTc : ∀ k x, runF tt (alook N_iget_implTc) k Tryz.f136 S_iget_implTc.ps S_iget_implTc.res (alook L_iget_implTc) x = S_iget_implTc.F k x := by intro k x; kernel_rfl
def L_ireadIncl_0 : LSpec (denRs (S_ireadIncl.res ++ outM S_ireadIncl.ps)) := .mk [(1, .pbox (.sh tl01Cur)), (4, .pbox (.pair (.sh i64) (.pair (.sh i64) (.pair (.sh i64) (.pair (.own u8 false) (.pair (.own bs false) .unit)))))), (5, .pbox (.pair (.sh i64) (.pair (.sh i64) (.pair (.sh i64) (.pair (.own u8 false) (.pair (.own bs false) .unit)))))), (42, .sh i64), (43, .sh i64)] [(1, .pbox (.sh tl01Cur)), (4, .pbox (.pair (.sh i64) (.pair (.sh i64) (.pair (.sh i64) (.pair (.own u8 false) (.pair (.own bs false) .unit)))))), (5, .pbox (.pair (.sh i64) (.pair (.sh i64) (.pair (.sh i64) (.pair (.own u8 false) (.pair (.own bs false) .unit))))))] [] fun k x => ireadIncl_l0 k x.1 x.2.1 x.2.2.1 x.2.2.2.1 x.2.2.2.2
def L_ireadIncl : List (Nat × LSpec (denRs (S_ireadIncl.res ++ outM S_ireadIncl.ps))) := [(0, L_ireadIncl_0)]
def N_ireadIncl : List (Nat × Sig) := [(233, S_ireader_num), (234, S_ireader_hash), (235, S_ireader_below), (238, S_ireader_must), (243, S_ireader_text), (244, S_iPathLen)]
theorem r_ireadIncl_0 : ∀ k, runL tt (alook N_ireadIncl) k Tryz.f143 S_ireadIncl.ps S_ireadIncl.res (alook L_ireadIncl) 0 L_ireadIncl_0 := by intro k x; kernel_rfl
theorem t_ireadIncl : ∀ k x, runF tt (alook N_ireadIncl) k Tryz.f143 S_ireadIncl.ps S_ireadIncl.res (alook L_ireadIncl) x = S_ireadIncl.F k x := by intro k x; kernel_rfl
def L_iTcSame_0 : LSpec (denRs (S_iTcSame.res ++ outM S_iTcSame.ps)) := .mkR [(2, .pbox (.sh tTc)), (3, .pbox (.sh tTc)), (22, .sh i64), (23, .sh i64)] [] [] fun k x => iTcSame_l0 k x.1 x.2.1 x.2.2.1 x.2.2.2
def L_iTcSame : List (Nat × LSpec (denRs (S_iTcSame.res ++ outM S_iTcSame.ps))) := [(0, L_iTcSame_0)]
def N_iTcSame : List (Nat × Sig) := [(138, S_ientrySame)]
theorem r_iTcSame_0 : ∀ k, runL tt (alook N_iTcSame) k Tryz.f43 S_iTcSame.ps S_iTcSame.res (alook L_iTcSame) 0 L_iTcSame_0 := by intro k x; kernel_rfl
theorem t_iTcSame : ∀ k x, runF tt (alook N_iTcSame) k Tryz.f43 S_iTcSame.ps S_iTcSame.res (alook L_iTcSame) x = S_iTcSame.F k x := by intro k x; kernel_rfl
def L_sl20Pieces_0 : LSpec (denRs (S_sl20Pieces.res ++ outM S_sl20Pieces.ps)) := .mk [(0, .pbox (.sh tl01Cur)), (1, .sh bs), (5, .own bs true)] [(0, .pbox (.sh tl01Cur)), (1, .sh bs), (5, .own bs true)] [] fun k x => sl20Pieces_l0 k x.1 x.2.1 x.2.2
def L_sl20Pieces : List (Nat × LSpec (denRs (S_sl20Pieces.res ++ outM S_sl20Pieces.ps))) := [(0, L_sl20Pieces_0)]
def N_sl20Pieces : List (Nat × Sig) := [(90, S_sl01Below), (156, S_sl01Once), (199, S_sl01Copy)]
theorem r_sl20Pieces_0 : ∀ k, runL tt (alook N_sl20Pieces) k Tryz.f147 S_sl20Pieces.ps S_sl20Pieces.res (alook L_sl20Pieces) 0 L_sl20Pieces_0 := by intro k x; kernel_rfl
theorem t_sl20Pieces : ∀ k x, runF tt (alook N_sl20Pieces) k Tryz.f147 S_sl20Pieces.ps S_sl20Pieces.res (alook L_sl20Pieces) x = S_sl20Pieces.F k x := by intro k x; kernel_rfl
def L_iLightOk_0 : LSpec (denRs (S_iLightOk.res ++ outM S_iLightOk.ps)) := .mkR [(1, .pbox (.sh tLight)), (6, .sh (.slice tHead)), (7, .sh i64), (8, .sh i64)] [(1, .pbox (.sh tLight))] [] fun k x => iLightOk_l0 k x.1 x.2.1 x.2.2.1 x.2.2.2
def L_iLightOk : List (Nat × LSpec (denRs (S_iLightOk.res ++ outM S_iLightOk.ps))) := [(0, L_iLightOk_0)]
def N_iLightOk : List (Nat × Sig) := [(54, S_iPushOk), (94, S_ibelongs), (110, S_iHeadOk)]
theorem r_iLightOk_0 : ∀ k, runL tt (alook N_iLightOk) k Tryz.f100 S_iLightOk.ps S_iLightOk.res (alook L_iLightOk) 0 L_iLightOk_0 := by intro k x; kernel_rfl
theorem t_iLightOk : ∀ k x, runF tt (alook N_iLightOk) k Tryz.f100 S_iLightOk.ps S_iLightOk.res (alook L_iLightOk) x = S_iLightOk.F k x := by intro k x; kernel_rfl
def L_iTcCode_0 : LSpec (denRs (S_iTcCode.res ++ outM S_iTcCode.ps)) := .mkR [(3, .pbox (.sh tLimits)), (4, .pbox (.sh tTable)), (5, .pbox (.sh tTc)), (22, .sh (.slice tEntry)), (23, .sh i64), (24, .sh i64)] [(3, .pbox (.sh tLimits)), (4, .pbox (.sh tTable)), (5, .pbox (.sh tTc))] [] fun k x => iTcCode_l0 k x.1 x.2.1 x.2.2.1 x.2.2.2.1 x.2.2.2.2.1 x.2.2.2.2.2
def L_iTcCode : List (Nat × LSpec (denRs (S_iTcCode.res ++ outM S_iTcCode.ps))) := [(0, L_iTcCode_0)]
def N_iTcCode : List (Nat × Sig) := [(94, S_ibelongs), (135, S_iTcOk), (218, S_iIsQuorum), (219, S_iEntryGood), (220, S_iTcBits)]
theorem r_iTcCode_0 : ∀ k, runL tt (alook N_iTcCode) k Tryz.f103 S_iTcCode.ps S_iTcCode.res (alook L_iTcCode) 0 L_iTcCode_0 := by intro k x; kernel_rfl
theorem t_iTcCode : ∀ k x, runF tt (alook N_iTcCode) k Tryz.f103 S_iTcCode.ps S_iTcCode.res (alook L_iTcCode) x = S_iTcCode.F k x := by intro k x; kernel_rfl
def L_sl01New_0 : LSpec (denRs (S_sl01New.res ++ outM S_sl01New.ps)) := .mk [(0, .sh bs), (3, .sh i64), (4, .sh i64)] [(0, .sh bs), (3, .sh i64)] [] fun k x => sl01New_l0 k x.1 x.2.1 x.2.2
def L_sl01New : List (Nat × LSpec (denRs (S_sl01New.res ++ outM S_sl01New.ps))) := [(0, L_sl01New_0)]
def N_sl01New : List (Nat × Sig) := []
theorem r_sl01New_0 : ∀ k, runL tt (alook N_sl01New) k Tryz.f87 S_sl01New.ps S_sl01New.res (alook L_sl01New) 0 L_sl01New_0 := by intro k x; kernel_rfl
theorem t_sl01New : ∀ k x, runF tt (alook N_sl01New) k Tryz.f87 S_sl01New.ps S_sl01New.res (alook L_sl01New) x = S_sl01New.F k x := by intro k x; kernel_rfl
def L_wtoMsg : List (Nat × LSpec (denRs (S_wtoMsg.res ++ outM S_wtoMsg.ps))) := []
def N_wtoMsg : List (Nat × Sig) := [(170, S_wtoVote), (171, S_wtoQc), (172, S_wtoHead), (173, S_wtoBlock), (174, S_wtoTc), (175, S_wtoProof), (176, S_wtoIncl)]
theorem t_wtoMsg : ∀ k x, runF tt (alook N_wtoMsg) k Tryz.f69 S_wtoMsg.ps S_wtoMsg.res (alook L_wtoMsg) x = S_wtoMsg.F k x := by intro k x; kernel_rfl
def L_wszMsgS_0 : LSpec (denRs (S_wszMsgS.res ++ outM S_wszMsgS.ps)) := .mkR [(0, .sh (.slice tMsg)), (1, .sh i64), (5, .sh i64)] [(1, .sh i64)] [] fun k x => wszMsgS_l0 k x.1 x.2.1 x.2.2
def L_wszMsgS : List (Nat × LSpec (denRs (S_wszMsgS.res ++ outM S_wszMsgS.ps))) := [(0, L_wszMsgS_0)]
def N_wszMsgS : List (Nat × Sig) := [(66, S_wszMsg)]
theorem r_wszMsgS_0 : ∀ k, runL tt (alook N_wszMsgS) k Tryz.f82 S_wszMsgS.ps S_wszMsgS.res (alook L_wszMsgS) 0 L_wszMsgS_0 := by intro k x; kernel_rfl
theorem t_wszMsgS : ∀ k x, runF tt (alook N_wszMsgS) k Tryz.f82 S_wszMsgS.ps S_wszMsgS.res (alook L_wszMsgS) x = S_wszMsgS.F k x := by intro k x; kernel_rfl
def L_iMsgOk : List (Nat × LSpec (denRs (S_iMsgOk.res ++ outM S_iMsgOk.ps))) := []
def N_iMsgOk : List (Nat × Sig) := [(60, S_iMsgSame), (153, S_iMsg_put), (158, S_iMsg_alone)]
theorem t_iMsgOk : ∀ k x, runF tt (alook N_iMsgOk) k Tryz.f64 S_iMsgOk.ps S_iMsgOk.res (alook L_iMsgOk) x = S_iMsgOk.F k x := by intro k x; kernel_rfl
def L_iEncode : List (Nat × LSpec (denRs (S_iEncode.res ++ outM S_iEncode.ps))) := []
def N_iEncode : List (Nat × Sig) := [(64, S_iMsgOk), (153, S_iMsg_put)]
theorem t_iEncode : ∀ k x, runF tt (alook N_iEncode) k Tryz.f58 S_iEncode.ps S_iEncode.res (alook L_iEncode) x = S_iEncode.F k x := by intro k x; kernel_rfl
def L_sMsgSize : List (Nat × LSpec (denRs (S_sMsgSize.res ++ outM S_sMsgSize.ps))) := []
def N_sMsgSize : List (Nat × Sig) := [(75, S_sEncode)]
theorem t_sMsgSize : ∀ k x, runF tt (alook N_sMsgSize) k Tryz.f71 S_sMsgSize.ps S_sMsgSize.res (alook L_sMsgSize) x = S_sMsgSize.F k x := by intro k x; kernel_rfl
def L_sMakeData : List (Nat × LSpec (denRs (S_sMakeData.res ++ outM S_sMakeData.ps))) := []
def N_sMakeData : List (Nat × Sig) := [(75, S_sEncode), (87, S_sl01New), (90, S_sl01Below), (155, S_sl17Draw), (156, S_sl01Once), (157, S_sl01Bend)]
theorem t_sMakeData : ∀ k x, runF tt (alook N_sMakeData) k Tryz.f62 S_sMakeData.ps S_sMakeData.res (alook L_sMakeData) x = S_sMakeData.F k x := by intro k x; kernel_rfl
def L_sMakeNum : List (Nat × LSpec (denRs (S_sMakeNum.res ++ outM S_sMakeNum.ps))) := []
def N_sMakeNum : List (Nat × Sig) := [(87, S_sl01New), (90, S_sl01Below)]
theorem t_sMakeNum : ∀ k x, runF tt (alook N_sMakeNum) k Tryz.f28 S_sMakeNum.ps S_sMakeNum.res (alook L_sMakeNum) x = S_sMakeNum.F k x := by intro k x; kernel_rfl
def L_sMakeLimits : List (Nat × LSpec (denRs (S_sMakeLimits.res ++ outM S_sMakeLimits.ps))) := []
def N_sMakeLimits : List (Nat × Sig) := [(87, S_sl01New), (115, S_sl10Draw)]
theorem t_sMakeLimits : ∀ k x, runF tt (alook N_sMakeLimits) k Tryz.f26 S_sMakeLimits.ps S_sMakeLimits.res (alook L_sMakeLimits) x = S_sMakeLimits.F k x := by intro k x; kernel_rfl
def L_iFirstHead : List (Nat × LSpec (denRs (S_iFirstHead.res ++ outM S_iFirstHead.ps))) := []
def N_iFirstHead : List (Nat × Sig) := [(94, S_ibelongs), (108, S_icopyBytes), (109, S_iBitsNew), (110, S_iHeadOk)]
theorem t_iFirstHead : ∀ k x, runF tt (alook N_iFirstHead) k Tryz.f21 S_iFirstHead.ps S_iFirstHead.res (alook L_iFirstHead) x = S_iFirstHead.F k x := by intro k x; kernel_rfl
def L_wFnSkip_0 : LSpec (denRs (S_wFnSkip.res ++ outM S_wFnSkip.ps)) := .mkR [(3, .pbox (.sh tLimits)), (4, .sh bs), (6, .sh i64), (7, .sh i64), (23, .own tEvent false), (24, .sh i64), (25, .sh i64)] [(4, .sh bs), (6, .sh i64)] [] fun k x => wFnSkip_l0 k x.1 x.2.1 x.2.2.1 x.2.2.2.1 x.2.2.2.2.1 x.2.2.2.2.2.1 x.2.2.2.2.2.2
def L_wFnSkip : List (Nat × LSpec (denRs (S_wFnSkip.res ++ outM S_wFnSkip.ps))) := [(0, L_wFnSkip_0)]
def N_wFnSkip : List (Nat × Sig) := [(26, S_sMakeLimits), (50, S_iMsgSize), (51, S_sMakeStream), (56, S_iParse), (81, S_iSkipped)]
theorem r_wFnSkip_0 : ∀ k, runL tt (alook N_wFnSkip) k Tryz.f13 S_wFnSkip.ps S_wFnSkip.res (alook L_wFnSkip) 0 L_wFnSkip_0 := by intro k x; kernel_rfl
theorem t_wFnSkip : ∀ k x, runF tt (alook N_wFnSkip) k Tryz.f13 S_wFnSkip.ps S_wFnSkip.res (alook L_wFnSkip) x = S_wFnSkip.F k x := by intro k x; kernel_rfl
def L_wFnChunk : List (Nat × LSpec (denRs (S_wFnChunk.res ++ outM S_wFnChunk.ps))) := []
def N_wFnChunk : List (Nat × Sig) := [(26, S_sMakeLimits), (51, S_sMakeStream), (52, S_iFeedAll), (53, S_sMakePieces), (54, S_iPushOk), (55, S_iEventsSame), (56, S_iParse), (57, S_iClose)]
theorem t_wFnChunk : ∀ k x, runF tt (alook N_wFnChunk) k Tryz.f5 S_wFnChunk.ps S_wFnChunk.res (alook L_wFnChunk) x = S_wFnChunk.F k x := by intro k x; kernel_rfl
end Go.Ev.G
