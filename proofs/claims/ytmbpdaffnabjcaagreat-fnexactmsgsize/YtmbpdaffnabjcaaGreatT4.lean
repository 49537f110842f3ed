/- The functions run in the evaluator as their plain functions say. No condition. -/
import Derived.Test.YtmbpdaffnabjcaaGreatS
set_option linter.unusedVariables false
set_option linter.unusedSimpArgs false
set_option linter.unusedSectionVars false
/- Proofs: printed by gen.py. -/
namespace Go.Ev.G
open Go.Ev Go.Proofs
set_option linter.unusedVariables false
def L_sl04Word : List (Nat × LSpec (denRs (S_sl04Word.res ++ outM S_sl04Word.ps))) := []
def N_sl04Word : List (Nat × Sig) := [(271, S_sl01In)]
theorem t_sl04Word : ∀ k x, runF tt (alook N_sl04Word) k Tryz.f378 S_sl04Word.ps S_sl04Word.res (alook L_sl04Word) x = S_sl04Word.F k x := by intro k x; kernel_rfl
def L_sShaBlock_0 : LSpec (denRs (S_sShaBlock.res ++ outM S_sShaBlock.ps)) := .mkR [(0, .sh is), (1, .sh bs), (31, .sh is), (32, .sh i64), (33, .sh i64)] [(0, .sh is), (1, .sh bs)] [] fun k x => sShaBlock_l0 k x.1 x.2.1 x.2.2.1 x.2.2.2.1 x.2.2.2.2
def L_sShaBlock_2 : LSpec (denRs (S_sShaBlock.res ++ outM S_sShaBlock.ps)) := .mk [(0, .sh is), (1, .sh bs), (7, .own i64 true), (8, .sh i64)] [(0, .sh is), (7, .own i64 true)] [] fun k x => sShaBlock_l2 k x.1 x.2.1 x.2.2.1 x.2.2.2
def L_sShaBlock_4 : LSpec (denRs (S_sShaBlock.res ++ outM S_sShaBlock.ps)) := .mk [(0, .sh is), (7, .own i64 true), (9, .sh i64)] [(0, .sh is), (7, .own i64 true)] [] fun k x => sShaBlock_l4 k x.1 x.2.1 x.2.2
def L_sShaBlock_6 : LSpec (denRs (S_sShaBlock.res ++ outM S_sShaBlock.ps)) := .mk [(0, .sh is), (7, .own i64 true), (14, .own i64 true), (15, .own i64 true), (16, .sh i64)] [(0, .sh is), (15, .own i64 true)] [] fun k x => sShaBlock_l6 k x.1 x.2.1 x.2.2.1 x.2.2.2.1 x.2.2.2.2
def L_sShaBlock_8 : LSpec (denRs (S_sShaBlock.res ++ outM S_sShaBlock.ps)) := .mk [(0, .sh is), (15, .own i64 true), (21, .own i64 true), (235, .sh i64), (236, .sh i64)] [(21, .own i64 true)] [] fun k x => sShaBlock_l8 k x.1 x.2.1 x.2.2.1 x.2.2.2.1 x.2.2.2.2
def L_sShaBlock : List (Nat × LSpec (denRs (S_sShaBlock.res ++ outM S_sShaBlock.ps))) := [(0, L_sShaBlock_0), (2, L_sShaBlock_2), (4, L_sShaBlock_4), (6, L_sShaBlock_6), (8, L_sShaBlock_8)]
def N_sShaBlock : List (Nat × Sig) := [(378, S_sl04Word), (379, S_sl04Turn), (380, S_sl04K)]
theorem r_sShaBlock_0 : ∀ k, runL tt (alook N_sShaBlock) k Tryz.f360 S_sShaBlock.ps S_sShaBlock.res (alook L_sShaBlock) 0 L_sShaBlock_0 := by intro k x; kernel_rfl
theorem r_sShaBlock_2 : ∀ k, runL tt (alook N_sShaBlock) k Tryz.f360 S_sShaBlock.ps S_sShaBlock.res (alook L_sShaBlock) 2 L_sShaBlock_2 := by intro k x; kernel_rfl
theorem r_sShaBlock_4 : ∀ k, runL tt (alook N_sShaBlock) k Tryz.f360 S_sShaBlock.ps S_sShaBlock.res (alook L_sShaBlock) 4 L_sShaBlock_4 := by intro k x; kernel_rfl
theorem r_sShaBlock_6 : ∀ k, runL tt (alook N_sShaBlock) k Tryz.f360 S_sShaBlock.ps S_sShaBlock.res (alook L_sShaBlock) 6 L_sShaBlock_6 := by intro k x; kernel_rfl
theorem r_sShaBlock_8 : ∀ k, runL tt (alook N_sShaBlock) k Tryz.f360 S_sShaBlock.ps S_sShaBlock.res (alook L_sShaBlock) 8 L_sShaBlock_8 := by intro k x; kernel_rfl
theorem t_sShaBlock : ∀ k x, runF tt (alook N_sShaBlock) k Tryz.f360 S_sShaBlock.ps S_sShaBlock.res (alook L_sShaBlock) x = S_sShaBlock.F k x := by intro k x; kernel_rfl
def L_sQcOk : List (Nat × LSpec (denRs (S_sQcOk.res ++ outM S_sQcOk.ps))) := []
def N_sQcOk : List (Nat × Sig) := [(297, S_sLimitsOk), (301, S_sl01Num), (302, S_sl07Hash), (306, S_sBitsOk), (335, S_sBitsCount), (357, S_sl08Hashes)]
theorem t_sQcOk : ∀ k x, runF tt (alook N_sQcOk) k Tryz.f303 S_sQcOk.ps S_sQcOk.res (alook L_sQcOk) x = S_sQcOk.F k x := by intro k x; kernel_rfl
def L_sBlockOk_0 : LSpec (denRs (S_sBlockOk.res ++ outM S_sBlockOk.ps)) := .mkR [(2, .pbox (.sh tLimits)), (3, .pbox (.sh tBlock)), (21, .sh (.slice bs)), (22, .sh i64), (23, .sh i64)] [(3, .pbox (.sh tBlock))] [] fun k x => sBlockOk_l0 k x.1 x.2.1 x.2.2.1 x.2.2.2.1 x.2.2.2.2
def L_sBlockOk : List (Nat × LSpec (denRs (S_sBlockOk.res ++ outM S_sBlockOk.ps))) := [(0, L_sBlockOk_0)]
def N_sBlockOk : List (Nat × Sig) := [(202, S_sHeadOk), (309, S_sSameBytes), (370, S_sTreeRoot)]
theorem r_sBlockOk_0 : ∀ k, runL tt (alook N_sBlockOk) k Tryz.f349 S_sBlockOk.ps S_sBlockOk.res (alook L_sBlockOk) 0 L_sBlockOk_0 := by intro k x; kernel_rfl
theorem t_sBlockOk : ∀ k x, runF tt (alook N_sBlockOk) k Tryz.f349 S_sBlockOk.ps S_sBlockOk.res (alook L_sBlockOk) x = S_sBlockOk.F k x := by intro k x; kernel_rfl
def L_sl01Byte : List (Nat × LSpec (denRs (S_sl01Byte.res ++ outM S_sl01Byte.ps))) := []
def N_sl01Byte : List (Nat × Sig) := []
theorem t_sl01Byte : ∀ k x, runF tt (alook N_sl01Byte) k Tryz.f203 S_sl01Byte.ps S_sl01Byte.res (alook L_sl01Byte) x = S_sl01Byte.F k x := by intro k x; kernel_rfl
def L_sPutHead : List (Nat × LSpec (denRs (S_sPutHead.res ++ outM S_sPutHead.ps))) := []
def N_sPutHead : List (Nat × Sig) := [(202, S_sHeadOk), (280, S_sPutQc), (348, S_sl11Num)]
theorem t_sPutHead : ∀ k x, runF tt (alook N_sPutHead) k Tryz.f281 S_sPutHead.ps S_sPutHead.res (alook L_sPutHead) x = S_sPutHead.F k x := by intro k x; kernel_rfl
def L_sl13Chain_0 : LSpec (denRs (S_sl13Chain.res ++ outM S_sl13Chain.ps)) := .mk [(0, .pbox (.sh tl01Cur)), (2, .sh i64), (4, .pbox (.sh tLimits)), (7, .own tHead true)] [(0, .pbox (.sh tl01Cur)), (7, .own tHead true)] [] fun k x => sl13Chain_l0 k x.1 x.2.1 x.2.2.1 x.2.2.2
def L_sl13Chain : List (Nat × LSpec (denRs (S_sl13Chain.res ++ outM S_sl13Chain.ps))) := [(0, L_sl13Chain_0)]
def N_sl13Chain : List (Nat × Sig) := [(90, S_sl01Below), (199, S_sl01Copy), (204, S_sHeadHash), (252, S_sl13Draw)]
theorem r_sl13Chain_0 : ∀ k, runL tt (alook N_sl13Chain) k Tryz.f342 S_sl13Chain.ps S_sl13Chain.res (alook L_sl13Chain) 0 L_sl13Chain_0 := by intro k x; kernel_rfl
theorem t_sl13Chain : ∀ k x, runF tt (alook N_sl13Chain) k Tryz.f342 S_sl13Chain.ps S_sl13Chain.res (alook L_sl13Chain) x = S_sl13Chain.F k x := by intro k x; kernel_rfl
def L_iNodeHash : List (Nat × LSpec (denRs (S_iNodeHash.res ++ outM S_iNodeHash.ps))) := []
def N_iNodeHash : List (Nat × Sig) := [(130, S_iSha)]
theorem t_iNodeHash : ∀ k x, runF tt (alook N_iNodeHash) k Tryz.f330 S_iNodeHash.ps S_iNodeHash.res (alook L_iNodeHash) x = S_iNodeHash.F k x := by intro k x; kernel_rfl
def L_ireader_raw : List (Nat × LSpec (denRs (S_ireader_raw.res ++ outM S_ireader_raw.ps))) := []
def N_ireader_raw : List (Nat × Sig) := [(325, S_iGetRaw)]
theorem t_ireader_raw : ∀ k x, runF tt (alook N_ireader_raw) k Tryz.f323 S_ireader_raw.ps S_ireader_raw.res (alook L_ireader_raw) x = S_ireader_raw.F k x := by intro k x; kernel_rfl
def L_iareHashes_0 : LSpec (denRs (S_iareHashes.res ++ outM S_iareHashes.ps)) := .mkR [(5, .sh (.slice bs)), (6, .sh i64), (7, .sh i64)] [] [] fun k x => iareHashes_l0 k x.1 x.2.1 x.2.2
def L_iareHashes : List (Nat × LSpec (denRs (S_iareHashes.res ++ outM S_iareHashes.ps))) := [(0, L_iareHashes_0)]
def N_iareHashes : List (Nat × Sig) := []
theorem r_iareHashes_0 : ∀ k, runL tt (alook N_iareHashes) k Tryz.f227 S_iareHashes.ps S_iareHashes.res (alook L_iareHashes) 0 L_iareHashes_0 := by intro k x; kernel_rfl
theorem t_iareHashes : ∀ k x, runF tt (alook N_iareHashes) k Tryz.f227 S_iareHashes.ps S_iareHashes.res (alook L_iareHashes) x = S_iareHashes.F k x := by intro k x; kernel_rfl
def L_iQcOk : List (Nat × LSpec (denRs (S_iQcOk.res ++ outM S_iQcOk.ps))) := []
def N_iQcOk : List (Nat × Sig) := [(149, S_iLimitsOk), (150, S_iisNum), (210, S_iBitsOk), (227, S_iareHashes), (236, S_iBitsCount)]
theorem t_iQcOk : ∀ k x, runF tt (alook N_iQcOk) k Tryz.f122 S_iQcOk.ps S_iQcOk.res (alook L_iQcOk) x = S_iQcOk.F k x := by intro k x; kernel_rfl
def L_iwriter_num : List (Nat × LSpec (denRs (S_iwriter_num.res ++ outM S_iwriter_num.ps))) := []
def N_iwriter_num : List (Nat × Sig) := [(232, S_iPutVar)]
theorem t_iwriter_num : ∀ k x, runF tt (alook N_iwriter_num) k Tryz.f118 S_iwriter_num.ps S_iwriter_num.res (alook L_iwriter_num) x = S_iwriter_num.F k x := by intro k x; kernel_rfl
def L_iwriter_head : List (Nat × LSpec (denRs (S_iwriter_head.res ++ outM S_iwriter_head.ps))) := []
def N_iwriter_head : List (Nat × Sig) := [(118, S_iwriter_num), (119, S_iwriter_raw), (123, S_iwriter_qc)]
theorem t_iwriter_head : ∀ k x, runF tt (alook N_iwriter_head) k Tryz.f127 S_iwriter_head.ps S_iwriter_head.res (alook L_iwriter_head) x = S_iwriter_head.F k x := by intro k x; kernel_rfl
def L_iTableOk_0 : LSpec (denRs (S_iTableOk.res ++ outM S_iTableOk.ps)) := .mkR [(1, .pbox (.sh tTable)), (6, .sh (.slice tPush)), (7, .sh i64), (8, .sh i64)] [(1, .pbox (.sh tTable))] [] fun k x => iTableOk_l0 k x.1 x.2.1 x.2.2.1 x.2.2.2
def L_iTableOk : List (Nat × LSpec (denRs (S_iTableOk.res ++ outM S_iTableOk.ps))) := [(0, L_iTableOk_0)]
def N_iTableOk : List (Nat × Sig) := [(213, S_iwithin)]
theorem r_iTableOk_0 : ∀ k, runL tt (alook N_iTableOk) k Tryz.f209 S_iTableOk.ps S_iTableOk.res (alook L_iTableOk) 0 L_iTableOk_0 := by intro k x; kernel_rfl
theorem t_iTableOk : ∀ k x, runF tt (alook N_iTableOk) k Tryz.f209 S_iTableOk.ps S_iTableOk.res (alook L_iTableOk) x = S_iTableOk.F k x := by intro k x; kernel_rfl
def L_sl01Top : List (Nat × LSpec (denRs (S_sl01Top.res ++ outM S_sl01Top.ps))) := []
def N_sl01Top : List (Nat × Sig) := []
theorem t_sl01Top : ∀ k x, runF tt (alook N_sl01Top) k Tryz.f310 S_sl01Top.ps S_sl01Top.res (alook L_sl01Top) x = S_sl01Top.F k x := by intro k x; kernel_rfl
def L_sCrc : List (Nat × LSpec (denRs (S_sCrc.res ++ outM S_sCrc.ps))) := []
def N_sCrc : List (Nat × Sig) := [(356, S_sCrcMore)]
theorem t_sCrc : ∀ k x, runF tt (alook N_sCrc) k Tryz.f298 S_sCrc.ps S_sCrc.res (alook L_sCrc) x = S_sCrc.F k x := by intro k x; kernel_rfl
def L_iQc_copied : List (Nat × LSpec (denRs (S_iQc_copied.res ++ outM S_iQc_copied.ps))) := []
def N_iQc_copied : List (Nat × Sig) := [(108, S_icopyBytes), (320, S_icopyList)]
theorem t_iQc_copied : ∀ k x, runF tt (alook N_iQc_copied) k Tryz.f225 S_iQc_copied.ps S_iQc_copied.res (alook L_iQc_copied) x = S_iQc_copied.F k x := by intro k x; kernel_rfl
def L_iPutFix_0 : LSpec (denRs (S_iPutFix.res ++ outM S_iPutFix.ps)) := .mk [(1, .sh i64), (8, .own u8 true), (26, .sh i64), (27, .sh i64)] [(8, .own u8 true)] [] fun k x => iPutFix_l0 k x.1 x.2.1 x.2.2.1 x.2.2.2
def L_iPutFix : List (Nat × LSpec (denRs (S_iPutFix.res ++ outM S_iPutFix.ps))) := [(0, L_iPutFix_0)]
def N_iPutFix : List (Nat × Sig) := [(108, S_icopyBytes), (213, S_iwithin)]
theorem r_iPutFix_0 : ∀ k, runL tt (alook N_iPutFix) k Tryz.f293 S_iPutFix.ps S_iPutFix.res (alook L_iPutFix) 0 L_iPutFix_0 := by intro k x; kernel_rfl
theorem t_iPutFix : ∀ k x, runF tt (alook N_iPutFix) k Tryz.f293 S_iPutFix.ps S_iPutFix.res (alook L_iPutFix) x = S_iPutFix.F k x := by intro k x; kernel_rfl
def L_wtoHeadS_0 : LSpec (denRs (S_wtoHeadS.res ++ outM S_wtoHeadS.ps)) := .mk [(0, .sh (.slice tHead)), (3, .own tHead true), (4, .sh i64)] [(3, .own tHead true)] [] fun k x => wtoHeadS_l0 k x.1 x.2.1 x.2.2
def L_wtoHeadS : List (Nat × LSpec (denRs (S_wtoHeadS.res ++ outM S_wtoHeadS.ps))) := [(0, L_wtoHeadS_0)]
def N_wtoHeadS : List (Nat × Sig) := [(172, S_wtoHead)]
theorem r_wtoHeadS_0 : ∀ k, runL tt (alook N_wtoHeadS) k Tryz.f289 S_wtoHeadS.ps S_wtoHeadS.res (alook L_wtoHeadS) 0 L_wtoHeadS_0 := by intro k x; kernel_rfl
theorem t_wtoHeadS : ∀ k x, runF tt (alook N_wtoHeadS) k Tryz.f289 S_wtoHeadS.ps S_wtoHeadS.res (alook L_wtoHeadS) x = S_wtoHeadS.F k x := by intro k x; kernel_rfl
def L_sPutVote : List (Nat × LSpec (denRs (S_sPutVote.res ++ outM S_sPutVote.ps))) := []
def N_sPutVote : List (Nat × Sig) := [(347, S_sVoteOk), (348, S_sl11Num)]
theorem t_sPutVote : ∀ k x, runF tt (alook N_sPutVote) k Tryz.f279 S_sPutVote.ps S_sPutVote.res (alook L_sPutVote) x = S_sPutVote.F k x := by intro k x; kernel_rfl
def L_sHeadSame : List (Nat × LSpec (denRs (S_sHeadSame.res ++ outM S_sHeadSame.ps))) := []
def N_sHeadSame : List (Nat × Sig) := [(273, S_sQcSame), (309, S_sSameBytes)]
theorem t_sHeadSame : ∀ k x, runF tt (alook N_sHeadSame) k Tryz.f274 S_sHeadSame.ps S_sHeadSame.res (alook L_sHeadSame) x = S_sHeadSame.F k x := by intro k x; kernel_rfl
def L_wszHead : List (Nat × LSpec (denRs (S_wszHead.res ++ outM S_wszHead.ps))) := []
def N_wszHead : List (Nat × Sig) := [(160, S_wszQc), (267, S_wszByteS)]
theorem t_wszHead : ∀ k x, runF tt (alook N_wszHead) k Tryz.f161 S_wszHead.ps S_wszHead.res (alook L_wszHead) x = S_wszHead.F k x := by intro k x; kernel_rfl
def L_iOfTc : List (Nat × LSpec (denRs (S_iOfTc.res ++ outM S_iOfTc.ps))) := []
def N_iOfTc : List (Nat × Sig) := [(295, S_iTc_copied)]
theorem t_iOfTc : ∀ k x, runF tt (alook N_iOfTc) k Tryz.f265 S_iOfTc.ps S_iOfTc.res (alook L_iOfTc) x = S_iOfTc.F k x := by intro k x; kernel_rfl
def L_sl16Some_0 : LSpec (denRs (S_sl16Some.res ++ outM S_sl16Some.ps)) := .mk [(0, .pbox (.sh tl01Cur)), (4, .pbox (.pair (.sh i64) (.pair (.sh i64) (.pair (.sh i64) (.pair (.own u8 false) (.pair (.own bs false) .unit)))))), (6, .pbox (.pair (.sh i64) (.pair (.sh i64) (.pair (.sh i64) (.pair (.own u8 false) (.pair (.own bs false) .unit)))))), (7, .sh i64)] [(0, .pbox (.sh tl01Cur)), (4, .pbox (.pair (.sh i64) (.pair (.sh i64) (.pair (.sh i64) (.pair (.own u8 false) (.pair (.own bs false) .unit)))))), (6, .pbox (.pair (.sh i64) (.pair (.sh i64) (.pair (.sh i64) (.pair (.own u8 false) (.pair (.own bs false) .unit))))))] [] fun k x => sl16Some_l0 k x.1 x.2.1 x.2.2.1 x.2.2.2
def L_sl16Some : List (Nat × LSpec (denRs (S_sl16Some.res ++ outM S_sl16Some.ps))) := [(0, L_sl16Some_0)]
def N_sl16Some : List (Nat × Sig) := [(90, S_sl01Below), (91, S_sl11Hash), (184, S_sl01Bytes), (344, S_sPathLen)]
theorem r_sl16Some_0 : ∀ k, runL tt (alook N_sl16Some) k Tryz.f260 S_sl16Some.ps S_sl16Some.res (alook L_sl16Some) 0 L_sl16Some_0 := by intro k x; kernel_rfl
theorem t_sl16Some : ∀ k x, runF tt (alook N_sl16Some) k Tryz.f260 S_sl16Some.ps S_sl16Some.res (alook L_sl16Some) x = S_sl16Some.F k x := by intro k x; kernel_rfl
def L_sEncode : List (Nat × LSpec (denRs (S_sEncode.res ++ outM S_sEncode.ps))) := []
def N_sEncode : List (Nat × Sig) := [(67, S_sMsgOk), (169, S_sl17Put)]
theorem t_sEncode : ∀ k x, runF tt (alook N_sEncode) k Tryz.f75 S_sEncode.ps S_sEncode.res (alook L_sEncode) x = S_sEncode.F k x := by intro k x; kernel_rfl
def L_sPutFix_0 : LSpec (denRs (S_sPutFix.res ++ outM S_sPutFix.ps)) := .mk [(1, .sh i64), (2, .sh i64), (8, .own u8 true), (9, .sh i64)] [(8, .own u8 true)] [] fun k x => sPutFix_l0 k x.1 x.2.1 x.2.2.1 x.2.2.2
def L_sPutFix : List (Nat × LSpec (denRs (S_sPutFix.res ++ outM S_sPutFix.ps))) := [(0, L_sPutFix_0)]
def N_sPutFix : List (Nat × Sig) := [(199, S_sl01Copy), (271, S_sl01In), (310, S_sl01Top)]
theorem r_sPutFix_0 : ∀ k, runL tt (alook N_sPutFix) k Tryz.f207 S_sPutFix.ps S_sPutFix.res (alook L_sPutFix) 0 L_sPutFix_0 := by intro k x; kernel_rfl
theorem t_sPutFix : ∀ k x, runF tt (alook N_sPutFix) k Tryz.f207 S_sPutFix.ps S_sPutFix.res (alook L_sPutFix) x = S_sPutFix.F k x := by intro k x; kernel_rfl
def L_iGetBits : List (Nat × LSpec (denRs (S_iGetBits.res ++ outM S_iGetBits.ps))) := []
def N_iGetBits : List (Nat × Sig) := [(210, S_iBitsOk), (213, S_iwithin), (226, S_iBitsSize), (325, S_iGetRaw)]
theorem t_iGetBits : ∀ k x, runF tt (alook N_iGetBits) k Tryz.f237 S_iGetBits.ps S_iGetBits.res (alook L_iGetBits) x = S_iGetBits.F k x := by intro k x; kernel_rfl
def L_iCommits : List (Nat × LSpec (denRs (S_iCommits.res ++ outM S_iCommits.ps))) := []
def N_iCommits : List (Nat × Sig) := [(98, S_iProofOk), (112, S_iHead_copied)]
theorem t_iCommits : ∀ k x, runF tt (alook N_iCommits) k Tryz.f222 S_iCommits.ps S_iCommits.res (alook L_iCommits) x = S_iCommits.F k x := by intro k x; kernel_rfl
def L_iVoteGood : List (Nat × LSpec (denRs (S_iVoteGood.res ++ outM S_iVoteGood.ps))) := []
def N_iVoteGood : List (Nat × Sig) := [(31, S_iVoteSame), (212, S_iSignVote)]
theorem t_iVoteGood : ∀ k x, runF tt (alook N_iVoteGood) k Tryz.f217 S_iVoteGood.ps S_iVoteGood.res (alook L_iVoteGood) x = S_iVoteGood.F k x := by intro k x; kernel_rfl
def L_iProofCode_0 : LSpec (denRs (S_iProofCode.res ++ outM S_iProofCode.ps)) := .mkR [(3, .pbox (.sh tLimits)), (4, .pbox (.sh tTable)), (5, .pbox (.sh tProof)), (80, .sh (.slice tHead)), (81, .sh i64), (82, .sh i64)] [(3, .pbox (.sh tLimits)), (4, .pbox (.sh tTable)), (5, .pbox (.sh tProof))] [] fun k x => iProofCode_l0 k x.1 x.2.1 x.2.2.1 x.2.2.2.1 x.2.2.2.2.1 x.2.2.2.2.2
def L_iProofCode : List (Nat × LSpec (denRs (S_iProofCode.res ++ outM S_iProofCode.ps))) := [(0, L_iProofCode_0)]
def N_iProofCode : List (Nat × Sig) := [(37, S_iHeadHash), (65, S_iSameBytes), (94, S_ibelongs), (98, S_iProofOk), (102, S_iQcCode), (318, S_iChainCode)]
theorem r_iProofCode_0 : ∀ k, runL tt (alook N_iProofCode) k Tryz.f221 S_iProofCode.ps S_iProofCode.res (alook L_iProofCode) 0 L_iProofCode_0 := by intro k x; kernel_rfl
theorem t_iProofCode : ∀ k x, runF tt (alook N_iProofCode) k Tryz.f221 S_iProofCode.ps S_iProofCode.res (alook L_iProofCode) x = S_iProofCode.F k x := by intro k x; kernel_rfl
def L_weqIncl : List (Nat × LSpec (denRs (S_weqIncl.res ++ outM S_weqIncl.ps))) := []
def N_weqIncl : List (Nat × Sig) := [(76, S_weqByteS), (290, S_weqByteSS)]
theorem t_weqIncl : ∀ k x, runF tt (alook N_weqIncl) k Tryz.f183 S_weqIncl.ps S_weqIncl.res (alook L_weqIncl) x = S_weqIncl.F k x := by intro k x; kernel_rfl
def L_wtoTc : List (Nat × LSpec (denRs (S_wtoTc.res ++ outM S_wtoTc.ps))) := []
def N_wtoTc : List (Nat × Sig) := [(288, S_wtoEntryS)]
theorem t_wtoTc : ∀ k x, runF tt (alook N_wtoTc) k Tryz.f174 S_wtoTc.ps S_wtoTc.res (alook L_wtoTc) x = S_wtoTc.F k x := by intro k x; kernel_rfl
def L_wtoVote : List (Nat × LSpec (denRs (S_wtoVote.res ++ outM S_wtoVote.ps))) := []
def N_wtoVote : List (Nat × Sig) := [(286, S_wtoByteS)]
theorem t_wtoVote : ∀ k x, runF tt (alook N_wtoVote) k Tryz.f170 S_wtoVote.ps S_wtoVote.res (alook L_wtoVote) x = S_wtoVote.F k x := by intro k x; kernel_rfl
def L_wszVote : List (Nat × LSpec (denRs (S_wszVote.res ++ outM S_wszVote.ps))) := []
def N_wszVote : List (Nat × Sig) := [(267, S_wszByteS)]
theorem t_wszVote : ∀ k x, runF tt (alook N_wszVote) k Tryz.f159 S_wszVote.ps S_wszVote.res (alook L_wszVote) x = S_wszVote.F k x := by intro k x; kernel_rfl
def L_iPutVote : List (Nat × LSpec (denRs (S_iPutVote.res ++ outM S_iPutVote.ps))) := []
def N_iPutVote : List (Nat × Sig) := [(108, S_icopyBytes), (117, S_iVoteOk), (118, S_iwriter_num), (119, S_iwriter_raw)]
theorem t_iPutVote : ∀ k x, runF tt (alook N_iPutVote) k Tryz.f29 S_iPutVote.ps S_iPutVote.res (alook L_iPutVote) x = S_iPutVote.F k x := by intro k x; kernel_rfl
def L_iPutTc_0 : LSpec (denRs (S_iPutTc.res ++ outM S_iPutTc.ps)) := .mk [(8, .pbox (.pair (.own u8 false) .unit)), (29, .sh (.slice tEntry)), (30, .sh i64), (31, .sh i64)] [(8, .pbox (.pair (.own u8 false) .unit))] [] fun k x => iPutTc_l0 k x.1 x.2.1 x.2.2.1 x.2.2.2
def L_iPutTc : List (Nat × LSpec (denRs (S_iPutTc.res ++ outM S_iPutTc.ps))) := [(0, L_iPutTc_0)]
def N_iPutTc : List (Nat × Sig) := [(108, S_icopyBytes), (118, S_iwriter_num), (119, S_iwriter_raw), (135, S_iTcOk)]
theorem r_iPutTc_0 : ∀ k, runL tt (alook N_iPutTc) k Tryz.f41 S_iPutTc.ps S_iPutTc.res (alook L_iPutTc) 0 L_iPutTc_0 := by intro k x; kernel_rfl
theorem t_iPutTc : ∀ k x, runF tt (alook N_iPutTc) k Tryz.f41 S_iPutTc.ps S_iPutTc.res (alook L_iPutTc) x = S_iPutTc.F k x := by intro k x; kernel_rfl
def L_iget_implVote : List (Nat × LSpec (denRs (S_iget_implVote.res ++ outM S_iget_implVote.ps))) := []
def N_iget_implVote : List (Nat × Sig) := [(121, S_ireadVote), (149, S_iLimitsOk)]
theorem t_iget_implVote : ∀ k x, runF tt (alook N_iget_implVote) k Tryz.f120 S_iget_implVote.ps S_iget_implVote.res (alook L_iget_implVote) x = S_iget_implVote.F k x := by intro k x; kernel_rfl
def L_iGetHead : List (Nat × LSpec (denRs (S_iGetHead.res ++ outM S_iGetHead.ps))) := []
def N_iGetHead : List (Nat × Sig) := [(128, S_iget_implHead)]
theorem t_iGetHead : ∀ k x, runF tt (alook N_iGetHead) k Tryz.f36 S_iGetHead.ps S_iGetHead.res (alook L_iGetHead) x = S_iGetHead.F k x := by intro k x; kernel_rfl
def L_iget_implBlock : List (Nat × LSpec (denRs (S_iget_implBlock.res ++ outM S_iget_implBlock.ps))) := []
def N_iget_implBlock : List (Nat × Sig) := [(134, S_ireadBlock), (149, S_iLimitsOk)]
theorem t_iget_implBlock : ∀ k x, runF tt (alook N_iget_implBlock) k Tryz.f133 S_iget_implBlock.ps S_iget_implBlock.res (alook L_iget_implBlock) x = S_iget_implBlock.F k x := by intro k x; kernel_rfl
def L_ireadProof_0 : LSpec (denRs (S_ireadProof.res ++ outM S_ireadProof.ps)) := .mk [(1, .pbox (.sh tl01Cur)), (2, .pbox (.sh tLimits)), (4, .pbox (.pair (.own tHead false) (.pair (.pair (.sh i64) (.pair (.sh i64) (.pair (.own u8 false) (.pair (.own u8 false) (.pair (.own bs false) .unit))))) .unit))), (5, .pbox (.pair (.own tHead false) (.pair (.pair (.sh i64) (.pair (.sh i64) (.pair (.own u8 false) (.pair (.own u8 false) (.pair (.own bs false) .unit))))) .unit))), (6, .sh i64), (7, .sh i64)] [(1, .pbox (.sh tl01Cur)), (2, .pbox (.sh tLimits)), (4, .pbox (.pair (.own tHead false) (.pair (.pair (.sh i64) (.pair (.sh i64) (.pair (.own u8 false) (.pair (.own u8 false) (.pair (.own bs false) .unit))))) .unit))), (5, .pbox (.pair (.own tHead false) (.pair (.pair (.sh i64) (.pair (.sh i64) (.pair (.own u8 false) (.pair (.own u8 false) (.pair (.own bs false) .unit))))) .unit)))] [] fun k x => ireadProof_l0 k x.1 x.2.1 x.2.2.1 x.2.2.2.1 x.2.2.2.2.1 x.2.2.2.2.2
def L_ireadProof : List (Nat × LSpec (denRs (S_ireadProof.res ++ outM S_ireadProof.ps))) := [(0, L_ireadProof_0)]
def N_ireadProof : List (Nat × Sig) := [(125, S_ireadQc), (129, S_ireadHead), (215, S_iProof_closes), (233, S_ireader_num), (238, S_ireader_must)]
theorem r_ireadProof_0 : ∀ k, runL tt (alook N_ireadProof) k Tryz.f140 S_ireadProof.ps S_ireadProof.res (alook L_ireadProof) 0 L_ireadProof_0 := by intro k x; kernel_rfl
theorem t_ireadProof : ∀ k x, runF tt (alook N_ireadProof) k Tryz.f140 S_ireadProof.ps S_ireadProof.res (alook L_ireadProof) x = S_ireadProof.F k x := by intro k x; kernel_rfl
def L_iBlockSame : List (Nat × LSpec (denRs (S_iBlockSame.res ++ outM S_iBlockSame.ps))) := []
def N_iBlockSame : List (Nat × Sig) := [(24, S_iHeadSame), (126, S_iTreeSame)]
theorem t_iBlockSame : ∀ k x, runF tt (alook N_iBlockSame) k Tryz.f40 S_iBlockSame.ps S_iBlockSame.res (alook L_iBlockSame) x = S_iBlockSame.F k x := by intro k x; kernel_rfl
def L_iProofSame : List (Nat × LSpec (denRs (S_iProofSame.res ++ outM S_iProofSame.ps))) := []
def N_iProofSame : List (Nat × Sig) := [(34, S_iQcSame), (114, S_iheadsSame)]
theorem t_iProofSame : ∀ k x, runF tt (alook N_iProofSame) k Tryz.f46 S_iProofSame.ps S_iProofSame.res (alook L_iProofSame) x = S_iProofSame.F k x := by intro k x; kernel_rfl
def L_iMsgSame : List (Nat × LSpec (denRs (S_iMsgSame.res ++ outM S_iMsgSame.ps))) := []
def N_iMsgSame : List (Nat × Sig) := [(24, S_iHeadSame), (31, S_iVoteSame), (34, S_iQcSame), (40, S_iBlockSame), (43, S_iTcSame), (46, S_iProofSame), (49, S_iInclSame)]
theorem t_iMsgSame : ∀ k x, runF tt (alook N_iMsgSame) k Tryz.f60 S_iMsgSame.ps S_iMsgSame.res (alook L_iMsgSame) x = S_iMsgSame.F k x := by intro k x; kernel_rfl
def L_sl31Right : List (Nat × LSpec (denRs (S_sl31Right.res ++ outM S_sl31Right.ps))) := []
def N_sl31Right : List (Nat × Sig) := [(67, S_sMsgOk), (155, S_sl17Draw), (230, S_sOfVote), (231, S_sl11Draw)]
theorem t_sl31Right : ∀ k x, runF tt (alook N_sl31Right) k Tryz.f116 S_sl31Right.ps S_sl31Right.res (alook L_sl31Right) x = S_sl31Right.F k x := by intro k x; kernel_rfl
def L_sl10Draw : List (Nat × LSpec (denRs (S_sl10Draw.res ++ outM S_sl10Draw.ps))) := []
def N_sl10Draw : List (Nat × Sig) := [(90, S_sl01Below), (229, S_sl01Pick)]
theorem t_sl10Draw : ∀ k x, runF tt (alook N_sl10Draw) k Tryz.f115 S_sl10Draw.ps S_sl10Draw.res (alook L_sl10Draw) x = S_sl10Draw.F k x := by intro k x; kernel_rfl
def L_iPathOk : List (Nat × LSpec (denRs (S_iPathOk.res ++ outM S_iPathOk.ps))) := []
def N_iPathOk : List (Nat × Sig) := [(65, S_iSameBytes), (223, S_iPathRoot), (224, S_iLeafHash)]
theorem t_iPathOk : ∀ k x, runF tt (alook N_iPathOk) k Tryz.f106 S_iPathOk.ps S_iPathOk.res (alook L_iPathOk) x = S_iPathOk.F k x := by intro k x; kernel_rfl
def L_iKnown_0 : LSpec (denRs (S_iKnown.res ++ outM S_iKnown.ps)) := .mkR [(1, .sh i64), (2, .pbox (.sh tLight)), (4, .pbox (.pair (.sh i64) (.pair (.sh i64) (.pair (.sh i64) (.pair (.own u8 false) (.pair (.own u8 false) (.pair (.pair (.sh i64) (.pair (.sh i64) (.pair (.own u8 false) (.pair (.own u8 false) (.pair (.own bs false) .unit))))) .unit))))))), (9, .sh (.slice tHead)), (10, .sh i64), (11, .sh i64)] [(4, .pbox (.pair (.sh i64) (.pair (.sh i64) (.pair (.sh i64) (.pair (.own u8 false) (.pair (.own u8 false) (.pair (.pair (.sh i64) (.pair (.sh i64) (.pair (.own u8 false) (.pair (.own u8 false) (.pair (.own bs false) .unit))))) .unit)))))))] [] fun k x => iKnown_l0 k x.1 x.2.1 x.2.2.1 x.2.2.2.1 x.2.2.2.2.1 x.2.2.2.2.2
def L_iKnown : List (Nat × LSpec (denRs (S_iKnown.res ++ outM S_iKnown.ps))) := [(0, L_iKnown_0)]
def N_iKnown : List (Nat × Sig) := [(100, S_iLightOk), (112, S_iHead_copied)]
theorem r_iKnown_0 : ∀ k, runL tt (alook N_iKnown) k Tryz.f105 S_iKnown.ps S_iKnown.res (alook L_iKnown) 0 L_iKnown_0 := by intro k x; kernel_rfl
theorem t_iKnown : ∀ k x, runF tt (alook N_iKnown) k Tryz.f105 S_iKnown.ps S_iKnown.res (alook L_iKnown) x = S_iKnown.F k x := by intro k x; kernel_rfl
def L_sNextHead : List (Nat × LSpec (denRs (S_sNextHead.res ++ outM S_sNextHead.ps))) := []
def N_sNextHead : List (Nat × Sig) := [(199, S_sl01Copy), (204, S_sHeadHash), (205, S_sBuildQc), (206, S_sLinks)]
theorem t_sNextHead : ∀ k x, runF tt (alook N_sNextHead) k Tryz.f92 S_sNextHead.ps S_sNextHead.res (alook L_sNextHead) x = S_sNextHead.F k x := by intro k x; kernel_rfl
def L_sl23Pair : List (Nat × LSpec (denRs (S_sl23Pair.res ++ outM S_sl23Pair.ps))) := []
def N_sl23Pair : List (Nat × Sig) := [(90, S_sl01Below), (115, S_sl10Draw), (198, S_sl21Draw)]
theorem t_sl23Pair : ∀ k x, runF tt (alook N_sl23Pair) k Tryz.f88 S_sl23Pair.ps S_sl23Pair.res (alook L_sl23Pair) x = S_sl23Pair.F k x := by intro k x; kernel_rfl
def L_weqMsgS_0 : LSpec (denRs (S_weqMsgS.res ++ outM S_weqMsgS.ps)) := .mkR [(0, .sh (.slice tMsg)), (1, .sh (.slice tMsg)), (5, .sh i64)] [] [] fun k x => weqMsgS_l0 k x.1 x.2.1 x.2.2
def L_weqMsgS : List (Nat × LSpec (denRs (S_weqMsgS.res ++ outM S_weqMsgS.ps))) := [(0, L_weqMsgS_0)]
def N_weqMsgS : List (Nat × Sig) := [(70, S_weqMsg)]
theorem r_weqMsgS_0 : ∀ k, runL tt (alook N_weqMsgS) k Tryz.f85 S_weqMsgS.ps S_weqMsgS.res (alook L_weqMsgS) 0 L_weqMsgS_0 := by intro k x; kernel_rfl
theorem t_weqMsgS : ∀ k x, runF tt (alook N_weqMsgS) k Tryz.f85 S_weqMsgS.ps S_weqMsgS.res (alook L_weqMsgS) x = S_weqMsgS.F k x := by intro k x; kernel_rfl
def L_wszMsg : List (Nat × LSpec (denRs (S_wszMsg.res ++ outM S_wszMsg.ps))) := []
def N_wszMsg : List (Nat × Sig) := [(159, S_wszVote), (160, S_wszQc), (161, S_wszHead), (162, S_wszBlock), (163, S_wszTc), (164, S_wszProof), (165, S_wszIncl)]
theorem t_wszMsg : ∀ k x, runF tt (alook N_wszMsg) k Tryz.f66 S_wszMsg.ps S_wszMsg.res (alook L_wszMsg) x = S_wszMsg.F k x := by intro k x; kernel_rfl
def L_wheldByteS_0 : LSpec (denRs (S_wheldByteS.res ++ outM S_wheldByteS.ps)) := .mkR [(0, .sh bs), (1, .sh i64), (5, .sh i64)] [(1, .sh i64)] [] fun k x => wheldByteS_l0 k x.1 x.2.1 x.2.2
def L_wheldByteS : List (Nat × LSpec (denRs (S_wheldByteS.res ++ outM S_wheldByteS.ps))) := [(0, L_wheldByteS_0)]
def N_wheldByteS : List (Nat × Sig) := []
theorem r_wheldByteS_0 : ∀ k, runL tt (alook N_wheldByteS) k Tryz.f79 S_wheldByteS.ps S_wheldByteS.res (alook L_wheldByteS) 0 L_wheldByteS_0 := by intro k x; kernel_rfl
theorem t_wheldByteS : ∀ k x, runF tt (alook N_wheldByteS) k Tryz.f79 S_wheldByteS.ps S_wheldByteS.res (alook L_wheldByteS) x = S_wheldByteS.F k x := by intro k x; kernel_rfl
def L_sMakeBytes : List (Nat × LSpec (denRs (S_sMakeBytes.res ++ outM S_sMakeBytes.ps))) := []
def N_sMakeBytes : List (Nat × Sig) := [(87, S_sl01New), (184, S_sl01Bytes)]
theorem t_sMakeBytes : ∀ k x, runF tt (alook N_sMakeBytes) k Tryz.f72 S_sMakeBytes.ps S_sMakeBytes.res (alook L_sMakeBytes) x = S_sMakeBytes.F k x := by intro k x; kernel_rfl
def L_wtoLimits : List (Nat × LSpec (denRs (S_wtoLimits.res ++ outM S_wtoLimits.ps))) := []
def N_wtoLimits : List (Nat × Sig) := []
theorem t_wtoLimits : ∀ k x, runF tt (alook N_wtoLimits) k Tryz.f68 S_wtoLimits.ps S_wtoLimits.res (alook L_wtoLimits) x = S_wtoLimits.F k x := by intro k x; kernel_rfl
def L_iClose : List (Nat × LSpec (denRs (S_iClose.res ++ outM S_iClose.ps))) := []
def N_iClose : List (Nat × Sig) := [(54, S_iPushOk), (152, S_iscan)]
theorem t_iClose : ∀ k x, runF tt (alook N_iClose) k Tryz.f57 S_iClose.ps S_iClose.res (alook L_iClose) x = S_iClose.F k x := by intro k x; kernel_rfl
def L_sMakePieces : List (Nat × LSpec (denRs (S_sMakePieces.res ++ outM S_sMakePieces.ps))) := []
def N_sMakePieces : List (Nat × Sig) := [(87, S_sl01New), (147, S_sl20Pieces)]
theorem t_sMakePieces : ∀ k x, runF tt (alook N_sMakePieces) k Tryz.f53 S_sMakePieces.ps S_sMakePieces.res (alook L_sMakePieces) x = S_sMakePieces.F k x := by intro k x; kernel_rfl
def L_iMsgSize : List (Nat × LSpec (denRs (S_iMsgSize.res ++ outM S_iMsgSize.ps))) := []
def N_iMsgSize : List (Nat × Sig) := [(58, S_iEncode)]
theorem t_iMsgSize : ∀ k x, runF tt (alook N_iMsgSize) k Tryz.f50 S_iMsgSize.ps S_iMsgSize.res (alook L_iMsgSize) x = S_iMsgSize.F k x := by intro k x; kernel_rfl
def L_sMakeMsg : List (Nat × LSpec (denRs (S_sMakeMsg.res ++ outM S_sMakeMsg.ps))) := []
def N_sMakeMsg : List (Nat × Sig) := [(87, S_sl01New), (116, S_sl31Right)]
theorem t_sMakeMsg : ∀ k x, runF tt (alook N_sMakeMsg) k Tryz.f27 S_sMakeMsg.ps S_sMakeMsg.res (alook L_sMakeMsg) x = S_sMakeMsg.F k x := by intro k x; kernel_rfl
def L_iNextHead : List (Nat × LSpec (denRs (S_iNextHead.res ++ outM S_iNextHead.ps))) := []
def N_iNextHead : List (Nat × Sig) := [(37, S_iHeadHash), (96, S_iBuildQc), (108, S_icopyBytes), (111, S_iLinks), (112, S_iHead_copied)]
theorem t_iNextHead : ∀ k x, runF tt (alook N_iNextHead) k Tryz.f23 S_iNextHead.ps S_iNextHead.res (alook L_iNextHead) x = S_iNextHead.F k x := by intro k x; kernel_rfl
def L_sMakeFull : List (Nat × LSpec (denRs (S_sMakeFull.res ++ outM S_sMakeFull.ps))) := []
def N_sMakeFull : List (Nat × Sig) := [(93, S_sl30Full)]
theorem t_sMakeFull : ∀ k x, runF tt (alook N_sMakeFull) k Tryz.f16 S_sMakeFull.ps S_sMakeFull.res (alook L_sMakeFull) x = S_sMakeFull.F k x := by intro k x; kernel_rfl
def L_wFnFrames_0 : LSpec (denRs (S_wFnFrames.res ++ outM S_wFnFrames.ps)) := .mkR [(3, .pbox (.sh tLimits)), (4, .own tMsg true), (5, .sh bs), (7, .sh (.slice tEvent)), (8, .own tMsg true), (46, .sh i64), (47, .sh i64)] [(3, .pbox (.sh tLimits)), (5, .sh bs), (7, .sh (.slice tEvent))] [] fun k x => wFnFrames_l0 k x.1 x.2.1 x.2.2.1 x.2.2.2.1 x.2.2.2.2.1 x.2.2.2.2.2.1 x.2.2.2.2.2.2
def L_wFnFrames : List (Nat × LSpec (denRs (S_wFnFrames.res ++ outM S_wFnFrames.ps))) := [(0, L_wFnFrames_0)]
def N_wFnFrames : List (Nat × Sig) := [(26, S_sMakeLimits), (55, S_iEventsSame), (56, S_iParse), (60, S_iMsgSame), (73, S_sMakeMsgs), (74, S_iFrames), (80, S_iMsgs)]
theorem r_wFnFrames_0 : ∀ k, runL tt (alook N_wFnFrames) k Tryz.f12 S_wFnFrames.ps S_wFnFrames.res (alook L_wFnFrames) 0 L_wFnFrames_0 := by intro k x; kernel_rfl
theorem t_wFnFrames : ∀ k x, runF tt (alook N_wFnFrames) k Tryz.f12 S_wFnFrames.ps S_wFnFrames.res (alook L_wFnFrames) x = S_wFnFrames.F k x := by intro k x; kernel_rfl
def L_wFnParts : List (Nat × LSpec (denRs (S_wFnParts.res ++ outM S_wFnParts.ps))) := []
def N_wFnParts : List (Nat × Sig) := [(24, S_iHeadSame), (26, S_sMakeLimits), (27, S_sMakeMsg), (28, S_sMakeNum), (29, S_iPutVote), (30, S_iGetVote), (31, S_iVoteSame), (32, S_iPutQc), (33, S_iGetQc), (34, S_iQcSame), (35, S_iPutHead), (36, S_iGetHead), (37, S_iHeadHash), (38, S_iPutBlock), (39, S_iGetBlock), (40, S_iBlockSame), (41, S_iPutTc), (42, S_iGetTc), (43, S_iTcSame), (44, S_iPutProof), (45, S_iGetProof), (46, S_iProofSame), (47, S_iPutIncl), (48, S_iGetIncl), (49, S_iInclSame), (50, S_iMsgSize)]
theorem t_wFnParts : ∀ k x, runF tt (alook N_wFnParts) k Tryz.f4 S_wFnParts.ps S_wFnParts.res (alook L_wFnParts) x = S_wFnParts.F k x := by intro k x; kernel_rfl
end Go.Ev.G
