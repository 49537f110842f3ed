/- The functions run in the evaluator as their plain functions say. No condition. -/
import Derived.Test.YthmoekhkjgikpaaGreatS
set_option linter.unusedVariables false
set_option linter.unusedSimpArgs false
set_option linter.unusedSectionVars false
/- Proofs: printed by gen.py. -/
namespace Go.Ev.G
open Go.Ev Go.Proofs
set_option linter.unusedVariables false
def L_iShaInit : List (Nat × LSpec (denRs (S_iShaInit.res ++ outM S_iShaInit.ps))) := []
def N_iShaInit : List (Nat × Sig) := []
theorem t_iShaInit : ∀ k x, runF tt (alook N_iShaInit) k Tryz.f112 S_iShaInit.ps S_iShaInit.res (alook L_iShaInit) x = S_iShaInit.F k x := by intro k x; kernel_rfl
def L_iSha_0 : LSpec (denRs (S_iSha.res ++ outM S_iSha.ps)) := .mk [(3, .own i64 false), (4, .own u8 true), (5, .sh i64)] [(3, .own i64 false)] [] fun k x => iSha_l0 k x.1 x.2.1 x.2.2
def L_iSha_2 : LSpec (denRs (S_iSha.res ++ outM S_iSha.ps)) := .mk [(6, .own u8 true), (26, .own i64 false), (27, .sh i64), (28, .sh i64)] [(6, .own u8 true)] [] fun k x => iSha_l2 k x.1 x.2.1 x.2.2.1 x.2.2.2
def L_iSha : List (Nat × LSpec (denRs (S_iSha.res ++ outM S_iSha.ps))) := [(0, L_iSha_0), (2, L_iSha_2)]
def N_iSha : List (Nat × Sig) := [(112, S_iShaInit), (113, S_iShaPad), (114, S_iShaBlock)]
theorem r_iSha_0 : ∀ k, runL tt (alook N_iSha) k Tryz.f66 S_iSha.ps S_iSha.res (alook L_iSha) 0 L_iSha_0 := by intro k x; kernel_rfl
theorem r_iSha_2 : ∀ k, runL tt (alook N_iSha) k Tryz.f66 S_iSha.ps S_iSha.res (alook L_iSha) 2 L_iSha_2 := by intro k x; kernel_rfl
theorem t_iSha : ∀ k x, runF tt (alook N_iSha) k Tryz.f66 S_iSha.ps S_iSha.res (alook L_iSha) x = S_iSha.F k x := by intro k x; kernel_rfl
def L_sl01Copy : List (Nat × LSpec (denRs (S_sl01Copy.res ++ outM S_sl01Copy.ps))) := []
def N_sl01Copy : List (Nat × Sig) := []
theorem t_sl01Copy : ∀ k x, runF tt (alook N_sl01Copy) k Tryz.f49 S_sl01Copy.ps S_sl01Copy.res (alook L_sl01Copy) x = S_sl01Copy.F k x := by intro k x; kernel_rfl
def L_sl01In : List (Nat × LSpec (denRs (S_sl01In.res ++ outM S_sl01In.ps))) := []
def N_sl01In : List (Nat × Sig) := []
theorem t_sl01In : ∀ k x, runF tt (alook N_sl01In) k Tryz.f96 S_sl01In.ps S_sl01In.res (alook L_sl01In) x = S_sl01In.F k x := by intro k x; kernel_rfl
def L_sl04K : List (Nat × LSpec (denRs (S_sl04K.res ++ outM S_sl04K.ps))) := []
def N_sl04K : List (Nat × Sig) := []
theorem t_sl04K : ∀ k x, runF tt (alook N_sl04K) k Tryz.f177 S_sl04K.ps S_sl04K.res (alook L_sl04K) x = S_sl04K.F k x := by intro k x; kernel_rfl
def L_sl01Num : List (Nat × LSpec (denRs (S_sl01Num.res ++ outM S_sl01Num.ps))) := []
def N_sl01Num : List (Nat × Sig) := [(96, S_sl01In)]
theorem t_sl01Num : ∀ k x, runF tt (alook N_sl01Num) k Tryz.f95 S_sl01Num.ps S_sl01Num.res (alook L_sl01Num) x = S_sl01Num.F k x := by intro k x; kernel_rfl
def L_iLeaveBytes : List (Nat × LSpec (denRs (S_iLeaveBytes.res ++ outM S_iLeaveBytes.ps))) := []
def N_iLeaveBytes : List (Nat × Sig) := [(152, S_inumbers)]
theorem t_iLeaveBytes : ∀ k x, runF tt (alook N_iLeaveBytes) k Tryz.f171 S_iLeaveBytes.ps S_iLeaveBytes.res (alook L_iLeaveBytes) x = S_iLeaveBytes.F k x := by intro k x; kernel_rfl
def L_icopyList_0 : LSpec (denRs (S_icopyList.res ++ outM S_icopyList.ps)) := .mk [(3, .own bs true), (7, .sh (.slice bs)), (8, .sh i64), (9, .sh i64)] [(3, .own bs true)] [] fun k x => icopyList_l0 k x.1 x.2.1 x.2.2.1 x.2.2.2
def L_icopyList : List (Nat × LSpec (denRs (S_icopyList.res ++ outM S_icopyList.ps))) := [(0, L_icopyList_0)]
def N_icopyList : List (Nat × Sig) := [(38, S_icopyBytes)]
theorem r_icopyList_0 : ∀ k, runL tt (alook N_icopyList) k Tryz.f141 S_icopyList.ps S_icopyList.res (alook L_icopyList) 0 L_icopyList_0 := by intro k x; kernel_rfl
theorem t_icopyList : ∀ k x, runF tt (alook N_icopyList) k Tryz.f141 S_icopyList.ps S_icopyList.res (alook L_icopyList) x = S_icopyList.F k x := by intro k x; kernel_rfl
def L_iHead_copied : List (Nat × LSpec (denRs (S_iHead_copied.res ++ outM S_iHead_copied.ps))) := []
def N_iHead_copied : List (Nat × Sig) := [(38, S_icopyBytes), (85, S_iQc_copied)]
theorem t_iHead_copied : ∀ k x, runF tt (alook N_iHead_copied) k Tryz.f42 S_iHead_copied.ps S_iHead_copied.res (alook L_iHead_copied) x = S_iHead_copied.F k x := by intro k x; kernel_rfl
def L_iareHashes_0 : LSpec (denRs (S_iareHashes.res ++ outM S_iareHashes.ps)) := .mkR [(5, .sh (.slice bs)), (6, .sh i64), (7, .sh i64)] [] [] fun k x => iareHashes_l0 k x.1 x.2.1 x.2.2
def L_iareHashes : List (Nat × LSpec (denRs (S_iareHashes.res ++ outM S_iareHashes.ps))) := [(0, L_iareHashes_0)]
def N_iareHashes : List (Nat × Sig) := []
theorem r_iareHashes_0 : ∀ k, runL tt (alook N_iareHashes) k Tryz.f88 S_iareHashes.ps S_iareHashes.res (alook L_iareHashes) 0 L_iareHashes_0 := by intro k x; kernel_rfl
theorem t_iareHashes : ∀ k x, runF tt (alook N_iareHashes) k Tryz.f88 S_iareHashes.ps S_iareHashes.res (alook L_iareHashes) x = S_iareHashes.F k x := by intro k x; kernel_rfl
def L_iBitsHas : List (Nat × LSpec (denRs (S_iBitsHas.res ++ outM S_iBitsHas.ps))) := []
def N_iBitsHas : List (Nat × Sig) := [(67, S_iwithin)]
theorem t_iBitsHas : ∀ k x, runF tt (alook N_iBitsHas) k Tryz.f107 S_iBitsHas.ps S_iBitsHas.res (alook L_iBitsHas) x = S_iBitsHas.F k x := by intro k x; kernel_rfl
def L_iBitsCount_0 : LSpec (denRs (S_iBitsCount.res ++ outM S_iBitsCount.ps)) := .mk [(3, .sh i64), (6, .sh bs), (7, .sh i64), (8, .sh i64)] [(3, .sh i64)] [] fun k x => iBitsCount_l0 k x.1 x.2.1 x.2.2.1 x.2.2.2
def L_iBitsCount : List (Nat × LSpec (denRs (S_iBitsCount.res ++ outM S_iBitsCount.ps))) := [(0, L_iBitsCount_0)]
def N_iBitsCount : List (Nat × Sig) := [(155, S_math_bits_OnesCount8)]
theorem r_iBitsCount_0 : ∀ k, runL tt (alook N_iBitsCount) k Tryz.f110 S_iBitsCount.ps S_iBitsCount.res (alook L_iBitsCount) 0 L_iBitsCount_0 := by intro k x; kernel_rfl
theorem t_iBitsCount : ∀ k x, runF tt (alook N_iBitsCount) k Tryz.f110 S_iBitsCount.ps S_iBitsCount.res (alook L_iBitsCount) x = S_iBitsCount.F k x := by intro k x; kernel_rfl
def L_iHead_matches : List (Nat × LSpec (denRs (S_iHead_matches.res ++ outM S_iHead_matches.ps))) := []
def N_iHead_matches : List (Nat × Sig) := [(43, S_iSameBytes)]
theorem t_iHead_matches : ∀ k x, runF tt (alook N_iHead_matches) k Tryz.f89 S_iHead_matches.ps S_iHead_matches.res (alook L_iHead_matches) x = S_iHead_matches.F k x := by intro k x; kernel_rfl
def L_iVoteOk : List (Nat × LSpec (denRs (S_iVoteOk.res ++ outM S_iVoteOk.ps))) := []
def N_iVoteOk : List (Nat × Sig) := [(59, S_iLimitsOk), (67, S_iwithin), (87, S_iisNum), (88, S_iareHashes)]
theorem t_iVoteOk : ∀ k x, runF tt (alook N_iVoteOk) k Tryz.f164 S_iVoteOk.ps S_iVoteOk.res (alook L_iVoteOk) x = S_iVoteOk.F k x := by intro k x; kernel_rfl
def L_imasked_0 : LSpec (denRs (S_imasked.res ++ outM S_imasked.ps)) := .mk [(1, .sh u8), (5, .own u8 true), (9, .sh bs), (10, .sh i64), (11, .sh i64)] [(5, .own u8 true)] [] fun k x => imasked_l0 k x.1 x.2.1 x.2.2.1 x.2.2.2.1 x.2.2.2.2
def L_imasked : List (Nat × LSpec (denRs (S_imasked.res ++ outM S_imasked.ps))) := [(0, L_imasked_0)]
def N_imasked : List (Nat × Sig) := []
theorem r_imasked_0 : ∀ k, runL tt (alook N_imasked) k Tryz.f154 S_imasked.ps S_imasked.res (alook L_imasked) 0 L_imasked_0 := by intro k x; kernel_rfl
theorem t_imasked : ∀ k x, runF tt (alook N_imasked) k Tryz.f154 S_imasked.ps S_imasked.res (alook L_imasked) x = S_imasked.F k x := by intro k x; kernel_rfl
def L_sBitsHas : List (Nat × LSpec (denRs (S_sBitsHas.res ++ outM S_sBitsHas.ps))) := []
def N_sBitsHas : List (Nat × Sig) := []
theorem t_sBitsHas : ∀ k x, runF tt (alook N_sBitsHas) k Tryz.f149 S_sBitsHas.ps S_sBitsHas.res (alook L_sBitsHas) x = S_sBitsHas.F k x := by intro k x; kernel_rfl
def L_sBitsCount : List (Nat × LSpec (denRs (S_sBitsCount.res ++ outM S_sBitsCount.ps))) := []
def N_sBitsCount : List (Nat × Sig) := [(103, S_sBitsList)]
theorem t_sBitsCount : ∀ k x, runF tt (alook N_sBitsCount) k Tryz.f142 S_sBitsCount.ps S_sBitsCount.res (alook L_sBitsCount) x = S_sBitsCount.F k x := by intro k x; kernel_rfl
def L_sPutQc_0 : LSpec (denRs (S_sPutQc.res ++ outM S_sPutQc.ps)) := .mk [(8, .own u8 false), (30, .sh (.slice bs)), (31, .sh i64), (32, .sh i64)] [(8, .own u8 false)] [] fun k x => sPutQc_l0 k x.1 x.2.1 x.2.2.1 x.2.2.2
def L_sPutQc : List (Nat × LSpec (denRs (S_sPutQc.res ++ outM S_sPutQc.ps))) := [(0, L_sPutQc_0)]
def N_sPutQc : List (Nat × Sig) := [(98, S_sQcOk), (144, S_sl11Num)]
theorem r_sPutQc_0 : ∀ k, runL tt (alook N_sPutQc) k Tryz.f145 S_sPutQc.ps S_sPutQc.res (alook L_sPutQc) 0 L_sPutQc_0 := by intro k x; kernel_rfl
theorem t_sPutQc : ∀ k x, runF tt (alook N_sPutQc) k Tryz.f145 S_sPutQc.ps S_sPutQc.res (alook L_sPutQc) x = S_sPutQc.F k x := by intro k x; kernel_rfl
def L_iBitsNew : List (Nat × LSpec (denRs (S_iBitsNew.res ++ outM S_iBitsNew.ps))) := []
def N_iBitsNew : List (Nat × Sig) := [(67, S_iwithin), (86, S_iBitsSize)]
theorem t_iBitsNew : ∀ k x, runF tt (alook N_iBitsNew) k Tryz.f39 S_iBitsNew.ps S_iBitsNew.res (alook L_iBitsNew) x = S_iBitsNew.F k x := by intro k x; kernel_rfl
def L_iMac : List (Nat × LSpec (denRs (S_iMac.res ++ outM S_iMac.ps))) := []
def N_iMac : List (Nat × Sig) := [(66, S_iSha), (153, S_iMacKey), (154, S_imasked)]
theorem t_iMac : ∀ k x, runF tt (alook N_iMac) k Tryz.f109 S_iMac.ps S_iMac.res (alook L_iMac) x = S_iMac.F k x := by intro k x; kernel_rfl
def L_iWeightOf_0 : LSpec (denRs (S_iWeightOf.res ++ outM S_iWeightOf.ps)) := .mk [(2, .pbox (.sh tTable)), (5, .sh i64), (20, .own i64 true), (21, .sh i64), (22, .sh i64)] [(5, .sh i64)] [] fun k x => iWeightOf_l0 k x.1 x.2.1 x.2.2.1 x.2.2.2.1 x.2.2.2.2
def L_iWeightOf : List (Nat × LSpec (denRs (S_iWeightOf.res ++ outM S_iWeightOf.ps))) := [(0, L_iWeightOf_0)]
def N_iWeightOf : List (Nat × Sig) := [(60, S_iTableOk), (61, S_iBitsOk), (62, S_iBitsList)]
theorem r_iWeightOf_0 : ∀ k, runL tt (alook N_iWeightOf) k Tryz.f133 S_iWeightOf.ps S_iWeightOf.res (alook L_iWeightOf) 0 L_iWeightOf_0 := by intro k x; kernel_rfl
theorem t_iWeightOf : ∀ k x, runF tt (alook N_iWeightOf) k Tryz.f133 S_iWeightOf.ps S_iWeightOf.res (alook L_iWeightOf) x = S_iWeightOf.F k x := by intro k x; kernel_rfl
def L_iHeadSame : List (Nat × LSpec (denRs (S_iHeadSame.res ++ outM S_iHeadSame.ps))) := []
def N_iHeadSame : List (Nat × Sig) := [(43, S_iSameBytes), (44, S_iQcSame)]
theorem t_iHeadSame : ∀ k x, runF tt (alook N_iHeadSame) k Tryz.f13 S_iHeadSame.ps S_iHeadSame.res (alook L_iHeadSame) x = S_iHeadSame.F k x := by intro k x; kernel_rfl
def L_iPutIncl_0 : LSpec (denRs (S_iPutIncl.res ++ outM S_iPutIncl.ps)) := .mk [(8, .pbox (.pair (.own u8 false) .unit)), (42, .sh (.slice bs)), (43, .sh i64), (44, .sh i64)] [(8, .pbox (.pair (.own u8 false) .unit))] [] fun k x => iPutIncl_l0 k x.1 x.2.1 x.2.2.1 x.2.2.2
def L_iPutIncl : List (Nat × LSpec (denRs (S_iPutIncl.res ++ outM S_iPutIncl.ps))) := [(0, L_iPutIncl_0)]
def N_iPutIncl : List (Nat × Sig) := [(38, S_icopyBytes), (156, S_iwriter_num), (157, S_iwriter_raw), (166, S_iPutText), (167, S_iInclOk)]
theorem r_iPutIncl_0 : ∀ k, runL tt (alook N_iPutIncl) k Tryz.f121 S_iPutIncl.ps S_iPutIncl.res (alook L_iPutIncl) 0 L_iPutIncl_0 := by intro k x; kernel_rfl
theorem t_iPutIncl : ∀ k x, runF tt (alook N_iPutIncl) k Tryz.f121 S_iPutIncl.ps S_iPutIncl.res (alook L_iPutIncl) x = S_iPutIncl.F k x := by intro k x; kernel_rfl
def L_iPutVote : List (Nat × LSpec (denRs (S_iPutVote.res ++ outM S_iPutVote.ps))) := []
def N_iPutVote : List (Nat × Sig) := [(38, S_icopyBytes), (156, S_iwriter_num), (157, S_iwriter_raw), (164, S_iVoteOk)]
theorem t_iPutVote : ∀ k x, runF tt (alook N_iPutVote) k Tryz.f116 S_iPutVote.ps S_iPutVote.res (alook L_iPutVote) x = S_iPutVote.F k x := by intro k x; kernel_rfl
def L_sSignVote : List (Nat × LSpec (denRs (S_sSignVote.res ++ outM S_sSignVote.ps))) := []
def N_sSignVote : List (Nat × Sig) := [(49, S_sl01Copy), (94, S_sTableOk), (96, S_sl01In), (150, S_sVoteBytes), (151, S_sMac)]
theorem t_sSignVote : ∀ k x, runF tt (alook N_sSignVote) k Tryz.f104 S_sSignVote.ps S_sSignVote.res (alook L_sSignVote) x = S_sSignVote.F k x := by intro k x; kernel_rfl
def L_sl01Below : List (Nat × LSpec (denRs (S_sl01Below.res ++ outM S_sl01Below.ps))) := []
def N_sl01Below : List (Nat × Sig) := [(53, S_sl01Byte)]
theorem t_sl01Below : ∀ k x, runF tt (alook N_sl01Below) k Tryz.f18 S_sl01Below.ps S_sl01Below.res (alook L_sl01Below) x = S_sl01Below.F k x := by intro k x; kernel_rfl
def L_iVoteGood : List (Nat × LSpec (denRs (S_iVoteGood.res ++ outM S_iVoteGood.ps))) := []
def N_iVoteGood : List (Nat × Sig) := [(63, S_iSignVote), (122, S_iVoteSame)]
theorem t_iVoteGood : ∀ k x, runF tt (alook N_iVoteGood) k Tryz.f76 S_iVoteGood.ps S_iVoteGood.res (alook L_iVoteGood) x = S_iVoteGood.F k x := by intro k x; kernel_rfl
def L_iTcBits_0 : LSpec (denRs (S_iTcBits.res ++ outM S_iTcBits.ps)) := .mk [(2, .pbox (.sh tLimits)), (6, .own i64 true), (15, .sh (.slice tEntry)), (16, .sh i64), (17, .sh i64)] [(2, .pbox (.sh tLimits)), (6, .own i64 true)] [] fun k x => iTcBits_l0 k x.1 x.2.1 x.2.2.1 x.2.2.2.1 x.2.2.2.2
def L_iTcBits : List (Nat × LSpec (denRs (S_iTcBits.res ++ outM S_iTcBits.ps))) := [(0, L_iTcBits_0)]
def N_iTcBits : List (Nat × Sig) := [(78, S_iTcOk), (137, S_iBitsOf)]
theorem r_iTcBits_0 : ∀ k, runL tt (alook N_iTcBits) k Tryz.f80 S_iTcBits.ps S_iTcBits.res (alook L_iTcBits) 0 L_iTcBits_0 := by intro k x; kernel_rfl
theorem t_iTcBits : ∀ k x, runF tt (alook N_iTcBits) k Tryz.f80 S_iTcBits.ps S_iTcBits.res (alook L_iTcBits) x = S_iTcBits.F k x := by intro k x; kernel_rfl
def L_iMsgSame : List (Nat × LSpec (denRs (S_iMsgSame.res ++ outM S_iMsgSame.ps))) := []
def N_iMsgSame : List (Nat × Sig) := [(13, S_iHeadSame), (44, S_iQcSame), (122, S_iVoteSame), (123, S_iBlockSame), (124, S_iTcSame), (125, S_iProofSame), (126, S_iInclSame)]
theorem t_iMsgSame : ∀ k x, runF tt (alook N_iMsgSame) k Tryz.f73 S_iMsgSame.ps S_iMsgSame.res (alook L_iMsgSame) x = S_iMsgSame.F k x := by intro k x; kernel_rfl
def L_sl21Draw_0 : LSpec (denRs (S_sl21Draw.res ++ outM S_sl21Draw.ps)) := .mk [(0, .pbox (.sh tl01Cur)), (1, .sh i64), (4, .pbox (.pair (.own tPush false) .unit)), (5, .pbox (.pair (.own tPush false) .unit)), (6, .sh i64)] [(0, .pbox (.sh tl01Cur)), (4, .pbox (.pair (.own tPush false) .unit)), (5, .pbox (.pair (.own tPush false) .unit))] [] fun k x => sl21Draw_l0 k x.1 x.2.1 x.2.2.1 x.2.2.2.1 x.2.2.2.2
def L_sl21Draw : List (Nat × LSpec (denRs (S_sl21Draw.res ++ outM S_sl21Draw.ps))) := [(0, L_sl21Draw_0)]
def N_sl21Draw : List (Nat × Sig) := [(18, S_sl01Below), (91, S_sl01Pick)]
theorem r_sl21Draw_0 : ∀ k, runL tt (alook N_sl21Draw) k Tryz.f48 S_sl21Draw.ps S_sl21Draw.res (alook L_sl21Draw) 0 L_sl21Draw_0 := by intro k x; kernel_rfl
theorem t_sl21Draw : ∀ k x, runF tt (alook N_sl21Draw) k Tryz.f48 S_sl21Draw.ps S_sl21Draw.res (alook L_sl21Draw) x = S_sl21Draw.F k x := by intro k x; kernel_rfl
def L_iLight_copied : List (Nat × LSpec (denRs (S_iLight_copied.res ++ outM S_iLight_copied.ps))) := []
def N_iLight_copied : List (Nat × Sig) := [(23, S_iTable_copied), (26, S_icopyHeads), (70, S_iPush_copied)]
theorem t_iLight_copied : ∀ k x, runF tt (alook N_iLight_copied) k Tryz.f28 S_iLight_copied.ps S_iLight_copied.res (alook L_iLight_copied) x = S_iLight_copied.F k x := by intro k x; kernel_rfl
def L_iTcCode_0 : LSpec (denRs (S_iTcCode.res ++ outM S_iTcCode.ps)) := .mkR [(3, .pbox (.sh tLimits)), (4, .pbox (.sh tTable)), (5, .pbox (.sh tTc)), (22, .sh (.slice tEntry)), (23, .sh i64), (24, .sh i64)] [(3, .pbox (.sh tLimits)), (4, .pbox (.sh tTable)), (5, .pbox (.sh tTc))] [] fun k x => iTcCode_l0 k x.1 x.2.1 x.2.2.1 x.2.2.2.1 x.2.2.2.2.1 x.2.2.2.2.2
def L_iTcCode : List (Nat × LSpec (denRs (S_iTcCode.res ++ outM S_iTcCode.ps))) := [(0, L_iTcCode_0)]
def N_iTcCode : List (Nat × Sig) := [(22, S_ibelongs), (77, S_iIsQuorum), (78, S_iTcOk), (79, S_iEntryGood), (80, S_iTcBits)]
theorem r_iTcCode_0 : ∀ k, runL tt (alook N_iTcCode) k Tryz.f33 S_iTcCode.ps S_iTcCode.res (alook L_iTcCode) 0 L_iTcCode_0 := by intro k x; kernel_rfl
theorem t_iTcCode : ∀ k x, runF tt (alook N_iTcCode) k Tryz.f33 S_iTcCode.ps S_iTcCode.res (alook L_iTcCode) x = S_iTcCode.F k x := by intro k x; kernel_rfl
def L_sl01New_0 : LSpec (denRs (S_sl01New.res ++ outM S_sl01New.ps)) := .mk [(0, .sh bs), (3, .sh i64), (4, .sh i64)] [(0, .sh bs), (3, .sh i64)] [] fun k x => sl01New_l0 k x.1 x.2.1 x.2.2
def L_sl01New : List (Nat × LSpec (denRs (S_sl01New.res ++ outM S_sl01New.ps))) := [(0, L_sl01New_0)]
def N_sl01New : List (Nat × Sig) := []
theorem r_sl01New_0 : ∀ k, runL tt (alook N_sl01New) k Tryz.f15 S_sl01New.ps S_sl01New.res (alook L_sl01New) 0 L_sl01New_0 := by intro k x; kernel_rfl
theorem t_sl01New : ∀ k x, runF tt (alook N_sl01New) k Tryz.f15 S_sl01New.ps S_sl01New.res (alook L_sl01New) x = S_sl01New.F k x := by intro k x; kernel_rfl
def L_iBuildProof : List (Nat × LSpec (denRs (S_iBuildProof.res ++ outM S_iBuildProof.ps))) := []
def N_iBuildProof : List (Nat × Sig) := [(24, S_iBuildQc), (25, S_iHeadHash), (26, S_icopyHeads), (27, S_iProofOk)]
theorem t_iBuildProof : ∀ k x, runF tt (alook N_iBuildProof) k Tryz.f7 S_iBuildProof.ps S_iBuildProof.res (alook L_iBuildProof) x = S_iBuildProof.F k x := by intro k x; kernel_rfl
end Go.Ev.G
